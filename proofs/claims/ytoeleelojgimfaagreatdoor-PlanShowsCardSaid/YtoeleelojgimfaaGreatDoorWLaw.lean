/- Partial plans, the law. -/
import Derived.Test.YtoeleelojgimfaaGreatDoorWMade
import Derived.Test.YtoeleelojgimfaaGreatDoorRows
import Derived.Deep.DeepHandedRow
set_option linter.all false
set_option maxRecDepth 100000
set_option maxHeartbeats 4000000
namespace Go.Proofs.YtoeleelojgimfaaGreatDoor
section
set_option linter.unusedSimpArgs false
open Go Go.Ai Go.Proofs
variable{c:ai}
theorem Hh(t:aL):0<=cq t/\cq t<=24:=by
 unfold cq;repeat' split
 all_goals omega
theorem RV(a b:List aL):aX (a++b)=aX a+aX b:=by simp[aX]
theorem EB{ts:List aL}{k:Nat}(hk:k<ts.length):aX (ts.take (k+1))=aX (ts.take k)+cq ts[k]/\aX (ts.take (k+1))<=aX ts:=by refine⟨by rw[Zd1 hk,RV];simp[aX],?_⟩;have h:=RV (ts.take (k+1)) (ts.drop (k+1));rw[Zk1]at h;have:=(k9 (ts.drop (k+1))).1;omega
theorem TS.aA{s0 s s':St}{V:AV}{ts:List aL}{rows:List (List AV)}(h:TS s0 s V ts rows)(g:Grew s s'):TS s0 s' V ts rows:=
 ⟨h.out.grow g,h.len,λi t r a b=>by obtain⟨v,e1,e2,e3⟩:=h.pZ i t r a b;exact⟨v,e1,e2.grow g,e3⟩⟩
theorem GS.aA{s0 s s':St}{V:AV}{ts:List aO}{rows:List (List AV)}(h:GS s0 s V ts rows)(g:Grew s s'):GS s0 s' V ts rows:=
 ⟨h.out.grow g,h.len,λi t r a b=>by obtain⟨v,e1,e2,e3⟩:=h.pZ i t r a b;exact⟨v,e1,e2.grow g,e3⟩⟩
theorem PS.lH{s0 s s':St}{Vs:List AV}{p:bZ}(h:PS s0 s Vs p)(g:Grew s s'):PS s0 s' Vs p:=by
 obtain⟨V1,V2,V3,V4,V5,r1,r2,rfl,h1,h2,h3,h4,h5⟩:=h.all;exact⟨h.aA.trans g,V1,V2,V3,V4,V5,r1,r2,rfl,h1.aA g,h2.aA g,h3.grow g,h4.grow g,h5.grow g⟩
def sZ(x:Int)(n:Nat):Nat:=(x % (n:Int)).toNat
theorem aav(x:Int){n:Nat}(h:0<n):sZ x n<n:=by have h1:=Zp8 x (show(n:Int)≠0 by omega);have h2:=Zo4 x (show(0:Int)<(n:Int)by omega);unfold sZ;omega
theorem acd(hc:bU c)(x:Int){n:Nat}(h:0<n)(hn:n<=1000000)(s:St):c 26 [.int .i64 x,.int .i64 (n:Int)] s=some (.int .i64 ((sZ x n:Nat):Int),s):=by
 have h1:=Zp8 x (show(n:Int)≠0 by omega);have h2:=Zo4 x (show(0:Int)<(n:Int)by omega);have e:((sZ x n:Nat):Int)=x % (n:Int):=by unfold sZ;omega
 have rm:=λ(K:AV->St->Option (AV×St))(s:St)=>Ul c K s .num .i64 x (n:Int) (by omega)
 have t:=Int.tmod_eq_emod (a:=x) (b:=(n:Int));rw[FV hc 1 (r:=(.int .i64 ((sZ x n:Nat):Int),s)),aK (Plain.int _ _) (bF.refl s)];rw[I0,e];by_cases hd:0<=x\/(n:Int) ∣ x
 .rw[Za8 hd]at t;have t:x.tmod (n:Int)=x % (n:Int):=(by rw[t];exact Int.sub_zero _);have d:decide (x % (n:Int)<0)=false:=Za2 (by omega);simp[-eE,rm,t,fA,d]
 .rw[Za5 hd]at t;have t:x.tmod (n:Int)=x % (n:Int) - (n:Int):=(by rw[t,Int.natAbs_natCast]);have d:decide (x % (n:Int) - (n:Int)<0)=true:=H5 (by omega);have w:ax .i64 (x % (n:Int))=x % (n:Int):=wrap64 (by omega) (by omega);simp[-eE,rm,t,fA,d,w]
abbrev jx(tk:List Bool):List AV:=tk.map AV.bool
theorem aaw{tb:Pos}{tk:List Bool}(hl:tk.length<=1000000){fr:Nat}(hf:fr<=1000000){s:St}(ht:s.heap.get tb=some (.cells (jx tk) 0))(F:Nat):∀(m k f:Nat),k+m=tk.length->m<f->∀k1 k2:Q2,
  ij c F k1 k2 f [.slice tb 0 tk.length (some tk.length) 1,.int .i64 (fr:Int),.int .i64 (k:Int)] s=
    match kY tk fr m k with
    |some i=>k1 [.int .i64 (i:Int)] (cv s tb (.cells (jx (tk.set i true)) 0))
    |none=>k2 [] s:=by
 intro m;induction m with
 |zero=>
  intro k f hk hf k1 k2;obtain⟨f,rfl⟩:∃g,f=g+1:=⟨f - 1,by omega⟩
  obtain rfl:k=tk.length:=by omega
  rw[lV];simp[Ak,kY]
 |succ m ih=>
  intro k f hk hf k1 k2;obtain⟨f,rfl⟩:∃g,f=g+1:=⟨f - 1,by omega⟩
  have fU:k<tk.length:=by omega
  have aU:decide ((k:Int)<(tk.length:Int))=true:=H5 (by omega);have w1:ax .i64 ((fr:Int)+(k:Int))=((fr+k:Nat):Int):=by rw[wrap64 (by omega) (by omega)];omega
  have wr:ax .i64 ((k:Int)+1)=((k+1:Nat):Int):=by rw[wrap64 (by omega) (by omega)];omega
  have hi:(fr+k) % tk.length<tk.length:=Zi6 _ (by omega);have rm:∀(K:AV->St->Option (AV×St))(s:St),ak c (.bin .rem .num) [.int .i64 ((fr+k:Nat):Int),.int .i64 (tk.length:Int)] s K=K (.int .i64 (((fr+k) % tk.length:Nat):Int)) s:=λK s=>by
    rw[bO (by omega) (by omega),Zm7]
  generalize hm:(fr+k) % tk.length=i at*
  have ix:=λ(K:AV->St->Option (AV×St))(s1:St)=>Aj c K s1 (b:=tb) (off:=0) (len:=tk.length) (es:=1) (es':=1) (cap:=some tk.length) (k:= .i64) (i:=i) hi
  simp only[Zc7,Zj6]at ix;have ec:(jx tk)[i]? =some (.bool tk[i]):=by rw[Zb7,H4 hi];rfl
  have eg:tk.getD i true=tk[i]:=by rw[Zc0,H4 hi];rfl
  unfold kY;rw[hm,eg];cases hb:tk[i]
  . (rw[hb]at ec;have pt:=λ(K:AV->St->Option (AV×St))=>Up (c:=c) K ht (o:=i) (by rw[Zb2];exact hi) (v:= .bool true) rfl rfl);rw[show(jx tk).set i (.bool true)=jx (tk.set i true)from(List.map_set).symm]at pt;rw[Za8 rfl,lV];simp only[aF,cX,aE,Ak,mg,aU,iO,pF,w1,rm,ix,iP,ht,aS,Zd5,ec,mC,zI,Zn9,pt]
  .rw[hb]at ec;rw[Za5 (by simp), <-ih (k+1) f (by omega) (by omega) k1 k2,lV];simp only[aF,cX,aE,Ak,mg,aU,iO,lF,pF,w1,rm,ix,iP,ht,aS,Zd5,ec,mC,zI,Bool.not_true,wr]
theorem XZ{a b:List Bool}(h:jx a=jx b):a=b:=by
 induction a generalizing b with
 |nil=>cases b with|nil=>rfl|cons y b=>simp at h
 |cons x a ih=>
  cases b with
  |nil=>simp at h
  |cons y b=>
   simp only[Zc6,Zg0,AV.bool.injEq]at h;rw[h.1,ih h.2]
theorem X0(hc:bU c){tb:Pos}{tk:List Bool}(hl:tk.length<=1000000){fr:Nat}(hf:fr<=1000000){s:St}(ht:s.heap.get tb=some (.cells (jx tk) 0)):
  c 27 [.slice tb 0 tk.length (some tk.length) 1,.int .i64 (fr:Int)] s=some (.int .i64 (kZ tk fr).2,cv s tb (.cells (jx (kZ tk fr).1) 0)):=by
 have lp:=λ(k1 k2:Q2)=>aaw (c:=c) hl hf ht (tk.length+1) tk.length 0 (tk.length+1) (by omega) (by omega) k1 k2
 simp only[show((0:Nat):Int)=0 from rfl]at lp;unfold kZ;cases Jc:kY tk fr tk.length 0 with
 |none=>
  simp only[Jc]at lp ⊢;rw[acP ht];rw[su hc (tk.length+1) (r:=(.int .i64 (-1),s)),aK (Plain.int _ _) (bF.refl s)];rw[uS];simp[lp]
 |some i=>
  simp only[Jc]at lp ⊢;have hb:=yh Jc;have ne:tk.set i true≠tk:=λe=>by have h2:(tk.set i true)[i]? =some true:=(by rw[List.getElem?_set_self (Za1.1 hb).1]);rw[e,hb]at h2;cases h2
  rw[su hc (tk.length+1) (r:=(.int .i64 (i:Int),cv s tb (.cells (jx (tk.set i true)) 0))),M9 ht (by rw[ej];intro e;simp only[H0,AB.cells.injEq,Zl6]at e;exact ne (XZ e))];rw[uS];simp[lp]
def Nl(p:bZ):Prop:=∀t∈p.ts,iU t.sh t.a t.b=cq t/\(0<=t.a/\t.a<=1000000)/\0<=t.b/\t.b<=1000000
section
variable{st sB s:St}{Vs:List AV}{p:bZ}
theorem PS.rT(h:PS st s Vs p):∃V1 V2 r1 r2,Vs[0]? =some V1/\Vs[1]? =some V2/\TS st s V1 p.ts r1/\GS st s V2 p.gs r2/\Vs.length=5:=by
 obtain⟨V1,V2,V3,V4,V5,r1,r2,rfl,h1,h2,_⟩:=h.all;exact⟨V1,V2,r1,r2,rfl,rfl,h1,h2,rfl⟩
theorem TS.OJ{V:AV}{ts:List aL}{rows:List (List AV)}(h:TS st s V ts rows){t:Nat}{T:aL}(ht:ts[t]? =some T):∃v b o,Rd s 7 V t b o (T.au v):=by
 have hl:t<rows.length:=by rw[h.len];exact(Za1.1 ht).1
 obtain⟨v,e,_⟩:=h.pZ t T rows[t] ht (H4 hl);obtain⟨b,o,h4⟩:=h.out.own.rd h.out.row (H4 hl);exact⟨v,b,o,by rw[<-e];exact h4⟩
theorem VH(hc:bU c)(hz:Nl p)(b7:p.ts.length<=100){pb:Pos}{V1:AV}{cs:List AV}{r1:List (List AV)}(hw:Wf s)(hp:s.heap.get pb=some (.cells cs 0))(h0:cs[0]? =some V1)(T:TS st s V1 p.ts r1)(F:Nat):∀(m k f:Nat),k+m=p.ts.length->m<f->∀k2:Q2,
  gC c F k2 f [.ptr pb 0,.int .i64 (aX (p.ts.take k)),.int .i64 (k:Int)] s=k2 [.int .i64 (aX p.ts)] s:=by
 have ln:=λ(K:AV->St->Option (AV×St))=>T.out.own.lenB (c:=c) K s
 rw[T.len]at ln;intro m;induction m with
 |zero=>
  intro k f hk hf k2;obtain⟨f,rfl⟩:∃g,f=g+1:=⟨f - 1,by omega⟩
  obtain rfl:k=p.ts.length:=by omega
  rw[p7,Zh6];simp[hp,h0,ln]
 |succ m ih=>
  intro k f hk hf k2;obtain⟨f,rfl⟩:∃g,f=g+1:=⟨f - 1,by omega⟩
  have fU:k<p.ts.length:=by omega
  have hi:=H4 fU;obtain⟨v,b,o,h1⟩:=T.OJ hi;have z:=hz _ (Zb9 fU);have sz:=Hh p.ts[k];have sn:=(Hh p.ts[k]).1;have et:aX (p.ts.take (k+1))=aX (p.ts.take k)+cq p.ts[k]:=(EB fU).1;generalize p.ts[k]=t at*
  have r1:=λ{R}=>@h1.st R
  have r2:=h1.all;have sl:=An hc (l:=t.au v) (sh:=t.sh) (a:=t.a) (b:=t.b) rfl rfl rfl z.2.1 z.2.2 s hw;rw[z.1]at sl;have n1:=k9 (p.ts.take k);rw[Zh5]at n1;have aU:decide ((k:Int)<(p.ts.length:Int))=true:=H5 (by omega);have w1:ax .i64 (aX (p.ts.take k)+cq t)=aX (p.ts.take k)+cq t:=wrap64 (by omega) (by omega);have wr:ax .i64 ((k:Int)+1)=((k+1:Nat):Int):=by rw[wrap64 (by omega) (by omega)];omega
  rw[<-ih (k+1) f (by omega) (by omega) k2,p7,et];simp only[aF,cX,aE,cU,Zc7,iP,hp,aS,Zd5,h0,mC,ln,mg,aU,iO,r1,sg,r2,qv,kI,sl,ic,pF,w1,wr]
theorem VI(hc:bU c)(h:PS st s Vs p)(hz:Nl p)(b7:p.ts.length<=100):c 25 [.agg Vs] s=some (.int .i64 (aX p.ts),s):=by
 have hw:=h.aA.wf;have gN:=Grew.af hw (.cells Vs 0);obtain⟨V1,V2,r1,r2,e1,_,T,_,_⟩:=(h.lH gN).rT;have lp:=λ(k2:Q2)=>VH (c:=c) hc hz b7 gN.wf (aC s (.cells Vs 0)) e1 T (p.ts.length+1) p.ts.length 0 (p.ts.length+1) (by omega) (by omega) k2
 simp only[Zo2,show aX ([]:List aL)=0 from rfl,show((0:Nat):Int)=0 from rfl]at lp;rw[Ao hc (p.ts.length+1) (r:=(.int .i64 (aX p.ts),af s (.cells Vs 0))),aK (Plain.int _ _) gN.keeps];rw[Cl];simp only[pH,show ∀l,AV.cells (.agg l)=l from λl=>rfl,aE,lp,aF,cX]
def xR(ch:Nat->Ch):Nat->Nat->List Ch
 |0,_=>[]
 |m+1,k=>ch k::xR ch m (k+1)
structure JD(sB s:St)(tb:Pos)(tk:List Bool)(v:AV)(R:List Int):Prop where
 Hi:Mk 1 sB s v (R.map cW)
 p9:s.heap.get tb=some (.cells (jx tk) 0)
 ge:sB.next.toNat<=tb.toNat
 ap:∀b,bg v=some b->tb.toNat+1<=b.toNat
theorem JD.set{tb:Pos}{tk nE:List Bool}{v:AV}{R:List Int}(h:JD sB s tb tk v R):JD sB (cv s tb (.cells (jx nE) 0)) tb nE v R:=by
 have aU:=h.Hi.aA.wf _ _ h.p9;have g:=Ap h.Hi.sk h.Hi.aA h.ge aU (.cells (jx nE) 0);exact⟨h.Hi.sY g λb x hb hx=>by rw[bt (λe=>by have:=h.ap b hb;rw[<-e]at this;omega)];exact hx,ej _ _ _,h.ge,h.ap⟩
theorem JD.push{tb:Pos}{tk:List Bool}{v:AV}{R:List Int}(h:JD sB s tb tk v R)(hR:R.length<=1000)(x:Int):∃s5 v',(∀(K:AV->St->Option (AV×St)),ak c (.buildSlice 1 1 [.int .i64 0] [0]) [.int .i64 x] s (λy t=>ak c (.append 1 8) [v,y] t K)=K v' s5)/\JD sB s5 tb tk v' (R++[x]):=by have aU:=h.Hi.aA.wf _ _ h.p9;obtain⟨s5,v5,a1,a2,a3,a4⟩:=h.Hi.push (R:=AV×St) (c:=c) (bytes:=8) (z:=[.int .i64 0]) (x:= .int .i64 x) rfl rfl rfl (by omega) (by rw[Zb2];omega) (by rw[Zb2];omega);refine⟨s5,v5,a1,⟨by rw[Zd7];exact a2,a3 tb _ (λe=>by have:=h.ap tb e;omega) h.p9,h.ge,λb hb=> ?_⟩⟩;have:=a4 b hb;omega
def FB(N:Nat)(xs:List Int)(g:Nat):Ch:=match xs[g]? with
 |some x=>if sZ x (N+1)=N then .no else .fr (sZ x (N+1))
 |none=>.no
theorem X4(hc:bU c){pb tb:Pos}{cs:List AV}{V2:AV}{r2:List (List AV)}(hp:sB.heap.get pb=some (.cells cs 0))(h1:cs[1]? =some V2)(T:GS st sB V2 p.gs r2){N:Nat}(hN:N<=100000)(ON:p.gs.length<=100)(z:Bool)(xs:List Int)(hx:xs.length<=9223372036854775807)(F:Nat):
  ∀ (m k f:Nat)(s:St)(tk:List Bool)(v:AV)(R:List Int),k+m=p.gs.length->m<f->JD sB s tb tk v R->tk.length=N->R.length=k->∃s' v' nE,JD sB s' tb nE v' (R++eX tk (xR (FB N xs) m k))/\
    ∀k2:Q2,di c F k2 f [ints z xs,.ptr pb 0,.int .i64 (N:Int),.slice tb 0 N (some N) 1,v,.int .i64 (k:Int)] s=k2 [v'] s':=by
 intro m;induction m with
 |zero=>
  intro k f s tk v R hk hf hS hl hR;obtain⟨f,rfl⟩:∃g,f=g+1:=⟨f - 1,by omega⟩
  obtain rfl:k=p.gs.length:=by omega
  have gY:=hS.Hi.aA.get hp;have T1:=T.aA hS.Hi.aA;have ln:=λ(K:AV->St->Option (AV×St))=>T1.out.own.lenB (c:=c) K s
  rw[T1.len]at ln;refine⟨s,v,tk,by simpa [xR,eX]using hS,λk2=> ?_⟩;rw[iV];simp[gY,h1,ln]
 |succ m ih=>
  intro k f s tk v R hk hf hS hl hR;obtain⟨f,rfl⟩:∃g,f=g+1:=⟨f - 1,by omega⟩
  have fU:k<p.gs.length:=by omega
  have gY:=hS.Hi.aA.get hp;have T1:=T.aA hS.Hi.aA;have ln:=λ(K:AV->St->Option (AV×St))=>T1.out.own.lenB (c:=c) K s
  rw[T1.len]at ln;have aU:decide ((k:Int)<(p.gs.length:Int))=true:=H5 (by omega);have wr:ax .i64 ((k:Int)+1)=((k+1:Nat):Int):=by rw[wrap64 (by omega) (by omega)];omega
  have wN:ax .i64 ((N:Int)+1)=((N+1:Nat):Int):=by rw[wrap64 (by omega) (by omega)];omega
  obtain⟨s5,v5,a1,a2⟩:=hS.push (c:=c) (by omega) (-1)
  have no:FB N xs k= .no->(∀k2:Q2,di c F k2 (f+1) [ints z xs,.ptr pb 0,.int .i64 (N:Int),.slice tb 0 N (some N) 1,v,.int .i64 (k:Int)] s=di c F k2 f [ints z xs,.ptr pb 0,.int .i64 (N:Int),.slice tb 0 N (some N) 1,v5,.int .i64 ((k+1:Nat):Int)] s5)->
        ∃s' v' nE,JD sB s' tb nE v' (R++eX tk (xR (FB N xs) (m+1) k))/\∀k2:Q2,di c F k2 (f+1) [ints z xs,.ptr pb 0,.int .i64 (N:Int),.slice tb 0 N (some N) 1,v,.int .i64 (k:Int)] s=k2 [v'] s':=λhch jg=>by
    obtain⟨s',v',nE,z1,z2⟩:=ih (k+1) f s5 tk v5 (R++[-1]) (by omega) (by omega) a2 hl (by simp[hR]);refine⟨s',v',nE,?_,λk2=>by rw[jg,z2]⟩;rw[xR,hch,eX];simpa using z1
  by_cases Aq:k<xs.length
  . have hlx:decide ((k:Int)<(xs.length:Int))=true:=H5 (by omega);have pk:=acd hc xs[k] (n:=N+1) (by omega) (by omega) s;have plt:=aav xs[k] (n:=N+1) (by omega);simp only[show((N+1:Nat):Int)=(N:Int)+1 by omega]at pk wN;have ech:FB N xs k=if sZ xs[k] (N+1)=N then .no else .fr (sZ xs[k] (N+1)):=by unfold FB;rw[H4 Aq]
    have at':=RW xs k Aq;by_cases hpn:sZ xs[k] (N+1)=N
    .   rw[Za8 hpn]at ech;(refine no ech λk2=> ?_);rw[hpn]at pk;rw[iV];unfold ints at*
        simp[-aT,fA,gY,h1,ln,aU,fU,Aq,at',wN,pk,a1,wr]
    .   rw[Za5 hpn]at ech;generalize sZ xs[k] (N+1)=fr at*
        have dn:decide ((fr:Int)=(N:Int))=false:=Za2 (by omega);have pl:=X0 hc (tk:=tk) (tb:=tb) (by omega) (fr:=fr) (by omega) hS.p9;rw[hl]at pl;obtain⟨s6,v6,b1,b2⟩:=(hS.set (nE:=(kZ tk fr).1)).push (c:=c) (by omega) (kZ tk fr).2;obtain⟨s',v',nE,z1,z2⟩:=ih (k+1) f s6 _ v6 _ (by omega) (by omega) b2 (by rw[XP];exact hl) (by simp[hR]);refine⟨s',v',nE,?_,λk2=> ?_⟩
        .rw[xR,ech,eX];simpa using z1
        . rw[<-z2 k2,iV];unfold ints at*
          simp[-aT,fA,gY,h1,ln,aU,fU,Aq,at',wN,pk,dn,pl,b1,wr]
  . have hlx:decide ((k:Int)<(xs.length:Int))=false:=Za2 (by omega);(refine no (by unfold FB;rw[Zb5 (by omega)]) λk2=> ?_);rw[iV];unfold ints at*
    simp[-aT,fA,gY,h1,ln,aU,fU,Aq,a1,wr]
theorem OO(N:Nat):List.replicate N (AV.bool false)=jx (List.replicate N false):=List.map_replicate.symm
theorem X5(hc:bU c)(h:PS st s Vs p)(hz:Nl p)(b7:p.ts.length<=100)(ON:p.gs.length<=100){N:Nat}(hN:(N:Int)=aX p.ts)(z:Bool)(xs:List Int)(hx:xs.length<=9223372036854775807):
  ∃s' v,c 7 [.agg Vs,ints z xs] s=some (v,s')/\Mk 1 s s' v ((eX (List.replicate N false) (xR (FB N xs) p.gs.length 0)).map cW):=by
 have hw:=h.aA.wf;have gN:=Grew.af hw (.cells Vs 0);have h1:=h.lH gN;obtain⟨V1,V2,r1,r2,e1,e2,T,T2,e5⟩:=h1.rT;have so:=VI hc h1 hz b7;rw[<-hN]at so;have hN1:N<=100000:=by have:=(k9 p.ts).2;omega
 have hcut:cut Vs 0 5=some Vs:=bI e5;have mk:=λ(K:AV->St->Option (AV×St))=>Uo c K (af s (.cells Vs 0)) (es:=1) (bytes:=1) (z:=[.bool false]) (k:= .i64) (k':= .i64) (n:=N) (by omega) (by omega)
 rw[Ew,OO]at mk;have gT:=Grew.af gN.wf (.cells (jx (List.replicate N false)) 0);have S0:JD (af s (.cells Vs 0)) (af (af s (.cells Vs 0)) (.cells (jx (List.replicate N false)) 0)) (af s (.cells Vs 0)).next (List.replicate N false) .ah []:=
  ⟨Mk.start gN.wf gT,aC _ _,Za4 _,λb e=>(nomatch e)⟩
 obtain⟨s',v',nE,z1,z2⟩:=X4 (c:=c) hc (aC s (.cells Vs 0)) e2 T2 hN1 ON z xs hx (p.gs.length+1) p.gs.length 0 (p.gs.length+1) _ _ _ [] (by omega) (by omega) S0 (by simp) rfl;have M:=z1.Hi.back hw gN;rw[Zf2]at M;obtain⟨s3,t1,t2⟩:=M.tidy;refine⟨s3,v',?_,t2⟩;simp only[show((0:Nat):Int)=0 from rfl]at z2;rw[Be hc (p.gs.length+1) (r:=(v',s')),t1];rw[Dc];simp only[pH,show ∀l,AV.cells (.agg l)=l from λl=>rfl,aE,sg,aC,aS,Zd5,hcut,qv,kI,so,ic,mk,z2,aF,cX]
end
set_option linter.unusedSimpArgs false
theorem aax(q:List Int):q.map cW=(q.map (AV.int .i64)).map aag:=by rw[Zf8];rfl
theorem Ux{s:St}{v:AV}{q:List Int}(h:QS 1 s v (q.map cW)){i:Nat}{x:Int}(hx:q[i]? =some x):∃b o,Rd s 1 v i b o [.int .i64 x]:=by
 rw[aax]at h;exact h.OJ (by rw[Zb7,hx];rfl)
theorem aay{s s':St}{f:Nat}{b:Pos}{off:Nat}:tidy s (.func f [] [.ptr b off],s')=(.func f [] [.ptr b off],s'):=by
 unfold tidy;rw[Za5];intro h;have h1:aj (λ_=>⟨0,0,0⟩) (b.toNat+1) (λ_=>none) (.func f [] [.ptr b off]) (.func (.func f) #[] #[.pointer (some ⟨0,0+off,none⟩)]):=
  .func f _ _ _ _ rfl rfl (λ_ _ _ h=>by simp at h) λi v v' hv vN=>by
   cases i with
   |zero=>simp at hv vN;subst hv;subst vN;have:=aj.ptr (ρ:=λ_=>⟨0,0,0⟩) (C:=λ_=>none) (n:=b.toNat+1) b off (by omega);simpa using this
   |succ i=>simp at hv
 have h2:=h.1 _ (λ_=>⟨0,0,0⟩) _ 0 _ _ h1;obtain⟨_,_,_,_,hy⟩:=h2.wz;obtain⟨x,xs,_,hx,_⟩:=hy.cons_inv;have:=hx.ei.1;omega
def lW(q:List Int)(x:Int):Int:=if q.contains x then((q.idxOf x:Nat):Int)else -1
section
variable{s:St}{P:AV}{q:List Int}
theorem aaz(pq:QS 1 s P (q.map cW))(hl:q.length<=1000000)(x:Int)(F:Nat)(k1 k2:Q2):∀(m k f:Nat),k+m=q.length->m<f->
  gD c F k1 k2 f [P,.int .i64 x,.int .i64 (q.length:Int),.int .i64 (k:Int)] s=if(q.drop k).contains x then k1 [.int .i64 ((k+(q.drop k).idxOf x:Nat):Int)] s else k2 [] s:=by
 intro m;induction m with
 |zero=>
  intro k f hk hf;obtain⟨f,rfl⟩:∃g,f=g+1:=⟨f - 1,by omega⟩
  obtain rfl:k=q.length:=by omega
  rw[kC];simp
 |succ m ih=>
  intro k f hk hf;obtain⟨f,rfl⟩:∃g,f=g+1:=⟨f - 1,by omega⟩
  have fU:k<q.length:=by omega
  obtain⟨pb,po,p⟩:=Ux pq (H4 fU);have p1:=λ{R}=>@p.st R
  have p3:=p.one;have wr:ax .i64 ((k:Int)+1)=((k+1:Nat):Int):=wrap64 (by omega) (by omega);rw[Ze7 fU,Zo5,List.idxOf_cons];by_cases he:x=q[k]
  .rw[kC];have e2:(x==q[k])=true:=(by simpa using he);have e3:(q[k]==x)=true:=(by simpa using he.symm);have d2:decide (x=q[k])=true:=H5 he;rw[e2,e3,Bool.true_or];simp[fU,p1,p3,d2]
  .have N7:(x==q[k])=false:=(by simpa using he);have he3:(q[k]==x)=false:=(by simpa using λe=>he e.symm);have d2:decide (x=q[k])=false:=Za2 he;rw[N7,he3,Zk8,cond_false,show k+((q.drop (k+1)).idxOf x+1)=(k+1)+(q.drop (k+1)).idxOf x by omega, <-ih (k+1) f (by omega) (by omega),kC];simp[fU,p1,p3,d2,wr]
theorem EC(hc:bU c)(pq:QS 1 s P (q.map cW))(hl:q.length<=1000000)(x:Int):c 28 [P,.int .i64 x] s=some (.int .i64 (lW q x),s):=by
 have ln:=λ(K:AV->St->Option (AV×St))=>pq.lenB (c:=c) K s
 rw[Zb2]at ln;have hi:=λk1 k2=>aaz (c:=c) pq hl x (q.length+1) k1 k2 q.length 0 (q.length+1) (by omega) (by omega)
 simp only[Ze3,show((0:Nat):Int)=0 from rfl,Zc7]at hi;rw[Ar hc (q.length+1) (r:=(.int .i64 (lW q x),s)),aK (Plain.int _ _) (bF.refl s)];rw[Cm];simp only[aE,ln,hi];unfold lW;split<;>simp
theorem Px(hc:bU c)(pq:QS 1 s P (q.map cW))(hl:q.length<=1000000)(x:Int):c 10 [P,.int .i64 x] s=some (.bool (q.contains x),s):=by
 rw[xS hc 1 (r:=(.bool (q.contains x),s)),aK (Plain.bool _) (bF.refl s)];rw[zq];simp only[aE,kI,EC hc pq hl,ic];unfold lW;cases h:q.contains x
 .simp
 .simp
theorem Mg(hc:bU c)(P:AV)(s:St):c 40 [P] s=some (.func 62 [] [.ptr s.next 0],af s (.cells P.cells 0)):=by rw[Ks hc 1 (r:=(.func 62 [] [.ptr s.next 0],af s (.cells P.cells 0))),aay];rw[Nm];simp
theorem Uy(hc:bU c){b:Pos}(hb:s.heap.get b=some (.cells [P] 0))(pq:QS 1 s P (q.map cW))(hl:q.length<=1000000)(x:Int):c 62 [.int .i64 x,.ptr b 0] s=some (.int .i64 (lW q x),s):=by
 rw[Hj hc 1 (r:=(.int .i64 (lW q x),s)),aK (Plain.int _ _) (bF.refl s)];rw[Kt];simp[hb,aS,EC hc pq hl]
end
set_option linter.unusedSimpArgs false
structure At(N n:Nat)(q:List Int):Prop where
 len:q.length=n
 RQ:∀x∈q,-1<=x/\x<(N:Int)
 ap:∀(a b:Nat)(x:Int),a<b->q[a]? =some x->q[b]? =some x->x<0
structure Hl(p:bZ)(N:Nat):Prop where
 rD:p.FC
 rs:∀r∈p.rs,r.Ok
 vX:(iq p).2=0
 tabs:(bD p.ts).2=0
 sum:(N:Int)=aX p.ts
 le:N<=100000
section
variable{sB s:St}{P:AV}{q:List Int}{N n:Nat}
theorem aaA{tb:Pos}(hq:At N n q)(hql:q.length<=1000)(hN:N<=100000)(pq:QS 1 sB P (q.map cW))(hge:sB.next.toNat<=tb.toNat)(w0:Wf sB)(F:Nat):
  ∀ (m k f:Nat)(s:St)(tk:List Bool),k+m=q.length->m<f->Grew sB s->s.heap.get tb=some (.cells (jx tk) 0)->tk.length=N->(∀i:Nat,tk[i]? =some true->(i:Int)∈q.take k)->∃s',Grew sB s'/\
    ∀k1 k2:Q2,o9 c F k1 k2 f [.bool false,.int .i64 (N:Int),.slice tb 0 N (some N) 1,P,.int .i64 (q.length:Int),.int .i64 (k:Int)] s=k2 [] s':=by
 intro m;induction m with
 |zero=>
  intro k f s tk hk hf gr ht hl Fp;obtain⟨f,rfl⟩:∃g,f=g+1:=⟨f - 1,by omega⟩
  obtain rfl:k=q.length:=by omega
  refine⟨s,gr,λk1 k2=> ?_⟩;rw[uT];simp
 |succ m ih=>
  intro k f s tk hk hf gr ht hl Fp;obtain⟨f,rfl⟩:∃g,f=g+1:=⟨f - 1,by omega⟩
  have fU:k<q.length:=by omega
  obtain⟨pb,po,p⟩:=Ux (pq.aA gr) (H4 fU);have p1:=λ{R}=>@p.st R
  have p3:=p.one;have hxq:=hq.RQ _ (Zb9 fU);have hap:=hq.ap;have wr:ax .i64 ((k:Int)+1)=((k+1:Nat):Int):=by rw[wrap64 (by omega) (by omega)];omega
  have tke:q.take (k+1)=q.take k++[q[k]]:=by rw[Zo6,H4 fU];rfl
  have hqk:q[k]? =some q[k]:=H4 fU;generalize q[k]=x at*
  by_cases h0:0<=x
  . obtain⟨i,rfl⟩:∃i:Nat,x=(i:Int):=⟨x.toNat,by omega⟩
    have hi:i<N:=(by omega);have RX:tk[i]? =some false:=by
        rw[H4 (by omega)];cases h:tk[i]'(by omega)with
        |false=>rfl
        | true=>
          have:=Fp i (by rw[H4 (by omega),h]);obtain⟨j,hj⟩:=Zd3.1 this;rw[Zb8]at hj;(split at hj<;>first|(cases hj;done)|skip);rename_i hjk;have:=hap j k i hjk hj hqk;omega
    have ix:=λ(K:AV->St->Option (AV×St))(s1:St)=>Aj c K s1 (b:=tb) (off:=0) (len:=N) (es:=1) (es':=1) (cap:=some N) (k:= .i64) (i:=i) hi
    (simp only[Zc7,Zj6]at ix;have ec:(jx tk)[i]? =some (.bool false):=(by rw[Zb7,RX];rfl);have pt:=λ(K:AV->St->Option (AV×St))=>Up (c:=c) K ht (o:=i) (by rw[Zb2];omega) (v:= .bool true) rfl rfl);rw[show(jx tk).set i (.bool true)=jx (tk.set i true)from(List.map_set).symm]at pt;have aU:=gr.wf _ _ ht;obtain⟨s',z1,z3⟩:=ih (k+1) f (cv s tb (.cells (jx (tk.set i true)) 0)) (tk.set i true) (by omega) (by omega) (Ap w0 gr hge aU _) (ej _ _ _) (by simpa using hl) (λj hj=>by
        rw[tke];by_cases e:i=j
        .subst e;simp
        .rw[Zn2 e]at hj;exact Zg5 _ (Fp j hj))
    refine⟨s',z1,λk1 k2=> ?_⟩;rw[<-z3 k1 k2,uT];have d1:decide ((i:Int)= -1)=false:=Za2 (by omega);have d2:decide ((i:Int)< -1)=false:=Za2 (by omega);have d3:decide ((N:Int)<=(i:Int))=false:=Za2 (by omega);have d4:decide (N<=i)=false:=Za2 (by omega);simp[fA,fU,p1,p3,ix,pt,wr,d1,d2,d3,d4,ht,aS,ec]
  .have hx:x= -1:=(by omega);subst hx;obtain⟨s',z1,z3⟩:=ih (k+1) f s tk (by omega) (by omega) gr ht hl (λj hj=>by rw[tke];exact Zg5 _ (Fp j hj));refine⟨s',z1,λk1 k2=> ?_⟩;rw[<-z3 k1 k2,uT];have d3:decide ((N:Int)<= -1)=false:=Za2 (by omega);simp[fA,fU,p1,p3,wr,d3]
end
section
variable{s0 s:St}{Vs:List AV}{p:bZ}{P:AV}{q:List Int}{N:Nat}
theorem Nn:Plain (.tuple [.int .i64 0,.int .i64 0]):= .tuple λv hv=>by simp at hv;subst hv;exact .int _ _
theorem aaB(hc:bU c)(h:PS s0 s Vs p)(ok:Hl p N)(pq:QS 1 s P (q.map cW))(hq:At N p.gs.length q):c 65 [.agg Vs,P,.bool false] s=some (.tuple [.int .i64 0,.int .i64 0],s):=by
 have hw:=h.aA.wf;have gN:=Grew.af hw (.cells Vs 0);have h1:=h.lH gN;obtain⟨V1,V2,r1,r2,e1,e2,T,T2,e5⟩:=h1.rT;have cn:=OP hc h1 ok.rD.ok ok.tabs e1;rw[<-ok.sum]at cn;have ON:=ok.rD.gs;have RY:=hq.len;have ln:=λ(K:AV->St->Option (AV×St))(s1:St)=>pq.lenB (c:=c) K s1
 rw[Zb2]at ln;have lg:=λ(K:AV->St->Option (AV×St))(s1:St)=>T2.out.own.lenB (c:=c) K s1
 rw[T2.len]at lg;have hle:=ok.le;have mk:=λ(K:AV->St->Option (AV×St))=>Uo c K (af s (.cells Vs 0)) (es:=1) (bytes:=1) (z:=[.bool false]) (k:= .i64) (k':= .i64) (n:=N) (by omega) (by omega)
 rw[Ew,OO]at mk;have gT:=Grew.af gN.wf (.cells (jx (List.replicate N false)) 0);obtain⟨s',z1,z3⟩:=aaA (c:=c) (n:=p.gs.length) hq (by omega) ok.le (pq.aA gN) (Za4 _) gN.wf (q.length+1) q.length 0 (q.length+1) _ (List.replicate N false) (by omega) (by omega) gT (aC _ _) (by simp) (λi hi=>by rw[List.getElem?_replicate]at hi;split at hi<;>cases hi);simp only[show((0:Nat):Int)=0 from rfl]at z3;have OQ:Vs[0]? =some V1:=e1;have X6:Vs[1]? =some V2:=e2;rw[Np hc (q.length+1) (r:=(.tuple [.int .i64 0,.int .i64 0],s')),aK Nn (gN.trans z1).keeps];rw[RZ];simp[show ∀l,AV.cells (.agg l)=l from λl=>rfl,aC,aS,OQ,X6,ln,lg,RY,cn];rw[mk, <-RY,z3];simp
theorem VJ(hc:bU c)(h:PS s0 s Vs p)(ok:Hl p N)(pq:QS 1 s P (q.map cW))(hq:At N p.gs.length q):c 46 [.agg Vs,P,.bool false] s=some (.tuple [.int .i64 0,.int .i64 0],s):=by
 have hw:=h.aA.wf;have gN:=Grew.af hw (.cells Vs 0);have h1:=h.lH gN;have hcut:cut Vs 0 5=some Vs:=bI h1.rT.choose_spec.choose_spec.choose_spec.choose_spec.2.2.2.2;have ck:=X7 hc h1 ok.rD ok.rs;rw[ok.vX]at ck;have kk:=aaB hc h1 ok (pq.aA gN) hq;rw[Ku hc 1 (r:=(.tuple [.int .i64 0,.int .i64 0],af s (.cells Vs 0))),aK Nn gN.keeps];rw[Nq];simp[show ∀l,AV.cells (.agg l)=l from λl=>rfl,aC,aS,hcut,ck,kk]
theorem R1(hc:bU c)(h:PS s0 s Vs p)(ok:Hl p N)(pq:QS 1 s P (q.map cW))(hq:At N p.gs.length q):c 29 [.agg Vs,P] s=some (.tuple [.int .i64 0,.int .i64 0],s):=by
 have hw:=h.aA.wf;have gN:=Grew.af hw (.cells Vs 0);have h1:=h.lH gN;have hcut:cut Vs 0 5=some Vs:=bI h1.rT.choose_spec.choose_spec.choose_spec.choose_spec.2.2.2.2;have kk:=VJ hc h1 ok (pq.aA gN) hq;rw[Ho hc 1 (r:=(.tuple [.int .i64 0,.int .i64 0],af s (.cells Vs 0))),aK Nn gN.keeps];rw[Kv];simp[show ∀l,AV.cells (.agg l)=l from λl=>rfl,aC,aS,hcut,kk]
theorem Hp(hc:bU c)(h:PS s0 s Vs p)(ok:Hl p N)(pq:QS 1 s P (q.map cW))(hq:At N p.gs.length q):c 39 [.agg Vs,P] s=some (.bool true,s):=by
 have hw:=h.aA.wf;have gN:=Grew.af hw (.cells Vs 0);have h1:=h.lH gN;have hcut:cut Vs 0 5=some Vs:=bI h1.rT.choose_spec.choose_spec.choose_spec.choose_spec.2.2.2.2;have kk:=R1 hc h1 ok (pq.aA gN) hq;rw[Nr hc 1 (r:=(.bool true,af s (.cells Vs 0))),aK (Plain.bool _) gN.keeps];rw[R2];simp[show ∀l,AV.cells (.agg l)=l from λl=>rfl,aC,aS,hcut,kk]
end
set_option linter.unusedSimpArgs false
def oD(q:List Int):Nat->Nat->List Int
 |0,_=>[]
 |m+1,k=>(if q.contains (k:Int)then []else [(k:Int)])++oD q m (k+1)
theorem R3(q:List Int)(x:Int):decide (lW q x<0)= !q.contains x:=by unfold lW;cases h:q.contains x<;>simp
theorem OR(q:List Int):∀m k,(oD q m k).length<=m
 |0,_=>Za4 _
 |m+1,k=>by have:=OR q m (k+1);unfold oD;rw[Ze0];split<;>simp<;>omega
section
variable{s0 s sB:St}{Vs:List AV}{p:bZ}{P:AV}{q:List Int}{N:Nat}
theorem ace(hc:bU c){b:Pos}(w0:Wf sB)(hb:sB.heap.get b=some (.cells [P] 0))(pq:QS 1 sB P (q.map cW))(hl:q.length<=1000000)(hN:N<=100000)(F:Nat):∀(m k f:Nat)(s:St)(v:AV)(acc:List Int),k+m=N->m<f->acc.length<=k->Mk 1 sB s v (acc.map cW)->
  ∃s' v',Mk 1 sB s' v' ((acc++oD q m k).map cW)/\∀k2:Q2,qC c F k2 f [.func 62 [] [.ptr b 0],v,.int .i64 (N:Int),.int .i64 (k:Int)] s=k2 [v'] s':=by
 intro m;induction m with
 |zero=>
  intro k f s v acc hk hf _ M;obtain⟨f,rfl⟩:∃g,f=g+1:=⟨f - 1,by omega⟩
  obtain rfl:k=N:=by omega
  refine⟨s,v,by simpa [oD]using M,λk2=> ?_⟩;rw[wM];simp
 |succ m ih=>
  intro k f s v acc hk hf ha M;obtain⟨f,rfl⟩:∃g,f=g+1:=⟨f - 1,by omega⟩
  have fU:k<N:=by omega
  have wr:ax .i64 ((k:Int)+1)=((k+1:Nat):Int):=by rw[wrap64 (by omega) (by omega)];omega
  have wh:=Uy hc (M.aA.get hb) (pq.aA M.aA) hl (k:Int);have dn:=R3 q (k:Int);rw[oD];cases hq:q.contains (k:Int)
  .rw[hq]at dn;obtain⟨s5,v',a1,M',_,_⟩:=Mk.push (R:=AV×St) (c:=c) (bytes:=8) M (z:=[.int .i64 0]) (x:= .int .i64 (k:Int)) rfl rfl rfl (by decide) (by rw[Zb2];omega) (by rw[Zb2];omega);obtain⟨s',v2,z1,z2⟩:=ih (k+1) f s5 v' (acc++[(k:Int)]) (by omega) (by omega) (by simp;omega) (by rw[Zd7];exact M');refine⟨s',v2,by simpa using z1,λk2=> ?_⟩;rw[<-z2 k2,wM];simp[-aT,fA,fU,tV,wh,dn,a1,wr]
  .rw[hq]at dn;obtain⟨s',v2,z1,z2⟩:=ih (k+1) f s v acc (by omega) (by omega) (by omega) M;refine⟨s',v2,by simpa using z1,λk2=> ?_⟩;rw[<-z2 k2,wM];simp[fA,fU,tV,wh,dn,wr]
theorem acf(hc:bU c)(h:PS s0 s Vs p)(ok:Hl p N)(pq:QS 1 s P (q.map cW))(hq:At N p.gs.length q)(hP:P.cells=[P]):∃s' v,c 17 [.agg Vs,P] s=some (v,s')/\Mk 1 s s' v ((oD q N 0).map cW):=by have hw:=h.aA.wf;have gN:=Grew.af hw (.cells Vs 0);have h1:=h.lH gN;have gB:=Grew.af gN.wf (.cells [P] 0);have h2:=h1.lH gB;obtain⟨V1,V2,r1,r2,e1,e2,T,T2,e5⟩:=h2.rT;have hcut:cut Vs 0 5=some Vs:=bI e5;have va:=Hp hc h1 ok (pq.aA gN) hq;have si:=Mg hc P (af s (.cells Vs 0));rw[hP]at si;have cn:=OP hc h2 ok.rD.ok ok.tabs e1;rw[<-ok.sum]at cn;have ON:=ok.rD.gs;have RY:=hq.len;obtain⟨s',v,z1,z2⟩:=ace (c:=c) hc gB.wf (aC _ _) (pq.aA (gN.trans gB)) (by omega) ok.le (N+1) N 0 (N+1) _ _ [] (by omega) (by omega) (by simp) (Mk.start gB.wf (Grew.refl gB.wf));simp only[show((0:Nat):Int)=0 from rfl,Zf2]at z1 z2;have M:=z1.back hw (gN.trans gB);obtain⟨s3,t1,t2⟩:=M.tidy;have gp:=gB.get (aC s (.cells Vs 0));refine⟨s3,v,?_,t2⟩;rw[Py hc (N+1) (r:=(v,s')),t1];rw[Tj];simp[show ∀l,AV.cells (.agg l)=l from λl=>rfl,aC,aS,hcut,va,si,gp,e1,cn];rw[z2];simp
end
set_option linter.unusedSimpArgs false
theorem R4(i x:Nat):(gK i x).mE.length<=16:=by have h1:=R5 x (tN x);have h2:=Mh x;show((uU x (tN x)).map λ(k:Nat)=>(k:Int)).length<=16;rw[Zb2];omega
theorem R6(xt xg xy xr:List Nat):(mF xt xg xy xr).FC where
 ts:=by show(mT xt _).length<=100;rw[ED];omega
 gs:=by have:=xT (sv xt xg);show(ew _).length<=100;omega
 ys:=by have:=(OS (sv xt xg) xy).1;show(uV _ _).length<=100;omega
 cs:=by
  have:=xT (sv xt xg);show(lu xt xg xy).length<=100;unfold lu;split
  .rw[EE];show(ew _).length<=100;omega
  .exact Zj5 _
 rs:=by have:=EF (fe xt) (jZ xt xg) xr (min xr.length 12);show(tF _ _ _ _).length<=100;omega
 ok t ht:=by
  obtain⟨i,x,rfl⟩:=Kw ht;have:=R4 i x;exact⟨by show(dJ i).length<sw;unfold dJ sw;simp,by unfold sw;omega⟩
theorem acV(ts:List aL)(gs:List aO)(x:Nat):(eM ts gs x).1.k=((1+x % 18:Nat):Int):=by
 unfold eM EG
 repeat' split
 all_goals rfl
theorem VK{xt xg xy xr:List Nat}(hx:∀x∈xt,x<256):∀r∈(mF xt xg xy xr).rs,r.Ok/\q8 (mF xt xg xy xr) r=0:=λr hr=>by obtain⟨x,h1,rfl⟩:=Ky hr;refine⟨?_,X9 (p:=mF xt xg xy xr) OT Hq Hr (Cn hx) x h1⟩;have:=acV (fe xt) (jZ xt xg) x;unfold Rl.Ok;omega
theorem OU{xt xg xy xr:List Nat}(hx:∀x∈xt,x<256):Nl (mF xt xg xy xr):=λt ht=>by
 have h1:=Cn hx t ht;have h2:=R7 t ht;exact⟨h1.1.symm,h2.1,h2.2.1,h2.2.2⟩
theorem Hs{R:Type}{s:St}{b:Pos}{Vs:List AV}(h:s.heap.get b=some (.cells Vs 0))(hl:Vs.length=5)(K:AV->St->Option R):ak c (.load (some 5)) [.ptr b 0] s K=K (.agg Vs) s:=by rw[sg,h];simp only[aS,Zd5];rw[bI hl];rfl
theorem Uz(ch:Nat->Ch):∀(m k i:Nat),(xR ch m k)[i]? =if i<m then some (ch (k+i))else none
 |0,k,i=>by simp[xR]
 |m+1,k,0=>by simp[xR]
 |m+1,k,i+1=>by
  rw[xR,Zd9,Uz ch m (k+1) i];by_cases h:i<m
  .rw[Za8 h,Za8 (by omega)];congr 2;omega
  .rw[Za5 h,Za5 (by omega)]
theorem UA(ch:Nat->Ch):∀(m k:Nat),(xR ch m k).length=m
 |0,k=>rfl
 |m+1,k=>by rw[xR,Ze2,UA ch m (k+1)]
def pg(xt:List Nat):Nat:=(aX (fe xt)).toNat
theorem aaC{xt xg xy xr:List Nat}(hx:∀x∈xt,x<256):Hl (mF xt xg xy xr) (pg xt) where
 rD:=R6 xt xg xy xr
 rs r hr:=(VK (xg:=xg) (xy:=xy) (xr:=xr) hx r hr).1
 vX:=VL hx
 tabs:=OV hx
 sum:=by have:=(k9 (fe xt)).1;show((aX (fe xt)).toNat:Int)=aX (fe xt);omega
 le:=by have h1:=(k9 (fe xt)).2;have h2:=(R6 xt xg xy xr).ts;have h2:(fe xt).length<=100:=h2;unfold pg;omega
theorem Ya(N n:Nat)(xs:List Int):At N n (eX (List.replicate N false) (xR (FB N xs) n 0)):=by
 have no:∀s,Ch.G5 s∉xR (FB N xs) n 0:=λs h=>by
   obtain⟨i,hi⟩:=Zd3.1 h;rw[Uz]at hi;split at hi
   . simp only[H0]at hi;unfold FB at hi;split at hi
     .split at hi<;>cases hi
     .cases hi
   .cases hi
 have hs:Sat (List.replicate N false) (xR (FB N xs) n 0):=⟨λs h=>absurd h (no s),λi j s h _=>absurd (Zb6 h) (no s)⟩
 refine⟨by rw[Ez,UA],λx hx=> ?_,λa b x OW ha hb=> ?_⟩
 . obtain⟨i,hi⟩:=Zd3.1 hx;rcases tX _ _ hs i x hi with rfl|⟨s,rfl,h|h⟩
   .omega
   .have:=(Za1.1 h).1;simp at this;omega
   .have:=(Za1.1 h.1).1;simp at this;omega
 .have:=zo _ _ hs a b x OW ha hb;omega
section
variable{q:List Int}{g h:Nat}
end
end
section
open Go Go.Ai Go.Proofs Go.RowKit
theorem Kz{α:Type}{P:α->Prop}{cells:α->List AV}:∀(rs:List (List AV)),(∀r∈rs,∃t,r=cells t/\P t)->∃l:List α,rs=l.map cells/\∀t∈l,P t
 |[],_=>⟨[],rfl,by simp⟩
 |r::rs,h=>by
  obtain⟨t,rfl,ht⟩:=h r (by simp);obtain⟨l,rfl,hl⟩:=Kz rs (λq hq=>h q (Za6 _ hq));refine⟨t::l,rfl,λu hu=> ?_⟩;rcases Za9.1 hu with rfl|hu
  .exact ht
  .exact hl u hu
section
variable{H:Type}{enc:TypeId×Value->H}{w:World}{base:Nat}{spare:Nat->Bool}{held:Bool}
theorem wf_u8{i:Int}(h:(Lit.int .u8 i).wf=true):0<=i/\i<256:=by
 have e1:IntKind.min .u8=0:=by decide
 have e2:IntKind.max .u8=255:=by decide
 have h:(decide (IntKind.min _<=i)&&decide (i<=IntKind.max _))=true:=h;rw[e1,e2,Za7,Ze1,Ze1]at h;omega
theorem wf_u16{i:Int}(h:(Lit.int .u16 i).wf=true):0<=i/\i<65536:=by
 have e1:IntKind.min .u16=0:=by decide
 have e2:IntKind.max .u16=65535:=by decide
 have h:(decide (IntKind.min _<=i)&&decide (i<=IntKind.max _))=true:=h;rw[e1,e2,Za7,Ze1,Ze1]at h;omega
theorem wf_u32{i:Int}(h:(Lit.int .u32 i).wf=true):0<=i/\i<4294967296:=by
 have e1:IntKind.min .u32=0:=by decide
 have e2:IntKind.max .u32=4294967295:=by decide
 have h:(decide (IntKind.min _<=i)&&decide (i<=IntKind.max _))=true:=h;rw[e1,e2,Za7,Ze1,Ze1]at h;omega
def xU(k:IntKind)(n:Nat)(vs:List AV):Prop:=∃(z:Bool) (l:List Nat),vs=[cM k z l]/\(∀x∈l,x<n)/\l.length<=9223372036854775807
theorem EH{t e:TypeId}{k:IntKind}{n:Nat}(ht:Tryz.prog.underlying t=some (.slice e))(he:Tryz.prog.underlying e=some (.int k))(hc:Tryz.prog.cellsOf e=1)(hk:∀i,(Lit.int k i).wf=true->0<=i/\i<(n:Int)):
  j8 enc Tryz.prog w base spare held t (xU k n):=by
 refine j8.mono (Jx (es:=1) ht hc (by omega) (λvs h=>by obtain⟨i,rfl,_⟩:=h;rfl) (OC he)) λvs h=> ?_
 obtain⟨z,rs,rfl,h1,h2⟩:=h;obtain⟨l,rfl,hl⟩:=Kz (P:=λx:Nat=>x<n) (cells:=λx:Nat=>[AV.int k (x:Int)]) rs λr hr=>by
  obtain⟨i,rfl,hi⟩:=h1 r hr;have:=hk i hi;exact⟨i.toNat,by rw[show((i.toNat:Nat):Int)=i by omega],by omega⟩
 refine⟨z,l,rfl,hl,?_⟩;rw[Zb2]at h2;unfold Go.maxLen at h2;omega
def acW(vs:List AV):Prop:=∃(z:Bool) (l:List Int),vs=[ints z l]/\l.length<=9223372036854775807
theorem Zm:j8 enc Tryz.prog w base spare held 27 acW:=by
 refine j8.mono (Jx (es:=1) (e:=3) (by kernel_rfl) (by kernel_rfl) (by omega) (λvs h=>by obtain⟨i,rfl,_⟩:=h;rfl) (OC (k:= .i64) (by kernel_rfl))) λvs h=> ?_
 obtain⟨z,rs,rfl,h1,h2⟩:=h;obtain⟨l,rfl,_⟩:=Kz (P:=λ_:Int=>True) (cells:=λx:Int=>[AV.int .i64 x]) rs λr hr=>by
  obtain⟨i,rfl,hi⟩:=h1 r hr;exact⟨i,rfl,trivial⟩
 refine⟨z,l,rfl,?_⟩;rw[Zb2]at h2;unfold Go.maxLen at h2;omega
theorem OX:j8 enc Tryz.prog w base spare held 22 (xU .u8 256):=EH (e:=5) (by kernel_rfl) (by kernel_rfl) (by kernel_rfl) λ_ h=>wf_u8 h
theorem VM:j8 enc Tryz.prog w base spare held 23 (xU .u16 65536):=EH (e:=69) (by kernel_rfl) (by kernel_rfl) (by kernel_rfl) λ_ h=>wf_u16 h
theorem VN:j8 enc Tryz.prog w base spare held 24 (xU .u32 4294967296):=EH (e:=75) (by kernel_rfl) (by kernel_rfl) (by kernel_rfl) λ_ h=>wf_u32 h
structure adO(xt xg xy xr:List Nat):Prop where
 t:∀x∈xt,x<256
 g:∀x∈xg,x<65536
 y:∀x∈xy,x<256
 r:∀x∈xr,x<4294967296
 lt:xt.length<=9223372036854775807
 lg:xg.length<=9223372036854775807
 ly:xy.length<=9223372036854775807
 lr:xr.length<=9223372036854775807
theorem Pn:j8 enc Tryz.prog w base spare held 26 λvs=>∃zt zg zy zr xt xg xy xr,vs=iW zt zg zy zr xt xg xy xr/\adO xt xg xy xr:=by
 refine j8.mono (Ry [22,23,22,24] (Qs:=[xU .u8 256,xU .u16 65536,xU .u8 256,xU .u32 4294967296]) (by kernel_rfl) (by kernel_rfl) (by kernel_rfl) ⟨OX,VM,OX,VN,trivial⟩) λvs h=> ?_
 obtain⟨ps,rfl,m0⟩:=h;obtain⟨p0,q0,rfl,⟨z1,l1,rfl,a1,b1⟩,m1⟩:=xO m0;obtain⟨p0,q0,rfl,⟨z2,l2,rfl,a2,b2⟩,m2⟩:=xO m1;obtain⟨p0,q0,rfl,⟨z3,l3,rfl,a3,b3⟩,m3⟩:=xO m2;obtain⟨p0,q0,rfl,⟨z4,l4,rfl,a4,b4⟩,m4⟩:=xO m3;obtain rfl:=RF m4;exact⟨z1,z2,z3,z4,l1,l2,l3,l4,rfl,⟨a1,a2,a3,a4,b1,b2,b3,b4⟩⟩
end
end
noncomputable section
open Go Go.Ai Go.Proofs
attribute [local go_sem ↓] bW BH ev XM yJ getLT zn Nc RH xw xx Km LX LY LZ ID IE IF IG II IJ L4 L5 IK IL IM IN IP Qc Qd Qe
attribute [local go_sem] bW BH ev
section
variable(c:ai)(F:Nat)(x0 x1 x2 x3 x4 x5 x6 x7 x8 x9 R8 R9:AV)(s:St)
end
section
variable{c:ai}(hc:bU c)(F:Nat){x0 x1 x2 x3 x4 x5 x6 x7 x8 x9 R8 R9:AV}{s:St}{r:AV×St}
include hc
end
end
section
set_option linter.unusedSimpArgs false
open Go Go.Ai Go.Proofs
variable{c:ai}
theorem PS.cells{s0 s:St}{Vs:List AV}{p:bZ}(h:PS s0 s Vs p):Vs.length=5/\aQ Vs=true:=by
 obtain⟨G,V1,V2,V3,V4,V5,r1,r2,rfl,F1,F2,F3,F4,F5⟩:=h;have o1:=F1.out.cells.2;have o2:=F2.out.cells.2;have o3:=F3.cells.2;have o4:=F4.cells.2;have o5:=F5.cells.2;simp only[aQ,Zk9]at o1 o2 o3 o4 o5;exact⟨rfl,by simp only[aQ,o1,o2,o3,o4,o5,Zj2]⟩
theorem QS.beq{es:Nat}{s:St}{v:AV}{rows:List (List AV)}(h:QS es s v rows):j6 v v=true:=by
 rcases h with⟨rfl,rfl⟩|⟨b,off,cap,cs,rfl,_⟩|⟨b,off,rfl,rfl⟩
 .rfl
 .cases cap<;>simp[j6,fO,Pos.beq_eq.2 rfl]
 .simp[j6,fO,Pos.beq_eq.2 rfl]
set_option linter.unusedSimpArgs false
def sC(f:Nat->Bool):Nat->Nat
 |0=>0
 |a+1=>sC f a+(f a).toNat
theorem Au{f g:Nat->Bool}:∀{a:Nat},(∀i<a,f i=g i)->sC f a=sC g a
 |0,_=>rfl
 |a+1,h=>by rw[sC,sC,Au λi hi=>h i (by omega),h a (by omega)]
theorem abA(f:Nat->Bool):∀a,sC f a<=a
 |0=>Za4 _
 |a+1=>by have:=abA f a;rw[sC];cases f a<;>simp<;>omega
theorem Yb {f:Nat->Bool} {j:Nat}(hf:f j=false):∀{N:Nat},j<N->sC (λi=>i==j||f i) N=sC f N+1
 |0,h=>by omega
 |N +1,h=>by
  rw[sC,sC];by_cases e:N=j
  . subst e
    rw[Au (g:=f) fun i hi=>by  have:(i==N)=false:=by simpa using(by omega:i≠N)
                               rw[this,Zk8],hf]
    simp
  .have:(N==j)=false:=(by simpa using e);rw[Yb hf (by omega),this,Zk8];omega
abbrev p9(q:List Int)(i:Nat):Bool:=q.contains (i:Int)
theorem At.tail{N n:Nat}{x:Int}{q:List Int}(h:At N n (x::q)):At N (n - 1) q:=by
 have hl:=h.len;simp at hl;exact⟨by omega,λy hy=>h.RQ y (Za6 _ hy),λa b y OW ha hb=>h.ap (a+1) (b+1) y (by omega) (by simpa using ha) (by simpa using hb)⟩
theorem Ht{N:Nat}:∀{n:Nat}{q:List Int},At N n q->sC (p9 q) N=(q.filter λx=>decide (0<=x)).length
 |n,[],h=>by
  clear h;have:sC (p9 []) N=sC (λ_=>false) N:=Au λi _=>rfl
  rw[this];clear this;induction N with
  |zero=>rfl
  |succ N ih=>rw[sC,ih];rfl
 |n,x::q,h=>by
  have ih:=Ht h.tail;have hx:=h.RQ x (Zc2 ..);by_cases h0:0<=x
  . obtain⟨j,rfl⟩:∃j:Nat,x=(j:Int):=⟨x.toNat,by omega⟩
    have hj:p9 q j=false:=by
        cases hc:p9 q j with
        |false=>rfl
        |true=>
         obtain⟨i,hi⟩:=Zd3.1 (Zm1.1 hc);have:=h.ap 0 (i+1) (j:Int) (by omega) rfl (by simpa using hi);omega
    rw[Zl3 (by simpa using h0),Ze2, <-ih, <-Yb hj (show j<N by omega)];(refine Au λi _=> ?_);show((j:Int)::q).contains (i:Int)=_;rw[Zo5];congr 1;rw[Zh4];simp;omega
  .rw[Zl4 (by simpa using h0), <-ih];(refine Au λi _=> ?_);show(x::q).contains (i:Int)=_;rw[Zo5];have:((i:Int)==x)=false:=(by simp;omega);rw[this,Zk8]
theorem JE(q:List Int):∀m k,(oD q m k).length+sC (p9 q) (k+m)=m+sC (p9 q) k
 |0,k=>by simp[oD]
 |m +1,k=>by
  have ih:=JE q m (k+1);rw[oD,Ze0,show k+(m+1)=k+1+m by omega];rw[sC]at ih;cases h:q.contains (k:Int)
  .have h:p9 q k=false:=h;rw[h]at ih;simp at ih ⊢; omega
  .have h:p9 q k=true:=h;rw[h]at ih;simp at ih ⊢; omega
theorem OY(q:List Int)(i:Nat):∀m k,(oD q m k).contains (i:Int)=(decide (k<=i)&&decide (i<k+m)&& !q.contains (i:Int))
 |0,k=>by
  have:(decide (k<=i)&&decide (i<k+0))=false:=by simp
  rw[this];rfl
 |m +   1,k=>by
  rw[oD,List.contains_append,OY q i m (k+1)];by_cases e:i=k
  .subst e;cases h:q.contains (i:Int)<;>simp
  . have h1:((if q.contains (k:Int)=true then []else [(k:Int)]):List Int).contains (i:Int)=false:=by
        split
        .rfl
        .simp;omega
    rw[h1,Zk8];have h2:decide (k+1<=i)=decide (k<=i):=(by rw[Zh4];simp;omega);have h3:decide (i<k+1+m)=decide (i<k+(m+1)):=(by rw[Zh4];simp;omega);rw[h2,h3]
theorem Yc{q:List Int}(h:∀x∈q,-1<=x):q.count (-1)+(q.filter λx=>decide (0<=x)).length=q.length:=by
 induction q with
 |nil=>rfl
 |cons x q ih=>
  have ih:=ih λy hy=>h y (Za6 _ hy)
  have hx:=h x (Zc2 ..);rw[List.count_cons];by_cases h0:0<=x
  .rw[Zl3 (by simpa using h0)];have:(x== -1)=false:=(by simp;omega);simp[this];omega
  .rw[Zl4 (by simpa using h0)];have:x= -1:=(by omega);subst this;simp;omega
section
variable{s0 s sB:St}{Vs:List AV}{p:bZ}{P:AV}{q:List Int}{N:Nat}
theorem abB(hc:bU c)(h:PS s0 s Vs p)(ok:Hl p N)(pq:QS 1 s P (q.map cW))(hq:At N p.gs.length q)(k:Nat):
  c 19 [.agg Vs,P,.int .i64 (k:Int)] s=some (.tuple [.int .i64 (max (lW q k) 0),.bool (q.contains (k:Int))],s):=by
 have hw:=h.aA.wf;have gN:=Grew.af hw (.cells Vs 0);have h1:=h.lH gN;have hcut:cut Vs 0 5=some Vs:=bI h1.rT.choose_spec.choose_spec.choose_spec.choose_spec.2.2.2.2;have va:=Hp hc h1 ok (pq.aA gN) hq;have ON:=ok.rD.gs;have RY:=hq.len;have ix:=EC hc (pq.aA gN) (by omega) (k:Int);have mx:=λ(K:AV->St->Option (AV×St))(s:St)=>aW c K (λH n=>ab5 H n .i64 .i64 (lW q k) 0) s
 have dn:=R3 q (k:Int);have d0:decide (0<=lW q k)=q.contains (k:Int):=by
  have:decide (0<=lW q k)= !decide (lW q k<0):=by rw[Zh4];simp
  rw[this,dn,Bool.not_not]
 rw[Tk hc 1 (r:=(.tuple [.int .i64 (max (lW q k) 0),.bool (q.contains (k:Int))],af s (.cells Vs 0))),aK (.tuple λv hv=>by simp at hv;rcases hv with rfl|rfl;exact .int _ _;exact .bool _) gN.keeps];rw[Yd];have dk:decide ((k:Int)<0)=false:=Za2 (by omega);simp[dk,show ∀l,AV.cells (.agg l)=l from λl=>rfl,aC,aS,hcut,va,ix,mx,d0]
theorem Ye(hc:bU c)(hw:Wf s){t:aL}{v:AV}(hM:Mk 1 s0 s v (t.mE.map cW))(dH:t.Ok)(hk:mU t=0):c 42 [.agg (t.au v)] s=some (.int .i64 (cq t),s):=by
 have gN:=Grew.af hw (.cells (t.au v) 0);have k1:=VO hc (hM.grow gN) dH;have k2:=Yf hc (hM.grow gN);rw[hk]at k1;have hcut:cut (t.au v) 0 7=some (t.au v):=bI rfl;rw[Ns hc 1 (r:=(.int .i64 (cq t),af s (.cells (t.au v) 0))),aK (Plain.int _ _) gN.keeps];rw[Sa];simp[show ∀l,AV.cells (.agg l)=l from λl=>rfl,aC,aS,hcut,k1,k2]
def JF(q:List Int):Nat->Nat->List Int
 |0,_=>[]
 |m+1,k=>lW q (k:Int)::JF q m (k+1)
theorem UB(q:List Int):∀m k,(JF q m k).length=m
 |0,_=>rfl
 |m+1,k=>by rw[JF,Ze2,UB q m (k+1)]
theorem UC(q:List Int):∀m k i,i<m->(JF q m k)[i]? =some (lW q ((k+i:Nat):Int))
 |0,_,_,h=>by omega
 |m+1,k,0,_=>rfl
 |m+1,k,i+1,h=>by rw[JF,Zd9,UC q m (k+1) i (by omega),show k+1+i=k+(i+1)by omega]
theorem Yg(hc:bU c){b:Pos}(w0:Wf sB)(hb:sB.heap.get b=some (.cells [P] 0))(pq:QS 1 sB P (q.map cW))(hl:q.length<=1000000){f0:Nat}(RX:f0<=1000000){N:Nat}(hN:N<=100000)(F:Nat):∀(m k f:Nat)(s:St)(v:AV)(acc:List Int),k+m=N->m<f->acc.length=k->Mk 1 sB s v (acc.map cW)->
  ∃s' v',Mk 1 sB s' v' ((acc++JF q m (f0+k)).map cW)/\∀k2:Q2,nF c F k2 f [.func 62 [] [.ptr b 0],.int .i64 (f0:Int),v,.int .i64 (N:Int),.int .i64 (k:Int)] s=k2 [v'] s':=by
 intro m;induction m with
 |zero=>
  intro k f s v acc hk hf _ M;obtain⟨f,rfl⟩:∃g,f=g+1:=⟨f - 1,by omega⟩
  obtain rfl:k=N:=by omega
  refine⟨s,v,by simpa [JF]using M,λk2=> ?_⟩;rw[Av];simp
 |succ m ih=>
  intro k f s v acc hk hf ha M;obtain⟨f,rfl⟩:∃g,f=g+1:=⟨f - 1,by omega⟩
  have fU:k<N:=by omega
  have wr:ax .i64 ((k:Int)+1)=((k+1:Nat):Int):=by rw[wrap64 (by omega) (by omega)];omega
  have wf:ax .i64 ((f0:Int)+(k:Int))=((f0+k:Nat):Int):=by rw[wrap64 (by omega) (by omega)];omega
  have wh:=Uy hc (M.aA.get hb) (pq.aA M.aA) hl ((f0+k:Nat):Int);obtain⟨s5,v',a1,M',_,_⟩:=Mk.push (R:=AV×St) (c:=c) (bytes:=8) M (z:=[.int .i64 0]) (x:= .int .i64 (lW q ((f0+k:Nat):Int))) rfl rfl rfl (by decide) (by rw[Zb2];omega) (by rw[Zb2];omega);obtain⟨s',v2,z1,z2⟩:=ih (k+1) f s5 v' (acc++[lW q ((f0+k:Nat):Int)]) (by omega) (by omega) (by simp;omega) (by rw[Zd7];exact M');refine⟨s',v2,by rw[JF];simpa [Zh2]using z1,λk2=> ?_⟩;rw[<-z2 k2,Av];have aU:decide ((k:Int)<(N:Int))=true:=H5 (by omega);simp only[aF,cX,mg,aU,iO,aE,pF,wf,tV,Zf2,List.singleton_append,wh,ic,a1,wr]
end
end
noncomputable section
open Go Go.Ai Go.Proofs
attribute [local go_sem ↓] bW BH ev XM yJ getLT zn Nc RH xw xx Km LX LY LZ ID IE IF IG II IJ L4 L5 IK IL IM IN IP Qc Qd Qe
attribute [local go_sem] bW BH ev
section
variable(c:ai)(F:Nat)(x0 x1 x2 x3 x4 x5 x6 x7 x8 x9 R8 R9:AV)(s:St)
def fV:Sh:=(sq sl (sq sl (sq sl (sq sl (sq sl (sq (sq sl (sb (sp 0 [5,6,7,8,9,29,30] [(1,[4]),(2,[5,6,7,8,9])] (sq sl (sq (sc sl sl) (sq (sb (sq sl (sq sl (sb (sp 1 [5,6,7,8,9,29,30,36,37,38] [(1,[4]),(4,[5,6,7,8,9,29,30])] (sq sl (sq (sc sl sl) (sj [5,6,7,8,9,29,30,36,37,38] (sb (sq sl (sq sl (sq (sq sl (sc (sq sl sl) sl)) (sj [5,6,7,8,9,29,30,36,37,38] (sq sl (sc sl sl)) sl))))) sl)))))))) sl)))))) (sq (sq sl (sb (sp 2 [5,6,7,8,9,94,95,96] [(6,[5,6,7,8,9])] (sq sl (sq (sc sl sl) (sj [5,6,7,8,9,94,95,96] (sb (sq sl (sq sl (sc sl sl)))) sl)))))) (sq sl (sq sl sl)))))))))
def qD:PX 5 fV:=⟨_,by conv=>lhs;reduce⟩
def qa:PL 5 fV 2:=⟨_,by conv=>lhs;reduce⟩
def fK(k6:Q2):Nat->Q2
 |0,_,_=>none
 |n+1,vs,s=>jr c F bY (fK k6 n) [k6] qa.1 vs s
def j0(k6:Q2)(n:Nat)(vs:List AV)(s:St):=(by dsimp only[fK,qa,go_sem,Int.reduceOfNat,Int.reduceNegSucc]:fK c F k6 (n+1) vs s=_)
def qb:PL 5 fV 1:=⟨_,by conv=>lhs;reduce⟩
def ek(k1 k4:Q2):Nat->Q2
 |0,_,_=>none
 |n+1,vs,s=>jr c F bY (ek k1 k4 n) [k1,k4] qb.1 vs s
def j3(k1 k4:Q2)(n:Nat)(vs:List AV)(s:St):=(by dsimp only[ek,qb,go_sem,Int.reduceOfNat,Int.reduceNegSucc]:ek c F k1 k4 (n+1) vs s=_)
def qc:Un->List Q2->Nat->Q2
 |(.s .z),[k1,k4]=>ek c F k1 k4
 |_,_=>λ_=>kz
def qd:PL 5 fV 0:=⟨_,by conv=>lhs;reduce⟩
def fL(k1 k2:Q2):Nat->Q2
 |0,_,_=>none
 |n+1,vs,s=>jr c F (qc c F) (fL k1 k2 n) [k1,k2] qd.1 vs s
def n7(k1 k2:Q2)(n:Nat)(vs:List AV)(s:St):=(by dsimp only[fL,qd, ↓qc,go_sem,Int.reduceOfNat,Int.reduceNegSucc]:fL c F k1 k2 (n+1) vs s=_)
def lz:Un->List Q2->Nat->Q2
 |.z,[k1,k2]=>fL c F k1 k2
 |(.s .z),[k1,k4]=>ek c F k1 k4
 |(.s (.s .z)),[k6]=>fK c F k6
 |_,_=>λ_=>kz
def mV:O2:=bW c F (lz c F) qD.1 [x0,x1] s
def Aw:=(by dsimp only[mV,qD, ↓lz,go_sem,Int.reduceOfNat,Int.reduceNegSucc]:mV c F x0 x1 s=_)
end
section
variable{c:ai}(hc:bU c)(F:Nat){x0 x1 x2 x3 x4 x5 x6 x7 x8 x9 R8 R9:AV}{s:St}{r:AV×St}
include hc
theorem yl(h:mV c F x0 x1 s=some r):c 5 [x0,x1] s=some (tidy s r):=hc.oL F (lz c F) fV 3 (by kernel_rfl) (λi hi=>match i,hi with|0,_=>jM 0 (by kernel_rfl) (λ_ _ _=>by kernel_rfl) (λ_ _ _ _=>by kernel_rfl)|1,_=>jM 1 (by kernel_rfl) (λ_ _ _=>by kernel_rfl) (λ_ _ _ _=>by kernel_rfl)|2,_=>jM 2 (by kernel_rfl) (λ_ _ _=>by kernel_rfl) (λ_ _ _ _=>by kernel_rfl)|n+3,h=>absurd h (by omega)) (by kernel_rfl) h
end
end
section
set_option linter.unusedSimpArgs false
open Go Go.Ai Go.Proofs
variable{c:ai}
theorem aaD{xt:List Nat}(hx:∀x∈xt,x<256):∀t∈fe xt,mU t=0:=λt ht=>by
 obtain⟨i,hi⟩:=Zd3.1 ht;obtain⟨h1,rfl⟩:=zu hi;exact Yh i h1 _ (IV hx (by omega) i)
section
variable{s0 s sB:St}{Vs:List AV}{p:bZ}{P:AV}{q:List Int}{N:Nat}
theorem Yi(hc:bU c)(h:PS s0 s Vs p)(ok:Hl p N)(hk:∀t∈p.ts,mU t=0)(pq:QS 1 s P (q.map cW))(hq:At N p.gs.length q)(hP:P.cells=[P]){t:Nat}(ht:t<p.ts.length):
  ∃s' v,c 18 [.agg Vs,P,.int .i64 (t:Int)] s=some (v,s')/\Mk 1 s s' v ((JF q (cq p.ts[t]).toNat (aX (p.ts.take t)).toNat).map cW):=by
 have hw:=h.aA.wf;have gN:=Grew.af hw (.cells Vs 0);have h1:=h.lH gN;have gB:=Grew.af gN.wf (.cells [P] 0);have h2:=h1.lH gB;obtain⟨V1,V2,r1,r2,e1,e2,T,T2,e5⟩:=h2.rT;have hcut:cut Vs 0 5=some Vs:=bI e5;have va:=Hp hc h1 ok (pq.aA gN) hq;have si:=Mg hc P (af s (.cells Vs 0));rw[hP]at si;have fs:=Yj hc h2 ok.rD.ok ok.tabs e1 ht;have hl:t<r1.length:=by rw[T.len];exact ht
 obtain⟨tv,er,hM,_⟩:=T.pZ t p.ts[t] r1[t] (H4 ht) (H4 hl);obtain⟨tb,to,rd⟩:=T.out.own.rd T.out.row (H4 hl);rw[er]at rd;have Cf:=Zb9 ht;have se:=Ye hc gB.wf hM (ok.rD.ok _ Cf) (hk _ Cf);have ON:=ok.rD.gs;have b7:=ok.rD.ts;have RY:=hq.len;have lt:=λ(K:AV->St->Option (AV×St))(s1:St)=>T.out.own.lenB (c:=c) K s1
 rw[T.len]at lt;have z1:=k9 (p.ts.take t);rw[Zh5]at z1;have z2:=Hh p.ts[t];generalize p.ts[t]=tt at*
 obtain⟨f0,RX⟩:∃f0:Nat,aX (p.ts.take t)=(f0:Int):=⟨(aX (p.ts.take t)).toNat,by omega⟩
 obtain⟨n,hn⟩:∃n:Nat,cq tt=(n:Int):=⟨(cq tt).toNat,by omega⟩
 rw[RX]at fs z1 ⊢;rw[hn]at se z2 ⊢;rw[Zi0,Zi0];obtain⟨s',v,y1,y2⟩:=Yg (c:=c) hc gB.wf (aC _ _) (pq.aA (gN.trans gB)) (by omega) (f0:=f0) (by omega) (N:=n) (by omega) (n+1) n 0 (n+1) _ .ah [] (by omega) (by omega) rfl (Mk.start gB.wf (Grew.refl gB.wf));simp only[show((0:Nat):Int)=0 from rfl,Zf2,Zf0]at y1 y2;have M:=y1.back hw (gN.trans gB);obtain⟨s3,t1,t2⟩:=M.tidy;have gp:=gB.get (aC s (.cells Vs 0));have Yk:=λ{R}=>@rd.st R
 have FD:=rd.all;have d1:decide ((t:Int)<0)=false:=Za2 (by omega);have d2:decide ((p.ts.length:Int)<=(t:Int))=false:=Za2 (by omega);have d3:decide (p.ts.length<=t)=false:=Za2 (by omega);refine⟨s3,v,?_,t2⟩;rw[Mi hc (n+1) (r:=(v,s')),t1];rw[Pz];simp[show ∀l,AV.cells (.agg l)=l from λl=>rfl,aC,aS,hcut,va,si,gp,e1,lt,d1,d2,d3,fs,Yk,FD,se];rw[y2];simp
theorem aaE(pq:QS 1 s P (q.map cW))(hl:q.length<=1000000)(x:Int)(F:Nat)(k2:Q2):∀(m k f n:Nat),k+m=q.length->m<f->n<=k->
  ir c F k2 f [.int .i64 x,.int .i64 (n:Int),P,.int .i64 (q.length:Int),.int .i64 (k:Int)] s=k2 [.int .i64 ((n+(q.drop k).count x:Nat):Int)] s:=by
 intro m;induction m with
 |zero=>
  intro k f n hk hf hn;obtain⟨f,rfl⟩:∃g,f=g+1:=⟨f - 1,by omega⟩
  obtain rfl:k=q.length:=by omega
  rw[lY];simp
 |succ m ih=>
  intro k f n hk hf hn;obtain⟨f,rfl⟩:∃g,f=g+1:=⟨f - 1,by omega⟩
  have fU:k<q.length:=by omega
  obtain⟨pb,po,p⟩:=Ux pq (H4 fU);have p1:=λ{R}=>@p.st R
  have p3:=p.one;have wr:ax .i64 ((k:Int)+1)=((k+1:Nat):Int):=wrap64 (by omega) (by omega);have wn:ax .i64 ((n:Int)+1)=((n+1:Nat):Int):=wrap64 (by omega) (by omega);rw[Ze7 fU,List.count_cons];by_cases e:q[k]=x
  .have e2:(q[k]==x)=true:=(by simpa using e);have d2:decide (q[k]=x)=true:=H5 e;rw[e2,Za8 rfl,show n+((q.drop (k+1)).count x+1)=n+1+(q.drop (k+1)).count x by omega, <-ih (k+1) f (n+1) (by omega) (by omega) (by omega),lY];simp[fU,p1,p3,d2,wr,wn,fA]
  .have e2:(q[k]==x)=false:=(by simpa using e);have d2:decide (q[k]=x)=false:=Za2 e;rw[e2,Za5 (by simp),Zf0 (List.count x _), <-ih (k+1) f n (by omega) (by omega) (by omega),lY];simp[fU,p1,p3,d2,wr,fA]
theorem aaF(hc:bU c)(pq:QS 1 s P (q.map cW))(hl:q.length<=1000000)(x:Int):c 20 [P,.int .i64 x] s=some (.int .i64 ((q.count x:Nat):Int),s):=by
 have ln:=λ(K:AV->St->Option (AV×St))=>pq.lenB (c:=c) K s
 rw[Zb2]at ln;have hi:=λk2=>aaE (c:=c) pq hl x (q.length+1) k2 q.length 0 (q.length+1) 0 (by omega) (by omega) (by omega)
 simp only[Ze3,show((0:Nat):Int)=0 from rfl,Zc7]at hi;rw[Co hc (q.length+1) (r:=(.int .i64 ((q.count x:Nat):Int),s)),aK (Plain.int _ _) (bF.refl s)];rw[EI];simp[ln];rw[hi];simp
theorem VP(hc:bU c)(hz:Nl p)(b7:p.ts.length<=100){V1:AV}{r1:List (List AV)}(T:TS s0 sB V1 p.ts r1)(w0:Wf sB)(F:Nat):∀(m k f:Nat)(s:St),k+m=p.ts.length->m<f->Grew sB s->∃s',Grew sB s'/\∀k2:Q2,
  gF c F k2 f [.int .i64 (aX (p.ts.take k)),V1,.int .i64 (p.ts.length:Int),.int .i64 (k:Int)] s=k2 [.int .i64 (aX p.ts)] s':=by
 intro m;induction m with
 |zero=>
  intro k f s hk hf gr;obtain⟨f,rfl⟩:∃g,f=g+1:=⟨f - 1,by omega⟩
  obtain rfl:k=p.ts.length:=by omega
  refine⟨s,gr,λk2=> ?_⟩;rw[qe,Zh6];simp
 |succ m ih=>
  intro k f s hk hf gr;obtain⟨f,rfl⟩:∃g,f=g+1:=⟨f - 1,by omega⟩
  have fU:k<p.ts.length:=by omega
  have hl:k<r1.length:=by rw[T.len];exact fU
  have T':=T.aA gr;obtain⟨tv,er,hM,_⟩:=T'.pZ k p.ts[k] r1[k] (H4 fU) (H4 hl);obtain⟨tb,to,rd⟩:=T'.out.own.rd T'.out.row (H4 hl);rw[er]at rd;have z:=hz _ (Zb9 fU);have et:aX (p.ts.take (k+1))=aX (p.ts.take k)+cq p.ts[k]:=(EB fU).1;have sz:=Hh p.ts[k];have n1:=k9 (p.ts.take k);rw[Zh5]at n1;have gN:=Grew.af gr.wf (.cells (p.ts[k].au tv) 0);obtain⟨s',g',z2⟩:=ih (k+1) f (af s (.cells (p.ts[k].au tv) 0)) (by omega) (by omega) (gr.trans gN);refine⟨s',g',λk2=> ?_⟩;rw[<-z2 k2,qe,et, <-z.1];have ZD:aQ (p.ts[k].au tv)=true:=aL.KA _ hM.cells.2;have stn:∀(K:AV->St->Option (AV×St)),ak c (.store 7) [.ptr s.next 0,.agg (p.ts[k].au tv)] (af s (.cells [.str [],.int .u8 0,.int .i64 0,.int .i64 0,.ah,.int .i64 0,.int .i64 0] 0)) K=K .undef (af s (.cells (p.ts[k].au tv) 0)):=λK=>dx c K s 7 (.agg (p.ts[k].au tv)) _ rfl rfl ZD
  have zz:=z.1;obtain⟨_,⟨a1,a2⟩,b1,b2⟩:=z;generalize p.ts[k]=t at*
  have Yk:=λ{R}=>@rd.st R
  have FD:=rd.all;have c1:(t.au tv)[1]? =some (.int .u8 t.sh):=rfl;have c2:(t.au tv)[2]? =some (.int .i64 t.a):=rfl;have c3:(t.au tv)[3]? =some (.int .i64 t.b):=rfl;have wr:Unit->ax .i64 ((k:Int)+1)=((k+1:Nat):Int):=λ_=>by rw[wrap64 (by omega) (by omega)];omega
  have gn:=aC s (.cells (t.au tv) 0);obtain⟨S,hS⟩:∃S,S=aX (p.ts.take k):=⟨_,rfl⟩
  rw[<-hS]at n1 ⊢;clear z2 ih rd hM T' gN et;unfold iU at zz ⊢;by_cases h2:t.sh=2
  . (rw[Za8 h2]at zz ⊢;have w1:Unit->ax .i64 (2*t.a)=2*t.a:=λ_=>wrap64 (by omega) (by omega));have w2:Unit->ax .i64 (2*t.a+t.b)=2*t.a+t.b:=λ_=>wrap64 (by omega) (by omega)
    have w3:Unit->ax .i64 (S+(2*t.a+t.b))=S+(2*t.a+t.b):=λ_=>wrap64 (by omega) (by omega)
    simp[fA,fU,Yk,FD,stn,gn,aS,c1,c2,c3,h2,w1 (),w2 (),w3 (),wr ()]
  . rw[Za5 h2]at zz ⊢;by_cases h3:t.sh=3
    .   (rw[Za8 h3]at zz ⊢;have w1:Unit->ax .i64 (2*t.b)=2*t.b:=λ_=>wrap64 (by omega) (by omega));have w2:Unit->ax .i64 (t.a+2*t.b)=t.a+2*t.b:=λ_=>wrap64 (by omega) (by omega)
        have w3:Unit->ax .i64 (S+(t.a+2*t.b))=S+(t.a+2*t.b):=λ_=>wrap64 (by omega) (by omega)
        simp[fA,fU,Yk,FD,stn,gn,aS,c1,c2,c3,h3,w1 (),w2 (),w3 (),wr ()]
    .   (rw[Za5 h3]at zz ⊢;have w3:Unit->ax .i64 (S+t.a)=S+t.a:=λ_=>wrap64 (by omega) (by omega));have d2:decide (t.sh=2)=false:=Za2 h2;have d3:decide (t.sh=3)=false:=Za2 h3;simp[fA,fU,Yk,FD,stn,gn,aS,c1,c2,c3,d2,d3,w3 (),wr ()]
theorem VQ(hc:bU c)(h:PS s0 s Vs p)(ok:Hl p N)(hz:Nl p):c 9 [.agg Vs] s=some (.int .i64 (N:Int),s):=by
 have hw:=h.aA.wf;have gN:=Grew.af hw (.cells Vs 0);have h1:=h.lH gN;obtain⟨V1,V2,r1,r2,e1,e2,T,T2,e5⟩:=h1.rT;have b7:=ok.rD.ts;have lt:=λ(K:AV->St->Option (AV×St))(s1:St)=>T.out.own.lenB (c:=c) K s1
 rw[T.len]at lt;obtain⟨s',g',z2⟩:=VP (c:=c) hc hz b7 T gN.wf (p.ts.length+1) p.ts.length 0 (p.ts.length+1) _ (by omega) (by omega) (Grew.refl gN.wf);simp only[show((0:Nat):Int)=0 from rfl,Zo2,show aX []=0 from rfl]at z2;rw[ok.sum,Ax hc (p.ts.length+1) (r:=(.int .i64 (aX p.ts),s')),aK (Plain.int _ _) (gN.trans g').keeps];rw[Cp];simp[show ∀l,AV.cells (.agg l)=l from λl=>rfl,aC,aS,e1,lt];rw[z2];simp
end
set_option linter.unusedSimpArgs false
section
variable{s0 s sB:St}{Vs:List AV}{p:bZ}{P:AV}{q:List Int}{N:Nat}
theorem aaG{x:Int}(h:q.contains x=true):∃i:Nat,lW q x=(i:Int)/\i<q.length/\q[i]? =some x:=by
 unfold lW;rw[Za8 h];have hm:=Zm1.1 h;have hl:=List.idxOf_lt_length_of_mem hm;exact⟨_,rfl,hl,by rw[H4 hl,List.getElem_idxOf hl]⟩
theorem OZ{x:Int}(h:q.contains x=false):lW q x= -1:=by
 unfold lW;rw[Za5 (by rw[h];simp)]
theorem aaH(hc:bU c)(h:PS s0 s Vs p)(ok:Hl p N)(pq:QS 1 s P (q.map cW))(hq:At N p.gs.length q){b5:Pos}(x5:s.heap.get b5=some (.cells Vs 0)){FL:AV}(hF:QS 1 s FL ((oD q N 0).map cW))
  {W:AV} {n f0:Nat} (hW:QS 1 s W ((JF q n f0).map cW)) (hn:f0+n<=N) (UD O0:AV) (F:Nat) (k1 k4:Q2):∀(m k f:Nat),k+m=n->m<f->
  ek c F k1 k4 f [.ptr b5 0,P,FL,.int .i64 ((f0+k:Nat):Int),.int .i64 ((sC (p9 q) (f0+k):Nat):Int),UD,O0,W,.int .i64 (n:Int),.int .i64 (k:Int)] s=
    k4 [.ptr b5 0,P,FL,.int .i64 ((f0+n:Nat):Int),.int .i64 ((sC (p9 q) (f0+n):Nat):Int),UD,O0] s:=by
 have hle:=ok.le;have ON:=ok.rD.gs;have RY:=hq.len;have hcut:cut Vs 0 5=some Vs:=bI h.cells.1;have ln:=λ(K:AV->St->Option (AV×St))=>pq.lenB (c:=c) K s
 rw[Zb2]at ln;intro m;induction m with
 |zero=>
  intro k f hk hf;obtain⟨f,rfl⟩:∃g,f=g+1:=⟨f - 1,by omega⟩
  obtain rfl:k=n:=by omega
  rw[j3];simp
 |succ m ih=>
  intro k f hk hf;obtain⟨f,rfl⟩:∃g,f=g+1:=⟨f - 1,by omega⟩
  have Ra:k<n:=by omega
  obtain⟨a,ha⟩:∃a:Nat,a=f0+k:=⟨_,rfl⟩
  have gg:=UC q n f0 k Ra;rw[<-ha]at gg ⊢;obtain⟨wb,wo,p⟩:=Ux hW gg;have p1:=λ{R}=>@p.st R
  have p3:=p.one;have at':=abB hc h ok pq hq a;have ct:=Px hc hF (by have:=OR q N 0;omega) (a:Int);rw[OY,H5 (Zj5 _),H5 (show a<0+N by omega),Zf5,Zf5]at ct;have scn:=abA (p9 q) a;have wr:Unit->ax .i64 ((k:Int)+1)=((k+1:Nat):Int):=λ_=>wrap64 (by omega) (by omega)
  have wa:Unit->ax .i64 ((a:Int)+1)=((a+1:Nat):Int):=λ_=>by rw[wrap64 (by omega) (by omega)];omega
  have es:sC (p9 q) (a+1)=sC (p9 q) a+(q.contains (a:Int)).toNat:=rfl;have aU:decide ((k:Int)<(n:Int))=true:=H5 (by omega);have Hu:=ih (k+1) f (by omega) (by omega);rw[show f0+(k+1)=a+1 by omega,es]at Hu;obtain⟨C,hC⟩:∃C:Nat,C=sC (p9 q) a:=⟨_,rfl⟩
  rw[<-hC]at Hu scn ⊢;cases hcq:q.contains (a:Int)
  .rw[hcq]at at' ct Hu;rw[OZ hcq]at at' p3;simp only[Bool.toNat_false,Zf0]at Hu;rw[<-Hu,j3];have l1:decide ((q.length:Int)<= -1)=false:=Za2 (by omega);simp[fA,aU,Ra,p1,p3,x5,aS,hcut,at',ct,ln,l1,wr (),wa (),show max (-1:Int) 0=0 from rfl]
  . (rw[hcq]at at' ct Hu;obtain⟨i,hi,js,hiq⟩:=aaG hcq;rw[hi]at at' p3;obtain⟨ib,io,pi⟩:=Ux pq hiq;have q1:=λ{R}=>@pi.st R);have q3:=pi.one;have wc:Unit->ax .i64 ((C:Int)+1)=((C+1:Nat):Int):=λ_=>wrap64 (by omega) (by omega)
    simp only[Bool.toNat_true]at Hu;rw[<-Hu,j3];have m0:max (i:Int) 0=(i:Int):=(by omega);rw[m0]at at';have l1:decide ((q.length:Int)<=(i:Int))=false:=Za2 (by omega);have l2:decide (q.length<=i)=false:=Za2 (by omega);have l3:decide ((i:Int)< -1)=false:=Za2 (by omega);have l4:decide ((0:Int)<=(i:Int))=true:=H5 (by omega);simp[fA,aU,Ra,p1,p3,x5,aS,hcut,at',ct,ln,l1,l2,l3,l4,q1,q3,wr (),wa (),wc ()]
theorem aaI(pq:QS 1 s P (q.map cW))(hl:q.length<=1000000)(x5 x6 x7 x8:AV)(F:Nat)(k6:Q2):∀(m k f:Nat),k+m=q.length->m<f->
  fK c F k6 f [x5,x6,x7,x8,.int .i64 ((((q.drop k).filter λx=>decide (0<=x)).length:Nat):Int),P,.int .i64 (q.length:Int),.int .i64 (k:Int)] s=k6 [x5,x6,x7,x8,.int .i64 0] s:=by
 intro m;induction m with
 |zero=>
  intro k f hk hf;obtain⟨f,rfl⟩:∃g,f=g+1:=⟨f - 1,by omega⟩
  obtain rfl:k=q.length:=by omega
  rw[j0];simp
 |succ m ih=>
  intro k f hk hf;obtain⟨f,rfl⟩:∃g,f=g+1:=⟨f - 1,by omega⟩
  have fU:k<q.length:=by omega
  obtain⟨pb,po,p⟩:=Ux pq (H4 fU);have p1:=λ{R}=>@p.st R
  have p3:=p.one;have wr:Unit->ax .i64 ((k:Int)+1)=((k+1:Nat):Int):=λ_=>wrap64 (by omega) (by omega)
  have Hu:=ih (k+1) f (by omega) (by omega);have hlen:((q.drop (k+1)).filter λx=>decide (0<=x)).length<=1000000:=Zc4 (Zm2 ..) (by rw[Zo9];omega);rw[Ze7 fU];generalize q[k]=x at*
  by_cases h0:0<=x
  . rw[Zl3 (by simpa using h0),Ze2];generalize ((q.drop (k+1)).filter λx=>decide (0<=x)).length=L at*
    have wn:Unit->ax .i64 (((L+1:Nat):Int) - 1)=(L:Int):=λ_=>by rw[wrap64 (by omega) (by omega)];omega
    have d0:decide (0<=x)=true:=H5 h0;rw[<-Hu,j0];have wL:Unit->ax .i64 (L:Int)=(L:Int):=λ_=>wrap64 (by omega) (by omega)
    simp[fA,fU,p1,p3,d0,wr (),wL (),wn ()]
  .rw[Zl4 (by simpa using h0)];have d0:decide (0<=x)=false:=Za2 h0;rw[<-Hu,j0];simp[fA,fU,p1,p3,d0,wr ()]
theorem aaJ(hc:bU c)(h:PS s0 s Vs p)(ok:Hl p N)(hk:∀t∈p.ts,mU t=0)(pq:QS 1 s P (q.map cW))(hq:At N p.gs.length q)(hP:P.cells=[P]){b5:Pos}(x5:s.heap.get b5=some (.cells Vs 0)){FL:AV}(hF:QS 1 s FL ((oD q N 0).map cW))(F:Nat)(hF25:25<=F):∀(m k f:Nat)(s1:St),k+m=p.ts.length->m<f->Grew s s1->∃s',Grew s s'/\∀k1 k2:Q2,
  fL c F k1 k2 f [.ptr b5 0,P,FL,.int .i64 (((aX (p.ts.take k)).toNat:Nat):Int),.int .i64 ((sC (p9 q) (aX (p.ts.take k)).toNat:Nat):Int),.int .i64 (p.ts.length:Int),.int .i64 (k:Int)] s1=k2 [.ptr b5 0,P,FL,.int .i64 (N:Int),.int .i64 ((sC (p9 q) N:Nat):Int)] s':=by
 have b7:=ok.rD.ts;obtain⟨vl,vo⟩:=h.cells;intro m;induction m with
 |zero=>
  intro k f s1 jB hf gr;obtain⟨f,rfl⟩:∃g,f=g+1:=⟨f - 1,by omega⟩
  obtain rfl:k=p.ts.length:=by omega
  refine⟨s1,gr,λk1 k2=> ?_⟩;rw[n7,Zh6, <-ok.sum,Zi0];simp
 |succ m ih=>
  intro k f s1 jB hf gr;obtain⟨f,rfl⟩:∃g,f=g+1:=⟨f - 1,by omega⟩
  have fU:k<p.ts.length:=by omega
  obtain⟨s2,W,gu,M⟩:=Yi hc (h.lH gr) ok hk (pq.aA gr) hq hP fU;have g2:=gr.trans M.aA;obtain⟨s',g',z⟩:=ih (k+1) f s2 (by omega) (by omega) g2;refine⟨s',g',λk1 k2=> ?_⟩;have z:=z k1 k2;obtain⟨e1,e2⟩:=EB fU;rw[<-ok.sum]at e2;have z1:=(k9 (p.ts.take k)).1;have z2:=Hh p.ts[k];have n1:=(k9 (p.ts.take (k+1))).1;obtain⟨f0,RX⟩:∃f0:Nat,aX (p.ts.take k)=(f0:Int):=⟨(aX (p.ts.take k)).toNat,by omega⟩
  obtain⟨n,hn⟩:∃n:Nat,cq p.ts[k]=(n:Int):=⟨(cq p.ts[k]).toNat,by omega⟩
  have e3:aX (p.ts.take (k+1))=((f0+n:Nat):Int):=by omega
  rw[RX,hn]at M;rw[e3]at z;rw[RX];rw[hn]at z2;rw[Zi0]at M z ⊢;rw[Zi0]at M;have l1:=aaH (c:=c) hc (h.lH g2) ok (pq.aA g2) hq (g2.get x5) (hF.aA g2) M.own (show f0+n<=N by omega) (.int .i64 (p.ts.length:Int)) (.int .i64 (k:Int)) F (λos st=>ji os λv vs=>pX vs (k1 [v] st));have l1:=λk4=>l1 k4 n 0 F (by omega) (by omega)
  simp only[Zf0,show((0:Nat):Int)=0 from rfl]at l1;have ln:=λ(K:AV->St->Option (AV×St))=>M.own.lenB (c:=c) K s2
  rw[Zb2,UB]at ln;have l5:∀(K:AV->St->Option (AV×St)),ak c (.load (some 5)) [.ptr b5 0] s1 K=K (.agg Vs) s1:=λK=>Hs (gr.get x5) vl K
  have wr:Unit->ax .i64 ((k:Int)+1)=((k+1:Nat):Int):=λ_=>wrap64 (by omega) (by omega)
  have aU:decide ((k:Int)<(p.ts.length:Int))=true:=H5 (by omega);rw[<-z,n7];simp only[aF,cX,mg,aU,iO,aE,l5,kI,gu,ic,ln,l1,pF,wr ()]
end
theorem Qm(hc:bU c){xt xg xy xr:List Nat}(ht:∀x∈xt,x<256)(hg:∀x∈xg,x<65536)(hy:∀x∈xy,x<256)(hr:∀x∈xr,x<4294967296)(lt:xt.length<=9223372036854775807)(lg:xg.length<=9223372036854775807)(lr:xr.length<=9223372036854775807)(ly:xy.length<=9223372036854775807)
  (zt zg zy zr z:Bool) (xs:List Int) (hx:xs.length<=9223372036854775807) (st:St) (hw:Wf st):
  c 5 [.agg (iW zt zg zy zr xt xg xy xr),ints z xs] st=some (.bool true,st):=by
 have g1:=Grew.af hw (.cells (iW zt zg zy zr xt xg xy xr) 0);obtain⟨Vs,s2,M,P⟩:=acg hc ht hg hy hr lt lg lr ly zt zg zy zr _ g1.wf;obtain⟨vl,vo⟩:=P.cells;have gB:=Grew.af P.aA.wf (.cells Vs 0);have st5:∀(K:AV->St->Option (AV×St)),ak c (.store 5) [.ptr s2.next 0,.agg Vs] (af s2 (.cells [.ah,.ah,.ah,.ah,.ah] 0)) K=K .undef (af s2 (.cells Vs 0)):=λK=>dx c K s2 5 (.agg Vs) _ vl rfl vo
 have P3:=P.lH gB;have ok:=aaC (xg:=xg) (xy:=xy) (xr:=xr) ht;obtain⟨s4,v,Se,Mq⟩:=X5 hc P3 (OU ht) ok.rD.ts ok.rD.gs ok.sum z xs hx;have hq:=Ya (pg xt) (mF xt xg xy xr).gs.length xs;generalize eX (List.replicate (pg xt) false) (xR (FB (pg xt) xs) (mF xt xg xy xr).gs.length 0)=q at*
 have hql:q.length<=100:=by rw[hq.len];exact ok.rD.gs
 have P4:=P3.lH Mq.aA;obtain⟨s5,f1,F1,MF⟩:=acf hc P4 ok Mq.own hq (by rcases QS.cells Mq.own with⟨h,_⟩;exact h);have P5:=P4.lH MF.aA;have q5:=Mq.own.aA MF.aA;have x5:=MF.aA.get (Mq.aA.get (aC s2 (.cells Vs 0)));have Yl:v.cells=[v]:=by rcases QS.cells Mq.own with⟨h,_⟩;exact h
 have hN:=ok.le;obtain⟨V1,V2,r1,r2,e1,_,T,_,_⟩:=P5.rT;have b7:=ok.rD.ts;have ON:=ok.rD.gs;obtain⟨s6,G6,z0⟩:=aaJ (c:=c) hc P5 ok (aaD ht) q5 hq Yl x5 MF.own 200 (by omega) (mF xt xg xy xr).ts.length 0 200 s5 (by omega) (by omega) (Grew.refl P5.aA.wf);have P6:=P5.lH G6;have q6:=q5.aA G6;have x6:=G6.get x5;have F6:=MF.own.aA G6;have RY:=hq.len;simp only[Zo2,show(aX []).toNat=0 from rfl,show sC (p9 q) 0=0 from rfl,show((0:Nat):Int)=0 from rfl]at z0;have z2:=λx5 x6 x7 x8 k6=>aaI (c:=c) q6 (by omega) x5 x6 x7 x8 200 k6 q.length 0 200 (by omega) (by omega)
 rw[Ze3, <-Ht hq]at z2;simp only[show((0:Nat):Int)=0 from rfl]at z2;have at6:=abB hc P6 ok q6 hq (pg xt);have hnc:q.contains ((pg xt:Nat):Int)=false:=by
  cases e:q.contains ((pg xt:Nat):Int)with
  |false=>rfl
  |true=>have:=(hq.RQ _ (Zm1.1 e)).2;omega
 rw[hnc,OZ hnc]at at6;have si:=VQ hc P6 ok (OU ht);have cn:=aaF hc q6 (by omega) (-1);have lf:=λ(K:AV->St->Option (AV×St))=>F6.lenB (c:=c) K s6
 have lq:=λ(K:AV->St->Option (AV×St))=>q6.lenB (c:=c) K s6
 have lq5:=λ(K:AV->St->Option (AV×St))=>q5.lenB (c:=c) K s6
 have lt5:=λ(K:AV->St->Option (AV×St))=>T.out.own.lenB (c:=c) K s5
 rw[Zb2]at lf lq lq5;rw[T.len]at lt5;have fc:=JE q (pg xt) 0;rw[Zc7,show sC (p9 q) 0=0 from rfl,Zf0]at fc;have cg:=Yc λx hx=>(hq.RQ x hx).1
 rw[<-Ht hq]at cg;have hcut:cut Vs 0 5=some Vs:=bI vl;have ld4:∀(K:AV->St->Option (AV×St)),ak c (.load (some 4)) [.ptr st.next 0] (af st (.cells (iW zt zg zy zr xt xg xy xr) 0)) K=K (.agg (iW zt zg zy zr xt xg xy xr)) (af st (.cells (iW zt zg zy zr xt xg xy xr) 0)):=λK=>by rw[sg,aC];rfl
 have al:∀(K:AV->St->Option (AV×St)),ak c (.alloc [.ah,.ah,.ah,.ah,.ah]) [] s2 K=K (.ptr s2.next 0) (af s2 (.cells [.ah,.ah,.ah,.ah,.ah] 0)):=λK=>by simp
 have bx:∀(K:AV->St->Option (AV×St)),ak c .box [.agg (iW zt zg zy zr xt xg xy xr)] st K=K (.ptr st.next 0) (af st (.cells (iW zt zg zy zr xt xg xy xr) 0)):=λK=>by simp[AV.cells]
 have l5:∀(K:AV->St->Option (AV×St)),ak c (.load (some 5)) [.ptr s2.next 0] (af s2 (.cells Vs 0)) K=K (.agg Vs) (af s2 (.cells Vs 0)):=λK=>Hs (aC _ _) vl K
 have l54:∀(K:AV->St->Option (AV×St)),ak c (.load (some 5)) [.ptr s2.next 0] s4 K=K (.agg Vs) s4:=λK=>Hs (Mq.aA.get (aC _ _)) vl K
 have G:=(g1.trans P.aA).trans ((gB.trans Mq.aA).trans (MF.aA.trans G6));rw[yl hc 200 (r:=(.bool true,s6)),aK (Plain.bool _) G.keeps];rw[Aw];obtain⟨A,hA⟩:∃A,A=(oD q (pg xt) 0).length:=⟨_,rfl⟩
 obtain⟨B,hB⟩:∃B,B=sC (p9 q) (pg xt):=⟨_,rfl⟩
 obtain⟨D,hD⟩:∃D,D=q.count (-1):=⟨_,rfl⟩
 rw[<-hA, <-hB]at fc;rw[<-hB, <-hD]at cg;rw[<-hA]at lf;rw[<-hB]at z0 z2;rw[<-hD]at cn;have w1:Unit->ax .i64 ((A:Int)+(q.length:Int))=((A+q.length:Nat):Int):=λ_=>by rw[wrap64 (by omega) (by omega)];omega
 have w2:Unit->ax .i64 ((A:Int)+(q.length:Int) - (D:Int))=((pg xt:Nat):Int):=λ_=>by rw[wrap64 (by omega) (by omega)];omega
 rw[bx,aE,ld4,kI,M,ic,al,st5,l5,aE,kI,Se,ic,aE,l54,aE,kI,F1,ic,aE,aE,aE];simp[x5,aS,e1,lt5,z0,lq,z2,x6,hcut,at6,si,lf,cn,w1 (),w2 (),Ym hc]
end
end Go.Proofs.YtoeleelojgimfaaGreatDoor
namespace Go.Proofs.YtoeleelojgimfaaGreatDoor.xA
section
open Go
theorem k1:(Rows.planShowsRow.inPlace==Tryz.pinned.checked.prog.inPlace 5)=true:=by kernel_rfl
theorem k2:(Rows.planShowsRow.unfollowed==Tryz.pinned.checked.prog.unfollowed 5)=true:=by kernel_rfl
theorem k3:(Rows.planShowsRow.recurses==Tryz.pinned.checked.prog.recurses 5)=true:=by kernel_rfl
theorem k4:(Rows.planShowsRow.named==Tryz.pinned.checked.prog.varsNamed 5)=true:=by kernel_rfl
theorem k5:laidOutB Tryz.pinned.checked.prog=true:=by kernel_rfl
theorem k6:mapsRowed Tryz.pinned.checked.prog=true:=by kernel_rfl
theorem k7:(Rows.planShowsRow.plainKeys==Tryz.pinned.checked.prog.plainKeys)=true:=by kernel_rfl
theorem closed:joinedFacts Tryz.pinned.checked.prog 5 Tryz.f5 (OpenSpec.ofChange Rows.planShowsSpec).bare Rows.planShowsRow=true:=by
 unfold joinedFacts;rw[k1,k2,k3,k4,k5,k6,k7]
 kernel_rfl
end
end Go.Proofs.YtoeleelojgimfaaGreatDoor.xA
