/- Partial plans, the law. -/
import Derived.Test.YtoeleelojgimfaaGreatDoorPMade
import Derived.Test.YtoeleelojgimfaaGreatDoorRows
import Derived.Deep.DeepHandedRow
set_option linter.all false
set_option maxRecDepth 100000
set_option maxHeartbeats 4000000
namespace Go.Proofs.YtoeleelojgimfaaGreatDoor
section
set_option linter.unusedSimpArgs false
open Go Go.Ai Go.Proofs
variable{c:ai}
theorem Xl(t:aR):0<=dN t/\dN t<=24:=by
 unfold dN;repeat' split
 all_goals omega
theorem Rf(a b:List aR):bC (a++b)=bC a+bC b:=by simp[bC]
theorem U3{ts:List aR}{k:Nat}(hk:k<ts.length):bC (ts.take (k+1))=bC (ts.take k)+dN ts[k]/\bC (ts.take (k+1))<=bC ts:=by refine⟨by rw[Zd0 hk,Rf];simp[bC],?_⟩;have h:=Rf (ts.take (k+1)) (ts.drop (k+1));rw[Zk0]at h;have:=(sY (ts.drop (k+1))).1;omega
theorem TS.aA{s0 s s':St}{V:AV}{ts:List aR}{rows:List (List AV)}(h:TS s0 s V ts rows)(g:Grew s s'):TS s0 s' V ts rows:=
 ⟨h.out.grow g,h.len,λi t r a b=>by obtain⟨v,e1,e2,e3⟩:=h.qU i t r a b;exact⟨v,e1,e2.grow g,e3⟩⟩
theorem GS.aA{s0 s s':St}{V:AV}{ts:List aN}{rows:List (List AV)}(h:GS s0 s V ts rows)(g:Grew s s'):GS s0 s' V ts rows:=
 ⟨h.out.grow g,h.len,λi t r a b=>by obtain⟨v,e1,e2,e3⟩:=h.qU i t r a b;exact⟨v,e1,e2.grow g,e3⟩⟩
theorem PS.n7{s0 s s':St}{Vs:List AV}{p:bX}(h:PS s0 s Vs p)(g:Grew s s'):PS s0 s' Vs p:=by
 obtain⟨V1,V2,V3,V4,V5,r1,r2,rfl,h1,h2,h3,h4,h5⟩:=h.all;exact⟨h.aA.trans g,V1,V2,V3,V4,V5,r1,r2,rfl,h1.aA g,h2.aA g,h3.grow g,h4.grow g,h5.grow g⟩
def sI(x:Int)(n:Nat):Nat:=(x % (n:Int)).toNat
theorem ZK(x:Int){n:Nat}(h:0<n):sI x n<n:=by have h1:=Zp1 x (show(n:Int)≠0 by omega);have h2:=Zn9 x (show(0:Int)<(n:Int)by omega);unfold sI;omega
theorem abq(hc:cE c)(x:Int){n:Nat}(h:0<n)(hn:n<=1000000)(s:St):c 26 [.int .i64 x,.int .i64 (n:Int)] s=some (.int .i64 ((sI x n:Nat):Int),s):=by
 have h1:=Zp1 x (show(n:Int)≠0 by omega);have h2:=Zn9 x (show(0:Int)<(n:Int)by omega);have e:((sI x n:Nat):Int)=x % (n:Int):=by unfold sI;omega
 have rm:=λ(K:AV->St->Option (AV×St))(s:St)=>Tq c K s .num .i64 x (n:Int) (by omega)
 have t:=Int.tmod_eq_emod (a:=x) (b:=(n:Int));rw[Fl hc 1 (r:=(.int .i64 ((sI x n:Nat):Int),s)),aL (Plain.int _ _) (bD.refl s)];rw[H9,e];by_cases hd:0<=x\/(n:Int) ∣ x
 .rw[Za7 hd]at t;have t:x.tmod (n:Int)=x % (n:Int):=(by rw[t];exact Int.sub_zero _);have d:decide (x % (n:Int)<0)=false:=Za2 (by omega);simp[-eE,rm,t,fY,d]
 .rw[Za5 hd]at t;have t:x.tmod (n:Int)=x % (n:Int) - (n:Int):=(by rw[t,Int.natAbs_natCast]);have d:decide (x % (n:Int) - (n:Int)<0)=true:=H5 (by omega);have w:ay .i64 (x % (n:Int))=x % (n:Int):=wrap64 (by omega) (by omega);simp[-eE,rm,t,fY,d,w]
abbrev je(tk:List Bool):List AV:=tk.map AV.bool
theorem ZL{tb:Pos}{tk:List Bool}(hl:tk.length<=1000000){fr:Nat}(hf:fr<=1000000){s:St}(ht:s.heap.get tb=some (.cells (je tk) 0))(F:Nat):∀(m k f:Nat),k+m=tk.length->m<f->∀k1 k2:Q2,
  gZ c F k1 k2 f [.slice tb 0 tk.length (some tk.length) 1,.int .i64 (fr:Int),.int .i64 (k:Int)] s=
    match kP tk fr m k with
    |some i=>k1 [.int .i64 (i:Int)] (cm s tb (.cells (je (tk.set i true)) 0))
    |none=>k2 [] s:=by
 intro m;induction m with
 |zero=>
  intro k f hk hf k1 k2;obtain⟨f,rfl⟩:∃g,f=g+1:=⟨f - 1,by omega⟩
  obtain rfl:k=tk.length:=by omega
  rw[lu];simp[zM,kP]
 |succ m ih=>
  intro k f hk hf k1 k2;obtain⟨f,rfl⟩:∃g,f=g+1:=⟨f - 1,by omega⟩
  have jP:k<tk.length:=by omega
  have aV:decide ((k:Int)<(tk.length:Int))=true:=H5 (by omega);have w1:ay .i64 ((fr:Int)+(k:Int))=((fr+k:Nat):Int):=by rw[wrap64 (by omega) (by omega)];omega
  have wr:ay .i64 ((k:Int)+1)=((k+1:Nat):Int):=by rw[wrap64 (by omega) (by omega)];omega
  have hi:(fr+k) % tk.length<tk.length:=Zh8 _ (by omega);have rm:∀(K:AV->St->Option (AV×St))(s:St),ak c (.bin .rem .num) [.int .i64 ((fr+k:Nat):Int),.int .i64 (tk.length:Int)] s K=K (.int .i64 (((fr+k) % tk.length:Nat):Int)) s:=λK s=>by
    rw[bN (by omega) (by omega),Zj4]
  generalize hm:(fr+k) % tk.length=i at*
  have ix:=λ(K:AV->St->Option (AV×St))(s1:St)=>wj c K s1 (b:=tb) (off:=0) (len:=tk.length) (es:=1) (es':=1) (cap:=some tk.length) (k:= .i64) (i:=i) hi
  simp only[Zc3,Zj5]at ix;have ec:(je tk)[i]? =some (.bool tk[i]):=by rw[Zc0,H4 hi];rfl
  have eg:tk.getD i true=tk[i]:=by rw[Zb4,H4 hi];rfl
  unfold kP;rw[hm,eg];cases hb:tk[i]
  . (rw[hb]at ec;have pt:=λ(K:AV->St->Option (AV×St))=>Tt (c:=c) K ht (o:=i) (by rw[Zb3];exact hi) (v:= .bool true) rfl rfl);rw[show(je tk).set i (.bool true)=je (tk.set i true)from(List.map_set).symm]at pt;rw[Za7 rfl,lu];simp only[aH,dD,aE,zM,oR,aV,jL,tK,w1,rm,ix,iH,ht,bf,Zd1,ec,lU,zd,Zn4,pt]
  .rw[hb]at ec;rw[Za5 (by simp), <-ih (k+1) f (by omega) (by omega) k1 k2,lu];simp only[aH,dD,aE,zM,oR,aV,jL,jW,tK,w1,rm,ix,iH,ht,bf,Zd1,ec,lU,zd,Bool.not_true,wr]
theorem Xm{a b:List Bool}(h:je a=je b):a=b:=by
 induction a generalizing b with
 |nil=>cases b with|nil=>rfl|cons y b=>simp at h
 |cons x a ih=>
  cases b with
  |nil=>simp at h
  |cons y b=>
   simp only[Zd4,Zf4,AV.bool.injEq]at h;rw[h.1,ih h.2]
theorem Xn(hc:cE c){tb:Pos}{tk:List Bool}(hl:tk.length<=1000000){fr:Nat}(hf:fr<=1000000){s:St}(ht:s.heap.get tb=some (.cells (je tk) 0)):
  c 27 [.slice tb 0 tk.length (some tk.length) 1,.int .i64 (fr:Int)] s=some (.int .i64 (kQ tk fr).2,cm s tb (.cells (je (kQ tk fr).1) 0)):=by
 have lp:=λ(k1 k2:Q2)=>ZL (c:=c) hl hf ht (tk.length+1) tk.length 0 (tk.length+1) (by omega) (by omega) k1 k2
 simp only[show((0:Nat):Int)=0 from rfl]at lp;unfold kQ;cases Io:kP tk fr tk.length 0 with
 |none=>
  simp only[Io]at lp ⊢;rw[ab2 ht];rw[rK hc (tk.length+1) (r:=(.int .i64 (-1),s)),aL (Plain.int _ _) (bD.refl s)];rw[uE];simp[lp]
 |some i=>
  simp only[Io]at lp ⊢;have hb:=xR Io;have ne:tk.set i true≠tk:=λe=>by have h2:(tk.set i true)[i]? =some true:=(by rw[List.getElem?_set_self (Za0.1 hb).1]);rw[e,hb]at h2;cases h2
  rw[rK hc (tk.length+1) (r:=(.int .i64 (i:Int),cm s tb (.cells (je (tk.set i true)) 0))),Ml ht (by rw[dF];intro e;simp only[H0,AB.cells.injEq,Zk6]at e;exact ne (Xm e))];rw[uE];simp[lp]
def U4(p:bX):Prop:=∀t∈p.ts,jf t.sh t.a t.b=dN t/\(0<=t.a/\t.a<=1000000)/\0<=t.b/\t.b<=1000000
section
variable{st sB s:St}{Vs:List AV}{p:bX}
theorem PS.rT(h:PS st s Vs p):∃V1 V2 r1 r2,Vs[0]? =some V1/\Vs[1]? =some V2/\TS st s V1 p.ts r1/\GS st s V2 p.gs r2/\Vs.length=5:=by
 obtain⟨V1,V2,V3,V4,V5,r1,r2,rfl,h1,h2,_⟩:=h.all;exact⟨V1,V2,r1,r2,rfl,rfl,h1,h2,rfl⟩
theorem TS.Oa{V:AV}{ts:List aR}{rows:List (List AV)}(h:TS st s V ts rows){t:Nat}{T:aR}(ht:ts[t]? =some T):∃v b o,Rd s 7 V t b o (T.az v):=by
 have hl:t<rows.length:=by rw[h.len];exact(Za0.1 ht).1
 obtain⟨v,e,_⟩:=h.qU t T rows[t] ht (H4 hl);obtain⟨b,o,h4⟩:=h.out.own.rd h.out.row (H4 hl);exact⟨v,b,o,by rw[<-e];exact h4⟩
theorem U5(hc:cE c)(hz:U4 p)(cv:p.ts.length<=100){pb:Pos}{V1:AV}{cs:List AV}{r1:List (List AV)}(hw:Wf s)(hp:s.heap.get pb=some (.cells cs 0))(h0:cs[0]? =some V1)(T:TS st s V1 p.ts r1)(F:Nat):∀(m k f:Nat),k+m=p.ts.length->m<f->∀k2:Q2,
  fZ c F k2 f [.ptr pb 0,.int .i64 (bC (p.ts.take k)),.int .i64 (k:Int)] s=k2 [.int .i64 (bC p.ts)] s:=by
 have ln:=λ(K:AV->St->Option (AV×St))=>T.out.own.lenB (c:=c) K s
 rw[T.len]at ln;intro m;induction m with
 |zero=>
  intro k f hk hf k2;obtain⟨f,rfl⟩:∃g,f=g+1:=⟨f - 1,by omega⟩
  obtain rfl:k=p.ts.length:=by omega
  rw[pO,Zi8];simp[hp,h0,ln]
 |succ m ih=>
  intro k f hk hf k2;obtain⟨f,rfl⟩:∃g,f=g+1:=⟨f - 1,by omega⟩
  have jP:k<p.ts.length:=by omega
  have hi:=H4 jP;obtain⟨v,b,o,h1⟩:=T.Oa hi;have z:=hz _ (Zb9 jP);have sz:=Xl p.ts[k];have sn:=(Xl p.ts[k]).1;have et:bC (p.ts.take (k+1))=bC (p.ts.take k)+dN p.ts[k]:=(U3 jP).1;generalize p.ts[k]=t at*
  have r1:=λ{R}=>@h1.st R
  have r2:=h1.all;have sl:=zP hc (l:=t.az v) (sh:=t.sh) (a:=t.a) (b:=t.b) rfl rfl rfl z.2.1 z.2.2 s hw;rw[z.1]at sl;have n1:=sY (p.ts.take k);rw[Zi7]at n1;have aV:decide ((k:Int)<(p.ts.length:Int))=true:=H5 (by omega);have w1:ay .i64 (bC (p.ts.take k)+dN t)=bC (p.ts.take k)+dN t:=wrap64 (by omega) (by omega);have wr:ay .i64 ((k:Int)+1)=((k+1:Nat):Int):=by rw[wrap64 (by omega) (by omega)];omega
  rw[<-ih (k+1) f (by omega) (by omega) k2,pO,et];simp only[aH,dD,aE,cS,Zc3,iH,hp,bf,Zd1,h0,lU,ln,oR,aV,jL,r1,rJ,r2,p7,kA,sl,iV,tK,w1,wr]
theorem U6(hc:cE c)(h:PS st s Vs p)(hz:U4 p)(cv:p.ts.length<=100):c 25 [.agg Vs] s=some (.int .i64 (bC p.ts),s):=by
 have hw:=h.aA.wf;have gN:=Grew.af hw (.cells Vs 0);obtain⟨V1,V2,r1,r2,e1,_,T,_,_⟩:=(h.n7 gN).rT;have lp:=λ(k2:Q2)=>U5 (c:=c) hc hz cv gN.wf (aD s (.cells Vs 0)) e1 T (p.ts.length+1) p.ts.length 0 (p.ts.length+1) (by omega) (by omega) k2
 simp only[List.take_zero,show bC ([]:List aR)=0 from rfl,show((0:Nat):Int)=0 from rfl]at lp;rw[zQ hc (p.ts.length+1) (r:=(.int .i64 (bC p.ts),af s (.cells Vs 0))),aL (Plain.int _ _) gN.keeps];rw[BN];simp only[oW,show ∀l,AV.cells (.agg l)=l from λl=>rfl,aE,lp,aH,dD]
def xA(ch:Nat->Ch):Nat->Nat->List Ch
 |0,_=>[]
 |m+1,k=>ch k::xA ch m (k+1)
structure IU(sB s:St)(tb:Pos)(tk:List Bool)(v:AV)(R:List Int):Prop where
 Gp:Mk 1 sB s v (R.map cU)
 tkn:s.heap.get tb=some (.cells (je tk) 0)
 ge:sB.next.toNat<=tb.toNat
 ap:∀b,aZ v=some b->tb.toNat+1<=b.toNat
theorem IU.set{tb:Pos}{tk mY:List Bool}{v:AV}{R:List Int}(h:IU sB s tb tk v R):IU sB (cm s tb (.cells (je mY) 0)) tb mY v R:=by
 have aV:=h.Gp.aA.wf _ _ h.tkn;have g:=wu h.Gp.pL h.Gp.aA h.ge aV (.cells (je mY) 0);exact⟨h.Gp.sH g λb x hb hx=>by rw[br (λe=>by have:=h.ap b hb;rw[<-e]at this;omega)];exact hx,dF _ _ _,h.ge,h.ap⟩
theorem IU.push{tb:Pos}{tk:List Bool}{v:AV}{R:List Int}(h:IU sB s tb tk v R)(hR:R.length<=1000)(x:Int):∃s5 v',(∀(K:AV->St->Option (AV×St)),ak c (.buildSlice 1 1 [.int .i64 0] [0]) [.int .i64 x] s (λy t=>ak c (.append 1 8) [v,y] t K)=K v' s5)/\IU sB s5 tb tk v' (R++[x]):=by have aV:=h.Gp.aA.wf _ _ h.tkn;obtain⟨s5,v5,a1,a2,a3,a4⟩:=h.Gp.push (R:=AV×St) (c:=c) (bytes:=8) (z:=[.int .i64 0]) (x:= .int .i64 x) rfl rfl rfl (by omega) (by rw[Zb3];omega) (by rw[Zb3];omega);refine⟨s5,v5,a1,⟨by rw[Zd9];exact a2,a3 tb _ (λe=>by have:=h.ap tb e;omega) h.tkn,h.ge,λb hb=> ?_⟩⟩;have:=a4 b hb;omega
def EV(N:Nat)(xs:List Int)(g:Nat):Ch:=match xs[g]? with
 |some x=>if sI x (N+1)=N then .no else .fr (sI x (N+1))
 |none=>.no
theorem Xo(hc:cE c){pb tb:Pos}{cs:List AV}{V2:AV}{r2:List (List AV)}(hp:sB.heap.get pb=some (.cells cs 0))(h1:cs[1]? =some V2)(T:GS st sB V2 p.gs r2){N:Nat}(hN:N<=100000)(Xp:p.gs.length<=100)(z:Bool)(xs:List Int)(hx:xs.length<=9223372036854775807)(F:Nat):
  ∀ (m k f:Nat)(s:St)(tk:List Bool)(v:AV)(R:List Int),k+m=p.gs.length->m<f->IU sB s tb tk v R->tk.length=N->R.length=k->∃s' v' mY,IU sB s' tb mY v' (R++eZ tk (xA (EV N xs) m k))/\
    ∀k2:Q2,dh c F k2 f [ints z xs,.ptr pb 0,.int .i64 (N:Int),.slice tb 0 N (some N) 1,v,.int .i64 (k:Int)] s=k2 [v'] s':=by
 intro m;induction m with
 |zero=>
  intro k f s tk v R hk hf hS hl hR;obtain⟨f,rfl⟩:∃g,f=g+1:=⟨f - 1,by omega⟩
  obtain rfl:k=p.gs.length:=by omega
  have gR:=hS.Gp.aA.get hp;have T1:=T.aA hS.Gp.aA;have ln:=λ(K:AV->St->Option (AV×St))=>T1.out.own.lenB (c:=c) K s
  rw[T1.len]at ln;refine⟨s,v,tk,by simpa [xA,eZ]using hS,λk2=> ?_⟩;rw[iL];simp[gR,h1,ln]
 |succ m ih=>
  intro k f s tk v R hk hf hS hl hR;obtain⟨f,rfl⟩:∃g,f=g+1:=⟨f - 1,by omega⟩
  have jP:k<p.gs.length:=by omega
  have gR:=hS.Gp.aA.get hp;have T1:=T.aA hS.Gp.aA;have ln:=λ(K:AV->St->Option (AV×St))=>T1.out.own.lenB (c:=c) K s
  rw[T1.len]at ln;have aV:decide ((k:Int)<(p.gs.length:Int))=true:=H5 (by omega);have wr:ay .i64 ((k:Int)+1)=((k+1:Nat):Int):=by rw[wrap64 (by omega) (by omega)];omega
  have wN:ay .i64 ((N:Int)+1)=((N+1:Nat):Int):=by rw[wrap64 (by omega) (by omega)];omega
  obtain⟨s5,v5,a1,a2⟩:=hS.push (c:=c) (by omega) (-1)
  have no:EV N xs k= .no->(∀k2:Q2,dh c F k2 (f+1) [ints z xs,.ptr pb 0,.int .i64 (N:Int),.slice tb 0 N (some N) 1,v,.int .i64 (k:Int)] s=dh c F k2 f [ints z xs,.ptr pb 0,.int .i64 (N:Int),.slice tb 0 N (some N) 1,v5,.int .i64 ((k+1:Nat):Int)] s5)->
        ∃s' v' mY,IU sB s' tb mY v' (R++eZ tk (xA (EV N xs) (m+1) k))/\∀k2:Q2,dh c F k2 (f+1) [ints z xs,.ptr pb 0,.int .i64 (N:Int),.slice tb 0 N (some N) 1,v,.int .i64 (k:Int)] s=k2 [v'] s':=λhch iU=>by
    obtain⟨s',v',mY,z1,z2⟩:=ih (k+1) f s5 tk v5 (R++[-1]) (by omega) (by omega) a2 hl (by simp[hR]);refine⟨s',v',mY,?_,λk2=>by rw[iU,z2]⟩;rw[xA,hch,eZ];simpa using z1
  by_cases zR:k<xs.length
  . have hlx:decide ((k:Int)<(xs.length:Int))=true:=H5 (by omega);have pk:=abq hc xs[k] (n:=N+1) (by omega) (by omega) s;have plt:=ZK xs[k] (n:=N+1) (by omega);simp only[show((N+1:Nat):Int)=(N:Int)+1 by omega]at pk wN;have ech:EV N xs k=if sI xs[k] (N+1)=N then .no else .fr (sI xs[k] (N+1)):=by unfold EV;rw[H4 zR]
    have at':=Rg xs k zR;by_cases hpn:sI xs[k] (N+1)=N
    .   rw[Za7 hpn]at ech;(refine no ech λk2=> ?_);rw[hpn]at pk;rw[iL];unfold ints at*
        simp[-aT,fY,gR,h1,ln,aV,jP,zR,at',wN,pk,a1,wr]
    .   rw[Za5 hpn]at ech;generalize sI xs[k] (N+1)=fr at*
        have dn:decide ((fr:Int)=(N:Int))=false:=Za2 (by omega);have pl:=Xn hc (tk:=tk) (tb:=tb) (by omega) (fr:=fr) (by omega) hS.tkn;rw[hl]at pl;obtain⟨s6,v6,b1,b2⟩:=(hS.set (mY:=(kQ tk fr).1)).push (c:=c) (by omega) (kQ tk fr).2;obtain⟨s',v',mY,z1,z2⟩:=ih (k+1) f s6 _ v6 _ (by omega) (by omega) b2 (by rw[Xd];exact hl) (by simp[hR]);refine⟨s',v',mY,?_,λk2=> ?_⟩
        .rw[xA,ech,eZ];simpa using z1
        . rw[<-z2 k2,iL];unfold ints at*
          simp[-aT,fY,gR,h1,ln,aV,jP,zR,at',wN,pk,dn,pl,b1,wr]
  . have hlx:decide ((k:Int)<(xs.length:Int))=false:=Za2 (by omega);(refine no (by unfold EV;rw[Zb7 (by omega)]) λk2=> ?_);rw[iL];unfold ints at*
    simp[-aT,fY,gR,h1,ln,aV,jP,zR,a1,wr]
theorem Od(N:Nat):List.replicate N (AV.bool false)=je (List.replicate N false):=List.map_replicate.symm
theorem Xq(hc:cE c)(h:PS st s Vs p)(hz:U4 p)(cv:p.ts.length<=100)(Xp:p.gs.length<=100){N:Nat}(hN:(N:Int)=bC p.ts)(z:Bool)(xs:List Int)(hx:xs.length<=9223372036854775807):
  ∃s' v,c 7 [.agg Vs,ints z xs] s=some (v,s')/\Mk 1 s s' v ((eZ (List.replicate N false) (xA (EV N xs) p.gs.length 0)).map cU):=by
 have hw:=h.aA.wf;have gN:=Grew.af hw (.cells Vs 0);have h1:=h.n7 gN;obtain⟨V1,V2,r1,r2,e1,e2,T,T2,e5⟩:=h1.rT;have so:=U6 hc h1 hz cv;rw[<-hN]at so;have hN1:N<=100000:=by have:=(sY p.ts).2;omega
 have hcut:cut Vs 0 5=some Vs:=bQ e5;have mk:=λ(K:AV->St->Option (AV×St))=>Ts c K (af s (.cells Vs 0)) (es:=1) (bytes:=1) (z:=[.bool false]) (k:= .i64) (k':= .i64) (n:=N) (by omega) (by omega)
 rw[DU,Od]at mk;have gT:=Grew.af gN.wf (.cells (je (List.replicate N false)) 0);have S0:IU (af s (.cells Vs 0)) (af (af s (.cells Vs 0)) (.cells (je (List.replicate N false)) 0)) (af s (.cells Vs 0)).next (List.replicate N false) .ah []:=
  ⟨Mk.start gN.wf gT,aD _ _,Za4 _,λb e=>(nomatch e)⟩
 obtain⟨s',v',mY,z1,z2⟩:=Xo (c:=c) hc (aD s (.cells Vs 0)) e2 T2 hN1 Xp z xs hx (p.gs.length+1) p.gs.length 0 (p.gs.length+1) _ _ _ [] (by omega) (by omega) S0 (by simp) rfl;have M:=z1.Gp.back hw gN;rw[Zf9]at M;obtain⟨s3,t1,t2⟩:=M.tidy;refine⟨s3,v',?_,t2⟩;simp only[show((0:Nat):Int)=0 from rfl]at z2;rw[AI hc (p.gs.length+1) (r:=(v',s')),t1];rw[CA];simp only[oW,show ∀l,AV.cells (.agg l)=l from λl=>rfl,aE,rJ,aD,bf,Zd1,hcut,p7,kA,so,iV,mk,z2,aH,dD]
end
set_option linter.unusedSimpArgs false
theorem ZM(q:List Int):q.map cU=(q.map (AV.int .i64)).map Zv:=by rw[Zf7];rfl
theorem Gq{s:St}{v:AV}{q:List Int}(h:QS 1 s v (q.map cU)){i:Nat}{x:Int}(hx:q[i]? =some x):∃b o,Rd s 1 v i b o [.int .i64 x]:=by
 rw[ZM]at h;exact h.Oa (by rw[Zc0,hx];rfl)
theorem ZN{s s':St}{f:Nat}{b:Pos}{off:Nat}:tidy s (.func f [] [.ptr b off],s')=(.func f [] [.ptr b off],s'):=by
 unfold tidy;rw[Za5];intro h;have h1:aj (λ_=>⟨0,0,0⟩) (b.toNat+1) (λ_=>none) (.func f [] [.ptr b off]) (.func (.func f) #[] #[.pointer (some ⟨0,0+off,none⟩)]):=
  .func f _ _ _ _ rfl rfl (λ_ _ _ h=>by simp at h) λi v v' hv vw=>by
   cases i with
   |zero=>simp at hv vw;subst hv;subst vw;have:=aj.ptr (ρ:=λ_=>⟨0,0,0⟩) (C:=λ_=>none) (n:=b.toNat+1) b off (by omega);simpa using this
   |succ i=>simp at hv
 have h2:=h.1 _ (λ_=>⟨0,0,0⟩) _ 0 _ _ h1;obtain⟨_,_,_,_,hy⟩:=h2.vS;obtain⟨x,xs,_,hx,_⟩:=hy.cons_inv;have:=hx.ei.1;omega
def JK(q:List Int)(x:Int):Int:=if q.contains x then((q.idxOf x:Nat):Int)else -1
section
variable{s:St}{P:AV}{q:List Int}
theorem ZO(pq:QS 1 s P (q.map cU))(hl:q.length<=1000000)(x:Int)(F:Nat)(k1 k2:Q2):∀(m k f:Nat),k+m=q.length->m<f->
  gh c F k1 k2 f [P,.int .i64 x,.int .i64 (q.length:Int),.int .i64 (k:Int)] s=if(q.drop k).contains x then k1 [.int .i64 ((k+(q.drop k).idxOf x:Nat):Int)] s else k2 [] s:=by
 intro m;induction m with
 |zero=>
  intro k f hk hf;obtain⟨f,rfl⟩:∃g,f=g+1:=⟨f - 1,by omega⟩
  obtain rfl:k=q.length:=by omega
  rw[kf];simp
 |succ m ih=>
  intro k f hk hf;obtain⟨f,rfl⟩:∃g,f=g+1:=⟨f - 1,by omega⟩
  have jP:k<q.length:=by omega
  obtain⟨pb,po,p⟩:=Gq pq (H4 jP);have p1:=λ{R}=>@p.st R
  have p3:=p.one;have wr:ay .i64 ((k:Int)+1)=((k+1:Nat):Int):=wrap64 (by omega) (by omega);rw[Zd8 jP,List.contains_cons,List.idxOf_cons];by_cases he:x=q[k]
  .rw[kf];have e2:(x==q[k])=true:=(by simpa using he);have e3:(q[k]==x)=true:=(by simpa using he.symm);have d2:decide (x=q[k])=true:=H5 he;rw[e2,e3,Bool.true_or];simp[jP,p1,p3,d2]
  .have Nw:(x==q[k])=false:=(by simpa using he);have he3:(q[k]==x)=false:=(by simpa using λe=>he e.symm);have d2:decide (x=q[k])=false:=Za2 he;rw[Nw,he3,Bool.false_or,cond_false,show k+((q.drop (k+1)).idxOf x+1)=(k+1)+(q.drop (k+1)).idxOf x by omega, <-ih (k+1) f (by omega) (by omega),kf];simp[jP,p1,p3,d2,wr]
theorem U7(hc:cE c)(pq:QS 1 s P (q.map cU))(hl:q.length<=1000000)(x:Int):c 28 [P,.int .i64 x] s=some (.int .i64 (JK q x),s):=by
 have ln:=λ(K:AV->St->Option (AV×St))=>pq.lenB (c:=c) K s
 rw[Zb3]at ln;have hi:=λk1 k2=>ZO (c:=c) pq hl x (q.length+1) k1 k2 q.length 0 (q.length+1) (by omega) (by omega)
 simp only[Ze4,show((0:Nat):Int)=0 from rfl,Zc3]at hi;rw[zS hc (q.length+1) (r:=(.int .i64 (JK q x),s)),aL (Plain.int _ _) (bD.refl s)];rw[BO];simp only[aE,ln,hi];unfold JK;split<;>simp
theorem U8(hc:cE c)(P:AV)(s:St):c 40 [P] s=some (.func 62 [] [.ptr s.next 0],af s (.cells P.cells 0)):=by rw[JL hc 1 (r:=(.func 62 [] [.ptr s.next 0],af s (.cells P.cells 0))),ZN];rw[MJ];simp
theorem abr(hc:cE c){b:Pos}(hb:s.heap.get b=some (.cells [P] 0))(pq:QS 1 s P (q.map cU))(hl:q.length<=1000000)(x:Int):c 62 [.int .i64 x,.ptr b 0] s=some (.int .i64 (JK q x),s):=by
 rw[Gr hc 1 (r:=(.int .i64 (JK q x),s)),aL (Plain.int _ _) (bD.refl s)];rw[JM];simp[hb,bf,U7 hc pq hl]
def sZ:List Int->List Int->Nat
 |x::a,y::b=>(if x=y then 0 else 1)+sZ a b
 |_,_=>0
theorem ZP{Q:AV}{r:List Int}(pq:QS 1 s P (q.map cU))(pr:QS 1 s Q (r.map cU))(hl:q.length<=1000000)(he:q.length=r.length)(F:Nat)(k2:Q2):∀(m k f n:Nat),k+m=q.length->m<f->n<=k->
  oJ c F k2 f [P,Q,.int .i64 (n:Int),.int .i64 (q.length:Int),.int .i64 (k:Int)] s=k2 [.int .i64 ((n+sZ (q.drop k) (r.drop k):Nat):Int)] s:=by
 intro m;induction m with
 |zero=>
  intro k f n hk hf hn;obtain⟨f,rfl⟩:∃g,f=g+1:=⟨f - 1,by omega⟩
  obtain rfl:k=q.length:=by omega
  rw[uF,Zm5,he,Zm5];simp[sZ]
 |succ m ih=>
  intro k f n hk hf hn;obtain⟨f,rfl⟩:∃g,f=g+1:=⟨f - 1,by omega⟩
  have jP:k<q.length:=by omega
  have Xr:k<r.length:=by omega
  obtain⟨pb,po,p⟩:=Gq pq (H4 jP);obtain⟨rb,ro,p'⟩:=Gq pr (H4 Xr);have p1:=λ{R}=>@p.pr R
  have p3:=p.one;have r1:=λ{R}=>@p'.pr R
  have r3:=p'.one;have wr:ay .i64 ((k:Int)+1)=((k+1:Nat):Int):=wrap64 (by omega) (by omega);have wn:ay .i64 ((n:Int)+1)=((n+1:Nat):Int):=wrap64 (by omega) (by omega);rw[Zd8 jP,Zd8 Xr,sZ];by_cases e:q[k]=r[k]
  .rw[Za7 e,Zc3, <-ih (k+1) f n (by omega) (by omega) (by omega),uF];have d2:decide (q[k]=r[k])=true:=H5 e;simp[jP,p1,p3,r1,r3,d2,wr,fY]
  .rw[Za5 e, <-Zh3, <-ih (k+1) f (n+1) (by omega) (by omega) (by omega),uF];have d2:decide (q[k]=r[k])=false:=Za2 e;simp[jP,p1,p3,r1,r3,d2,wr,wn,fY]
theorem U9(hc:cE c){Q:AV}{r:List Int}(pq:QS 1 s P (q.map cU))(pr:QS 1 s Q (r.map cU))(hl:q.length<=1000000)(he:q.length=r.length):c 14 [P,Q] s=some (.int .i64 ((sZ q r:Nat):Int),s):=by
 have ln:=λ(K:AV->St->Option (AV×St))=>pq.lenB (c:=c) K s
 have lr:=λ(K:AV->St->Option (AV×St))=>pr.lenB (c:=c) K s
 rw[Zb3]at ln lr;have hi:=λk2=>ZP (c:=c) pq pr hl he (q.length+1) k2 q.length 0 (q.length+1) 0 (by omega) (by omega) (by omega)
 simp only[Ze4,show((0:Nat):Int)=0 from rfl,Zc3]at hi;rw[MK hc (q.length+1) (r:=(.int .i64 ((sZ q r:Nat):Int),s)),aL (Plain.int _ _) (bD.refl s)];rw[Rh];simp[ln,lr,he];rw[<-he,hi];simp
theorem ZQ{Q:AV}{r:List Int}(pq:QS 1 s P (q.map cU))(pr:QS 1 s Q (r.map cU))(hl:q.length<=1000000)(he:q.length=r.length)(F:Nat)(k1 k2:Q2):∀(m k f:Nat),k+m=q.length->m<f->
  gj c F k1 k2 f [P,Q,.int .i64 (q.length:Int),.int .i64 (k:Int)] s=if q.drop k=r.drop k then k2 [] s else k1 [.bool false] s:=by
 intro m;induction m with
 |zero=>
  intro k f hk hf;obtain⟨f,rfl⟩:∃g,f=g+1:=⟨f - 1,by omega⟩
  obtain rfl:k=q.length:=by omega
  rw[kg,Zm5,he,Zm5];simp
 |succ m ih=>
  intro k f hk hf;obtain⟨f,rfl⟩:∃g,f=g+1:=⟨f - 1,by omega⟩
  have jP:k<q.length:=by omega
  have Xr:k<r.length:=by omega
  obtain⟨pb,po,p⟩:=Gq pq (H4 jP);obtain⟨rb,ro,p'⟩:=Gq pr (H4 Xr);have p1:=λ{R}=>@p.pr R
  have p3:=p.one;have r1:=λ{R}=>@p'.pr R
  have r3:=p'.one;have wr:ay .i64 ((k:Int)+1)=((k+1:Nat):Int):=wrap64 (by omega) (by omega);have key:(q.drop k=r.drop k)↔(q[k]=r[k]/\q.drop (k+1)=r.drop (k+1)):=by rw[Zd8 jP,Zd8 Xr,Zf4]
  by_cases e:q[k]=r[k]
  .have key2:(q.drop k=r.drop k)↔(q.drop (k+1)=r.drop (k+1)):=key.trans ⟨λh=>h.2,λh=>⟨e,h⟩⟩;rw[show(if q.drop k=r.drop k then k2 [] s else k1 [.bool false] s)=(if q.drop (k+1)=r.drop (k+1)then k2 [] s else k1 [.bool false] s)from by simp only[key2], <-ih (k+1) f (by omega) (by omega),kg];have d2:decide (q[k]=r[k])=true:=H5 e;simp[jP,p1,p3,r1,r3,d2,wr]
  .rw[Za5 (λh=>e (key.1 h).1),kg];have d2:decide (q[k]=r[k])=false:=Za2 e;simp[jP,p1,p3,r1,r3,d2]
theorem Lp(hc:cE c){Q:AV}{r:List Int}(pq:QS 1 s P (q.map cU))(pr:QS 1 s Q (r.map cU))(hl:q.length<=1000000):c 12 [P,Q] s=some (.bool (decide (q=r)),s):=by
 have ln:=λ(K:AV->St->Option (AV×St))=>pq.lenB (c:=c) K s
 have lr:=λ(K:AV->St->Option (AV×St))=>pr.lenB (c:=c) K s
 rw[Zb3]at ln lr;rw[zT hc (q.length+1) (r:=(.bool (decide (q=r)),s)),aL (Plain.bool _) (bD.refl s)];rw[BP];by_cases he:q.length=r.length
 . have hi:=λk1 k2=>ZQ (c:=c) pq pr hl he (q.length+1) k1 k2 q.length 0 (q.length+1) (by omega) (by omega)
   simp only[Ze4,show((0:Nat):Int)=0 from rfl]at hi;simp[ln,lr,he];rw[<-he,hi];split
   .rename_i h;rw[H5 h];simp
   .rename_i h;rw[Za2 h];simp
 . have d:decide (q=r)=false:=Za2 λe=>he (by rw[e])
   have hz:¬((q.length:Int)=(r.length:Int)):=(by omega);simp[ln,lr,hz,d]
end
set_option linter.unusedSimpArgs false
structure Gs(N n:Nat)(q:List Int):Prop where
 len:q.length=n
 rng:∀x∈q,-1<=x/\x<(N:Int)
 ap:∀(a b:Nat)(x:Int),a<b->q[a]? =some x->q[b]? =some x->x<0
structure Oe(p:bX)(N:Nat):Prop where
 CB:p.EW
 rs:∀r∈p.rs,r.Ok
 xB:(g9 p).2=0
 tabs:(bG p.ts).2=0
 sum:(N:Int)=bC p.ts
 le:N<=100000
section
variable{sB s:St}{P:AV}{q:List Int}{N n:Nat}
theorem ZR{tb:Pos}(hq:Gs N n q)(hql:q.length<=1000)(hN:N<=100000)(pq:QS 1 sB P (q.map cU))(hge:sB.next.toNat<=tb.toNat)(w0:Wf sB)(F:Nat):
  ∀ (m k f:Nat)(s:St)(tk:List Bool),k+m=q.length->m<f->Grew sB s->s.heap.get tb=some (.cells (je tk) 0)->tk.length=N->(∀i:Nat,tk[i]? =some true->(i:Int)∈q.take k)->∃s',Grew sB s'/\
    ∀k1 k2:Q2,oK c F k1 k2 f [.bool false,.int .i64 (N:Int),.slice tb 0 N (some N) 1,P,.int .i64 (q.length:Int),.int .i64 (k:Int)] s=k2 [] s':=by
 intro m;induction m with
 |zero=>
  intro k f s tk hk hf gr ht hl EI;obtain⟨f,rfl⟩:∃g,f=g+1:=⟨f - 1,by omega⟩
  obtain rfl:k=q.length:=by omega
  refine⟨s,gr,λk1 k2=> ?_⟩;rw[uG];simp
 |succ m ih=>
  intro k f s tk hk hf gr ht hl EI;obtain⟨f,rfl⟩:∃g,f=g+1:=⟨f - 1,by omega⟩
  have jP:k<q.length:=by omega
  obtain⟨pb,po,p⟩:=Gq (pq.aA gr) (H4 jP);have p1:=λ{R}=>@p.st R
  have p3:=p.one;have hxq:=hq.rng _ (Zb9 jP);have hap:=hq.ap;have wr:ay .i64 ((k:Int)+1)=((k+1:Nat):Int):=by rw[wrap64 (by omega) (by omega)];omega
  have tke:q.take (k+1)=q.take k++[q[k]]:=by rw[Zo0,H4 jP];rfl
  have hqk:q[k]? =some q[k]:=H4 jP;generalize q[k]=x at*
  by_cases h0:0<=x
  . obtain⟨i,rfl⟩:∃i:Nat,x=(i:Int):=⟨x.toNat,by omega⟩
    have hi:i<N:=(by omega);have hf0:tk[i]? =some false:=by
        rw[H4 (by omega)];cases h:tk[i]'(by omega)with
        |false=>rfl
        | true=>
          have:=EI i (by rw[H4 (by omega),h]);obtain⟨j,hj⟩:=Zd5.1 this;rw[Zb8]at hj;(split at hj<;>first|(cases hj;done)|skip);rename_i hjk;have:=hap j k i hjk hj hqk;omega
    have ix:=λ(K:AV->St->Option (AV×St))(s1:St)=>wj c K s1 (b:=tb) (off:=0) (len:=N) (es:=1) (es':=1) (cap:=some N) (k:= .i64) (i:=i) hi
    (simp only[Zc3,Zj5]at ix;have ec:(je tk)[i]? =some (.bool false):=(by rw[Zc0,hf0];rfl);have pt:=λ(K:AV->St->Option (AV×St))=>Tt (c:=c) K ht (o:=i) (by rw[Zb3];omega) (v:= .bool true) rfl rfl);rw[show(je tk).set i (.bool true)=je (tk.set i true)from(List.map_set).symm]at pt;have aV:=gr.wf _ _ ht;obtain⟨s',z1,z3⟩:=ih (k+1) f (cm s tb (.cells (je (tk.set i true)) 0)) (tk.set i true) (by omega) (by omega) (wu w0 gr hge aV _) (dF _ _ _) (by simpa using hl) (λj hj=>by
        rw[tke];by_cases e:i=j
        .subst e;simp
        .rw[Zk8 e]at hj;exact Zg4 _ (EI j hj))
    refine⟨s',z1,λk1 k2=> ?_⟩;rw[<-z3 k1 k2,uG];have d1:decide ((i:Int)= -1)=false:=Za2 (by omega);have d2:decide ((i:Int)< -1)=false:=Za2 (by omega);have d3:decide ((N:Int)<=(i:Int))=false:=Za2 (by omega);have d4:decide (N<=i)=false:=Za2 (by omega);simp[fY,jP,p1,p3,ix,pt,wr,d1,d2,d3,d4,ht,bf,ec]
  .have hx:x= -1:=(by omega);subst hx;obtain⟨s',z1,z3⟩:=ih (k+1) f s tk (by omega) (by omega) gr ht hl (λj hj=>by rw[tke];exact Zg4 _ (EI j hj));refine⟨s',z1,λk1 k2=> ?_⟩;rw[<-z3 k1 k2,uG];have d3:decide ((N:Int)<= -1)=false:=Za2 (by omega);simp[fY,jP,p1,p3,wr,d3]
end
section
variable{s0 s:St}{Vs:List AV}{p:bX}{P:AV}{q:List Int}{N:Nat}
theorem ML:Plain (.tuple [.int .i64 0,.int .i64 0]):= .tuple λv hv=>by simp at hv;subst hv;exact .int _ _
theorem ZS(hc:cE c)(h:PS s0 s Vs p)(ok:Oe p N)(pq:QS 1 s P (q.map cU))(hq:Gs N p.gs.length q):c 65 [.agg Vs,P,.bool false] s=some (.tuple [.int .i64 0,.int .i64 0],s):=by
 have hw:=h.aA.wf;have gN:=Grew.af hw (.cells Vs 0);have h1:=h.n7 gN;obtain⟨V1,V2,r1,r2,e1,e2,T,T2,e5⟩:=h1.rT;have cn:=Of hc h1 ok.CB.ok ok.tabs e1;rw[<-ok.sum]at cn;have Xp:=ok.CB.gs;have hlq:=hq.len;have ln:=λ(K:AV->St->Option (AV×St))(s1:St)=>pq.lenB (c:=c) K s1
 rw[Zb3]at ln;have lg:=λ(K:AV->St->Option (AV×St))(s1:St)=>T2.out.own.lenB (c:=c) K s1
 rw[T2.len]at lg;have hle:=ok.le;have mk:=λ(K:AV->St->Option (AV×St))=>Ts c K (af s (.cells Vs 0)) (es:=1) (bytes:=1) (z:=[.bool false]) (k:= .i64) (k':= .i64) (n:=N) (by omega) (by omega)
 rw[DU,Od]at mk;have gT:=Grew.af gN.wf (.cells (je (List.replicate N false)) 0);obtain⟨s',z1,z3⟩:=ZR (c:=c) (n:=p.gs.length) hq (by omega) ok.le (pq.aA gN) (Za4 _) gN.wf (q.length+1) q.length 0 (q.length+1) _ (List.replicate N false) (by omega) (by omega) gT (aD _ _) (by simp) (λi hi=>by rw[List.getElem?_replicate]at hi;split at hi<;>cases hi);simp only[show((0:Nat):Int)=0 from rfl]at z3;have Og:Vs[0]? =some V1:=e1;have Xs:Vs[1]? =some V2:=e2;rw[MM hc (q.length+1) (r:=(.tuple [.int .i64 0,.int .i64 0],s')),aL ML (gN.trans z1).keeps];rw[Ri];simp[show ∀l,AV.cells (.agg l)=l from λl=>rfl,aD,bf,Og,Xs,ln,lg,hlq,cn];rw[mk, <-hlq,z3];simp
theorem Va(hc:cE c)(h:PS s0 s Vs p)(ok:Oe p N)(pq:QS 1 s P (q.map cU))(hq:Gs N p.gs.length q):c 46 [.agg Vs,P,.bool false] s=some (.tuple [.int .i64 0,.int .i64 0],s):=by
 have hw:=h.aA.wf;have gN:=Grew.af hw (.cells Vs 0);have h1:=h.n7 gN;have hcut:cut Vs 0 5=some Vs:=bQ h1.rT.choose_spec.choose_spec.choose_spec.choose_spec.2.2.2.2;have ck:=Xt hc h1 ok.CB ok.rs;rw[ok.xB]at ck;have kk:=ZS hc h1 ok (pq.aA gN) hq;rw[JN hc 1 (r:=(.tuple [.int .i64 0,.int .i64 0],af s (.cells Vs 0))),aL ML gN.keeps];rw[MN];simp[show ∀l,AV.cells (.agg l)=l from λl=>rfl,aD,bf,hcut,ck,kk]
theorem zU(hc:cE c)(h:PS s0 s Vs p)(ok:Oe p N)(pq:QS 1 s P (q.map cU))(hq:Gs N p.gs.length q):c 29 [.agg Vs,P] s=some (.tuple [.int .i64 0,.int .i64 0],s):=by
 have hw:=h.aA.wf;have gN:=Grew.af hw (.cells Vs 0);have h1:=h.n7 gN;have hcut:cut Vs 0 5=some Vs:=bQ h1.rT.choose_spec.choose_spec.choose_spec.choose_spec.2.2.2.2;have kk:=Va hc h1 ok (pq.aA gN) hq;rw[Gt hc 1 (r:=(.tuple [.int .i64 0,.int .i64 0],af s (.cells Vs 0))),aL ML gN.keeps];rw[JO];simp[show ∀l,AV.cells (.agg l)=l from λl=>rfl,aD,bf,hcut,kk]
theorem Xu(hc:cE c)(h:PS s0 s Vs p)(ok:Oe p N)(pq:QS 1 s P (q.map cU))(hq:Gs N p.gs.length q):c 39 [.agg Vs,P] s=some (.bool true,s):=by
 have hw:=h.aA.wf;have gN:=Grew.af hw (.cells Vs 0);have h1:=h.n7 gN;have hcut:cut Vs 0 5=some Vs:=bQ h1.rT.choose_spec.choose_spec.choose_spec.choose_spec.2.2.2.2;have kk:=zU hc h1 ok (pq.aA gN) hq;rw[MO hc 1 (r:=(.bool true,af s (.cells Vs 0))),aL (Plain.bool _) gN.keeps];rw[Rj];simp[show ∀l,AV.cells (.agg l)=l from λl=>rfl,aD,bf,hcut,kk]
end
set_option linter.unusedSimpArgs false
def sJ(q:List Int):Nat->Nat->List Int
 |0,_=>[]
 |m+1,k=>(if q.contains (k:Int)then []else [(k:Int)])++sJ q m (k+1)
theorem ZT(q:List Int)(x:Int):decide (JK q x<0)= !q.contains x:=by unfold JK;cases h:q.contains x<;>simp
theorem Oh(q:List Int):∀m k,(sJ q m k).length<=m
 |0,_=>Za4 _
 |m+1,k=>by have:=Oh q m (k+1);unfold sJ;rw[Ze0];split<;>simp<;>omega
theorem Mk.abt{es:Nat}{s s':St}{v:AV}{rows:List (List AV)}(h:Mk es s s' v rows)(k:IntKind)(i:Int):∃gY,Go.Ai.tidy s (.tuple [v,.int k i],s')=(.tuple [v,.int k i],gY)/\Mk es s gY v rows:=by
 unfold Go.Ai.tidy;by_cases hp:Plain (AV.tuple [v,.int k i],s').1/\bD s (AV.tuple [v,.int k i],s').2
 . rw[  Za7 hp];refine⟨s,rfl,?_⟩;rcases h.loose with⟨b,off,n,rfl⟩|⟨hl,_⟩
   . refine(Go.Ai.pM (b:=b) (off:=off) (n:=n) (es:=es) (λρ ρ' n n' C x hx=> ?_)).elim;have:=hp.1 ρ ρ' n n' C _ (.tuple _ #[x,.int k i] rfl (λj v v' hv lR=>by
        match j with
        |0=>simp at hv lR;subst hv lR;exact hx
        |1=>simp at hv lR;subst hv lR;exact .int k i
        |j+2=>simp at hv))
     cases this with
     |tuple _ _ _ h=>exact h 0 _ x rfl rfl
   .exact hl s h.pL
 .rw[Za5 hp];exact⟨s',rfl,h⟩
section
variable{s0 s sB:St}{Vs:List AV}{p:bX}{P:AV}{q:List Int}{N:Nat}
theorem abu(hc:cE c){b:Pos}(w0:Wf sB)(hb:sB.heap.get b=some (.cells [P] 0))(pq:QS 1 sB P (q.map cU))(hl:q.length<=1000000)(hN:N<=100000)(F:Nat):∀(m k f:Nat)(s:St)(v:AV)(acc:List Int),k+m=N->m<f->acc.length<=k->Mk 1 sB s v (acc.map cU)->
  ∃s' v',Mk 1 sB s' v' ((acc++sJ q m k).map cU)/\∀k2:Q2,qd c F k2 f [.func 62 [] [.ptr b 0],v,.int .i64 (N:Int),.int .i64 (k:Int)] s=k2 [v'] s':=by
 intro m;induction m with
 |zero=>
  intro k f s v acc hk hf _ M;obtain⟨f,rfl⟩:∃g,f=g+1:=⟨f - 1,by omega⟩
  obtain rfl:k=N:=by omega
  refine⟨s,v,by simpa [sJ]using M,λk2=> ?_⟩;rw[wz];simp
 |succ m ih=>
  intro k f s v acc hk hf ha M;obtain⟨f,rfl⟩:∃g,f=g+1:=⟨f - 1,by omega⟩
  have jP:k<N:=by omega
  have wr:ay .i64 ((k:Int)+1)=((k+1:Nat):Int):=by rw[wrap64 (by omega) (by omega)];omega
  have wh:=abr hc (M.aA.get hb) (pq.aA M.aA) hl (k:Int);have dn:=ZT q (k:Int);rw[sJ];cases hq:q.contains (k:Int)
  .rw[hq]at dn;obtain⟨s5,v',a1,M',_,_⟩:=Mk.push (R:=AV×St) (c:=c) (bytes:=8) M (z:=[.int .i64 0]) (x:= .int .i64 (k:Int)) rfl rfl rfl (by decide) (by rw[Zb3];omega) (by rw[Zb3];omega);obtain⟨s',v2,z1,z2⟩:=ih (k+1) f s5 v' (acc++[(k:Int)]) (by omega) (by omega) (by simp;omega) (by rw[Zd9];exact M');refine⟨s',v2,by simpa using z1,λk2=> ?_⟩;rw[<-z2 k2,wz];simp[-aT,fY,jP,xj,wh,dn,a1,wr]
  .rw[hq]at dn;obtain⟨s',v2,z1,z2⟩:=ih (k+1) f s v acc (by omega) (by omega) (by omega) M;refine⟨s',v2,by simpa using z1,λk2=> ?_⟩;rw[<-z2 k2,wz];simp[fY,jP,xj,wh,dn,wr]
theorem TH(hc:cE c)(h:PS s0 s Vs p)(ok:Oe p N)(pq:QS 1 s P (q.map cU))(hq:Gs N p.gs.length q)(hP:P.cells=[P]):∃s' v,c 17 [.agg Vs,P] s=some (v,s')/\Mk 1 s s' v ((sJ q N 0).map cU):=by have hw:=h.aA.wf;have gN:=Grew.af hw (.cells Vs 0);have h1:=h.n7 gN;have gB:=Grew.af gN.wf (.cells [P] 0);have h2:=h1.n7 gB;obtain⟨V1,V2,r1,r2,e1,e2,T,T2,e5⟩:=h2.rT;have hcut:cut Vs 0 5=some Vs:=bQ e5;have va:=Xu hc h1 ok (pq.aA gN) hq;have si:=U8 hc P (af s (.cells Vs 0));rw[hP]at si;have cn:=Of hc h2 ok.CB.ok ok.tabs e1;rw[<-ok.sum]at cn;have Xp:=ok.CB.gs;have hlq:=hq.len;obtain⟨s',v,z1,z2⟩:=abu (c:=c) hc gB.wf (aD _ _) (pq.aA (gN.trans gB)) (by omega) ok.le (N+1) N 0 (N+1) _ _ [] (by omega) (by omega) (by simp) (Mk.start gB.wf (Grew.refl gB.wf));simp only[show((0:Nat):Int)=0 from rfl,Zf9]at z1 z2;have M:=z1.back hw (gN.trans gB);obtain⟨s3,t1,t2⟩:=M.tidy;have gp:=gB.get (aD s (.cells Vs 0));refine⟨s3,v,?_,t2⟩;rw[OR hc (N+1) (r:=(v,s')),t1];rw[Ss];simp[show ∀l,AV.cells (.agg l)=l from λl=>rfl,aD,bf,hcut,va,si,gp,e1,cn];rw[z2];simp
theorem Vb(hc:cE c)(hw:Wf s)(pq:QS 1 s P (q.map cU))(hl:q.length<=1000):∃v s',c 8 [P] s=some (v,s')/\Mk 1 s s' v (q.map cU):=by
 have hS:Src 1 s P (q.map cU):= .inr pq;rcases hS.nil with⟨rfl,h0⟩|hn
 . (refine⟨.ah,s,?_,by rw[h0];exact Mk.start hw (Grew.refl hw)⟩;rw[qe hc 1 (r:=(.ah,s)),aL Plain.ah (bD.refl s)];rw[rL];have e:∀(K:AV->St->Option (AV×St))(s:St),ak c (.bin .eql .slice) [.ah,.ah] s K=K (.bool true) s:=λK s=>aS c K (λH n=>rfl) s);simp[e]
 .obtain⟨v,s',a1,a2⟩:=N7 (c:=c) (R:=AV×St) (bytes:=8) (z:=[.int .i64 0]) (λr hr=>by obtain⟨m,_,rfl⟩:=Zf3.1 hr;rfl) (by decide) (by simp;omega) (by simp;omega) s hw hS;obtain⟨gY,t1,t2⟩:=a2.tidy;refine⟨v,gY,?_,t2⟩;rw[qe hc 1 (r:=(v,s')),t1];rw[rL];simp only[aE,hn,jW];rw[a1]
theorem Mk.setc{es:Nat}{s0 s:St}{v:AV}{rows:List (List AV)}(h:Mk es s0 s v rows){i j:Nat}(hi:i<rows.length)(hj:j<es){u:AV}(hu:u.cells=[u])(h1:u.one=true):
   ∃b o s',(∀(K:AV->St->Option (AV×St))(k:IntKind)(s1:St),ak c (.idxA es none) [v,.int k (i:Int)] s1 K=K (.ptr b o) s1)/\(∀(K:AV->St->Option (AV×St)),ak c (.store 1) [.ptr b (o+j),u] s K=K .undef s')/\Mk es s0 s' v (rows.set i (rows[i].set j u)):=by
 obtain⟨b,o,cs,a1,_,a3,a4,a5,_,a7,a8⟩:=QS.set (c:=c) (R:=AV×St) h.own h.row (by omega) hi;have Jp:=h.new b a3;have aV:=h.aA.wf b _ a4;have Xv:=h.tight b a3;have e9:cs=rows.flatten:=by rw[a4]at Xv;injection Xv with e;injection e
 refine⟨b,o,cm s b (.cells (aG cs (o+j) [u]) 0),a1,λK=> ?_,h.pL,wu h.pL h.aA Jp aV _,a7 j u _ hj (dF _ _ _),h.new,λr hr=> ?_,h.cap,λb' gQ=> ?_⟩
 .rw[dG c K s 1 b (o+j) u cs a4 (by rw[hu];rfl) (by omega) (by rw[hu];simp only[aO,h1]),hu]
 . rcases List.mem_or_eq_of_mem_set hr with hr|rfl
   .exact h.row r hr
   .rw[List.length_set];exact h.row _ (Zb9 hi)
 .have:b'=b:=(by rw[a3]at gQ;exact(Zg0 gQ).symm);subst this;rw[dF,a8 j u hj e9]
def ki(q:List Int)(g h:Nat):List Int:=(q.set g (q.getD h 0)).set h (q.getD g 0)
theorem Mk.setI{v:AV}(M:Mk 1 s0 s v (q.map cU)){i:Nat}(hi:i<q.length)(x:Int):
  ∃b o s',(∀(K:AV->Option (AV×St))(k:IntKind),ey (.idxA 1 none) [v,.int k (i:Int)] K=K (.ptr b o))/\(∀(K:AV->St->Option (AV×St)),ak c (.store 1) [.ptr b o,.int .i64 x] s K=K .undef s')/\Mk 1 s0 s' v ((q.set i x).map cU):=by
 obtain⟨b,o,s',a1,a2,a3⟩:=Mk.setc (c:=c) M (i:=i) (j:=0) (by simpa using hi) (by decide) (u:= .int .i64 x) rfl rfl;obtain⟨b',o',p⟩:=Gq M.own (H4 hi);have e:=a1 (λv s=>some (v,s)) .i64 s;rw[p.st c (λv s=>some (v,s)) .i64 s]at e;simp only[H0,Zb2,AV.ptr.injEq,Zk6]at e;obtain⟨rfl,rfl⟩:=e;refine⟨b',o',s',λK k=>p.pr K k,a2,?_⟩;rw[Zl0]at a3;have:(q.map cU).set i ((cU q[i]).set 0 (.int .i64 x))=(q.set i x).map cU:=by rw[List.map_set];rfl
 rw[<-this];exact a3
theorem TJ(hc:cE c)(h:PS s0 s Vs p)(ok:Oe p N)(pq:QS 1 s P (q.map cU))(hq:Gs N p.gs.length q){g k:Nat}(hg:g<q.length)(hk:k<q.length):
  ∃s' v,c 16 [.agg Vs,P,.int .i64 (g:Int),.int .i64 (k:Int)] s=some (.tuple [v,.int .i64 0],s')/\Mk 1 s s' v ((ki q g k).map cU):=by
 have hw:=h.aA.wf;have gN:=Grew.af hw (.cells Vs 0);have h1:=h.n7 gN;have hcut:cut Vs 0 5=some Vs:=bQ h1.rT.choose_spec.choose_spec.choose_spec.choose_spec.2.2.2.2;have ck:=zU hc h1 ok (pq.aA gN) hq;have Xp:=ok.CB.gs;have hlq:=hq.len;obtain⟨v,s1,c1,M1⟩:=Vb hc gN.wf (pq.aA gN) (by omega);obtain⟨gb,go,pg⟩:=Gq M1.own (H4 hg);obtain⟨kb,ko,pk⟩:=Gq M1.own (H4 hk);obtain⟨b2,o2,s2,i2,w2,M2⟩:=Mk.setI (c:=c) M1 hg q[k];obtain⟨b3,o3,s3,i3,w3,M3⟩:=Mk.setI (c:=c) M2 (i:=k) (by simpa using hk) q[g];have q2:=(pg.pr (λv=>some (v,s)) .i64).symm.trans (i2 (λv=>some (v,s)) .i64);have q3:=(pk.pr (λv=>some (v,s)) .i64).symm.trans (i3 (λv=>some (v,s)) .i64);simp only[H0,Zb2,AV.ptr.injEq,Zk6]at q2 q3;obtain⟨rfl,rfl⟩:=q2;obtain⟨rfl,rfl⟩:=q3;have M:=M3.back hw gN;have eS:(q.set g q[k]).set k q[g]=ki q g k:=by unfold ki;rw[Zb4,Zb4,H4 hg,H4 hk];rfl
 rw[eS]at M;obtain⟨s4,t1,t2⟩:=Mk.abt M .i64 0;have ln:=λ(K:AV->St->Option (AV×St))(s1:St)=>pq.lenB (c:=c) K s1
 rw[Zb3]at ln;have g1:=λ{R}=>@pg.pr R
 have g3:=pg.one;have k1:=λ{R}=>@pk.pr R
 have k3:=pk.one;refine⟨s4,v,?_,t2⟩;rw[EX hc 1 (r:=(.tuple [v,.int .i64 0],s3)),t1];rw[IV];have m1:decide (min (g:Int) (k:Int)<0)=false:=Za2 (by omega);have m2:decide ((q.length:Int)<=max (g:Int) (k:Int))=false:=Za2 (by omega);have mn:=λ(K:AV->St->Option (AV×St))(s:St)=>aS c K (λH n=>HW H n .i64 .i64 (g:Int) (k:Int)) s
 have mx:=λ(K:AV->St->Option (AV×St))(s:St)=>aS c K (λH n=>Tn H n .i64 .i64 (g:Int) (k:Int)) s
 simp[show ∀l,AV.cells (.agg l)=l from λl=>rfl,aD,bf,hcut,ck,ln,mn,mx,m1,m2,c1,k1,k3,g1,g3,w2,w3]
end
set_option linter.unusedSimpArgs false
theorem Rk(i x:Nat):(gC i x).oM.length<=16:=by have h1:=Rm x (tN x);have h2:=Lq x;show((uH x (tN x)).map λ(k:Nat)=>(k:Int)).length<=16;rw[Zb3];omega
theorem Rn(xt xg xy xr:List Nat):(mQ xt xg xy xr).EW where
 ts:=by show(mD xt _).length<=100;rw[DY];omega
 gs:=by have:=xC (rM xt xg);show(ep _).length<=100;omega
 ys:=by have:=(Oi (rM xt xg) xy).1;show(uI _ _).length<=100;omega
 cs:=by
  have:=xC (rM xt xg);show(kR xt xg xy).length<=100;unfold kR;split
  .rw[DZ];show(ep _).length<=100;omega
  .exact Zk2 _
 rs:=by have:=D3 (fE xt) (jQ xt xg) xr (min xr.length 12);show(s9 _ _ _ _).length<=100;omega
 ok t ht:=by
  obtain⟨i,x,rfl⟩:=JP ht;have:=Rk i x;exact⟨by show(dK i).length<rO;unfold dK rO;simp,by unfold rO;omega⟩
theorem ab8(ts:List aR)(gs:List aN)(x:Nat):(eM ts gs x).1.k=((1+x % 18:Nat):Int):=by
 unfold eM D4
 repeat' split
 all_goals rfl
theorem Vc{xt xg xy xr:List Nat}(hx:∀x∈xt,x<256):∀r∈(mQ xt xg xy xr).rs,r.Ok/\qJ (mQ xt xg xy xr) r=0:=λr hr=>by obtain⟨x,h1,rfl⟩:=JQ hr;refine⟨?_,Xw (p:=mQ xt xg xy xr) Oj Gu Gv (BQ hx) x h1⟩;have:=ab8 (fE xt) (jQ xt xg) x;unfold Rl.Ok;omega
theorem Xx{xt xg xy xr:List Nat}(hx:∀x∈xt,x<256):U4 (mQ xt xg xy xr):=λt ht=>by
 have h1:=BQ hx t ht;have h2:=Ro t ht;exact⟨h1.1.symm,h2.1,h2.2.1,h2.2.2⟩
theorem Ol{R:Type}{s:St}{b:Pos}{Vs:List AV}(h:s.heap.get b=some (.cells Vs 0))(hl:Vs.length=5)(K:AV->St->Option R):ak c (.load (some 5)) [.ptr b 0] s K=K (.agg Vs) s:=by rw[rJ,h];simp only[bf,Zd1];rw[bQ hl];rfl
theorem TM(ch:Nat->Ch):∀(m k i:Nat),(xA ch m k)[i]? =if i<m then some (ch (k+i))else none
 |0,k,i=>by simp[xA]
 |m+1,k,0=>by simp[xA]
 |m+1,k,i+1=>by
  rw[xA,Ze3,TM ch m (k+1) i];by_cases h:i<m
  .rw[Za7 h,Za7 (by omega)];congr 2;omega
  .rw[Za5 h,Za5 (by omega)]
theorem TN(ch:Nat->Ch):∀(m k:Nat),(xA ch m k).length=m
 |0,k=>rfl
 |m+1,k=>by rw[xA,Ze6,TN ch m (k+1)]
def CC(xt:List Nat):Nat:=(bC (fE xt)).toNat
theorem ZU{xt xg xy xr:List Nat}(hx:∀x∈xt,x<256):Oe (mQ xt xg xy xr) (CC xt) where
 CB:=Rn xt xg xy xr
 rs r hr:=(Vc (xg:=xg) (xy:=xy) (xr:=xr) hx r hr).1
 xB:=Vd hx
 tabs:=Om hx
 sum:=by have:=(sY (fE xt)).1;show((bC (fE xt)).toNat:Int)=bC (fE xt);omega
 le:=by have h1:=(sY (fE xt)).2;have h2:=(Rn xt xg xy xr).ts;have h2:(fE xt).length<=100:=h2;unfold CC;omega
theorem Xy(N n:Nat)(xs:List Int):Gs N n (eZ (List.replicate N false) (xA (EV N xs) n 0)):=by
 have no:∀s,Ch.Gh s∉xA (EV N xs) n 0:=λs h=>by
   obtain⟨i,hi⟩:=Zd5.1 h;rw[TM]at hi;split at hi
   . simp only[H0]at hi;unfold EV at hi;split at hi
     .split at hi<;>cases hi
     .cases hi
   .cases hi
 have hs:Sat (List.replicate N false) (xA (EV N xs) n 0):=⟨λs h=>absurd h (no s),λi j s h _=>absurd (Zb5 h) (no s)⟩
 refine⟨by rw[DW,TN],λx hx=> ?_,λa b x On ha hb=> ?_⟩
 . obtain⟨i,hi⟩:=Zd5.1 hx;rcases tM _ _ hs i x hi with rfl|⟨s,rfl,h|h⟩
   .omega
   .have:=(Za0.1 h).1;simp at this;omega
   .have:=(Za0.1 h.1).1;simp at this;omega
 .have:=yT _ _ hs a b x On ha hb;omega
section
variable{q:List Int}{g h:Nat}
theorem nH:(ki q g h).length=q.length:=by unfold ki;simp
theorem Rp(hg:g<q.length)(hh:h<q.length):ki q g h=(q.set g q[h]).set h q[g]:=by unfold ki;rw[Zb4,Zb4,H4 hg,H4 hh];rfl
theorem qf(hg:g<q.length)(hh:h<q.length)(i:Nat):(ki q g h)[i]? =if i=h then q[g]? else if i=g then q[h]? else q[i]? :=by
 rw[Rp hg hh,List.getElem?_set];by_cases e1:h=i
 .subst e1;rw[Za7 rfl,Za7 (by simpa using hh),Za7 rfl,H4 hg]
 . rw[Za5 e1,Za5 (λe=>e1 e.symm),List.getElem?_set];by_cases e2:g=i
   .subst e2;rw[Za7 rfl,Za7 hg,Za7 rfl,H4 hh]
   .rw[Za5 e2,Za5 (λe=>e2 e.symm)]
theorem Lr(hg:g<q.length)(hh:h<q.length):ki (ki q g h) h g=q:=by
 apply Zh1;intro i;rw[qf (by rw[nH];exact hh) (by rw[nH];exact hg),qf hg hh,qf hg hh,qf hg hh];by_cases e1:i=g
 .subst e1;simp
 . rw[Za5 e1];by_cases e2:i=h
   . subst e2;rw[Za7 rfl];by_cases e3:g=i
     .exact absurd e3.symm e1
     .rw[Za5 e3,Za7 rfl]
   .rw[Za5 e2,Za5 e2,Za5 e1]
theorem Gw(hg:g<q.length)(hh:h<q.length)(x:Int)(hx:x∈ki q g h):x∈q:=by
 obtain⟨i,hi⟩:=Zd5.1 hx;rw[qf hg hh]at hi;split at hi
 .exact Zb5 hi
 .split at hi<;>exact Zb5 hi
theorem Xz(hg:g<q.length)(hh:h<q.length)(x:Int):(ki q g h).contains x=q.contains x:=by rw[Zj0,List.contains_iff_mem,List.contains_iff_mem];refine⟨Gw hg hh x,λhx=> ?_⟩;have:=Lr hg hh;rw[<-this]at hx;exact Gw (q:=ki q g h) (by rw[nH];exact hh) (by rw[nH];exact hg) x hx
theorem Lt(hg:g<q.length)(hh:h<q.length):∀m k,sJ (ki q g h) m k=sJ q m k
 |0,_=>rfl
 |m+1,k=>by unfold sJ;rw[Xz hg hh,Lt hg hh m (k+1)]
theorem ZV{N n:Nat}(hq:Gs N n q)(hg:g<q.length)(hh:h<q.length):Gs N n (ki q g h):=by
 refine⟨by rw[nH];exact hq.len,λx hx=>hq.rng x (Gw hg hh x hx),λa b x On ha hb=> ?_⟩;have sg:∀i,(ki q g h)[i]? =q[if i=h then g else if i=g then h else i]? :=λi=>by
   rw[qf hg hh];split
   .rfl
   .split<;>rfl
 rw[sg]at ha hb;have cj:(if a=h then g else if a=g then h else a)≠(if b=h then g else if b=g then h else b):=by
   repeat' split
   all_goals omega
 rcases Zh5 (if a=h then g else if a=g then h else a) (if b=h then g else if b=g then h else b)with hl|hl
 .exact hq.ap _ _ x hl ha hb
 .exact hq.ap _ _ x (by omega) hb ha
theorem Gx:∀q:List Int,sZ q q=0
 |[]=>rfl
 |x::q=>by rw[sZ,Za7 rfl,Gx q]
theorem JR:∀(q r:List Int)(i:Nat)(y:Int),q.length=r.length->r[i]? =q[i]? ->i<q.length->q[i]? ≠some y->sZ q (r.set i y)=sZ q r+1
 |[],_,i,_,_,_,h,_=>by simp at h
 |x::q,[],_,_,h,_,_,_=>by simp at h
 |x::q,z::r,0,y,hl,he,_,hy=>by simp at he hy;subst he;rw[List.set_cons_zero,sZ,sZ,Za5 hy,Za7 rfl];omega
 |x::q,z::r,i+1,y,hl,he,hi,hy=>by have:=JR q r i y (by simpa using hl) (by simpa using he) (by simpa using hi) (by simpa using hy);rw[List.set_cons_succ,sZ,sZ,this];omega
theorem XA(hg:g<q.length)(hh:h<q.length):sZ q (ki q g h)=if q[g]=q[h]then 0 else 2:=by
 by_cases e:q[g]=q[h]
 . rw[  Za7 e];have:ki q g h=q:=by
    apply Zh1;intro i;rw[qf hg hh];split
    .   rename_i hi;subst hi;rw[H4 hg,H4 hh,e]
    .   split
        .rename_i hi;subst hi;rw[H4 hg,H4 hh,e]
        .rfl
   rw[this,Gx]
 . (rw[Za5 e];have cj:g≠h:=λh'=>by subst h';exact e rfl);rw[Rp hg hh,JR _ _ h _ (by simp) (Zk8 cj) hh (by rw[H4 hh];simpa using λe'=>e e'.symm),JR _ _ g _ rfl rfl hg (by rw[H4 hg];simpa using e),Gx]
end
end
section
open Go Go.Ai Go.Proofs Go.RowKit
theorem JS{α:Type}{P:α->Prop}{cells:α->List AV}:∀(rs:List (List AV)),(∀r∈rs,∃t,r=cells t/\P t)->∃l:List α,rs=l.map cells/\∀t∈l,P t
 |[],_=>⟨[],rfl,by simp⟩
 |r::rs,h=>by
  obtain⟨t,rfl,ht⟩:=h r (by simp);obtain⟨l,rfl,hl⟩:=JS rs (λq hq=>h q (Za6 _ hq));refine⟨t::l,rfl,λu hu=> ?_⟩;rcases Za9.1 hu with rfl|hu
  .exact ht
  .exact hl u hu
section
variable{H:Type}{enc:TypeId×Value->H}{w:World}{base:Nat}{spare:Nat->Bool}{held:Bool}
theorem Gy{t:TypeId}{k:IntKind}{r:Go.Reach}{b0:Nat}{v:Value}{d:DataW H}{p:List MemPlace}(ht:Tryz.prog.underlying t=some (.int k))
  (hval:Value.okWide Tryz.prog w r b0 t v) (hd:DataW.Trod enc Tryz.prog w base spare held t v d p):∃us,(∃i,us=[AV.int k i]/\(Lit.int k i).wf=true)/\∀ρ n,aq ρ n (λad=>w.cell? ad) us [v]:=by
 obtain⟨m,rfl⟩:=Go.WideShapes.okWide_int ht hval;obtain⟨fuel,hf⟩:=hd;exact Gd ht _ _ _ hf
theorem wf_u8{i:Int}(h:(Lit.int .u8 i).wf=true):0<=i/\i<256:=by
 have e1:IntKind.min .u8=0:=by decide
 have e2:IntKind.max .u8=255:=by decide
 have h:(decide (IntKind.min _<=i)&&decide (i<=IntKind.max _))=true:=h;rw[e1,e2,Za8,Ze1,Ze1]at h;omega
theorem wf_u16{i:Int}(h:(Lit.int .u16 i).wf=true):0<=i/\i<65536:=by
 have e1:IntKind.min .u16=0:=by decide
 have e2:IntKind.max .u16=65535:=by decide
 have h:(decide (IntKind.min _<=i)&&decide (i<=IntKind.max _))=true:=h;rw[e1,e2,Za8,Ze1,Ze1]at h;omega
theorem wf_u32{i:Int}(h:(Lit.int .u32 i).wf=true):0<=i/\i<4294967296:=by
 have e1:IntKind.min .u32=0:=by decide
 have e2:IntKind.max .u32=4294967295:=by decide
 have h:(decide (IntKind.min _<=i)&&decide (i<=IntKind.max _))=true:=h;rw[e1,e2,Za8,Ze1,Ze1]at h;omega
def xD(k:IntKind)(n:Nat)(vs:List AV):Prop:=∃(z:Bool) (l:List Nat),vs=[cL k z l]/\(∀x∈l,x<n)/\l.length<=9223372036854775807
theorem D5{t e:TypeId}{k:IntKind}{n:Nat}(ht:Tryz.prog.underlying t=some (.slice e))(he:Tryz.prog.underlying e=some (.int k))(hc:Tryz.prog.cellsOf e=1)(hk:∀i,(Lit.int k i).wf=true->0<=i/\i<(n:Int)):
  jX enc Tryz.prog w base spare held t (xD k n):=by
 refine jX.mono (IK (es:=1) ht hc (by omega) (λvs h=>by obtain⟨i,rfl,_⟩:=h;rfl) (Gd he)) λvs h=> ?_
 obtain⟨z,rs,rfl,h1,h2⟩:=h;obtain⟨l,rfl,hl⟩:=JS (P:=λx:Nat=>x<n) (cells:=λx:Nat=>[AV.int k (x:Int)]) rs λr hr=>by
  obtain⟨i,rfl,hi⟩:=h1 r hr;have:=hk i hi;exact⟨i.toNat,by rw[show((i.toNat:Nat):Int)=i by omega],by omega⟩
 refine⟨z,l,rfl,hl,?_⟩;rw[Zb3]at h2;unfold Go.maxLen at h2;omega
def ab9(vs:List AV):Prop:=∃(z:Bool) (l:List Int),vs=[ints z l]/\l.length<=9223372036854775807
theorem ZW:jX enc Tryz.prog w base spare held 27 ab9:=by
 refine jX.mono (IK (es:=1) (e:=3) (by kernel_rfl) (by kernel_rfl) (by omega) (λvs h=>by obtain⟨i,rfl,_⟩:=h;rfl) (Gd (k:= .i64) (by kernel_rfl))) λvs h=> ?_
 obtain⟨z,rs,rfl,h1,h2⟩:=h;obtain⟨l,rfl,_⟩:=JS (P:=λ_:Int=>True) (cells:=λx:Int=>[AV.int .i64 x]) rs λr hr=>by
  obtain⟨i,rfl,hi⟩:=h1 r hr;exact⟨i,rfl,trivial⟩
 refine⟨z,l,rfl,?_⟩;rw[Zb3]at h2;unfold Go.maxLen at h2;omega
theorem Oo:jX enc Tryz.prog w base spare held 22 (xD .u8 256):=D5 (e:=5) (by kernel_rfl) (by kernel_rfl) (by kernel_rfl) λ_ h=>wf_u8 h
theorem Ve:jX enc Tryz.prog w base spare held 23 (xD .u16 65536):=D5 (e:=69) (by kernel_rfl) (by kernel_rfl) (by kernel_rfl) λ_ h=>wf_u16 h
theorem Vf:jX enc Tryz.prog w base spare held 24 (xD .u32 4294967296):=D5 (e:=75) (by kernel_rfl) (by kernel_rfl) (by kernel_rfl) λ_ h=>wf_u32 h
structure ac6(xt xg xy xr:List Nat):Prop where
 t:∀x∈xt,x<256
 g:∀x∈xg,x<65536
 y:∀x∈xy,x<256
 r:∀x∈xr,x<4294967296
 lt:xt.length<=9223372036854775807
 lg:xg.length<=9223372036854775807
 ly:xy.length<=9223372036854775807
 lr:xr.length<=9223372036854775807
theorem OS:jX enc Tryz.prog w base spare held 26 λvs=>∃zt zg zy zr xt xg xy xr,vs=iM zt zg zy zr xt xg xy xr/\ac6 xt xg xy xr:=by
 refine jX.mono (QL [22,23,22,24] (Qs:=[xD .u8 256,xD .u16 65536,xD .u8 256,xD .u32 4294967296]) (by kernel_rfl) (by kernel_rfl) (by kernel_rfl) ⟨Oo,Ve,Oo,Vf,trivial⟩) λvs h=> ?_
 obtain⟨ps,rfl,m0⟩:=h;obtain⟨p0,q0,rfl,⟨z1,l1,rfl,a1,b1⟩,m1⟩:=xw m0;obtain⟨p0,q0,rfl,⟨z2,l2,rfl,a2,b2⟩,m2⟩:=xw m1;obtain⟨p0,q0,rfl,⟨z3,l3,rfl,a3,b3⟩,m3⟩:=xw m2;obtain⟨p0,q0,rfl,⟨z4,l4,rfl,a4,b4⟩,m4⟩:=xw m3;obtain rfl:=QV m4;exact⟨z1,z2,z3,z4,l1,l2,l3,l4,rfl,⟨a1,a2,a3,a4,b1,b2,b3,b4⟩⟩
end
end
noncomputable section
open Go Go.Ai Go.Proofs
attribute [local go_sem ↓] b6 HX ev evX zN getLT Bd QW Tu yR yS Mo QX QY QZ Mp Mr Ms Mt Mu Mw Q0 Q1 Mx My Mz MA MB UQ UR US
attribute [local go_sem] b6 HX ev
section
variable(c:ai)(F:Nat)(x0 x1 x2 x3 x4 x5 x6 x7 x8 x9 XB XC:AV)(s:St)
def qg:Sh:=(sq sl (sq sl (sq sl (sq (sq sl (sc (sq sl (sq sl sl)) sl)) (sq sl (sq sl (sq sl (sq (sq sl (sc (sq sl sl) sl)) (sq sl (sj [9,10,15,19] (sq sl (sc sl sl)) (sq sl sl)))))))))))
def qh:PX 4 qg:=⟨_,by conv=>lhs;reduce⟩
def mE:O2:=b6 c F cg qh.1 [x0,x1,x2,x3] s
def qi:=(by dsimp only[mE,qh,go_sem,Int.reduceOfNat]:mE c F x0 x1 x2 x3 s=_)
end
section
variable{c:ai}(hc:cE c)(F:Nat){x0 x1 x2 x3 x4 x5 x6 x7 x8 x9 XB XC:AV}{s:St}{r:AV×St}
include hc
theorem oN(h:mE c F x0 x1 x2 x3 s=some r):c 4 [x0,x1,x2,x3] s=some (tidy s r):=hc.o0 F qg (by kernel_rfl) (by kernel_rfl) h
end
end
section
set_option linter.unusedSimpArgs false
open Go Go.Ai Go.Proofs
variable{c:ai}
theorem PS.cells{s0 s:St}{Vs:List AV}{p:bX}(h:PS s0 s Vs p):Vs.length=5/\aO Vs=true:=by
 obtain⟨G,V1,V2,V3,V4,V5,r1,r2,rfl,F1,F2,F3,F4,F5⟩:=h;have o1:=F1.out.cells.2;have o2:=F2.out.cells.2;have o3:=F3.cells.2;have o4:=F4.cells.2;have o5:=F5.cells.2;simp only[aO,Zj9]at o1 o2 o3 o4 o5;exact⟨rfl,by simp only[aO,o1,o2,o3,o4,o5,Zi6]⟩
theorem QS.beq{es:Nat}{s:St}{v:AV}{rows:List (List AV)}(h:QS es s v rows):jT v v=true:=by
 rcases h with⟨rfl,rfl⟩|⟨b,off,cap,cs,rfl,_⟩|⟨b,off,rfl,rfl⟩
 .rfl
 .cases cap<;>simp[jT,fI,Pos.beq_eq.2 rfl]
 .simp[jT,fI,Pos.beq_eq.2 rfl]
theorem PS.beq{s0 s:St}{Vs:List AV}{p:bX}(h:PS s0 s Vs p):dJ (.agg Vs) (.agg Vs)=true:=by
 obtain⟨V1,V2,V3,V4,V5,r1,r2,rfl,h1,h2,h3,h4,h5⟩:=h.all;simp only[dJ,nL,QS.beq h1.out.own,QS.beq h2.out.own,QS.beq h3.own,QS.beq h4.own,QS.beq h5.own,Zi6]
theorem ZX{R:Type}(K1:AV->Option R){p:Pos}{o m:Nat}{h h2:T AB}{l:List AV}(hv:((cellsOf (h.get p)).bind λcs=>cut cs o m)=some l)(Ce:((cellsOf (h2.get p)).bind λcs=>cut cs o m)=some l)(hb:dJ (.agg l) (.agg l)=true):
  jV (.load (some m)) [.ptr p o] h (λv=>kB (.load (some m)) [.ptr p o] v (qy [] h2)&&true) K1=K1 (.agg l):=by
 unfold jV;have e:av.run (λ_=>none) .h (.load (some m)) [.ptr p o]=none:=rfl;rw[e];simp only;rw[oU,hv];simp only[Ze2];have:kB (.load (some m)) [.ptr p o] (.agg l) (qy [] h2)=true:=by unfold kB;show(match av.run (λb=>h2.get b) .h (.load (some m)) [.ptr p o]with|some (.val u)=>dJ u (.agg l)|_=>false)=true;rw[oU,Ce];exact hb
 rw[this];rfl
theorem lenP{R:Type}{es:Nat}{s:St}{v:AV}{rows:List (List AV)}(h:QS es s v rows)(K:AV->Option R):ey (.lenB .l) [v] K=K (.int .i64 (rows.length:Int)):=by
 rcases h with⟨rfl,rfl⟩|⟨b,off,cap,cs,rfl,_⟩|⟨b,off,rfl,rfl⟩<;>exact cV K (λH n=>rfl)
theorem abv{s0 s:St}{Vs:List AV}{p:bX}{P:AV}{N:Nat}(hc:cE c)(h:PS s0 s Vs p)(ok:Oe p N)(pq:QS 1 s P (([]:List Int).map cU))(hq:Gs N p.gs.length [])(g k:Nat):
  c 16 [.agg Vs,P,.int .i64 (g:Int),.int .i64 (k:Int)] s=some (.tuple [.ah,.int .i64 2],s):=by
 have hw:=h.aA.wf;have gN:=Grew.af hw (.cells Vs 0);have h1:=h.n7 gN;have hcut:cut Vs 0 5=some Vs:=bQ h1.cells.1;have ck:=zU hc h1 ok (pq.aA gN) hq;have ln:=λ(K:AV->St->Option (AV×St))(s1:St)=>pq.lenB (c:=c) K s1
 simp only[Zh6,Zl2]at ln;rw[EX hc 1 (r:=(.tuple [.ah,.int .i64 2],af s (.cells Vs 0))),aL (.tuple λv hv=>by simp at hv;rcases hv with rfl|rfl;exact .ah;exact .int _ _) gN.keeps];rw[IV];have m1:decide (min (g:Int) (k:Int)<0)=false:=Za2 (by omega);have m2:decide ((((0:Nat):Int))<=max (g:Int) (k:Int))=true:=H5 (by omega);have m3:decide ((0:Int)<=max (g:Int) (k:Int))=true:=H5 (by omega);have mn:=λ(K:AV->St->Option (AV×St))(s:St)=>aS c K (λH n=>HW H n .i64 .i64 (g:Int) (k:Int)) s
 have mx:=λ(K:AV->St->Option (AV×St))(s:St)=>aS c K (λH n=>Tn H n .i64 .i64 (g:Int) (k:Int)) s
 simp[show ∀l,AV.cells (.agg l)=l from λl=>rfl,aD,bf,hcut,ck,ln,mn,mx,m1,m2,m3]
theorem Rq(hc:cE c){xt xg xy xr:List Nat}(ht:∀x∈xt,x<256)(hg:∀x∈xg,x<65536)(hy:∀x∈xy,x<256)(hr:∀x∈xr,x<4294967296)(lt:xt.length<=9223372036854775807)(lg:xg.length<=9223372036854775807)(lr:xr.length<=9223372036854775807)(ly:xy.length<=9223372036854775807)
   (zt zg zy zr z:Bool) (xs:List Int) (hx:xs.length<=9223372036854775807) {a b:Nat} (ha:a<256) (hb:b<256) (st:St) (hw:Wf st):
   c 4 [.agg (iM zt zg zy zr xt xg xy xr),ints z xs,.int .u8 (a:Int),.int .u8 (b:Int)] st=some (.bool true,st):=by
 have g1:=Grew.af hw (.cells (iM zt zg zy zr xt xg xy xr) 0);obtain⟨Vs,s2,M,P⟩:=abw hc ht hg hy hr lt lg lr ly zt zg zy zr _ g1.wf;obtain⟨vl,vo⟩:=P.cells;have gB:=Grew.af P.aA.wf (.cells Vs 0);have st5:∀(K:AV->St->Option (AV×St)),ak c (.store 5) [.ptr s2.next 0,.agg Vs] (af s2 (.cells [.ah,.ah,.ah,.ah,.ah] 0)) K=K .undef (af s2 (.cells Vs 0)):=λK=>dQ c K s2 5 (.agg Vs) _ vl rfl vo
 have P3:=P.n7 gB;have ok:=ZU (xg:=xg) (xy:=xy) (xr:=xr) ht;have hcut:cut Vs 0 5=some Vs:=bQ vl;obtain⟨s4,v,Se,Mq⟩:=Xq hc P3 (Xx ht) ok.CB.ts ok.CB.gs ok.sum z xs hx;have hq:=Xy (CC xt) (mQ xt xg xy xr).gs.length xs;generalize eZ (List.replicate (CC xt) false) (xA (EV (CC xt) xs) (mQ xt xg xy xr).gs.length 0)=q at*
 have hql:q.length<=100:=by rw[hq.len];exact ok.CB.gs
 have P4:=P3.n7 Mq.aA;have G4:=(g1.trans P.aA).trans (gB.trans Mq.aA);have ln:=λ(K:AV->St->Option (AV×St))(s1:St)=>Mq.own.lenB (c:=c) K s1
 have pn:=λ(K:AV->Option (AV×St))=>lenP Mq.own K
 rw[Zb3]at ln pn;have x5:=aD s2 (.cells Vs 0);have x5q:=Mq.aA.get x5;have wa:ay .i64 (a:Int)=(a:Int):=wrap64 (by omega) (by omega);have wb:ay .i64 (b:Int)=(b:Int):=wrap64 (by omega) (by omega);have ld4:∀(K:AV->St->Option (AV×St)),ak c (.load (some 4)) [.ptr st.next 0] (af st (.cells (iM zt zg zy zr xt xg xy xr) 0)) K=K (.agg (iM zt zg zy zr xt xg xy xr)) (af st (.cells (iM zt zg zy zr xt xg xy xr) 0)):=λK=>by rw[rJ,aD];rfl
 have al:∀(K:AV->St->Option (AV×St)),ak c (.alloc [.ah,.ah,.ah,.ah,.ah]) [] s2 K=K (.ptr s2.next 0) (af s2 (.cells [.ah,.ah,.ah,.ah,.ah] 0)):=λK=>by simp
 have bx:∀(K:AV->St->Option (AV×St)),ak c .box [.agg (iM zt zg zy zr xt xg xy xr)] st K=K (.ptr st.next 0) (af st (.cells (iM zt zg zy zr xt xg xy xr) 0)):=λK=>by simp[AV.cells]
 have l5:∀(K:AV->St->Option (AV×St)),ak c (.load (some 5)) [.ptr s2.next 0] (af s2 (.cells Vs 0)) K=K (.agg Vs) (af s2 (.cells Vs 0)):=λK=>Ol x5 vl K
 have Lu:∀{t:St},Grew s4 t->∀(K:AV->St->Option (AV×St)),ak c (.load (some 5)) [.ptr s2.next 0] t K=K (.agg Vs) t:=λg K=>Ol (g.get x5q) vl K
 by_cases h0:q.length=0
 .obtain rfl:=Zb0 h0;have sw:=abv hc P4 ok Mq.own hq a b;rw[oN hc 1 (r:=(.bool true,s4)),aL (Plain.bool _) G4.keeps];rw[qi];rw[bx,aE,ld4,kA,M,iV,al,st5,l5,aE,kA,Se,iV,aE,aE,ln,eD];have l5a:=Lu (Grew.refl P4.aA.wf);simp[l5a,wa,wb,sw,Oq hc]
 . have hqp:0<q.length:=(by omega);have wX:a % q.length<q.length:=Zh8 _ hqp;have KN:b % q.length<q.length:=Zh8 _ hqp;obtain⟨s5,v1,W1,M1⟩:=TJ hc P4 ok Mq.own hq wX KN;have P5:=P4.n7 M1.aA;have Rr:=ZV hq wX KN;obtain⟨s6,v2,W2,M2⟩:=TJ hc P5 ok M1.own Rr (g:=b % q.length) (k:=a % q.length) (by rw[nH];exact KN) (by rw[nH];exact wX);rw[Lr wX KN]at M2;have P6:=P5.n7 M2.aA;have G46:=M1.aA.trans M2.aA;have q6:=Mq.own.aA G46;have o6:=M1.own.aA M2.aA;have e1:=Lp hc M2.own q6 (by omega);rw[H5 rfl]at e1;have mv:=U9 hc q6 o6 (by omega) nH.symm;rw[XA wX KN]at mv;obtain⟨s7,f1,F1,XD⟩:=TH hc P6 ok q6 hq (by rcases QS.cells Mq.own with⟨h,_⟩;exact h);have P7:=P6.n7 XD.aA;obtain⟨s8,f2,F2,MF2⟩:=TH hc P7 ok (o6.aA XD.aA) Rr (by rcases QS.cells M1.own with⟨h,_⟩;exact h);have Kz:∀m k,sJ (ki q (a % q.length) (b % q.length)) m k=sJ q m k:=Lt wX KN;rw[Kz]at MF2;have e2:=Lp hc (XD.own.aA MF2.aA) MF2.own (by have:=Oh q (CC xt) 0;have:=ok.le;omega);rw[H5 rfl]at e2;have G8:=G4.trans (G46.trans (XD.aA.trans MF2.aA));obtain⟨gb,go,pg⟩:=Gq q6 (H4 wX);obtain⟨kb,ko,pk⟩:=Gq q6 (H4 KN);have ra:∀(K:AV->Option (AV×St)),ey (.bin .rem .num) [.int .i64 (a:Int),.int .i64 (q.length:Int)] K=K (.int .i64 ((a % q.length:Nat):Int)):=λK=>by
     rw[wo (by omega) (by omega),Zj4]
   have rb:∀(K:AV->Option (AV×St)),ey (.bin .rem .num) [.int .i64 (b:Int),.int .i64 (q.length:Int)] K=K (.int .i64 ((b % q.length:Nat):Int)):=λK=>by
     rw[wo (by omega) (by omega),Zj4]
   have z0:decide ((q.length:Int)=0)=false:=Za2 (by omega);rw[oN hc 1 (r:=(.bool true,s8)),aL (Plain.bool _) G8.keeps];rw[qi];rw[bx,aE,ld4,kA,M,iV,al,st5,l5,aE,kA,Se,iV,aE,aE,ln,eD,z0,jW];rw[bZ,QC,wa,bZ,pn,ra,bZ,QC,wb,bZ,pn,rb,bZ,bZ];have x6:=G46.get x5q;have x7:=XD.aA.get x6;have x5s:=M1.aA.get x5q;have bq:=P6.beq;have la:=Lu (Grew.refl P4.aA.wf);have lb:=Lu M1.aA;have rk:∀(K:AV->Option (AV×St)),jV (.load (some 5)) [.ptr s2.next 0] s7.heap (λv=>kB (.load (some 5)) [.ptr s2.next 0] v (qy [] s6.heap)&&true) K=K (.agg Vs):=λK=>
     ZX K (by rw[x7];simp only[bf,Zd1];exact hcut) (by rw[x6];simp only[bf,Zd1];exact hcut) bq
   have rk':=rk;simp only[Zj9]at rk';have p1:=λ{R}=>@pg.pr R
   have p3:=pg.one;have k1:=λ{R}=>@pk.pr R
   have k3:=pk.one;have aw:=Oq hc s8;generalize a % q.length=g at*
   generalize b % q.length=h at*
   rw[la,aE,aE,aE,kA,W1,iV];by_cases e:q[g]=q[h]
   .rw[Za7 e]at mv;have d:decide (q[g]=q[h])=true:=H5 e;simp[x5s,W2,e1,p1,p3,k1,k3,d,fY,mv,x6,bf,hcut,F1,rk,rk',F2,e2,aw]
   .rw[Za5 e]at mv;have d:decide (q[g]=q[h])=false:=Za2 e;simp[x5s,W2,e1,p1,p3,k1,k3,d,fY,mv,x6,bf,hcut,F1,rk,rk',F2,e2,aw]
end
end Go.Proofs.YtoeleelojgimfaaGreatDoor
namespace Go.Proofs.YtoeleelojgimfaaGreatDoor.xE
section
open Go
theorem k1:(Rows.planSwapsRow.inPlace==Tryz.pinned.checked.prog.inPlace 4)=true:=by kernel_rfl
theorem k2:(Rows.planSwapsRow.unfollowed==Tryz.pinned.checked.prog.unfollowed 4)=true:=by kernel_rfl
theorem k3:(Rows.planSwapsRow.recurses==Tryz.pinned.checked.prog.recurses 4)=true:=by kernel_rfl
theorem k4:(Rows.planSwapsRow.named==Tryz.pinned.checked.prog.varsNamed 4)=true:=by kernel_rfl
theorem k5:laidOutB Tryz.pinned.checked.prog=true:=by kernel_rfl
theorem k6:mapsRowed Tryz.pinned.checked.prog=true:=by kernel_rfl
theorem k7:(Rows.planSwapsRow.plainKeys==Tryz.pinned.checked.prog.plainKeys)=true:=by kernel_rfl
theorem closed:joinedFacts Tryz.pinned.checked.prog 4 Tryz.f4 (OpenSpec.ofChange Rows.planSwapsSpec).bare Rows.planSwapsRow=true:=by
 unfold joinedFacts;rw[k1,k2,k3,k4,k5,k6,k7]
 kernel_rfl
end
end Go.Proofs.YtoeleelojgimfaaGreatDoor.xE
