/- Functions of the program, plainly, and what they answer. -/
import Derived.Test.YtgjikjcfjddloaaGreatDoorRLawB
import Derived.Test.YtgjikjcfjddloaaGreatDoorRows
set_option linter.all false
set_option maxRecDepth 100000
set_option maxHeartbeats 4000000
namespace Go.Proofs.YtgjikjcfjddloaaGreatDoor
section
open Go Go.Ai Go.Proofs
theorem BO{P:Nat->Bool}:∀(m k i:Nat),k<=i->i<k+m->P i=true->0<=scan P m k
 |0,_,_,_,_,_=>by omega
 |m +   1,k,i,h1,h2,hp=>by
  unfold scan;split
  .omega
  . rename_i hk;exact BO m (k+1) i (by
        rcases Zj1 k i with h|h
        .omega
        .obtain rfl:i=k:=(by omega);exact absurd hp hk) (by omega) hp
theorem YV{ts:List aK}(h1:∀t∈ts,nE t=0)(h2:∀(i j:Nat)(a b:aK),i<j->ts[i]? =some a->ts[j]? =some b->a.name≠b.name):∀m k,(ic ts m k).2=0
 |0,_=>rfl
 |m+    1,k=>by
  unfold ic;cases e:ts[k]? with
  |none=>rfl
  |some t=>
   have ht:nE t=0:=h1 t (Zb4 e);simp only;rw[Za3 (by simp[ht]),Za3]
   .    exact YV h1 h2 m (k+1)
   .    intro hs;obtain⟨_,aO,hp⟩:=AU k 0 hs;generalize (scan (nN ts t.name) k 0).toNat=i at*
        unfold nN at hp;obtain⟨a,ha,hb⟩:=Zd0.1 (Zh9 hp);exact h2 i k a t (by omega) ha e hb
theorem YW{gs:List aL}(h1:∀g∈gs,fH g=0)(h2:∀(i j:Nat)(a b:aL),i<j->gs[i]? =some a->gs[j]? =some b->a.name≠b.name)(hl:gs.length<=64):∀m k,(ij gs m k).2=0
 |0,_=>rfl
 |m+    1,k=>by
  unfold ij;cases e:gs[k]? with
  |none=>rfl
  |some t=>
   have ht:fH t=0:=h1 t (Zb4 e);have hk:k<gs.length:=(Za1.1 e).1;simp only;rw[Za3 (by simp[ht]),Za3,Za3 (by omega)]
   .    exact YW h1 h2 hl m (k+1)
   .    intro hs;obtain⟨_,aO,hp⟩:=AU k 0 hs;generalize (scan (fY gs t.name) k 0).toNat=i at*
        unfold fY at hp;obtain⟨a,ha,hb⟩:=Zd0.1 (Zh9 hp);exact h2 i k a t (by omega) ha e hb
theorem YX{gs:List aL}{ts:List Ty}(h:∀(k:Nat)(t:Ty),ts[k]? =some t->NH t (kf ts k)=false/\jM gs t=false/\ov t (kf ts k)=false/\k<256):∀m k,(fq gs ts m k).2=0
 |0,_=>rfl
 |m+1,k=>by
  unfold fq;cases e:ts[k]? with
  |none=>rfl
  |some t=>
   obtain⟨a,b,d,f⟩:=h k t e;simp only;rw[Za3 (by simp[a]),Za3 (by simp[b]),Za3 (by simp[d]),Za3 (by omega)];exact YX h m (k+1)
theorem Ih{l:List Nat}{n:Nat}(h:∀x∈l,x<n)(h0:0<n)(i:Nat):l.getD i 0<n:=by
 rw[Za7];cases e:l[i]? with
 |none=>simpa using h0
 |some x=>simpa using h x (Zb4 e)
theorem oF{α:Type}{f:Nat->α}{k i:Nat}{t:α}(h:((List.range k).map f)[i]? =some t):i<k/\t=f i:=by
 have hi:i<k:=by simpa using(Za1.1 h).1
 rw[Zb6,Zj4 hi,Zf1,H0]at h;exact⟨hi,h.symm⟩
theorem adZ:∀i<3,∀x<256,nE (iQ i x)=0:=by decide+kernel
theorem YY:∀x<256,bH (iQ 0 x)=((tN x:Nat):Int):=by decide+kernel
theorem UZ{xt:List Nat}(hx:∀x∈xt,x<256):(bI (gI xt)).2=0:=by
 unfold bI;rw[Za3 (by unfold gI;rw[JS];omega)];refine YV (λt ht=> ?_) (λi j a b XB ha hb e=> ?_) _ _
 .obtain⟨i,hi⟩:=Zc7.1 ht;obtain⟨h1,rfl⟩:=oF hi;exact adZ i (by omega) _ (Ih hx (by omega) i)
 .obtain⟨h1,rfl⟩:=oF ha;obtain⟨h2,rfl⟩:=oF hb;have e:dx i=dx j:=e;unfold dx at e;simp only[Zh2,Zm5,true_and]at e;omega
theorem ab3(p:Prop)[Decidable p](i:Nat):lO (if p then bt i else [])=true:=by
 split
 .unfold lO;rw[Tz];simp
 .rfl
theorem aiu:∀a b d e:Bool,(zn none (((if a=true then [0]else [])++(if b=true then [1]else [])++(if d=true then [2]else [])++(if e=true then [3]else [])).map bt)=true/\(((if a=true then [0]else [])++(if b=true then [1]else [])++(if d=true then [2]else [])++(if e=true then [3]else [])).map bt:List (List Nat)).length<=4):=by decide+kernel
theorem ajm(x:Nat):zn none (At x 4)=true/\(At x 4).length<=4:=by
 have e:At x 4=(((if EE x 0=true then [0]else [])++(if EE x 1=true then [1]else [])++(if EE x 2=true then [2]else [])++(if EE x 3=true then [3]else [])).map bt):=by
  unfold At;rw[show List.range 4=[0,1,2,3]from rfl];cases h0:EE x 0<;>cases h1:EE x 1<;>cases h2:EE x 2<;>cases h3:EE x 3<;>simp[h0,h1,h2,h3]
 rw[e];exact aiu _ _ _ _
theorem aiv(i x:Nat):fH (vP i x)=0:=by
 have t:=ajm x;have n:fI (vP i x).name=true:=Tz _;have a:lO (vP i x).vK=true:=ab3 (x % 2=1) _;have b:lO (vP i x).pN=true:=ab3 (4<x % 8) _;have d:lO (vP i x).mI=true:=ab3 (x % 3=2) _;unfold fH;rw[Za3 (by rw[n,a,b,d];simp),Za3 (by show ¬ ¬(0<=((x % 4*500:Nat):Int)/\((x % 4*500:Nat):Int)<=9999);omega),
  Za3 (by show ¬ ¬(0<=((x % 3:Nat):Int)/\((x % 3:Nat):Int)<=2);omega),Za3 (by show ¬4<(At x 4).length;omega),Za3 (by show ¬zn none (At x 4)=false;rw[t.1];simp)]
theorem JW{a b:Nat}(ha:a<676)(hb:b<676)(h:bt a=bt b):a=b:=by unfold bt at h;simp only[Zh2,Zm5]at h;omega
theorem BP{a b:Nat}(ha:a<676)(hb:b<676):aC (bt a) (bt b)=decide (a<b):=by
 unfold bt;simp only[aC,Df,cX];by_cases h1:97+a / 26 % 26<97+b / 26 % 26
 .rw[H5 h1,H5 (show a<b by omega)]
 . rw[  Za0 h1];by_cases h2:97+a / 26 % 26=97+b / 26 % 26
   . rw[H5 h2];by_cases h3:97+a % 26<97+b % 26
     .  rw[H5 h3,H5 (show a<b by omega)]
     .  rw[Za0 h3,Za0 (show ¬a<b by omega)];simp only;split<;>rfl
   .rw[Za0 h2,Za0 (show ¬a<b by omega)]
theorem Ii{i:Nat}(h:i<12):uF i=25*i:=by
 have:∀i<12,uF i=25*i:=by decide+kernel
 exact this i h
theorem ahR(xs:List Nat):(ij (fN xs) 101 0).2=0:=by
 refine YW (λg hg=> ?_) (λi j a b XB ha hb e=> ?_) (by have:=BN xs;omega) _ _
 .obtain⟨i,hi⟩:=Zc7.1 hg;obtain⟨h1,rfl⟩:=oF hi;exact aiv _ _
 .obtain⟨h1,rfl⟩:=oF ha;obtain⟨h2,rfl⟩:=oF hb;have e:bt (uF i)=bt (uF j):=e;rw[Ii (by omega),Ii (by omega)]at e;have:=JW (by omega) (by omega) e;omega
theorem ye{xs:List Nat}{a:Nat}(ha:a<676)(h:bt a∈kq (fN xs)):∃i,i<12/\a=25*i/\∃j,j<(fN xs).length/\fY (fN xs) (bt a) j=true:=by
 unfold kq at h;obtain⟨g,hg,e⟩:=Ze3.1 h;obtain⟨i,hi⟩:=Zc7.1 hg;have hl:=(Za1.1 hi).1;obtain⟨h1,rfl⟩:=oF hi;have e:bt (uF i)=bt a:=e;have e2:=e;rw[Ii (by omega)]at e;have:=JW (by omega) ha e;refine⟨i,by omega,this.symm,i,hl,?_⟩;unfold fY;rw[hi];exact H5 (congrArg some e2)
def Ci(p:Nat×Nat×Int):Ty:=⟨bt p.1,bt p.2.1,p.2.2⟩
def EH(p:Nat×Nat×Int):Nat:=p.1*312+p.2.1
def OZ(names:List (List Nat))(ys:List Ty)(q:Nat):Prop:=
 ∃ps:List (Nat×Nat×Int),ys=ps.map Ci/\(∀p∈ps,p.1<p.2.1/\p.2.1<312/\bt p.1∈names/\bt p.2.1∈names/\(p.2.2=1\/p.2.2=2)/\EH p<q)/\ps.Pairwise λa b=>EH a<EH b
theorem OZ.up{names:List (List Nat)}{ys:List Ty}{q q':Nat}(h:OZ names ys q)(hq:q<=q'):OZ names ys q':=by
 obtain⟨ps,e,h1,h2⟩:=h;exact⟨ps,e,λp hp=>by obtain⟨a,b,d,f,g,i⟩:=h1 p hp;exact⟨a,b,d,f,g,by omega⟩,h2⟩
theorem OZ.next{names:List (List Nat)}{bu:List Nat}{ys:List Ty}{i k n:Nat}(h:OZ names ys (i*312+k))(hk:k<312)(Fk:i<k)(hi:bt i∈names)(kF:bt k∈names):OZ names (A6 bu i k n ys) (i*312+(k+1)):=by
 unfold A6;split
 . rename_i hc;obtain⟨ps,e,h1,h2⟩:=h;unfold YS at hc;simp only[Zb0,Ze2]at hc;refine⟨ps++[(i,k,1+((bu.getD n 0 % 4:Nat):Int))],by rw[Ze4,e];rfl,λp hp=> ?_,?_⟩
   . rcases Zd5.1 hp with hp|hp
     .  obtain⟨a,b,d,f,g,j⟩:=h1 p hp;exact⟨a,b,d,f,g,by omega⟩
     .  simp only[Zb2,Ze9,Zj8]at hp;subst hp;exact⟨Fk,hk,hi,kF,by show 1+((bu.getD n 0 % 4:Nat):Int)=1\/1+((bu.getD n 0 % 4:Nat):Int)=2;omega,by show i*312+k<_;omega⟩
   .rw[List.pairwise_append];refine⟨h2,List.pairwise_singleton _ _,λa ha b hb=> ?_⟩;simp only[Zb2,Ze9,Zj8]at hb;subst hb;exact(h1 a ha).2.2.2.2.2
 .exact h.up (by omega)
theorem P9{names:List (List Nat)}{bu:List Nat}{i:Nat}:∀(m k n:Nat)(ys:List Ty),k+m<=312->i<k->OZ names ys (i*312+k)->OZ names (ku names bu i m k n ys).2 (i*312+312)
 |0,k,n,ys,h1,_,h=>by unfold ku;exact h.up (by omega)
 |m +   1,k,n,ys,h1,h2,h=>by
  unfold ku;split
  . rename_i hi;split
    .   rename_i hk;exact P9 m (k+1) (n+1) _ (by omega) (by omega) (h.next (by omega) h2 hi hk)
    .   exact P9 m (k+1) n ys (by omega) (by omega) (h.up (by omega))
  .exact h.up (by omega)
theorem U0{names:List (List Nat)}{bu:List Nat}:∀(m i n:Nat)(ys:List Ty),i+m=312->OZ names ys (i*312)->∃q,OZ names (MV names bu m i n ys) q
 |0,i,n,ys,_,h=>⟨_,h⟩
 |m+1,i,n,ys,h1,h=>by
  unfold MV;exact U0 m (i+1) _ _ (by omega) ((P9 m (i+1) n ys (by omega) (by omega) (h.up (by omega))).up (by omega))
def rkN(i j:Nat):Nat:=i*(23 - i) / 2+(j - i - 1)
theorem aiw:((List.range 12).all λi=>(List.range 12).all λj=>(List.range 12).all λa=>(List.range 12).all λb=> !(decide (i<j)&&decide (a<b)&&(decide (i<a)||(decide (i=a)&&decide (j<b))))||decide (rkN i j<rkN a b))=true:=by decide+kernel
theorem ajn(i:Nat)(hi:i<12)(j:Nat)(hj:j<12)(a:Nat)(ha:a<12)(b:Nat)(hb:b<12)(h1:i<j)(h2:a<b)(h3:i<a\/i=a/\j<b):rkN i j<rkN a b:=by
 have h:=Zd9.1 (Zd9.1 (Zd9.1 (Zd9.1 aiw i (Zj2.2 hi)) j (Zj2.2 hj)) a (Zj2.2 ha)) b (Zj2.2 hb);have d3:(decide (i<a)||(decide (i=a)&&decide (j<b)))=true:=by
  rcases h3 with h3|⟨h3,h4⟩
  .rw[H5 h3];rfl
  .rw[H5 h3,H5 h4];simp
 rw[H5 h1,H5 h2,d3]at h;simpa using h
theorem ajo:∀i<12,∀j<12,i<j->rkN i j<66:=by decide+kernel
theorem ad0{N:Nat}:∀{l:List Nat}{k:Nat},l.Pairwise (· < ·)->(∀x∈l,k<=x/\x<N)->l.length<=N - k
 |[],_,_,_=>by simp
 |x::l,k,h,hk=>by
  obtain⟨h1,h2⟩:=List.pairwise_cons.1 h;have hx:=hk x (by simp);have:=ad0 (k:=x+1) h2 λy hy=>⟨h1 y hy,(hk y (Za4 _ hy)).2⟩
  simp only[Zc5];omega
theorem U1(xs bu:List Nat):(zR xs bu).length<=66/\(fq (fN xs) (zR xs bu) 101 0).2=0:=by
 obtain⟨q,ps,e,h1,h2⟩:=U0 (names:=kq (fN xs)) (bu:=bu) 312 0 0 [] rfl ⟨[],rfl,λp hp=>by simp at hp,List.Pairwise.nil⟩;have e:zR xs bu=ps.map Ci:=e;have hlen:ps.length<=66:=by
   have:=ad0 (N:=66) (k:=0) (l:=ps.map λp=>rkN (p.1 / 25) (p.2.1 / 25)) (by
     rw[List.pairwise_map];refine List.Pairwise.imp_of_mem (λ{a b} ha hb R5=> ?_) h2;obtain⟨a1,a2,a3,a4,_⟩:=h1 a ha;obtain⟨b1,b2,b3,b4,_⟩:=h1 b hb;obtain⟨i,hi,e1,_⟩:=ye (by omega) a3;obtain⟨j,hj,e2,_⟩:=ye (by omega) a4;obtain⟨i',Og,e3,_⟩:=ye (by omega) b3;obtain⟨j',Bn,e4,_⟩:=ye (by omega) b4;unfold EH at R5;exact ajn _ (by omega) _ (by omega) _ (by omega) _ (by omega) (by omega) (by omega) (by omega)) (λx hx=>by
     obtain⟨p,hp,rfl⟩:=Ze3.1 hx;obtain⟨a1,a2,a3,a4,_⟩:=h1 p hp;obtain⟨i,hi,e1,_⟩:=ye (by omega) a3;obtain⟨j,hj,e2,_⟩:=ye (by omega) a4;exact⟨Zi5 _,ajo _ (by omega) _ (by omega) (by omega)⟩)
   simpa using this
 refine⟨by rw[e,Zb3];exact hlen,YX (λk t ht=> ?_) 101 0⟩;rw[e,Zb6]at ht;obtain⟨p,hp,rfl⟩:=Zd0.1 ht;have hk:k<ps.length:=(Za1.1 hp).1;obtain⟨a1,a2,a3,a4,a5,_⟩:=h1 p (Zb4 hp);have kn:CX (Ci p)=true:=by unfold CX Ci;rcases a5 with h|h<;>simp[h]
 have ls:aC (Ci p).a (Ci p).b=true:=(BP (by omega) (by omega)).trans (H5 a1);have prev:∀u,kf (zR xs bu) k=some u->eJ (Ci p) u=false/\eJ u (Ci p)=true:=λu hu=>by
   unfold kf at hu;by_cases h0:k=0
   .rw[Za9 h0]at hu;cases hu
   rw[Za3 h0,e,Zb6]at hu;obtain⟨r,hr,rfl⟩:=Zd0.1 hu;obtain⟨b1,b2,b3,b4,b5,_⟩:=h1 r (Zb4 hr);have lt:EH r<EH p:=by
     have hr1:=(Za1.1 hr)
     have fc:=(Za1.1 hp)
     obtain⟨w1,YP⟩:=hr1;obtain⟨w2,Af⟩:=fc;rw[<-YP, <-Af];exact List.pairwise_iff_getElem.1 h2 (k - 1) k w1 w2 (by omega)
   unfold EH at lt;unfold eJ Ci;simp only;rw[BP (by omega) (by omega),BP (by omega) (by omega),BP (by omega) (by omega),BP (by omega) (by omega)];by_cases hq:r.1=p.1
   .rw[hq,Za0 (show ¬p.1<p.1 by omega),Za0 (show ¬p.2.1<r.2.1 by omega),H5 (show r.2.1<p.2.1 by omega)];simp
   .rw[Za0 (show ¬p.1<r.1 by omega),H5 (show r.1<p.1 by omega),Za0 (show ¬bt p.1=bt r.1 from λh=>hq (JW (by omega) (by omega) h).symm)];simp
 have unk:jM (fN xs) (Ci p)=false:=by obtain⟨_,_,_,i,hi,g1⟩:=ye (by omega) a3;obtain⟨_,_,_,j,hj,g2⟩:=ye (by omega) a4;have s1:=BO (fN xs).length 0 i (by omega) (by omega) g1;have s2:=BO (fN xs).length 0 j (by omega) (by omega) g2;unfold jM;rw[Za0 (show ¬scan (fY (fN xs) (Ci p).a) (fN xs).length 0<0 from λh=>by have h:scan (fY (fN xs) (bt p.1)) (fN xs).length 0<0:=h;omega),Za0 (show ¬scan (fY (fN xs) (Ci p).b) (fN xs).length 0<0 from λh=>by have h:scan (fY (fN xs) (bt p.2.1)) (fN xs).length 0<0:=h;omega)];rfl
 refine⟨?_,unk,?_,by omega⟩
 . unfold NH;rw[kn,ls];cases hv:kf (zR xs bu) k with
   |none=>rfl
   |some u=>simp[(prev u hv).1]
 . unfold ov;cases hv:kf (zR xs bu) k with
   |none=>rfl
   |some u=>simp[(prev u hv).2]
theorem ad1(xs bu:List Nat):(bQ (fN xs) (zR xs bu)).2=0:=by unfold bQ;rw[Za3 (by rw[ahR];simp)];exact(U1 xs bu).2
theorem U2{xt:List Nat}(hx:∀x∈xt,x<256):∀k,k<=3->aY (o9 xt k)=((iX xt k:Nat):Int)
 |0,_=>rfl
 |k+1,h=>by
  have ih:=U2 hx k (by omega);have e:o9 xt (k+1)=o9 xt k++[iQ k (xt.getD k 0)]:=by unfold o9;rw[Zk1,Ze4];rfl
  have z:bH (iQ k (xt.getD k 0))=((tN (xt.getD k 0):Nat):Int):=YY _ (Ih hx (by omega) k);rw[e];unfold aY at ih ⊢;rw[Ze4,List.sum_append,ih];simp only[Zb8,Zf8,Zq4,List.sum_nil,z];have e2:iX xt (k+1)=iX xt k+tN (xt.getD k 0):=rfl;omega
theorem ab4{xt xg xy:List Nat}(hx:∀x∈xt,x<256)(z1 z2 z3 z4 z5:Bool)(rs:List Rl):(jG ⟨z1,gI xt,z2,l7 xt xg,z3,adU xt xg xy,z4,nF xt xg xy,z5,rs⟩).2=0:=by
 unfold jG;rw[Za3 (by show ¬(bI (gI xt)).2≠0;rw[UZ hx];simp),Za3 (by show ¬(bQ (fN (wK xt xg)) (zR (wK xt xg) xy)).2≠0;rw[ad1];simp)];rw[Za3 (by
  show ¬((nF xt xg xy).length≠0/\(nF xt xg xy).length≠(l7 xt xg).length);unfold nF;split
  .rw[JU];simp
  .simp),Za3 (by
  show ¬u0 (nF xt xg xy)=false;rw[   show u0 (nF xt xg xy)=true from by
    unfold u0 nF;rw[Zd9];intro y hy;split at hy
    .   unfold A5 at hy;obtain⟨i,_,rfl⟩:=Ze3.1 hy;rw[Zb0];exact⟨H5 (by omega),H5 (by omega)⟩
    .   simp at hy]
  simp),Za3]
 show ¬aY (gI xt)<((l7 xt xg).length:Int)
 unfold gI l7 fN;rw[JQ,U2 hx _ (by omega)];unfold wK;rw[Zj7];omega
theorem ad2{p:bX}{a:Nat}(ha:a<p.gs.length):¬gi p (l6 p.gs a)<0:=by have:=BO (P:=fY p.gs (l6 p.gs a)) p.gs.length 0 a (by omega) (by omega) (by unfold fY l6;rw[H4 ha];simp);unfold gi;omega
theorem aix{p:bX}(hd:∀(i j:Nat)(a b:aK),i<j->p.ts[i]? =some a->p.ts[j]? =some b->a.name≠b.name){t:Nat}(ht:t<p.ts.length):ti p (uE p.ts t)=(t:Int):=by
 have h0:=BO (P:=nN p.ts (uE p.ts t)) p.ts.length 0 t (by omega) (by omega) (by unfold nN uE;rw[H4 ht];simp);obtain⟨_,h1,h2⟩:=AU p.ts.length 0 h0;unfold ti;generalize scan (nN p.ts (uE p.ts t)) p.ts.length 0=k at*
 unfold nN uE at h2;rw[H4 ht]at h2;obtain⟨u,hu,e⟩:=Zd0.1 (Zh9 h2);rcases Zo2 k.toNat t with h|h|h
 .exact absurd e (hd _ _ _ _ h hu (H4 ht))
 .omega
 .exact absurd e.symm (hd _ _ _ _ h (H4 ht) hu)
theorem ad3{p:bX}(hg:∀g∈p.gs,g.mI=[]\/fI g.mI=true)(hgd:∀(i j:Nat)(a b:aL),i<j->p.gs[i]? =some a->p.gs[j]? =some b->a.name≠b.name)(htd:∀(i j:Nat)(a b:aK),i<j->p.ts[i]? =some a->p.ts[j]? =some b->a.name≠b.name)
   (dH:∀t∈p.ts,bH t=kN t.sh t.a t.b/\0<bH t) (x:Nat) (h:(fW p.ts p.gs x).2=true):u5 p (fW p.ts p.gs x).1=0:=by
 unfold fW at h ⊢;by_cases h0:p.gs.length=0\/p.ts.length=0
 .rw[Za9 h0]at h;cases h
 rw[Za3 h0]at h ⊢;have hw:(MR (x / 18))<=7:=by unfold MR;split<;>omega
 have ha:x / 18 / 5 % p.gs.length<p.gs.length:=Zi7 _ (by omega);have hb:x / 18 / 5 / p.gs.length % p.gs.length<p.gs.length:=Zi7 _ (by omega);have cV:x / 18 / 5 / 7 % p.ts.length<p.ts.length:=Zi7 _ (by omega);have hn:x / 18 / 5 / 11 % 4<4:=Zi7 _ (by omega);have k1:1<=1+x % 18:=by omega
 have k2:1+x % 18<=18:=by omega
 generalize 1+x % 18=k at*
 generalize MR (x / 18)=w at*
 generalize x / 18 / 5=z at*
 generalize z % p.gs.length=a at*
 generalize z / p.gs.length % p.gs.length=b at*
 generalize z / 7 % p.ts.length=t at*
 generalize z / 11 % 4=n at*
 have g1:=ad2 ha;have g2:=ad2 hb;have g3:BM p.gs a=[]\/fI (BM p.gs a)=true:=by unfold BM;rw[H4 ha];exact hg _ (Zc0 ha)
 have g4:=aix htd cV;have g5:yd p.ts t=vL p ((t:Nat):Int)/\0<yd p.ts t:=by have:=dH _ (Zc0 cV);unfold yd vL;rw[Zi0,H4 cV];simp only;omega
 have g6:0<=((z / 13:Nat):Int) % yd p.ts t/\((z / 13:Nat):Int) % yd p.ts t<=yd p.ts t - 1:=⟨Zr4 _ (by omega),by have:=Zq0 ((z / 13:Nat):Int) g5.2;omega⟩
 have g7:a≠b->l6 p.gs a≠l6 p.gs b:=λR5 e=>by
   unfold l6 at e;rw[H4 ha,H4 hb]at e;rcases Nat.lt_or_gt_of_ne R5 with h|h
   .exact hgd _ _ _ _ h (H4 ha) (H4 hb) e
   .exact hgd _ _ _ _ h (H4 hb) (H4 ha) e.symm
 clear hg ha hb cV h0 hgd htd dH;obtain⟨g5,_⟩:=g5;rw[g5]at g6;rcases aas k1 k2 with rfl|rfl|rfl|rfl|rfl|rfl|rfl|rfl|rfl|rfl|rfl|rfl|rfl|rfl|rfl|rfl|rfl|rfl
 all_goals
   unfold JP at h ⊢;unfold u5 P0 HX Yz RX zq;simp[kd]at h ⊢
   first
   |done
   |omega
   |(simp[*];done)
   |(simp[*];omega)
   |grind
theorem Qa{ts:List aK}{gs:List aL}{xr:List Nat}:∀{k:Nat}{r:Rl},r∈xw ts gs xr k->∃x,(fW ts gs x).2=true/\r=(fW ts gs x).1
 |0,_,h=>by cases h
 |k +   1,r,h=>by
  unfold xw at h;rcases Zd5.1 h with h|h
  .exact Qa h
  . split at h
    .   rename_i e;simp only[Zb2,Ze9,Zj8]at h;exact⟨_,e,h⟩
    .   cases h
theorem U3{p:bX}(h:∀r∈p.rs,u5 p r=0)(hl:p.rs.length<=64):∀m i,(kY p m i).2=0
 |0,_=>rfl
 |m+1,i=>by
  unfold kY;cases e:p.rs[i]? with
  |none=>rfl
  |some r=>
   have:=(Za1.1 e).1;simp only;rw[Za3 (by rw[h r (Zb4 e)];simp),Za3 (by omega)];exact U3 h hl m (i+1)
theorem oG{xt:List Nat}{i:Nat}{t:aK}(h:(gI xt)[i]? =some t):i<3/\t=iQ i (xt.getD i 0):=by
 obtain⟨h1,h2⟩:=oF h;exact⟨by omega,h2⟩
theorem yf{xs:List Nat}{i:Nat}{g:aL}(h:(fN xs)[i]? =some g):i<12/\g=vP i (xs.getD i 0):=by
 obtain⟨h1,h2⟩:=oF h;exact⟨by omega,h2⟩
theorem zS{xt:List Nat}:∀(i j:Nat)(a b:aK),i<j->(gI xt)[i]? =some a->(gI xt)[j]? =some b->a.name≠b.name:=λi j a b XB ha hb e=>by obtain⟨h1,rfl⟩:=oG ha;obtain⟨h2,rfl⟩:=oG hb;have e:dx i=dx j:=e;unfold dx at e;simp only[Zh2,Zm5,true_and]at e;omega
theorem zT{xs:List Nat}:∀(i j:Nat)(a b:aL),i<j->(fN xs)[i]? =some a->(fN xs)[j]? =some b->a.name≠b.name:=λi j a b XB ha hb e=>by obtain⟨h1,rfl⟩:=yf ha;obtain⟨h2,rfl⟩:=yf hb;have e:bt (uF i)=bt (uF j):=e;rw[Ii (by omega),Ii (by omega)]at e;have:=JW (by omega) (by omega) e;omega
theorem U4{xs:List Nat}:∀g∈fN xs,g.mI=[]\/fI g.mI=true:=λg hg=>by
 obtain⟨i,hi⟩:=Zc7.1 hg;obtain⟨_,rfl⟩:=yf hi;show(if(xs.getD i 0) % 3=2 then bt ((xs.getD i 0) % 5)else [])=[]\/fI (if(xs.getD i 0) % 3=2 then bt ((xs.getD i 0) % 5)else [])=true;split
 .exact .inr (Tz _)
 .exact .inl rfl
theorem GY{xt:List Nat}(hx:∀x∈xt,x<256):∀t∈gI xt,bH t=kN t.sh t.a t.b/\0<bH t:=λt ht=>by
 obtain⟨i,hi⟩:=Zc7.1 ht;obtain⟨h1,rfl⟩:=oG hi;have aO:=Ih hx (by omega) i;have z:bH (iQ i (xt.getD i 0))=((tN (xt.getD i 0):Nat):Int):=YY _ aO;have e:kN (iQ i (xt.getD i 0)).sh (iQ i (xt.getD i 0)).a (iQ i (xt.getD i 0)).b=((tN (xt.getD i 0):Nat):Int):=NJ _;have h1:=adV (xt.getD i 0);exact⟨by rw[z,e],by rw[z];omega⟩
theorem ab5{xt xg xy xr:List Nat}(hx:∀x∈xt,x<256):(fK (cK xt xg xy xr)).2=0:=by
 unfold fK;have hb:(jG (cK xt xg xy xr)).2=0:=ab4 hx _ _ _ _ _ _;rw[Za3 (by rw[hb];simp)];refine U3 (λr hr=> ?_) ?_ _ _
 .obtain⟨x,h1,rfl⟩:=Qa hr;exact ad3 (p:=cK xt xg xy xr) U4 zT zS (GY hx) x h1
 .have:=JV (gI xt) (l7 xt xg) xr (min xr.length 12);show(xw _ _ _ _).length<=64;omega
end
section
set_option linter.unusedSimpArgs false
open Go Go.Ai Go.Proofs
variable{c:ai}
theorem ad4(t:aK):0<=bH t/\bH t<=24:=by
 unfold bH;repeat' split
 all_goals omega
theorem YZ(a b:List aK):aY (a++b)=aY a+aY b:=by simp[aY]
theorem ab6{ts:List aK}{k:Nat}(hk:k<ts.length):aY (ts.take (k+1))=aY (ts.take k)+bH ts[k]/\aY (ts.take (k+1))<=aY ts:=by refine⟨by rw[Ze0 hk,YZ];simp[aY],?_⟩;have h:=YZ (ts.take (k+1)) (ts.drop (k+1));rw[Zj6]at h;have:=(oR (ts.drop (k+1))).1;omega
theorem TS.aF{s0 s s':St}{V:AV}{ts:List aK}{rows:List (List AV)}(h:TS s0 s V ts rows)(g:Grew s s'):TS s0 s' V ts rows:=
 ⟨h.out.grow g,h.len,λi t r a b=>by obtain⟨v,e1,e2,e3⟩:=h.tK i t r a b;exact⟨v,e1,e2.grow g,e3⟩⟩
theorem GS.aF{s0 s s':St}{V:AV}{ts:List aL}{rows:List (List AV)}(h:GS s0 s V ts rows)(g:Grew s s'):GS s0 s' V ts rows:=
 ⟨h.out.grow g,h.len,λi t r a b=>by obtain⟨v,e1,e2,e3⟩:=h.tK i t r a b;exact⟨v,e1,e2.grow g,e3⟩⟩
theorem PS.rI{s0 s s':St}{Vs:List AV}{p:bX}(h:PS s0 s Vs p)(g:Grew s s'):PS s0 s' Vs p:=by
 obtain⟨V1,V2,V3,V4,V5,r1,r2,rfl,h1,h2,h3,h4,h5⟩:=h.all;exact⟨h.aF.trans g,V1,V2,V3,V4,V5,r1,r2,rfl,h1.aF g,h2.aF g,h3.grow g,h4.grow g,h5.grow g⟩
def wS(x:Int)(n:Nat):Nat:=(x % (n:Int)).toNat
theorem af7(x:Int){n:Nat}(h:0<n):wS x n<n:=by have h1:=Zr4 x (show(n:Int)≠0 by omega);have h2:=Zq0 x (show(0:Int)<(n:Int)by omega);unfold wS;omega
theorem ahS(hc:bE c)(x:Int){n:Nat}(h:0<n)(hn:n<=1000000)(s:St):c 43 [.int .i64 x,.int .i64 (n:Int)] s=some (.int .i64 ((wS x n:Nat):Int),s):=by
 have h1:=Zr4 x (show(n:Int)≠0 by omega);have h2:=Zq0 x (show(0:Int)<(n:Int)by omega);have e:((wS x n:Nat):Int)=x % (n:Int):=by unfold wS;omega
 have rm:=λ(K:AV->St->Option (AV×St))(s:St)=>aan c K s .num .i64 x (n:Int) (by omega)
 have t:=Int.tmod_eq_emod (a:=x) (b:=(n:Int));rw[KV hc 1 (r:=(.int .i64 ((wS x n:Nat):Int),s)),aD (Plain.int _ _) (aT.refl s)];rw[NX,e];by_cases hd:0<=x\/(n:Int) ∣ x
 .rw[Za9 hd]at t;have t:x.tmod (n:Int)=x % (n:Int):=(by rw[t];exact Int.sub_zero _);have d:decide (x % (n:Int)<0)=false:=Za0 (by omega);simp[-fS,rm,t,gX,d]
 .rw[Za3 hd]at t;have t:x.tmod (n:Int)=x % (n:Int) - (n:Int):=(by rw[t,Int.natAbs_natCast]);have d:decide (x % (n:Int) - (n:Int)<0)=true:=H5 (by omega);have w:au .i64 (x % (n:Int))=x % (n:Int):=wrap64 (by omega) (by omega);simp[-fS,rm,t,gX,d,w]
abbrev kO(tk:List Bool):List AV:=tk.map AV.bool
theorem af8{tb:Pos}{tk:List Bool}(hl:tk.length<=1000000){fr:Nat}(hf:fr<=1000000){s:St}(ht:s.heap.get tb=some (.cells (kO tk) 0))(F:Nat):∀(m k f:Nat),k+m=tk.length->m<f->∀k1 k2:Q2,
  jJ c F k1 k2 f [.slice tb 0 tk.length (some tk.length) 1,.int .i64 (fr:Int),.int .i64 (k:Int)] s=
    match nu tk fr m k with
    |some i=>k1 [.int .i64 (i:Int)] (cj s tb (.cells (kO (tk.set i true)) 0))
    |none=>k2 [] s:=by
 intro m;induction m with
 |zero=>
  intro k f hk hf k1 k2;obtain⟨f,rfl⟩:∃g,f=g+1:=⟨f - 1,by omega⟩
  obtain rfl:k=tk.length:=by omega
  rw[nS];simp[lJ,nu]
 |succ m ih=>
  intro k f hk hf k1 k2;obtain⟨f,rfl⟩:∃g,f=g+1:=⟨f - 1,by omega⟩
  have gQ:k<tk.length:=by omega
  have aO:decide ((k:Int)<(tk.length:Int))=true:=H5 (by omega);have w1:au .i64 ((fr:Int)+(k:Int))=((fr+k:Nat):Int):=by rw[wrap64 (by omega) (by omega)];omega
  have wr:au .i64 ((k:Int)+1)=((k+1:Nat):Int):=by rw[wrap64 (by omega) (by omega)];omega
  have hi:(fr+k) % tk.length<tk.length:=Zi7 _ (by omega);have rm:∀(K:AV->St->Option (AV×St))(s:St),aj c (.bin .rem .num) [.int .i64 ((fr+k:Nat):Int),.int .i64 (tk.length:Int)] s K=K (.int .i64 (((fr+k) % tk.length:Nat):Int)) s:=λK s=>by
    rw[cg (by omega) (by omega),Zo8]
  generalize hm:(fr+k) % tk.length=i at*
  have ix:=λ(K:AV->St->Option (AV×St))(s1:St)=>qQ c K s1 (b:=tb) (off:=0) (len:=tk.length) (es:=1) (es':=1) (cap:=some tk.length) (k:= .i64) (i:=i) hi
  simp only[Zd1,Zk4]at ix;have ec:(kO tk)[i]? =some (.bool tk[i]):=by rw[Zb6,H4 hi];rfl
  have eg:tk.getD i true=tk[i]:=by rw[Za7,H4 hi];rfl
  unfold nu;rw[hm,eg];cases hb:tk[i]
  . (rw[hb]at ec;have pt:=λ(K:AV->St->Option (AV×St))=>Nx (c:=c) K ht (o:=i) (by rw[Zb3];exact hi) (v:= .bool true) rfl rfl);rw[show(kO tk).set i (.bool true)=kO (tk.set i true)from(List.map_set).symm]at pt;rw[Za9 rfl,nS];simp only[aA,bf,ak,lJ,b9,aO,bR,fG,w1,rm,ix,dG,ht,bF,Ze6,ec,ew,mV,Zh6,pt]
  .rw[hb]at ec;rw[Za3 (by simp), <-ih (k+1) f (by omega) (by omega) k1 k2,nS];simp only[aA,bf,ak,lJ,b9,aO,bR,cG,fG,w1,rm,ix,dG,ht,bF,Ze6,ec,ew,mV,Ze1,wr]
theorem ad5{a b:List Bool}(h:kO a=kO b):a=b:=by
 induction a generalizing b with
 |nil=>cases b with|nil=>rfl|cons y b=>simp at h
 |cons x a ih=>
  cases b with
  |nil=>simp at h
  |cons y b=>
   simp only[Zb8,Zh2,AV.bool.injEq]at h;rw[h.1,ih h.2]
theorem ad6(hc:bE c){tb:Pos}{tk:List Bool}(hl:tk.length<=1000000){fr:Nat}(hf:fr<=1000000){s:St}(ht:s.heap.get tb=some (.cells (kO tk) 0)):
  c 44 [.slice tb 0 tk.length (some tk.length) 1,.int .i64 (fr:Int)] s=some (.int .i64 (nv tk fr).2,cj s tb (.cells (kO (nv tk fr).1) 0)):=by
 have lp:=λ(k1 k2:Q2)=>af8 (c:=c) hl hf ht (tk.length+1) tk.length 0 (tk.length+1) (by omega) (by omega) k1 k2
 simp only[show((0:Nat):Int)=0 from rfl]at lp;unfold nv;cases Ob:nu tk fr tk.length 0 with
 |none=>
  simp only[Ob]at lp ⊢;rw[XI ht];rw[wJ hc (tk.length+1) (r:=(.int .i64 (-1),s)),aD (Plain.int _ _) (aT.refl s)];rw[zM];simp[lp]
 |some i=>
  simp only[Ob]at lp ⊢;have hb:=B7 Ob;have ne:tk.set i true≠tk:=λe=>by have h2:(tk.set i true)[i]? =some true:=(by rw[Zn8 (Za1.1 hb).1]);rw[e,hb]at h2;cases h2
  rw[wJ hc (tk.length+1) (r:=(.int .i64 (i:Int),cj s tb (.cells (kO (tk.set i true)) 0))),SH ht (by rw[dB];intro e;simp only[H0,AB.cells.injEq,Zm5]at e;exact ne (ad5 e))];rw[zM];simp[lp]
def ab7(p:bX):Prop:=∀t∈p.ts,kN t.sh t.a t.b=bH t/\(0<=t.a/\t.a<=1000000)/\0<=t.b/\t.b<=1000000
section
variable{st sB s:St}{Vs:List AV}{p:bX}
theorem PS.rT(h:PS st s Vs p):∃V1 V2 r1 r2,Vs[0]? =some V1/\Vs[1]? =some V2/\TS st s V1 p.ts r1/\GS st s V2 p.gs r2/\Vs.length=5:=by
 obtain⟨V1,V2,V3,V4,V5,r1,r2,rfl,h1,h2,_⟩:=h.all;exact⟨V1,V2,r1,r2,rfl,rfl,h1,h2,rfl⟩
theorem TS.Ki{V:AV}{ts:List aK}{rows:List (List AV)}(h:TS st s V ts rows){t:Nat}{T:aK}(ht:ts[t]? =some T):∃v b o,Rd s 7 V t b o (T.ax v):=by
 have hl:t<rows.length:=by rw[h.len];exact(Za1.1 ht).1
 obtain⟨v,e,_⟩:=h.tK t T rows[t] ht (H4 hl);obtain⟨b,o,h4⟩:=h.out.own.rd h.out.row (H4 hl);exact⟨v,b,o,by rw[<-e];exact h4⟩
theorem ab8(hc:bE c)(hz:ab7 p)(dH:p.ts.length<=100){pb:Pos}{V1:AV}{cs:List AV}{r1:List (List AV)}(hw:Wf s)(hp:s.heap.get pb=some (.cells cs 0))(h0:cs[0]? =some V1)(T:TS st s V1 p.ts r1)(F:Nat):∀(m k f:Nat),k+m=p.ts.length->m<f->∀k2:Q2,
  iV c F k2 f [.ptr pb 0,.int .i64 (aY (p.ts.take k)),.int .i64 (k:Int)] s=k2 [.int .i64 (aY p.ts)] s:=by
 have ln:=λ(K:AV->St->Option (AV×St))=>T.out.own.lenB (c:=c) K s
 rw[T.len]at ln;intro m;induction m with
 |zero=>
  intro k f hk hf k2;obtain⟨f,rfl⟩:∃g,f=g+1:=⟨f - 1,by omega⟩
  obtain rfl:k=p.ts.length:=by omega
  rw[tL,Zi9];simp[hp,h0,ln]
 |succ m ih=>
  intro k f hk hf k2;obtain⟨f,rfl⟩:∃g,f=g+1:=⟨f - 1,by omega⟩
  have gQ:k<p.ts.length:=by omega
  have hi:=H4 gQ;obtain⟨v,b,o,h1⟩:=T.Ki hi;have z:=hz _ (Zc0 gQ);have sz:=ad4 p.ts[k];have sn:=(ad4 p.ts[k]).1;have et:aY (p.ts.take (k+1))=aY (p.ts.take k)+bH p.ts[k]:=(ab6 gQ).1;generalize p.ts[k]=t at*
  have r1:=λ{R}=>@h1.st R
  have r2:=h1.all;have sl:=ED hc (l:=t.ax v) (sh:=t.sh) (a:=t.a) (b:=t.b) rfl rfl rfl z.2.1 z.2.2 s hw;rw[z.1]at sl;have n1:=oR (p.ts.take k);rw[Zj7]at n1;have aO:decide ((k:Int)<(p.ts.length:Int))=true:=H5 (by omega);have w1:au .i64 (aY (p.ts.take k)+bH t)=aY (p.ts.take k)+bH t:=wrap64 (by omega) (by omega);have wr:au .i64 ((k:Int)+1)=((k+1:Nat):Int):=by rw[wrap64 (by omega) (by omega)];omega
  rw[<-ih (k+1) f (by omega) (by omega) k2,tL,et];simp only[aA,bf,ak,bN,Zd1,dG,hp,bF,Ze6,h0,ew,ln,b9,aO,bR,r1,vZ,r2,ue,bg,sl,aW,fG,w1,wr]
theorem ab9(hc:bE c)(h:PS st s Vs p)(hz:ab7 p)(dH:p.ts.length<=100):c 42 [.agg Vs] s=some (.int .i64 (aY p.ts),s):=by
 have hw:=h.aF.wf;have gN:=Grew.af hw (.cells Vs 0);obtain⟨V1,V2,r1,r2,e1,_,T,_,_⟩:=(h.rI gN).rT;have lp:=λ(k2:Q2)=>ab8 (c:=c) hc hz dH gN.wf (aE s (.cells Vs 0)) e1 T (p.ts.length+1) p.ts.length 0 (p.ts.length+1) (by omega) (by omega) k2
 simp only[List.take_zero,show aY ([]:List aK)=0 from rfl,show((0:Nat):Int)=0 from rfl]at lp;rw[EB hc (p.ts.length+1) (r:=(.int .i64 (aY p.ts),af s (.cells Vs 0))),aD (Plain.int _ _) gN.keeps];rw[GO];simp only[ff,show ∀l,AV.cells (.agg l)=l from λl=>rfl,ak,lp,aA,bf]
def BQ(ch:Nat->Ch):Nat->Nat->List Ch
 |0,_=>[]
 |m+1,k=>ch k::BQ ch m (k+1)
structure O0(sB s:St)(tb:Pos)(tk:List Bool)(v:AV)(R:List Int):Prop where
 MW:Mk 1 sB s v (R.map dO)
 tkn:s.heap.get tb=some (.cells (kO tk) 0)
 ge:sB.next.toNat<=tb.toNat
 ap:∀b,br v=some b->tb.toNat+1<=b.toNat
theorem O0.set{tb:Pos}{tk qc:List Bool}{v:AV}{R:List Int}(h:O0 sB s tb tk v R):O0 sB (cj s tb (.cells (kO qc) 0)) tb qc v R:=by
 have aO:=h.MW.aF.wf _ _ h.tkn;have g:=A4 h.MW.rS h.MW.aF h.ge aO (.cells (kO qc) 0);exact⟨h.MW.wQ g λb x hb hx=>by rw[bC (λe=>by have:=h.ap b hb;rw[<-e]at this;omega)];exact hx,dB _ _ _,h.ge,h.ap⟩
theorem O0.push{tb:Pos}{tk:List Bool}{v:AV}{R:List Int}(h:O0 sB s tb tk v R)(hR:R.length<=1000)(x:Int):∃s5 v',(∀(K:AV->St->Option (AV×St)),aj c (.buildSlice 1 1 [.int .i64 0] [0]) [.int .i64 x] s (λy t=>aj c (.append 1 8) [v,y] t K)=K v' s5)/\O0 sB s5 tb tk v' (R++[x]):=by have aO:=h.MW.aF.wf _ _ h.tkn;obtain⟨s5,v5,a1,a2,a3,a4⟩:=h.MW.push (R:=AV×St) (c:=c) (bytes:=8) (z:=[.int .i64 0]) (x:= .int .i64 x) rfl rfl rfl (by omega) (by rw[Zb3];omega) (by rw[Zb3];omega);refine⟨s5,v5,a1,⟨by rw[Ze4];exact a2,a3 tb _ (λe=>by have:=h.ap tb e;omega) h.tkn,h.ge,λb hb=> ?_⟩⟩;have:=a4 b hb;omega
def Ky(N:Nat)(xs:List Int)(g:Nat):Ch:=match xs[g]? with
 |some x=>if wS x (N+1)=N then .no else .fr (wS x (N+1))
 |none=>.no
theorem ad7(hc:bE c){pb tb:Pos}{cs:List AV}{V2:AV}{r2:List (List AV)}(hp:sB.heap.get pb=some (.cells cs 0))(h1:cs[1]? =some V2)(T:GS st sB V2 p.gs r2){N:Nat}(hN:N<=100000)(EI:p.gs.length<=100)(z:Bool)(xs:List Int)(hx:xs.length<=9223372036854775807)(F:Nat):
  ∀ (m k f:Nat)(s:St)(tk:List Bool)(v:AV)(R:List Int),k+m=p.gs.length->m<f->O0 sB s tb tk v R->tk.length=N->R.length=k->∃s' v' qc,O0 sB s' tb qc v' (R++gu tk (BQ (Ky N xs) m k))/\
    ∀k2:Q2,eD c F k2 f [ints z xs,.ptr pb 0,.int .i64 (N:Int),.slice tb 0 N (some N) 1,v,.int .i64 (k:Int)] s=k2 [v'] s':=by
 intro m;induction m with
 |zero=>
  intro k f s tk v R hk hf hS hl hR;obtain⟨f,rfl⟩:∃g,f=g+1:=⟨f - 1,by omega⟩
  obtain rfl:k=p.gs.length:=by omega
  have fc:=hS.MW.aF.get hp;have T1:=T.aF hS.MW.aF;have ln:=λ(K:AV->St->Option (AV×St))=>T1.out.own.lenB (c:=c) K s
  rw[T1.len]at ln;refine⟨s,v,tk,by simpa [BQ,gu]using hS,λk2=> ?_⟩;rw[ki];simp[fc,h1,ln]
 |succ m ih=>
  intro k f s tk v R hk hf hS hl hR;obtain⟨f,rfl⟩:∃g,f=g+1:=⟨f - 1,by omega⟩
  have gQ:k<p.gs.length:=by omega
  have fc:=hS.MW.aF.get hp;have T1:=T.aF hS.MW.aF;have ln:=λ(K:AV->St->Option (AV×St))=>T1.out.own.lenB (c:=c) K s
  rw[T1.len]at ln;have aO:decide ((k:Int)<(p.gs.length:Int))=true:=H5 (by omega);have wr:au .i64 ((k:Int)+1)=((k+1:Nat):Int):=by rw[wrap64 (by omega) (by omega)];omega
  have wN:au .i64 ((N:Int)+1)=((N+1:Nat):Int):=by rw[wrap64 (by omega) (by omega)];omega
  obtain⟨s5,v5,a1,a2⟩:=hS.push (c:=c) (by omega) (-1)
  have no:Ky N xs k= .no->(∀k2:Q2,eD c F k2 (f+1) [ints z xs,.ptr pb 0,.int .i64 (N:Int),.slice tb 0 N (some N) 1,v,.int .i64 (k:Int)] s=eD c F k2 f [ints z xs,.ptr pb 0,.int .i64 (N:Int),.slice tb 0 N (some N) 1,v5,.int .i64 ((k+1:Nat):Int)] s5)->
        ∃s' v' qc,O0 sB s' tb qc v' (R++gu tk (BQ (Ky N xs) (m+1) k))/\∀k2:Q2,eD c F k2 (f+1) [ints z xs,.ptr pb 0,.int .i64 (N:Int),.slice tb 0 N (some N) 1,v,.int .i64 (k:Int)] s=k2 [v'] s':=λhch jP=>by
    obtain⟨s',v',qc,z1,z2⟩:=ih (k+1) f s5 tk v5 (R++[-1]) (by omega) (by omega) a2 hl (by simp[hR]);refine⟨s',v',qc,?_,λk2=>by rw[jP,z2]⟩;rw[BQ,hch,gu];simpa using z1
  by_cases EG:k<xs.length
  . have hlx:decide ((k:Int)<(xs.length:Int))=true:=H5 (by omega);have pk:=ahS hc xs[k] (n:=N+1) (by omega) (by omega) s;have plt:=af7 xs[k] (n:=N+1) (by omega);simp only[show((N+1:Nat):Int)=(N:Int)+1 by omega]at pk wN;have ech:Ky N xs k=if wS xs[k] (N+1)=N then .no else .fr (wS xs[k] (N+1)):=by unfold Ky;rw[H4 EG]
    have at':=Yf xs k EG;by_cases hpn:wS xs[k] (N+1)=N
    .   rw[Za9 hpn]at ech;(refine no ech λk2=> ?_);rw[hpn]at pk;rw[ki];unfold ints at*
        simp[-aX,gX,fc,h1,ln,aO,gQ,EG,at',wN,pk,a1,wr]
    .   rw[Za3 hpn]at ech;generalize wS xs[k] (N+1)=fr at*
        have dn:decide ((fr:Int)=(N:Int))=false:=Za0 (by omega);have pl:=ad6 hc (tk:=tk) (tb:=tb) (by omega) (fr:=fr) (by omega) hS.tkn;rw[hl]at pl;obtain⟨s6,v6,b1,b2⟩:=(hS.set (qc:=(nv tk fr).1)).push (c:=c) (by omega) (nv tk fr).2;obtain⟨s',v',qc,z1,z2⟩:=ih (k+1) f s6 _ v6 _ (by omega) (by omega) b2 (by rw[adn];exact hl) (by simp[hR]);refine⟨s',v',qc,?_,λk2=> ?_⟩
        .rw[BQ,ech,gu];simpa using z1
        . rw[<-z2 k2,ki];unfold ints at*
          simp[-aX,gX,fc,h1,ln,aO,gQ,EG,at',wN,pk,dn,pl,b1,wr]
  . have hlx:decide ((k:Int)<(xs.length:Int))=false:=Za0 (by omega);(refine no (by unfold Ky;rw[Zb5 (by omega)]) λk2=> ?_);rw[ki];unfold ints at*
    simp[-aX,gX,fc,h1,ln,aO,gQ,EG,a1,wr]
theorem U5(N:Nat):List.replicate N (AV.bool false)=kO (List.replicate N false):=List.map_replicate.symm
theorem ad8(hc:bE c)(h:PS st s Vs p)(hz:ab7 p)(dH:p.ts.length<=100)(EI:p.gs.length<=100){N:Nat}(hN:(N:Int)=aY p.ts)(z:Bool)(xs:List Int)(hx:xs.length<=9223372036854775807):
  ∃s' v,c 8 [.agg Vs,ints z xs] s=some (v,s')/\Mk 1 s s' v ((gu (List.replicate N false) (BQ (Ky N xs) p.gs.length 0)).map dO):=by
 have hw:=h.aF.wf;have gN:=Grew.af hw (.cells Vs 0);have h1:=h.rI gN;obtain⟨V1,V2,r1,r2,e1,e2,T,T2,e5⟩:=h1.rT;have so:=ab9 hc h1 hz dH;rw[<-hN]at so;have hN1:N<=100000:=by have:=(oR p.ts).2;omega
 have hcut:cut Vs 0 5=some Vs:=bY e5;have mk:=λ(K:AV->St->Option (AV×St))=>Nw c K (af s (.cells Vs 0)) (es:=1) (bytes:=1) (z:=[.bool false]) (k:= .i64) (k':= .i64) (n:=N) (by omega) (by omega)
 rw[yN,U5]at mk;have gT:=Grew.af gN.wf (.cells (kO (List.replicate N false)) 0);have S0:O0 (af s (.cells Vs 0)) (af (af s (.cells Vs 0)) (.cells (kO (List.replicate N false)) 0)) (af s (.cells Vs 0)).next (List.replicate N false) .ah []:=
  ⟨Mk.start gN.wf gT,aE _ _,Za5 _,λb e=>(nomatch e)⟩
 obtain⟨s',v',qc,z1,z2⟩:=ad7 (c:=c) hc (aE s (.cells Vs 0)) e2 T2 hN1 EI z xs hx (p.gs.length+1) p.gs.length 0 (p.gs.length+1) _ _ _ [] (by omega) (by omega) S0 (by simp) rfl;have M:=z1.MW.back hw gN;rw[Zf0]at M;obtain⟨s3,t1,t2⟩:=M.tidy;refine⟨s3,v',?_,t2⟩;simp only[show((0:Nat):Int)=0 from rfl]at z2;rw[EY hc (p.gs.length+1) (r:=(v',s')),t1];rw[HZ];simp only[ff,show ∀l,AV.cells (.agg l)=l from λl=>rfl,ak,vZ,aE,bF,Ze6,hcut,ue,bg,so,aW,mk,z2,aA,bf]
end
set_option linter.unusedSimpArgs false
theorem af9(q:List Int):q.map dO=(q.map (AV.int .i64)).map afi:=by rw[Zh1];rfl
theorem Y0{s:St}{v:AV}{q:List Int}(h:QS 1 s v (q.map dO)){i:Nat}{x:Int}(hx:q[i]? =some x):∃b o,Rd s 1 v i b o [.int .i64 x]:=by
 rw[af9]at h;exact h.Ki (by rw[Zb6,hx];rfl)
def acd(q:List Int)(x:Int):Int:=if q.contains x then((q.idxOf x:Nat):Int)else -1
section
variable{s:St}{P:AV}{q:List Int}
theorem aga(pq:QS 1 s P (q.map dO))(hl:q.length<=1000000)(x:Int)(F:Nat)(k1 k2:Q2):∀(m k f:Nat),k+m=q.length->m<f->
  iW c F k1 k2 f [P,.int .i64 x,.int .i64 (q.length:Int),.int .i64 (k:Int)] s=if(q.drop k).contains x then k1 [.int .i64 ((k+(q.drop k).idxOf x:Nat):Int)] s else k2 [] s:=by
 intro m;induction m with
 |zero=>
  intro k f hk hf;obtain⟨f,rfl⟩:∃g,f=g+1:=⟨f - 1,by omega⟩
  obtain rfl:k=q.length:=by omega
  rw[mK];simp
 |succ m ih=>
  intro k f hk hf;obtain⟨f,rfl⟩:∃g,f=g+1:=⟨f - 1,by omega⟩
  have gQ:k<q.length:=by omega
  obtain⟨pb,po,p⟩:=Y0 pq (H4 gQ);have p1:=λ{R}=>@p.st R
  have p3:=p.one;have wr:au .i64 ((k:Int)+1)=((k+1:Nat):Int):=wrap64 (by omega) (by omega);rw[Zc3 gQ,List.contains_cons,List.idxOf_cons];by_cases he:x=q[k]
  .rw[mK];have e2:(x==q[k])=true:=(by simpa using he);have e3:(q[k]==x)=true:=(by simpa using he.symm);have d2:decide (x=q[k])=true:=H5 he;rw[e2,e3,Bool.true_or];simp[gQ,p1,p3,d2]
  .have T4:(x==q[k])=false:=(by simpa using he);have he3:(q[k]==x)=false:=(by simpa using λe=>he e.symm);have d2:decide (x=q[k])=false:=Za0 he;rw[T4,he3,Bool.false_or,cond_false,show k+((q.drop (k+1)).idxOf x+1)=(k+1)+(q.drop (k+1)).idxOf x by omega, <-ih (k+1) f (by omega) (by omega),mK];simp[gQ,p1,p3,d2,wr]
theorem ace(hc:bE c)(pq:QS 1 s P (q.map dO))(hl:q.length<=1000000)(x:Int):c 62 [P,.int .i64 x] s=some (.int .i64 (acd q x),s):=by
 have ln:=λ(K:AV->St->Option (AV×St))=>pq.lenB (c:=c) K s
 rw[Zb3]at ln;have hi:=λk1 k2=>aga (c:=c) pq hl x (q.length+1) k1 k2 q.length 0 (q.length+1) (by omega) (by omega)
 simp only[Zc9,show((0:Nat):Int)=0 from rfl,Zd1]at hi;rw[EC hc (q.length+1) (r:=(.int .i64 (acd q x),s)),aD (Plain.int _ _) (aT.refl s)];rw[GP];simp only[ak,ln,hi];unfold acd;split<;>simp
theorem VE(hc:bE c)(pq:QS 1 s P (q.map dO))(hl:q.length<=1000000)(x:Int):c 60 [P,.int .i64 x] s=some (.bool (q.contains x),s):=by
 rw[BL hc 1 (r:=(.bool (q.contains x),s)),aD (Plain.bool _) (aT.refl s)];rw[Dj];simp only[ak,bg,ace hc pq hl,aW];unfold acd;cases h:q.contains x
 .simp
 .simp
theorem agb{Q:AV}{r:List Int}(pq:QS 1 s P (q.map dO))(pr:QS 1 s Q (r.map dO))(hl:q.length<=1000000)(he:q.length=r.length)(F:Nat)(k1 k2:Q2):∀(m k f:Nat),k+m=q.length->m<f->
  iU c F k1 k2 f [P,Q,.int .i64 (q.length:Int),.int .i64 (k:Int)] s=if q.drop k=r.drop k then k2 [] s else k1 [.bool false] s:=by
 intro m;induction m with
 |zero=>
  intro k f hk hf;obtain⟨f,rfl⟩:∃g,f=g+1:=⟨f - 1,by omega⟩
  obtain rfl:k=q.length:=by omega
  rw[mJ,Zl4,he,Zl4];simp
 |succ m ih=>
  intro k f hk hf;obtain⟨f,rfl⟩:∃g,f=g+1:=⟨f - 1,by omega⟩
  have gQ:k<q.length:=by omega
  have hkr:k<r.length:=by omega
  obtain⟨pb,po,p⟩:=Y0 pq (H4 gQ);obtain⟨rb,ro,p'⟩:=Y0 pr (H4 hkr);have p1:=λ{R}=>@p.pr R
  have p3:=p.one;have r1:=λ{R}=>@p'.pr R
  have r3:=p'.one;have wr:au .i64 ((k:Int)+1)=((k+1:Nat):Int):=wrap64 (by omega) (by omega);have key:(q.drop k=r.drop k)↔(q[k]=r[k]/\q.drop (k+1)=r.drop (k+1)):=by rw[Zc3 gQ,Zc3 hkr,Zh2]
  by_cases e:q[k]=r[k]
  .have key2:(q.drop k=r.drop k)↔(q.drop (k+1)=r.drop (k+1)):=key.trans ⟨λh=>h.2,λh=>⟨e,h⟩⟩;rw[show(if q.drop k=r.drop k then k2 [] s else k1 [.bool false] s)=(if q.drop (k+1)=r.drop (k+1)then k2 [] s else k1 [.bool false] s)from by simp only[key2], <-ih (k+1) f (by omega) (by omega),mJ];have d2:decide (q[k]=r[k])=true:=H5 e;simp[gQ,p1,p3,r1,r3,d2,wr]
  .rw[Za3 (λh=>e (key.1 h).1),mJ];have d2:decide (q[k]=r[k])=false:=Za0 e;simp[gQ,p1,p3,r1,r3,d2]
theorem R6(hc:bE c){Q:AV}{r:List Int}(pq:QS 1 s P (q.map dO))(pr:QS 1 s Q (r.map dO))(hl:q.length<=1000000):c 16 [P,Q] s=some (.bool (decide (q=r)),s):=by
 have ln:=λ(K:AV->St->Option (AV×St))=>pq.lenB (c:=c) K s
 have lr:=λ(K:AV->St->Option (AV×St))=>pr.lenB (c:=c) K s
 rw[Zb3]at ln lr;rw[EA hc (q.length+1) (r:=(.bool (decide (q=r)),s)),aD (Plain.bool _) (aT.refl s)];rw[GN];by_cases he:q.length=r.length
 . have hi:=λk1 k2=>agb (c:=c) pq pr hl he (q.length+1) k1 k2 q.length 0 (q.length+1) (by omega) (by omega)
   simp only[Zc9,show((0:Nat):Int)=0 from rfl]at hi;simp[ln,lr,he];rw[<-he,hi];split
   .rename_i h;rw[H5 h];simp
   .rename_i h;rw[Za0 h];simp
 . have d:decide (q=r)=false:=Za0 λe=>he (by rw[e])
   have hz:¬((q.length:Int)=(r.length:Int)):=(by omega);simp[ln,lr,hz,d]
end
set_option linter.unusedSimpArgs false
structure Y3(N n:Nat)(q:List Int):Prop where
 len:q.length=n
 rng:∀x∈q,-1<=x/\x<(N:Int)
 ap:∀(a b:Nat)(x:Int),a<b->q[a]? =some x->q[b]? =some x->x<0
structure O3(p:bX)(N:Nat):Prop where
 Al:p.HW
 rs:∀r∈p.rs,r.Ok
 wu:(fK p).2=0
 tabs:(bI p.ts).2=0
 sum:(N:Int)=aY p.ts
 le:N<=100000
section
variable{sB s:St}{P:AV}{q:List Int}{N n:Nat}
theorem agc{tb:Pos}(hq:Y3 N n q)(Y4:q.length<=1000)(hN:N<=100000)(pq:QS 1 sB P (q.map dO))(hge:sB.next.toNat<=tb.toNat)(w0:Wf sB)(F:Nat):
  ∀ (m k f:Nat)(s:St)(tk:List Bool),k+m=q.length->m<f->Grew sB s->s.heap.get tb=some (.cells (kO tk) 0)->tk.length=N->(∀i:Nat,tk[i]? =some true->(i:Int)∈q.take k)->∃s',Grew sB s'/\
    ∀k1 k2:Q2,rX c F k1 k2 f [.bool false,.int .i64 (N:Int),.slice tb 0 N (some N) 1,P,.int .i64 (q.length:Int),.int .i64 (k:Int)] s=k2 [] s':=by
 intro m;induction m with
 |zero=>
  intro k f s tk hk hf gr ht hl Bp;obtain⟨f,rfl⟩:∃g,f=g+1:=⟨f - 1,by omega⟩
  obtain rfl:k=q.length:=by omega
  refine⟨s,gr,λk1 k2=> ?_⟩;rw[zO];simp
 |succ m ih=>
  intro k f s tk hk hf gr ht hl Bp;obtain⟨f,rfl⟩:∃g,f=g+1:=⟨f - 1,by omega⟩
  have gQ:k<q.length:=by omega
  obtain⟨pb,po,p⟩:=Y0 (pq.aF gr) (H4 gQ);have p1:=λ{R}=>@p.st R
  have p3:=p.one;have hxq:=hq.rng _ (Zc0 gQ);have hap:=hq.ap;have wr:au .i64 ((k:Int)+1)=((k+1:Nat):Int):=by rw[wrap64 (by omega) (by omega)];omega
  have tke:q.take (k+1)=q.take k++[q[k]]:=by rw[Zq1,H4 gQ];rfl
  have hqk:q[k]? =some q[k]:=H4 gQ;generalize q[k]=x at*
  by_cases h0:0<=x
  . obtain⟨i,rfl⟩:∃i:Nat,x=(i:Int):=⟨x.toNat,by omega⟩
    have hi:i<N:=(by omega);have hf0:tk[i]? =some false:=by
        rw[H4 (by omega)];cases h:tk[i]'(by omega)with
        |false=>rfl
        | true=>
          have:=Bp i (by rw[H4 (by omega),h]);obtain⟨j,hj⟩:=Zc7.1 this;rw[Zc4]at hj;(split at hj<;>first|(cases hj;done)|skip);rename_i hjk;have:=hap j k i hjk hj hqk;omega
    have ix:=λ(K:AV->St->Option (AV×St))(s1:St)=>qQ c K s1 (b:=tb) (off:=0) (len:=N) (es:=1) (es':=1) (cap:=some N) (k:= .i64) (i:=i) hi
    (simp only[Zd1,Zk4]at ix;have ec:(kO tk)[i]? =some (.bool false):=(by rw[Zb6,hf0];rfl);have pt:=λ(K:AV->St->Option (AV×St))=>Nx (c:=c) K ht (o:=i) (by rw[Zb3];omega) (v:= .bool true) rfl rfl);rw[show(kO tk).set i (.bool true)=kO (tk.set i true)from(List.map_set).symm]at pt;have aO:=gr.wf _ _ ht;obtain⟨s',z1,z3⟩:=ih (k+1) f (cj s tb (.cells (kO (tk.set i true)) 0)) (tk.set i true) (by omega) (by omega) (A4 w0 gr hge aO _) (dB _ _ _) (by simpa using hl) (λj hj=>by
        rw[tke];by_cases e:i=j
        .subst e;simp
        .rw[Zp2 e]at hj;exact Zg9 _ (Bp j hj))
    refine⟨s',z1,λk1 k2=> ?_⟩;rw[<-z3 k1 k2,zO];have d1:decide ((i:Int)= -1)=false:=Za0 (by omega);have d2:decide ((i:Int)< -1)=false:=Za0 (by omega);have d3:decide ((N:Int)<=(i:Int))=false:=Za0 (by omega);have d4:decide (N<=i)=false:=Za0 (by omega);simp[gX,gQ,p1,p3,ix,pt,wr,d1,d2,d3,d4,ht,bF,ec]
  .have hx:x= -1:=(by omega);subst hx;obtain⟨s',z1,z3⟩:=ih (k+1) f s tk (by omega) (by omega) gr ht hl (λj hj=>by rw[tke];exact Zg9 _ (Bp j hj));refine⟨s',z1,λk1 k2=> ?_⟩;rw[<-z3 k1 k2,zO];have d3:decide ((N:Int)<= -1)=false:=Za0 (by omega);simp[gX,gQ,p1,p3,wr,d3]
end
section
variable{s0 s:St}{Vs:List AV}{p:bX}{P:AV}{q:List Int}{N:Nat}
theorem TE:Plain (.tuple [.int .i64 0,.int .i64 0]):= .tuple λv hv=>by simp at hv;subst hv;exact .int _ _
theorem agd(hc:bE c)(h:PS s0 s Vs p)(ok:O3 p N)(pq:QS 1 s P (q.map dO))(hq:Y3 N p.gs.length q):c 93 [.agg Vs,P,.bool false] s=some (.tuple [.int .i64 0,.int .i64 0],s):=by
 have hw:=h.aF.wf;have gN:=Grew.af hw (.cells Vs 0);have h1:=h.rI gN;obtain⟨V1,V2,r1,r2,e1,e2,T,T2,e5⟩:=h1.rT;have cn:=adL hc h1 ok.Al.ok ok.tabs e1;rw[<-ok.sum]at cn;have EI:=ok.Al.gs;have hlq:=hq.len;have ln:=λ(K:AV->St->Option (AV×St))(s1:St)=>pq.lenB (c:=c) K s1
 rw[Zb3]at ln;have lg:=λ(K:AV->St->Option (AV×St))(s1:St)=>T2.out.own.lenB (c:=c) K s1
 rw[T2.len]at lg;have hle:=ok.le;have mk:=λ(K:AV->St->Option (AV×St))=>Nw c K (af s (.cells Vs 0)) (es:=1) (bytes:=1) (z:=[.bool false]) (k:= .i64) (k':= .i64) (n:=N) (by omega) (by omega)
 rw[yN,U5]at mk;have gT:=Grew.af gN.wf (.cells (kO (List.replicate N false)) 0);obtain⟨s',z1,z3⟩:=agc (c:=c) (n:=p.gs.length) hq (by omega) ok.le (pq.aF gN) (Za5 _) gN.wf (q.length+1) q.length 0 (q.length+1) _ (List.replicate N false) (by omega) (by omega) gT (aE _ _) (by simp) (λi hi=>by rw[List.getElem?_replicate]at hi;split at hi<;>cases hi);simp only[show((0:Nat):Int)=0 from rfl]at z3;have UY:Vs[0]? =some V1:=e1;have e2':Vs[1]? =some V2:=e2;rw[Tv hc (q.length+1) (r:=(.tuple [.int .i64 0,.int .i64 0],s')),aD TE (gN.trans z1).keeps];rw[YI];simp[show ∀l,AV.cells (.agg l)=l from λl=>rfl,aE,bF,UY,e2',ln,lg,hlq,cn];rw[mk, <-hlq,z3];simp
theorem acf(hc:bE c)(h:PS s0 s Vs p)(ok:O3 p N)(pq:QS 1 s P (q.map dO))(hq:Y3 N p.gs.length q):c 57 [.agg Vs,P,.bool false] s=some (.tuple [.int .i64 0,.int .i64 0],s):=by
 have hw:=h.aF.wf;have gN:=Grew.af hw (.cells Vs 0);have h1:=h.rI gN;have hcut:cut Vs 0 5=some Vs:=bY h1.rT.choose_spec.choose_spec.choose_spec.choose_spec.2.2.2.2;have ck:=UQ hc h1 ok.Al ok.rs;rw[ok.wu]at ck;have kk:=agd hc h1 ok (pq.aF gN) hq;rw[P2 hc 1 (r:=(.tuple [.int .i64 0,.int .i64 0],af s (.cells Vs 0))),aD TE gN.keeps];rw[Ts];simp[show ∀l,AV.cells (.agg l)=l from λl=>rfl,aE,bF,hcut,ck,kk]
theorem Y5(hc:bE c)(h:PS s0 s Vs p)(ok:O3 p N)(pq:QS 1 s P (q.map dO))(hq:Y3 N p.gs.length q):c 22 [.agg Vs,P] s=some (.tuple [.int .i64 0,.int .i64 0],s):=by
 have hw:=h.aF.wf;have gN:=Grew.af hw (.cells Vs 0);have h1:=h.rI gN;have hcut:cut Vs 0 5=some Vs:=bY h1.rT.choose_spec.choose_spec.choose_spec.choose_spec.2.2.2.2;have kk:=acf hc h1 ok (pq.aF gN) hq;rw[MQ hc 1 (r:=(.tuple [.int .i64 0,.int .i64 0],af s (.cells Vs 0))),aD TE gN.keeps];rw[P1];simp[show ∀l,AV.cells (.agg l)=l from λl=>rfl,aE,bF,hcut,kk]
theorem ad9(hc:bE c)(h:PS s0 s Vs p)(ok:O3 p N)(pq:QS 1 s P (q.map dO))(hq:Y3 N p.gs.length q):c 53 [.agg Vs,P] s=some (.bool true,s):=by
 have hw:=h.aF.wf;have gN:=Grew.af hw (.cells Vs 0);have h1:=h.rI gN;have hcut:cut Vs 0 5=some Vs:=bY h1.rT.choose_spec.choose_spec.choose_spec.choose_spec.2.2.2.2;have kk:=Y5 hc h1 ok (pq.aF gN) hq;rw[Tt hc 1 (r:=(.bool true,af s (.cells Vs 0))),aD (Plain.bool _) gN.keeps];rw[YG];simp[show ∀l,AV.cells (.agg l)=l from λl=>rfl,aE,bF,hcut,kk]
end
set_option linter.unusedSimpArgs false
section
variable{s0 s sB:St}{Vs:List AV}{p:bX}{P:AV}{q:List Int}{N:Nat}
end
set_option linter.unusedSimpArgs false
theorem Y6(i x:Nat):(iQ i x).ou.length<=16:=by have h1:=YJ x (tN x);have h2:=NI x;show((zP x (tN x)).map λ(k:Nat)=>(k:Int)).length<=16;rw[Zb3];omega
theorem Y7(xt xg xy xr:List Nat):(cK xt xg xy xr).HW where
 ts:=by show(o9 xt _).length<=100;rw[JS];omega
 gs:=by have:=BN (wK xt xg);show(fN _).length<=100;omega
 ys:=by have:=(U1 (wK xt xg) xy).1;show(zR _ _).length<=100;omega
 cs:=by
  have:=BN (wK xt xg);show(nF xt xg xy).length<=100;unfold nF;split
  .rw[JU];show(fN _).length<=100;omega
  .exact Zi5 _
 rs:=by have:=JV (gI xt) (l7 xt xg) xr (min xr.length 12);show(xw _ _ _ _).length<=100;omega
 ok t ht:=by
  obtain⟨i,x,rfl⟩:=P8 ht;have:=Y6 i x;exact⟨by show(dx i).length<pG;unfold dx pG;simp,by unfold pG;omega⟩
theorem aiy(ts:List aK)(gs:List aL)(x:Nat):(fW ts gs x).1.k=((1+x % 18:Nat):Int):=by
 unfold fW JP
 repeat' split
 all_goals rfl
theorem acg{xt xg xy xr:List Nat}(hx:∀x∈xt,x<256):∀r∈(cK xt xg xy xr).rs,r.Ok/\u5 (cK xt xg xy xr) r=0:=λr hr=>by obtain⟨x,h1,rfl⟩:=Qa hr;refine⟨?_,ad3 (p:=cK xt xg xy xr) U4 zT zS (GY hx) x h1⟩;have:=aiy (gI xt) (l7 xt xg) x;unfold Rl.Ok;omega
theorem aea{xt xg xy xr:List Nat}(hx:∀x∈xt,x<256):ab7 (cK xt xg xy xr):=λt ht=>by
 have h1:=GY hx t ht;have h2:=YU t ht;exact⟨h1.1.symm,h2.1,h2.2.1,h2.2.2⟩
theorem FZ{R:Type}{s:St}{b:Pos}{Vs:List AV}(h:s.heap.get b=some (.cells Vs 0))(hl:Vs.length=5)(K:AV->St->Option R):aj c (.load (some 5)) [.ptr b 0] s K=K (.agg Vs) s:=by rw[vZ,h];simp only[bF,Ze6];rw[bY hl];rfl
theorem aaJ(ch:Nat->Ch):∀(m k i:Nat),(BQ ch m k)[i]? =if i<m then some (ch (k+i))else none
 |0,k,i=>by simp[BQ]
 |m+1,k,0=>by simp[BQ]
 |m+1,k,i+1=>by
  rw[BQ,Zb7,aaJ ch m (k+1) i];by_cases h:i<m
  .rw[Za9 h,Za9 (by omega)];congr 2;omega
  .rw[Za3 h,Za3 (by omega)]
theorem aaK(ch:Nat->Ch):∀(m k:Nat),(BQ ch m k).length=m
 |0,k=>rfl
 |m+1,k=>by rw[BQ,Zc5,aaK ch m (k+1)]
def EJ(xt:List Nat):Nat:=(aY (gI xt)).toNat
theorem age{xt xg xy xr:List Nat}(hx:∀x∈xt,x<256):O3 (cK xt xg xy xr) (EJ xt) where
 Al:=Y7 xt xg xy xr
 rs r hr:=(acg (xg:=xg) (xy:=xy) (xr:=xr) hx r hr).1
 wu:=ab5 hx
 tabs:=UZ hx
 sum:=by have:=(oR (gI xt)).1;show((aY (gI xt)).toNat:Int)=aY (gI xt);omega
 le:=by have h1:=(oR (gI xt)).2;have h2:=(Y7 xt xg xy xr).ts;have h2:(gI xt).length<=100:=h2;unfold EJ;omega
theorem aeb(N n:Nat)(xs:List Int):Y3 N n (gu (List.replicate N false) (BQ (Ky N xs) n 0)):=by
 have no:∀s,Ch.LQ s∉BQ (Ky N xs) n 0:=λs h=>by
   obtain⟨i,hi⟩:=Zc7.1 h;rw[aaJ]at hi;split at hi
   . simp only[H0]at hi;unfold Ky at hi;split at hi
     .split at hi<;>cases hi
     .cases hi
   .cases hi
 have hs:Sat (List.replicate N false) (BQ (Ky N xs) n 0):=⟨λs h=>absurd h (no s),λi j s h _=>absurd (Zb4 h) (no s)⟩
 refine⟨by rw[Jh,aaK],λx hx=> ?_,λa b x R5 ha hb=> ?_⟩
 . obtain⟨i,hi⟩:=Zc7.1 hx;rcases xN _ _ hs i x hi with rfl|⟨s,rfl,h|h⟩
   .omega
   .have:=(Za1.1 h).1;simp at this;omega
   .have:=(Za1.1 h.1).1;simp at this;omega
 .have:=Dg _ _ hs a b x R5 ha hb;omega
section
variable{q:List Int}{g h:Nat}
end
end
section
open Go Go.Ai Go.Proofs Go.RowKit
theorem Qb{α:Type}{P:α->Prop}{cells:α->List AV}:∀(rs:List (List AV)),(∀r∈rs,∃t,r=cells t/\P t)->∃l:List α,rs=l.map cells/\∀t∈l,P t
 |[],_=>⟨[],rfl,by simp⟩
 |r::rs,h=>by
  obtain⟨t,rfl,ht⟩:=h r (by simp);obtain⟨l,rfl,hl⟩:=Qb rs (λq hq=>h q (Za4 _ hq));refine⟨t::l,rfl,λu hu=> ?_⟩;rcases Zb2.1 hu with rfl|hu
  .exact ht
  .exact hl u hu
section
variable{H:Type}{enc:TypeId×Value->H}{w:World}{base:Nat}{spare:Nat->Bool}{held:Bool}
theorem Wc{t:TypeId}{k:IntKind}{r:Go.Reach}{b0:Nat}{v:Value}{d:DataW H}{p:List MemPlace}(ht:Tryz.prog.underlying t=some (.int k))
  (hval:Value.okWide Tryz.prog w r b0 t v) (hd:DataW.Trod enc Tryz.prog w base spare held t v d p):∃us,(∃i,us=[AV.int k i]/\(Lit.int k i).wf=true)/\∀ρ n,ay ρ n (λad=>w.cell? ad) us [v]:=by
 obtain⟨m,rfl⟩:=Go.WideShapes.okWide_int ht hval;obtain⟨fuel,hf⟩:=hd;exact LJ ht _ _ _ hf
theorem wf_u8{i:Int}(h:(Lit.int .u8 i).wf=true):0<=i/\i<256:=by
 have e1:IntKind.min .u8=0:=by decide
 have e2:IntKind.max .u8=255:=by decide
 have h:(decide (IntKind.min _<=i)&&decide (i<=IntKind.max _))=true:=h;rw[e1,e2,Zb0,Ze2,Ze2]at h;omega
theorem wf_u16{i:Int}(h:(Lit.int .u16 i).wf=true):0<=i/\i<65536:=by
 have e1:IntKind.min .u16=0:=by decide
 have e2:IntKind.max .u16=65535:=by decide
 have h:(decide (IntKind.min _<=i)&&decide (i<=IntKind.max _))=true:=h;rw[e1,e2,Zb0,Ze2,Ze2]at h;omega
theorem wf_u32{i:Int}(h:(Lit.int .u32 i).wf=true):0<=i/\i<4294967296:=by
 have e1:IntKind.min .u32=0:=by decide
 have e2:IntKind.max .u32=4294967295:=by decide
 have h:(decide (IntKind.min _<=i)&&decide (i<=IntKind.max _))=true:=h;rw[e1,e2,Zb0,Ze2,Ze2]at h;omega
def BR(k:IntKind)(n:Nat)(vs:List AV):Prop:=∃(z:Bool) (l:List Nat),vs=[dW k z l]/\(∀x∈l,x<n)/\l.length<=9223372036854775807
theorem JX{t e:TypeId}{k:IntKind}{n:Nat}(ht:Tryz.prog.underlying t=some (.slice e))(he:Tryz.prog.underlying e=some (.int k))(hc:Tryz.prog.cellsOf e=1)(hk:∀i,(Lit.int k i).wf=true->0<=i/\i<(n:Int)):
  mh enc Tryz.prog w base spare held t (BR k n):=by
 refine mh.mono (OB (es:=1) ht hc (by omega) (λvs h=>by obtain⟨i,rfl,_⟩:=h;rfl) (LJ he)) λvs h=> ?_
 obtain⟨z,rs,rfl,h1,h2⟩:=h;obtain⟨l,rfl,hl⟩:=Qb (P:=λx:Nat=>x<n) (cells:=λx:Nat=>[AV.int k (x:Int)]) rs λr hr=>by
  obtain⟨i,rfl,hi⟩:=h1 r hr;have:=hk i hi;exact⟨i.toNat,by rw[show((i.toNat:Nat):Int)=i by omega],by omega⟩
 refine⟨z,l,rfl,hl,?_⟩;rw[Zb3]at h2;unfold Go.maxLen at h2;omega
def aiz(vs:List AV):Prop:=∃(z:Bool) (l:List Int),vs=[ints z l]/\l.length<=9223372036854775807
theorem aez:mh enc Tryz.prog w base spare held 27 aiz:=by
 refine mh.mono (OB (es:=1) (e:=3) (by kernel_rfl) (by kernel_rfl) (by omega) (λvs h=>by obtain⟨i,rfl,_⟩:=h;rfl) (LJ (k:= .i64) (by kernel_rfl))) λvs h=> ?_
 obtain⟨z,rs,rfl,h1,h2⟩:=h;obtain⟨l,rfl,_⟩:=Qb (P:=λ_:Int=>True) (cells:=λx:Int=>[AV.int .i64 x]) rs λr hr=>by
  obtain⟨i,rfl,hi⟩:=h1 r hr;exact⟨i,rfl,trivial⟩
 refine⟨z,l,rfl,?_⟩;rw[Zb3]at h2;unfold Go.maxLen at h2;omega
theorem U6:mh enc Tryz.prog w base spare held 22 (BR .u8 256):=JX (e:=5) (by kernel_rfl) (by kernel_rfl) (by kernel_rfl) λ_ h=>wf_u8 h
theorem ach:mh enc Tryz.prog w base spare held 23 (BR .u16 65536):=JX (e:=83) (by kernel_rfl) (by kernel_rfl) (by kernel_rfl) λ_ h=>wf_u16 h
theorem aci:mh enc Tryz.prog w base spare held 24 (BR .u32 4294967296):=JX (e:=89) (by kernel_rfl) (by kernel_rfl) (by kernel_rfl) λ_ h=>wf_u32 h
structure ajp(xt xg xy xr:List Nat):Prop where
 t:∀x∈xt,x<256
 g:∀x∈xg,x<65536
 y:∀x∈xy,x<256
 r:∀x∈xr,x<4294967296
 lt:xt.length<=9223372036854775807
 lg:xg.length<=9223372036854775807
 ly:xy.length<=9223372036854775807
 lr:xr.length<=9223372036854775807
theorem Vf:mh enc Tryz.prog w base spare held 26 λvs=>∃zt zg zy zr xt xg xy xr,vs=kj zt zg zy zr xt xg xy xr/\ajp xt xg xy xr:=by
 refine mh.mono (Xu [22,23,22,24] (Qs:=[BR .u8 256,BR .u16 65536,BR .u8 256,BR .u32 4294967296]) (by kernel_rfl) (by kernel_rfl) (by kernel_rfl) ⟨U6,ach,U6,aci,trivial⟩) λvs h=> ?_
 obtain⟨ps,rfl,m0⟩:=h;obtain⟨p0,q0,rfl,⟨z1,l1,rfl,a1,b1⟩,m1⟩:=BB m0;obtain⟨p0,q0,rfl,⟨z2,l2,rfl,a2,b2⟩,m2⟩:=BB m1;obtain⟨p0,q0,rfl,⟨z3,l3,rfl,a3,b3⟩,m3⟩:=BB m2;obtain⟨p0,q0,rfl,⟨z4,l4,rfl,a4,b4⟩,m4⟩:=BB m3;obtain rfl:=XA m4;exact⟨z1,z2,z3,z4,l1,l2,l3,l4,rfl,⟨a1,a2,a3,a4,b1,b2,b3,b4⟩⟩
end
end
end Go.Proofs.YtgjikjcfjddloaaGreatDoor
section
end
namespace Go.Proofs.YtgjikjcfjddloaaGreatDoor
section
set_option linter.unusedSimpArgs false
open Go Go.Ai Go.Proofs
variable{c:ai}
theorem PS.cells{s0 s:St}{Vs:List AV}{p:bX}(h:PS s0 s Vs p):Vs.length=5/\aR Vs=true:=by
 obtain⟨G,V1,V2,V3,V4,V5,r1,r2,rfl,F1,F2,F3,F4,F5⟩:=h;have o1:=F1.out.cells.2;have o2:=F2.out.cells.2;have o3:=F3.cells.2;have o4:=F4.cells.2;have o5:=F5.cells.2;simp only[aR,Zn1]at o1 o2 o3 o4 o5;exact⟨rfl,by simp only[aR,o1,o2,o3,o4,o5,Zl1]⟩
theorem QS.beq{es:Nat}{s:St}{v:AV}{rows:List (List AV)}(h:QS es s v rows):lu v v=true:=by
 rcases h with⟨rfl,rfl⟩|⟨b,off,cap,cs,rfl,_⟩|⟨b,off,rfl,rfl⟩
 .rfl
 .cases cap<;>simp[lu,gK,Pos.beq_eq.2 rfl]
 .simp[lu,gK,Pos.beq_eq.2 rfl]
end
noncomputable section
open Go Go.Ai Go.Proofs
attribute [local go_sem ↓] bD mj ev LP ve getLT qV B6 HC pL pM AP v7 v8 v9 sk su sv sw sx sy we wj sF sH sI sJ sK Be Bf Bg
attribute [local go_sem] bD mj ev
section
variable(c:ai)(F:Nat)(x0 x1 x2 x3 x4 x5 x6 x7 x8 x9 yR yS:AV)(s:St)
def EK:Sh:=(sq sl (sq (sq sl (sq sl (sc (sq sl sl) sl))) (sq (sq sl (sc (sq sl sl) sl)) (sq sl (sq (sq sl (sb (sp 0 [1,2,9,10] [(1,[4,5,6]),(2,[9])] (sq (sq sl (sc sl sl)) (sj [1,2,9,10] (sb (sq sl (sq sl (sj [2,9,10,12,14] (sq sl (sc sl sl)) (sq (sq sl (sc (sq sl sl) sl)) sl))))) sl))))) (sq sl sl))))))
def MX:PX 37 EK:=⟨_,by conv=>lhs;reduce⟩
def Kz:PL 37 EK 0:=⟨_,by conv=>lhs;reduce⟩
def rZ(k1 k2:Q2):Nat->Q2
 |0,_,_=>none
 |n+1,vs,s=>gY c F bM (rZ k1 k2 n) [k1,k2] Kz.1 vs s
def oH(k1 k2:Q2)(n:Nat)(vs:List AV)(s:St):=(by dsimp only[rZ,Kz,go_sem,Int.reduceOfNat,Int.reduceNegSucc]:rZ c F k1 k2 (n+1) vs s=_)
def EL:Un->List Q2->Nat->Q2
 |.z,[k1,k2]=>rZ c F k1 k2
 |_,_=>λ_=>jr
def zU:O2:=bD c F (EL c F) MX.1 [x0,x1] s
def EM:=(by dsimp only[zU,MX, ↓EL,go_sem,Int.reduceOfNat,Int.reduceNegSucc]:zU c F x0 x1 s=_)
def nX:Sh:=(sq sl (sj [0,1] (sq sl (sc sl sl)) (sq sl (sj [0,6] (sq sl (sc sl sl)) (sq sl (sq sl (sq (sb (sp 0 [7,8] [(2,[7])] (sq (sq sl (sc sl sl)) (sb sl)))) (sq sl sl))))))))
def vu:PX 77 nX:=⟨_,by conv=>lhs;reduce⟩
def uG:PL 77 nX 0:=⟨_,by conv=>lhs;reduce⟩
def iH(k2:Q2):Nat->Q2
 |0,_,_=>none
 |n+1,vs,s=>gY c F bM (iH k2 n) [k2] uG.1 vs s
def jv(k2:Q2)(n:Nat)(vs:List AV)(s:St):=(by dsimp only[iH,uG,go_sem,Int.reduceOfNat]:iH c F k2 (n+1) vs s=_)
def nY:Un->List Q2->Nat->Q2
 |.z,[k2]=>iH c F k2
 |_,_=>λ_=>jr
def qg:O2:=bD c F (nY c F) vu.1 [x0,x1] s
def vw:=(by dsimp only[qg,vu, ↓nY,go_sem,Int.reduceOfNat]:qg c F x0 x1 s=_)
def KA:Sh:=(sq sl (sq sl sl))
def KB:PX 78 KA:=⟨_,by conv=>lhs;reduce⟩
def GZ:O2:=bD c F bM KB.1 [x0,x1] s
def KC:=(by dsimp only[GZ,KB,go_sem,Int.reduceOfNat]:GZ c F x0 x1 s=_)
def R7:Sh:=(sq sl (sq sl (sq (sq sl (sc (sq sl sl) sl)) (sq sl (sq (sq sl (sc (sq sl sl) sl)) (sq sl (sq (sq sl (sc (sq sl sl) sl)) (sq sl (sq (sq sl (sc (sq sl sl) sl)) (sq sl (sq (sb (sq sl (sc (sq sl sl) (sq sl (sc (sq sl sl) (sq sl (sc (sq sl sl) sl))))))) (sq sl (sq sl sl)))))))))))))
def R8:PX 79 R7:=⟨_,by conv=>lhs;reduce⟩
def JY:O2:=bD c F bM R8.1 [x0,x1,x2] s
def kz:=(by dsimp only[JY,R8,go_sem,Int.reduceOfNat]:JY c F x0 x1 x2 s=_)
def F0:Sh:=(sq sl (sq (sc (sq sl (sq sl sl)) sl) (sq sl (sq sl sl))))
def F6:PX 122 F0:=⟨_,by conv=>lhs;reduce⟩
def Cj:O2:=bD c F bM F6.1 [x0,x1] s
def R9:=(by dsimp only[Cj,F6,go_sem,Int.reduceOfNat]:Cj c F x0 x1 s=_)
def C3:Sh:=(sq sl (sq (sq sl (sq sl (sc (sq sl sl) sl))) (sq sl sl)))
def C4:PX 123 C3:=⟨_,by conv=>lhs;reduce⟩
def zV:O2:=bD c F bM C4.1 [x0,x1] s
def C5:=(by dsimp only[zV,C4,go_sem,Int.reduceOfNat]:zV c F x0 x1 s=_)
def F7:Sh:=(sq sl (sq sl sl))
def F8:PX 124 F7:=⟨_,by conv=>lhs;reduce⟩
def Ck:O2:=bD c F bM F8.1 [x0,x1] s
def Sa:=(by dsimp only[Ck,F8,go_sem,Int.reduceOfNat,Int.reduceNegSucc]:Ck c F x0 x1 s=_)
def Cl:Sh:=(sq sl (sq (sq sl (sc (sq sl sl) sl)) (sq sl (sq (sq sl (sb (sp 0 [0,4,5] [(1,[2,3]),(2,[4])] (sq (sq sl (sc sl sl)) (sq (sb (sq (sq sl (sc (sq sl sl) sl)) sl)) sl))))) (sq sl sl)))))
def KD:PX 125 Cl:=⟨_,by conv=>lhs;reduce⟩
def Ij:PL 125 Cl 0:=⟨_,by conv=>lhs;reduce⟩
def mY(k1 k2:Q2):Nat->Q2
 |0,_,_=>none
 |n+1,vs,s=>gY c F bM (mY k1 k2 n) [k1,k2] Ij.1 vs s
def rJ(k1 k2:Q2)(n:Nat)(vs:List AV)(s:St):=(by dsimp only[mY,Ij,go_sem,Int.reduceOfNat]:mY c F k1 k2 (n+1) vs s=_)
def Cm:Un->List Q2->Nat->Q2
 |.z,[k1,k2]=>mY c F k1 k2
 |_,_=>λ_=>jr
def G1:O2:=bD c F (Cm c F) KD.1 [x0] s
def VF:=(by dsimp only[G1,KD, ↓Cm,go_sem,Int.reduceOfNat]:G1 c F x0 s=_)
def MY:Sh:=(sq sl (sq sl sl))
def MZ:PX 127 MY:=⟨_,by conv=>lhs;reduce⟩
def JZ:O2:=bD c F bM MZ.1 [x0,x1] s
def Y8:=(by dsimp only[JZ,MZ,go_sem,Int.reduceOfNat]:JZ c F x0 x1 s=_)
def C6:Sh:=(sq sl (sq sl (sq sl (sq sl (sq sl (sq sl (sq sl (sq sl (sq sl (sq sl (sq sl (sq sl sl))))))))))))
def C7:PX 174 C6:=⟨_,by conv=>lhs;reduce⟩
def zW:O2:=bD c F bM C7.1 [x0,x1] s
def NY:=(by dsimp only[zW,C7,go_sem,Int.reduceOfNat]:zW c F x0 x1 s=_)
def s9:Sh:=(sq sl (sq sl (sq (sb (sq sl (sc (sq sl sl) (sq sl (sc (sq sl sl) (sq sl (sc (sq sl sl) (sq sl (sc (sq sl sl) sl))))))))) (sq sl (sq sl (sq sl (sq sl (sq sl (sq (sb (sp 0 [0,1,5,6,7,8,9,10] [(1,[4]),(3,[])] (sq (sq sl (sc sl sl)) (sb (sj [0,1,5,6,7,8,9,10] (sq sl (sc (sq sl (sq (sq sl (sc (sq sl sl) sl)) sl)) sl)) (sq (sq sl (sc (sq sl sl) sl)) (sq sl (sq sl (sq sl (sc (sq sl (sq (sq sl (sc (sq sl sl) sl)) (sq sl sl))) (sq sl (sc (sq sl (sq (sq sl (sc (sq sl sl) sl)) (sq sl sl))) sl)))))))))))) (sq sl sl))))))))))
def Av:PX 175 s9:=⟨_,by conv=>lhs;reduce⟩
def J0:PL 175 s9 0:=⟨_,by conv=>lhs;reduce⟩
def zX(k1 k3:Q2):Nat->Q2
 |0,_,_=>none
 |n+1,vs,s=>gY c F bM (zX k1 k3 n) [k1,k3] J0.1 vs s
def td:Un->List Q2->Nat->Q2
 |.z,[k1,k3]=>zX c F k1 k3
 |_,_=>λ_=>jr
def vQ:O2:=bD c F (td c F) Av.1 [x0,x1] s
def KW:=(by dsimp only[vQ,Av, ↓td,go_sem,Int.reduceOfNat,Int.reduceNegSucc]:vQ c F x0 x1 s=_)
def uH:Sh:=(sq sl (sq (sq sl (sc (sq sl sl) sl)) (sq (sq sl (sc (sq sl sl) sl)) (sj [0,1,2,3] (sq sl (sc sl sl)) (sq sl (sq sl (sq sl (sq sl (sq (sb (sp 0 [0,1,2,3,9,10] [(2,[0,9,10])] (sq (sq sl (sc sl sl)) (sb (sq sl (sq (sq sl (sc sl sl)) (sq sl (sq sl sl)))))))) (sq sl (sq sl sl)))))))))))
def BS:PX 176 uH:=⟨_,by conv=>lhs;reduce⟩
def Aw:PL 176 uH 0:=⟨_,by conv=>lhs;reduce⟩
def k9(k2:Q2):Nat->Q2
 |0,_,_=>none
 |n+1,vs,s=>gY c F bM (k9 k2 n) [k2] Aw.1 vs s
def yg(k2:Q2)(n:Nat)(vs:List AV)(s:St):=(by dsimp only[k9,Aw,go_sem,Int.reduceOfNat]:k9 c F k2 (n+1) vs s=_)
def uI:Un->List Q2->Nat->Q2
 |.z,[k2]=>k9 c F k2
 |_,_=>λ_=>jr
def xx:O2:=bD c F (uI c F) BS.1 [x0,x1,x2,x3] s
def M7:=(by dsimp only[xx,BS, ↓uI,go_sem,Int.reduceOfNat]:xx c F x0 x1 x2 x3 s=_)
def vz:Sh:=(sq sl (sq sl sl))
def vC:PX 243 vz:=⟨_,by conv=>lhs;reduce⟩
def qh:O2:=bD c F bM vC.1 [x0,x1] s
def E0:=(by dsimp only[qh,vC,go_sem,Int.reduceOfNat]:qh c F x0 x1 s=_)
def zY:Sh:=(sq sl (sq (sq sl (sc (sq sl sl) sl)) (sq (sq sl (sc (sq sl sl) sl)) (sq sl (sb (sp 0 [0,1,5] [(1,[4])] (sb (sq sl (sq (sq sl (sc (sq sl sl) sl)) (sq sl sl))))))))))
def F9:PX 248 zY:=⟨_,by conv=>lhs;reduce⟩
def Qc:PL 248 zY 0:=⟨_,by conv=>lhs;reduce⟩
def EN(k1:Q2):Nat->Q2
 |0,_,_=>none
 |n+1,vs,s=>gY c F bM (EN k1 n) [k1] Qc.1 vs s
def zZ:Un->List Q2->Nat->Q2
 |.z,[k1]=>EN c F k1
 |_,_=>λ_=>jr
def Cn:O2:=bD c F (zZ c F) F9.1 [x0,x1] s
def Sb:=(by dsimp only[Cn,F9, ↓zZ,go_sem,Int.reduceOfNat,Int.reduceNegSucc]:Cn c F x0 x1 s=_)
def Ga:Sh:=(sq sl (sq sl sl))
def Gb:PX 249 Ga:=⟨_,by conv=>lhs;reduce⟩
def Co:O2:=bD c F bM Gb.1 [x0,x1] s
def Sc:=(by dsimp only[Co,Gb,go_sem,Int.reduceOfNat]:Co c F x0 x1 s=_)
end
section
variable{c:ai}(hc:bE c)(F:Nat){x0 x1 x2 x3 x4 x5 x6 x7 x8 x9 yR yS:AV}{s:St}{r:AV×St}
include hc
theorem Ik(h:zU c F x0 x1 s=some r):c 37 [x0,x1] s=some (tidy s r):=hc.o1 F (EL c F) EK (by kernel_rfl) (by kernel_rfl) (λ_ _ _=>by kernel_rfl) (λ_ _ _ _=>by kernel_rfl) (by kernel_rfl) h
theorem tP(h:qg c F x0 x1 s=some r):c 77 [x0,x1] s=some (tidy s r):=hc.o1 F (nY c F) nX (by kernel_rfl) (by kernel_rfl) (λ_ _ _=>by kernel_rfl) (λ_ _ _ _=>by kernel_rfl) (by kernel_rfl) h
theorem Gc(h:GZ c F x0 x1 s=some r):c 78 [x0,x1] s=some (tidy s r):=hc.o0 F KA (by kernel_rfl) (by kernel_rfl) h
theorem M8(h:JY c F x0 x1 x2 s=some r):c 79 [x0,x1,x2] s=some (tidy s r):=hc.o0 F R7 (by kernel_rfl) (by kernel_rfl) h
theorem NZ(h:Cj c F x0 x1 s=some r):c 122 [x0,x1] s=some (tidy s r):=hc.o0 F F0 (by kernel_rfl) (by kernel_rfl) h
theorem Ax(h:zV c F x0 x1 s=some r):c 123 [x0,x1] s=some (tidy s r):=hc.o0 F C3 (by kernel_rfl) (by kernel_rfl) h
theorem N4(h:Ck c F x0 x1 s=some r):c 124 [x0,x1] s=some (tidy s r):=hc.o0 F F7 (by kernel_rfl) (by kernel_rfl) h
theorem Sd(h:G1 c F x0 s=some r):c 125 [x0] s=some (tidy s r):=hc.o1 F (Cm c F) Cl (by kernel_rfl) (by kernel_rfl) (λ_ _ _=>by kernel_rfl) (λ_ _ _ _=>by kernel_rfl) (by kernel_rfl) h
theorem qk(h:fo c F x0 x1 s=some r):c 126 [x0,x1] s=some (tidy s r):=hc.o1 F (eN c F) eM (by kernel_rfl) (by kernel_rfl) (λ_ _ _=>by kernel_rfl) (λ_ _ _ _=>by kernel_rfl) (by kernel_rfl) h
theorem TF(h:JZ c F x0 x1 s=some r):c 127 [x0,x1] s=some (tidy s r):=hc.o0 F MY (by kernel_rfl) (by kernel_rfl) h
theorem KY(h:zW c F x0 x1 s=some r):c 174 [x0,x1] s=some (tidy s r):=hc.o0 F C6 (by kernel_rfl) (by kernel_rfl) h
theorem Il(h:vQ c F x0 x1 s=some r):c 175 [x0,x1] s=some (tidy s r):=hc.o1 F (td c F) s9 (by kernel_rfl) (by kernel_rfl) (λ_ _ _=>by kernel_rfl) (λ_ _ _ _=>by kernel_rfl) (by kernel_rfl) h
theorem J1(h:xx c F x0 x1 x2 x3 s=some r):c 176 [x0,x1,x2,x3] s=some (tidy s r):=hc.o1 F (uI c F) uH (by kernel_rfl) (by kernel_rfl) (λ_ _ _=>by kernel_rfl) (λ_ _ _ _=>by kernel_rfl) (by kernel_rfl) h
theorem Dk(h:qh c F x0 x1 s=some r):c 243 [x0,x1] s=some (tidy s r):=hc.o0 F vz (by kernel_rfl) (by kernel_rfl) h
theorem N6(h:Cn c F x0 x1 s=some r):c 248 [x0,x1] s=some (tidy s r):=hc.o1 F (zZ c F) zY (by kernel_rfl) (by kernel_rfl) (λ_ _ _=>by kernel_rfl) (λ_ _ _ _=>by kernel_rfl) (by kernel_rfl) h
theorem N7(h:Co c F x0 x1 s=some r):c 249 [x0,x1] s=some (tidy s r):=hc.o0 F Ga (by kernel_rfl) (by kernel_rfl) h
end
end
section
open Go Go.Ai Go.Proofs
variable{c:ai}
theorem agf(hc:bE c){n:Int}(h0:0<=n)(h1:n<4294967296)(s:St):c 174 [.int .u64 1,.int .u64 n] s=some (.tuple [.int .u64 0,.int .u64 n],s):=by
 rw[KY hc 1 (r:=(.tuple [.int .u64 0,.int .u64 n],s)),aD (Plain.tuple (by simp[Plain.int])) (aT.refl s)];rw[NY];have w0:au .u64 0=0:=NB (by omega) (by omega);have w1:au .u64 n=n:=NB (by omega) (by omega);simp[Py h0 h1,PB h0 h1,Py (n:=1) (by omega) (by omega),PB (a:=1) (by omega) (by omega),Py (n:=0) (by omega) (by omega),PB (a:=0) (by omega) (by omega),w0,w1]
theorem aiA(hc:bE c){n:Int}(h0:0<=n)(h1:n<4294967296)(s:St):c 122 [.int .u64 1,.int .u64 n] s=some (.tuple [.int .u64 0,.int .u64 n],s):=by
 rw[NZ hc 1 (r:=(.tuple [.int .u64 0,.int .u64 n],s)),aD (Plain.tuple (by simp[Plain.int])) (aT.refl s)];rw[R9];simp[agf hc h0 h1]
theorem aec(N:Nat)(hN:N<=1000000)(b:Pos)(v:AV)(hv:v.one=true)(F:Nat):∀(m n f:Nat)(s:St),1<=n->n<=N->N - n<=m->m<f->s.heap.get b=some (.cells (List.replicate n v++List.replicate (N - n) (.int .i64 0)) 0)->
  ∀k2:Q2,iH c F k2 f [.slice b 0 N (some N) 1,.int .i64 (n:Int)] s=k2 [.slice b 0 N (some N) 1] (cj s b (.cells (List.replicate N v) 0)):=by
 intro m;induction m with
 |zero=>
  intro n f s h1 h2 h3 h4 h5 k2;obtain⟨f,rfl⟩:∃g,f=g+1:=⟨f - 1,by omega⟩
  obtain rfl:n=N:=by omega
  rw[jv];have e:cj s b (.cells (List.replicate n v) 0)=cj s b (.cells (List.replicate n v++List.replicate (n - n) (.int .i64 0)) 0):=by simp
  rw[e];have e2:cj s b (.cells (List.replicate n v++List.replicate (n - n) (.int .i64 0)) 0)=s:=XI h5;rw[e2];simp[lJ]
 |succ m ih=>
  intro n f s h1 h2 h3 h4 h5 k2;obtain⟨f,rfl⟩:∃g,f=g+1:=⟨f - 1,by omega⟩
  by_cases hn:n=N
  .subst hn;rw[jv];have e:cj s b (.cells (List.replicate n v) 0)=cj s b (.cells (List.replicate n v++List.replicate (n - n) (.int .i64 0)) 0):=(by simp);rw[e];have e2:cj s b (.cells (List.replicate n v++List.replicate (n - n) (.int .i64 0)) 0)=s:=XI h5;rw[e2];simp[lJ]
  . have aO:decide ((n:Int)<(N:Int))=true:=H5 (by omega);have cp:=λ(K:AV->St->Option (AV×St))=>XC (c:=c) (b:=b) (n:=n) (m:=N - n) (cp:=some (N - n)) (DX:=some N) (by omega) (by omega) hv h5 K
    have w:au .i64 ((n:Int)+((min n (N - n):Nat):Int))=((n+min n (N - n):Nat):Int):=(by rw[wrap64 (by omega) (by omega)];omega);have TP:=ih (n+min n (N - n)) f (cj s b (.cells (List.replicate (n+min n (N - n)) v++List.replicate (N - n - min n (N - n)) (.int .i64 0)) 0)) (by omega) (by omega) (by omega) (by omega) (by rw[dB,show N - (n+min n (N - n))=N - n - min n (N - n)by omega]) k2;rw[SD]at TP;rw[<-TP,jv];simp only[aA,bf,ak,lJ,b9,aO,bR,cJ,adt h2,adu h2,cp,aaj,w]
theorem aed(hc:bE c){N:Nat}(hN:N<=1000000){p:Pos}{v:AV}(hv:v.one=true)(s:St)(hw:Wf s)(hp:s.heap.get p=some (.cells [v] 0)):
   ∃s' gb,c 77 [.slice p 0 1 (some 1) 1,.int .i64 (N:Int)] s=some (.slice gb 0 N (some N) 1,s')/\Grew s s'/\s.next.toNat<=gb.toNat/\(N=0\/s'.heap.get gb=some (.cells (List.replicate N v) 0)):=by
 have g1:=Grew.af hw (.cells (List.replicate N (.int .i64 0)) 0);have w1:au .u64 (N:Int)=(N:Int):=NB (by omega) (by omega);have w2:au .i64 (N:Int)=(N:Int):=wrap64 (by omega) (by omega);have w3:au .u64 1=1:=NB (by omega) (by omega);have d1:decide ((N:Int)<0)=false:=Za0 (by omega);have d2:decide ((9223372036854775807:Int)<(N:Int))=false:=Za0 (by omega);have mk:=λ(K:AV->St->Option (AV×St))=>Nw c K s (es:=1) (bytes:=8) (z:=[.int .i64 0]) (k:= .i64) (k':= .i64) (n:=N) (by omega) (by omega)
 rw[yN]at mk;have fc:=g1.get hp;have mu:=aiA hc (n:=(N:Int)) (by omega) (by omega) s;by_cases h0:N=0
 . subst h0;have run:=tP hc (x0:= .slice p 0 1 (some 1) 1) (x1:= .int .i64 ((0:Nat):Int)) (s:=s) (F:=1) (r:=(.slice s.next 0 0 (some 0) 1,af s (.cells [] 0))) (by
    rw[vw];simp only[ak,b9,d1,gX,cG,aA,bf,lJ,w6,w1,show((1:Nat):Int)=1 from rfl,w3,bg,mu,aW,eX,Za8,Zb7,ew,pU,show decide ((0:Int)<0)=false from rfl,dJ,d2,dF,w2,mk,List.replicate_zero,Vp];rw[jv];simp[lJ])
   rw[run];obtain⟨s',h1,h2⟩:=ada (v:= .slice s.next 0 0 (some 0) 1) (Grew.af hw (.cells [] 0)) hw;exact⟨s',s.next,by rw[h1],h2,Za5 _,.inl rfl⟩
 . have cp:=λ(K:AV->St->Option (AV×St))=>XH (c:=c) (b:=s.next) (b2:=p) (v:=v) (z:= .int .i64 0) (m:=N) (cp:=some N) (DX:=some 1) (by omega) hv (aE s _) fc K
   have lp:=aec (c:=c) N hN s.next v hv (N+1) N 1 (N+1) (cj (af s (.cells (List.replicate N (.int .i64 0)) 0)) s.next (.cells (List.replicate 1 v++List.replicate (N - 1) (.int .i64 0)) 0)) (by omega) (by omega) (by omega) (by omega) (dB _ _ _);simp only[SD,Du]at lp cp;simp only[show((1:Nat):Int)=1 from rfl]at lp;have run:=tP hc (x0:= .slice p 0 1 (some 1) 1) (x1:= .int .i64 (N:Int)) (s:=s) (F:=N+1) (r:=(.slice s.next 0 N (some N) 1,af s (.cells (List.replicate N v) 0))) (by
    rw[vw];simp only[ak,b9,d1,gX,cG,aA,bf,lJ,w6,w1,show((1:Nat):Int)=1 from rfl,w3,bg,mu,aW,eX,Za8,Zb7,ew,pU,show decide ((0:Int)<0)=false from rfl,dJ,d2,dF,w2,mk,cp,lp])
   (rw[run];have np:¬(Plain (AV.slice s.next 0 N (some N) 1)):=λh=>xj h0 h);refine⟨af s (.cells (List.replicate N v) 0),s.next,?_,Grew.af hw _,Za5 _,.inr (aE _ _)⟩;unfold tidy;rw[Za3 (λh=>np h.1)]
end
noncomputable section
open Go Go.Ai Go.Proofs
attribute [local go_sem ↓] bD mj ev LP ve getLT qV B6 HC pL pM AP v7 v8 v9 sk su sv sw sx sy we wj sF sH sI sJ sK Be Bf Bg
attribute [local go_sem] bD mj ev
section
variable(c:ai)(F:Nat)(x0 x1 x2 x3 x4 x5 x6 x7 x8 x9 yR yS:AV)(s:St)
def Cp:Sh:=(sq sl (sq (sq sl (sc (sq sl sl) sl)) (sq sl (sq (sq sl (sb (sp 0 [2,5,15,16,17] [(2,[5])] (sq sl (sq (sc sl sl) (sj [2,5,15,16,17] (sb (sq sl (sq sl (sq sl (sc sl sl))))) sl)))))) (sq sl sl)))))
def KE:PX 31 Cp:=⟨_,by conv=>lhs;reduce⟩
def Im:PL 31 Cp 0:=⟨_,by conv=>lhs;reduce⟩
def qi(k2:Q2):Nat->Q2
 |0,_,_=>none
 |n+1,vs,s=>gY c F bM (qi k2 n) [k2] Im.1 vs s
def xz(k2:Q2)(n:Nat)(vs:List AV)(s:St):=(by dsimp only[qi,Im,go_sem,Int.reduceOfNat]:qi c F k2 (n+1) vs s=_)
def Cq:Un->List Q2->Nat->Q2
 |.z,[k2]=>qi c F k2
 |_,_=>λ_=>jr
def G2:O2:=bD c F (Cq c F) KE.1 [x0,x1] s
def VG:=(by dsimp only[G2,KE, ↓Cq,go_sem,Int.reduceOfNat]:G2 c F x0 x1 s=_)
def pH:Sh:=(sq sl (sq sl (sq sl (sq sl sl))))
def pI:PX 66 pH:=⟨_,by conv=>lhs;reduce⟩
def l9:O2:=bD c F bM pI.1 [x0,x1] s
def z9:=(by dsimp only[l9,pI,go_sem,Int.reduceOfNat]:l9 c F x0 x1 s=_)
def Io:Sh:=(sq sl (sq sl sl))
def Ip:PX 67 Io:=⟨_,by conv=>lhs;reduce⟩
def EO:O2:=bD c F bM Ip.1 [x0] s
def TG:=(by dsimp only[EO,Ip,go_sem,Int.reduceOfNat]:EO c F x0 s=_)
def uJ:Sh:=(sq sl (sq sl sl))
def uK:PX 68 uJ:=⟨_,by conv=>lhs;reduce⟩
def pn:O2:=bD c F bM uK.1 [x0] s
def uL:=(by dsimp only[pn,uK,go_sem,Int.reduceOfNat]:pn c F x0 s=_)
def qw:Sh:=(sq sl (sc sl (sq sl (sc sl sl))))
def qx:PX 97 qw:=⟨_,by conv=>lhs;reduce⟩
def mL:O2:=bD c F bM qx.1 [x0] s
def qy:=(by dsimp only[mL,qx,go_sem,Int.reduceOfNat]:mL c F x0 s=_)
end
section
variable{c:ai}(hc:bE c)(F:Nat){x0 x1 x2 x3 x4 x5 x6 x7 x8 x9 yR yS:AV}{s:St}{r:AV×St}
include hc
theorem Sf(h:G2 c F x0 x1 s=some r):c 31 [x0,x1] s=some (tidy s r):=hc.o1 F (Cq c F) Cp (by kernel_rfl) (by kernel_rfl) (λ_ _ _=>by kernel_rfl) (λ_ _ _ _=>by kernel_rfl) (by kernel_rfl) h
theorem yj(h:l9 c F x0 x1 s=some r):c 66 [x0,x1] s=some (tidy s r):=hc.o0 F pH (by kernel_rfl) (by kernel_rfl) h
theorem Qd(h:EO c F x0 s=some r):c 67 [x0] s=some (tidy s r):=hc.o0 F Io (by kernel_rfl) (by kernel_rfl) h
theorem r9(h:pn c F x0 s=some r):c 68 [x0] s=some (tidy s r):=hc.o0 F uJ (by kernel_rfl) (by kernel_rfl) h
theorem pJ(h:mL c F x0 s=some r):c 97 [x0] s=some (tidy s r):=hc.o0 F qw (by kernel_rfl) (by kernel_rfl) h
end
attribute [local go_sem ↓] bD mj ev LP ve getLT qV B6 HC pL pM AP v7 v8 v9 sk su sv sw sx sy we wj sF sH sI sJ sK Be Bf Bg
attribute [local go_sem] bD mj ev
section
variable(c:ai)(F:Nat)(x0 x1 x2 x3 x4 x5 x6 x7 x8 x9 yR yS:AV)(s:St)
def Gd:Sh:=(sq sl (sq sl sl))
def Ge:PX 98 Gd:=⟨_,by conv=>lhs;reduce⟩
def Cr:O2:=bD c F bM Ge.1 [x0] s
def Sg:=(by dsimp only[Cr,Ge,go_sem,Int.reduceOfNat]:Cr c F x0 s=_)
def z0:Sh:=(sq sl (sq (sq sl (sc (sq (sq sl (sc (sq sl sl) sl)) (sq sl (sq sl (sj [0,5,6] (sq sl (sc sl sl)) (sq sl (sq sl (sq (sq sl (sc (sq sl (sq sl sl)) sl)) (sq sl sl)))))))) sl)) (sq sl (sq sl sl))))
def z6:PX 165 z0:=⟨_,by conv=>lhs;reduce⟩
def uM:O2:=bD c F bM z6.1 [x0,x1] s
def J2:=(by dsimp only[uM,z6,go_sem,Int.reduceOfNat]:uM c F x0 x1 s=_)
def EP:Sh:=(sq sl (sq (sq sl (sc (sq sl sl) sl)) (sq sl sl)))
def ER:PX 227 EP:=⟨_,by conv=>lhs;reduce⟩
def A7:O2:=bD c F bM ER.1 [x0] s
def Qe:=(by dsimp only[A7,ER,go_sem,Int.reduceOfNat]:A7 c F x0 s=_)
end
section
variable{c:ai}(hc:bE c)(F:Nat){x0 x1 x2 x3 x4 x5 x6 x7 x8 x9 yR yS:AV}{s:St}{r:AV×St}
include hc
theorem N9(h:Cr c F x0 s=some r):c 98 [x0] s=some (tidy s r):=hc.o0 F Gd (by kernel_rfl) (by kernel_rfl) h
theorem G5(h:uM c F x0 x1 s=some r):c 165 [x0,x1] s=some (tidy s r):=hc.o0 F z0 (by kernel_rfl) (by kernel_rfl) h
theorem M9(h:A7 c F x0 s=some r):c 227 [x0] s=some (tidy s r):=hc.o0 F EP (by kernel_rfl) (by kernel_rfl) h
end
end
section
set_option linter.unusedSimpArgs false
open Go Go.Ai Go.Proofs
variable{c:ai}
structure Ext(c:ai):Prop where
 esc:∀(v:AV)(st:St),c 164 [v] st=some (v,st)
 FE:∀(args:List AV)(st:St)(r:AV×St),lZ 65 args st=some r->c 65 args st=some r
 CY:∀(args:List AV)(st:St)(r:AV×St),lZ 128 args st=some r->c 128 args st=some r
theorem aiB(hc:bE c):Ext c:=⟨ahF hc,ahG hc,aaE hc⟩
def BAt(N0:Nat)(s:St)(X:Pos)(bs:List Nat):Prop:=
 X.toNat<N0/\N0<=s.next.toNat/\(∀x∈bs,x<256)/\∃p v,s.heap.get X=some (.typed 115 [p,v])/\(p= .fP\/p= .ptr X 0)/\
    ((v= .ah/\bs=[])\/∃Y,v= .slice Y 0 bs.length none 1/\s.heap.get Y=some (.typed 5 (xK bs))/\N0<=Y.toNat/\bs≠[])
theorem U7{st st':St}{X:Pos}{x y:AB}(h:st.heap.get X=some x)(h':st'.heap.get X=some y)(cL:x≠y):¬aT st st':=λk=>by have:=k X x h;rw[h']at this;exact cL (Zg4 this).symm
theorem J3{st st':St}{v:AV}(h:¬aT st st'):tidy st (v,st')=(v,st'):=by unfold tidy;rw[Za3];exact λe=>h e.2
theorem Plain.tup0:Plain (.tuple []):=Plain.tuple (λv h=>by cases h)
theorem Y9(hc:bE c)(hx:Ext c){s:St}{X:Pos}{p v:AV}(h:s.heap.get X=some (.typed 115 [p,v]))(hp:p= .fP\/p= .ptr X 0):
   ∃s',c 97 [.ptr X 0] s=some (.tuple [],s')/\s'.heap.get X=some (.typed 115 [.ptr X 0,v])/\(∀b,b≠X->s'.heap.get b=s.heap.get b)/\s'.next=s.next:=by
 rcases hp with rfl|rfl
 . (refine⟨cj s X (.typed 115 [.ptr X 0,v]),?_,dB _ _ _,λb hb=>bC (λe=>hb e.symm),rfl⟩;rw[pJ hc 1 (r:=(.tuple [],cj s X (.typed 115 [.ptr X 0,v]))),J3 (U7 h (dB _ _ _) (by simp))];rw[qy];have e1:∀(K:AV->St->Option (AV×St))(t:St),aj c (.bin .eql .ptr) [.fP,.fP] t K=K (.bool true) t:=λK t=>rfl);have e2:∀(K:AV->St->Option (AV×St)),aj c .toU [.ptr X 0] s K=K (.ptr X 0) s:=λK=>ahm h (by simp) K
   have e3:∀(K:AV->St->Option (AV×St)),aj c (.fromU 115 2) [.ptr X 0] s K=K (.ptr X 0) s:=λK=>adj h (by simp) K
   have e4:∀(K:AV->St->Option (AV×St)),aj c (.store 1) [.ptr X 0,.ptr X 0] s K=K .undef (cj s X (.typed 115 [.ptr X 0,v])):=λK=>Rj (m:=1) h rfl (by simp) rfl K
   have e5:=hx.esc (.ptr X 0) s;simp[h,e1,e2,e3,e4,e5]
 . (refine⟨s,?_,h,λ_ _=>rfl,rfl⟩;rw[pJ hc 1 (r:=(.tuple [],s)),aD Plain.tup0 (aT.refl s)];rw[qy];have e1:∀(K:AV->St->Option (AV×St))(t:St),aj c (.bin .eql .ptr) [.ptr X 0,.fP] t K=K (.bool false) t:=λK t=>rfl);have e2:∀(K:AV->St->Option (AV×St))(t:St),aj c (.bin .neq .ptr) [.ptr X 0,.ptr X 0] t K=K (.bool false) t:=λK t=>aH c K (λH n=>by simp[av.run,fQ,jX,K7,Pos.beq_eq.2 rfl]) t
   simp[h,e1,e2]
theorem TH(hc:bE c)(hx:Ext c){N0:Nat}{s:St}{X:Pos}{bs u:List Nat}(hw:Wf s)(h:BAt N0 s X bs)(hu:u≠[])(hu2:∀x∈u,x<256)(hl:bs.length+u.length<=140000000000000):
   ∃s',c 66 [.ptr X 0,.str u] s=some (.tuple [.int .i64 (u.length:Int),.tU],s')/\BAt N0 s' X (bs++u)/\Wf s'/\(∀b,b≠X->b.toNat<N0->s'.heap.get b=s.heap.get b):=by
 obtain⟨h1,h2,h3,p,v,hX,hp,hv⟩:=h;obtain⟨s1,c1,c2,c3,c4⟩:=Y9 hc hx hX hp;have dm:Wf s1:=λb x hb=>by
   rw[c4];by_cases e:b=X
   .subst e;exact hw _ _ hX
   .rw[c3 b e]at hb;exact hw _ _ hb
 have Wv:u.length≠0:=λe=>hu (Zb1 e)
 have Hz:∀x∈bs++u,x<256:=λx hx=>(Zd5.1 hx).elim (h3 x) (hu2 x)
 have key:∃s2,(∀(K:AV->St->Option (AV×St)),aj c (.appendT 5 1) [v,.str u] s1 K=K (.slice s1.next 0 (bs.length+u.length) none 1) s2)/\s2.heap.get X=some (.typed 115 [.ptr X 0,v])/\
     s2.heap.get s1.next=some (.typed 5 (xK (bs++u)))/\Wf s2/\s2.next=s1.next.succ/\∀b,b.toNat<N0->s2.heap.get b=s1.heap.get b:=by
   have hXs:X.toNat<s1.next.toNat:=(by rw[c4];omega);rcases hv with⟨rfl,rfl⟩|⟨Y,rfl,hY,hN,hb⟩
   .refine⟨af s1 (.typed 5 (xK u)),λK=>by simpa using adk (c:=c) (st:=s1) (e:=5) (bytes:=1) (u:=u) (by omega) (by omega) Wv K,by rw[mQ hXs];exact c2,aE _ _,bU dm,rfl,λb hb=>mQ (by rw[c4];omega)⟩
   . have hYX:Y≠X:=λe=>by subst e;omega
     have hY1:s1.heap.get Y=some (.typed 5 (xK bs)):=(by rw[c3 Y hYX];exact hY);have nO:∀b,b≠Y->b≠s1.next->(s1.aG (some Y) none (some (.typed 5 (xK (bs++u))))).heap.get b=s1.heap.get b:=λb Br CA=>by
        show(T.put _ s1.next (T.put none Y s1.heap)).get b=_;rw[T.bG _ (λe=>CA e.symm),T.bG _ (λe=>Br e.symm)]
     refine⟨s1.aG (some Y) none (some (.typed 5 (xK (bs++u)))),λK=>afk hY1 (by omega) (by omega) Wv K,by rw[nO X (λe=>hYX e.symm) (λe=>by rw[e]at hXs;omega)];exact c2,T.eO _ _ _,λb x hb=> ?_,rfl,λb hb=>nO b (λe=>by subst e;omega) (λe=>by subst e;rw[c4]at hb;omega)⟩;show b.toNat<s1.next.succ.toNat;rw[Pos.aB];by_cases e1:b=s1.next
     .  subst e1;omega
     .  by_cases e2:b=Y
        .subst e2;have:=dm _ _ hY1;omega
        .rw[nO b e2 e1]at hb;have:=dm _ _ hb;omega
 obtain⟨s2,k1,k2,k3,k4,k5,k6⟩:=key;have cL:bs++u≠[]:=by simp[hu]
 have hXn:X≠s1.next:=λe=>by rw[c4]at e;subst e;omega
 have ab2:(cj s2 X (.typed 115 [.ptr X 0,.slice s1.next 0 (bs.length+u.length) none 1])).heap.get X=some (.typed 115 [.ptr X 0,.slice s1.next 0 (bs.length+u.length) none 1]):=dB _ _ _;refine⟨cj s2 X (.typed 115 [.ptr X 0,.slice s1.next 0 (bs.length+u.length) none 1]),?_,⟨h1,by rw[AM,k5,Pos.aB,c4];omega,Hz,.ptr X 0,.slice s1.next 0 (bs.length+u.length) none 1,ab2,.inr rfl,.inr ⟨s1.next,by rw[Zc1],by rw[bC hXn];exact k3,by rw[c4];omega,cL⟩⟩,λb x hb=> ?_,λb Br CA=> ?_⟩
 . rw[yj hc 1 (r:=(.tuple [.int .i64 (u.length:Int),.tU],cj s2 X (.typed 115 [.ptr X 0,.slice s1.next 0 (bs.length+u.length) none 1]))),J3 (U7 hX ab2 (by
     rcases hv with⟨rfl,rfl⟩|⟨Y,rfl,hY,hN,hb⟩
     .  simp
     .  simp;intros;omega))]
   (rw[z9];have e4:∀(K:AV->St->Option (AV×St)),aj c (.store 1) [.ptr X 1,.slice s1.next 0 (bs.length+u.length) none 1] s2 K=K .undef (cj s2 X (.typed 115 [.ptr X 0,.slice s1.next 0 (bs.length+u.length) none 1])):=λK=>Rj (m:=1) k2 rfl (by simp) rfl K);simp[c1,c2,k1,e4]
 . rw[AM];by_cases e:b=X
   .subst e;rw[k5,Pos.aB,c4];omega
   .rw[bC (λe'=>e e'.symm)]at hb;exact k4 _ _ hb
 .rw[bC (λe=>Br e.symm),k6 b CA,c3 b Br]
theorem acj(hc:bE c)(hx:Ext c){N0:Nat}{s:St}{X:Pos}{bs:List Nat}(h:BAt N0 s X bs)(hl:bs.length<=140000000000000):
   ∃s',c 68 [.ptr X 0] s=some (.str bs,s')/\∀b,b.toNat<N0->s'.heap.get b=s.heap.get b:=by
 obtain⟨h1,h2,h3,p,v,hX,hp,hv⟩:=h;rcases hv with⟨rfl,rfl⟩|⟨Y,rfl,hY,hN,hb⟩
 . (refine⟨s,?_,λ_ _=>rfl⟩;rw[r9 hc 1 (r:=(.str [],s)),aD (Plain.str _) (aT.refl s)];rw[uL];have e0:∀(K:AV->Option (AV×St)),dK (.lenB .l) [.ah] K=K (.int .i64 0):=λK=>rfl);simp[hX,e0,SK,SL]
 . have T9:bs.length≠0:=λe=>hb (Zb1 e)
   refine⟨s.aG (some Y) none none,?_,λb hb=>T.bG _ (λe=>by subst e;omega) _⟩;have ajq:(s.aG (some Y) none none).heap.get Y=none:=T.eO _ _ _;rw[r9 hc 1 (r:=(.str bs,s.aG (some Y) none none)),J3 (λk=>by have:=k Y _ hY;rw[ajq]at this;cases this)];(rw[uL];have e1:∀(K:AV->Option (AV×St)),dK .sliceData [.slice Y 0 bs.length none 1] K=K (.ptr Y 0):=λK=>Vn T9 K);have e2:∀(K:AV->St->Option (AV×St)),aj c (.unsafeStr 5) [.ptr Y 0,.int .i64 (bs.length:Int)] s K=K (.str bs) (s.aG (some Y) none none):=λK=>Vo hY T9 (by omega) h3 K
   have e0:∀(K:AV->Option (AV×St)),dK (.lenB .l) [.slice Y 0 bs.length none 1] K=K (.int .i64 (bs.length:Int)):=λK=>rfl
   simp[hX,e0,e1,e2]
def pO(k:Nat):List Nat:=if k<10 then [48+k]else [48+k / 10,48+k % 10]
theorem Za{R:Type}{T:List Nat}{a i:Nat}(h1:a<=i)(h2:i<=T.length)(s:St)(K:AV->St->Option R):aj c (.sliceS true true) [.str T,.int .i64 (a:Int),.int .i64 (i:Int)] s K=K (.str ((T.take i).drop a)) s:=
 aH c K (λH n=>by
  simp only[av.run,ql,bounds,eI,Zf5,cI,H5 h1,H5 h2]) s
theorem agh(hc:bE c){k:Nat}(hk:k<100)(s:St):c 227 [.int .i64 (k:Int)] s=some (.str (pO k),s):=by
 rw[M9 hc 1 (r:=(.str (pO k),s)),aD (Plain.str _) (aT.refl s)];rw[Qe];by_cases h:k<10
 . have d:decide ((k:Int)<10)=true:=H5 (by omega);have v1:Unit->au .i64 ((k:Int)+1)=((k+1:Nat):Int):=λ_=>wrap64 (by omega) (by omega)
   simp only[ak,b9,d,bR,fG,v1 ()];rw[Za (by omega) (by simp;omega)];congr 3;clear d v1 hk
   revert k
   decide+kernel
 . have d:decide ((k:Int)<10)=false:=Za0 (by omega);have v1:Unit->au .i64 ((k:Int)*2)=((k*2:Nat):Int):=λ_=>wrap64 (by omega) (by omega)
   have v2:Unit->au .i64 (((k*2:Nat):Int)+2)=((k*2+2:Nat):Int):=λ_=>wrap64 (by omega) (by omega)
   simp only[ak,b9,d,cG,aal,v1 (),fG,v2 ()];rw[Za (by omega) (by simp;omega)];congr 3;clear d v1 v2
   revert h
   revert k
   decide+kernel
theorem agi(hc:bE c){k:Nat}(hk:k<100)(s:St):c 67 [.int .i64 (k:Int)] s=some (.str (pO k),s):=by
 have sm:=agh hc hk s;have d1:decide ((0:Int)<=(k:Int))=true:=H5 (by omega);have d2:decide ((k:Int)<100)=true:=H5 (by omega);have d3:decide ((10:Int)=10)=true:=rfl;have fi:c 165 [.int .i64 (k:Int),.int .i64 10] s=some (.str (pO k),s):=by
  rw[G5 hc 1 (r:=(.str (pO k),s)),aD (Plain.str _) (aT.refl s)];rw[J2];simp only[ak,cM,d3,Zg2,bR,ahc,d1,dJ,b9,d2,j6,bg,sm,aW]
 have ii:c 98 [.int .i64 (k:Int)] s=some (.str (pO k),s):=by
  rw[N9 hc 1 (r:=(.str (pO k),s)),aD (Plain.str _) (aT.refl s)];rw[Sg];simp only[ak,bg,fi,aW]
 rw[Qd hc 1 (r:=(.str (pO k),s)),aD (Plain.str _) (aT.refl s)];rw[TG];simp only[ak,bg,ii,aW]
set_option linter.unusedSimpArgs false
open Go Go.Ai Go.Proofs Go.Ai.Ro
theorem U8{R:Type}{T:List Nat}{i:Nat}(h2:i<=T.length)(s:St)(K:AV->St->Option R):aj c (.sliceS false true) [.str T,.int .i64 (i:Int)] s K=K (.str (T.take i)) s:=
 aH c K (λH n=>by
  have hb:bounds false true false [.int .i64 (i:Int)]=some (none,some i,none):=by simp only[bounds,eI]
  simp only[av.run,ql,hb,Zf5,Zi8,cI,H5 h2,H5 (Zi5 _),Zc9]) s
theorem aee{R:Type}{T:List Nat}{i:Nat}(h2:i<=T.length)(K:AV->Option R):dK (.sliceS false true) [.str T,.int .i64 (i:Int)] K=K (.str (T.take i)):=
 b7 K (λH n=>by
  have hb:bounds false true false [.int .i64 (i:Int)]=some (none,some i,none):=by simp only[bounds,eI]
  simp only[av.run,ql,hb,Zf5,Zi8,cI,H5 h2,H5 (Zi5 _),Zc9])
theorem U9{R:Type}{T:List Nat}{i:Nat}(h2:i<=T.length)(s:St)(K:AV->St->Option R):aj c (.sliceS true false) [.str T,.int .i64 (i:Int)] s K=K (.str (T.drop i)) s:=
 aH c K (λH n=>by
  have hb:bounds true false false [.int .i64 (i:Int)]=some (some i,none,none):=by simp only[bounds,eI]
  simp only[av.run,ql,hb,Zf5,Zi8,cI,H5 h2,H5 (Za5 _),Zi9]) s
theorem aef{R:Type}{T:List Nat}{i:Nat}(h2:i<=T.length)(K:AV->Option R):dK (.sliceS true false) [.str T,.int .i64 (i:Int)] K=K (.str (T.drop i)):=
 b7 K (λH n=>by
  have hb:bounds true false false [.int .i64 (i:Int)]=some (some i,none,none):=by simp only[bounds,eI]
  simp only[av.run,ql,hb,Zf5,Zi8,cI,H5 h2,H5 (Za5 _),Zi9])
def Ig(a:List Nat)(b:Nat):Int:=Lib.indexByte (a.map UInt8.ofNat) ((b:Int).toNat.toUInt8)
theorem Na(hc:bE c)(a:List Nat)(b:Nat)(hb:b<256)(s:St):c 175 [.str a,.str [b]] s=some (.int .i64 (Ig a b),s):=by
 have i1:=ahH hc a (b:Int) s;have i2:c 243 [.str a,.int .u8 (b:Int)] s=some (.int .i64 (Ig a b),s):=by
   rw[Dk hc 1 (r:=(.int .i64 (Ig a b),s)),aD (Plain.int _ _) (aT.refl s)];rw[E0];simp only[ak,bg,i1,aW,Ig]
 rw[Il hc 1 (r:=(.int .i64 (Ig a b),s)),aD (Plain.int _ _) (aT.refl s)];rw[KW];have d1:decide ((([b]:List Nat).length:Int)=0)=false:=Za0 (by simp);have d2:decide ((([b]:List Nat).length:Int)=1)=true:=H5 (by simp);have ix:∀(K:AV->St->Option (AV×St)),aj c .idxS [.str [b],.int .i64 0] s K=K (.int .u8 (b:Int)) s:=λK=>by simp
 by_cases h:[b]=a
 . (subst h;have e:Ig [b] b=0:=by have:=Jj (c:=b) (a:=[]) (b:=[]) hb (λx hx=>by cases hx) (by simp);exact this);have d3:decide ([b]=[b])=true:=H5 rfl;simp only[ak,jd,cM,d1,dJ,mz,Zg2,dF,bR,e]
 .have d3:decide ([b]=a)=false:=Za0 h;simp only[ak,jd,cM,d1,dJ,mz,d3,dF,cG,d2,bR,ix,bg,i2,aW]
theorem aeg(hc:bE c)(a:List Nat)(b:Nat)(hb:b<256)(s:St):c 249 [.str a,.str [b]] s=some (.int .i64 (Ig a b),s):=by
 have i2:=Na hc a b hb s;rw[N7 hc 1 (r:=(.int .i64 (Ig a b),s)),aD (Plain.int _ _) (aT.refl s)];rw[Sc];simp only[ak,bg,i2,aW]
theorem agj(hc:bE c){a:List Nat}{b:Nat}(hb:b<256)(ha:∀x∈a,x<256)(h:b∉a)(s:St):c 78 [.str a,.str [b]] s=some (.tuple [.str a,.str [],.bool false],s):=by
 have e:Ig a b= -1:=XG hb ha h;have i2:=Na hc a b hb s;rw[e]at i2;have pl:Plain (.tuple [.str a,.str [],.bool false]):=Plain.tuple (by simp[Plain.str,Plain.bool]);have k:c 123 [.str a,.str [b]] s=some (.tuple [.str a,.str [],.bool false],s):=by
  rw[Ax hc 1 (r:=(.tuple [.str a,.str [],.bool false],s)),aD pl (aT.refl s)];rw[C5];simp only[ak,bg,i2,aW,Dt,show decide ((0:Int)<= -1)=false from rfl,cG]
 rw[Gc hc 1 (r:=(.tuple [.str a,.str [],.bool false],s)),aD pl (aT.refl s)];rw[KC];simp[k]
theorem agk(hc:bE c){u v:List Nat}{b:Nat}(hb:b<256)(ha:∀x∈u,x<256)(h:b∉u)(hl:u.length<=1000000)(s:St):c 78 [.str (u++b::v),.str [b]] s=some (.tuple [.str u,.str v,.bool true],s):=by
 have e:Ig (u++b::v) b=(u.length:Int):=Jj hb ha h;have i2:=Na hc (u++b::v) b hb s;rw[e]at i2;have pl:Plain (.tuple [.str u,.str v,.bool true]):=Plain.tuple (by simp[Plain.str,Plain.bool]);have d:decide ((0:Int)<=(u.length:Int))=true:=H5 (by omega);have l1:(u++b::v).take u.length=u:=by simp
 have l2:(u++b::v).drop (u.length+1)=v:=by rw[<-Zm3];simp
 have w:Unit->au .i64 ((u.length:Int)+(([b]:List Nat).length:Int))=((u.length+1:Nat):Int):=λ_=>by
  rw[Zk6];exact wrap64 (by omega) (by omega)
 have k:c 123 [.str (u++b::v),.str [b]] s=some (.tuple [.str u,.str v,.bool true],s):=by
  rw[Ax hc 1 (r:=(.tuple [.str u,.str v,.bool true],s)),aD pl (aT.refl s)];rw[C5];simp only[ak,bg,i2,aW,Dt,d,bR,cJ,aee (show u.length<=(u++b::v).length by simp),l1,afb,aaj,w (),aef (show u.length+1<=(u++b::v).length by simp),l2]
 rw[Gc hc 1 (r:=(.tuple [.str u,.str v,.bool true],s)),aD pl (aT.refl s)];rw[KC];simp[k]
set_option linter.unusedSimpArgs false
def strs(l:List (List Nat)):List AV:=l.map .str
theorem ack{R:Type}{b:Pos}{N n:Nat}(h:n<=N)(k:IntKind)(s:St)(K:AV->St->Option R):aj c (.sliceL 1 false true false) [.slice b 0 N (some N) 1,.int k (n:Int)] s K=K (.slice b 0 n (some N) 1) s:=aH c K (λH m=>by
 have hb:bounds false true false [.int k (n:Int)]=some (none,some n,none):=by simp[bounds,eI]
 simp only[av.run,lS,hb,cX,cI,Zg2,Zf5,Zi8,Zi5,H5 h]
 all_goals simp) s
theorem aaL(ds:List (List Nat))(u:List Nat)(x:AV)(m:Nat):(strs ds++List.replicate (m+1) x).set (0+ds.length*1) (.str u)=strs (ds++[u])++List.replicate m x:=by
 rw[List.set_append_right _ _ (by simp[strs])];simp[strs,Zn0]
theorem agl(hc:bE c){b:Nat}(hb:b<256)(F:Nat)(s0:St){N:Nat}(hN:N<=1000001):∀(m:Nat)(ds:List (List Nat))(r:List Nat)(f:Nat),(cZ b [] r).length=m+1->m<f->ds.length+m+1=N->(∀x∈r,x<256)->r.length<=1000000->
  ∃ (qs:List (List Nat)) (w:List Nat),cZ b [] r=qs++[w]/\qs.length=m/\∀k2:Q2,k9 c F k2 f [.str r,.str [b],.int .i64 0,.int .i64 ((N - 1:Nat):Int),.slice s0.next 0 N (some N) 1,.int .i64 (ds.length:Int)] (af s0 (.cells (strs ds++List.replicate (m+1) (.str [])) 0))=
    k2 [.str w,.slice s0.next 0 N (some N) 1,.int .i64 ((N - 1:Nat):Int)] (af s0 (.cells (strs (ds++qs)++[.str []]) 0)):=by
 intro m;induction m with
 |zero=>
  intro ds r f hm hf hl hr UE;obtain⟨f,rfl⟩:∃g,f=g+1:=⟨f - 1,by omega⟩
  obtain⟨w,hw⟩:∃w,cZ b [] r=[w]:=List.length_eq_one_iff.1 hm;have hn:b∉r:=λh=>by
    rcases Ru (c:=b) r with h'|⟨a,v,h1,e⟩
    .   exact h' h
    .   rw[e,xe a v h1]at hm;have:=Rv (c:=b) v [];simp at hm;exact this hm
  rw[HD r hn]at hw;obtain rfl:r=w:=(List.cons.inj hw).1;refine⟨[],r,by rw[HD r hn];rfl,rfl,λk2=> ?_⟩;have d:decide ((ds.length:Int)<((N - 1:Nat):Int))=false:=Za0 (by omega);have e:ds.length=N - 1:=by omega
  rw[yg];simp only[aA,bf,ak,b9,d,cG,Zf7];rw[e];rfl
 |succ m ih=>
  intro ds r f hm hf hl hr UE;obtain⟨f,rfl⟩:∃g,f=g+1:=⟨f - 1,by omega⟩
  rcases Ru (c:=b) r with h|⟨u,v,h1,rfl⟩
  .rw[HD r h]at hm;simp at hm
  have hu:∀x∈u,x<256:=λx hx=>hr x (Zg9 _ hx)
  have hv:∀x∈v,x<256:=λx hx=>hr x (Zh8 _ (Za4 _ hx))
  have Wv:u.length+v.length+1<=1000000:=by simpa [Zh3]using UE
  rw[xe u v h1]at hm ⊢;obtain⟨qs,w,e1,e2,e3⟩:=ih (ds++[u]) v f (by simpa using hm) (by omega) (by simp;omega) hv (by omega);refine⟨u::qs,w,by rw[e1];rfl,by simp[e2],λk2=> ?_⟩;have e:Ig (u++b::v) b=(u.length:Int):=Jj hb hu h1;have i2:=aeg hc (u++b::v) b hb (af s0 (.cells (strs ds++List.replicate (m+1+1) (.str [])) 0));rw[e]at i2;have d:decide ((ds.length:Int)<((N - 1:Nat):Int))=true:=H5 (by omega);have d2:decide ((u.length:Int)<0)=false:=Za0 (by omega);have l1:(u++b::v).take u.length=u:=by simp
  have l2:(u++b::v).drop (u.length+1)=v:=by rw[<-Zm3];simp
  have w0:Unit->au .i64 ((u.length:Int)+0)=((u.length:Nat):Int):=λ_=>wrap64 (by omega) (by omega)
  have w1:Unit->au .i64 ((u.length:Int)+(([b]:List Nat).length:Int))=((u.length+1:Nat):Int):=λ_=>by
    rw[Zk6];exact wrap64 (by omega) (by omega)
  have w2:Unit->au .i64 ((ds.length:Int)+1)=(((ds++[u]).length:Nat):Int):=λ_=>by
    rw[Zc1,Zk6];exact wrap64 (by omega) (by omega)
  have st:∀(K:AV->St->Option (AV×St)),aj c (.store 1) [.ptr s0.next (0+ds.length*1),.str u] (af s0 (.cells (strs ds++List.replicate (m+1+1) (.str [])) 0)) K=K .undef (af s0 (.cells (strs (ds++[u])++List.replicate (m+1) (.str [])) 0)):=λK=>by
    rw[Nx K (aE _ _) (by simp[strs]) rfl rfl,Du,aaL]
  have ixq:=λ(K:AV->St->Option (AV×St))(s1:St)=>qQ c K s1 (b:=s0.next) (off:=0) (len:=N) (es:=1) (es':=1) (cap:=some N) (k:= .i64) (i:=ds.length) (by omega)
  have fin:=e3 k2;rw[Zg6,List.singleton_append]at fin;rw[<-fin,yg];simp only[aA,bf,ak,b9,d,bR,bg,i2,aW,d2,cG,fG,w0 (),U8 (show u.length<=(u++b::v).length by simp),l1,ixq,st,jd,w1 (),U9 (show u.length+1<=(u++b::v).length by simp),l2,w2 ()]
theorem agm(hc:bE c){b:Nat}(hb:b<256){r:List Nat}(hr:∀x∈r,x<256)(UE:r.length<=1000000)(s:St):c 124 [.str r,.str [b]] s=some (.slice s.next 0 (cZ b [] r).length (some (cZ b [] r).length) 1,af s (.cells (strs (cZ b [] r)) 0)):=by
 obtain⟨m,hm⟩:∃m,(cZ b [] r).length=m+1:=by
  cases h:cZ b [] r with
  |nil=>exact absurd h (Rv r [])
  |cons x y=>exact⟨y.length,rfl⟩
 have hlen:=SU (c:=b) r [];have hcnt:Lib.countByte (r.map UInt8.ofNat) ((b:Int).toNat.toUInt8)+1=m+1:=(SS hb r [] hr).trans hm;obtain⟨qs,w,e1,e2,e3⟩:=agl hc hb (m+1) s (N:=m+1) (by omega) m [] r (m+1) hm (by omega) (by simp) hr UE;simp only[Zf0,strs,Zf8,Zg5,Zf4,show((0:Nat):Int)=0 from rfl]at e3;have ct:c 248 [.str r,.str [b]] s=some (.int .i64 (m:Int),s):=by
  have c2:=ahI hc r (b:Int) s;rw[N6 hc 1 (r:=(.int .i64 (m:Int),s)),aD (Plain.int _ _) (aT.refl s)];rw[Sb];have d1:decide ((([b]:List Nat).length:Int)=0)=false:=Za0 (by simp);have d2:decide ((([b]:List Nat).length:Int)=1)=true:=H5 (by simp);have ix:∀(K:AV->St->Option (AV×St)),aj c .idxS [.str [b],.int .i64 0] s K=K (.int .u8 (b:Int)) s:=λK=>by simp
  have Wx:Lib.countByte (r.map UInt8.ofNat) ((b:Int).toNat.toUInt8)=m:=by omega
  rw[Wx]at c2;simp only[ak,jd,cM,d1,cG,d2,bR,ix,bg,c2,aW]
 have key:c 176 [.str r,.str [b],.int .i64 0,.int .i64 (-1)] s=some (tidy s (.slice s.next 0 (m+1) (some (m+1)) 1,af s (.cells (strs (cZ b [] r)) 0))):=by
  rw[J1 hc (m+1) (r:=(.slice s.next 0 (m+1) (some (m+1)) 1,af s (.cells (strs (cZ b [] r)) 0)))];rw[M7];have d1:decide ((-1:Int)=0)=false:=rfl;have d2:decide (([b]:List Nat)=[])=false:=rfl;have d3:decide ((-1:Int)<0)=true:=rfl;have w1:Unit->au .i64 ((m:Int)+1)=((m+1:Nat):Int):=λ_=>wrap64 (by omega) (by omega)
  have w2:Unit->au .i64 ((r.length:Int)+1)=((r.length+1:Nat):Int):=λ_=>wrap64 (by omega) (by omega)
  have w3:Unit->au .i64 (((m+1:Nat):Int) - 1)=((m:Nat):Int):=λ_=>by rw[show((m+1:Nat):Int) - 1=(m:Int)by omega];exact wrap64 (by omega) (by omega)
  have mn:min (((m+1:Nat)):Int) ((r.length+1:Nat):Int)=((m+1:Nat):Int):=by omega
  have mk:=λ(K:AV->St->Option (AV×St))=>Nw c K s (es:=1) (bytes:=16) (z:=[.str []]) (k:= .i64) (k':= .i64) (n:=m+1) (by omega) (by omega)
  rw[yN]at mk;have st:∀(K:AV->St->Option (AV×St)),aj c (.store 1) [.ptr s.next (0+m*1),.str w] (af s (.cells (qs.map .str++[.str []]) 0)) K=K .undef (af s (.cells (strs (cZ b [] r)) 0)):=λK=>by
   rw[Nx K (aE _ _) (by simp[e2]) rfl rfl,Du];have:=aaL qs w (.str []) 0;rw[e2]at this;have h2:(List.map AV.str qs++[AV.str []]).set (0+m*1) (.str w)=strs (cZ b [] r):=(by rw[e1];simpa [strs]using this);rw[h2]
  have ixq:=λ(K:AV->St->Option (AV×St))(s1:St)=>qQ c K s1 (b:=s.next) (off:=0) (len:=m+1) (es:=1) (es':=1) (cap:=some (m+1)) (k:= .i64) (i:=m) (by omega)
  simp only[ak,cM,d1,cG,mz,d2,gX,b9,d3,bR,bg,ct,aW,fG,w1 (),aA,bf,jd,w2 (),SJ,mn,mk,SC,w3 (),e3,ixq,st,ack (Za5 (m+1))]
 rw[hm];have np:¬Plain (AV.slice s.next 0 (m+1) (some (m+1)) 1):=λh=>xj (by omega) h
 have t0:tidy s (.slice s.next 0 (m+1) (some (m+1)) 1,af s (.cells (strs (cZ b [] r)) 0))=(.slice s.next 0 (m+1) (some (m+1)) 1,af s (.cells (strs (cZ b [] r)) 0)):=by
  unfold tidy;rw[Za3 λh=>np h.1]
 rw[t0]at key;rw[N4 hc 1 (r:=(.slice s.next 0 (m+1) (some (m+1)) 1,af s (.cells (strs (cZ b [] r)) 0))),t0];rw[Sa];simp only[ak,bg,key,aW]
end
noncomputable section
open Go Go.Ai Go.Proofs
attribute [local go_sem ↓] bD mj ev LP ve getLT qV B6 HC pL pM AP v7 v8 v9 sk su sv sw sx sy we wj sF sH sI sJ sK Be Bf Bg
attribute [local go_sem] bD mj ev
section
variable(c:ai)(F:Nat)(x0 x1 x2 x3 x4 x5 x6 x7 x8 x9 yR yS:AV)(s:St)
def ES:Sh:=(sq sl (sq (sq sl (sc (sq sl sl) sl)) (sq (sq sl (sb (sp 0 [1,17,18,19] [(1,[4,5,6]),(2,[])] (sq sl (sq (sc sl sl) (sq (sb (sq sl (sq sl (sq (sq sl (sc (sq sl sl) sl)) sl)))) sl)))))) (sq sl sl))))
def Nb:PX 65 ES:=⟨_,by conv=>lhs;reduce⟩
def KF:PL 65 ES 0:=⟨_,by conv=>lhs;reduce⟩
def ob(k1 k2:Q2):Nat->Q2
 |0,_,_=>none
 |n+1,vs,s=>gY c F bM (ob k1 k2 n) [k1,k2] KF.1 vs s
def tQ(k1 k2:Q2)(n:Nat)(vs:List AV)(s:St):=(by dsimp only[ob,KF,go_sem,Int.reduceOfNat]:ob c F k1 k2 (n+1) vs s=_)
def ET:Un->List Q2->Nat->Q2
 |.z,[k1,k2]=>ob c F k1 k2
 |_,_=>λ_=>jr
def J4:O2:=bD c F (ET c F) Nb.1 [x0,x1] s
def Nc:=(by dsimp only[J4,Nb, ↓ET,go_sem,Int.reduceOfNat]:J4 c F x0 x1 s=_)
end
section
variable{c:ai}(hc:Sem c)(F:Nat){x0 x1 x2 x3 x4 x5 x6 x7 x8 x9 yR yS:AV}{s:St}{r:AV×St}
include hc
theorem Iq(h:J4 c F x0 x1 s=some r):c 65 [x0,x1] s=some (tidy s r):=hc.o1 F (ET c F) ES (by kernel_rfl) (by kernel_rfl) (λ_ _ _=>by kernel_rfl) (λ_ _ _ _=>by kernel_rfl) (by kernel_rfl) h
end
end
section
open Go Go.Ai Go.Proofs
variable{c:ai}
def Gf:List aK->Int->Nat->Option (Nat×Int)
 |[],_,_=>none
 |t::ts,s,i=>if s<bH t then some (i,s)else Gf ts (s - bH t) (i+1)
theorem Zb:∀{ts:List aK}{s:Int}{i:Nat}{k:Nat}{x:Int},0<=s->Gf ts s i=some (k,x)->i<=k/\0<=x/\∃t,ts[k - i]? =some t/\x<bH t
 |[],_,_,_,_,_,h=>by cases h
 |t ::ts,s,i,k,x,hs,h=>by
  unfold Gf at h;split at h
  .simp only[H0,Zb9]at h;obtain⟨rfl,rfl⟩:=h;exact⟨Za5 _,hs,t,by simp,by assumption⟩
  .obtain⟨h1,h2,t',h3,h4⟩:=Zb (by omega) h;refine⟨by omega,h2,t',?_,h4⟩;rw[show k - i=(k - (i+1))+1 by omega,Zb7];exact h3
def Ir:Option (Nat×Int)->AV
 |some (i,x)=>.tuple [.int .i64 (i:Int),.int .i64 x,.bool true]
 |none=>.tuple [.int .i64 0,.int .i64 0,.bool false]
theorem Va(o:Option (Nat×Int)):Plain (Ir o):=by
 cases o with
 |none=>exact Plain.tuple λv hv=>by simp at hv;rcases hv with rfl|rfl|rfl<;>first|exact Plain.int _ _|exact Plain.bool _
 |some p=>exact Plain.tuple λv hv=>by simp at hv;rcases hv with rfl|rfl|rfl<;>first|exact Plain.int _ _|exact Plain.bool _
def BT(ts:List aK)(s:Int):Option (Nat×Int):=if s<0\/(bI ts).2≠0 then none else Gf ts s 0
theorem acm(hc:Sem c)(z:Bool)(ts:List aK)(hl:ts.length<=16)(F:Nat)(k1 k2):∀(m k:Nat)(s:Int)(st:St),Wf st->ts.length<=k+m->k<=ts.length->0<=s->s<=4611686018427387904->
  ∃ st',Grew st st'/\ob c F k1 k2 (m+1) [.int .i64 s,tabs z ts,.int .i64 (ts.length:Int),.int .i64 (k:Int)] st=
    (match Gf (ts.drop k) s k with|some (i,x)=>k1 [.int .i64 (i:Int),.int .i64 x,.bool true] st'|none=>k2 [] st'):=by
 intro m;induction m with
 |zero=>
  intro k s st hw h1 h2 h3 h4;obtain rfl:k=ts.length:=by omega
  refine⟨st,Grew.refl hw,?_⟩;rw[tQ];simp[Gf]
 |succ m ih=>
  intro k s st hw h1 h2 h3 h4;by_cases h:k<ts.length
  . have w:au .i64 ((k:Int)+1)=((k+1:Nat):Int):=wrap64 (by omega) (by omega);have dm:Wf (af st (.cells ts[k].cells 0)):=bU hw;have hg:=Grew.af hw (.cells ts[k].cells 0);have hs:=HS hc ts[k] _ dm;have b2:=Er ts[k];have w2:au .i64 (s - bH ts[k])=s - bH ts[k]:=wrap64 (by omega) (by omega);rw[Zc3 h];unfold Gf;by_cases aO:s<bH ts[k]
    .   refine⟨_,hg,?_⟩;rw[tQ];simp[tabs,h,hs,aO,aK.len]
    .   obtain⟨st',g1,g2⟩:=ih (k+1) (s - bH ts[k]) _ dm (by omega) (by omega) (by omega) (by omega);refine⟨st',hg.trans g1,?_⟩;simp only[aO,Zf9];rw[<-g2,tQ];simp[tabs,h,hs,w,w2,aO,aK.len]
  .obtain rfl:k=ts.length:=(by omega);refine⟨st,Grew.refl hw,?_⟩;rw[tQ];simp[Gf]
theorem ago(hc:Sem c)(z:Bool)(ts:List aK)(dP:∀t∈ts,t.Ok)(s:Int)(hs:s<=4611686018427387904)(st:St)(hw:Wf st):
   c 65 [tabs z ts,.int .i64 s] st=some (Ir (BT ts s),st):=by
 have lT:∀(K:AV->St->Option (AV×St))(s:St),aj c (.lenB .l) [tabs z ts] s K=K (.int .i64 (ts.length:Int)) s:=λK s=>by unfold tabs;rw[lF];simp
 have hv:=Jz hc z ts dP st hw;by_cases h:s<0\/(bI ts).2≠0
 . have e:BT ts s=none:=(by rw[BT,Za9 h]);rw[Iq hc 1 (r:=(Ir (BT ts s),st)),aD (Va _) (aT.refl st)];rw[Nc,e];by_cases h1:s<0
   .simp[h1,Ir]
   .have h3:(bI ts).2≠0:=h.resolve_left h1;simp[h1,h3,hv,Ir]
 . have e:BT ts s=Gf ts s 0:=(by rw[BT,Za3 h]);have h1:¬s<0:=λe=>h (.inl e)
   have h3:(bI ts).2=0:=Zm9 λe=>h (.inr e)
   have hl:=MF h3;have hex:=λk1 k2=>acm hc z ts hl 20 k1 k2 19 0 s st hw (by omega) (by omega) (by omega) hs
   obtain⟨st',hg,L⟩:=hex (λvs s40=>iR vs λx4 vs=>iR vs λx5 vs=>iR vs λx6 vs=>om vs (some (.tuple [x4,x5,x6],s40)))
     (λvs s41=>om vs (aj c .move [.int .i64 0] s41 λx4 s42=>aj c .move [.int .i64 0] s42 λx5 s43=>aj c .move [.bool false] s43 λx6 s44=>some (.tuple [x4,x5,x6],s44)))
   rw[Iq hc 20 (r:=(Ir (BT ts s),st')),aD (Va _) hg.keeps];rw[Nc,e]
   have L':ob c 20 (λvs s40=>iR vs λx4 vs=>iR vs λx5 vs=>iR vs λx6 vs=>om vs (some (.tuple [x4,x5,x6],s40)))
     (fun vs s41=>om vs (aj c .move [.int .i64 0] s41 fun x4 s42=>aj c .move [.int .i64 0] s42 fun x5 s43=>aj c .move [.bool false] s43 fun x6 s44=>some (.tuple [x4,x5,x6],s44))) 20
        [.int .i64 s,tabs z ts,.int .i64 (ts.length:Int),.int .i64 0] st=some (Ir (Gf ts s 0),st'):=by
     have:=L;simp only[Zc9]at this;rw[show((0:Nat):Int)=0 from rfl]at this;rw[this];cases Gf ts s 0 with
     |none=>simp[Ir]
     |some p=>simp[Ir]
   simp at L';simp[h1,h3,hv,lT,L']
end
section
set_option linter.unusedSimpArgs false
open Go Go.Ai Go.Proofs
variable{c:ai}
def whZ:List Int->Int->Nat->Option (Nat×Int)
 |[],_,_=>none
 |z::zs,s,i=>if s<z then some (i,s)else whZ zs (s - z) (i+1)
theorem Si:∀(ts:List aK)(s:Int)(i:Nat),Gf ts s i=whZ (ts.map bH) s i
 |[],_,_=>rfl
 |t::ts,s,i=>by
  rw[Gf,Zb8,whZ,Si ts]
theorem agp(o:Option (Nat×Int)):iK (Ir o):=by
 cases o with
 |none=>exact iK.tuple λv hv=>by simp at hv;rcases hv with rfl|rfl|rfl<;>first|exact iK.int _ _|exact iK.bool _
 |some p=>exact iK.tuple λv hv=>by simp at hv;rcases hv with rfl|rfl|rfl<;>first|exact iK.int _ _|exact iK.bool _
section
variable{s0 s sB:St}{Vs:List AV}{p:bX}{P V O:AV}{q r l o:List Int}{N G L:Nat}
theorem acn(hc:bE c)(hx:Ext c)(h:PS s0 s Vs p)(dP:∀t∈p.ts,t.Ok){V1:AV}(e1:Vs[0]? =some V1)(x:Int)(Q0:x<=4611686018427387904):c 65 [V1,.int .i64 x] s=some (Ir (BT p.ts x),s):=by
 obtain⟨V,z,p',e,ez,S⟩:=h.tabs;rw[e1]at e;cases e;refine hx.FE _ _ _ (qU ?_ (agp _));rw[Zb8,Zb8,Zf8,ez,xU];have:=ago (c:=run ym gg) rfl z p'.ts (λt ht=>by obtain⟨u,hu,z,rfl⟩:=S.tab ht;have:=dP u hu;exact⟨this.1,this.2⟩) x Q0 (emptyAt s) (qR s);rw[this];have e:p'.ts.map bH=p.ts.map bH:=Zf3 λi=>by rw[Zb6,Zb6];exact AZ S.tl S.ts bH (λt t' h=>HY h) i
 unfold BT;rw[Si,Si,e,S.wu]
end
set_option linter.unusedSimpArgs false
def Bi(g t:List Nat)(x:Nat):List Nat:=[115,101,97,116,32]++g++[32]++t++[32]++pO x++[10]
def Gg(p:bX)(g:Nat)(x:Int):List Nat:=match BT p.ts x with
 |some (t,y)=>Bi ((p.gs[g]?.map (·.name)).getD []) ((p.ts[t]?.map (·.name)).getD []) y.toNat
 |none=>[]
def fmtQ(p:bX):List Int->Nat->List Nat
 |[],_=>[]
 |x::q,k=>Gg p k x++fmtQ p q (k+1)
structure FB(sA s:St)(bs:List Nat):Prop where
 wf:Wf s
 OX:BAt (sA.next.toNat+1) s sA.next bs
 keep:aT sA s
theorem FB.aF{sA s:St}{bs:List Nat}(h:FB sA s bs):Grew sA s:=⟨h.wf,h.keep,by have:=h.OX.2.1;omega⟩
theorem agq{k:Nat}(hk:k<100):(pO k).length<=2/\∀x∈pO k,x<256:=by
 unfold pO;split
 .exact⟨by simp,λx hx=>by simp at hx;omega⟩
 .exact⟨by simp,λx hx=>by simp at hx;omega⟩
theorem GS.Ki{s0 s:St}{V:AV}{gs:List aL}{rows:List (List AV)}(h:GS s0 s V gs rows){t:Nat}{T:aL}(ht:gs[t]? =some T):∃v b o,Rd s 9 V t b o (T.ax v):=by
 have hl:t<rows.length:=by rw[h.len];exact(Za1.1 ht).1
 obtain⟨v,e,_⟩:=h.tK t T rows[t] ht (H4 hl);obtain⟨b,o,h4⟩:=h.out.own.rd h.out.row (H4 hl);exact⟨v,b,o,by rw[<-e];exact h4⟩
section
variable{s0 s sA:St}{Vs:List AV}{p:bX}{P V1 V2:AV}{q:List Int}{r1 r2:List (List AV)}{pb:Pos}
theorem aeh(hc:bE c)(hx:Ext c)(h:PS s0 sA Vs p)(dP:∀t∈p.ts,t.Ok)(LU:∀t∈p.ts,bH t<=100)(Y4:q.length=p.gs.length)(hq1:q.length<=1000)
  (hng:∀g∈p.gs,g.name.length<=1000/\∀x∈g.name,x<256) (hnt:∀t∈p.ts,t.name.length<=1000/\∀x∈t.name,x<256)
  (hb:sA.heap.get pb=some (.cells Vs 0)) (e1:Vs[0]? =some V1) (e2:Vs[1]? =some V2) (T:TS s0 sA V1 p.ts r1) (T2:GS s0 sA V2 p.gs r2) (pq:QS 1 sA P (q.map dO)) (hqx:∀x∈q,x<=1000000) (F:Nat):
  ∀(m k f:Nat)(s:St)(bs:List Nat),k+m=q.length->m<f->FB sA s bs->bs.length<=3000*k->
  ∃s',FB sA s' (bs++fmtQ p (q.drop k) k)/\(bs++fmtQ p (q.drop k) k).length<=3000*q.length/\∀k2:Q2,qi c F k2 f [.ptr pb 0,.ptr sA.next 0,P,.int .i64 (q.length:Int),.int .i64 (k:Int)] s=k2 [.ptr sA.next 0] s':=by
 intro m;induction m with
 |zero=>
  intro k f s bs hk hf B J8;obtain⟨f,rfl⟩:∃g,f=g+1:=⟨f - 1,by omega⟩
  obtain rfl:k=q.length:=by omega
  have d:decide ((q.length:Int)<(q.length:Int))=false:=Za0 (by omega);refine⟨s,by rw[Zl4];simpa [fmtQ]using B,by rw[Zl4];simpa [fmtQ]using J8,λk2=> ?_⟩;rw[xz];simp only[aA,bf,b9,d,cG]
 |succ m ih=>
  intro k f s bs hk hf B J8;obtain⟨f,rfl⟩:∃g,f=g+1:=⟨f - 1,by omega⟩
  have gQ:k<q.length:=by omega
  have G:=B.aF;obtain⟨ab,ao,pa⟩:=Y0 (pq.aF G) (H4 gQ);have p1:=λ{R}=>@pa.st R
  have p3:=pa.one;have ld:∀(K:AV->St->Option (AV×St)),aj c (.load none) [.ptr ab ao] s K=K (.int .i64 q[k]) s:=λK=>by simp[p3]
  have Ac:=G.get hb;have l0:∀(K:AV->St->Option (AV×St)),aj c (.load none) [.ptr pb (0+0)] s K=K V1 s:=λK=>by simp[Ac,bF,e1]
  have wh:=acn hc hx (h.rI G) dP e1 q[k] (by have:=hqx _ (Zc0 gQ);omega);have d:decide ((k:Int)<(q.length:Int))=true:=H5 (by omega);have wr:Unit->au .i64 ((k:Int)+1)=((k+1:Nat):Int):=λ_=>wrap64 (by omega) (by omega)
  have HU:∀(a b d:AV)(K:AV->St->Option (AV×St))(s:St),aj c (.extract 0) [.tuple [a,b,d]] s K=K a s:=λa b d K s=>aH c K (λH n=>rfl) s
  have MH:∀(a b d:AV)(K:AV->St->Option (AV×St))(s:St),aj c (.extract 1) [.tuple [a,b,d]] s K=K b s:=λa b d K s=>aH c K (λH n=>rfl) s
  have MI:∀(a b d:AV)(K:AV->St->Option (AV×St))(s:St),aj c (.extract 2) [.tuple [a,b,d]] s K=K d s:=λa b d K s=>aH c K (λH n=>rfl) s
  have ef:fmtQ p (q.drop k) k=Gg p k q[k]++fmtQ p (q.drop (k+1)) (k+1):=by rw[Zc3 gQ,fmtQ]
  cases hw:BT p.ts q[k]with
  |none=>
   have es:Gg p k q[k]=[]:=(by unfold Gg;rw[hw]);rw[hw]at wh;obtain⟨s',z1,z2,z3⟩:=ih (k+1) f s bs (by omega) (by omega) B (by omega);rw[ef,es,Zf0];refine⟨s',z1,z2,λk2=> ?_⟩;rw[<-z3 k2,xz];simp only[aA,bf,b9,d,bR,gX,ak,p1,ld,bN,l0,bg,wh,aW,Ir,HU,MH,MI,cG,fG,wr ()]
  |some r=>
   obtain⟨t,y⟩:=r;rw[hw]at wh;have hwn:Gf p.ts q[k] 0=some (t,y):=by
        unfold BT at hw;split at hw
        .cases hw
        .exact hw
   have vh:0<=q[k]:=by
        unfold BT at hw;split at hw
        .cases hw
        .rename_i hn;exact Int.not_lt.1 λe=>hn (.inl e)
   obtain⟨_,y0,tt,ht,ylt⟩:=Zb vh hwn;rw[Zl6]at ht;have htm:=Zb4 ht;have y1:y<100:=(by have:=LU tt htm;omega);obtain⟨y',rfl⟩:∃y':Nat,y=(y':Int):=⟨y.toNat,by omega⟩
   have it:=agi hc (k:=y') (by omega) s;obtain⟨Is,hgg⟩:∃g,p.gs[k]? =some g:=⟨_,H4 (by omega)⟩
   have Kh:=Zb4 hgg;obtain⟨gv,gb,go,pg⟩:=GS.Ki (T2.aF G) hgg;obtain⟨tv,tb,to,pt⟩:=TS.Ki (T.aF G) ht;have g1:=λ{R}=>@pg.pr R
   have t1:=λ{R}=>@pt.pr R
   have es:Gg p k q[k]=Bi Is.name tt.name y':=(by unfold Gg;rw[hw];simp only[hgg,ht,Zf1,Zf5,Zi0]);obtain⟨n1,n2⟩:=hng _ Kh;obtain⟨n3,n4⟩:=hnt _ htm;obtain⟨n5,n6⟩:=agq (k:=y') (by omega);have hll:(Bi Is.name tt.name y').length<=3000:=(by unfold Bi;simp only[Zc1,Zc5,Zg5];omega);obtain⟨s2,W,B2,w2,k2'⟩:=TH hc hx B.wf B.OX (u:=Bi Is.name tt.name y') (by unfold Bi;simp) (λx hx=>by
        unfold Bi at hx;simp only[Zd5,Zb2,Ze9,Zj8]at hx;rcases hx with(((((hx|hx)|hx)|hx)|hx)|hx)|hx
        .omega
        .exact n2 x hx
        .omega
        .exact n4 x hx
        .omega
        .exact n6 x hx
        .omega) (by omega)
   have FB2:FB sA s2 (bs++Bi Is.name tt.name y'):=⟨w2,B2,λb x hbx=>by have aO:=(h.aF.wf) b x hbx;rw[k2' b (λe=>by subst e;omega) (by omega)];exact B.keep b x hbx⟩
   obtain⟨s',z1,z2,z3⟩:=ih (k+1) f s2 (bs++Bi Is.name tt.name y') (by omega) (by omega) FB2 (by rw[Zc1];omega);rw[Zg6]at z1 z2;rw[ef,es];refine⟨s',z1,z2,λk2=> ?_⟩;have sb:∀u:List Nat,fE (.str u) (.str u)=true:=λu=>by simp[fE,lu,gK,j3.2 rfl]
   have l1:∀(K:AV->Option (AV×St)),jB (.load none) [.ptr pb (0+1)] s.heap (λv=>mT (.load none) [.ptr pb (0+1)] v (th [] s.heap)&&true) K=K V2:=λK=>pV K (by rw[Ac];exact e2) (by rw[Ac];exact e2) (Go.Ai.QS.beq T2.out.own)
   have l2:∀(K:AV->Option (AV×St)),jB (.load none) [.ptr pb (0+0)] s.heap (λv=>mT (.load none) [.ptr pb (0+0)] v (th [] s.heap)&&true) K=K V1:=λK=>pV K (by rw[Ac];exact e1) (by rw[Ac];exact e1) (Go.Ai.QS.beq T.out.own)
   have l3:∀(K:AV->Option (AV×St)),jB (.load none) [.ptr gb (go+0)] s.heap (λv=>mT (.load none) [.ptr gb (go+0)] v (th [] s.heap)&&true) K=K (.str Is.name):=λK=>pV K (pg.at' 0 _ rfl) (pg.at' 0 _ rfl) (sb _)
   have l4:∀(K:AV->Option (AV×St)),jB (.load none) [.ptr tb (to+0)] s.heap (λv=>mT (.load none) [.ptr tb (to+0)] v (th [] s.heap)&&true) K=K (.str tt.name):=λK=>pV K (pt.at' 0 _ rfl) (pt.at' 0 _ rfl) (sb _)
   have sa:∀(a b:List Nat),a.length+b.length<=9223372036854775807->∀(K:AV->Option (AV×St)),dK (.bin .add .num) [.str a,.str b] K=K (.str (a++b)):=λa b R5 K=>by
        have:av.run (λ_=>none) .h (.bin .add .num) [.str a,.str b]=some (.val (.str (a++b))):=(by simp only[av.run,fQ,jX,cI,H5 R5]);unfold dK;rw[this]
   have a0:=sa ([115,101,97,116,32]) (Is.name) (by simp only[Zc1,Zc5,Zg5];omega);have a1:=sa ([115,101,97,116,32]++Is.name) ([32]) (by simp only[Zc1,Zc5,Zg5];omega);have a2:=sa ([115,101,97,116,32]++Is.name++[32]) (tt.name) (by simp only[Zc1,Zc5,Zg5];omega);have a3:=sa ([115,101,97,116,32]++Is.name++[32]++tt.name) ([32]) (by simp only[Zc1,Zc5,Zg5];omega);have a4:=sa ([115,101,97,116,32]++Is.name++[32]++tt.name++[32]) (pO y') (by simp only[Zc1,Zc5,Zg5];omega);have a5:=sa ([115,101,97,116,32]++Is.name++[32]++tt.name++[32]++pO y') ([10]) (by simp only[Zc1,Zc5,Zg5];omega);have W':c 66 [.ptr sA.next 0,.str ([115,101,97,116,32]++Is.name++[32]++tt.name++[32]++pO y'++[10])] s=_:=W;rw[<-z3 k2,xz];simp only[aA,bf,b9,d,bR,gX,ak,p1,ld,bN,l0,bg,wh,aW,Ir,HU,MH,MI,cJ,it,aV,l1,g1,l3,a0,a1,a2,a3,a4,a5,l2,t1,l4,W',fG,wr ()]
theorem aei{N:Nat}(hc:bE c)(hx:Ext c)(h:PS s0 s Vs p)(ok:O3 p N)(LU:∀t∈p.ts,bH t<=100)
  (hng:∀g∈p.gs,g.name.length<=1000/\∀x∈g.name,x<256) (hnt:∀t∈p.ts,t.name.length<=1000/\∀x∈t.name,x<256)
  (pq:QS 1 s P (q.map dO)) (hq:Y3 N p.gs.length q):c 31 [.agg Vs,P] s=some (.str (fmtQ p q 0),s):=by
 have hw:=h.aF.wf;have gN:=Grew.af hw (.cells Vs 0);have h1:=h.rI gN;have hcut:cut Vs 0 5=some Vs:=bY h.cells.1;have EI:=ok.Al.gs;have hN:=ok.le;have vd:=ad9 hc h1 ok (pq.aF gN) hq;obtain⟨V1,V2,r1,r2,e1,e2,T,T2,e5⟩:=h1.rT;have n1:(af s (.cells Vs 0)).next.toNat=s.next.toNat+1:=by rw[dM,Pos.aB]
 have B0:FB (af s (.cells Vs 0)) (af (af s (.cells Vs 0)) (.typed 115 [.fP,.ah])) []:=⟨bU gN.wf,⟨by omega,by rw[dM (af s (.cells Vs 0)),Pos.aB];omega,(λx hx=>by cases hx),.fP,.ah,aE _ _,.inl rfl,.inl ⟨rfl,rfl⟩⟩,cN gN.wf⟩
 obtain⟨s',B',bl,L⟩:=aeh (F:=q.length+1) hc hx h1 ok.Al.ok LU hq.len (by rw[hq.len];omega) hng hnt (aE s (.cells Vs 0)) e1 e2 T T2 (pq.aF gN) (λx hx=>by have:=(hq.rng x hx).2;omega) q.length 0 (q.length+1) _ [] (by omega) (by omega) B0 (Zi5 _);simp only[Zf0,Zc9,show((0:Nat):Int)=0 from rfl]at B' bl L;obtain⟨iy,bS,kS⟩:=acj hc hx B'.OX (by rw[hq.len]at bl;omega);have ln:=λ(K:AV->St->Option (AV×St))(s1:St)=>pq.lenB (c:=c) K s1
 rw[Zb3]at ln;have kp:aT s iy:=λb x hb=>by
  have aO:=hw b x hb;rw[kS b (by omega)];exact B'.keep b x (gN.get hb)
 rw[Sf hc (q.length+1) (r:=(.str (fmtQ p q 0),iy)),aD (Plain.str _) kp];rw[VG];simp[show ∀l,AV.cells (.agg l)=l from λl=>rfl,aE,bF,hcut,vd,abo,ln];rw[L];simp[bS]
end
set_option linter.unusedSimpArgs false
open Go Go.Ai Go.Proofs Go.Ai.Ro
theorem Qf(k:Nat):bt k≠[]/\32∉bt k/\10∉bt k/\(bt k).length<=1000/\∀x∈bt k,x<256:=by unfold bt;refine⟨by simp,by simp;omega,by simp;omega,by simp,λx hx=> ?_⟩;simp at hx;omega
theorem Qg(k:Nat):dx k≠[]/\32∉dx k/\10∉dx k/\(dx k).length<=1000/\∀x∈dx k,x<256:=by unfold dx;refine⟨by simp,by simp;omega,by simp;omega,by simp,λx hx=> ?_⟩;simp at hx;omega
section
variable{xt xg xy xr:List Nat}
theorem aaM:Names ((cK xt xg xy xr).gs.map (·.name)) where
 ne w hw:=by
  obtain⟨g,hg,rfl⟩:=Ze3.1 hw;obtain⟨i,hi⟩:=Zc7.1 hg;obtain⟨_,rfl⟩:=yf hi;have:=Qf (uF i);exact⟨this.1,this.2.1,this.2.2.1⟩
 ap a b x ha hb:=by
  rw[Zb6]at ha hb;obtain⟨u,hu,eu⟩:=Zd0.1 ha;obtain⟨v,hv,ev⟩:=Zd0.1 hb;rcases Zo2 a b with h|h|h
  .exact absurd (eu.trans ev.symm) (zT a b u v h hu hv)
  .exact h
  .exact absurd (ev.trans eu.symm) (zT b a v u h hv hu)
theorem aaN:Names ((cK xt xg xy xr).ts.map (·.name)) where
 ne w hw:=by
  obtain⟨g,hg,rfl⟩:=Ze3.1 hw;obtain⟨i,hi⟩:=Zc7.1 hg;obtain⟨_,rfl⟩:=oG hi;have:=Qg i;exact⟨this.1,this.2.1,this.2.2.1⟩
 ap a b x ha hb:=by
  rw[Zb6]at ha hb;obtain⟨u,hu,eu⟩:=Zd0.1 ha;obtain⟨v,hv,ev⟩:=Zd0.1 hb;rcases Zo2 a b with h|h|h
  .exact absurd (eu.trans ev.symm) (zS a b u v h hu hv)
  .exact h
  .exact absurd (ev.trans eu.symm) (zS b a v u h hv hu)
theorem ahT:∀g∈(cK xt xg xy xr).gs,g.name.length<=1000/\∀x∈g.name,x<256:=λg hg=>by obtain⟨i,hi⟩:=Zc7.1 hg;obtain⟨_,rfl⟩:=yf hi;exact(Qf (uF i)).2.2.2
theorem ahU:∀t∈(cK xt xg xy xr).ts,t.name.length<=1000/\∀x∈t.name,x<256:=λt ht=>by obtain⟨i,hi⟩:=Zc7.1 ht;obtain⟨_,rfl⟩:=oG hi;exact(Qg i).2.2.2
theorem ahV(hx:∀x∈xt,x<256):∀t∈(cK xt xg xy xr).ts,bH t<=100:=λt ht=>by obtain⟨i,hi⟩:=Zc7.1 ht;obtain⟨h1,rfl⟩:=oG hi;have aO:=Ih hx (by omega) i;have e:bH (iQ i (xt.getD i 0))=((tN (xt.getD i 0):Nat):Int):=YY _ aO;have:=NI (xt.getD i 0);omega
end
section
variable{p:bX}{q:List Int}
theorem aaO:∀(zs:List Int)(s:Int)(i:Nat),whZ zs s i=FE zs s i
 |[],_,_=>rfl
 |z::zs,s,i=>by rw[whZ,FE,aaO zs]
theorem agr(hv:(bI p.ts).2=0)(g:Nat)(x:Int):Gg p g x=if 0<=x/\(FE (p.ts.map bH) x 0).isSome then tE (p.gs.map (·.name)) (p.ts.map (·.name)) (p.ts.map bH) g x++[10]else []:=by
 unfold Gg tE;by_cases h0:0<=x
 . have e:BT p.ts x=FE (p.ts.map bH) x 0:=by
    unfold BT;rw[Za3 (by rw[hv];omega),Si,aaO]
   rw[e];cases FE (p.ts.map bH) x 0 with
   |none=>simp
   |some r=>
    obtain⟨t,y⟩:=r;simp only[h0,Zp6,and_self,Zh0];rw[Za7,Za7,Zb6,Zb6];simp[Bi,LS,pO]
 .have e:BT p.ts x=none:=(by unfold BT;rw[Za9 (.inl (by omega))]);rw[e];simp[h0]
theorem Vb(hv:(bI p.ts).2=0)(hq:∀x∈q,x<(p.ts.map bH).sum):∀(m k:Nat),k+m=q.length->
  fmtQ p (q.drop k) k=((((List.range' k m).filter λi=>decide (0<=q.getD i (-1))).map λg=>tE (p.gs.map (·.name)) (p.ts.map (·.name)) (p.ts.map bH) g (q.getD g (-1))).map λw=>w++[10]).flatten
 |0,k,h=>by
  obtain rfl:k=q.length:=by omega
  rw[Zl4];rfl
 |m +1,k,h=>by
  have gQ:k<q.length:=by omega
  have e:q.getD k (-1)=q[k]:=by rw[Za7,H4 gQ];rfl
  rw[Zc3 gQ,fmtQ,Vb hv hq m (k+1) (by omega),Zl2,List.filter_cons,agr hv];by_cases h0:0<=q[k]
  .obtain⟨t,y,hw⟩:=SP (i:=0) h0 (hq _ (Zc0 gQ));rw[Za9 ⟨h0,by rw[hw];rfl⟩,e,Za9 (H5 h0),Zb8,Zb8,Ze8,e]
  .rw[Za3 (λh=>h0 h.1),e,Za3 (by simpa using h0),Zf0]
end
set_option linter.unusedSimpArgs false
section
variable{s0 s sB:St}{Vs:List AV}{p:bX}{V1:AV}
end
set_option linter.unusedSimpArgs false
theorem aiC{x:Int}(h1:0<=x)(h2:x<=255):au .u8 x=x:=by
 rw[qJ];exact Int.emod_eq_of_lt h1 (by show x<256;omega)
def J5(x:Nat):Bool:=decide (48<=x)&&decide (x<=57)
def Zc(n:Nat)(l:List Nat):Nat:=l.foldl (λn x=>10*n+(x - 48)) n
theorem aej{w:List Nat}(hw:w.length<=9)(jy:∀x∈w,x<256)(F:Nat)(s:St):∀(m i n f:Nat),i+m=w.length->m<f->n<10 ^ i->
  ∀k1 k2:Q2,mY c F k1 k2 f [.str w,.int .i64 (n:Int),.int .i64 (i:Int)] s=if(w.drop i).all J5=true then k2 [.int .i64 ((Zc n (w.drop i):Nat):Int)] s else k1 [.int .i64 0,.bool false] s:=by
 intro m;induction m with
 |zero=>
  intro i n f hi hf hn k1 k2;obtain⟨f,rfl⟩:∃g,f=g+1:=⟨f - 1,by omega⟩
  obtain rfl:i=w.length:=by omega
  have d:decide ((w.length:Int)<(w.length:Int))=false:=Za0 (by omega);rw[rJ,Zl4];simp only[aA,bf,ak,jd,b9,d,cG,List.all_nil,Zh0,Zc,List.foldl_nil]
 |succ m ih=>
  intro i n f hi hf hn k1 k2;obtain⟨f,rfl⟩:∃g,f=g+1:=⟨f - 1,by omega⟩
  have iT:i<w.length:=by omega
  have d:decide ((i:Int)<(w.length:Int))=true:=H5 (by omega);obtain⟨x,hx⟩:∃x,w[i]? =some x:=⟨_,H4 iT⟩
  have hxe:w[i]=x:=(Za1.1 hx).2;have Qz:=jy x (Zb4 hx);have ix:∀(K:AV->St->Option (AV×St)),aj c .idxS [.str w,.int .i64 (i:Int)] s K=K (.int .u8 (x:Int)) s:=λK=>by simp[hx]
  have hd:w.drop i=x::w.drop (i+1):=by rw[Zc3 iT,hxe]
  rw[hd,Zm1];have ten:10 ^ i<=10 ^ 8:=Nat.pow_le_pow_right (by omega) (by omega);have ten':(10:Nat) ^ 8=100000000:=by decide
  by_cases c1:48<=x
  . by_cases c2:x<=57
    .   have e:J5 x=true:=(by unfold J5;rw[H5 c1,H5 c2];rfl);have d1:decide ((x:Int)<48)=false:=Za0 (by omega);have d2:decide ((57:Int)<(x:Int))=false:=Za0 (by omega);have w1:Unit->au .i64 (10*(n:Int))=((10*n:Nat):Int):=λ_=>by rw[wrap64 (by omega) (by omega)];omega
        have w2:Unit->au .u8 ((x:Int) - 48)=((x - 48:Nat):Int):=λ_=>by
         have:((x:Int) - 48)=((x - 48:Nat):Int):=(by omega);rw[this];exact aiC (by omega) (by omega)
        have w3:Unit->au .i64 ((x - 48:Nat):Int)=((x - 48:Nat):Int):=λ_=>wrap64 (by omega) (by omega)
        have w4:Unit->au .i64 (((10*n:Nat):Int)+((x - 48:Nat):Int))=((10*n+(x - 48):Nat):Int):=λ_=>by rw[wrap64 (by omega) (by omega)];omega
        have w5:Unit->au .i64 ((i:Int)+1)=((i+1:Nat):Int):=λ_=>wrap64 (by omega) (by omega)
        have:=ih (i+1) (10*n+(x - 48)) f (by omega) (by omega) (by rw[Nat.pow_succ];omega) k1 k2;rw[e,Zg0,show Zc n (x::w.drop (i+1))=Zc (10*n+(x - 48)) (w.drop (i+1))from rfl, <-this,rJ];simp only[aA,bf,ak,jd,b9,d,bR,ix,d1,dJ,pU,d2,dF,cG,aal,w1 (),SC,w2 (),w6,w3 (),fG,w4 (),w5 ()]
    .   have e:J5 x=false:=(by unfold J5;rw[Za0 c2,Bool.and_false]);have d1:decide ((x:Int)<48)=false:=Za0 (by omega);have d2:decide ((57:Int)<(x:Int))=true:=H5 (by omega);rw[e,Zn9,rJ];simp only[aA,bf,ak,jd,b9,d,bR,ix,d1,dJ,pU,d2,dF,Ze5,Zf9]
  .have e:J5 x=false:=(by unfold J5;rw[Za0 c1,Zn9]);have d1:decide ((x:Int)<48)=true:=H5 (by omega);rw[e,Zn9,rJ];simp only[aA,bf,ak,jd,b9,d,bR,ix,d1,Bw,j6,Ze5,Zf9]
def A8(w:List Nat):AV:=match num w with
 |some k=>.tuple [.int .i64 (k:Int),.bool true]
 |none=>.tuple [.int .i64 0,.bool false]
theorem aiD{w:List Nat}{k:Nat}(h:num w=some k):k<1000000000:=by
 unfold num at h;split at h
 .cases h
 . rename_i hc;split at h
   . (rename_i hd;(injection h with h);have hl:w.length<=9:=Nat.le_of_not_lt λe=>hc (.inr (.inl e)));have key:∀(l:List Nat)(n i:Nat),l.all (λc=>decide (48<=c)&&decide (c<=57))=true->n<10 ^ i->l.foldl (λn c=>10*n+(c - 48)) n<10 ^ (i+l.length):=by
        intro l;induction l with
        |nil=>intro n i _ h;exact h
        |cons x l ih=>
         intro n i ha h;rw[Zm1,Zb0]at ha;have h1:=ha.1;simp only[Zb0,Ze2]at h1;have:=ih (10*n+(x - 48)) (i+1) ha.2 (by rw[Nat.pow_succ];omega);rw[Zp3,Zc5];rw[show i+(l.length+1)=i+1+l.length by omega];exact this
     have:=key w 0 0 hd (by decide);rw[h,Zd1]at this;exact Zd3 this (Zd4 (Nat.pow_le_pow_right (by omega) hl) (by decide))
   .cases h
theorem aco(hc:bE c){w:List Nat}(jy:∀x∈w,x<256)(s:St):c 125 [.str w] s=some (A8 w,s):=by
 have pl:Plain (A8 w):=by
   unfold A8;split<;>exact Plain.tuple (by simp[Plain.int,Plain.bool])
 rw[Sd hc (w.length+1) (r:=(A8 w,s)),aD pl (aT.refl s)];rw[VF];by_cases h0:w.length=0
 .have e:A8 w= .tuple [.int .i64 0,.bool false]:=(by unfold A8 num;rw[Za9 (.inl h0)]);have d1:decide ((w.length:Int)=0)=true:=H5 (by omega);rw[e];simp only[ak,jd,cM,d1,Bw,j6,LC,bR]
 have d1:decide ((w.length:Int)=0)=false:=Za0 (by omega);by_cases h1:9<w.length
 .have e:A8 w= .tuple [.int .i64 0,.bool false]:=(by unfold A8 num;rw[Za9 (.inr (.inl h1))]);have d2:decide ((9:Int)<(w.length:Int))=true:=H5 (by omega);rw[e];simp only[ak,jd,cM,d1,dJ,pU,d2,dF,Bw,j6,LC,bR]
 have d2:decide ((9:Int)<(w.length:Int))=false:=Za0 (by omega);obtain⟨x,l,rfl⟩:∃x l,w=x::l:=by
   cases w with
   |nil=>simp at h0
   |cons x l=>exact⟨x,l,rfl⟩
 have ix:∀(K:AV->St->Option (AV×St)),aj c .idxS [.str (x::l),.int .i64 0] s K=K (.int .u8 (x:Int)) s:=λK=>by simp
 have fin:¬(1<(x::l).length/\(x::l)[0]? =some 48)->∀k1 k2:Q2,(∀v,k1 [.int .i64 0,.bool false] v=some (.tuple [.int .i64 0,.bool false],v))->(∀n v,k2 [.int .i64 n] v=some (.tuple [.int .i64 n,.bool true],v))->mY c ((x::l).length+1) k1 k2 ((x::l).length+1) [.str (x::l),.int .i64 0,.int .i64 0] s=some (A8 (x::l),s):=λhn k1 k2 q1 q2=>by
   have L:=aej (c:=c) (w:=x::l) (by omega) jy ((x::l).length+1) s (x::l).length 0 0 ((x::l).length+1) (by omega) (by omega) (by decide) k1 k2;have e:num (x::l)=if(x::l).all J5=true then some (Zc 0 (x::l))else none:=by unfold num;rw[Za3 (by rintro(h|h|h);exact h0 h;exact h1 h;exact hn h)];rfl
   simp only[Zc9,show((0:Nat):Int)=0 from rfl]at L;rw[L];unfold A8;rw[e];by_cases ha:(x::l).all J5=true
   .rw[Za9 ha,Za9 ha,q2]
   .rw[Za3 ha,Za3 ha,q1]
 by_cases h2:1<(x::l).length
 . have d3:decide ((1:Int)<((x::l).length:Int))=true:=H5 (by omega);by_cases h3:x=48
   .subst h3;have e:A8 (48::l)= .tuple [.int .i64 0,.bool false]:=(by unfold A8 num;rw[Za9 (.inr (.inr ⟨h2,rfl⟩))]);rw[e];simp only[ak,jd,cM,d1,dJ,pU,d2,dF,d3,ix,show decide (((48:Nat):Int)=48)=true from rfl,j6,bR]
   .have d4:decide ((x:Int)=48)=false:=Za0 (by omega);simp only[ak,jd,cM,d1,dJ,pU,d2,dF,d3,ix,d4,j6,cG];exact fin (λh=>h3 (by simpa using h.2)) _ _ (λv=>rfl) (λn v=>by simp)
 .have d3:decide ((1:Int)<((x::l).length:Int))=false:=Za0 (by omega);simp only[ak,jd,cM,d1,dJ,pU,d2,dF,d3,ah7,cG];exact fin (λh=>h2 h.1) _ _ (λv=>rfl) (λn v=>by simp)
section
variable{s0 s sA:St}{Vs:List AV}{p:bX}{V1 V2:AV}{r2:List (List AV)}
theorem aek(T2:GS s0 s V2 p.gs r2){u:AV}{w:List Nat}(TX:∀(i:Nat)(g:aL)(v:AV),p.gs[i]? =some g->c 127 [.agg (g.ax v),u] s=some (.bool (decide (g.name=w)),s))(EI:p.gs.length<=1000)(F:Nat):
  ∀ (m k f:Nat),k+m=p.gs.length->m<f->∀k1 k2:Q2,bO c F k1 k2 f [V2,.func 127 [] [u],.int .i64 (p.gs.length:Int),.int .i64 (k:Int)] s=
    match kJ ((p.gs.map (·.name)).drop k) w with
    |some j=>k1 [.int .i64 ((k+j:Nat):Int)] s
    |none=>k2 [] s:=by
 intro m;induction m with
 |zero=>
  intro k f hk hf k1 k2;obtain⟨f,rfl⟩:∃g,f=g+1:=⟨f - 1,by omega⟩
  obtain rfl:k=p.gs.length:=by omega
  have d:decide ((p.gs.length:Int)<(p.gs.length:Int))=false:=Za0 (by omega);have e:(p.gs.map (·.name)).drop p.gs.length=[]:=Zl7 (by simp);rw[e,cQ];simp only[aA,bf,b9,d,cG];rfl
 |succ m ih=>
  intro k f hk hf k1 k2;obtain⟨f,rfl⟩:∃g,f=g+1:=⟨f - 1,by omega⟩
  have gQ:k<p.gs.length:=by omega
  have WZ:k<(p.gs.map (·.name)).length:=by simpa using gQ
  obtain⟨g,hg⟩:∃g,p.gs[k]? =some g:=⟨_,H4 gQ⟩
  obtain⟨v,b,o,rg⟩:=GS.Ki T2 hg;have p1:=λ{R}=>@rg.st R
  have p2:∀(K:AV->St->Option (AV×St)),aj c (.load (some 9)) [.ptr b o] s K=K (.agg (g.ax v)) s:=λK=>by simp[rg.all]
  have d:decide ((k:Int)<(p.gs.length:Int))=true:=H5 (by omega);have cl:=TX k g v hg;have wr:Unit->au .i64 ((k:Int)+1)=((k+1:Nat):Int):=λ_=>wrap64 (by omega) (by omega)
  have cv:∀(K:AV->St->Option (AV×St)),aj c .callV [.func 127 [] [u],.agg (g.ax v)] s K=K (.bool (decide (g.name=w))) s:=λK=>by rw[FA];show LB (c 127 [.agg (g.ax v),u] s) K=_;rw[cl];rfl
  have ge:(p.gs.map (·.name))[k]=g.name:=by rw[Zk5];exact congrArg _ (Za1.1 hg).2
  rw[Zc3 WZ,ge];unfold kJ;rw[List.findIdx?_cons];by_cases h:g.name=w
  .have dh:decide (g.name=w)=true:=H5 h;rw[dh]at cv ⊢;rw[cQ];simp only[aA,bf,b9,d,bR,ak,p1,p2,cv,Zh0,Zg7]
  . have dh:decide (g.name=w)=false:=Za0 h;rw[dh]at cv ⊢;have:=ih (k+1) f (by omega) (by omega) k1 k2;unfold kJ at this;rw[cQ];simp only[aA,bf,b9,d,bR,ak,p1,p2,cv,cG,fG,wr (),this,Ze5,Zf9];cases List.findIdx? (λx=>decide (x=w)) ((p.gs.map (·.name)).drop (k+1))with
    |none=>rfl
    |some j=>simp only[Zf1];congr 4;omega
theorem ael(hc:bE c)(T2:GS s0 s V2 p.gs r2){u:AV}{w:List Nat}(TX:∀(i:Nat)(g:aL)(v:AV),p.gs[i]? =some g->c 127 [.agg (g.ax v),u] s=some (.bool (decide (g.name=w)),s))(EI:p.gs.length<=1000):
  c 126 [V2,.func 127 [] [u]] s=some (.int .i64 (match kJ (p.gs.map (·.name)) w with
    |some j=>(j:Int)
    |none=> -1),s):=by
 have ln:=λ(K:AV->St->Option (AV×St))(s1:St)=>T2.out.own.lenB (c:=c) K s1
 rw[T2.len]at ln;have L:=aek T2 TX EI (p.gs.length+1) p.gs.length 0 (p.gs.length+1) (by omega) (by omega);simp only[Zc9,show((0:Nat):Int)=0 from rfl,Zd1]at L;rw[qk hc (p.gs.length+1) (r:=(.int .i64 (match kJ (p.gs.map (·.name)) w with
    |some j=>(j:Int)
    |none=> -1),s)),aD (Plain.int _ _) (aT.refl s)]
 rw[kV];simp only[ak,ln];rw[L];cases kJ (p.gs.map (·.name)) w with
 |none=>simp
 |some j=>simp
def Sj(p:bX)(w:List Nat):AV:=match kJ (p.ts.map (·.name)) w with
 |some j=>.tuple [.int .i64 (j:Int),.bool true]
 |none=>.tuple [.int .i64 0,.bool false]
theorem Zd{ts:List aK}{w:List Nat}:∀(m k:Nat),k+m=ts.length->scan (nN ts w) m k=match kJ ((ts.map (·.name)).drop k) w with
  |some j=>((k+j:Nat):Int)
  |none=> -1
 |0,k,h=>by have e:(ts.map (·.name)).drop k=[]:=Zl7 (by simp;omega);rw[e];rfl
 |m +   1,k,h=>by
  have gQ:k<ts.length:=by omega
  have WZ:k<(ts.map (·.name)).length:=by simpa using gQ
  have ih:=Zd (ts:=ts) (w:=w) m (k+1) (by omega);have en:nN ts w k=decide ((ts.map (·.name))[k]=w):=by unfold nN;rw[H4 gQ,Zk5];simp
  rw[Zc3 WZ,scan,en,ih];unfold kJ;rw[List.findIdx?_cons];by_cases hc:(ts.map (·.name))[k]=w
  .rw[H5 hc,Za9 rfl,Za9 rfl];rfl
  . rw[Za0 hc,Za3 (by simp),Za3 (by simp)];cases List.findIdx? (λx=>decide (x=w)) ((ts.map (·.name)).drop (k+1))with
    |none=>rfl
    |   some j=>
        show((k+1+j:Nat):Int)=((k+(j+1):Nat):Int)
        congr 1;omega
theorem ags(hc:bE c)(h:PS s0 s Vs p)(dP:∀t∈p.ts,t.Ok)(dH:p.ts.length<=100)(hv:(bI p.ts).2=0)(e1:Vs[0]? =some V1)(w:List Nat):c 128 [V1,.str w] s=some (Sj p w,s):=by
 obtain⟨V,z,p',e,ez,S⟩:=h.tabs;rw[e1]at e;cases e;have pl:iK (Sj p w):=by
  unfold Sj;split<;>exact iK.tuple (by intro v hv;simp at hv;rcases hv with rfl|rfl;exact iK.int _ _;exact iK.bool _)
 refine aaE hc _ _ _ (qU ?_ pl);rw[Zb8,Zb8,Zf8,ez,AX];have en:p'.ts.map (·.name)=p.ts.map (·.name):=Zf3 λi=>by rw[Zb6,Zb6];exact AZ S.tl S.ts (λt:aK=>t.name) (λt t' h=>by obtain⟨z,rfl⟩:=h;rfl) i
 have:=aax (c:=run ym gg) rfl z p'.ts (λt ht=>by obtain⟨u,hu,z,rfl⟩:=S.tab ht;have:=dP u hu;exact⟨this.1,this.2⟩) (by rw[S.tl];unfold pG;omega) w (emptyAt s) (qR s);rw[this,Zd (ts:=p'.ts) p'.ts.length 0 (by omega),en,S.wu];unfold Sj;rw[Zc9];cases kJ (p.ts.map (·.name)) w with
 |none=>simp
 |some j=>simp[hv]
end
set_option linter.unusedSimpArgs false
def sC(f:Nat->Bool):Nat->Nat
 |0=>0
 |a+1=>sC f a+(f a).toNat
abbrev tkn(q:List Int)(i:Nat):Bool:=q.contains (i:Int)
section
variable{s0 s sB:St}{Vs:List AV}{p:bX}{P:AV}{q:List Int}{N:Nat}
theorem aem(hc:bE c)(hw:Wf s){t:aK}{v:AV}(hM:Mk 1 s0 s v (t.ou.map dO))(dP:t.Ok)(hk:nE t=0):c 64 [.agg (t.ax v)] s=some (.int .i64 (bH t),s):=by
 have gN:=Grew.af hw (.cells (t.ax v) 0);have k1:=abQ hc (hM.grow gN) dP;have k2:=adN hc (hM.grow gN);rw[hk]at k1;have hcut:cut (t.ax v) 0 7=some (t.ax v):=bY rfl;rw[Tu hc 1 (r:=(.int .i64 (bH t),af s (.cells (t.ax v) 0))),aD (Plain.int _ _) gN.keeps];rw[YH];simp[show ∀l,AV.cells (.agg l)=l from λl=>rfl,aE,bF,hcut,k1,k2]
end
end
end Go.Proofs.YtgjikjcfjddloaaGreatDoor
section
end
namespace Go.Proofs.YtgjikjcfjddloaaGreatDoor
section
set_option linter.unusedSimpArgs false
open Go Go.Ai Go.Proofs
variable{c:ai}
theorem agt{xt:List Nat}(hx:∀x∈xt,x<256):∀t∈gI xt,nE t=0:=λt ht=>by
 obtain⟨i,hi⟩:=Zc7.1 ht;obtain⟨h1,rfl⟩:=oG hi;exact adZ i h1 _ (Ih hx (by omega) i)
section
variable{s0 s sB:St}{Vs:List AV}{p:bX}{P:AV}{q:List Int}{N:Nat}
theorem agu(pq:QS 1 s P (q.map dO))(hl:q.length<=1000000)(x:Int)(F:Nat)(k2:Q2):∀(m k f n:Nat),k+m=q.length->m<f->n<=k->
  jH c F k2 f [.int .i64 x,.int .i64 (n:Int),P,.int .i64 (q.length:Int),.int .i64 (k:Int)] s=k2 [.int .i64 ((n+(q.drop k).count x:Nat):Int)] s:=by
 intro m;induction m with
 |zero=>
  intro k f n hk hf hn;obtain⟨f,rfl⟩:∃g,f=g+1:=⟨f - 1,by omega⟩
  obtain rfl:k=q.length:=by omega
  rw[nR];simp
 |succ m ih=>
  intro k f n hk hf hn;obtain⟨f,rfl⟩:∃g,f=g+1:=⟨f - 1,by omega⟩
  have gQ:k<q.length:=by omega
  obtain⟨pb,po,p⟩:=Y0 pq (H4 gQ);have p1:=λ{R}=>@p.st R
  have p3:=p.one;have wr:au .i64 ((k:Int)+1)=((k+1:Nat):Int):=wrap64 (by omega) (by omega);have wn:au .i64 ((n:Int)+1)=((n+1:Nat):Int):=wrap64 (by omega) (by omega);rw[Zc3 gQ,Zr2];by_cases e:q[k]=x
  .have e2:(q[k]==x)=true:=(by simpa using e);have d2:decide (q[k]=x)=true:=H5 e;rw[e2,Za9 rfl,show n+((q.drop (k+1)).count x+1)=n+1+(q.drop (k+1)).count x by omega, <-ih (k+1) f (n+1) (by omega) (by omega) (by omega),nR];simp[gQ,p1,p3,d2,wr,wn,gX]
  .have e2:(q[k]==x)=false:=(by simpa using e);have d2:decide (q[k]=x)=false:=Za0 e;rw[e2,Za3 (by simp),Zg7 (List.count x _), <-ih (k+1) f n (by omega) (by omega) (by omega),nR];simp[gQ,p1,p3,d2,wr,gX]
theorem agv(hc:bE c)(pq:QS 1 s P (q.map dO))(hl:q.length<=1000000)(x:Int):c 36 [P,.int .i64 x] s=some (.int .i64 ((q.count x:Nat):Int),s):=by
 have ln:=λ(K:AV->St->Option (AV×St))=>pq.lenB (c:=c) K s
 rw[Zb3]at ln;have hi:=λk2=>agu (c:=c) pq hl x (q.length+1) k2 q.length 0 (q.length+1) 0 (by omega) (by omega) (by omega)
 simp only[Zc9,show((0:Nat):Int)=0 from rfl,Zd1]at hi;rw[GQ hc (q.length+1) (r:=(.int .i64 ((q.count x:Nat):Int),s)),aD (Plain.int _ _) (aT.refl s)];rw[JI];simp[ln];rw[hi];simp
end
end
noncomputable section
open Go Go.Ai Go.Proofs
attribute [local go_sem ↓] bD mj ev LP ve getLT qV B6 HC pL pM AP v7 v8 v9 sk su sv sw sx sy we wj sF sH sI sJ sK Be Bf Bg
attribute [local go_sem] bD mj ev
section
variable(c:ai)(F:Nat)(x0 x1 x2 x3 x4 x5 x6 x7 x8 x9 yR yS:AV)(s:St)
end
section
variable{c:ai}(hc:bE c)(F:Nat){x0 x1 x2 x3 x4 x5 x6 x7 x8 x9 yR yS:AV}{s:St}{r:AV×St}
include hc
end
end
section
set_option linter.unusedSimpArgs false
open Go Go.Ai Go.Proofs Go.Ai.Mvs
variable{c:ai}
def fn(q:List Int)(i:Nat):Int:=q.getD i (-1)
theorem aiE{q:List Int}{i:Nat}(h:i<q.length):q[i]? =some (fn q i):=by unfold fn;rw[Za7,H4 h];rfl
def acp(q b:List Int):Nat->Nat->Int->Int×Option Int
 |0,_,w=>(w,none)
 |m+1,k,w=>if fn q k=fn b k then acp q b m (k+1) w else if fn b k<0\/q.contains (fn b k)=false then((k:Int),some (fn b k))else acp q b m (k+1) (if w<0 then(k:Int)else w)
section
variable{s0 s sB:St}{A B L:AV}{q b:List Int}{N:Nat}
theorem rdF{v:AV}(h:QS 1 s v (q.map dO)){i:Nat}(hi:i<q.length):∃b o,Rd s 1 v i b o [.int .i64 (fn q i)]:=Y0 h (aiE hi)
abbrev rowV(m:Nat×Int×Int):List AV:=[.int .i64 (m.1:Int),.int .i64 m.2.1,.int .i64 m.2.2]
structure Two(s0 s:St)(B L:AV)(q:List Int)(l:Ms):Prop where
 m1:Mk 1 s0 s B (q.map dO)
 m2:Mk 3 s0 s L (l.map rowV)
 sep:∀b,br B=some b->br L≠some b
def bP(q b:List Int):Int×Int:=let r:=acp q b q.length 0 (-1);(r.1,r.2.getD (-1))
end
set_option linter.unusedSimpArgs false
open Go Go.Ai Go.Proofs Go.Ai.Ro Go.Ai.Mvs
section
variable{s0 s sA:St}{Vs:List AV}{p:bX}{P V1 V2:AV}{q:List Int}
theorem ahW(hc:bE c){tb wb:Pos}{n:Nat}{xs:List AV}{x:List Nat}(hw:Wf s)(h1:s.heap.get tb=some (.cells [.slice wb 0 (n+2) (some (n+2)) 1] 0))(h2:s.heap.get wb=some (.cells xs 0))(h3:xs[1]? =some (.str x))(g:aL)(v:AV):
  c 127 [.agg (g.ax v),.ptr tb 0] s=some (.bool (decide (g.name=x)),s):=by
 have gN:=Grew.af hw (.cells (g.ax v) 0);have k1:=gN.get h1;have k2:=gN.get h2;rw[TF hc 1 (r:=(.bool (decide (g.name=x)),af s (.cells (g.ax v) 0))),aD (Plain.bool _) gN.keeps];rw[Y8];have e1:∀(K:AV->Option (AV×St)),dK (.idxA 1 none) [.slice wb 0 (n+2) (some (n+2)) 1,.int .i64 1] K=K (.ptr wb 1):=λK=>b7 K (λH m=>by
  have:tV (.int .i64 1)=some 1:=rfl;simp only[av.run,mS,this];have hb:Nat.blt 1 (n+2)=true:=by rw[Zo7];omega
  rw[hb])
 have e2:∀(K:AV->Option (AV×St)),jB (.load none) [.ptr s.next (0+0)] (af s (.cells (g.ax v) 0)).heap (λ_=>true) K=K (.str g.name):=λK=>by rw[iJ,aE];rfl
 have e3:∀(K:AV->Option (AV×St)),jB (.load none) [.ptr wb 1] (af s (.cells (g.ax v) 0)).heap (λ_=>true) K=K (.str x):=λK=>by rw[iJ,k2];show nr (xs[1]?) K=_;rw[h3];rfl
 have e4:∀(K:AV->Option (AV×St)),jB (.load none) [.ptr tb 0] (af s (.cells (g.ax v) 0)).heap (λ_=>true) K=K (.slice wb 0 (n+2) (some (n+2)) 1):=λK=>by rw[iJ,k1];rfl
 simp only[ff,show ∀l,AV.cells (.agg l)=l from λl=>rfl,ak,aV,e2,e4,e1,e3,ae8,cJ]
theorem acq{st st':St}{b:Pos}{o:Nat}{x y:AV}(h:((cellsOf (st.heap.get b)).bind λcs=>cs[o]?)=some x)(h':((cellsOf (st'.heap.get b)).bind λcs=>cs[o]?)=some y)(cL:x≠y):¬aT st st':=λk=>by
 cases e:st.heap.get b with
 |none=>rw[e]at h;cases h
 |some z=>
  rw[e]at h;rw[k b z e,h]at h';exact cL (Zg4 h')
structure Mr(s0 s:St)(v:AV)(q:List Int):Prop where
 rS:Wf s0
 aF:Grew s0 s
 own:QS 1 s v (q.map dO)
 new:∀b,br v=some b->s0.next.toNat<=b.toNat
 tight:∀b,br v=some b->s.heap.get b=some (.cells (q.map dO).flatten 0)
theorem Mr.grow{s':St}{v:AV}(h:Mr s0 s v q)(g:Grew s s'):Mr s0 s' v q:=⟨h.rS,h.aF.trans g,h.own.aF g,h.new,λb hb=>g.get (h.tight b hb)⟩
theorem Mr.Wi{v:AV}(h:Mr s0 s v q){i:Nat}(hi:i<q.length)(x:Int):
   ∃b o s',Rd s 1 v i b o [.int .i64 (fn q i)]/\(∀(K:AV->St->Option (AV×St)),aj c (.store 1) [.ptr b o,.int .i64 x] s K=K .undef s')/\Mr s0 s' v (q.set i x):=by
 have iT:i<(q.map dO).length:=by simpa using hi
 have BV:∀r∈q.map dO,r.length=1:=λr hr=>by obtain⟨y,_,rfl⟩:=Ze3.1 hr;rfl
 obtain⟨b,o,cs,a1,a2,a3,a4,a5,_,a7,a8⟩:=QS.set (c:=c) (R:=AV×St) h.own BV (by omega) iT;obtain⟨b',o',p⟩:=rdF h.own hi;have e:=a1 (λv s=>some (v,s)) .i64 s;rw[p.st c (λv s=>some (v,s)) .i64 s]at e;simp only[H0,Zb9,AV.ptr.injEq,Zm5]at e;obtain⟨rfl,rfl⟩:=e;have Ph:=h.new b' a3;have aO:=h.aF.wf b' _ a4;have aen:=h.tight b' a3;have gy:cs=(q.map dO).flatten:=by rw[a4]at aen;injection aen with e;injection e
 have es:(q.map dO).set i ((q.map dO)[i].set 0 (.int .i64 x))=(q.set i x).map dO:=by rw[List.map_set,Zk5];rfl
 refine⟨b',o',cj s b' (.cells (aJ cs (o'+0) [.int .i64 x]) 0),p,λK=> ?_,⟨h.rS,A4 h.rS h.aF Ph aO _,?_,h.new,λb2 CA=> ?_⟩⟩
 .have e0:(AV.int IntKind.i64 x).cells=[.int .i64 x]:=rfl;have:=eV c K s 1 b' (o'+0) (.int .i64 x) cs a4 (by rw[e0];rfl) (by omega) (by rw[e0];rfl);rw[e0]at this;simpa using this
 .rw[<-es];exact a7 0 _ _ (by decide) (dB _ _ _)
 .have:b2=b':=(by rw[a3]at CA;exact(Zg4 CA).symm);subst this;rw[dB,a8 0 _ (by decide) gy,es]
theorem Nd(ts:List aK):aY ts=(ts.map bH).sum:=rfl
theorem aiF {N:Nat}(hc:bE c)(h:PS s0 sA Vs p)(ok:O3 p N)(hk:∀t∈p.ts,nE t=0)(EI:p.gs.length<=1000)(M:Mr sA s P q)(Y4:q.length=p.gs.length)(hqr:∀x∈q,-1<=x){w:List Nat}(jy:∀x∈w,x<256)(Vc:w.length<=1000000):
   ∃s',c 79 [.agg Vs,P,.str w] s=some (.int .i64 (sN (p.gs.map (·.name)) (p.ts.map (·.name)) (p.ts.map bH) q w).1,s')/\Mr sA s' P (sN (p.gs.map (·.name)) (p.ts.map (·.name)) (p.ts.map bH) q w).2:=by
 have G0:=M.aF;have hwf:=G0.wf;have gA:=Grew.af hwf (.cells Vs 0);obtain⟨W,hW⟩:∃W,W=AV.slice (af s (.cells Vs 0)).next 0 (cZ 32 [] w).length (some (cZ 32 [] w).length) 1:=⟨_,rfl⟩
 have sp:=agm hc (b:=32) (by omega) jy Vc (af s (.cells Vs 0));rw[<-hW]at sp;have gB:=gA.trans (Grew.af gA.wf (.cells (strs (cZ 32 [] w)) 0));have gC:=gB.trans (Grew.af gB.wf (.cells [W] 0));have hp0:=(Grew.af gB.wf (.cells [W] 0)).get ((Grew.af gA.wf (.cells (strs (cZ 32 [] w)) 0)).get (aE s (.cells Vs 0)));have vh:=(Grew.af gB.wf (.cells [W] 0)).get (aE (af s (.cells Vs 0)) (.cells (strs (cZ 32 [] w)) 0));have XD:=aE (af (af s (.cells Vs 0)) (.cells (strs (cZ 32 [] w)) 0)) (.cells [W] 0);obtain⟨s3,e3⟩:∃s3,s3=af (af (af s (.cells Vs 0)) (.cells (strs (cZ 32 [] w)) 0)) (.cells [W] 0):=⟨_,rfl⟩
 rw[<-e3]at gC hp0 vh XD;obtain⟨tb,etb⟩:∃tb,tb=(af (af s (.cells Vs 0)) (.cells (strs (cZ 32 [] w)) 0)).next:=⟨_,rfl⟩
 obtain⟨wb,ewb⟩:∃wb,wb=(af s (.cells Vs 0)).next:=⟨_,rfl⟩
 have rY:∀(K:AV->St->Option (AV×St)),aj c (.store 1) [.ptr tb 0,W] (af (af (af s (.cells Vs 0)) (.cells (strs (cZ 32 [] w)) 0)) (.cells [.ah] 0)) K=K .undef s3:=λK=>by rw[etb,eG c K _ 1 W [.ah] (by rw[hW];rfl) rfl (by rw[hW];rfl),e3];congr 2;rw[hW];rfl
 rw[<-etb]at XD;rw[<-ewb]at vh hW;have hgr:Grew sA s3:=G0.trans gC;have h3:=h.rI hgr;have M3:=M.grow gC;obtain⟨V1,V2,r1,r2,q1,q2,T,T2,q5⟩:=h3.rT;have Nf:∀(K:AV->St->Option (AV×St))(s:St),aj c (.lenB .l) [W] s K=K (.int .i64 ((cZ 32 [] w).length:Int)) s:=λK s=>by rw[hW];exact lJ c K s _ _ _ _ _
 have Ng:∀(K:AV->St->Option (AV×St)),aj c (.load none) [.ptr tb 0] s3 K=K W s3:=λK=>by simp[XD,bF]
 have Aj:∀(K:AV->St->Option (AV×St)),aj c (.alloc [.ah]) [] (af (af s (.cells Vs 0)) (.cells (strs (cZ 32 [] w)) 0)) K=K (.ptr tb 0) (af (af (af s (.cells Vs 0)) (.cells (strs (cZ 32 [] w)) 0)) (.cells [.ah] 0)):=λK=>by rw[jD,etb]
 have bad:∀e:Int,sN (p.gs.map (·.name)) (p.ts.map (·.name)) (p.ts.map bH) q w=(e,q)->JY c 1 (.agg Vs) P (.str w) s=some (.int .i64 e,s3)->
     ∃s',c 79 [.agg Vs,P,.str w] s=some (.int .i64 (sN (p.gs.map (·.name)) (p.ts.map (·.name)) (p.ts.map bH) q w).1,s')/\Mr sA s' P (sN (p.gs.map (·.name)) (p.ts.map (·.name)) (p.ts.map bH) q w).2:=λe he hr=>by
   refine⟨s,?_,by rw[he];exact M⟩;rw[M8 hc 1 (r:=(.int .i64 e,s3)) hr,aD (Plain.int _ _) gC.keeps,he]
 by_cases hl4:(cZ 32 [] w).length=4;rotate_left
 . refine bad 3 ?_ ?_
   . unfold sN;split
     .  rename_i a g t n e;rw[e]at hl4;exact absurd rfl hl4
     .  rfl
   .have d1:decide (((cZ 32 [] w).length:Int)=4)=false:=Za0 (by omega);rw[kz];simp only[ff,show ∀l,AV.cells (.agg l)=l from λl=>rfl,ak,bg,sp,aW,Aj,rY,Ng,Nf,ji,d1,Zh6,Bw,j6,LC,bR]
 obtain⟨a,g,t,n,hs⟩:∃a g t n,cZ 32 [] w=[a,g,t,n]:=by
   match h:cZ 32 [] w,hl4 with
   |[a,g,t,n],_=>exact⟨a,g,t,n,rfl⟩
 rw[hs]at vh;have hW4:W= .slice wb 0 4 (some 4) 1:=by rw[hW,hs];rfl
 have i0:∀(K:AV->St->Option (AV×St))(s:St),aj c (.idxA 1 none) [W,.int .i64 0] s K=K (.ptr wb 0) s:=λK s=>by rw[hW4];exact aH c K (λH n=>rfl) s
 have i1:∀(K:AV->St->Option (AV×St))(s:St),aj c (.idxA 1 none) [W,.int .i64 1] s K=K (.ptr wb 1) s:=λK s=>by rw[hW4];exact aH c K (λH n=>rfl) s
 have i2:∀(K:AV->St->Option (AV×St))(s:St),aj c (.idxA 1 none) [W,.int .i64 2] s K=K (.ptr wb 2) s:=λK s=>by rw[hW4];exact aH c K (λH n=>rfl) s
 have i3:∀(K:AV->St->Option (AV×St))(s:St),aj c (.idxA 1 none) [W,.int .i64 3] s K=K (.ptr wb 3) s:=λK s=>by rw[hW4];exact aH c K (λH n=>rfl) s
 have i2p:∀(K:AV->Option (AV×St)),dK (.idxA 1 none) [W,.int .i64 2] K=K (.ptr wb 2):=λK=>by rw[hW4];exact b7 K (λH n=>rfl)
 have l0:∀(K:AV->St->Option (AV×St)),aj c (.load none) [.ptr wb 0] s3 K=K (.str a) s3:=λK=>by rw[dG,vh];rfl
 have l1:∀(K:AV->St->Option (AV×St)),aj c (.load none) [.ptr wb 1] s3 K=K (.str g) s3:=λK=>by rw[dG,vh];rfl
 have l2:∀(K:AV->St->Option (AV×St)),aj c (.load none) [.ptr wb 2] s3 K=K (.str t) s3:=λK=>by rw[dG,vh];rfl
 have l3:∀(K:AV->St->Option (AV×St)),aj c (.load none) [.ptr wb 3] s3 K=K (.str n) s3:=λK=>by rw[dG,vh];rfl
 have l2p:∀(K:AV->Option (AV×St)),jB (.load none) [.ptr wb 2] s3.heap (λ_=>true) K=K (.str t):=λK=>by rw[iJ,vh];rfl
 have Ze:∀(K:AV->Option (AV×St)),jB (.load none) [.ptr tb 0] s3.heap (λ_=>true) K=K W:=λK=>by rw[iJ,XD];rfl
 have f1:∀(K:AV->St->Option (AV×St)),aj c (.load none) [.ptr s.next (0+1)] s3 K=K V2 s3:=λK=>by rw[dG,hp0];show nr (Vs[1]?) _=_;rw[q2];rfl
 have f0:∀(K:AV->St->Option (AV×St)),aj c (.load none) [.ptr s.next (0+0)] s3 K=K V1 s3:=λK=>by rw[dG,hp0];show nr (Vs[0]?) _=_;rw[q1];rfl
 have f0p:∀(K:AV->Option (AV×St)),jB (.load none) [.ptr s.next (0+0)] s3.heap (λ_=>true) K=K V1:=λK=>by rw[iJ,hp0];show nr (Vs[0]?) _=_;rw[q1];rfl
 have BZ  : ∀u∈[a,g,t,n],∀x∈u,x<256:=by
   have key:∀(l acc:List Nat),(∀x∈l,x<256)->(∀x∈acc,x<256)->∀u∈cZ 32 acc l,∀x∈u,x<256:=by
     intro l;induction l with
     |nil=>intro acc _ ha u hu;simp[cZ]at hu;subst hu;exact ha
     |  cons y l ih=>
        intro acc hl ha u hu;rw[cZ]at hu;split at hu
        . rcases Zb2.1 hu with rfl|hu
          .exact ha
          .exact ih [] (λx hx=>hl x (Za4 _ hx)) (λx hx=>by cases hx) u hu
        . exact ih (acc++[y]) (λx hx=>hl x (Za4 _ hx)) (λx hx=>by
            rcases Zd5.1 hx with h|h
            .exact ha x h
            .rw[Zd7.1 h];exact hl y (by simp)) u hu
   rw[<-hs];exact key w [] jy (λx hx=>by cases hx)
 have nm:=aco hc (w:=n) (BZ n (by simp)) s3;have ig:=ael hc T2 (u:= .ptr tb 0) (w:=g) (λi x v _=>ahW hc (n:=2) h3.aF.wf (by rw[XD,hW4]) vh (x:=g) rfl x v) EI;have fd:=ags hc h3 ok.Al.ok (ok.Al.ts) ok.tabs q1 t;have d4:decide (((cZ 32 [] w).length:Int)=4)=true:=H5 (by omega);have ep:sN (p.gs.map (·.name)) (p.ts.map (·.name)) (p.ts.map bH) q w=if a≠[115,101,97,116]\/g=[]\/t=[]then((3:Int),q)else match num n with
   |none=>(3,q)
   | some k=>match kJ (p.gs.map (·.name)) g with
     |none=>(6,q)
     |  some i=>match kJ (p.ts.map (·.name)) t with
        |none=>(6,q)
        |some j=>if(p.ts.map bH).getD j 0<=(k:Int)then(50,q)else if 0<=q.getD i (-1)then(5,q)else if((p.ts.map bH).take j).sum+k∈q then(51,q)else(0,q.set i (((p.ts.map bH).take j).sum+k)):=by
   unfold sN;rw[hs];rfl
 by_cases ha:a=[115,101,97,116]
 rotate_left
 .refine bad 3 (by rw[ep,Za9 (.inl ha)]) ?_;have da:decide (a=[115,101,97,116])=false:=Za0 ha;rw[kz];simp only[ff,show ∀l,AV.cells (.agg l)=l from λl=>rfl,ak,bg,sp,aW,Aj,rY,Ng,Nf,ji,d4,Ze1,dJ,i0,l0,iF,da,Zh6,dF,Bw,j6,LC,bR]
 have da:decide (a=[115,101,97,116])=true:=H5 ha;by_cases Rr:g=[]
 .refine bad 3 (by rw[ep,Za9 (.inr (.inl Rr))]) ?_;have dg:decide (g=[])=true:=H5 Rr;rw[kz];simp only[ff,show ∀l,AV.cells (.agg l)=l from λl=>rfl,ak,bg,sp,aW,Aj,rY,Ng,Nf,ji,d4,Ze1,dJ,i0,l0,iF,da,dF,i1,l1,mz,dg,Bw,j6,LC,bR]
 have dg:decide (g=[])=false:=Za0 Rr;by_cases acr:t=[]
 .refine bad 3 (by rw[ep,Za9 (.inr (.inr acr))]) ?_;have dt:decide (t=[])=true:=H5 acr;rw[kz];simp only[ff,show ∀l,AV.cells (.agg l)=l from λl=>rfl,ak,bg,sp,aW,Aj,rY,Ng,Nf,ji,d4,Ze1,dJ,i0,l0,iF,da,dF,i1,l1,mz,dg,i2,l2,dt,bR]
 have dt:decide (t=[])=false:=Za0 acr;rw[Za3 (by rintro(h|h|h);exact h ha;exact Rr h;exact acr h)]at ep;unfold A8 at nm;cases agw:num n with
 | none=>
   rw[agw]at ep nm;refine bad 3 ep ?_;rw[kz];simp only[ff,show ∀l,AV.cells (.agg l)=l from λl=>rfl,ak,bg,sp,aW,Aj,rY,Ng,Nf,ji,d4,Ze1,dJ,i0,l0,iF,da,dF,i1,l1,mz,dg,i2,l2,dt,cG,i3,l3,nm,eX,Za8,Zb7,ew,mV,Zh6,bR]
 |some k=>
 rw[agw]at ep nm;have hk9:=aiD agw;cases hig:kJ (p.gs.map (·.name)) g with
 | none=>
   rw[hig]at ep ig;refine bad 6 ep ?_;rw[kz];simp only[ff,show ∀l,AV.cells (.agg l)=l from λl=>rfl,ak,bg,sp,aW,Aj,rY,Ng,Nf,ji,d4,Ze1,dJ,i0,l0,iF,da,dF,i1,l1,mz,dg,i2,l2,dt,cG,i3,l3,nm,eX,Za8,Zb7,ew,mV,Ze1,bN,f1,si,ig,b9,show decide ((-1:Int)<0)=true from rfl,bR]
 |some i=>
 rw[hig]at ep ig;have iT:i<p.gs.length:=by unfold kJ at hig;rw[Zk7]at hig;obtain⟨h1,_⟩:=hig;simpa using h1
 have di:decide ((i:Int)<0)=false:=Za0 (by omega);unfold Sj at fd;cases hjg:kJ (p.ts.map (·.name)) t with
 | none=>
   rw[hjg]at ep fd;refine bad 6 ep ?_;rw[kz];simp only[ff,show ∀l,AV.cells (.agg l)=l from λl=>rfl,ak,bg,sp,aW,Aj,rY,Ng,Nf,ji,d4,Ze1,dJ,i0,l0,iF,da,dF,i1,l1,mz,dg,i2,l2,dt,cG,i3,l3,nm,eX,Za8,Zb7,ew,mV,bN,f1,si,ig,b9,di,aV,f0p,Ze,i2p,l2p,fd,cJ,vY,Zh6,bR]
 |some j=>
 rw[hjg]at ep fd;have Oe:j<p.ts.length:=by unfold kJ at hjg;rw[Zk7]at hjg;obtain⟨h1,_⟩:=hjg;simpa using h1
 obtain⟨tt,cV⟩:∃tt,p.ts[j]? =some tt:=⟨_,H4 Oe⟩
 have AI:=Zb4 cV;have hjr:j<r1.length:=by rw[T.len];exact Oe
 obtain⟨v,ev,hM,_⟩:=T.tK j tt _ cV (H4 hjr);obtain⟨ub,uo,ru⟩:=T.out.own.rd T.out.row (H4 hjr);rw[ev]at ru;have u1:=λ{R}=>@ru.st R
 have u2:∀(K:AV->St->Option (AV×St)),aj c (.load (some 7)) [.ptr ub uo] s3 K=K (.agg (tt.ax v)) s3:=λK=>by simp[ru.all]
 have se:=aem hc h3.aF.wf hM (ok.Al.ok _ AI) (hk _ AI);have fs:=adM hc h3 ok.Al.ok ok.tabs q1 Oe;have esz:(p.ts.map bH).getD j 0=bH tt:=by rw[Za7,Zb6,cV];rfl
 have est:((p.ts.map bH).take j).sum=aY (p.ts.take j):=by rw[<-Zk3];rfl
 dsimp only at ep;rw[esz,est]at ep;have hs0:0<=aY (p.ts.take j):=(oR _).1;have OJ:aY (p.ts.take j)<=100000:=by
   have h1:=ok.sum;have h2:=ok.le;have h3:aY p.ts=aY (p.ts.take j)+aY (p.ts.drop j):=by
     rw[Nd,Nd,Nd, <-List.sum_append, <-Ze4,Zj6]
   have h4:=(oR (p.ts.drop j)).1;omega
 have wk:Unit->au .i64 (aY (p.ts.take j)+(k:Int))=aY (p.ts.take j)+(k:Int):=λ_=>wrap64 (by omega) (by omega)
 by_cases e9:bH tt<=(k:Int)
 .rw[Za9 e9]at ep;have dz:decide (bH tt<=(k:Int))=true:=H5 e9;refine bad 50 ep ?_;rw[kz];simp only[ff,show ∀l,AV.cells (.agg l)=l from λl=>rfl,ak,bg,sp,aW,Aj,rY,Ng,Nf,ji,d4,Ze1,dJ,i0,l0,iF,da,dF,i1,l1,mz,dg,i2,l2,dt,cG,i3,l3,nm,eX,Za8,Zb7,ew,mV,bN,f1,si,ig,b9,di,aV,f0p,Ze,i2p,l2p,fd,cJ,vY,Ze1,f0,fs,fG,wk (),u1,u2,se,Dt,dz,bR]
 rw[Za3 e9]at ep;have dz:decide (bH tt<=(k:Int))=false:=Za0 e9;obtain⟨bb,bo,s4,r4,w4,M4⟩:=Mr.Wi (c:=c) M3 (i:=i) (by omega) (aY (p.ts.take j)+(k:Int));have y1:=λ{R}=>@r4.st R
 have y2:∀(K:AV->St->Option (AV×St)),aj c (.load none) [.ptr bb bo] s3 K=K (.int .i64 (fn q i)) s3:=λK=>by have:=r4.at' 0 _ rfl;rw[Zg7]at this;rw[dG,this];rfl
 by_cases htw:0<=q.getD i (-1)
 .rw[Za9 htw]at ep;have dw:decide (0<=fn q i)=true:=H5 htw;refine bad 5 ep ?_;rw[kz];simp only[ff,show ∀l,AV.cells (.agg l)=l from λl=>rfl,ak,bg,sp,aW,Aj,rY,Ng,Nf,ji,d4,Ze1,dJ,i0,l0,iF,da,dF,i1,l1,mz,dg,i2,l2,dt,cG,i3,l3,nm,eX,Za8,Zb7,ew,mV,bN,f1,si,ig,b9,di,aV,f0p,Ze,i2p,l2p,fd,cJ,vY,Ze1,f0,fs,fG,wk (),u1,u2,se,Dt,dz,y1,y2,dw,bR]
 rw[Za3 htw]at ep;have dw:decide (0<=fn q i)=false:=Za0 htw;have cn:=VE hc M3.own (by omega) (aY (p.ts.take j)+(k:Int));by_cases Bp:aY (p.ts.take j)+(k:Int)∈q
 .rw[Za9 Bp]at ep;have dk:q.contains (aY (p.ts.take j)+(k:Int))=true:=(by rw[List.contains_iff_mem];exact Bp);rw[dk]at cn;refine bad 51 ep ?_;rw[kz];simp only[ff,show ∀l,AV.cells (.agg l)=l from λl=>rfl,ak,bg,sp,aW,Aj,rY,Ng,Nf,ji,d4,Ze1,dJ,i0,l0,iF,da,dF,i1,l1,mz,dg,i2,l2,dt,cG,i3,l3,nm,eX,Za8,Zb7,ew,mV,bN,f1,si,ig,b9,di,aV,f0p,Ze,i2p,l2p,fd,cJ,vY,Ze1,f0,fs,fG,wk (),u1,u2,se,Dt,dz,y1,y2,dw,cn,bR]
 rw[Za3 Bp]at ep;have dk:q.contains (aY (p.ts.take j)+(k:Int))=false:=by rw[<-Bool.not_eq_true,List.contains_iff_mem];exact Bp
 rw[dk]at cn;rw[ep];have hnk:¬aT s s4:=by
   obtain⟨b5,o5,r5⟩:=rdF M.own (i:=i) (by omega);obtain⟨b6,o6,r6⟩:=rdF M4.own (i:=i) (by rw[List.length_set];omega);have e5:∀(K:AV->St->Option (AV×St)),K (.ptr b5 o5) s=K (.ptr bb bo) s:=λK=>by rw[<-r5.st c K .i64 s, <-r4.st c K .i64 s]
   have e6:∀(K:AV->St->Option (AV×St)),K (.ptr b6 o6) s=K (.ptr bb bo) s:=λK=>by rw[<-r6.st c K .i64 s, <-r4.st c K .i64 s]
   have e5':=e5 λv s=>some (v,s)
   have e6':=e6 λv s=>some (v,s)
   simp only[H0,Zb9,AV.ptr.injEq,Zm5]at e5' e6';obtain⟨rfl,rfl⟩:=e5';obtain⟨rfl,rfl⟩:=e6';refine acq (r5.at' 0 _ rfl) (r6.at' 0 _ rfl) ?_;have ZS:fn (q.set i (aY (p.ts.take j)+(k:Int))) i=aY (p.ts.take j)+(k:Int):=(by unfold fn;rw[Za7,Zn8 (by omega)];rfl);rw[ZS];intro e;(injection e with _ e);unfold fn at e;omega
 refine⟨s4,?_,M4⟩;rw[M8 hc 1 (r:=(.int .i64 0,s4)),J3 hnk];rw[kz];simp only[ff,show ∀l,AV.cells (.agg l)=l from λl=>rfl,ak,bg,sp,aW,Aj,rY,Ng,Nf,ji,d4,Ze1,dJ,i0,l0,iF,da,dF,i1,l1,mz,dg,i2,l2,dt,cG,i3,l3,nm,eX,Za8,Zb7,ew,mV,bN,f1,si,ig,b9,di,aV,f0p,Ze,i2p,l2p,fd,cJ,vY,Ze1,f0,fs,fG,wk (),u1,u2,se,Dt,dz,y1,y2,dw,cn,w4]
end
end
section
open Go Go.Ai Go.Proofs
variable{c:ai}
end
section
open Go Go.Ai Go.Proofs
section
variable{c:ai}
variable{s0 s:St}{Vs:List AV}{p:bX}
end
end
noncomputable section
open Go Go.Ai Go.Proofs
attribute [local go_sem ↓] bD mj ev LP ve getLT qV B6 HC pL pM AP v7 v8 v9 sk su sv sw sx sy we wj sF sH sI sJ sK Be Bf Bg
attribute [local go_sem] bD mj ev
section
variable(c:ai)(F:Nat)(x0 x1 x2 x3 x4 x5 x6 x7 x8 x9 yR yS:AV)(s:St)
end
section
variable{c:ai}(hc:bE c)(F:Nat){x0 x1 x2 x3 x4 x5 x6 x7 x8 x9 yR yS:AV}{s:St}{r:AV×St}
include hc
end
end
end Go.Proofs.YtgjikjcfjddloaaGreatDoor
