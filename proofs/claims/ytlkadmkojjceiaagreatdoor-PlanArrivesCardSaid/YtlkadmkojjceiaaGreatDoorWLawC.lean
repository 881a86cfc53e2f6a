/- Functions of the program, plainly, and what they answer. -/
import Derived.Test.YtlkadmkojjceiaaGreatDoorWLawB
import Derived.Test.YtlkadmkojjceiaaGreatDoorRows
import Derived.Deep.DeepHandedRow
set_option linter.all false
set_option maxRecDepth 100000
set_option maxHeartbeats 4000000
namespace Go.Proofs.YtlkadmkojjceiaaGreatDoor
section
open Go Go.Ai Go.Proofs
theorem zO{P:Nat->Bool}:∀(m k i:Nat),k<=i->i<k+m->P i=true->0<=scan P m k
 |0,_,_,_,_,_=>by omega
 |m +   1,k,i,h1,h2,hp=>by
  unfold scan;split
  .omega
  . rename_i hk;exact zO m (k+1) i (by
        rcases Zh8 k i with h|h
        .omega
        .obtain rfl:i=k:=(by omega);exact absurd hp hk) (by omega) hp
theorem U7{ts:List aU}(h1:∀t∈ts,tK t=0)(h2:∀(i j:Nat)(a b:aU),i<j->ts[i]? =some a->ts[j]? =some b->a.name≠b.name):∀m k,(fZ ts m k).2=0
 |0,_=>rfl
 |m+    1,k=>by
  unfold fZ;cases e:ts[k]? with
  |none=>rfl
  |some t=>
   have ht:tK t=0:=h1 t (Zb6 e);simp only;rw[Za3 (by simp[ht]),Za3]
   .    exact U7 h1 h2 m (k+1)
   .    intro hs;obtain⟨_,aN,hp⟩:=yK k 0 hs;generalize (scan (ow ts t.name) k 0).toNat=i at*
        unfold ow at hp;obtain⟨a,ha,hb⟩:=Zd4.1 (Zg5 hp);exact h2 i k a t (by omega) ha e hb
theorem U8{gs:List aK}(h1:∀g∈gs,eI g=0)(h2:∀(i j:Nat)(a b:aK),i<j->gs[i]? =some a->gs[j]? =some b->a.name≠b.name)(hl:gs.length<=64):∀m k,(gb gs m k).2=0
 |0,_=>rfl
 |m+    1,k=>by
  unfold gb;cases e:gs[k]? with
  |none=>rfl
  |some t=>
   have ht:eI t=0:=h1 t (Zb6 e);have hk:k<gs.length:=(Za0.1 e).1;simp only;rw[Za3 (by simp[ht]),Za3,Za3 (by omega)]
   .    exact U8 h1 h2 hl m (k+1)
   .    intro hs;obtain⟨_,aN,hp⟩:=yK k 0 hs;generalize (scan (fq gs t.name) k 0).toNat=i at*
        unfold fq at hp;obtain⟨a,ha,hb⟩:=Zd4.1 (Zg5 hp);exact h2 i k a t (by omega) ha e hb
theorem U9{gs:List aK}{ts:List Ty}(h:∀(k:Nat)(t:Ty),ts[k]? =some t->Kw t (jC ts k)=false/\iV gs t=false/\m7 t (jC ts k)=false/\k<256):∀m k,(ej gs ts m k).2=0
 |0,_=>rfl
 |m+1,k=>by
  unfold ej;cases e:ts[k]? with
  |none=>rfl
  |some t=>
   obtain⟨a,b,d,f⟩:=h k t e;simp only;rw[Za3 (by simp[a]),Za3 (by simp[b]),Za3 (by simp[d]),Za3 (by omega)];exact U9 h m (k+1)
theorem Qd{l:List Nat}{n:Nat}(h:∀x∈l,x<n)(h0:0<n)(i:Nat):l.getD i 0<n:=by
 rw[Zb5];cases e:l[i]? with
 |none=>simpa using h0
 |some x=>simpa using h x (Zb6 e)
theorem nj{α:Type}{f:Nat->α}{k i:Nat}{t:α}(h:((List.range k).map f)[i]? =some t):i<k/\t=f i:=by
 have hi:i<k:=by simpa using(Za0.1 h).1
 rw[Zb8,Zl4 hi,Ze7,H0]at h;exact⟨hi,h.symm⟩
theorem aeI:∀i<3,∀x<256,tK (ic i x)=0:=by decide+kernel
theorem aaJ:∀x<256,dR (ic 0 x)=((tN x:Nat):Int):=by decide+kernel
theorem Rr{xt:List Nat}(hx:∀x∈xt,x<256):(bJ (gh xt)).2=0:=by
 unfold bJ;rw[Za3 (by unfold gh;rw[GY];omega)];refine U7 (λt ht=> ?_) (λi j a b TY ha hb e=> ?_) _ _
 .obtain⟨i,hi⟩:=Zd9.1 ht;obtain⟨h1,rfl⟩:=nj hi;exact aeI i (by omega) _ (Qd hx (by omega) i)
 .obtain⟨h1,rfl⟩:=nj ha;obtain⟨h2,rfl⟩:=nj hb;have e:dS i=dS j:=e;unfold dS at e;simp only[Zf8,Zk4,true_and]at e;omega
theorem YG(p:Prop)[Decidable p](i:Nat):kB (if p then br i else [])=true:=by
 split
 .unfold kB;rw[Qb];simp
 .rfl
theorem aeJ:∀a b d e:Bool,(wY none (((if a=true then [0]else [])++(if b=true then [1]else [])++(if d=true then [2]else [])++(if e=true then [3]else [])).map br)=true/\(((if a=true then [0]else [])++(if b=true then [1]else [])++(if d=true then [2]else [])++(if e=true then [3]else [])).map br:List (List Nat)).length<=4):=by decide+kernel
theorem afA(x:Nat):wY none (yl x 4)=true/\(yl x 4).length<=4:=by
 have e:yl x 4=(((if Cu x 0=true then [0]else [])++(if Cu x 1=true then [1]else [])++(if Cu x 2=true then [2]else [])++(if Cu x 3=true then [3]else [])).map br):=by
  unfold yl;rw[show List.range 4=[0,1,2,3]from rfl];cases h0:Cu x 0<;>cases h1:Cu x 1<;>cases h2:Cu x 2<;>cases h3:Cu x 3<;>simp[h0,h1,h2,h3]
 rw[e];exact aeJ _ _ _ _
theorem aeK(i x:Nat):eI (tR i x)=0:=by
 have t:=afA x;have n:eJ (tR i x).name=true:=Qb _;have a:kB (tR i x).tL=true:=YG (x % 2=1) _;have b:kB (tR i x).nW=true:=YG (4<x % 8) _;have d:kB (tR i x).lq=true:=YG (x % 3=2) _;unfold eI;rw[Za3 (by rw[n,a,b,d];simp),Za3 (by show ¬ ¬(0<=((x % 4*500:Nat):Int)/\((x % 4*500:Nat):Int)<=9999);omega),
  Za3 (by show ¬ ¬(0<=((x % 3:Nat):Int)/\((x % 3:Nat):Int)<=2);omega),Za3 (by show ¬4<(yl x 4).length;omega),Za3 (by show ¬wY none (yl x 4)=false;rw[t.1];simp)]
theorem G4{a b:Nat}(ha:a<676)(hb:b<676)(h:br a=br b):a=b:=by unfold br at h;simp only[Zf8,Zk4]at h;omega
theorem zP{a b:Nat}(ha:a<676)(hb:b<676):az (br a) (br b)=decide (a<b):=by
 unfold br;simp only[az,AX,eH];by_cases h1:97+a / 26 % 26<97+b / 26 % 26
 .rw[H5 h1,H5 (show a<b by omega)]
 . rw[  Za1 h1];by_cases h2:97+a / 26 % 26=97+b / 26 % 26
   . rw[H5 h2];by_cases h3:97+a % 26<97+b % 26
     .  rw[H5 h3,H5 (show a<b by omega)]
     .  rw[Za1 h3,Za1 (show ¬a<b by omega)];simp only;split<;>rfl
   .rw[Za1 h2,Za1 (show ¬a<b by omega)]
theorem Fk{i:Nat}(h:i<12):yQ i=25*i:=by
 have:∀i<12,yQ i=25*i:=by decide+kernel
 exact this i h
theorem ad7(xs:List Nat):(gb (eR xs) 101 0).2=0:=by
 refine U8 (λg hg=> ?_) (λi j a b TY ha hb e=> ?_) (by have:=zN xs;omega) _ _
 .obtain⟨i,hi⟩:=Zd9.1 hg;obtain⟨h1,rfl⟩:=nj hi;exact aeK _ _
 .obtain⟨h1,rfl⟩:=nj ha;obtain⟨h2,rfl⟩:=nj hb;have e:br (yQ i)=br (yQ j):=e;rw[Fk (by omega),Fk (by omega)]at e;have:=G4 (by omega) (by omega) e;omega
theorem vL{xs:List Nat}{a:Nat}(ha:a<676)(h:br a∈jH (eR xs)):∃i,i<12/\a=25*i/\∃j,j<(eR xs).length/\fq (eR xs) (br a) j=true:=by
 unfold jH at h;obtain⟨g,hg,e⟩:=Ze5.1 h;obtain⟨i,hi⟩:=Zd9.1 hg;have hl:=(Za0.1 hi).1;obtain⟨h1,rfl⟩:=nj hi;have e:br (yQ i)=br a:=e;have e2:=e;rw[Fk (by omega)]at e;have:=G4 (by omega) ha e;refine⟨i,by omega,this.symm,i,hl,?_⟩;unfold fq;rw[hi];exact H5 (congrArg some e2)
def Ae(p:Nat×Nat×Int):Ty:=⟨br p.1,br p.2.1,p.2.2⟩
def Cy(p:Nat×Nat×Int):Nat:=p.1*312+p.2.1
def LC(names:List (List Nat))(ys:List Ty)(q:Nat):Prop:=
 ∃ps:List (Nat×Nat×Int),ys=ps.map Ae/\(∀p∈ps,p.1<p.2.1/\p.2.1<312/\br p.1∈names/\br p.2.1∈names/\(p.2.2=1\/p.2.2=2)/\Cy p<q)/\ps.Pairwise λa b=>Cy a<Cy b
theorem LC.up{names:List (List Nat)}{ys:List Ty}{q q':Nat}(h:LC names ys q)(hq:q<=q'):LC names ys q':=by
 obtain⟨ps,e,h1,h2⟩:=h;exact⟨ps,e,λp hp=>by obtain⟨a,b,d,f,g,i⟩:=h1 p hp;exact⟨a,b,d,f,g,by omega⟩,h2⟩
theorem LC.next{names:List (List Nat)}{bh:List Nat}{ys:List Ty}{i k n:Nat}(h:LC names ys (i*312+k))(hk:k<312)(u6:i<k)(hi:br i∈names)(kI:br k∈names):LC names (yS bh i k n ys) (i*312+(k+1)):=by
 unfold yS;split
 . rename_i hc;obtain⟨ps,e,h1,h2⟩:=h;unfold U4 at hc;simp only[Za8,Zd7]at hc;refine⟨ps++[(i,k,1+((bh.getD n 0 % 4:Nat):Int))],by rw[Ze3,e];rfl,λp hp=> ?_,?_⟩
   . rcases Zd6.1 hp with hp|hp
     .  obtain⟨a,b,d,f,g,j⟩:=h1 p hp;exact⟨a,b,d,f,g,by omega⟩
     .  simp only[Zb0,Ze6,Zi9]at hp;subst hp;exact⟨u6,hk,hi,kI,by show 1+((bh.getD n 0 % 4:Nat):Int)=1\/1+((bh.getD n 0 % 4:Nat):Int)=2;omega,by show i*312+k<_;omega⟩
   .rw[List.pairwise_append];refine⟨h2,List.pairwise_singleton _ _,λa ha b hb=> ?_⟩;simp only[Zb0,Ze6,Zi9]at hb;subst hb;exact(h1 a ha).2.2.2.2.2
 .exact h.up (by omega)
theorem MO{names:List (List Nat)}{bh:List Nat}{i:Nat}:∀(m k n:Nat)(ys:List Ty),k+m<=312->i<k->LC names ys (i*312+k)->LC names (jI names bh i m k n ys).2 (i*312+312)
 |0,k,n,ys,h1,_,h=>by unfold jI;exact h.up (by omega)
 |m +   1,k,n,ys,h1,h2,h=>by
  unfold jI;split
  . rename_i hi;split
    .   rename_i hk;exact MO m (k+1) (n+1) _ (by omega) (by omega) (h.next (by omega) h2 hi hk)
    .   exact MO m (k+1) n ys (by omega) (by omega) (h.up (by omega))
  .exact h.up (by omega)
theorem Rs{names:List (List Nat)}{bh:List Nat}:∀(m i n:Nat)(ys:List Ty),i+m=312->LC names ys (i*312)->∃q,LC names (JO names bh m i n ys) q
 |0,i,n,ys,_,h=>⟨_,h⟩
 |m+1,i,n,ys,h1,h=>by
  unfold JO;exact Rs m (i+1) _ _ (by omega) ((MO m (i+1) n ys (by omega) (by omega) (h.up (by omega))).up (by omega))
def Xe(i j:Nat):Nat:=i*(23 - i) / 2+(j - i - 1)
theorem aeL:((List.range 12).all λi=>(List.range 12).all λj=>(List.range 12).all λa=>(List.range 12).all λb=> !(decide (i<j)&&decide (a<b)&&(decide (i<a)||(decide (i=a)&&decide (j<b))))||decide (Xe i j<Xe a b))=true:=by decide+kernel
theorem afB(i:Nat)(hi:i<12)(j:Nat)(hj:j<12)(a:Nat)(ha:a<12)(b:Nat)(hb:b<12)(h1:i<j)(h2:a<b)(h3:i<a\/i=a/\j<b):Xe i j<Xe a b:=by
 have h:=Zd1.1 (Zd1.1 (Zd1.1 (Zd1.1 aeL i (Zj7.2 hi)) j (Zj7.2 hj)) a (Zj7.2 ha)) b (Zj7.2 hb);have d3:(decide (i<a)||(decide (i=a)&&decide (j<b)))=true:=by
  rcases h3 with h3|⟨h3,h4⟩
  .rw[H5 h3];rfl
  .rw[H5 h3,H5 h4];simp
 rw[H5 h1,H5 h2,d3]at h;simpa using h
theorem afC:∀i<12,∀j<12,i<j->Xe i j<66:=by decide+kernel
theorem aaK{N:Nat}:∀{l:List Nat}{k:Nat},l.Pairwise (· < ·)->(∀x∈l,k<=x/\x<N)->l.length<=N - k
 |[],_,_,_=>by simp
 |x::l,k,h,hk=>by
  obtain⟨h1,h2⟩:=List.pairwise_cons.1 h;have hx:=hk x (by simp);have:=aaK (k:=x+1) h2 λy hy=>⟨h1 y hy,(hk y (Za7 _ hy)).2⟩
  simp only[Ze2];omega
theorem Rt(xs bh:List Nat):(xL xs bh).length<=66/\(ej (eR xs) (xL xs bh) 101 0).2=0:=by
 obtain⟨q,ps,e,h1,h2⟩:=Rs (names:=jH (eR xs)) (bh:=bh) 312 0 0 [] rfl ⟨[],rfl,λp hp=>by simp at hp,List.Pairwise.nil⟩;have e:xL xs bh=ps.map Ae:=e;have hlen:ps.length<=66:=by
   have:=aaK (N:=66) (k:=0) (l:=ps.map λp=>Xe (p.1 / 25) (p.2.1 / 25)) (by
     rw[List.pairwise_map];refine List.Pairwise.imp_of_mem (λ{a b} ha hb OM=> ?_) h2;obtain⟨a1,a2,a3,a4,_⟩:=h1 a ha;obtain⟨b1,b2,b3,b4,_⟩:=h1 b hb;obtain⟨i,hi,e1,_⟩:=vL (by omega) a3;obtain⟨j,hj,e2,_⟩:=vL (by omega) a4;obtain⟨i',Ho,e3,_⟩:=vL (by omega) b3;obtain⟨j',zj,e4,_⟩:=vL (by omega) b4;unfold Cy at OM;exact afB _ (by omega) _ (by omega) _ (by omega) _ (by omega) (by omega) (by omega) (by omega)) (λx hx=>by
     obtain⟨p,hp,rfl⟩:=Ze5.1 hx;obtain⟨a1,a2,a3,a4,_⟩:=h1 p hp;obtain⟨i,hi,e1,_⟩:=vL (by omega) a3;obtain⟨j,hj,e2,_⟩:=vL (by omega) a4;exact⟨Zh3 _,afC _ (by omega) _ (by omega) (by omega)⟩)
   simpa using this
 refine⟨by rw[e,Za9];exact hlen,U9 (λk t ht=> ?_) 101 0⟩;rw[e,Zb8]at ht;obtain⟨p,hp,rfl⟩:=Zd4.1 ht;have hk:k<ps.length:=(Za0.1 hp).1;obtain⟨a1,a2,a3,a4,a5,_⟩:=h1 p (Zb6 hp);have kn:AL (Ae p)=true:=by unfold AL Ae;rcases a5 with h|h<;>simp[h]
 have ls:az (Ae p).a (Ae p).b=true:=(zP (by omega) (by omega)).trans (H5 a1);have prev:∀u,jC (xL xs bh) k=some u->dL (Ae p) u=false/\dL u (Ae p)=true:=λu hu=>by
   unfold jC at hu;by_cases h0:k=0
   .rw[Za6 h0]at hu;cases hu
   rw[Za3 h0,e,Zb8]at hu;obtain⟨r,hr,rfl⟩:=Zd4.1 hu;obtain⟨b1,b2,b3,b4,b5,_⟩:=h1 r (Zb6 hr);have lt:Cy r<Cy p:=by
     have hr1:=(Za0.1 hr)
     have eD:=(Za0.1 hp)
     obtain⟨w1,U2⟩:=hr1;obtain⟨w2,xY⟩:=eD;rw[<-U2, <-xY];exact List.pairwise_iff_getElem.1 h2 (k - 1) k w1 w2 (by omega)
   unfold Cy at lt;unfold dL Ae;simp only;rw[zP (by omega) (by omega),zP (by omega) (by omega),zP (by omega) (by omega),zP (by omega) (by omega)];by_cases hq:r.1=p.1
   .rw[hq,Za1 (show ¬p.1<p.1 by omega),Za1 (show ¬p.2.1<r.2.1 by omega),H5 (show r.2.1<p.2.1 by omega)];simp
   .rw[Za1 (show ¬p.1<r.1 by omega),H5 (show r.1<p.1 by omega),Za1 (show ¬br p.1=br r.1 from λh=>hq (G4 (by omega) (by omega) h).symm)];simp
 have unk:iV (eR xs) (Ae p)=false:=by obtain⟨_,_,_,i,hi,g1⟩:=vL (by omega) a3;obtain⟨_,_,_,j,hj,g2⟩:=vL (by omega) a4;have s1:=zO (eR xs).length 0 i (by omega) (by omega) g1;have s2:=zO (eR xs).length 0 j (by omega) (by omega) g2;unfold iV;rw[Za1 (show ¬scan (fq (eR xs) (Ae p).a) (eR xs).length 0<0 from λh=>by have h:scan (fq (eR xs) (br p.1)) (eR xs).length 0<0:=h;omega),Za1 (show ¬scan (fq (eR xs) (Ae p).b) (eR xs).length 0<0 from λh=>by have h:scan (fq (eR xs) (br p.2.1)) (eR xs).length 0<0:=h;omega)];rfl
 refine⟨?_,unk,?_,by omega⟩
 . unfold Kw;rw[kn,ls];cases hv:jC (xL xs bh) k with
   |none=>rfl
   |some u=>simp[(prev u hv).1]
 . unfold m7;cases hv:jC (xL xs bh) k with
   |none=>rfl
   |some u=>simp[(prev u hv).2]
theorem aaL(xs bh:List Nat):(bG (eR xs) (xL xs bh)).2=0:=by unfold bG;rw[Za3 (by rw[ad7];simp)];exact(Rt xs bh).2
theorem Ru{xt:List Nat}(hx:∀x∈xt,x<256):∀k,k<=3->bl (nQ xt k)=((gX xt k:Nat):Int)
 |0,_=>rfl
 |k+1,h=>by
  have ih:=Ru hx k (by omega);have e:nQ xt (k+1)=nQ xt k++[ic k (xt.getD k 0)]:=by unfold nQ;rw[Zi7,Ze3];rfl
  have z:dR (ic k (xt.getD k 0))=((tN (xt.getD k 0):Nat):Int):=aaJ _ (Qd hx (by omega) k);rw[e];unfold bl at ih ⊢;rw[Ze3,List.sum_append,ih];simp only[Zd5,Zh9,List.sum_cons,List.sum_nil,z];have e2:gX xt (k+1)=gX xt k+tN (xt.getD k 0):=rfl;omega
theorem YH{xt xg xy:List Nat}(hx:∀x∈xt,x<256)(z1 z2 z3 z4 z5:Bool)(rs:List Rl):(iN ⟨z1,gh xt,z2,kL xt xg,z3,aaE xt xg xy,z4,mz xt xg xy,z5,rs⟩).2=0:=by
 unfold iN;rw[Za3 (by show ¬(bJ (gh xt)).2≠0;rw[Rr hx];simp),Za3 (by show ¬(bG (eR (uz xt xg)) (xL (uz xt xg) xy)).2≠0;rw[aaL];simp)];rw[Za3 (by
  show ¬((mz xt xg xy).length≠0/\(mz xt xg xy).length≠(kL xt xg).length);unfold mz;split
  .rw[G1];simp
  .simp),Za3 (by
  show ¬sN (mz xt xg xy)=false;rw[   show sN (mz xt xg xy)=true from by
    unfold sN mz;rw[Zd1];intro y hy;split at hy
    .   unfold yR at hy;obtain⟨i,_,rfl⟩:=Ze5.1 hy;rw[Za8];exact⟨H5 (by omega),H5 (by omega)⟩
    .   simp at hy]
  simp),Za3]
 show ¬bl (gh xt)<((kL xt xg).length:Int)
 unfold gh kL eR;rw[GV,Ru hx _ (by omega)];unfold uz;rw[Zh6];omega
theorem aaM{p:cj}{a:Nat}(ha:a<p.gs.length):¬gi p (kK p.gs a)<0:=by have:=zO (P:=fq p.gs (kK p.gs a)) p.gs.length 0 a (by omega) (by omega) (by unfold fq kK;rw[H4 ha];simp);unfold gi;omega
theorem aeM{p:cj}(hd:∀(i j:Nat)(a b:aU),i<j->p.ts[i]? =some a->p.ts[j]? =some b->a.name≠b.name){t:Nat}(ht:t<p.ts.length):ti p (r9 p.ts t)=(t:Int):=by
 have h0:=zO (P:=ow p.ts (r9 p.ts t)) p.ts.length 0 t (by omega) (by omega) (by unfold ow r9;rw[H4 ht];simp);obtain⟨_,h1,h2⟩:=yK p.ts.length 0 h0;unfold ti;generalize scan (ow p.ts (r9 p.ts t)) p.ts.length 0=k at*
 unfold ow r9 at h2;rw[H4 ht]at h2;obtain⟨u,hu,e⟩:=Zd4.1 (Zg5 h2);rcases Nat.lt_trichotomy k.toNat t with h|h|h
 .exact absurd e (hd _ _ _ _ h hu (H4 ht))
 .omega
 .exact absurd e.symm (hd _ _ _ _ h (H4 ht) hu)
theorem aaN{p:cj}(hg:∀g∈p.gs,g.lq=[]\/eJ g.lq=true)(hgd:∀(i j:Nat)(a b:aK),i<j->p.gs[i]? =some a->p.gs[j]? =some b->a.name≠b.name)(htd:∀(i j:Nat)(a b:aU),i<j->p.ts[i]? =some a->p.ts[j]? =some b->a.name≠b.name)
   (cH:∀t∈p.ts,dR t=jF t.sh t.a t.b/\0<dR t) (x:Nat) (h:(fj p.ts p.gs x).2=true):sO p (fj p.ts p.gs x).1=0:=by
 unfold fj at h ⊢;by_cases h0:p.gs.length=0\/p.ts.length=0
 .rw[Za6 h0]at h;cases h
 rw[Za3 h0]at h ⊢;have hw:(JK (x / 18))<=7:=by unfold JK;split<;>omega
 have ha:x / 18 / 5 % p.gs.length<p.gs.length:=Zi1 _ (by omega);have hb:x / 18 / 5 / p.gs.length % p.gs.length<p.gs.length:=Zi1 _ (by omega);have cF:x / 18 / 5 / 7 % p.ts.length<p.ts.length:=Zi1 _ (by omega);have hn:x / 18 / 5 / 11 % 4<4:=Zi1 _ (by omega);have k1:1<=1+x % 18:=by omega
 have k2:1+x % 18<=18:=by omega
 generalize 1+x % 18=k at*
 generalize JK (x / 18)=w at*
 generalize x / 18 / 5=z at*
 generalize z % p.gs.length=a at*
 generalize z / p.gs.length % p.gs.length=b at*
 generalize z / 7 % p.ts.length=t at*
 generalize z / 11 % 4=n at*
 have g1:=aaM ha;have g2:=aaM hb;have g3:zM p.gs a=[]\/eJ (zM p.gs a)=true:=by unfold zM;rw[H4 ha];exact hg _ (Zb9 ha)
 have g4:=aeM htd cF;have g5:vK p.ts t=tM p ((t:Nat):Int)/\0<vK p.ts t:=by have:=cH _ (Zb9 cF);unfold vK tM;rw[Int.toNat_natCast,H4 cF];simp only;omega
 have g6:0<=((z / 13:Nat):Int) % vK p.ts t/\((z / 13:Nat):Int) % vK p.ts t<=vK p.ts t - 1:=⟨Zq0 _ (by omega),by have:=Zp0 ((z / 13:Nat):Int) g5.2;omega⟩
 have g7:a≠b->kK p.gs a≠kK p.gs b:=λOM e=>by
   unfold kK at e;rw[H4 ha,H4 hb]at e;rcases Nat.lt_or_gt_of_ne OM with h|h
   .exact hgd _ _ _ _ h (H4 ha) (H4 hb) e
   .exact hgd _ _ _ _ h (H4 hb) (H4 ha) e.symm
 clear hg ha hb cF h0 hgd htd cH;obtain⟨g5,_⟩:=g5;rw[g5]at g6;rcases Wz k1 k2 with rfl|rfl|rfl|rfl|rfl|rfl|rfl|rfl|rfl|rfl|rfl|rfl|rfl|rfl|rfl|rfl|rfl|rfl
 all_goals
   unfold GU at h ⊢;unfold sO MH EZ UQ OE w7;simp[kd]at h ⊢
   first
   |done
   |omega
   |(simp[*];done)
   |(simp[*];omega)
   |grind
theorem MP{ts:List aU}{gs:List aK}{xr:List Nat}:∀{k:Nat}{r:Rl},r∈uU ts gs xr k->∃x,(fj ts gs x).2=true/\r=(fj ts gs x).1
 |0,_,h=>by cases h
 |k +   1,r,h=>by
  unfold uU at h;rcases Zd6.1 h with h|h
  .exact MP h
  . split at h
    .   rename_i e;simp only[Zb0,Ze6,Zi9]at h;exact⟨_,e,h⟩
    .   cases h
theorem Rv{p:cj}(h:∀r∈p.rs,sO p r=0)(hl:p.rs.length<=64):∀m i,(ke p m i).2=0
 |0,_=>rfl
 |m+1,i=>by
  unfold ke;cases e:p.rs[i]? with
  |none=>rfl
  |some r=>
   have:=(Za0.1 e).1;simp only;rw[Za3 (by rw[h r (Zb6 e)];simp),Za3 (by omega)];exact Rv h hl m (i+1)
theorem G5{xt:List Nat}{i:Nat}{t:aU}(h:(gh xt)[i]? =some t):i<3/\t=ic i (xt.getD i 0):=by
 obtain⟨h1,h2⟩:=nj h;exact⟨by omega,h2⟩
theorem JP{xs:List Nat}{i:Nat}{g:aK}(h:(eR xs)[i]? =some g):i<12/\g=tR i (xs.getD i 0):=by
 obtain⟨h1,h2⟩:=nj h;exact⟨by omega,h2⟩
theorem JQ{xt:List Nat}:∀(i j:Nat)(a b:aU),i<j->(gh xt)[i]? =some a->(gh xt)[j]? =some b->a.name≠b.name:=λi j a b TY ha hb e=>by obtain⟨h1,rfl⟩:=G5 ha;obtain⟨h2,rfl⟩:=G5 hb;have e:dS i=dS j:=e;unfold dS at e;simp only[Zf8,Zk4,true_and]at e;omega
theorem JR{xs:List Nat}:∀(i j:Nat)(a b:aK),i<j->(eR xs)[i]? =some a->(eR xs)[j]? =some b->a.name≠b.name:=λi j a b TY ha hb e=>by obtain⟨h1,rfl⟩:=JP ha;obtain⟨h2,rfl⟩:=JP hb;have e:br (yQ i)=br (yQ j):=e;rw[Fk (by omega),Fk (by omega)]at e;have:=G4 (by omega) (by omega) e;omega
theorem Rw{xs:List Nat}:∀g∈eR xs,g.lq=[]\/eJ g.lq=true:=λg hg=>by
 obtain⟨i,hi⟩:=Zd9.1 hg;obtain⟨_,rfl⟩:=JP hi;show(if(xs.getD i 0) % 3=2 then br ((xs.getD i 0) % 5)else [])=[]\/eJ (if(xs.getD i 0) % 3=2 then br ((xs.getD i 0) % 5)else [])=true;split
 .exact .inr (Qb _)
 .exact .inl rfl
theorem D7{xt:List Nat}(hx:∀x∈xt,x<256):∀t∈gh xt,dR t=jF t.sh t.a t.b/\0<dR t:=λt ht=>by
 obtain⟨i,hi⟩:=Zd9.1 ht;obtain⟨h1,rfl⟩:=G5 hi;have aN:=Qd hx (by omega) i;have z:dR (ic i (xt.getD i 0))=((tN (xt.getD i 0):Nat):Int):=aaJ _ aN;have e:jF (ic i (xt.getD i 0)).sh (ic i (xt.getD i 0)).a (ic i (xt.getD i 0)).b=((tN (xt.getD i 0):Nat):Int):=Kz _;have h1:=aaF (xt.getD i 0);exact⟨by rw[z,e],by rw[z];omega⟩
theorem YI{xt xg xy xr:List Nat}(hx:∀x∈xt,x<256):(iO (ni xt xg xy xr)).2=0:=by
 unfold iO;have hb:(iN (ni xt xg xy xr)).2=0:=YH hx _ _ _ _ _ _;rw[Za3 (by rw[hb];simp)];refine Rv (λr hr=> ?_) ?_ _ _
 .obtain⟨x,h1,rfl⟩:=MP hr;exact aaN (p:=ni xt xg xy xr) Rw JR JQ (D7 hx) x h1
 .have:=G2 (gh xt) (kL xt xg) xr (min xr.length 12);show(uU _ _ _ _).length<=64;omega
end
section
set_option linter.unusedSimpArgs false
open Go Go.Ai Go.Proofs
variable{c:ai}
theorem Va(t:aU):0<=dR t/\dR t<=24:=by
 unfold dR;repeat' split
 all_goals omega
theorem Vb(a b:List aU):bl (a++b)=bl a+bl b:=by simp[bl]
theorem ON{ts:List aU}{k:Nat}(hk:k<ts.length):bl (ts.take (k+1))=bl (ts.take k)+dR ts[k]/\bl (ts.take (k+1))<=bl ts:=by refine⟨by rw[Zc9 hk,Vb];simp[bl],?_⟩;have h:=Vb (ts.take (k+1)) (ts.drop (k+1));rw[Zj0]at h;have:=(rP (ts.drop (k+1))).1;omega
theorem TS.ax{s0 s s':St}{V:AV}{ts:List aU}{rows:List (List AV)}(h:TS s0 s V ts rows)(g:Grew s s'):TS s0 s' V ts rows:=
 ⟨h.out.grow g,h.len,λi t r a b=>by obtain⟨v,e1,e2,e3⟩:=h.rV i t r a b;exact⟨v,e1,e2.grow g,e3⟩⟩
theorem GS.ax{s0 s s':St}{V:AV}{ts:List aK}{rows:List (List AV)}(h:GS s0 s V ts rows)(g:Grew s s'):GS s0 s' V ts rows:=
 ⟨h.out.grow g,h.len,λi t r a b=>by obtain⟨v,e1,e2,e3⟩:=h.rV i t r a b;exact⟨v,e1,e2.grow g,e3⟩⟩
theorem PS.qY{s0 s s':St}{Vs:List AV}{p:cj}(h:PS s0 s Vs p)(g:Grew s s'):PS s0 s' Vs p:=by
 obtain⟨V1,V2,V3,V4,V5,r1,r2,rfl,h1,h2,h3,h4,h5⟩:=h.all;exact⟨h.ax.trans g,V1,V2,V3,V4,V5,r1,r2,rfl,h1.ax g,h2.ax g,h3.grow g,h4.grow g,h5.grow g⟩
def uE(x:Int)(n:Nat):Nat:=(x % (n:Int)).toNat
theorem acI(x:Int){n:Nat}(h:0<n):uE x n<n:=by have h1:=Zq0 x (show(n:Int)≠0 by omega);have h2:=Zp0 x (show(0:Int)<(n:Int)by omega);unfold uE;omega
theorem ad8(hc:cr c)(x:Int){n:Nat}(h:0<n)(hn:n<=1000000)(s:St):c 69 [.int .i64 x,.int .i64 (n:Int)] s=some (.int .i64 ((uE x n:Nat):Int),s):=by
 have h1:=Zq0 x (show(n:Int)≠0 by omega);have h2:=Zp0 x (show(0:Int)<(n:Int)by omega);have e:((uE x n:Nat):Int)=x % (n:Int):=by unfold uE;omega
 have rm:=λ(K:AV->St->Option (AV×St))(s:St)=>Wv c K s .num .i64 x (n:Int) (by omega)
 have t:=Int.tmod_eq_emod (a:=x) (b:=(n:Int));rw[Ic hc 1 (r:=(.int .i64 ((uE x n:Nat):Int),s)),aF (Plain.int _ _) (bu.refl s)];rw[KO,e];by_cases hd:0<=x\/(n:Int) ∣ x
 .rw[Za6 hd]at t;have t:x.tmod (n:Int)=x % (n:Int):=(by rw[t];exact Int.sub_zero _);have d:decide (x % (n:Int)<0)=false:=Za1 (by omega);simp[-eX,rm,t,fe,d]
 .rw[Za3 hd]at t;have t:x.tmod (n:Int)=x % (n:Int) - (n:Int):=(by rw[t,Int.natAbs_natCast]);have d:decide (x % (n:Int) - (n:Int)<0)=true:=H5 (by omega);have w:aq .i64 (x % (n:Int))=x % (n:Int):=wrap64 (by omega) (by omega);simp[-eX,rm,t,fe,d,w]
abbrev jY(tk:List Bool):List AV:=tk.map AV.bool
theorem acJ{tb:Pos}{tk:List Bool}(hl:tk.length<=1000000){fr:Nat}(hf:fr<=1000000){s:St}(ht:s.heap.get tb=some (.cells (jY tk) 0))(F:Nat):∀(m k f:Nat),k+m=tk.length->m<f->∀k1 k2:Q2,
  iQ c F k1 k2 f [.slice tb 0 tk.length (some tk.length) 1,.int .i64 (fr:Int),.int .i64 (k:Int)] s=
    match mg tk fr m k with
    |some i=>k1 [.int .i64 (i:Int)] (cI s tb (.cells (jY (tk.set i true)) 0))
    |none=>k2 [] s:=by
 intro m;induction m with
 |zero=>
  intro k f hk hf k1 k2;obtain⟨f,rfl⟩:∃g,f=g+1:=⟨f - 1,by omega⟩
  obtain rfl:k=tk.length:=by omega
  rw[mI];simp[BG,mg]
 |succ m ih=>
  intro k f hk hf k1 k2;obtain⟨f,rfl⟩:∃g,f=g+1:=⟨f - 1,by omega⟩
  have dh:k<tk.length:=by omega
  have aN:decide ((k:Int)<(tk.length:Int))=true:=H5 (by omega);have w1:aq .i64 ((fr:Int)+(k:Int))=((fr+k:Nat):Int):=by rw[wrap64 (by omega) (by omega)];omega
  have wr:aq .i64 ((k:Int)+1)=((k+1:Nat):Int):=by rw[wrap64 (by omega) (by omega)];omega
  have hi:(fr+k) % tk.length<tk.length:=Zi1 _ (by omega);have rm:∀(K:AV->St->Option (AV×St))(s:St),ak c (.bin .rem .num) [.int .i64 ((fr+k:Nat):Int),.int .i64 (tk.length:Int)] s K=K (.int .i64 (((fr+k) % tk.length:Nat):Int)) s:=λK s=>by
    rw[bS (by omega) (by omega),Zj8]
  generalize hm:(fr+k) % tk.length=i at*
  have ix:=λ(K:AV->St->Option (AV×St))(s1:St)=>uM c K s1 (b:=tb) (off:=0) (len:=tk.length) (es:=1) (es':=1) (cap:=some tk.length) (k:= .i64) (i:=i) hi
  simp only[Zc4,Zj3]at ix;have ec:(jY tk)[i]? =some (.bool tk[i]):=by rw[Zb8,H4 hi];rfl
  have eg:tk.getD i true=tk[i]:=by rw[Zb5,H4 hi];rfl
  unfold mg;rw[hm,eg];cases hb:tk[i]
  . (rw[hb]at ec;have pt:=λ(K:AV->St->Option (AV×St))=>Pm (c:=c) K ht (o:=i) (by rw[Za9];exact hi) (v:= .bool true) rfl rfl);rw[show(jY tk).set i (.bool true)=jY (tk.set i true)from(Zp6).symm]at pt;rw[Za6 rfl,mI];simp only[aG,cN,aC,BG,oa,aN,jV,vk,w1,rm,ix,jw,ht,aR,Zd8,ec,mX,Be,Zo5,pt]
  .rw[hb]at ec;rw[Za3 (by simp), <-ih (k+1) f (by omega) (by omega) k1 k2,mI];simp only[aG,cN,aC,BG,oa,aN,jV,lf,vk,w1,rm,ix,jw,ht,aR,Zd8,ec,mX,Be,Zn3,wr]
theorem aaO{a b:List Bool}(h:jY a=jY b):a=b:=by
 induction a generalizing b with
 |nil=>cases b with|nil=>rfl|cons y b=>simp at h
 |cons x a ih=>
  cases b with
  |nil=>simp at h
  |cons y b=>
   simp only[Zd5,Zf8,AV.bool.injEq]at h;rw[h.1,ih h.2]
theorem aaP(hc:cr c){tb:Pos}{tk:List Bool}(hl:tk.length<=1000000){fr:Nat}(hf:fr<=1000000){s:St}(ht:s.heap.get tb=some (.cells (jY tk) 0)):
  c 70 [.slice tb 0 tk.length (some tk.length) 1,.int .i64 (fr:Int)] s=some (.int .i64 (mh tk fr).2,cI s tb (.cells (jY (mh tk fr).1) 0)):=by
 have lp:=λ(k1 k2:Q2)=>acJ (c:=c) hl hf ht (tk.length+1) tk.length 0 (tk.length+1) (by omega) (by omega) k1 k2
 simp only[show((0:Nat):Int)=0 from rfl]at lp;unfold mh;cases KQ:mg tk fr tk.length 0 with
 |none=>
  simp only[KQ]at lp ⊢;rw[aes ht];rw[uy hc (tk.length+1) (r:=(.int .i64 (-1),s)),aF (Plain.int _ _) (bu.refl s)];rw[xG];simp[lp]
 |some i=>
  simp only[KQ]at lp ⊢;have hb:=zW KQ;have ne:tk.set i true≠tk:=λe=>by have h2:(tk.set i true)[i]? =some true:=(by rw[Zj9 (Za0.1 hb).1]);rw[e,hb]at h2;cases h2
  rw[uy hc (tk.length+1) (r:=(.int .i64 (i:Int),cI s tb (.cells (jY (tk.set i true)) 0))),Ph ht (by rw[dF];intro e;simp only[H0,AB.cells.injEq,Zk4]at e;exact ne (aaO e))];rw[xG];simp[lp]
def Qe(p:cj):Prop:=∀t∈p.ts,jF t.sh t.a t.b=dR t/\(0<=t.a/\t.a<=1000000)/\0<=t.b/\t.b<=1000000
section
variable{st sB s:St}{Vs:List AV}{p:cj}
theorem PS.rT(h:PS st s Vs p):∃V1 V2 r1 r2,Vs[0]? =some V1/\Vs[1]? =some V2/\TS st s V1 p.ts r1/\GS st s V2 p.gs r2/\Vs.length=5:=by
 obtain⟨V1,V2,V3,V4,V5,r1,r2,rfl,h1,h2,_⟩:=h.all;exact⟨V1,V2,r1,r2,rfl,rfl,h1,h2,rfl⟩
theorem TS.Lg{V:AV}{ts:List aU}{rows:List (List AV)}(h:TS st s V ts rows){t:Nat}{T:aU}(ht:ts[t]? =some T):∃v b o,Rd s 7 V t b o (T.aA v):=by
 have hl:t<rows.length:=by rw[h.len];exact(Za0.1 ht).1
 obtain⟨v,e,_⟩:=h.rV t T rows[t] ht (H4 hl);obtain⟨b,o,h4⟩:=h.out.own.rd h.out.row (H4 hl);exact⟨v,b,o,by rw[<-e];exact h4⟩
theorem YJ(hc:cr c)(hz:Qe p)(cH:p.ts.length<=100){pb:Pos}{V1:AV}{cs:List AV}{r1:List (List AV)}(hw:Wf s)(hp:s.heap.get pb=some (.cells cs 0))(h0:cs[0]? =some V1)(T:TS st s V1 p.ts r1)(F:Nat):∀(m k f:Nat),k+m=p.ts.length->m<f->∀k2:Q2,
  gV c F k2 f [.ptr pb 0,.int .i64 (bl (p.ts.take k)),.int .i64 (k:Int)] s=k2 [.int .i64 (bl p.ts)] s:=by
 have ln:=λ(K:AV->St->Option (AV×St))=>T.out.own.lenB (c:=c) K s
 rw[T.len]at ln;intro m;induction m with
 |zero=>
  intro k f hk hf k2;obtain⟨f,rfl⟩:∃g,f=g+1:=⟨f - 1,by omega⟩
  obtain rfl:k=p.ts.length:=by omega
  rw[qX,Zi4];simp[hp,h0,ln]
 |succ m ih=>
  intro k f hk hf k2;obtain⟨f,rfl⟩:∃g,f=g+1:=⟨f - 1,by omega⟩
  have dh:k<p.ts.length:=by omega
  have hi:=H4 dh;obtain⟨v,b,o,h1⟩:=T.Lg hi;have z:=hz _ (Zb9 dh);have sz:=Va p.ts[k];have sn:=(Va p.ts[k]).1;have et:bl (p.ts.take (k+1))=bl (p.ts.take k)+dR p.ts[k]:=(ON dh).1;generalize p.ts[k]=t at*
  have r1:=λ{R}=>@h1.st R
  have r2:=h1.all;have sl:=Ct hc (l:=t.aA v) (sh:=t.sh) (a:=t.a) (b:=t.b) rfl rfl rfl z.2.1 z.2.2 s hw;rw[z.1]at sl;have n1:=rP (p.ts.take k);rw[Zh6]at n1;have aN:decide ((k:Int)<(p.ts.length:Int))=true:=H5 (by omega);have w1:aq .i64 (bl (p.ts.take k)+dR t)=bl (p.ts.take k)+dR t:=wrap64 (by omega) (by omega);have wr:aq .i64 ((k:Int)+1)=((k+1:Nat):Int):=by rw[wrap64 (by omega) (by omega)];omega
  rw[<-ih (k+1) f (by omega) (by omega) k2,qX,et];simp only[aG,cN,aC,c9,Zc4,jw,hp,aR,Zd8,h0,mX,ln,oa,aN,jV,r1,tX,r2,rA,jO,sl,ig,vk,w1,wr]
theorem YK(hc:cr c)(h:PS st s Vs p)(hz:Qe p)(cH:p.ts.length<=100):c 68 [.agg Vs] s=some (.int .i64 (bl p.ts),s):=by
 have hw:=h.ax.wf;have gN:=Grew.af hw (.cells Vs 0);obtain⟨V1,V2,r1,r2,e1,_,T,_,_⟩:=(h.qY gN).rT;have lp:=λ(k2:Q2)=>YJ (c:=c) hc hz cH gN.wf (aD s (.cells Vs 0)) e1 T (p.ts.length+1) p.ts.length 0 (p.ts.length+1) (by omega) (by omega) k2
 simp only[List.take_zero,show bl ([]:List aU)=0 from rfl,show((0:Nat):Int)=0 from rfl]at lp;rw[Cr hc (p.ts.length+1) (r:=(.int .i64 (bl p.ts),af s (.cells Vs 0))),aF (Plain.int _ _) gN.keeps];rw[DZ];simp only[qp,show ∀l,AV.cells (.agg l)=l from λl=>rfl,aC,lp,aG,cN]
def zQ(ch:Nat->Ch):Nat->Nat->List Ch
 |0,_=>[]
 |m+1,k=>ch k::zQ ch m (k+1)
structure LD(sB s:St)(tb:Pos)(tk:List Bool)(v:AV)(R:List Int):Prop where
 JS:Mk 1 sB s v (R.map cq)
 tkn:s.heap.get tb=some (.cells (jY tk) 0)
 ge:sB.next.toNat<=tb.toNat
 ap:∀b,bg v=some b->tb.toNat+1<=b.toNat
theorem LD.set{tb:Pos}{tk oD:List Bool}{v:AV}{R:List Int}(h:LD sB s tb tk v R):LD sB (cI s tb (.cells (jY oD) 0)) tb oD v R:=by
 have aN:=h.JS.ax.wf _ _ h.tkn;have g:=uT h.JS.od h.JS.ax h.ge aN (.cells (jY oD) 0);exact⟨h.JS.qL g λb x hb hx=>by rw[bt (λe=>by have:=h.ap b hb;rw[<-e]at this;omega)];exact hx,dF _ _ _,h.ge,h.ap⟩
theorem LD.push{tb:Pos}{tk:List Bool}{v:AV}{R:List Int}(h:LD sB s tb tk v R)(hR:R.length<=1000)(x:Int):∃s5 v',(∀(K:AV->St->Option (AV×St)),ak c (.buildSlice 1 1 [.int .i64 0] [0]) [.int .i64 x] s (λy t=>ak c (.append 1 8) [v,y] t K)=K v' s5)/\LD sB s5 tb tk v' (R++[x]):=by have aN:=h.JS.ax.wf _ _ h.tkn;obtain⟨s5,v5,a1,a2,a3,a4⟩:=h.JS.push (R:=AV×St) (c:=c) (bytes:=8) (z:=[.int .i64 0]) (x:= .int .i64 x) rfl rfl rfl (by omega) (by rw[Za9];omega) (by rw[Za9];omega);refine⟨s5,v5,a1,⟨by rw[Ze3];exact a2,a3 tb _ (λe=>by have:=h.ap tb e;omega) h.tkn,h.ge,λb hb=> ?_⟩⟩;have:=a4 b hb;omega
def HP(N:Nat)(xs:List Int)(g:Nat):Ch:=match xs[g]? with
 |some x=>if uE x (N+1)=N then .no else .fr (uE x (N+1))
 |none=>.no
theorem aaQ(hc:cr c){pb tb:Pos}{cs:List AV}{V2:AV}{r2:List (List AV)}(hp:sB.heap.get pb=some (.cells cs 0))(h1:cs[1]? =some V2)(T:GS st sB V2 p.gs r2){N:Nat}(hN:N<=100000)(Vc:p.gs.length<=100)(z:Bool)(xs:List Int)(hx:xs.length<=9223372036854775807)(F:Nat):
  ∀ (m k f:Nat)(s:St)(tk:List Bool)(v:AV)(R:List Int),k+m=p.gs.length->m<f->LD sB s tb tk v R->tk.length=N->R.length=k->∃s' v' oD,LD sB s' tb oD v' (R++fE tk (zQ (HP N xs) m k))/\
    ∀k2:Q2,dD c F k2 f [ints z xs,.ptr pb 0,.int .i64 (N:Int),.slice tb 0 N (some N) 1,v,.int .i64 (k:Int)] s=k2 [v'] s':=by
 intro m;induction m with
 |zero=>
  intro k f s tk v R hk hf hS hl hR;obtain⟨f,rfl⟩:∃g,f=g+1:=⟨f - 1,by omega⟩
  obtain rfl:k=p.gs.length:=by omega
  have eD:=hS.JS.ax.get hp;have T1:=T.ax hS.JS.ax;have ln:=λ(K:AV->St->Option (AV×St))=>T1.out.own.lenB (c:=c) K s
  rw[T1.len]at ln;refine⟨s,v,tk,by simpa [zQ,fE]using hS,λk2=> ?_⟩;rw[jE];simp[eD,h1,ln]
 |succ m ih=>
  intro k f s tk v R hk hf hS hl hR;obtain⟨f,rfl⟩:∃g,f=g+1:=⟨f - 1,by omega⟩
  have dh:k<p.gs.length:=by omega
  have eD:=hS.JS.ax.get hp;have T1:=T.ax hS.JS.ax;have ln:=λ(K:AV->St->Option (AV×St))=>T1.out.own.lenB (c:=c) K s
  rw[T1.len]at ln;have aN:decide ((k:Int)<(p.gs.length:Int))=true:=H5 (by omega);have wr:aq .i64 ((k:Int)+1)=((k+1:Nat):Int):=by rw[wrap64 (by omega) (by omega)];omega
  have wN:aq .i64 ((N:Int)+1)=((N+1:Nat):Int):=by rw[wrap64 (by omega) (by omega)];omega
  obtain⟨s5,v5,a1,a2⟩:=hS.push (c:=c) (by omega) (-1)
  have no:HP N xs k= .no->(∀k2:Q2,dD c F k2 (f+1) [ints z xs,.ptr pb 0,.int .i64 (N:Int),.slice tb 0 N (some N) 1,v,.int .i64 (k:Int)] s=dD c F k2 f [ints z xs,.ptr pb 0,.int .i64 (N:Int),.slice tb 0 N (some N) 1,v5,.int .i64 ((k+1:Nat):Int)] s5)->
        ∃s' v' oD,LD sB s' tb oD v' (R++fE tk (zQ (HP N xs) (m+1) k))/\∀k2:Q2,dD c F k2 (f+1) [ints z xs,.ptr pb 0,.int .i64 (N:Int),.slice tb 0 N (some N) 1,v,.int .i64 (k:Int)] s=k2 [v'] s':=λhch iY=>by
    obtain⟨s',v',oD,z1,z2⟩:=ih (k+1) f s5 tk v5 (R++[-1]) (by omega) (by omega) a2 hl (by simp[hR]);refine⟨s',v',oD,?_,λk2=>by rw[iY,z2]⟩;rw[zQ,hch,fE];simpa using z1
  by_cases Cx:k<xs.length
  . have hlx:decide ((k:Int)<(xs.length:Int))=true:=H5 (by omega);have pk:=ad8 hc xs[k] (n:=N+1) (by omega) (by omega) s;have plt:=acI xs[k] (n:=N+1) (by omega);simp only[show((N+1:Nat):Int)=(N:Int)+1 by omega]at pk wN;have ech:HP N xs k=if uE xs[k] (N+1)=N then .no else .fr (uE xs[k] (N+1)):=by unfold HP;rw[H4 Cx]
    have at':=Ux xs k Cx;by_cases hpn:uE xs[k] (N+1)=N
    .   rw[Za6 hpn]at ech;(refine no ech λk2=> ?_);rw[hpn]at pk;rw[jE];unfold ints at*
        simp[-aO,fe,eD,h1,ln,aN,dh,Cx,at',wN,pk,a1,wr]
    .   rw[Za3 hpn]at ech;generalize uE xs[k] (N+1)=fr at*
        have dn:decide ((fr:Int)=(N:Int))=false:=Za1 (by omega);have pl:=aaP hc (tk:=tk) (tb:=tb) (by omega) (fr:=fr) (by omega) hS.tkn;rw[hl]at pl;obtain⟨s6,v6,b1,b2⟩:=(hS.set (oD:=(mh tk fr).1)).push (c:=c) (by omega) (mh tk fr).2;obtain⟨s',v',oD,z1,z2⟩:=ih (k+1) f s6 _ v6 _ (by omega) (by omega) b2 (by rw[aae];exact hl) (by simp[hR]);refine⟨s',v',oD,?_,λk2=> ?_⟩
        .rw[zQ,ech,fE];simpa using z1
        . rw[<-z2 k2,jE];unfold ints at*
          simp[-aO,fe,eD,h1,ln,aN,dh,Cx,at',wN,pk,dn,pl,b1,wr]
  . have hlx:decide ((k:Int)<(xs.length:Int))=false:=Za1 (by omega);(refine no (by unfold HP;rw[Zb4 (by omega)]) λk2=> ?_);rw[jE];unfold ints at*
    simp[-aO,fe,eD,h1,ln,aN,dh,Cx,a1,wr]
theorem Rx(N:Nat):List.replicate N (AV.bool false)=jY (List.replicate N false):=List.map_replicate.symm
theorem aaR(hc:cr c)(h:PS st s Vs p)(hz:Qe p)(cH:p.ts.length<=100)(Vc:p.gs.length<=100){N:Nat}(hN:(N:Int)=bl p.ts)(z:Bool)(xs:List Int)(hx:xs.length<=9223372036854775807):
  ∃s' v,c 16 [.agg Vs,ints z xs] s=some (v,s')/\Mk 1 s s' v ((fE (List.replicate N false) (zQ (HP N xs) p.gs.length 0)).map cq):=by
 have hw:=h.ax.wf;have gN:=Grew.af hw (.cells Vs 0);have h1:=h.qY gN;obtain⟨V1,V2,r1,r2,e1,e2,T,T2,e5⟩:=h1.rT;have so:=YK hc h1 hz cH;rw[<-hN]at so;have hN1:N<=100000:=by have:=(rP p.ts).2;omega
 have hcut:cut Vs 0 5=some Vs:=bV e5;have mk:=λ(K:AV->St->Option (AV×St))=>Pk c K (af s (.cells Vs 0)) (es:=1) (bytes:=1) (z:=[.bool false]) (k:= .i64) (k':= .i64) (n:=N) (by omega) (by omega)
 rw[AY,Rx]at mk;have gT:=Grew.af gN.wf (.cells (jY (List.replicate N false)) 0);have S0:LD (af s (.cells Vs 0)) (af (af s (.cells Vs 0)) (.cells (jY (List.replicate N false)) 0)) (af s (.cells Vs 0)).next (List.replicate N false) .ah []:=
  ⟨Mk.start gN.wf gT,aD _ _,Za5 _,λb e=>(nomatch e)⟩
 obtain⟨s',v',oD,z1,z2⟩:=aaQ (c:=c) hc (aD s (.cells Vs 0)) e2 T2 hN1 Vc z xs hx (p.gs.length+1) p.gs.length 0 (p.gs.length+1) _ _ _ [] (by omega) (by omega) S0 (by simp) rfl;have M:=z1.JS.back hw gN;rw[Zg9]at M;obtain⟨s3,t1,t2⟩:=M.tidy;refine⟨s3,v',?_,t2⟩;simp only[show((0:Nat):Int)=0 from rfl]at z2;rw[CG hc (p.gs.length+1) (r:=(v',s')),t1];rw[E0];simp only[qp,show ∀l,AV.cells (.agg l)=l from λl=>rfl,aC,tX,aD,aR,Zd8,hcut,rA,jO,so,ig,mk,z2,aG,cN]
end
set_option linter.unusedSimpArgs false
theorem acK(q:List Int):q.map cq=(q.map (AV.int .i64)).map TO:=by rw[Zg1];rfl
theorem Vd{s:St}{v:AV}{q:List Int}(h:QS 1 s v (q.map cq)){i:Nat}{x:Int}(hx:q[i]? =some x):∃b o,Rd s 1 v i b o [.int .i64 x]:=by
 rw[acK]at h;exact h.Lg (by rw[Zb8,hx];rfl)
theorem acL{s s':St}{f:Nat}{b:Pos}{off:Nat}:tidy s (.func f [] [.ptr b off],s')=(.func f [] [.ptr b off],s'):=by
 unfold tidy;rw[Za3];intro h;have h1:aj (λ_=>⟨0,0,0⟩) (b.toNat+1) (λ_=>none) (.func f [] [.ptr b off]) (.func (.func f) #[] #[.pointer (some ⟨0,0+off,none⟩)]):=
  .func f _ _ _ _ rfl rfl (λ_ _ _ h=>by simp at h) λi v v' hv xT=>by
   cases i with
   |zero=>simp at hv xT;subst hv;subst xT;have:=aj.ptr (ρ:=λ_=>⟨0,0,0⟩) (C:=λ_=>none) (n:=b.toNat+1) b off (by omega);simpa using this
   |succ i=>simp at hv
 have h2:=h.1 _ (λ_=>⟨0,0,0⟩) _ 0 _ _ h1;obtain⟨_,_,_,_,hy⟩:=h2.yq;obtain⟨x,xs,_,hx,_⟩:=hy.cons_inv;have:=hx.eG.1;omega
def JT(q:List Int)(x:Int):Int:=if q.contains x then((q.idxOf x:Nat):Int)else -1
section
variable{s:St}{P:AV}{q:List Int}
theorem acM(pq:QS 1 s P (q.map cq))(hl:q.length<=1000000)(x:Int)(F:Nat)(k1 k2:Q2):∀(m k f:Nat),k+m=q.length->m<f->
  gW c F k1 k2 f [P,.int .i64 x,.int .i64 (q.length:Int),.int .i64 (k:Int)] s=if(q.drop k).contains x then k1 [.int .i64 ((k+(q.drop k).idxOf x:Nat):Int)] s else k2 [] s:=by
 intro m;induction m with
 |zero=>
  intro k f hk hf;obtain⟨f,rfl⟩:∃g,f=g+1:=⟨f - 1,by omega⟩
  obtain rfl:k=q.length:=by omega
  rw[lz];simp
 |succ m ih=>
  intro k f hk hf;obtain⟨f,rfl⟩:∃g,f=g+1:=⟨f - 1,by omega⟩
  have dh:k<q.length:=by omega
  obtain⟨pb,po,p⟩:=Vd pq (H4 dh);have p1:=λ{R}=>@p.st R
  have p3:=p.one;have wr:aq .i64 ((k:Int)+1)=((k+1:Nat):Int):=wrap64 (by omega) (by omega);rw[Zc5 dh,List.contains_cons,List.idxOf_cons];by_cases he:x=q[k]
  .rw[lz];have e2:(x==q[k])=true:=(by simpa using he);have e3:(q[k]==x)=true:=(by simpa using he.symm);have d2:decide (x=q[k])=true:=H5 he;rw[e2,e3,Bool.true_or];simp[dh,p1,p3,d2]
  .have Qv:(x==q[k])=false:=(by simpa using he);have he3:(q[k]==x)=false:=(by simpa using λe=>he e.symm);have d2:decide (x=q[k])=false:=Za1 he;rw[Qv,he3,Bool.false_or,cond_false,show k+((q.drop (k+1)).idxOf x+1)=(k+1)+(q.drop (k+1)).idxOf x by omega, <-ih (k+1) f (by omega) (by omega),lz];simp[dh,p1,p3,d2,wr]
theorem OO(hc:cr c)(pq:QS 1 s P (q.map cq))(hl:q.length<=1000000)(x:Int):c 71 [P,.int .i64 x] s=some (.int .i64 (JT q x),s):=by
 have ln:=λ(K:AV->St->Option (AV×St))=>pq.lenB (c:=c) K s
 rw[Za9]at ln;have hi:=λk1 k2=>acM (c:=c) pq hl x (q.length+1) k1 k2 q.length 0 (q.length+1) (by omega) (by omega)
 simp only[Ze0,show((0:Nat):Int)=0 from rfl,Zc4]at hi;rw[Cs hc (q.length+1) (r:=(.int .i64 (JT q x),s)),aF (Plain.int _ _) (bu.refl s)];rw[D3];simp only[aC,ln,hi];unfold JT;split<;>simp
theorem Af(hc:cr c)(pq:QS 1 s P (q.map cq))(hl:q.length<=1000000)(x:Int):c 19 [P,.int .i64 x] s=some (.bool (q.contains x),s):=by
 rw[zK hc 1 (r:=(.bool (q.contains x),s)),aF (Plain.bool _) (bu.refl s)];rw[A6];simp only[aC,jO,OO hc pq hl,ig];unfold JT;cases h:q.contains x
 .simp
 .simp
theorem YM(hc:cr c)(P:AV)(s:St):c 89 [P] s=some (.func 128 [] [.ptr s.next 0],af s (.cells P.cells 0)):=by rw[ML hc 1 (r:=(.func 128 [] [.ptr s.next 0],af s (.cells P.cells 0))),acL];rw[P1];simp
theorem ad9(hc:cr c){b:Pos}(hb:s.heap.get b=some (.cells [P] 0))(pq:QS 1 s P (q.map cq))(hl:q.length<=1000000)(x:Int):c 128 [.int .i64 x,.ptr b 0] s=some (.int .i64 (JT q x),s):=by
 rw[JJ hc 1 (r:=(.int .i64 (JT q x),s)),aF (Plain.int _ _) (bu.refl s)];rw[MJ];simp[hb,aR,OO hc pq hl]
def JU:List Int->List Int->Nat
 |x::a,y::b=>(if x=y then 0 else 1)+JU a b
 |_,_=>0
theorem acN{Q:AV}{r:List Int}(pq:QS 1 s P (q.map cq))(pr:QS 1 s Q (r.map cq))(hl:q.length<=1000000)(he:q.length=r.length)(F:Nat)(k2:Q2):∀(m k f n:Nat),k+m=q.length->m<f->n<=k->
  qi c F k2 f [P,Q,.int .i64 (n:Int),.int .i64 (q.length:Int),.int .i64 (k:Int)] s=k2 [.int .i64 ((n+JU (q.drop k) (r.drop k):Nat):Int)] s:=by
 intro m;induction m with
 |zero=>
  intro k f n hk hf hn;obtain⟨f,rfl⟩:∃g,f=g+1:=⟨f - 1,by omega⟩
  obtain rfl:k=q.length:=by omega
  rw[xk,Zl3,he,Zl3];simp[JU]
 |succ m ih=>
  intro k f n hk hf hn;obtain⟨f,rfl⟩:∃g,f=g+1:=⟨f - 1,by omega⟩
  have dh:k<q.length:=by omega
  have hkr:k<r.length:=by omega
  obtain⟨pb,po,p⟩:=Vd pq (H4 dh);obtain⟨rb,ro,p'⟩:=Vd pr (H4 hkr);have p1:=λ{R}=>@p.pr R
  have p3:=p.one;have r1:=λ{R}=>@p'.pr R
  have r3:=p'.one;have wr:aq .i64 ((k:Int)+1)=((k+1:Nat):Int):=wrap64 (by omega) (by omega);have wn:aq .i64 ((n:Int)+1)=((n+1:Nat):Int):=wrap64 (by omega) (by omega);rw[Zc5 dh,Zc5 hkr,JU];by_cases e:q[k]=r[k]
  .rw[Za6 e,Zc4, <-ih (k+1) f n (by omega) (by omega) (by omega),xk];have d2:decide (q[k]=r[k])=true:=H5 e;simp[dh,p1,p3,r1,r3,d2,wr,fe]
  .rw[Za3 e, <-Zh5, <-ih (k+1) f (n+1) (by omega) (by omega) (by omega),xk];have d2:decide (q[k]=r[k])=false:=Za1 e;simp[dh,p1,p3,r1,r3,d2,wr,wn,fe]
theorem YN(hc:cr c){Q:AV}{r:List Int}(pq:QS 1 s P (q.map cq))(pr:QS 1 s Q (r.map cq))(hl:q.length<=1000000)(he:q.length=r.length):c 23 [P,Q] s=some (.int .i64 ((JU q r:Nat):Int),s):=by
 have ln:=λ(K:AV->St->Option (AV×St))=>pq.lenB (c:=c) K s
 have lr:=λ(K:AV->St->Option (AV×St))=>pr.lenB (c:=c) K s
 rw[Za9]at ln lr;have hi:=λk2=>acN (c:=c) pq pr hl he (q.length+1) k2 q.length 0 (q.length+1) 0 (by omega) (by omega) (by omega)
 simp only[Ze0,show((0:Nat):Int)=0 from rfl,Zc4]at hi;rw[P2 hc (q.length+1) (r:=(.int .i64 ((JU q r:Nat):Int),s)),aF (Plain.int _ _) (bu.refl s)];rw[UT];simp[ln,lr,he];rw[<-he,hi];simp
theorem acO{Q:AV}{r:List Int}(pq:QS 1 s P (q.map cq))(pr:QS 1 s Q (r.map cq))(hl:q.length<=1000000)(he:q.length=r.length)(F:Nat)(k1 k2:Q2):∀(m k f:Nat),k+m=q.length->m<f->
  gU c F k1 k2 f [P,Q,.int .i64 (q.length:Int),.int .i64 (k:Int)] s=if q.drop k=r.drop k then k2 [] s else k1 [.bool false] s:=by
 intro m;induction m with
 |zero=>
  intro k f hk hf;obtain⟨f,rfl⟩:∃g,f=g+1:=⟨f - 1,by omega⟩
  obtain rfl:k=q.length:=by omega
  rw[lu,Zl3,he,Zl3];simp
 |succ m ih=>
  intro k f hk hf;obtain⟨f,rfl⟩:∃g,f=g+1:=⟨f - 1,by omega⟩
  have dh:k<q.length:=by omega
  have hkr:k<r.length:=by omega
  obtain⟨pb,po,p⟩:=Vd pq (H4 dh);obtain⟨rb,ro,p'⟩:=Vd pr (H4 hkr);have p1:=λ{R}=>@p.pr R
  have p3:=p.one;have r1:=λ{R}=>@p'.pr R
  have r3:=p'.one;have wr:aq .i64 ((k:Int)+1)=((k+1:Nat):Int):=wrap64 (by omega) (by omega);have key:(q.drop k=r.drop k)↔(q[k]=r[k]/\q.drop (k+1)=r.drop (k+1)):=by rw[Zc5 dh,Zc5 hkr,Zf8]
  by_cases e:q[k]=r[k]
  .have key2:(q.drop k=r.drop k)↔(q.drop (k+1)=r.drop (k+1)):=key.trans ⟨λh=>h.2,λh=>⟨e,h⟩⟩;rw[show(if q.drop k=r.drop k then k2 [] s else k1 [.bool false] s)=(if q.drop (k+1)=r.drop (k+1)then k2 [] s else k1 [.bool false] s)from by simp only[key2], <-ih (k+1) f (by omega) (by omega),lu];have d2:decide (q[k]=r[k])=true:=H5 e;simp[dh,p1,p3,r1,r3,d2,wr]
  .rw[Za3 (λh=>e (key.1 h).1),lu];have d2:decide (q[k]=r[k])=false:=Za1 e;simp[dh,p1,p3,r1,r3,d2]
theorem OP(hc:cr c){Q:AV}{r:List Int}(pq:QS 1 s P (q.map cq))(pr:QS 1 s Q (r.map cq))(hl:q.length<=1000000):c 21 [P,Q] s=some (.bool (decide (q=r)),s):=by
 have ln:=λ(K:AV->St->Option (AV×St))=>pq.lenB (c:=c) K s
 have lr:=λ(K:AV->St->Option (AV×St))=>pr.lenB (c:=c) K s
 rw[Za9]at ln lr;rw[Cq hc (q.length+1) (r:=(.bool (decide (q=r)),s)),aF (Plain.bool _) (bu.refl s)];rw[DY];by_cases he:q.length=r.length
 . have hi:=λk1 k2=>acO (c:=c) pq pr hl he (q.length+1) k1 k2 q.length 0 (q.length+1) (by omega) (by omega)
   simp only[Ze0,show((0:Nat):Int)=0 from rfl]at hi;simp[ln,lr,he];rw[<-he,hi];split
   .rename_i h;rw[H5 h];simp
   .rename_i h;rw[Za1 h];simp
 . have d:decide (q=r)=false:=Za1 λe=>he (by rw[e])
   have hz:¬((q.length:Int)=(r.length:Int)):=(by omega);simp[ln,lr,hz,d]
end
set_option linter.unusedSimpArgs false
structure xN(N n:Nat)(q:List Int):Prop where
 len:q.length=n
 rng:∀x∈q,-1<=x/\x<(N:Int)
 ap:∀(a b:Nat)(x:Int),a<b->q[a]? =some x->q[b]? =some x->x<0
structure Ve(p:cj)(N:Nat):Prop where
 AM:p.HL
 rs:∀r∈p.rs,r.Ok
 zJ:(iO p).2=0
 tabs:(bJ p.ts).2=0
 sum:(N:Int)=bl p.ts
 le:N<=100000
section
variable{sB s:St}{P:AV}{q:List Int}{N n:Nat}
theorem acP{tb:Pos}(hq:xN N n q)(hql:q.length<=1000)(hN:N<=100000)(pq:QS 1 sB P (q.map cq))(hge:sB.next.toNat<=tb.toNat)(w0:Wf sB)(F:Nat):
  ∀ (m k f:Nat)(s:St)(tk:List Bool),k+m=q.length->m<f->Grew sB s->s.heap.get tb=some (.cells (jY tk) 0)->tk.length=N->(∀i:Nat,tk[i]? =some true->(i:Int)∈q.take k)->∃s',Grew sB s'/\
    ∀k1 k2:Q2,qj c F k1 k2 f [.bool false,.int .i64 (N:Int),.slice tb 0 N (some N) 1,P,.int .i64 (q.length:Int),.int .i64 (k:Int)] s=k2 [] s':=by
 intro m;induction m with
 |zero=>
  intro k f s tk hk hf gr ht hl Hi;obtain⟨f,rfl⟩:∃g,f=g+1:=⟨f - 1,by omega⟩
  obtain rfl:k=q.length:=by omega
  refine⟨s,gr,λk1 k2=> ?_⟩;rw[xI];simp
 |succ m ih=>
  intro k f s tk hk hf gr ht hl Hi;obtain⟨f,rfl⟩:∃g,f=g+1:=⟨f - 1,by omega⟩
  have dh:k<q.length:=by omega
  obtain⟨pb,po,p⟩:=Vd (pq.ax gr) (H4 dh);have p1:=λ{R}=>@p.st R
  have p3:=p.one;have hxq:=hq.rng _ (Zb9 dh);have hap:=hq.ap;have wr:aq .i64 ((k:Int)+1)=((k+1:Nat):Int):=by rw[wrap64 (by omega) (by omega)];omega
  have tke:q.take (k+1)=q.take k++[q[k]]:=by rw[Zp1,H4 dh];rfl
  have hqk:q[k]? =some q[k]:=H4 dh;generalize q[k]=x at*
  by_cases h0:0<=x
  . obtain⟨i,rfl⟩:∃i:Nat,x=(i:Int):=⟨x.toNat,by omega⟩
    have hi:i<N:=(by omega);have hf0:tk[i]? =some false:=by
        rw[H4 (by omega)];cases h:tk[i]'(by omega)with
        |false=>rfl
        | true=>
          have:=Hi i (by rw[H4 (by omega),h]);obtain⟨j,hj⟩:=Zd9.1 this;rw[Zc0]at hj;(split at hj<;>first|(cases hj;done)|skip);rename_i hjk;have:=hap j k i hjk hj hqk;omega
    have ix:=λ(K:AV->St->Option (AV×St))(s1:St)=>uM c K s1 (b:=tb) (off:=0) (len:=N) (es:=1) (es':=1) (cap:=some N) (k:= .i64) (i:=i) hi
    (simp only[Zc4,Zj3]at ix;have ec:(jY tk)[i]? =some (.bool false):=(by rw[Zb8,hf0];rfl);have pt:=λ(K:AV->St->Option (AV×St))=>Pm (c:=c) K ht (o:=i) (by rw[Za9];omega) (v:= .bool true) rfl rfl);rw[show(jY tk).set i (.bool true)=jY (tk.set i true)from(Zp6).symm]at pt;have aN:=gr.wf _ _ ht;obtain⟨s',z1,z3⟩:=ih (k+1) f (cI s tb (.cells (jY (tk.set i true)) 0)) (tk.set i true) (by omega) (by omega) (uT w0 gr hge aN _) (dF _ _ _) (by simpa using hl) (λj hj=>by
        rw[tke];by_cases e:i=j
        .subst e;simp
        .rw[Zk9 e]at hj;exact Zg7 _ (Hi j hj))
    refine⟨s',z1,λk1 k2=> ?_⟩;rw[<-z3 k1 k2,xI];have d1:decide ((i:Int)= -1)=false:=Za1 (by omega);have d2:decide ((i:Int)< -1)=false:=Za1 (by omega);have d3:decide ((N:Int)<=(i:Int))=false:=Za1 (by omega);have d4:decide (N<=i)=false:=Za1 (by omega);simp[fe,dh,p1,p3,ix,pt,wr,d1,d2,d3,d4,ht,aR,ec]
  .have hx:x= -1:=(by omega);subst hx;obtain⟨s',z1,z3⟩:=ih (k+1) f s tk (by omega) (by omega) gr ht hl (λj hj=>by rw[tke];exact Zg7 _ (Hi j hj));refine⟨s',z1,λk1 k2=> ?_⟩;rw[<-z3 k1 k2,xI];have d3:decide ((N:Int)<= -1)=false:=Za1 (by omega);simp[fe,dh,p1,p3,wr,d3]
end
section
variable{s0 s:St}{Vs:List AV}{p:cj}{P:AV}{q:List Int}{N:Nat}
theorem Qf:Plain (.tuple [.int .i64 0,.int .i64 0]):= .tuple λv hv=>by simp at hv;subst hv;exact .int _ _
theorem acQ(hc:cr c)(h:PS s0 s Vs p)(ok:Ve p N)(pq:QS 1 s P (q.map cq))(hq:xN N p.gs.length q):c 122 [.agg Vs,P,.bool false] s=some (.tuple [.int .i64 0,.int .i64 0],s):=by
 have hw:=h.ax.wf;have gN:=Grew.af hw (.cells Vs 0);have h1:=h.qY gN;obtain⟨V1,V2,r1,r2,e1,e2,T,T2,e5⟩:=h1.rT;have cn:=Ri hc h1 ok.AM.ok ok.tabs e1;rw[<-ok.sum]at cn;have Vc:=ok.AM.gs;have hlq:=hq.len;have ln:=λ(K:AV->St->Option (AV×St))(s1:St)=>pq.lenB (c:=c) K s1
 rw[Za9]at ln;have lg:=λ(K:AV->St->Option (AV×St))(s1:St)=>T2.out.own.lenB (c:=c) K s1
 rw[T2.len]at lg;have hle:=ok.le;have mk:=λ(K:AV->St->Option (AV×St))=>Pk c K (af s (.cells Vs 0)) (es:=1) (bytes:=1) (z:=[.bool false]) (k:= .i64) (k':= .i64) (n:=N) (by omega) (by omega)
 rw[AY,Rx]at mk;have gT:=Grew.af gN.wf (.cells (jY (List.replicate N false)) 0);obtain⟨s',z1,z3⟩:=acP (c:=c) (n:=p.gs.length) hq (by omega) ok.le (pq.ax gN) (Za5 _) gN.wf (q.length+1) q.length 0 (q.length+1) _ (List.replicate N false) (by omega) (by omega) gT (aD _ _) (by simp) (λi hi=>by rw[List.getElem?_replicate]at hi;split at hi<;>cases hi);simp only[show((0:Nat):Int)=0 from rfl]at z3;have Rq:Vs[0]? =some V1:=e1;have e2':Vs[1]? =some V2:=e2;rw[P9 hc (q.length+1) (r:=(.tuple [.int .i64 0,.int .i64 0],s')),aF Qf (gN.trans z1).keeps];rw[UU];simp[show ∀l,AV.cells (.agg l)=l from λl=>rfl,aD,aR,Rq,e2',ln,lg,hlq,cn];rw[mk, <-hlq,z3];simp
theorem YO(hc:cr c)(h:PS s0 s Vs p)(ok:Ve p N)(pq:QS 1 s P (q.map cq))(hq:xN N p.gs.length q):c 80 [.agg Vs,P,.bool false] s=some (.tuple [.int .i64 0,.int .i64 0],s):=by
 have hw:=h.ax.wf;have gN:=Grew.af hw (.cells Vs 0);have h1:=h.qY gN;have hcut:cut Vs 0 5=some Vs:=bV h1.rT.choose_spec.choose_spec.choose_spec.choose_spec.2.2.2.2;have ck:=aax hc h1 ok.AM ok.rs;rw[ok.zJ]at ck;have kk:=acQ hc h1 ok (pq.ax gN) hq;rw[MK hc 1 (r:=(.tuple [.int .i64 0,.int .i64 0],af s (.cells Vs 0))),aF Qf gN.keeps];rw[P0];simp[show ∀l,AV.cells (.agg l)=l from λl=>rfl,aD,aR,hcut,ck,kk]
theorem Cz(hc:cr c)(h:PS s0 s Vs p)(ok:Ve p N)(pq:QS 1 s P (q.map cq))(hq:xN N p.gs.length q):c 33 [.agg Vs,P] s=some (.tuple [.int .i64 0,.int .i64 0],s):=by
 have hw:=h.ax.wf;have gN:=Grew.af hw (.cells Vs 0);have h1:=h.qY gN;have hcut:cut Vs 0 5=some Vs:=bV h1.rT.choose_spec.choose_spec.choose_spec.choose_spec.2.2.2.2;have kk:=YO hc h1 ok (pq.ax gN) hq;rw[JI hc 1 (r:=(.tuple [.int .i64 0,.int .i64 0],af s (.cells Vs 0))),aF Qf gN.keeps];rw[MI];simp[show ∀l,AV.cells (.agg l)=l from λl=>rfl,aD,aR,hcut,kk]
end
set_option linter.unusedSimpArgs false
theorem acR(q:List Int)(x:Int):decide (JT q x<0)= !q.contains x:=by unfold JT;cases h:q.contains x<;>simp
theorem Mk.aea{es:Nat}{s s':St}{v:AV}{rows:List (List AV)}(h:Mk es s s' v rows)(k:IntKind)(i:Int):∃ij,Go.Ai.tidy s (.tuple [v,.int k i],s')=(.tuple [v,.int k i],ij)/\Mk es s ij v rows:=by
 unfold Go.Ai.tidy;by_cases hp:Plain (AV.tuple [v,.int k i],s').1/\bu s (AV.tuple [v,.int k i],s').2
 . rw[  Za6 hp];refine⟨s,rfl,?_⟩;rcases h.loose with⟨b,off,n,rfl⟩|⟨hl,_⟩
   . refine(Go.Ai.mY (b:=b) (off:=off) (n:=n) (es:=es) (λρ ρ' n n' C x hx=> ?_)).elim;have:=hp.1 ρ ρ' n n' C _ (.tuple _ #[x,.int k i] rfl (λj v v' hv kA=>by
        match j with
        |0=>simp at hv kA;subst hv kA;exact hx
        |1=>simp at hv kA;subst hv kA;exact .int k i
        |j+2=>simp at hv))
     cases this with
     |tuple _ _ _ h=>exact h 0 _ x rfl rfl
   .exact hl s h.od
 .rw[Za3 hp];exact⟨s',rfl,h⟩
section
variable{s0 s sB:St}{Vs:List AV}{p:cj}{P:AV}{q:List Int}{N:Nat}
theorem G6(hc:cr c)(hw:Wf s)(pq:QS 1 s P (q.map cq))(hl:q.length<=1000):∃v s',c 17 [P] s=some (v,s')/\Mk 1 s s' v (q.map cq):=by
 have hS:Src 1 s P (q.map cq):= .inr pq;rcases hS.nil with⟨rfl,h0⟩|hn
 . (refine⟨.ah,s,?_,by rw[h0];exact Mk.start hw (Grew.refl hw)⟩;rw[rZ hc 1 (r:=(.ah,s)),aF Plain.ah (bu.refl s)];rw[uo];have e:∀(K:AV->St->Option (AV×St))(s:St),ak c (.bin .eql .slice) [.ah,.ah] s K=K (.bool true) s:=λK s=>aW c K (λH n=>rfl) s);simp[e]
 .obtain⟨v,s',a1,a2⟩:=Q4 (c:=c) (R:=AV×St) (bytes:=8) (z:=[.int .i64 0]) (λr hr=>by obtain⟨m,_,rfl⟩:=Ze5.1 hr;rfl) (by decide) (by simp;omega) (by simp;omega) s hw hS;obtain⟨ij,t1,t2⟩:=a2.tidy;refine⟨v,ij,?_,t2⟩;rw[rZ hc 1 (r:=(v,s')),t1];rw[uo];simp only[aC,hn,lf];rw[a1]
end
set_option linter.unusedSimpArgs false
theorem Vf(i x:Nat):(ic i x).qh.length<=16:=by have h1:=UW x (tN x);have h2:=OG x;show((xJ x (tN x)).map λ(k:Nat)=>(k:Int)).length<=16;rw[Za9];omega
theorem Vg(xt xg xy xr:List Nat):(ni xt xg xy xr).HL where
 ts:=by show(nQ xt _).length<=100;rw[GY];omega
 gs:=by have:=zN (uz xt xg);show(eR _).length<=100;omega
 ys:=by have:=(Rt (uz xt xg) xy).1;show(xL _ _).length<=100;omega
 cs:=by
  have:=zN (uz xt xg);show(mz xt xg xy).length<=100;unfold mz;split
  .rw[G1];show(eR _).length<=100;omega
  .exact Zh3 _
 rs:=by have:=G2 (gh xt) (kL xt xg) xr (min xr.length 12);show(uU _ _ _ _).length<=100;omega
 ok t ht:=by
  obtain⟨i,x,rfl⟩:=MN ht;have:=Vf i x;exact⟨by show(dS i).length<ov;unfold dS ov;simp,by unfold ov;omega⟩
theorem aeN(ts:List aU)(gs:List aK)(x:Nat):(fj ts gs x).1.k=((1+x % 18:Nat):Int):=by
 unfold fj GU
 repeat' split
 all_goals rfl
theorem YP{xt xg xy xr:List Nat}(hx:∀x∈xt,x<256):∀r∈(ni xt xg xy xr).rs,r.Ok/\sO (ni xt xg xy xr) r=0:=λr hr=>by obtain⟨x,h1,rfl⟩:=MP hr;refine⟨?_,aaN (p:=ni xt xg xy xr) Rw JR JQ (D7 hx) x h1⟩;have:=aeN (gh xt) (kL xt xg) x;unfold Rl.Ok;omega
theorem Ry{xt xg xy xr:List Nat}(hx:∀x∈xt,x<256):Qe (ni xt xg xy xr):=λt ht=>by
 have h1:=D7 hx t ht;have h2:=U6 t ht;exact⟨h1.1.symm,h2.1,h2.2.1,h2.2.2⟩
theorem Rz{R:Type}{s:St}{b:Pos}{Vs:List AV}(h:s.heap.get b=some (.cells Vs 0))(hl:Vs.length=5)(K:AV->St->Option R):ak c (.load (some 5)) [.ptr b 0] s K=K (.agg Vs) s:=by rw[tX,h];simp only[aR,Zd8];rw[bV hl];rfl
theorem Xf(ch:Nat->Ch):∀(m k i:Nat),(zQ ch m k)[i]? =if i<m then some (ch (k+i))else none
 |0,k,i=>by simp[zQ]
 |m+1,k,0=>by simp[zQ]
 |m+1,k,i+1=>by
  rw[zQ,Ze4,Xf ch m (k+1) i];by_cases h:i<m
  .rw[Za6 h,Za6 (by omega)];congr 2;omega
  .rw[Za3 h,Za3 (by omega)]
theorem Xg(ch:Nat->Ch):∀(m k:Nat),(zQ ch m k).length=m
 |0,k=>rfl
 |m+1,k=>by rw[zQ,Ze2,Xg ch m (k+1)]
def Fl(xt:List Nat):Nat:=(bl (gh xt)).toNat
theorem acS{xt xg xy xr:List Nat}(hx:∀x∈xt,x<256):Ve (ni xt xg xy xr) (Fl xt) where
 AM:=Vg xt xg xy xr
 rs r hr:=(YP (xg:=xg) (xy:=xy) (xr:=xr) hx r hr).1
 zJ:=YI hx
 tabs:=Rr hx
 sum:=by have:=(rP (gh xt)).1;show((bl (gh xt)).toNat:Int)=bl (gh xt);omega
 le:=by have h1:=(rP (gh xt)).2;have h2:=(Vg xt xg xy xr).ts;have h2:(gh xt).length<=100:=h2;unfold Fl;omega
theorem aaS(N n:Nat)(xs:List Int):xN N n (fE (List.replicate N false) (zQ (HP N xs) n 0)):=by
 have no:∀s,Ch.I2 s∉zQ (HP N xs) n 0:=λs h=>by
   obtain⟨i,hi⟩:=Zd9.1 h;rw[Xf]at hi;split at hi
   . simp only[H0]at hi;unfold HP at hi;split at hi
     .split at hi<;>cases hi
     .cases hi
   .cases hi
 have hs:Sat (List.replicate N false) (zQ (HP N xs) n 0):=⟨λs h=>absurd h (no s),λi j s h _=>absurd (Zb6 h) (no s)⟩
 refine⟨by rw[Ge,Xg],λx hx=> ?_,λa b x OM ha hb=> ?_⟩
 . obtain⟨i,hi⟩:=Zd9.1 hx;rcases vp _ _ hs i x hi with rfl|⟨s,rfl,h|h⟩
   .omega
   .have:=(Za0.1 h).1;simp at this;omega
   .have:=(Za0.1 h.1).1;simp at this;omega
 .have:=A3 _ _ hs a b x OM ha hb;omega
section
variable{q:List Int}{g h:Nat}
end
end
section
open Go Go.Ai Go.Proofs Go.RowKit
theorem G7{α:Type}{P:α->Prop}{cells:α->List AV}:∀(rs:List (List AV)),(∀r∈rs,∃t,r=cells t/\P t)->∃l:List α,rs=l.map cells/\∀t∈l,P t
 |[],_=>⟨[],rfl,by simp⟩
 |r::rs,h=>by
  obtain⟨t,rfl,ht⟩:=h r (by simp);obtain⟨l,rfl,hl⟩:=G7 rs (λq hq=>h q (Za7 _ hq));refine⟨t::l,rfl,λu hu=> ?_⟩;rcases Zb0.1 hu with rfl|hu
  .exact ht
  .exact hl u hu
section
variable{H:Type}{enc:TypeId×Value->H}{w:World}{base:Nat}{spare:Nat->Bool}{held:Bool}
theorem wf_u8{i:Int}(h:(Lit.int .u8 i).wf=true):0<=i/\i<256:=by
 have e1:IntKind.min .u8=0:=by decide
 have e2:IntKind.max .u8=255:=by decide
 have h:(decide (IntKind.min _<=i)&&decide (i<=IntKind.max _))=true:=h;rw[e1,e2,Za8,Zd7,Zd7]at h;omega
theorem wf_u16{i:Int}(h:(Lit.int .u16 i).wf=true):0<=i/\i<65536:=by
 have e1:IntKind.min .u16=0:=by decide
 have e2:IntKind.max .u16=65535:=by decide
 have h:(decide (IntKind.min _<=i)&&decide (i<=IntKind.max _))=true:=h;rw[e1,e2,Za8,Zd7,Zd7]at h;omega
theorem wf_u32{i:Int}(h:(Lit.int .u32 i).wf=true):0<=i/\i<4294967296:=by
 have e1:IntKind.min .u32=0:=by decide
 have e2:IntKind.max .u32=4294967295:=by decide
 have h:(decide (IntKind.min _<=i)&&decide (i<=IntKind.max _))=true:=h;rw[e1,e2,Za8,Zd7,Zd7]at h;omega
def zR(k:IntKind)(n:Nat)(vs:List AV):Prop:=∃(z:Bool) (l:List Nat),vs=[cV k z l]/\(∀x∈l,x<n)/\l.length<=9223372036854775807
theorem G8{t e:TypeId}{k:IntKind}{n:Nat}(ht:Tryz.prog.underlying t=some (.slice e))(he:Tryz.prog.underlying e=some (.int k))(hc:Tryz.prog.cellsOf e=1)(hk:∀i,(Lit.int k i).wf=true->0<=i/\i<(n:Int)):
  iU enc Tryz.prog w base spare held t (zR k n):=by
 refine iU.mono (DJ (es:=1) ht hc (by omega) (λvs h=>by obtain⟨i,rfl,_⟩:=h;rfl) (IY he)) λvs h=> ?_
 obtain⟨z,rs,rfl,h1,h2⟩:=h;obtain⟨l,rfl,hl⟩:=G7 (P:=λx:Nat=>x<n) (cells:=λx:Nat=>[AV.int k (x:Int)]) rs λr hr=>by
  obtain⟨i,rfl,hi⟩:=h1 r hr;have:=hk i hi;exact⟨i.toNat,by rw[show((i.toNat:Nat):Int)=i by omega],by omega⟩
 refine⟨z,l,rfl,hl,?_⟩;rw[Za9]at h2;unfold Go.maxLen at h2;omega
def aeO(vs:List AV):Prop:=∃(z:Bool) (l:List Int),vs=[ints z l]/\l.length<=9223372036854775807
theorem aaZ:iU enc Tryz.prog w base spare held 25 aeO:=by
 refine iU.mono (DJ (es:=1) (e:=3) (by kernel_rfl) (by kernel_rfl) (by omega) (λvs h=>by obtain⟨i,rfl,_⟩:=h;rfl) (IY (k:= .i64) (by kernel_rfl))) λvs h=> ?_
 obtain⟨z,rs,rfl,h1,h2⟩:=h;obtain⟨l,rfl,_⟩:=G7 (P:=λ_:Int=>True) (cells:=λx:Int=>[AV.int .i64 x]) rs λr hr=>by
  obtain⟨i,rfl,hi⟩:=h1 r hr;exact⟨i,rfl,trivial⟩
 refine⟨z,l,rfl,?_⟩;rw[Za9]at h2;unfold Go.maxLen at h2;omega
theorem RA:iU enc Tryz.prog w base spare held 35 (zR .u8 256):=G8 (e:=5) (by kernel_rfl) (by kernel_rfl) (by kernel_rfl) λ_ h=>wf_u8 h
theorem YQ:iU enc Tryz.prog w base spare held 36 (zR .u16 65536):=G8 (e:=57) (by kernel_rfl) (by kernel_rfl) (by kernel_rfl) λ_ h=>wf_u16 h
theorem YS:iU enc Tryz.prog w base spare held 37 (zR .u32 4294967296):=G8 (e:=110) (by kernel_rfl) (by kernel_rfl) (by kernel_rfl) λ_ h=>wf_u32 h
structure afD(xt xg xy xr:List Nat):Prop where
 t:∀x∈xt,x<256
 g:∀x∈xg,x<65536
 y:∀x∈xy,x<256
 r:∀x∈xr,x<4294967296
 lt:xt.length<=9223372036854775807
 lg:xg.length<=9223372036854775807
 ly:xy.length<=9223372036854775807
 lr:xr.length<=9223372036854775807
theorem RD:iU enc Tryz.prog w base spare held 39 λvs=>∃zt zg zy zr xt xg xy xr,vs=jG zt zg zy zr xt xg xy xr/\afD xt xg xy xr:=by
 refine iU.mono (TN [35,36,35,37] (Qs:=[zR .u8 256,zR .u16 65536,zR .u8 256,zR .u32 4294967296]) (by kernel_rfl) (by kernel_rfl) (by kernel_rfl) ⟨RA,YQ,RA,YS,trivial⟩) λvs h=> ?_
 obtain⟨ps,rfl,m0⟩:=h;obtain⟨p0,q0,rfl,⟨z1,l1,rfl,a1,b1⟩,m1⟩:=zx m0;obtain⟨p0,q0,rfl,⟨z2,l2,rfl,a2,b2⟩,m2⟩:=zx m1;obtain⟨p0,q0,rfl,⟨z3,l3,rfl,a3,b3⟩,m3⟩:=zx m2;obtain⟨p0,q0,rfl,⟨z4,l4,rfl,a4,b4⟩,m4⟩:=zx m3;obtain rfl:=TW m4;exact⟨z1,z2,z3,z4,l1,l2,l3,l4,rfl,⟨a1,a2,a3,a4,b1,b2,b3,b4⟩⟩
end
end
end Go.Proofs.YtlkadmkojjceiaaGreatDoor
section
end
namespace Go.Proofs.YtlkadmkojjceiaaGreatDoor
section
set_option linter.unusedSimpArgs false
open Go Go.Ai Go.Proofs
variable{c:ai}
theorem PS.cells{s0 s:St}{Vs:List AV}{p:cj}(h:PS s0 s Vs p):Vs.length=5/\aS Vs=true:=by
 obtain⟨G,V1,V2,V3,V4,V5,r1,r2,rfl,F1,F2,F3,F4,F5⟩:=h;have o1:=F1.out.cells.2;have o2:=F2.out.cells.2;have o3:=F3.cells.2;have o4:=F4.cells.2;have o5:=F5.cells.2;simp only[aS,Zl5]at o1 o2 o3 o4 o5;exact⟨rfl,by simp only[aS,o1,o2,o3,o4,o5,Zj4]⟩
theorem QS.beq{es:Nat}{s:St}{v:AV}{rows:List (List AV)}(h:QS es s v rows):kO v v=true:=by
 rcases h with⟨rfl,rfl⟩|⟨b,off,cap,cs,rfl,_⟩|⟨b,off,rfl,rfl⟩
 .rfl
 .cases cap<;>simp[kO,gq,Pos.beq_eq.2 rfl]
 .simp[kO,gq,Pos.beq_eq.2 rfl]
theorem lenP{R:Type}{es:Nat}{s:St}{v:AV}{rows:List (List AV)}(h:QS es s v rows)(K:AV->Option R):dQ (.lenB .l) [v] K=K (.int .i64 (rows.length:Int)):=by
 rcases h with⟨rfl,rfl⟩|⟨b,off,cap,cs,rfl,_⟩|⟨b,off,rfl,rfl⟩<;>exact bZ K (λH n=>rfl)
set_option linter.unusedSimpArgs false
def sC(f:Nat->Bool):Nat->Nat
 |0=>0
 |a+1=>sC f a+(f a).toNat
abbrev tkn(q:List Int)(i:Nat):Bool:=q.contains (i:Int)
section
variable{s0 s sB:St}{Vs:List AV}{p:cj}{P:AV}{q:List Int}{N:Nat}
end
end
end Go.Proofs.YtlkadmkojjceiaaGreatDoor
section
end
namespace Go.Proofs.YtlkadmkojjceiaaGreatDoor
section
set_option linter.unusedSimpArgs false
open Go Go.Ai Go.Proofs
variable{c:ai}
section
variable{s0 s sB:St}{Vs:List AV}{p:cj}{P:AV}{q:List Int}{N:Nat}
theorem YT(hc:cr c)(hz:Qe p)(cH:p.ts.length<=100){V1:AV}{r1:List (List AV)}(T:TS s0 sB V1 p.ts r1)(w0:Wf sB)(F:Nat):∀(m k f:Nat)(s:St),k+m=p.ts.length->m<f->Grew sB s->∃s',Grew sB s'/\∀k2:Q2,
  gR c F k2 f [.int .i64 (bl (p.ts.take k)),V1,.int .i64 (p.ts.length:Int),.int .i64 (k:Int)] s=k2 [.int .i64 (bl p.ts)] s':=by
 intro m;induction m with
 |zero=>
  intro k f s hk hf gr;obtain⟨f,rfl⟩:∃g,f=g+1:=⟨f - 1,by omega⟩
  obtain rfl:k=p.ts.length:=by omega
  refine⟨s,gr,λk2=> ?_⟩;rw[qU,Zi4];simp
 |succ m ih=>
  intro k f s hk hf gr;obtain⟨f,rfl⟩:∃g,f=g+1:=⟨f - 1,by omega⟩
  have dh:k<p.ts.length:=by omega
  have hl:k<r1.length:=by rw[T.len];exact dh
  have T':=T.ax gr;obtain⟨tv,er,hM,_⟩:=T'.rV k p.ts[k] r1[k] (H4 dh) (H4 hl);obtain⟨tb,to,rd⟩:=T'.out.own.rd T'.out.row (H4 hl);rw[er]at rd;have z:=hz _ (Zb9 dh);have et:bl (p.ts.take (k+1))=bl (p.ts.take k)+dR p.ts[k]:=(ON dh).1;have sz:=Va p.ts[k];have n1:=rP (p.ts.take k);rw[Zh6]at n1;have gN:=Grew.af gr.wf (.cells (p.ts[k].aA tv) 0);obtain⟨s',g',z2⟩:=ih (k+1) f (af s (.cells (p.ts[k].aA tv) 0)) (by omega) (by omega) (gr.trans gN);refine⟨s',g',λk2=> ?_⟩;rw[<-z2 k2,qU,et, <-z.1];have abf:aS (p.ts[k].aA tv)=true:=aU.MC _ hM.cells.2;have stn:∀(K:AV->St->Option (AV×St)),ak c (.store 7) [.ptr s.next 0,.agg (p.ts[k].aA tv)] (af s (.cells [.str [],.int .u8 0,.int .i64 0,.int .i64 0,.ah,.int .i64 0,.int .i64 0] 0)) K=K .undef (af s (.cells (p.ts[k].aA tv) 0)):=λK=>cv c K s 7 (.agg (p.ts[k].aA tv)) _ rfl rfl abf
  have zz:=z.1;obtain⟨_,⟨a1,a2⟩,b1,b2⟩:=z;generalize p.ts[k]=t at*
  have r1':=λ{R}=>@rd.st R
  have Ly:=rd.all;have c1:(t.aA tv)[1]? =some (.int .u8 t.sh):=rfl;have c2:(t.aA tv)[2]? =some (.int .i64 t.a):=rfl;have c3:(t.aA tv)[3]? =some (.int .i64 t.b):=rfl;have wr:Unit->aq .i64 ((k:Int)+1)=((k+1:Nat):Int):=λ_=>by rw[wrap64 (by omega) (by omega)];omega
  have gn:=aD s (.cells (t.aA tv) 0);obtain⟨S,hS⟩:∃S,S=bl (p.ts.take k):=⟨_,rfl⟩
  rw[<-hS]at n1 ⊢;clear z2 ih rd hM T' gN et;unfold jF at zz ⊢;by_cases h2:t.sh=2
  . (rw[Za6 h2]at zz ⊢;have w1:Unit->aq .i64 (2*t.a)=2*t.a:=λ_=>wrap64 (by omega) (by omega));have w2:Unit->aq .i64 (2*t.a+t.b)=2*t.a+t.b:=λ_=>wrap64 (by omega) (by omega)
    have w3:Unit->aq .i64 (S+(2*t.a+t.b))=S+(2*t.a+t.b):=λ_=>wrap64 (by omega) (by omega)
    simp[fe,dh,r1',Ly,stn,gn,aR,c1,c2,c3,h2,w1 (),w2 (),w3 (),wr ()]
  . rw[Za3 h2]at zz ⊢;by_cases h3:t.sh=3
    .   (rw[Za6 h3]at zz ⊢;have w1:Unit->aq .i64 (2*t.b)=2*t.b:=λ_=>wrap64 (by omega) (by omega));have w2:Unit->aq .i64 (t.a+2*t.b)=t.a+2*t.b:=λ_=>wrap64 (by omega) (by omega)
        have w3:Unit->aq .i64 (S+(t.a+2*t.b))=S+(t.a+2*t.b):=λ_=>wrap64 (by omega) (by omega)
        simp[fe,dh,r1',Ly,stn,gn,aR,c1,c2,c3,h3,w1 (),w2 (),w3 (),wr ()]
    .   (rw[Za3 h3]at zz ⊢;have w3:Unit->aq .i64 (S+t.a)=S+t.a:=λ_=>wrap64 (by omega) (by omega));have d2:decide (t.sh=2)=false:=Za1 h2;have d3:decide (t.sh=3)=false:=Za1 h3;simp[fe,dh,r1',Ly,stn,gn,aR,c1,c2,c3,d2,d3,w3 (),wr ()]
theorem YU(hc:cr c)(h:PS s0 s Vs p)(ok:Ve p N)(hz:Qe p):c 18 [.agg Vs] s=some (.int .i64 (N:Int),s):=by
 have hw:=h.ax.wf;have gN:=Grew.af hw (.cells Vs 0);have h1:=h.qY gN;obtain⟨V1,V2,r1,r2,e1,e2,T,T2,e5⟩:=h1.rT;have cH:=ok.AM.ts;have lt:=λ(K:AV->St->Option (AV×St))(s1:St)=>T.out.own.lenB (c:=c) K s1
 rw[T.len]at lt;obtain⟨s',g',z2⟩:=YT (c:=c) hc hz cH T gN.wf (p.ts.length+1) p.ts.length 0 (p.ts.length+1) _ (by omega) (by omega) (Grew.refl gN.wf);simp only[show((0:Nat):Int)=0 from rfl,List.take_zero,show bl []=0 from rfl]at z2;rw[ok.sum,Cp hc (p.ts.length+1) (r:=(.int .i64 (bl p.ts),s')),aF (Plain.int _ _) (gN.trans g').keeps];rw[DX];simp[show ∀l,AV.cells (.agg l)=l from λl=>rfl,aD,aR,e1,lt];rw[z2];simp
end
end
noncomputable section
open Go Go.Ai Go.Proofs
attribute [local go_sem ↓] bX Da ev evX Am getLT AZ Po TX zd ze Mj NX NY NZ Kg Kh Ki Kj Kk Kl N4 N6 Km Kn Ko Kp Kq Sg Si Sj
attribute [local go_sem] bX Da ev
section
variable(c:ai)(F:Nat)(x0 x1 x2 x3 x4 x5 x6 x7 x8 x9 Uf Ug:AV)(s:St)
def iD:Sh:=(sq sl (sq sl (sq sl (sq sl (sq sl (sq sl (sq (sq sl (sb (sp 0 [7,8,9,10,11,38,39,40] [(2,[7,8,9,11])] (sq sl (sq (sc sl sl) (sj [7,8,9,10,11,38,39,40] (sb (sq sl (sq (sq sl (sc sl sl)) (sq sl (sq (sq sl (sc sl sl)) (sq sl sl)))))) sl)))))) (sq sl (sq (sq sl (sc (sq sl sl) sl)) (sq sl (sq sl (sq sl (sq (sq sl (sc (sq sl sl) sl)) (sq sl (sq (sq sl (sb (sp 1 [8,9,19,21,22,168,169,170] [(1,[6]),(4,[19,21])] (sq sl (sq (sc sl sl) (sq (sb (sq sl (sq sl (sq sl (sc (sq sl sl) sl))))) sl)))))) (sq sl sl))))))))))))))))
def qk:PX 6 iD:=⟨_,by conv=>lhs;reduce⟩
def oR:PL 6 iD 1:=⟨_,by conv=>lhs;reduce⟩
def fu(k1 k4:Q2):Nat->Q2
 |0,_,_=>none
 |n+1,vs,s=>gu c F bW (fu k1 k4 n) [k1,k4] oR.1 vs s
def nS(k1 k4:Q2)(n:Nat)(vs:List AV)(s:St):=(by dsimp only[fu,oR,go_sem,Int.reduceOfNat]:fu c F k1 k4 (n+1) vs s=_)
def oU:PL 6 iD 0:=⟨_,by conv=>lhs;reduce⟩
def dO(k2:Q2):Nat->Q2
 |0,_,_=>none
 |n+1,vs,s=>gu c F bW (dO k2 n) [k2] oU.1 vs s
def eN(k2:Q2)(n:Nat)(vs:List AV)(s:St):=(by dsimp only[dO,oU,go_sem,Int.reduceOfNat]:dO c F k2 (n+1) vs s=_)
def kU:Un->List Q2->Nat->Q2
 |.z,[k2]=>dO c F k2
 |(.s .z),[k1,k4]=>fu c F k1 k4
 |_,_=>λ_=>iK
def mA:O2:=bX c F (kU c F) qk.1 [x0,x1,x2] s
def Ag:=(by dsimp only[mA,qk, ↓kU,go_sem,Int.reduceOfNat]:mA c F x0 x1 x2 s=_)
def JV:Sh:=(sq sl (sq (sq sl (sq sl (sc (sq sl sl) sl))) (sq sl (sq sl (sq (sq sl (sb (sp 0 [11,12,29,30,31] [(1,[6,7,8]),(2,[12])] (sq sl (sq (sc sl sl) (sq (sb (sq sl (sq (sb (sq sl (sc (sq sl sl) (sq sl (sc (sq sl sl) (sq sl (sc (sq sl sl) sl))))))) sl))) sl)))))) (sq sl sl))))))
def RB:PX 20 JV:=⟨_,by conv=>lhs;reduce⟩
def OQ:PL 20 JV 0:=⟨_,by conv=>lhs;reduce⟩
def xO(k1 k2:Q2):Nat->Q2
 |0,_,_=>none
 |n+1,vs,s=>gu c F bW (xO k1 k2 n) [k1,k2] OQ.1 vs s
def JW(k1 k2:Q2)(n:Nat)(vs:List AV)(s:St):=(by dsimp only[xO,OQ,go_sem,Int.reduceOfNat,Int.reduceNegSucc]:xO c F k1 k2 (n+1) vs s=_)
def JX:Un->List Q2->Nat->Q2
 |.z,[k1,k2]=>xO c F k1 k2
 |_,_=>λ_=>iK
def Qg:O2:=bX c F (JX c F) RB.1 [x0,x1,x2] s
def aaT:=(by dsimp only[Qg,RB, ↓JX,go_sem,Int.reduceOfNat,Int.reduceNegSucc]:Qg c F x0 x1 x2 s=_)
def xP:Sh:=(sq sl (sq (sq sl (sb (sp 0 [1,2,3,18,19,20] [(1,[6,7]),(2,[1,2])] (sq sl (sq (sc sl sl) (sq (sb (sq sl (sq sl (sq sl (sc (sq sl sl) sl))))) sl)))))) (sq sl (sq sl (sb (sp 1 [2,12,13] [(1,[6,7])] (sb (sq sl (sq (sq sl (sc (sq sl sl) sl)) (sq sl sl))))))))))
def JY:PX 22 xP:=⟨_,by conv=>lhs;reduce⟩
def HQ:PL 22 xP 1:=⟨_,by conv=>lhs;reduce⟩
def mR(k1:Q2):Nat->Q2
 |0,_,_=>none
 |n+1,vs,s=>gu c F bW (mR k1 n) [k1] HQ.1 vs s
def xQ(k1:Q2)(n:Nat)(vs:List AV)(s:St):=(by dsimp only[mR,HQ,go_sem,Int.reduceOfNat]:mR c F k1 (n+1) vs s=_)
def HR:PL 22 xP 0:=⟨_,by conv=>lhs;reduce⟩
def ql(k1 k2:Q2):Nat->Q2
 |0,_,_=>none
 |n+1,vs,s=>gu c F bW (ql k1 k2 n) [k1,k2] HR.1 vs s
def xR(k1 k2:Q2)(n:Nat)(vs:List AV)(s:St):=(by dsimp only[ql,HR,go_sem,Int.reduceOfNat]:ql c F k1 k2 (n+1) vs s=_)
def CA:Un->List Q2->Nat->Q2
 |.z,[k1,k2]=>ql c F k1 k2
 |(.s .z),[k1]=>mR c F k1
 |_,_=>λ_=>iK
def G9:O2:=bX c F (CA c F) JY.1 [x0,x1,x2] s
def Vh:=(by dsimp only[G9,JY, ↓CA,go_sem,Int.reduceOfNat]:G9 c F x0 x1 x2 s=_)
def D8:Sh:=(sq sl (sq sl (sq sl (sq (sq sl (sb (sp 0 [1,6,7,12,13,14] [(1,[4,5]),(2,[7])] (sq sl (sq (sc sl sl) (sj [1,6,7,12,13,14] (sb (sq sl (sq (sq sl (sc sl sl)) (sq (sq sl (sc (sq sl sl) sl)) (sq sl (sc sl sl)))))) sl)))))) (sq sl sl)))))
def LF:PX 73 D8:=⟨_,by conv=>lhs;reduce⟩
def JZ:PL 73 D8 0:=⟨_,by conv=>lhs;reduce⟩
def se(k1 k2:Q2):Nat->Q2
 |0,_,_=>none
 |n+1,vs,s=>gu c F bW (se k1 k2 n) [k1,k2] JZ.1 vs s
def lQ(k1 k2:Q2)(n:Nat)(vs:List AV)(s:St):=(by dsimp only[se,JZ,go_sem,Int.reduceOfNat,Int.reduceNegSucc]:se c F k1 k2 (n+1) vs s=_)
def D9:Un->List Q2->Nat->Q2
 |.z,[k1,k2]=>se c F k1 k2
 |_,_=>λ_=>iK
def J0:O2:=bX c F (D9 c F) LF.1 [x0,x1] s
def VM:=(by dsimp only[J0,LF, ↓D9,go_sem,Int.reduceOfNat,Int.reduceNegSucc]:J0 c F x0 x1 s=_)
end
section
variable{c:ai}(hc:cr c)(F:Nat){x0 x1 x2 x3 x4 x5 x6 x7 x8 x9 Uf Ug:AV}{s:St}{r:AV×St}
include hc
theorem yT(h:mA c F x0 x1 x2 s=some r):c 6 [x0,x1,x2] s=some (tidy s r):=hc.oL F (kU c F) iD 2 (by kernel_rfl) (λi hi=>match i,hi with|0,_=>fQ 0 (by kernel_rfl) (λ_ _ _=>by kernel_rfl) (λ_ _ _ _=>by kernel_rfl)|1,_=>fQ 1 (by kernel_rfl) (λ_ _ _=>by kernel_rfl) (λ_ _ _ _=>by kernel_rfl)|n+2,h=>absurd h (by omega)) (by kernel_rfl) h
theorem VN(h:Qg c F x0 x1 x2 s=some r):c 20 [x0,x1,x2] s=some (tidy s r):=hc.o1 F (JX c F) JV (by kernel_rfl) (by kernel_rfl) (λ_ _ _=>by kernel_rfl) (λ_ _ _ _=>by kernel_rfl) (by kernel_rfl) h
theorem Qh(h:G9 c F x0 x1 x2 s=some r):c 22 [x0,x1,x2] s=some (tidy s r):=hc.oL F (CA c F) xP 2 (by kernel_rfl) (λi hi=>match i,hi with|0,_=>fQ 0 (by kernel_rfl) (λ_ _ _=>by kernel_rfl) (λ_ _ _ _=>by kernel_rfl)|1,_=>fQ 1 (by kernel_rfl) (λ_ _ _=>by kernel_rfl) (λ_ _ _ _=>by kernel_rfl)|n+2,h=>absurd h (by omega)) (by kernel_rfl) h
theorem R1(h:J0 c F x0 x1 s=some r):c 73 [x0,x1] s=some (tidy s r):=hc.o1 F (D9 c F) D8 (by kernel_rfl) (by kernel_rfl) (λ_ _ _=>by kernel_rfl) (λ_ _ _ _=>by kernel_rfl) (by kernel_rfl) h
end
end
section
set_option linter.unusedSimpArgs false
open Go Go.Ai Go.Proofs Go.Ai.Mvs
variable{c:ai}
def fn(q:List Int)(i:Nat):Int:=q.getD i (-1)
theorem xS{q:List Int}{i:Nat}(h:i<q.length):q[i]? =some (fn q i):=by unfold fn;rw[Zb5,H4 h];rfl
theorem Fm{q:List Int}{i:Nat}(h:q.length<=i):fn q i= -1:=by unfold fn;rw[Zb5,Zb4 h];rfl
theorem OR{q:List Int}{g:Nat}(h:g<q.length)(t:Int):fn (q.set g t)=lJ (fn q) g t:=by
 funext i;unfold fn lJ;rw[Zb5,List.getElem?_set];by_cases e:i=g
 .subst e;rw[Za6 rfl,Za6 rfl,Za6 h];rfl
 .rw[Za3 (λh=>e h.symm),Za3 e];rfl
theorem aaU{q r:List Int}(h:q.length=r.length)(e:fn q=fn r):q=r:=Zi0 λi=>by
 by_cases hi:i<q.length
 .rw[xS hi,xS (h ▸hi),e]
 .rw[Zb4 (by omega),Zb4 (by omega)]
theorem Vi{q:List Int}{x:Int}(h0:0<=x):q.contains x=true↔ ∃i<q.length,fn q i=x:=by
 rw[List.contains_iff_mem,Zd9];constructor
 .intro ⟨i,hi⟩;have hl:=(Za0.1 hi).1;rw[xS hl]at hi;exact⟨i,hl,Zf5 hi⟩
 .intro ⟨i,hi,e⟩;exact⟨i,by rw[xS hi,e]⟩
theorem KA{q:List Int}{x:Int}(h0:0<=x):q.contains x=false↔ ∀i,fn q i≠x:=by
 constructor
 . intro h i e;by_cases hi:i<q.length
   .rw[(Vi h0).2 ⟨i,hi,e⟩]at h;cases h
   .rw[Fm (by omega)]at e;omega
 . intro h;cases e:q.contains x with
   |false=>rfl
   |true=>obtain⟨i,_,hi⟩:=(Vi h0).1 e;exact absurd hi (h i)
theorem xN.inj{N n:Nat}{q:List Int}(h:xN N n q):Inj n (fn q):=λi j hi hj e h0=>by
 have hl:=h.len;have gi:=xS (q:=q) (i:=i) (by omega);have gj:=xS (q:=q) (i:=j) (by omega);rcases Nat.lt_trichotomy i j with hh|hh|hh
 .have:=h.ap i j _ hh gi (by rw[gj,e]);omega
 .exact hh
 .have:=h.ap j i _ hh (by rw[gj, <-e]) gi;omega
theorem xN.fnr{N n:Nat}{q:List Int}(h:xN N n q)(i:Nat): -1<=fn q i/\fn q i<(N:Int):=by
 by_cases hi:i<q.length
 .exact h.rng _ (Zb6 (xS hi))
 .rw[Fm (by omega)];omega
theorem Xh:∀{a b:List Int},a.length=b.length->JU a b=sm a.length λi=>if fn a i=fn b i then 0 else 1
 |[],[],_=>rfl
 |x::a,y::b,h=>by have ih:=Xh (a:=a) (b:=b) (by simpa using h);rw[JU,ih,Ze2,adK];rfl
 |[],_::_,h=>by simp at h
 |_::_,[],h=>by simp at h
def sQ(q b:List Int):Nat->Nat->Int->Int×Option Int
 |0,_,w=>(w,none)
 |m+1,k,w=>if fn q k=fn b k then sQ q b m (k+1) w else if fn b k<0\/q.contains (fn b k)=false then((k:Int),some (fn b k))else sQ q b m (k+1) (if w<0 then(k:Int)else w)
theorem He{q b:List Int}(n:Nat)(hq:q.length=n):∀(m k:Nat)(w:Int),k+m=n->
  (w= -1/\(∀i<k,fn q i=fn b i)\/∃u:Nat,w=(u:Int)/\u<n/\fn q u≠fn b u)->(∀i<k,fn q i≠fn b i->0<=fn b i/\∃j<n,fn q j=fn b i)->
  (sQ q b m k w=(-1,none)/\∀i<n,fn q i=fn b i)\/
  (∃u:Nat,sQ q b m k w=((u:Int),none)/\u<n/\fn q u≠fn b u/\∀i<n,fn q i≠fn b i->0<=fn b i/\∃j<n,fn q j=fn b i)\/
  ∃u:Nat,sQ q b m k w=((u:Int),some (fn b u))/\u<n/\fn q u≠fn b u/\(0<=fn b u->∀i,fn q i≠fn b u)
 |0,k,w,hk,hw,cG=>by
  obtain rfl:k=n:=by omega
  rcases hw with⟨rfl,h⟩|⟨u,rfl,h1,h2⟩
  .exact .inl ⟨rfl,h⟩
  .exact .inr (.inl ⟨u,rfl,h1,h2,cG⟩)
 |m +   1,k ,w,hk,hw,cG=>by
  rw[sQ];by_cases e:fn q k=fn b k
  . rw[   Za6 e];refine He n hq m (k+1) w (by omega) ?_ λi hi aV=> ?_
    .   rcases hw with⟨h1,h2⟩|h
        . refine .inl ⟨h1,λi hi=> ?_⟩;by_cases u6:i=k
          .subst u6;exact e
          .exact h2 i (by omega)
        .exact .inr h
    .   by_cases u6:i=k
        .subst u6;exact absurd e aV
        .exact cG i (by omega) aV
  . rw[   Za3 e];by_cases hf:fn b k<0\/q.contains (fn b k)=false
    .   rw[Za6 hf];exact .inr (.inr ⟨k,rfl,by omega,e,λh0=>(KA h0).1 (by rcases hf with h|h;omega;exact h)⟩)
    .   rw[ Za3 hf];have hf1:0<=fn b k:=(by have:=λh=>hf (.inl h);omega);have hf2:q.contains (fn b k)=true:=by
          cases h:q.contains (fn b k)with
          |true=>rfl
          |false=>exact absurd (.inr h) hf
        refine He n hq m (k+1) _ (by omega) ?_ λi hi aV=> ?_
        . right;rcases hw with⟨rfl,h2⟩|⟨u,rfl,h1,h2⟩
          .exact⟨k,rfl,by omega,e⟩
          .rw[Za3 (by omega)];exact⟨u,rfl,h1,h2⟩
        . by_cases u6:i=k
          .subst u6;obtain⟨j,hj,hh⟩:=(Vi hf1).1 hf2;exact⟨hf1,j,by omega,hh⟩
          .exact cG i (by omega) aV
section
variable{s0 s sB:St}{A B L:AV}{q b:List Int}{N:Nat}
theorem Vj{v:AV}(h:QS 1 s v (q.map cq)){i:Nat}(hi:i<q.length):∃b o,Rd s 1 v i b o [.int .i64 (fn q i)]:=Vd h (xS hi)
theorem Mk.OW{v:AV}(h:Mk 1 s0 s v (q.map cq)){i:Nat}(hi:i<q.length)(x:Int):
   ∃b o s',Rd s 1 v i b o [.int .i64 (fn q i)]/\(∀(K:AV->St->Option (AV×St)),ak c (.store 1) [.ptr b o,.int .i64 x] s K=K .undef s')/\Mk 1 s0 s' v ((q.set i x).map cq)/\∀p y,bg v≠some p->s.heap.get p=some y->s'.heap.get p=some y:=by
 have jy:i<(q.map cq).length:=by simpa using hi
 obtain⟨b,o,cs,a1,a2,a3,a4,a5,_,a7,a8⟩:=QS.set (c:=c) (R:=AV×St) h.own h.row (by omega) jy;obtain⟨b',o',p⟩:=Vj h.own hi;have e:=a1 (λv s=>some (v,s)) .i64 s;rw[p.st c (λv s=>some (v,s)) .i64 s]at e;simp only[H0,Zb3,AV.ptr.injEq,Zk4]at e;obtain⟨rfl,rfl⟩:=e;have LY:=h.new b' a3;have aN:=h.ax.wf b' _ a4;have aaV:=h.tight b' a3;have fH:cs=(q.map cq).flatten:=by rw[a4]at aaV;injection aaV with e;injection e
 have es:(q.map cq).set i ((q.map cq)[i].set 0 (.int .i64 x))=(q.set i x).map cq:=by rw[Zp6,Zl2];rfl
 refine⟨b',o',cI s b' (.cells (aH cs (o'+0) [.int .i64 x]) 0),p,λK=> ?_,⟨h.od,uT h.od h.ax LY aN _,?_,h.new,λr hr=> ?_,h.cap,λb2 Hr=> ?_⟩,λp y hp hy=> ?_⟩
 .have e0:(AV.int IntKind.i64 x).cells=[.int .i64 x]:=rfl;have:=dN c K s 1 b' (o'+0) (.int .i64 x) cs a4 (by rw[e0];rfl) (by omega) (by rw[e0];rfl);rw[e0]at this;simpa using this
 .rw[<-es];exact a7 0 _ _ (by decide) (dF _ _ _)
 .obtain⟨y,_,rfl⟩:=Ze5.1 hr;rfl
 .have:b2=b':=(by rw[a3]at Hr;exact(Zf5 Hr).symm);subst this;rw[dF,a8 0 _ (by decide) fH,es]
 .rw[bt (λe=>hp (by rw[a3,e]))];exact hy
abbrev jJ(m:Nat×Int×Int):List AV:=[.int .i64 (m.1:Int),.int .i64 m.2.1,.int .i64 m.2.2]
structure Du(s0 s:St)(B L:AV)(q:List Int)(l:Ms):Prop where
 m1:Mk 1 s0 s B (q.map cq)
 m2:Mk 3 s0 s L (l.map jJ)
 sep:∀b,bg B=some b->bg L≠some b
theorem Du.grow{s':St}{l:Ms}(h:Du s0 s B L q l)(g:Grew s s'):Du s0 s' B L q l:=⟨h.m1.grow g,h.m2.grow g,h.sep⟩
theorem Du.push{l:Ms}(h:Du s0 s B L q l)(hn:l.length<=4000)(m:Nat×Int×Int):
  ∃s' L',(∀(K:AV->St->Option (AV×St)),ak c (.buildSlice 3 1 [.int .i64 0,.int .i64 0,.int .i64 0] [0]) [.agg (jJ m)] s (λy t=>ak c (.append 3 24) [L,y] t K)=K L' s')/\Du s0 s' B L' q (l++[m]):=by
 obtain⟨s',L',a1,a2,a3,a4⟩:=Mk.push (R:=AV×St) (c:=c) (bytes:=24) h.m2 (z:=[.int .i64 0,.int .i64 0,.int .i64 0]) (x:= .agg (jJ m)) rfl rfl rfl (by decide) (by rw[Za9];omega) (by rw[Za9];omega);refine⟨s',L',a1,h.m1.qL a2.ax λb x hb hx=>a3 b x (h.sep b hb) hx,by rw[Ze3];exact a2,λb hb iX=> ?_⟩;have:=a4 b iX;have:=h.m1.ax.wf b _ (h.m1.tight b hb);omega
theorem Du.set{l:Ms}(h:Du s0 s B L q l){i:Nat}(hi:i<q.length)(x:Int):
  ∃b o s',Rd s 1 B i b o [.int .i64 (fn q i)]/\(∀(K:AV->St->Option (AV×St)),ak c (.store 1) [.ptr b o,.int .i64 x] s K=K .undef s')/\Du s0 s' B L (q.set i x) l:=by
 obtain⟨b,o,s',a1,a2,a3,a4⟩:=Mk.OW (c:=c) h.m1 hi x;exact⟨b,o,s',a1,a2,a3,h.m2.qL a3.ax λp y hp hy=>a4 p y (λe=>h.sep p e hp) hy,h.sep⟩
theorem aeb(hc:cr c){bp:Pos}(hb:s.heap.get bp=some (.cells [A] 0))(pa:QS 1 s A (q.map cq))(pb:QS 1 s B (b.map cq))(he:q.length=b.length)(hl:q.length<=1000000)(F:Nat)(k1 k2:Q2):∀(m k f:Nat)(w:Int),k+m=q.length->m<f->
  se c F k1 k2 f [B,.func 128 [] [.ptr bp 0],.int .i64 w,A,.int .i64 (q.length:Int),.int .i64 (k:Int)] s=
    match (sQ q b m k w).2 with
    |some t=>k1 [.int .i64 (sQ q b m k w).1,.int .i64 t] s
    |none=>k2 [.int .i64 (sQ q b m k w).1] s:=by
 intro m;induction m with
 |zero=>
  intro k f w hk hf;obtain⟨f,rfl⟩:∃g,f=g+1:=⟨f - 1,by omega⟩
  obtain rfl:k=q.length:=by omega
  rw[lQ];simp[sQ]
 |succ m ih=>
  intro k f w hk hf;obtain⟨f,rfl⟩:∃g,f=g+1:=⟨f - 1,by omega⟩
  have dh:k<q.length:=by omega
  obtain⟨ab,ao,ra⟩:=Vj pa dh;obtain⟨bb,bo,rb⟩:=Vj (q:=b) (i:=k) pb (by omega);have a1:=λ{R}=>@ra.st R
  have a3:=ra.one;have b1:=λ{R}=>@rb.st R
  have b2:=λ{R}=>@rb.pr R
  have b3:=rb.one;have wh:=ad9 hc hb pa hl (fn b k);have dn:=acR q (fn b k);have wr:Unit->aq .i64 ((k:Int)+1)=((k+1:Nat):Int):=λ_=>wrap64 (by omega) (by omega)
  have ihk:=ih (k+1) f w (by omega) (by omega);have ihw:=ih (k+1) f (k:Int) (by omega) (by omega);clear ih;have aN:decide ((k:Int)<(q.length:Int))=true:=H5 (by omega);rw[sQ];by_cases e:fn q k=fn b k
  .have d:decide (fn q k=fn b k)=true:=H5 e;rw[Za6 e, <-ihk,lQ];simp[fe,aN,dh,a1,a3,b1,b3,d,wr ()]
  . have d:decide (fn q k=fn b k)=false:=Za1 e;rw[Za3 e];generalize fn q k=x at*
    generalize fn b k=y at*
    by_cases h0:y<0
    .   have d0:decide (y<0)=true:=H5 h0;rw[Za6 (.inl h0),lQ];simp[fe,aN,dh,a1,a3,b1,b2,b3,d,d0,wr ()]
    .   have d0:decide (y<0)=false:=Za1 h0;cases hcn:q.contains y
        .rw[hcn]at dn;rw[Za6 (.inr rfl),lQ];simp[fe,aN,dh,a1,a3,b1,b2,b3,d,d0,vh,wh,dn,wr ()]
        . rw[hcn]at dn;rw[Za3 (by simp[h0])];by_cases hw:w<0
          .have dw:decide (w<0)=true:=H5 hw;rw[Za6 hw, <-ihw,lQ];simp[fe,aN,dh,a1,a3,b1,b2,b3,d,d0,vh,wh,dn,dw,wr ()]
          .have dw:decide (w<0)=false:=Za1 hw;rw[Za3 hw, <-ihk,lQ];simp[fe,aN,dh,a1,a3,b1,b2,b3,d,d0,vh,wh,dn,dw,wr ()]
def bF(q b:List Int):Int×Int:=let r:=sQ q b q.length 0 (-1);(r.1,r.2.getD (-1))
theorem Xi(hc:cr c)(hw:Wf s)(pa:QS 1 s A (q.map cq))(hA:A.cells=[A])(pb:QS 1 s B (b.map cq))(he:q.length=b.length)(hl:q.length<=1000000):
  c 73 [A,B] s=some (.tuple [.int .i64 (bF q b).1,.int .i64 (bF q b).2],s):=by
 have gN:=Grew.af hw (.cells [A] 0);have si:=YM hc A s;rw[hA]at si;have ln:=λ(K:AV->St->Option (AV×St))(s1:St)=>pa.lenB (c:=c) K s1
 rw[Za9]at ln;have hi:=λk1 k2=>aeb (c:=c) hc (aD s (.cells [A] 0)) (pa.ax gN) (pb.ax gN) he hl (q.length+1) k1 k2 q.length 0 (q.length+1) (-1) (by omega) (by omega)
 simp only[show((0:Nat):Int)=0 from rfl]at hi;rw[R1 hc (q.length+1) (r:=(.tuple [.int .i64 (bF q b).1,.int .i64 (bF q b).2],af s (.cells [A] 0))),aF (.tuple λv hv=>by simp at hv;rcases hv with rfl|rfl<;>exact .int _ _) gN.keeps];rw[VM];simp[si,ln];rw[hi];unfold bF;generalize sQ q b q.length 0 (-1)=r at*
 obtain⟨r1,r2⟩:=r;cases r2<;>simp
end
set_option linter.unusedSimpArgs false
def LG(N:Nat)(l:Ms):Prop:=∀m∈l,-1<=m.2.2/\m.2.2<(N:Int)
theorem LG.snoc{N:Nat}{l:Ms}(h:LG N l){g:Nat}{x t:Int}(h1: -1<=t)(h2:t<(N:Int)):LG N (l++[(g,x,t)]):=λm hm=>by
 rcases Zd6.1 hm with hm|hm
 .exact h m hm
 .simp at hm;subst hm;exact⟨h1,h2⟩
theorem aaW{n:Nat}{r:Q}:∀{l:Ms}{q:Q},tY n q l r->∀m∈l,m.1<n
 |[],_,_,m,hm=>by cases hm
 |(g,f,t)::l,q,⟨k1,_,_,_,k5⟩,m,hm=>by
  rcases Zb0.1 hm with rfl|hm
  .exact k1
  .exact aaW k5 m hm
section
variable{s0 s sA:St}{Vs:List AV}{p:cj}{A B L:AV}{a q b:List Int}{N n:Nat}
structure Found(N n:Nat)(a b:List Int)(l:Ms):Prop where
 run:tY n (fn a) l (fn b)
 two:∀g,cm l g<=2
 WA:∀g,cm l g≠0->fn a g≠fn b g
 rg:LG N l
 least:∀S,tY n (fn a) S (fn b)->l.length<=S.length
 AM:2*l.length<=3*sm n λi=>if fn a i=fn b i then 0 else 1
theorem acT(hc:cr c)(pb:QS 1 sA B (b.map cq))(hb:xN N n b)(hn:n<=1000)(F:Nat):∀(m f:Nat)(s:St)(V L:AV)(q:List Int)(l:Ms),tZ n (fn b) (fn q)<=m->m<f->l.length+m<=4000->Du sA s V L q l->q.length=n->Inv n (fn a) (fn b) (fn q) l->LG N l->
  ∃s' L' l',Mk 3 sA s' L' (l'.map jJ)/\Found N n a b l'/\l'.length<=4000/\∀k1:Q2,mR c F k1 f [B,V,L] s=k1 [L',.int .i64 0] s':=by
 have Rf:=hb.len;intro m;induction m with
 |zero=>
  intro f s V L q l hm hf hl T hq I R;obtain⟨f,rfl⟩:∃g,f=g+1:=⟨f - 1,by omega⟩
  have hV:V.cells=[V]:=T.m1.cells.1;have st:=Xi hc T.m1.ax.wf T.m1.own hV (pb.ax T.m1.ax) (by omega) (by omega);rcases He (q:=q) (b:=b) n hq n 0 (-1) (by omega) (.inl ⟨rfl,λ_ h=>by omega⟩) (λ_ h=>by omega)with⟨e,cG⟩|⟨u,e,hu,aV,_⟩|⟨u,e,hu,aV,_⟩
  . unfold bF at st;rw[hq,e]at st;have efn:fn q=fn b:=funext λi=>by
        by_cases hi:i<n
        .exact cG i hi
        .rw[Fm (by omega),Fm (by omega)]
    obtain⟨f1,f2⟩:=I.fin hb.inj cG;refine⟨s,L,l,T.m2,⟨efn ▸I.run,I.two,I.WA,R,f1,f2⟩,by omega,λk1=> ?_⟩;rw[xQ];simp[st]
  .have:=aaf (f:=λi=>if fn q i=fn b i then 0 else if fn q i<0 then 1 else 2) hu (by rw[Za3 aV];split<;>omega);unfold tZ at hm;omega
  .have:=aaf (f:=λi=>if fn q i=fn b i then 0 else if fn q i<0 then 1 else 2) hu (by rw[Za3 aV];split<;>omega);unfold tZ at hm;omega
 |succ m ih=>
  intro f s V L q l hm hf hl T hq I R;obtain⟨f,rfl⟩:∃g,f=g+1:=⟨f - 1,by omega⟩
  have hV:V.cells=[V]:=T.m1.cells.1;have st:=Xi hc T.m1.ax.wf T.m1.own hV (pb.ax T.m1.ax) (by omega) (by omega)
  have go:∀(u:Nat)(t:Int),u<n->(c 73 [V,B] s=some (.tuple [.int .i64 (u:Int),.int .i64 t],s))->tZ n (fn b) (fn (q.set u t))<=m->Inv n (fn a) (fn b) (fn (q.set u t)) (l++[(u,fn q u,t)])-> -1<=t->t<(N:Int)->
        ∃s' L' l',Mk 3 sA s' L' (l'.map jJ)/\Found N n a b l'/\l'.length<=4000/\∀k1:Q2,mR c F k1 (f+1) [B,V,L] s=k1 [L',.int .i64 0] s':=by
    (intro u t hu st Zt I' t1 t2;obtain⟨s2,L2,p1,T2⟩:=T.push (c:=c) (by omega) (u,fn q u,t);obtain⟨b3,o3,s3,r3,w3,T3⟩:=T2.set (c:=c) (i:=u) (by omega) t;obtain⟨s',L',l',z1,z2,z3,z4⟩:=ih f s3 V L2 (q.set u t) _ Zt (by omega) (by rw[Zd2];simp;omega) T3 (by rw[Zl7];exact hq) I' (R.snoc t1 t2);refine⟨s',L',l',z1,z2,z3,λk1=> ?_⟩;obtain⟨b1,o1,r1⟩:=Vj (i:=u) T.m1.own (by omega);have q1:=λ{R}=>@r1.st R);have q2:=r1.one;have e3:=(r1.pr (λv=>some (v,s)) .i64).symm.trans (r3.pr (λv=>some (v,s)) .i64);simp only[H0,Zb3,AV.ptr.injEq,Zk4]at e3;obtain⟨rfl,rfl⟩:=e3;have fi:bY [AV.int IntKind.i64 0,AV.int IntKind.i64 0,AV.int IntKind.i64 0] [(0,1),(1,1),(2,1)] [AV.int IntKind.i64 (u:Int),AV.int IntKind.i64 (fn q u),AV.int IntKind.i64 t]=some (jJ (u,fn q u,t)):=rfl;have UJ:decide ((u:Int)<0)=false:=Za1 (by omega);simp only[jJ]at p1;rw[<-z4 k1,xQ];simp only[aG,cN,aC,jO,st,ig];simp[-aO,UJ,q1,q2,fi,p1,w3]
  rcases He (q:=q) (b:=b) n hq n 0 (-1) (by omega) (.inl ⟨rfl,λ_ h=>by omega⟩) (λ_ h=>by omega)with⟨e,cG⟩|⟨u,e,hu,aV,cG⟩|⟨u,e,hu,aV,Hf⟩
  . unfold bF at st;rw[hq,e]at st;have efn:fn q=fn b:=funext λi=>by
        by_cases hi:i<n
        .exact cG i hi
        .rw[Fm (by omega),Fm (by omega)]
    obtain⟨f1,f2⟩:=I.fin hb.inj cG;refine⟨s,L,l,T.m2,⟨efn ▸I.run,I.two,I.WA,R,f1,f2⟩,by omega,λk1=> ?_⟩;rw[xQ];simp[st]
  .unfold bF at st;rw[hq,e]at st;obtain⟨I',h0⟩:=I.wait hb.inj cG hu aV;have es:fn (q.set u (-1))=lJ (fn q) u (-1):=OR (by omega) _;have:=abT hu aV h0 (cG u hu aV).1;exact go u (-1) hu st (by rw[es];omega) (by rw[es];exact I') (by omega) (by omega)
  .unfold bF at st;rw[hq,e]at st;have I':=I.go hu aV Hf;have es:fn (q.set u (fn b u))=lJ (fn q) u (fn b u):=OR (by omega) _;have:=aer hu aV;obtain⟨x1,x2⟩:=hb.fnr u;exact go u (fn b u) hu st (by rw[es];omega) (by rw[es];exact I') x1 x2
theorem afE(hc:cr c){l:Ms}{R:Q}(pl:QS 3 sA L (l.map jJ))(hl:l.length<=4000)(hn:n<=1000)(hN:N<=100000)(hR:LG N l)(F:Nat):∀(m k f:Nat)(s:St)(V:AV)(q:List Int),k+m=l.length->m<f->Mk 1 sA s V (q.map cq)->q.length=n->tY n (fn q) (l.drop k) R->
  ∃s' V' r,Mk 1 sA s' V' (r.map cq)/\r.length=n/\fn r=R/\∀k1 k2:Q2,xO c F k1 k2 f [.int .i64 (N:Int),V,L,.int .i64 (l.length:Int),.int .i64 (k:Int)] s=k2 [V'] s':=by
 intro m;induction m with
 |zero=>
  intro k f s V q hk hf M hq hr;obtain⟨f,rfl⟩:∃g,f=g+1:=⟨f - 1,by omega⟩
  obtain rfl:k=l.length:=by omega
  rw[Zl3]at hr;refine⟨s,V,q,M,hq,hr,λk1 k2=> ?_⟩;rw[JW];simp
 |succ m ih=>
  intro k f s V q hk hf M hq hr;obtain⟨f,rfl⟩:∃g,f=g+1:=⟨f - 1,by omega⟩
  have dh:k<l.length:=by omega
  obtain⟨t1,t2⟩:=hR _ (Zb9 dh);rw[Zc5 dh]at hr;obtain⟨lb,lo,rl⟩:=(pl.ax M.ax).rd (λr hr=>by obtain⟨x,_,rfl⟩:=Ze5.1 hr;rfl) (r:=jJ l[k]) (i:=k) (by rw[Zb8,H4 dh];rfl);obtain⟨⟨g,x,t⟩,hlk⟩:∃y,y=l[k]:=⟨_,rfl⟩
  rw[<-hlk]at hr rl t1 t2;obtain⟨hg,aV,hx,Hf,hr⟩:=hr;simp only at t1 t2;have gN:=Grew.af M.ax.wf (.cells (jJ (g,x,t)) 0);have M1:=M.grow gN;obtain⟨bb,bo,s3,r3,w3,M3⟩:=Mk.OW (c:=c) M1 (i:=g) (by omega) t;obtain⟨s',V',r,z1,z2,z3,z4⟩:=ih (k+1) f s3 V (q.set g t) (by omega) (by omega) M3.1 (by rw[Zl7];exact hq) (by rw[OR (by omega)];exact hr);refine⟨s',V',r,z1,z2,z3,λk1 k2=> ?_⟩;have r1:=λ{R}=>@rl.st R
  have r2:=rl.all;have q1:=λ{R}=>@r3.pr R
  have q1':=λ{R}=>@r3.st R
  have q2:=r3.one;have ln:=λ(s1:St)(K:AV->St->Option (AV×St))=>M1.own.lenB (c:=c) K s1
  have OS:=λ(K:AV->Option (AV×St))=>lenP M1.own K
  rw[Za9]at ln OS;rw[hx]at q2;have aN:decide ((k:Int)<(l.length:Int))=true:=H5 (by omega);have yb:∀(K:AV->St->Option (AV×St)),ak c (.store 3) [.ptr s.next 0,.agg (jJ (g,x,t))] (af s (.cells [.int .i64 0,.int .i64 0,.int .i64 0] 0)) K=K .undef (af s (.cells (jJ (g,x,t)) 0)):=λK=>cv c K s 3 (.agg (jJ (g,x,t))) _ rfl rfl rfl
  have gn:=aD s (.cells (jJ (g,x,t)) 0);have d1:decide ((g:Int)<0)=false:=Za1 (by omega);have d2:decide ((q.length:Int)<=(g:Int))=false:=Za1 (by omega);have d6:decide (q.length<=g)=false:=Za1 (by omega);have d3:decide (x=t)=false:=Za1 aV;have d4:decide (t< -1)=false:=Za1 (by omega);have d5:decide ((N:Int)<=t)=false:=Za1 (by omega);have wr:Unit->aq .i64 ((k:Int)+1)=((k+1:Nat):Int):=λ_=>wrap64 (by omega) (by omega)
  rw[<-z4 k1 k2,JW];by_cases h0:0<=t
  .have d0:decide (0<=t)=true:=H5 h0;have cn:=Af hc M1.own (by omega) t;rw[(KA h0).2 (Hf h0)]at cn;simp[aN,dh,r1,r2,yb,gn,aR,d1,d2,d6,d3,d4,d5,d0,OS,ln,q1,q1',q2,cn,w3,wr ()]
  .have d0:decide (0<=t)=false:=Za1 h0;simp[aN,dh,r1,r2,yb,gn,aR,d1,d2,d6,d3,d4,d5,d0,OS,ln,q1,q1',q2,w3,wr ()]
end
set_option linter.unusedSimpArgs false
theorem Mk.acU{es:Nat}{s s':St}{v:AV}{rows:List (List AV)}(h:Mk es s s' v rows)(k j:IntKind)(i l:Int):∃ij,Go.Ai.tidy s (.tuple [v,.int k i,.int j l],s')=(.tuple [v,.int k i,.int j l],ij)/\Mk es s ij v rows:=by
 unfold Go.Ai.tidy;by_cases hp:Plain (AV.tuple [v,.int k i,.int j l],s').1/\bu s (AV.tuple [v,.int k i,.int j l],s').2
 . rw[  Za6 hp];refine⟨s,rfl,?_⟩;rcases h.loose with⟨b,off,n,rfl⟩|⟨hl,_⟩
   . refine(Go.Ai.mY (b:=b) (off:=off) (n:=n) (es:=es) (λρ ρ' n n' C x hx=> ?_)).elim;have:=hp.1 ρ ρ' n n' C _ (.tuple _ #[x,.int k i,.int j l] rfl (λj' v v' hv kA=>by
        match j' with
        |0=>simp at hv kA;subst hv kA;exact hx
        |1=>simp at hv kA;subst hv kA;exact .int k i
        |2=>simp at hv kA;subst hv kA;exact .int j l
        |j+3=>simp at hv))
     cases this with
     |tuple _ _ _ h=>exact h 0 _ x rfl rfl
   .exact hl s h.od
 .rw[Za3 hp];exact⟨s',rfl,h⟩
theorem xN.set{N n:Nat}{q:List Int}(h:xN N n q){g:Nat}{t:Int}(h1: -1<=t)(h2:t<(N:Int))(hf:0<=t->∀i,fn q i≠t):xN N n (q.set g t):=by
 refine⟨by rw[Zl7];exact h.len,λx hx=> ?_,λa b x OM ha hb=> ?_⟩
 . rcases List.mem_or_eq_of_mem_set hx with hx|rfl
   .exact h.rng x hx
   .exact⟨h1,h2⟩
 . (refine Int.not_le.1 λh0=> ?_);have nf:∀i,q[i]? =some t->t=x->False:=λi hi e=>by
     subst e;have hl:=(Za0.1 hi).1;rw[xS hl]at hi;exact hf h0 i (Zf5 hi)
   rw[List.getElem?_set]at ha hb;by_cases ea:g=a
   . subst ea;rw[Za6 rfl]at ha;rw[Za3 (by omega)]at hb;split at ha
     .  simp only[H0]at ha;subst ha;exact nf b hb rfl
     .  cases ha
   . rw[  Za3 ea]at ha;by_cases eb:g=b
     .  subst eb;rw[Za6 rfl]at hb;split at hb
        .simp only[H0]at hb;subst hb;exact nf a ha rfl
        .cases hb
     .  rw[Za3 eb]at hb;have:=h.ap a b x OM ha hb;omega
theorem aeP(l1 l2:Ms)(g:Nat):cm (l1++l2) g=cm l1 g+cm l2 g:=by
 induction l1 with
 |nil=>simp[cm]
 |cons x l ih=>rw[Ze8,cm,cm,ih];omega
section
variable{s0 s sA:St}{Vs:List AV}{p:cj}{A B L:AV}{a b q:List Int}{N n:Nat}
theorem acV{b3:Pos}(hx:s.heap.get b3=some (.cells Vs 0))(hv:Vs.length=5)(hL:QS 1 s L ([A,B].map TO))
  (c1:c 33 [.agg Vs,A] s=some (.tuple [.int .i64 0,.int .i64 0],s)) (c2:c 33 [.agg Vs,B] s=some (.tuple [.int .i64 0,.int .i64 0],s)) (F f:Nat) (k1 k2:Q2):
  ql c F k1 k2 (f+3) [A,B,.ptr b3 0,L,.int .i64 2,.int .i64 0] s=k2 [A,B] s:=by
 obtain⟨b0,o0,p0⟩:=hL.Lg (i:=0) (x:=A) rfl;obtain⟨b1,o1,p1⟩:=hL.Lg (i:=1) (x:=B) rfl;have q0:=λ{R}=>@p0.st R
 have q1:=λ{R}=>@p1.st R
 simp only[show((0:Nat):Int)=0 from rfl,show((1:Nat):Int)=1 from rfl]at q0 q1;have r0:=p0.one;have r1:=p1.one;have w1:aq .i64 (1:Int)=1:=wrap64 (by omega) (by omega);have w2:aq .i64 (2:Int)=2:=wrap64 (by omega) (by omega);have hcut:cut Vs 0 5=some Vs:=bV hv;rw[xR];simp[q0,r0,hx,aR,hcut,c1,w1];rw[xR];simp[q1,r1,hx,aR,hcut,c2,w2];rw[xR];simp
theorem acW(hc:cr c)(h:PS s0 s Vs p)(ok:Ve p N)(pa:QS 1 s A (a.map cq))(pb:QS 1 s B (b.map cq))(ha:xN N p.gs.length a)(hb:xN N p.gs.length b)(hA:A.cells=[A])(hB:B.cells=[B]):
  ∃s' L l,c 22 [.agg Vs,A,B] s=some (.tuple [L,.int .i64 0],s')/\Mk 3 s s' L (l.map jJ)/\Found N p.gs.length a b l/\l.length<=4000:=by
 have hw:=h.ax.wf;have gN:=Grew.af hw (.cells Vs 0);have gL:=Grew.af gN.wf (.cells [A,B] 0);have g2:=gN.trans gL;have h2:=h.qY g2;have Vc:=ok.AM.gs;have c1:=Cz hc h2 ok (pa.ax g2) ha;have c2:=Cz hc h2 ok (pb.ax g2) hb;have hcut:cut Vs 0 5=some Vs:=bV h.cells.1;have x3:=gL.get (aD s (.cells Vs 0));have hL:QS 1 (af (af s (.cells Vs 0)) (.cells [A,B] 0)) (.slice (af s (.cells Vs 0)).next 0 2 (some 2) 1) ([A,B].map TO):= .inr (.inl ⟨_,0,some 2,[A,B],rfl,aD _ _,by simp,rfl,.inr rfl⟩);have bs:∀(K:AV->St->Option (AV×St)),ak c (.buildSlice 1 2 [.ah] [0,1]) [A,B] (af s (.cells Vs 0)) K=K (.slice (af s (.cells Vs 0)).next 0 2 (some 2) 1) (af (af s (.cells Vs 0)) (.cells [A,B] 0)):=λK=>by
  rw[aO];have:bY (bK [AV.ah] 2) ([0,1].map λi=>(i*1,1)) [A,B]=some [A,B]:=by
   show bY [AV.ah,AV.ah] [(0,1),(1,1)] [A,B]=some [A,B];simp[bY,eH,ff,aH,hA,hB]
  rw[this];rfl
 have WO:=ha.len;obtain⟨v,s3,e3,M3⟩:=G6 (q:=a) hc g2.wf (pa.ax g2) (by omega);have I:Inv p.gs.length (fn a) (fn b) (fn a) []:=Inv.start;have ab3:=aeq (n:=p.gs.length) (b:=fn b) (q:=fn a)
 obtain⟨s',L',l',z1,z2,z3,z4⟩:=acT (c:=c) (n:=p.gs.length) (a:=a) hc (pb.ax g2) hb (by omega) 4001 (tZ p.gs.length (fn b) (fn a)) 4001 s3 v .ah a [] (Za5 _) (by omega) (by simp;omega)
  ⟨M3,Mk.start M3.od M3.ax,λb _ h=>by cases h⟩ WO I (λm hm=>by cases hm)
 have M:=z1.back hw g2;obtain⟨s4,t1,t2⟩:=Mk.aea M .i64 0;refine⟨s4,L',l',?_,t2,z2,z3⟩;rw[Qh hc 4001 (r:=(.tuple [L',.int .i64 0],s')),t1];rw[Vh];have bx:∀(K:AV->St->Option (AV×St)),ak c .box [.agg Vs] s K=K (.ptr s.next 0) (af s (.cells Vs 0)):=λK=>by simp[AV.cells]
 have ln:∀(K:AV->St->Option (AV×St))(s1:St),ak c (.lenB .l) [.slice (af s (.cells Vs 0)).next 0 2 (some 2) 1] s1 K=K (.int .i64 2) s1:=λK s1=>hL.lenB (c:=c) K s1
 rw[bx,aC,aC,aC,aC,bs,ln,aC,acV (f:=3998) x3 h.cells.1 hL c1 c2];simp only[aG,cN,aC,jO,e3,ig,z4]
theorem adi(hc:cr c)(h:PS s0 s Vs p)(ok:Ve p N)(pa:QS 1 s A (a.map cq))(ha:xN N p.gs.length a){l:Ms}{R:Q}(pl:QS 3 s L (l.map jJ))(hl:l.length<=4000)(hR:LG N l)(hr:tY p.gs.length (fn a) l R):
  ∃s' V r,c 20 [.agg Vs,A,L] s=some (.tuple [V,.int .i64 0,.int .i64 0],s')/\Mk 1 s s' V (r.map cq)/\r.length=p.gs.length/\fn r=R:=by
 have hw:=h.ax.wf;have gN:=Grew.af hw (.cells Vs 0);have h1:=h.qY gN;have Vc:=ok.AM.gs;have WO:=ha.len;have ck:=Cz hc h1 ok (pa.ax gN) ha;have hcut:cut Vs 0 5=some Vs:=bV h.cells.1;obtain⟨V1,V2,r1,r2,e1,_,T,_,_⟩:=h1.rT;have cn:=Ri hc h1 ok.AM.ok ok.tabs e1;rw[<-ok.sum]at cn;obtain⟨v,s2,e2,M2⟩:=G6 (q:=a) hc gN.wf (pa.ax gN) (by omega);obtain⟨s',V',r,z1,z2,z3,z4⟩:=afE (c:=c) (n:=p.gs.length) (N:=N) (R:=R) hc (pl.ax gN) hl (by omega) ok.le hR 4001 l.length 0 4001 s2 v a (by omega) (by omega) M2 WO (by simpa using hr);simp only[show((0:Nat):Int)=0 from rfl]at z4;have M:=z1.back hw gN;obtain⟨s3,t1,t2⟩:=Mk.acU M .i64 .i64 0 0;have ln:=λ(K:AV->St->Option (AV×St))(s1:St)=>pl.lenB (c:=c) K s1
 rw[Za9]at ln;refine⟨s3,V',r,?_,t2,z2,z3⟩;rw[VN hc 4001 (r:=(.tuple [V',.int .i64 0,.int .i64 0],s')),t1];rw[aaT];simp[show ∀l,AV.cells (.agg l)=l from λl=>rfl,aD,aR,hcut,ck,e1,cn,e2,ln];rw[z4];simp
abbrev kN(x:Nat×Nat):List AV:=[.int .u8 (x.1:Int),.int .u8 (x.2:Int)]
theorem aeQ (hc:cr c)(x7 x8:AV){st:List (Nat×Nat)}(iY:∀x∈st,x.1<256/\x.2<256)(hlen:st.length<=20)(hn:n<=1000)(hN:N<=100000)(z:Bool){a:Q}(F:Nat):∀(m k f:Nat)(s:St)(V L:AV)(q:List Int)(l:Ms),k+m=st.length->m<f->Du sA s V L q l->xN N n q->tY n a l (fn q)->LG N l->l.length<=k->
  ∃s' V' L' q' l',Du sA s' V' L' q' l'/\xN N n q'/\tY n a l' (fn q')/\LG N l'/\l'.length<=20/\∀k2:Q2,dO c F k2 f [x7,x8,V,.int .i64 (N:Int),L,ro 2 z (st.map kN),.int .i64 (st.length:Int),.int .i64 (k:Int)] s=k2 [x7,x8,V',L'] s':=by
 intro m;induction m with
 |zero=>
  intro k f s V L q l hk hf T hq hr hg hl;obtain⟨f,rfl⟩:∃g,f=g+1:=⟨f - 1,by omega⟩
  obtain rfl:k=st.length:=by omega
  refine⟨s,V,L,q,l,T,hq,hr,hg,by omega,λk2=> ?_⟩;rw[eN];simp
 |succ m ih=>
  intro k f s V L q l hk hf T hq hr hg hl;obtain⟨f,rfl⟩:∃g,f=g+1:=⟨f - 1,by omega⟩
  have dh:k<st.length:=by omega
  have hlq:=hq.len;obtain⟨b1,b2⟩:=iY _ (Zb9 dh);have ix:∀(K:AV->St->Option (AV×St))(s:St),ak c (.idxA 2 none) [ro 2 z (st.map kN),.int .i64 (k:Int)] s K=K (.fp (st.map kN) k 0) s:=λK s=>by rw[Mf,Za9,Za6 dh];rfl
  have ld:∀(K:AV->St->Option (AV×St))(s:St),ak c (.load (some 2)) [.fp (st.map kN) k 0] s K=K (.agg (kN st[k])) s:=λK s=>by
    have hcut:cut (kN st[k]) 0 2=some (kN st[k]):=bV rfl;simp[dh,hcut]
  obtain⟨⟨u,w⟩,huw⟩:∃x,x=st[k]:=⟨_,rfl⟩
  rw[<-huw]at b1 b2 ld;simp only at b1 b2;have gN:=Grew.af T.m1.ax.wf (.cells (kN (u,w)) 0);have T1:=T.grow gN;have iy:∀(K:AV->St->Option (AV×St)),ak c (.store 2) [.ptr s.next 0,.agg (kN (u,w))] (af s (.cells [.int .u8 0,.int .u8 0] 0)) K=K .undef (af s (.cells (kN (u,w)) 0)):=λK=>cv c K s 2 (.agg (kN (u,w))) _ rfl rfl rfl
  have gn:=aD s (.cells (kN (u,w)) 0);have ln:=λ(s1:St)(K:AV->St->Option (AV×St))=>T1.m1.own.lenB (c:=c) K s1
  have OS:=λ(K:AV->Option (AV×St))=>lenP T1.m1.own K
  rw[Za9,hlq]at ln OS;have aN:decide ((k:Int)<(st.length:Int))=true:=H5 (by omega);have wr:Unit->aq .i64 ((k:Int)+1)=((k+1:Nat):Int):=λ_=>wrap64 (by omega) (by omega)
  have al:∀(K:AV->St->Option (AV×St)),ak c (.alloc [.int .u8 0,.int .u8 0]) [] s K=K (.ptr s.next 0) (af s (.cells [.int .u8 0,.int .u8 0] 0)):=λK=>by simp
  by_cases h0:n=0
  .have d0:decide ((n:Int)=0)=true:=H5 (by omega);refine⟨af s (.cells (kN (u,w)) 0),V,L,q,l,T1,hq,hr,hg,by omega,λk2=> ?_⟩;rw[eN];simp only[aG,cN,oa,aN,jV,fe,ix,ld,al,iy,aC,ln,fy,d0]
  . have d0:decide ((n:Int)=0)=false:=Za1 (by omega);have i0:∀(K:AV->Option (AV×St)),dQ (.idxA 1 (some 2)) [.ptr s.next 0,.int .i64 0] K=K (.ptr s.next 0):=λK=>bZ K (λH n=>rfl)
    have i1:∀(K:AV->Option (AV×St)),dQ (.idxA 1 (some 2)) [.ptr s.next 0,.int .i64 1] K=K (.ptr s.next 1):=λK=>bZ K (λH n=>rfl)
    have l0:∀(K:AV->Option (AV×St)),kY (.load none) [.ptr s.next 0] (af s (.cells (kN (u,w)) 0)).heap (λ_=>true) K=K (.int .u8 (u:Int)):=λK=>by simp[gn,aR]
    have l1:∀(K:AV->Option (AV×St)),kY (.load none) [.ptr s.next 1] (af s (.cells (kN (u,w)) 0)).heap (λ_=>true) K=K (.int .u8 (w:Int)):=λK=>by simp[gn,aR]
    have ra:∀(K:AV->Option (AV×St)),dQ (.bin .rem .num) [.int .i64 (u:Int),.int .i64 (n:Int)] K=K (.int .i64 ((u % n:Nat):Int)):=λK=>by
        rw[yG (by omega) (by omega),Zj8]
    have rb:∀(K:AV->Option (AV×St)),dQ (.bin .rem .num) [.int .i64 (w:Int),.int .i64 ((N:Int)+1)] K=K (.int .i64 ((w % (N+1):Nat):Int)):=λK=>by
        rw[show((N:Int)+1)=((N+1:Nat):Int)by omega,yG (by omega) (by omega),Zj8]
    have Ir:u % n<n:=Zi1 _ (by omega);have HM:w % (N+1)<N+1:=Zi1 _ (by omega);generalize w % (N+1)=v at*
    generalize u % n=g at*
    obtain⟨t,ht⟩:∃t:Int,t=(v:Int) - 1:=⟨_,rfl⟩
    have t1: -1<=t:=(by omega);have t2:t<(N:Int):=(by omega);have wu:Unit->aq .i64 (u:Int)=(u:Int):=λ_=>wrap64 (by omega) (by omega)
    have ww:Unit->aq .i64 (w:Int)=(w:Int):=λ_=>wrap64 (by omega) (by omega)
    have wN:Unit->aq .i64 ((N:Int)+1)=(N:Int)+1:=λ_=>wrap64 (by omega) (by omega)
    have wt:Unit->aq .i64 ((v:Int) - 1)=t:=λ_=>by rw[wrap64 (by omega) (by omega),ht]
    obtain⟨bb,bo,r1⟩:=Vj (i:=g) T1.m1.own (by omega);have p1:=λ{R}=>@r1.st R
    have p2:=r1.one;have cont:∃s' V' L' q' l',Du sA s' V' L' q' l'/\xN N n q'/\tY n a l' (fn q')/\LG N l'/\l'.length<=20/\∀k2:Q2,dO c F k2 f [x7,x8,V,.int .i64 (N:Int),L,ro 2 z (st.map kN),.int .i64 (st.length:Int),.int .i64 ((k+1:Nat):Int)] (af s (.cells (kN (u,w)) 0))=k2 [x7,x8,V',L'] s':=
        ih (k+1) f _ V L q l (by omega) (by omega) T1 hq hr hg (by omega)
    by_cases e:fn q g=t
    .   have d1:decide (fn q g=t)=true:=H5 e;obtain⟨s',V',L',q',l',y1,y2,y3,y4,y5,y6⟩:=cont;refine⟨s',V',L',q',l',y1,y2,y3,y4,y5,λk2=> ?_⟩;rw[<-y6 k2,eN];simp[fe,aN,dh,ix,ld,iy,ln,OS,d0,h0,i0,i1,l0,l1,wu (),ww (),wN (),ra,rb,wt (),p1,p2,d1,wr ()]
    .   have d1:decide (fn q g=t)=false:=Za1 e;by_cases hc0:0<=t/\q.contains t=true
        .have d2:decide (0<=t)=true:=H5 hc0.1;have ct:=Af hc T1.m1.own (by omega) t;rw[hc0.2]at ct;obtain⟨s',V',L',q',l',y1,y2,y3,y4,y5,y6⟩:=cont;refine⟨s',V',L',q',l',y1,y2,y3,y4,y5,λk2=> ?_⟩;rw[<-y6 k2,eN];simp[fe,aN,dh,ix,ld,iy,ln,OS,d0,h0,i0,i1,l0,l1,wu (),ww (),wN (),ra,rb,wt (),p1,p2,d1,d2,ct,wr ()]
        . have Hf:0<=t->∀i,fn q i≠t:=λh1=>(KA h1).1 (by
            cases hh:q.contains t with
            |false=>rfl
            |true=>exact absurd ⟨h1,hh⟩ hc0)
          obtain⟨s3,L3,w3,T3⟩:=T1.push (c:=c) (by omega) (g,fn q g,t);obtain⟨b4,o4,s4,r4,w4,T4⟩:=T3.set (c:=c) (i:=g) (by omega) t;obtain⟨s',V',L',q',l',y1,y2,y3,y4,y5,y6⟩:=ih (k+1) f s4 V L3 (q.set g t) (l++[(g,fn q g,t)]) (by omega) (by omega) T4 (hq.set t1 t2 Hf) (by rw[OR (by omega)];exact hr.snoc Ir e Hf) (hg.snoc t1 t2) (by rw[Zd2];simp;omega);refine⟨s',V',L',q',l',y1,y2,y3,y4,y5,λk2=> ?_⟩;have e4:=(r1.pr (λv=>some (v,s)) .i64).symm.trans (r4.pr (λv=>some (v,s)) .i64);simp only[H0,Zb3,AV.ptr.injEq,Zk4]at e4;obtain⟨rfl,rfl⟩:=e4;have fi:bY [AV.int IntKind.i64 0,AV.int IntKind.i64 0,AV.int IntKind.i64 0] [(0,1),(1,1),(2,1)] [AV.int IntKind.i64 (g:Int),AV.int IntKind.i64 (fn q g),AV.int IntKind.i64 t]=some (jJ (g,fn q g,t)):=rfl;simp only[jJ]at w3;rw[<-y6 k2,eN];by_cases h1:0<=t
          .have d2:decide (0<=t)=true:=H5 h1;have ct:=Af hc T1.m1.own (by omega) t;rw[(KA h1).2 (Hf h1)]at ct;simp[-aO,fe,aN,dh,ix,ld,iy,ln,OS,d0,h0,i0,i1,l0,l1,wu (),ww (),wN (),ra,rb,wt (),p1,p2,d1,d2,ct,fi,w3,w4,wr ()]
          .have d2:decide (0<=t)=false:=Za1 h1;simp[-aO,fe,aN,dh,ix,ld,iy,ln,OS,d0,h0,i0,i1,l0,l1,wu (),ww (),wN (),ra,rb,wt (),p1,p2,d1,d2,fi,w3,w4,wr ()]
abbrev pV(o:List Int):List AV:=o.map (AV.int .i64)
theorem aeR(hc:cr c){l:Ms}(w0:Wf sA)(pl:QS 3 sA L (l.map jJ))(hl:l.length<=4000)(hn:n<=1000)(pa:QS 1 sA A (a.map cq))(pb:QS 1 sA B (b.map cq))(la:a.length=n)(lb:b.length=n)(h2:∀g,cm l g<=2)(hm:∀g,cm l g≠0->fn a g≠fn b g)(aN:∀m∈l,m.1<n)(x21:AV){ob:Pos}(hge:sA.next.toNat<=ob.toNat)(F:Nat):
  ∀(m k f:Nat)(s:St)(o:List Int),k+m=l.length->m<f->Grew sA s->s.heap.get ob=some (.cells (pV o) 0)->o.length=n->(∀g<n,o[g]? =some ((cm (l.take k) g:Nat):Int))->
  ∃s',Grew sA s'/\∀k1 k4:Q2,fu c F k1 k4 f [A,B,L,x21,.slice ob 0 n (some n) 1,L,.int .i64 (l.length:Int),.int .i64 (k:Int)] s=k4 [L,x21] s':=by
 intro m;induction m with
 |zero=>
  intro k f s o hk hf gr hO ho hv;obtain⟨f,rfl⟩:∃g,f=g+1:=⟨f - 1,by omega⟩
  obtain rfl:k=l.length:=by omega
  refine⟨s,gr,λk1 k4=> ?_⟩;rw[nS];simp
 |succ m ih=>
  intro k f s o hk hf gr hO ho hv;obtain⟨f,rfl⟩:∃g,f=g+1:=⟨f - 1,by omega⟩
  have dh:k<l.length:=by omega
  obtain⟨lb',lo,rl⟩:=(pl.ax gr).rd (λr hr=>by obtain⟨x,_,rfl⟩:=Ze5.1 hr;rfl) (r:=jJ l[k]) (i:=k) (by rw[Zb8,H4 dh];rfl);have hg:=aN _ (Zb9 dh);have etk:l.take (k+1)=l.take k++[l[k]]:=Zc9 dh;have esp:∀g,cm l g=cm (l.take (k+1)) g+cm (l.drop (k+1)) g:=λg=>by rw[<-aeP,Zj0]
  have ecm:∀g,cm (l.take (k+1)) g=cm (l.take k) g+if g=l[k].1 then 1 else 0:=λg=>by rw[etk,EC]
  obtain⟨⟨g,x,t⟩,hlk⟩:∃y,y=l[k]:=⟨_,rfl⟩
  rw[<-hlk]at rl hg ecm;simp only at hg ecm;have WE:=ecm g;rw[Za6 rfl]at WE;have WI:=h2 g;rw[esp g]at WI;have aV:=hm g (by rw[esp g];omega);have hov:=hv g hg;generalize SQ:cm (l.take k) g=cc at*
  have gN:=Grew.af gr.wf (.cells (jJ (g,x,t)) 0);have hO1:=gN.get hO;have ru:=gr.wf _ _ hO;have gn:=aD s (.cells (jJ (g,x,t)) 0);have pt:=λ(K:AV->St->Option (AV×St))=>Pm (c:=c) K hO1 (o:=g) (by rw[Za9];omega) (v:= .int .i64 ((cc:Int)+1)) rfl rfl
  rw[show(pV o).set g (.int .i64 ((cc:Int)+1))=pV (o.set g ((cc:Int)+1))from(Zp6).symm]at pt;have g3:=uT w0 (gr.trans gN) hge (gN.wf _ _ hO1) (.cells (pV (o.set g ((cc:Int)+1))) 0);have hO3:=dF (af s (.cells (jJ (g,x,t)) 0)) ob (.cells (pV (o.set g ((cc:Int)+1))) 0);have gn3:(cI (af s (.cells (jJ (g,x,t)) 0)) ob (.cells (pV (o.set g ((cc:Int)+1))) 0)).heap.get s.next=some (.cells (jJ (g,x,t)) 0):=by rw[bt (λe=>by rw[<-e]at ru;omega)];exact gn
  obtain⟨ab,ao,ra⟩:=Vj (i:=g) (pa.ax g3) (by omega);obtain⟨bb2,bo2,rb⟩:=Vj (i:=g) (pb.ax g3) (by omega);obtain⟨s',G',z⟩:=ih (k+1) f _ (o.set g ((cc:Int)+1)) (by omega) (by omega) g3 hO3 (by rw[Zl7];exact ho) (λi hi=>by
   rw[ecm i];by_cases e:i=g
   .subst e;rw[Zj9 (by omega),Za6 rfl,SQ];rfl
   .rw[Zk9 (λh=>e h.symm),Za3 e,hv i hi];rfl)
  refine⟨s',G',λk1 k4=> ?_⟩;have r1:=λ{R}=>@rl.st R
  have r2:=rl.all;have ix:=λ(K:AV->St->Option (AV×St))(s1:St)=>uM c K s1 (b:=ob) (off:=0) (len:=n) (es:=1) (es':=1) (cap:=some n) (k:= .i64) (i:=g) hg
  have ixp:=λ(K:AV->Option (AV×St))=>zL K (b:=ob) (off:=0) (len:=n) (es:=1) (es':=1) (cap:=some n) (k:= .i64) (i:=g) hg
  simp only[Zc4,Zj3]at ix ixp;have ec:(pV o)[g]? =some (.int .i64 (cc:Int)):=by rw[Zb8,hov];rfl
  have ec3:(pV (o.set g ((cc:Int)+1)))[g]? =some (.int .i64 ((cc:Int)+1)):=by rw[Zb8,Zj9 (by omega)];rfl
  have a1:=λ{R}=>@ra.pr R
  have a2:=ra.one;have b1:=λ{R}=>@rb.pr R
  have b2:=rb.one;have yb:∀(K:AV->St->Option (AV×St)),ak c (.store 3) [.ptr s.next 0,.agg (jJ (g,x,t))] (af s (.cells [.int .i64 0,.int .i64 0,.int .i64 0] 0)) K=K .undef (af s (.cells (jJ (g,x,t)) 0)):=λK=>cv c K s 3 (.agg (jJ (g,x,t))) _ rfl rfl rfl
  have Bn:decide ((k:Int)<(l.length:Int))=true:=H5 (by omega);have wr:Unit->aq .i64 ((k:Int)+1)=((k+1:Nat):Int):=λ_=>wrap64 (by omega) (by omega)
  have wc:Unit->aq .i64 ((cc:Int)+1)=(cc:Int)+1:=λ_=>wrap64 (by omega) (by omega)
  have d1:decide ((2:Int)<(cc:Int)+1)=false:=Za1 (by omega);have d2:decide (fn a g=fn b g)=false:=Za1 aV;have hO1':(af s (.cells (jJ (g,x,t)) 0)).heap.get ob=some (.cells (pV o) 0):=hO1;generalize hq1:pV o=c1 at*
  generalize hq3:pV (o.set g ((cc:Int)+1))=c3 at*
  rw[<-z k1 k4,nS];simp[Bn,dh,r1,r2,yb,gn,gn3,hO1,hO3,aR,ix,ixp,ec,ec3,wc (),pt,d1,a1,a2,b1,b2,d2,wr ()]
end
end
section
open Go Go.Ai Go.Proofs
section
variable{H:Type}{enc:TypeId×Value->H}{w:World}{base:Nat}{spare:Nat->Bool}{held:Bool}
theorem Vl:iU enc Tryz.prog w base spare held 40 λvs=>∃(z:Bool) (l:List (Nat×Nat)),vs=[ro 2 z (l.map kN)]/\∀x∈l,x.1<256/\x.2<256:=by
 refine iU.mono (DJ (es:=2) (e:=45) (by kernel_rfl) (by kernel_rfl) (by omega) (λvs h=>by obtain⟨a,b,rfl,⟨i,rfl,_⟩,⟨j,rfl,_⟩⟩:=h;rfl) (XX (e:=5) (by kernel_rfl) (by kernel_rfl) (by kernel_rfl) (IY (k:= .u8) (by kernel_rfl)))) λvs h=> ?_
 obtain⟨z,rs,rfl,h1,h2⟩:=h;obtain⟨l,rfl,hl⟩:=G7 (P:=λx:Nat×Nat=>x.1<256/\x.2<256) (cells:=kN) rs λr hr=>by
  obtain⟨a,b,rfl,⟨i,rfl,hi⟩,⟨j,rfl,hj⟩⟩:=h1 r hr;have hi:=wf_u8 hi;have hj:=wf_u8 hj;exact⟨(i.toNat,j.toNat),by simp only[kN];rw[show((i.toNat:Nat):Int)=i by omega,show((j.toNat:Nat):Int)=j by omega];rfl,by simp only;omega⟩
 exact⟨z,l,rfl,hl⟩
end
end
section
set_option linter.unusedSimpArgs false
open Go Go.Ai Go.Proofs Go.Ai.Mvs
variable{c:ai}
theorem Vk(n:Nat):bK [AV.int .i64 0] n=pV (List.replicate n 0):=by
 rw[AY];unfold pV;rw[List.map_replicate]
theorem OT(hc:cr c){xt xg xy xr:List Nat}(ht:∀x∈xt,x<256)(hg:∀x∈xg,x<65536)(hy:∀x∈xy,x<256)(hr:∀x∈xr,x<4294967296)(lt:xt.length<=9223372036854775807)(lg:xg.length<=9223372036854775807)(lr:xr.length<=9223372036854775807)(ly:xy.length<=9223372036854775807)
  (zt zg zy zr z z2:Bool) (xs:List Int) (ws:List (Nat×Nat)) (hx:xs.length<=9223372036854775807) (hws:∀x∈ws,x.1<256/\x.2<256) (st:St) (hw:Wf st):
  c 6 [.agg (jG zt zg zy zr xt xg xy xr),ints z xs,ro 2 z2 (ws.map kN)] st=some (.bool true,st):=by
 have g1:=Grew.af hw (.cells (jG zt zg zy zr xt xg xy xr) 0);obtain⟨Vs,s2,M,P⟩:=ad6 hc ht hg hy hr lt lg lr ly zt zg zy zr _ g1.wf;obtain⟨vl,vo⟩:=P.cells;have gB:=Grew.af P.ax.wf (.cells Vs 0);have st5:∀(K:AV->St->Option (AV×St)),ak c (.store 5) [.ptr s2.next 0,.agg Vs] (af s2 (.cells [.ah,.ah,.ah,.ah,.ah] 0)) K=K .undef (af s2 (.cells Vs 0)):=λK=>cv c K s2 5 (.agg Vs) _ vl rfl vo
 have P3:=P.qY gB;have ok:=acS (xg:=xg) (xy:=xy) (xr:=xr) ht;have hN:=ok.le;have Vc:=ok.AM.gs;obtain⟨s4,v,Se,Mq⟩:=aaR hc P3 (Ry ht) ok.AM.ts ok.AM.gs ok.sum z xs hx;have hq:=aaS (Fl xt) (ni xt xg xy xr).gs.length xs;generalize fE (List.replicate (Fl xt) false) (zQ (HP (Fl xt) xs) (ni xt xg xy xr).gs.length 0)=q at*
 obtain⟨n,hn⟩:∃n,n=(ni xt xg xy xr).gs.length:=⟨_,rfl⟩
 have hql:=hq.len;rw[<-hn]at Vc;have hvc:v.cells=[v]:=by rcases QS.cells Mq.own with⟨h,_⟩;exact h
 have P4:=P3.qY Mq.ax;obtain⟨w,s5,Cl,Mw⟩:=G6 (q:=q) hc P4.ax.wf Mq.own (by omega);have P5:=P4.qY Mw.ax;have si:=YU hc P5 ok (Ry ht);have T0:Du s4 s5 w .ah q []:=⟨Mw,Mk.start Mw.od Mw.ax,λb _ h=>by cases h⟩
 have UY:∀x∈ws.take (min ws.length 20),x.1<256/\x.2<256:=λx hx=>hws x (Zn6 hx)
 have hwl:(ws.take (min ws.length 20)).length<=20:=by rw[Zh6];omega
 obtain⟨z3,tk⟩:∃z3,∀(K:AV->St->Option (AV×St))(s:St),ak c (.sliceL 2 false true false) [ro 2 z2 (ws.map kN),.int .i64 ((min ws.length 20:Nat):Int)] s K=K (ro 2 z3 ((ws.take (min ws.length 20)).map kN)) s:=by refine⟨z2&&(ws.map kN).isEmpty,λK s=> ?_⟩;rw[ZZ,Za9,Za6 (Nat.min_le_left _ _), <-Zn1];rfl
 obtain⟨s6,V',L',b,l,T,hb,bN,hRg,hll,A0⟩:=aeQ (c:=c) (n:=n) (N:=Fl xt) (a:=fn q) hc (.ptr s2.next 0) v UY hwl (by omega) hN z3 5000 (ws.take (min ws.length 20)).length 0 5000 s5 w .ah q [] (by omega) (by omega) T0 (hn ▸hq) rfl (λm hm=>by cases hm) (Zh3 _);simp only[show((0:Nat):Int)=0 from rfl]at A0;have KS:=hb.len;have hVc:V'.cells=[V']:=T.m1.cells.1;have g46:=T.m1.ax;have P6:=P4.qY g46;have q6:=Mq.own.ax g46;obtain⟨s7,E1,r1,D1,M7,r1l,r1f⟩:=adi (a:=q) hc P6 ok q6 hq T.m2.own (by omega) hRg (hn ▸bN);obtain rfl:r1=b:=aaU (by omega) r1f;have eq1:=OP hc M7.own (T.m1.own.ax M7.ax) (by omega);rw[H5 rfl]at eq1;have P7:=P6.qY M7.ax;obtain⟨s8,PL,l2,Mo,M8,fo,l2l⟩:=acW (a:=q) (b:=r1) hc P7 ok (q6.ax M7.ax) (T.m1.own.ax M7.ax) hq (hn ▸hb) hvc hVc;rw[<-hn]at fo;have P8:=P7.qY M8.ax;have g78:=M7.ax.trans M8.ax;obtain⟨s9,E2,r2,D2,M9,r2l,r2f⟩:=adi (a:=q) hc P8 ok (q6.ax g78) hq M8.own l2l fo.rg (hn ▸fo.run);obtain rfl:r2=r1:=aaU (by omega) r2f;have Xj:=g78.trans M9.ax;have eq2:=OP hc M9.own (T.m1.own.ax Xj) (by omega);rw[H5 rfl]at eq2;have mv:=YN hc (q6.ax Xj) (T.m1.own.ax Xj) (by omega) (by omega);rw[Xh (by omega),show q.length=n by omega]at mv;have f1:l2.length<=l.length:=fo.least l bN;have f2:=fo.AM;have f3:sm n (λi=>if fn q i=fn r2 i then 0 else 1)<=l2.length:=by
  rw[fo.run.len];refine XY λi hi=> ?_
  split
  .exact Zh3 _
  .rename_i aV;exact fo.run.once aV
 generalize sm n (λi=>if fn q i=fn r2 i then 0 else 1)=D at*
 have mk:=λ(K:AV->St->Option (AV×St))=>Pk c K s9 (es:=1) (bytes:=8) (z:=[.int .i64 0]) (k:= .i64) (k':= .i64) (n:=n) (by omega) (by omega)
 rw[Vk]at mk;have gA:=Grew.af M9.ax.wf (.cells (pV (List.replicate n 0)) 0);obtain⟨s10,G10,A1⟩:=aeR (c:=c) (n:=n) (a:=q) (b:=r2) (l:=l2) hc M9.ax.wf (M8.own.ax M9.ax) l2l (by omega) (q6.ax Xj) (T.m1.own.ax Xj) (by omega) (by omega) fo.two fo.WA (aaW fo.run) (.int .i64 (D:Int)) (Za5 s9.next.toNat) 5000 l2.length 0 5000 _ (List.replicate n 0) (by omega) (by omega) gA (aD _ _) (by simp) (λg hg=>by rw[List.getElem?_replicate,Za6 hg];rfl);simp only[show((0:Nat):Int)=0 from rfl]at A1;have aw:=aaw hc s10;generalize hc0:pV (List.replicate n 0)=c0 at*
 have G:=(g1.trans P.ax).trans ((gB.trans Mq.ax).trans (g46.trans (Xj.trans G10)));have x5:=aD s2 (.cells Vs 0);have x54:=Mq.ax.get x5;have x55:=Mw.ax.get x54;have x56:=g46.get x54;have x57:=M7.ax.get x56;have x58:=M8.ax.get x57;have ln:=λ(s1:St)(K:AV->St->Option (AV×St))=>Mq.own.lenB (c:=c) K s1
 have lnL:=λ(s1:St)(K:AV->St->Option (AV×St))=>T.m2.own.lenB (c:=c) K s1
 have lnP:=λ(s1:St)(K:AV->St->Option (AV×St))=>M8.own.lenB (c:=c) K s1
 rw[Za9]at ln lnL lnP;rw[show q.length=n by omega]at ln;have ld4:∀(K:AV->St->Option (AV×St)),ak c (.load (some 4)) [.ptr st.next 0] (af st (.cells (jG zt zg zy zr xt xg xy xr) 0)) K=K (.agg (jG zt zg zy zr xt xg xy xr)) (af st (.cells (jG zt zg zy zr xt xg xy xr) 0)):=λK=>by rw[tX,aD];rfl
 have al:∀(K:AV->St->Option (AV×St)),ak c (.alloc [.ah,.ah,.ah,.ah,.ah]) [] s2 K=K (.ptr s2.next 0) (af s2 (.cells [.ah,.ah,.ah,.ah,.ah] 0)):=λK=>by simp
 have bx:∀(K:AV->St->Option (AV×St)),ak c .box [.agg (jG zt zg zy zr xt xg xy xr)] st K=K (.ptr st.next 0) (af st (.cells (jG zt zg zy zr xt xg xy xr) 0)):=λK=>by simp[AV.cells]
 have l5:∀(K:AV->St->Option (AV×St)),ak c (.load (some 5)) [.ptr s2.next 0] (af s2 (.cells Vs 0)) K=K (.agg Vs) (af s2 (.cells Vs 0)):=λK=>Rz x5 vl K
 have l55:∀(K:AV->St->Option (AV×St)),ak c (.load (some 5)) [.ptr s2.next 0] s5 K=K (.agg Vs) s5:=λK=>Rz x55 vl K
 have lw:∀(K:AV->St->Option (AV×St))(s:St),ak c (.lenB .l) [ro 2 z2 (ws.map kN)] s K=K (.int .i64 (ws.length:Int)) s:=λK s=>by rw[jv,Za9]
 have lw3:∀(K:AV->St->Option (AV×St))(s:St),ak c (.lenB .l) [ro 2 z3 ((ws.take (min ws.length 20)).map kN)] s K=K (.int .i64 ((ws.take (min ws.length 20)).length:Int)) s:=λK s=>by rw[jv,Za9]
 have mn:∀(K:AV->St->Option (AV×St))(s:St),ak c .minB [.int .i64 (ws.length:Int),.int .i64 20] s K=K (.int .i64 ((min ws.length 20:Nat):Int)) s:=λK s=>by rw[aW c K (λH n=>Pj H n .i64 .i64 (ws.length:Int) 20) s];congr 2;omega
 rw[yT hc 5000 (r:=(.bool true,s10)),aF (Plain.bool _) G.keeps];rw[Ag];rw[bx,aC,ld4,jO,M,ig,al,st5,l5,aC,jO,Se,ig,aC,aC,jO,Cl,ig,aC,l55,jO,si,ig,aC,aC,aC,aC,lw,mn,tk,lw3,aC,A0];have hcut:cut Vs 0 5=some Vs:=bV vl;have d1:decide ((l.length:Int)<(l2.length:Int))=false:=Za1 (by omega);have d2:decide ((l2.length:Int)<(D:Int))=false:=Za1 (by omega);have d3:decide ((l2.length:Int)=0)=decide ((D:Int)=0):=decide_eq_decide.2 (by omega);have d1':decide (l.length<l2.length)=false:=Za1 (by omega);have d2':decide (l2.length<D)=false:=Za1 (by omega);have w1:Unit->aq .i64 (2*(l2.length:Int))=2*(l2.length:Int):=λ_=>wrap64 (by omega) (by omega)
 have w2:Unit->aq .i64 (3*(D:Int))=3*(D:Int):=λ_=>wrap64 (by omega) (by omega)
 have d4:decide (2*(l2.length:Int)<=3*(D:Int))=true:=H5 (by omega);have nb:∀(x y:Bool)(K:AV->St->Option (AV×St))(s:St),ak c (.bin .neq .bool) [.bool x,.bool y] s K=K (.bool (x !=y)) s:=λx y K s=>aW c K (λH n=>rfl) s
 have d5:(decide ((l2.length:Int)=0) !=decide ((D:Int)=0))=false:=by rw[d3];cases decide ((D:Int)=0)<;>rfl
 have hz1:(l2.length=0)=(D=0):=propext (by omega);have hz:(l2=[])=(D=0):=propext (by rw[<-List.length_eq_zero_iff];omega);simp[x56,x57,x58,aR,hcut,D1,eq1,Mo,D2,mv,eq2,lnL,lnP,ln,d1,d1',d2,d2',nb,hz,hz1,d5,mk,A1,w1 (),w2 (),d4,aw]
end
end Go.Proofs.YtlkadmkojjceiaaGreatDoor
namespace Go.Proofs.YtlkadmkojjceiaaGreatDoor.tS
section
open Go
theorem k1:(Rows.planArrivesRow.inPlace==Tryz.pinned.checked.prog.inPlace 6)=true:=by kernel_rfl
theorem k2:(Rows.planArrivesRow.unfollowed==Tryz.pinned.checked.prog.unfollowed 6)=true:=by kernel_rfl
theorem k3:(Rows.planArrivesRow.recurses==Tryz.pinned.checked.prog.recurses 6)=true:=by kernel_rfl
theorem k4:(Rows.planArrivesRow.named==Tryz.pinned.checked.prog.varsNamed 6)=true:=by kernel_rfl
theorem k5:laidOutB Tryz.pinned.checked.prog=true:=by kernel_rfl
theorem k6:mapsRowed Tryz.pinned.checked.prog=true:=by kernel_rfl
theorem k7:(Rows.planArrivesRow.plainKeys==Tryz.pinned.checked.prog.plainKeys)=true:=by kernel_rfl
theorem closed:joinedFacts Tryz.pinned.checked.prog 6 Tryz.f6 (OpenSpec.ofChange Rows.planArrivesSpec).bare Rows.planArrivesRow=true:=by
 unfold joinedFacts;rw[k1,k2,k3,k4,k5,k6,k7]
 kernel_rfl
end
end Go.Proofs.YtlkadmkojjceiaaGreatDoor.tS
