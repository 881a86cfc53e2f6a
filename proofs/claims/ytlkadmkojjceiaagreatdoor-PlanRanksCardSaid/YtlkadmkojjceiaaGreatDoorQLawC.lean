/- Functions of the program, plainly, and what they answer. -/
import Derived.Test.YtlkadmkojjceiaaGreatDoorQLawB
import Derived.Test.YtlkadmkojjceiaaGreatDoorRows
import Derived.Deep.DeepHandedRow
set_option linter.all false
set_option maxRecDepth 100000
set_option maxHeartbeats 4000000
namespace Go.Proofs.YtlkadmkojjceiaaGreatDoor
section
open Go Go.Ai Go.Proofs
theorem ze{P:Nat->Bool}:∀(m k i:Nat),k<=i->i<k+m->P i=true->0<=scan P m k
 |0,_,_,_,_,_=>by omega
 |m +   1,k,i,h1,h2,hp=>by
  unfold scan;split
  .omega
  . rename_i hk;exact ze m (k+1) i (by
        rcases Zi0 k i with h|h
        .omega
        .obtain rfl:i=k:=(by omega);exact absurd hp hk) (by omega) hp
theorem US{ts:List aU}(h1:∀t∈ts,sY t=0)(h2:∀(i j:Nat)(a b:aU),i<j->ts[i]? =some a->ts[j]? =some b->a.name≠b.name):∀m k,(gj ts m k).2=0
 |0,_=>rfl
 |m+    1,k=>by
  unfold gj;cases e:ts[k]? with
  |none=>rfl
  |some t=>
   have ht:sY t=0:=h1 t (Zb5 e);simp only;rw[Za5 (by simp[ht]),Za5]
   .    exact US h1 h2 m (k+1)
   .    intro hs;obtain⟨_,aT,hp⟩:=xZ k 0 hs;generalize (scan (nW ts t.name) k 0).toNat=i at*
        unfold nW at hp;obtain⟨a,ha,hb⟩:=Ze1.1 (Zg8 hp);exact h2 i k a t (by omega) ha e hb
theorem UT{gs:List aM}(h1:∀g∈gs,eM g=0)(h2:∀(i j:Nat)(a b:aM),i<j->gs[i]? =some a->gs[j]? =some b->a.name≠b.name)(hl:gs.length<=64):∀m k,(gq gs m k).2=0
 |0,_=>rfl
 |m+    1,k=>by
  unfold gq;cases e:gs[k]? with
  |none=>rfl
  |some t=>
   have ht:eM t=0:=h1 t (Zb5 e);have hk:k<gs.length:=(Za3.1 e).1;simp only;rw[Za5 (by simp[ht]),Za5,Za5 (by omega)]
   .    exact UT h1 h2 hl m (k+1)
   .    intro hs;obtain⟨_,aT,hp⟩:=xZ k 0 hs;generalize (scan (fy gs t.name) k 0).toNat=i at*
        unfold fy at hp;obtain⟨a,ha,hb⟩:=Ze1.1 (Zg8 hp);exact h2 i k a t (by omega) ha e hb
theorem UU{gs:List aM}{ts:List Ty}(h:∀(k:Nat)(t:Ty),ts[k]? =some t->Ks t (jz ts k)=false/\iW gs t=false/\mO t (jz ts k)=false/\k<256):∀m k,(ej gs ts m k).2=0
 |0,_=>rfl
 |m+1,k=>by
  unfold ej;cases e:ts[k]? with
  |none=>rfl
  |some t=>
   obtain⟨a,b,d,f⟩:=h k t e;simp only;rw[Za5 (by simp[a]),Za5 (by simp[b]),Za5 (by simp[d]),Za5 (by omega)];exact UU h m (k+1)
theorem P0{l:List Nat}{n:Nat}(h:∀x∈l,x<n)(h0:0<n)(i:Nat):l.getD i 0<n:=by
 rw[Zb4];cases e:l[i]? with
 |none=>simpa using h0
 |some x=>simpa using h x (Zb5 e)
theorem mT{α:Type}{f:Nat->α}{k i:Nat}{t:α}(h:((List.range k).map f)[i]? =some t):i<k/\t=f i:=by
 have hi:i<k:=by simpa using(Za3.1 h).1
 rw[Zc1,Zm0 hi,Ze8,H4]at h;exact⟨hi,h.symm⟩
theorem aeJ:∀i<3,∀x<256,sY (ir i x)=0:=by decide+kernel
theorem aaG:∀x<256,eD (ir 0 x)=((tN x:Nat):Int):=by decide+kernel
theorem Rj{xt:List Nat}(hx:∀x∈xt,x<256):(bH (gu xt)).2=0:=by
 unfold bH;rw[Za5 (by unfold gu;rw[GY];omega)];refine US (λt ht=> ?_) (λi j a b WS ha hb e=> ?_) _ _
 .obtain⟨i,hi⟩:=Zf5.1 ht;obtain⟨h1,rfl⟩:=mT hi;exact aeJ i (by omega) _ (P0 hx (by omega) i)
 .obtain⟨h1,rfl⟩:=mT ha;obtain⟨h2,rfl⟩:=mT hb;have e:dS i=dS j:=e;unfold dS at e;simp only[Zh2,Zm2,true_and]at e;omega
theorem YA(p:Prop)[Decidable p](i:Nat):ki (if p then br i else [])=true:=by
 split
 .unfold ki;rw[PY];simp
 .rfl
theorem aeK:∀a b d e:Bool,(wG none (((if a=true then [0]else [])++(if b=true then [1]else [])++(if d=true then [2]else [])++(if e=true then [3]else [])).map br)=true/\(((if a=true then [0]else [])++(if b=true then [1]else [])++(if d=true then [2]else [])++(if e=true then [3]else [])).map br:List (List Nat)).length<=4):=by decide+kernel
theorem afz(x:Nat):wG none (xI x 4)=true/\(xI x 4).length<=4:=by
 have e:xI x 4=(((if B8 x 0=true then [0]else [])++(if B8 x 1=true then [1]else [])++(if B8 x 2=true then [2]else [])++(if B8 x 3=true then [3]else [])).map br):=by
  unfold xI;rw[show List.range 4=[0,1,2,3]from rfl];cases h0:B8 x 0<;>cases h1:B8 x 1<;>cases h2:B8 x 2<;>cases h3:B8 x 3<;>simp[h0,h1,h2,h3]
 rw[e];exact aeK _ _ _ _
theorem aeL(i x:Nat):eM (tq i x)=0:=by
 have t:=afz x;have n:eP (tq i x).name=true:=PY _;have a:ki (tq i x).sZ=true:=YA (x % 2=1) _;have b:ki (tq i x).nE=true:=YA (4<x % 8) _;have d:ki (tq i x).kV=true:=YA (x % 3=2) _;unfold eM;rw[Za5 (by rw[n,a,b,d];simp),Za5 (by show ¬ ¬(0<=((x % 4*500:Nat):Int)/\((x % 4*500:Nat):Int)<=9999);omega),
  Za5 (by show ¬ ¬(0<=((x % 3:Nat):Int)/\((x % 3:Nat):Int)<=2);omega),Za5 (by show ¬4<(xI x 4).length;omega),Za5 (by show ¬wG none (xI x 4)=false;rw[t.1];simp)]
theorem G8{a b:Nat}(ha:a<676)(hb:b<676)(h:br a=br b):a=b:=by unfold br at h;simp only[Zh2,Zm2]at h;omega
theorem zf{a b:Nat}(ha:a<676)(hb:b<676):ay (br a) (br b)=decide (a<b):=by
 unfold br;simp only[ay,Ap,cQ];by_cases h1:97+a / 26 % 26<97+b / 26 % 26
 .rw[Za0 h1,Za0 (show a<b by omega)]
 . rw[  Za2 h1];by_cases h2:97+a / 26 % 26=97+b / 26 % 26
   . rw[Za0 h2];by_cases h3:97+a % 26<97+b % 26
     .  rw[Za0 h3,Za0 (show a<b by omega)]
     .  rw[Za2 h3,Za2 (show ¬a<b by omega)];simp only;split<;>rfl
   .rw[Za2 h2,Za2 (show ¬a<b by omega)]
theorem Fh{i:Nat}(h:i<12):yd i=25*i:=by
 have:∀i<12,yd i=25*i:=by decide+kernel
 exact this i h
theorem ad1(xs:List Nat):(gq (eN xs) 101 0).2=0:=by
 refine UT (λg hg=> ?_) (λi j a b WS ha hb e=> ?_) (by have:=zd xs;omega) _ _
 .obtain⟨i,hi⟩:=Zf5.1 hg;obtain⟨h1,rfl⟩:=mT hi;exact aeL _ _
 .obtain⟨h1,rfl⟩:=mT ha;obtain⟨h2,rfl⟩:=mT hb;have e:br (yd i)=br (yd j):=e;rw[Fh (by omega),Fh (by omega)]at e;have:=G8 (by omega) (by omega) e;omega
theorem vn{xs:List Nat}{a:Nat}(ha:a<676)(h:br a∈jD (eN xs)):∃i,i<12/\a=25*i/\∃j,j<(eN xs).length/\fy (eN xs) (br a) j=true:=by
 unfold jD at h;obtain⟨g,hg,e⟩:=Zg0.1 h;obtain⟨i,hi⟩:=Zf5.1 hg;have hl:=(Za3.1 hi).1;obtain⟨h1,rfl⟩:=mT hi;have e:br (yd i)=br a:=e;have e2:=e;rw[Fh (by omega)]at e;have:=G8 (by omega) ha e;refine⟨i,by omega,this.symm,i,hl,?_⟩;unfold fy;rw[hi];exact Za0 (congrArg some e2)
def zC(p:Nat×Nat×Int):Ty:=⟨br p.1,br p.2.1,p.2.2⟩
def Cb(p:Nat×Nat×Int):Nat:=p.1*312+p.2.1
def LC(names:List (List Nat))(ys:List Ty)(q:Nat):Prop:=
 ∃ps:List (Nat×Nat×Int),ys=ps.map zC/\(∀p∈ps,p.1<p.2.1/\p.2.1<312/\br p.1∈names/\br p.2.1∈names/\(p.2.2=1\/p.2.2=2)/\Cb p<q)/\ps.Pairwise λa b=>Cb a<Cb b
theorem LC.up{names:List (List Nat)}{ys:List Ty}{q q':Nat}(h:LC names ys q)(hq:q<=q'):LC names ys q':=by
 obtain⟨ps,e,h1,h2⟩:=h;exact⟨ps,e,λp hp=>by obtain⟨a,b,d,f,g,i⟩:=h1 p hp;exact⟨a,b,d,f,g,by omega⟩,h2⟩
theorem LC.next{names:List (List Nat)}{bg:List Nat}{ys:List Ty}{i k n:Nat}(h:LC names ys (i*312+k))(hk:k<312)(Cw:i<k)(hi:br i∈names)(iu:br k∈names):LC names (yf bg i k n ys) (i*312+(k+1)):=by
 unfold yf;split
 . rename_i hc;obtain⟨ps,e,h1,h2⟩:=h;unfold UP at hc;simp only[Za8,Zd1]at hc;refine⟨ps++[(i,k,1+((bg.getD n 0 % 4:Nat):Int))],by rw[Ze2,e];rfl,λp hp=> ?_,?_⟩
   . rcases Zc9.1 hp with hp|hp
     .  obtain⟨a,b,d,f,g,j⟩:=h1 p hp;exact⟨a,b,d,f,g,by omega⟩
     .  simp only[Zb1,Ze6,Zj6]at hp;subst hp;exact⟨Cw,hk,hi,iu,by show 1+((bg.getD n 0 % 4:Nat):Int)=1\/1+((bg.getD n 0 % 4:Nat):Int)=2;omega,by show i*312+k<_;omega⟩
   .rw[List.pairwise_append];refine⟨h2,List.pairwise_singleton _ _,λa ha b hb=> ?_⟩;simp only[Zb1,Ze6,Zj6]at hb;subst hb;exact(h1 a ha).2.2.2.2.2
 .exact h.up (by omega)
theorem MO{names:List (List Nat)}{bg:List Nat}{i:Nat}:∀(m k n:Nat)(ys:List Ty),k+m<=312->i<k->LC names ys (i*312+k)->LC names (jE names bg i m k n ys).2 (i*312+312)
 |0,k,n,ys,h1,_,h=>by unfold jE;exact h.up (by omega)
 |m +   1,k,n,ys,h1,h2,h=>by
  unfold jE;split
  . rename_i hi;split
    .   rename_i hk;exact MO m (k+1) (n+1) _ (by omega) (by omega) (h.next (by omega) h2 hi hk)
    .   exact MO m (k+1) n ys (by omega) (by omega) (h.up (by omega))
  .exact h.up (by omega)
theorem Rk{names:List (List Nat)}{bg:List Nat}:∀(m i n:Nat)(ys:List Ty),i+m=312->LC names ys (i*312)->∃q,LC names (JG names bg m i n ys) q
 |0,i,n,ys,_,h=>⟨_,h⟩
 |m+1,i,n,ys,h1,h=>by
  unfold JG;exact Rk m (i+1) _ _ (by omega) ((MO m (i+1) n ys (by omega) (by omega) (h.up (by omega))).up (by omega))
def Xb(i j:Nat):Nat:=i*(23 - i) / 2+(j - i - 1)
theorem aeM:((List.range 12).all λi=>(List.range 12).all λj=>(List.range 12).all λa=>(List.range 12).all λb=> !(decide (i<j)&&decide (a<b)&&(decide (i<a)||(decide (i=a)&&decide (j<b))))||decide (Xb i j<Xb a b))=true:=by decide+kernel
theorem afA(i:Nat)(hi:i<12)(j:Nat)(hj:j<12)(a:Nat)(ha:a<12)(b:Nat)(hb:b<12)(h1:i<j)(h2:a<b)(h3:i<a\/i=a/\j<b):Xb i j<Xb a b:=by
 have h:=Zd3.1 (Zd3.1 (Zd3.1 (Zd3.1 aeM i (Zl4.2 hi)) j (Zl4.2 hj)) a (Zl4.2 ha)) b (Zl4.2 hb);have d3:(decide (i<a)||(decide (i=a)&&decide (j<b)))=true:=by
  rcases h3 with h3|⟨h3,h4⟩
  .rw[Za0 h3];rfl
  .rw[Za0 h3,Za0 h4];simp
 rw[Za0 h1,Za0 h2,d3]at h;simpa using h
theorem Ob:∀i<12,∀j<12,i<j->Xb i j<66:=by decide+kernel
theorem aaH{N:Nat}:∀{l:List Nat}{k:Nat},l.Pairwise (· < ·)->(∀x∈l,k<=x/\x<N)->l.length<=N - k
 |[],_,_,_=>by simp
 |x::l,k,h,hk=>by
  obtain⟨h1,h2⟩:=List.pairwise_cons.1 h;have hx:=hk x (by simp);have:=aaH (k:=x+1) h2 λy hy=>⟨h1 y hy,(hk y (Zb0 _ hy)).2⟩
  simp only[Zd4];omega
theorem Rm(xs bg:List Nat):(w7 xs bg).length<=66/\(ej (eN xs) (w7 xs bg) 101 0).2=0:=by
 obtain⟨q,ps,e,h1,h2⟩:=Rk (names:=jD (eN xs)) (bg:=bg) 312 0 0 [] rfl ⟨[],rfl,λp hp=>by simp at hp,List.Pairwise.nil⟩;have e:w7 xs bg=ps.map zC:=e;have hlen:ps.length<=66:=by
   have:=aaH (N:=66) (k:=0) (l:=ps.map λp=>Xb (p.1 / 25) (p.2.1 / 25)) (by
     rw[List.pairwise_map];refine List.Pairwise.imp_of_mem (λ{a b} ha hb hab=> ?_) h2;obtain⟨a1,a2,a3,a4,_⟩:=h1 a ha;obtain⟨b1,b2,b3,b4,_⟩:=h1 b hb;obtain⟨i,hi,e1,_⟩:=vn (by omega) a3;obtain⟨j,hj,e2,_⟩:=vn (by omega) a4;obtain⟨i',KR,e3,_⟩:=vn (by omega) b3;obtain⟨j',yG,e4,_⟩:=vn (by omega) b4;unfold Cb at hab;exact afA _ (by omega) _ (by omega) _ (by omega) _ (by omega) (by omega) (by omega) (by omega)) (λx hx=>by
     obtain⟨p,hp,rfl⟩:=Zg0.1 hx;obtain⟨a1,a2,a3,a4,_⟩:=h1 p hp;obtain⟨i,hi,e1,_⟩:=vn (by omega) a3;obtain⟨j,hj,e2,_⟩:=vn (by omega) a4;exact⟨Zj0 _,Ob _ (by omega) _ (by omega) (by omega)⟩)
   simpa using this
 refine⟨by rw[e,Za9];exact hlen,UU (λk t ht=> ?_) 101 0⟩;rw[e,Zc1]at ht;obtain⟨p,hp,rfl⟩:=Ze1.1 ht;have hk:k<ps.length:=(Za3.1 hp).1;obtain⟨a1,a2,a3,a4,a5,_⟩:=h1 p (Zb5 hp);have kn:Ac (zC p)=true:=by unfold Ac zC;rcases a5 with h|h<;>simp[h]
 have ls:ay (zC p).a (zC p).b=true:=(zf (by omega) (by omega)).trans (Za0 a1);have prev:∀u,jz (w7 xs bg) k=some u->dO (zC p) u=false/\dO u (zC p)=true:=λu hu=>by
   unfold jz at hu;by_cases h0:k=0
   .rw[Za7 h0]at hu;cases hu
   rw[Za5 h0,e,Zc1]at hu;obtain⟨r,hr,rfl⟩:=Ze1.1 hu;obtain⟨b1,b2,b3,b4,b5,_⟩:=h1 r (Zb5 hr);have lt:Cb r<Cb p:=by
     have hr1:=(Za3.1 hr)
     have fE:=(Za3.1 hp)
     obtain⟨w1,UN⟩:=hr1;obtain⟨w2,xx⟩:=fE;rw[<-UN, <-xx];exact List.pairwise_iff_getElem.1 h2 (k - 1) k w1 w2 (by omega)
   unfold Cb at lt;unfold dO zC;simp only;rw[zf (by omega) (by omega),zf (by omega) (by omega),zf (by omega) (by omega),zf (by omega) (by omega)];by_cases hq:r.1=p.1
   .rw[hq,Za2 (show ¬p.1<p.1 by omega),Za2 (show ¬p.2.1<r.2.1 by omega),Za0 (show r.2.1<p.2.1 by omega)];simp
   .rw[Za2 (show ¬p.1<r.1 by omega),Za0 (show r.1<p.1 by omega),Za2 (show ¬br p.1=br r.1 from λh=>hq (G8 (by omega) (by omega) h).symm)];simp
 have unk:iW (eN xs) (zC p)=false:=by obtain⟨_,_,_,i,hi,g1⟩:=vn (by omega) a3;obtain⟨_,_,_,j,hj,g2⟩:=vn (by omega) a4;have s1:=ze (eN xs).length 0 i (by omega) (by omega) g1;have s2:=ze (eN xs).length 0 j (by omega) (by omega) g2;unfold iW;rw[Za2 (show ¬scan (fy (eN xs) (zC p).a) (eN xs).length 0<0 from λh=>by have h:scan (fy (eN xs) (br p.1)) (eN xs).length 0<0:=h;omega),Za2 (show ¬scan (fy (eN xs) (zC p).b) (eN xs).length 0<0 from λh=>by have h:scan (fy (eN xs) (br p.2.1)) (eN xs).length 0<0:=h;omega)];rfl
 refine⟨?_,unk,?_,by omega⟩
 . unfold Ks;rw[kn,ls];cases hv:jz (w7 xs bg) k with
   |none=>rfl
   |some u=>simp[(prev u hv).1]
 . unfold mO;cases hv:jz (w7 xs bg) k with
   |none=>rfl
   |some u=>simp[(prev u hv).2]
theorem aaI(xs bg:List Nat):(bG (eN xs) (w7 xs bg)).2=0:=by unfold bG;rw[Za5 (by rw[ad1];simp)];exact(Rm xs bg).2
theorem Rn{xt:List Nat}(hx:∀x∈xt,x<256):∀k,k<=3->bF (nr xt k)=((ia xt k:Nat):Int)
 |0,_=>rfl
 |k+1,h=>by
  have ih:=Rn hx k (by omega);have e:nr xt (k+1)=nr xt k++[ir k (xt.getD k 0)]:=by unfold nr;rw[Zj2,Ze2];rfl
  have z:eD (ir k (xt.getD k 0))=((tN (xt.getD k 0):Nat):Int):=aaG _ (P0 hx (by omega) k);rw[e];unfold bF at ih ⊢;rw[Ze2,List.sum_append,ih];simp only[Zd6,Zi1,List.sum_cons,List.sum_nil,z];have e2:ia xt (k+1)=ia xt k+tN (xt.getD k 0):=rfl;omega
theorem YE{xt xg xy:List Nat}(hx:∀x∈xt,x<256)(z1 z2 z3 z4 z5:Bool)(rs:List Rl):(iR ⟨z1,gu xt,z2,jF xt xg,z3,aaB xt xg xy,z4,lW xt xg xy,z5,rs⟩).2=0:=by
 unfold iR;rw[Za5 (by show ¬(bH (gu xt)).2≠0;rw[Rj hx];simp),Za5 (by show ¬(bG (eN (rA xt xg)) (w7 (rA xt xg) xy)).2≠0;rw[aaI];simp)];rw[Za5 (by
  show ¬((lW xt xg xy).length≠0/\(lW xt xg xy).length≠(jF xt xg).length);unfold lW;split
  .rw[GZ];simp
  .simp),Za5 (by
  show ¬rW (lW xt xg xy)=false;rw[   show rW (lW xt xg xy)=true from by
    unfold rW lW;rw[Zd3];intro y hy;split at hy
    .   unfold ye at hy;obtain⟨i,_,rfl⟩:=Zg0.1 hy;rw[Za8];exact⟨Za0 (by omega),Za0 (by omega)⟩
    .   simp at hy]
  simp),Za5]
 show ¬bF (gu xt)<((jF xt xg).length:Int)
 unfold gu jF eN;rw[B9,Rn hx _ (by omega)];unfold rA;rw[Zd5];omega
theorem aaJ{p:bZ}{a:Nat}(ha:a<p.gs.length):¬gi p (kD p.gs a)<0:=by have:=ze (P:=fy p.gs (kD p.gs a)) p.gs.length 0 a (by omega) (by omega) (by unfold fy kD;rw[H5 ha];simp);unfold gi;omega
theorem aeN{p:bZ}(hd:∀(i j:Nat)(a b:aU),i<j->p.ts[i]? =some a->p.ts[j]? =some b->a.name≠b.name){t:Nat}(ht:t<p.ts.length):ti p (rq p.ts t)=(t:Int):=by
 have h0:=ze (P:=nW p.ts (rq p.ts t)) p.ts.length 0 t (by omega) (by omega) (by unfold nW rq;rw[H5 ht];simp);obtain⟨_,h1,h2⟩:=xZ p.ts.length 0 h0;unfold ti;generalize scan (nW p.ts (rq p.ts t)) p.ts.length 0=k at*
 unfold nW rq at h2;rw[H5 ht]at h2;obtain⟨u,hu,e⟩:=Ze1.1 (Zg8 h2);rcases Nat.lt_trichotomy k.toNat t with h|h|h
 .exact absurd e (hd _ _ _ _ h hu (H5 ht))
 .omega
 .exact absurd e.symm (hd _ _ _ _ h (H5 ht) hu)
theorem aaK{p:bZ}(hg:∀g∈p.gs,g.kV=[]\/eP g.kV=true)(hgd:∀(i j:Nat)(a b:aM),i<j->p.gs[i]? =some a->p.gs[j]? =some b->a.name≠b.name)(htd:∀(i j:Nat)(a b:aU),i<j->p.ts[i]? =some a->p.ts[j]? =some b->a.name≠b.name)
   (cV:∀t∈p.ts,eD t=jC t.sh t.a t.b/\0<eD t) (x:Nat) (h:(fq p.ts p.gs x).2=true):rX p (fq p.ts p.gs x).1=0:=by
 unfold fq at h ⊢;by_cases h0:p.gs.length=0\/p.ts.length=0
 .rw[Za7 h0]at h;cases h
 rw[Za5 h0]at h ⊢;have hw:(JC (x / 18))<=7:=by unfold JC;split<;>omega
 have ha:x / 18 / 5 % p.gs.length<p.gs.length:=Zi4 _ (by omega);have hb:x / 18 / 5 / p.gs.length % p.gs.length<p.gs.length:=Zi4 _ (by omega);have cJ:x / 18 / 5 / 7 % p.ts.length<p.ts.length:=Zi4 _ (by omega);have hn:x / 18 / 5 / 11 % 4<4:=Zi4 _ (by omega);have k1:1<=1+x % 18:=by omega
 have k2:1+x % 18<=18:=by omega
 generalize 1+x % 18=k at*
 generalize JC (x / 18)=w at*
 generalize x / 18 / 5=z at*
 generalize z % p.gs.length=a at*
 generalize z / p.gs.length % p.gs.length=b at*
 generalize z / 7 % p.ts.length=t at*
 generalize z / 11 % 4=n at*
 have g1:=aaJ ha;have g2:=aaJ hb;have g3:zc p.gs a=[]\/eP (zc p.gs a)=true:=by unfold zc;rw[H5 ha];exact hg _ (Zc6 ha)
 have g4:=aeN htd cJ;have g5:vk p.ts t=s9 p ((t:Nat):Int)/\0<vk p.ts t:=by have:=cV _ (Zc6 cJ);unfold vk s9;rw[Zm9,H5 cJ];simp only;omega
 have g6:0<=((z / 13:Nat):Int) % vk p.ts t/\((z / 13:Nat):Int) % vk p.ts t<=vk p.ts t - 1:=⟨Int.emod_nonneg _ (by omega),by have:=Int.emod_lt_of_pos ((z / 13:Nat):Int) g5.2;omega⟩
 have g7:a≠b->kD p.gs a≠kD p.gs b:=λhab e=>by
   unfold kD at e;rw[H5 ha,H5 hb]at e;rcases Nat.lt_or_gt_of_ne hab with h|h
   .exact hgd _ _ _ _ h (H5 ha) (H5 hb) e
   .exact hgd _ _ _ _ h (H5 hb) (H5 ha) e.symm
 clear hg ha hb cJ h0 hgd htd cV;obtain⟨g5,_⟩:=g5;rw[g5]at g6;rcases Ws k1 k2 with rfl|rfl|rfl|rfl|rfl|rfl|rfl|rfl|rfl|rfl|rfl|rfl|rfl|rfl|rfl|rfl|rfl|rfl
 all_goals
   unfold GV at h ⊢;unfold rX ML EW UE OH wK;simp[kd]at h ⊢
   first
   |done
   |omega
   |(simp[*];done)
   |(simp[*];omega)
   |grind
theorem MP{ts:List aU}{gs:List aM}{xr:List Nat}:∀{k:Nat}{r:Rl},r∈uD ts gs xr k->∃x,(fq ts gs x).2=true/\r=(fq ts gs x).1
 |0,_,h=>by cases h
 |k +   1,r,h=>by
  unfold uD at h;rcases Zc9.1 h with h|h
  .exact MP h
  . split at h
    .   rename_i e;simp only[Zb1,Ze6,Zj6]at h;exact⟨_,e,h⟩
    .   cases h
theorem Ro{p:bZ}(h:∀r∈p.rs,rX p r=0)(hl:p.rs.length<=64):∀m i,(j3 p m i).2=0
 |0,_=>rfl
 |m+1,i=>by
  unfold j3;cases e:p.rs[i]? with
  |none=>rfl
  |some r=>
   have:=(Za3.1 e).1;simp only;rw[Za5 (by rw[h r (Zb5 e)];simp),Za5 (by omega)];exact Ro h hl m (i+1)
theorem G9{xt:List Nat}{i:Nat}{t:aU}(h:(gu xt)[i]? =some t):i<3/\t=ir i (xt.getD i 0):=by
 obtain⟨h1,h2⟩:=mT h;exact⟨by omega,h2⟩
theorem JH{xs:List Nat}{i:Nat}{g:aM}(h:(eN xs)[i]? =some g):i<12/\g=tq i (xs.getD i 0):=by
 obtain⟨h1,h2⟩:=mT h;exact⟨by omega,h2⟩
theorem JI{xt:List Nat}:∀(i j:Nat)(a b:aU),i<j->(gu xt)[i]? =some a->(gu xt)[j]? =some b->a.name≠b.name:=λi j a b WS ha hb e=>by obtain⟨h1,rfl⟩:=G9 ha;obtain⟨h2,rfl⟩:=G9 hb;have e:dS i=dS j:=e;unfold dS at e;simp only[Zh2,Zm2,true_and]at e;omega
theorem JJ{xs:List Nat}:∀(i j:Nat)(a b:aM),i<j->(eN xs)[i]? =some a->(eN xs)[j]? =some b->a.name≠b.name:=λi j a b WS ha hb e=>by obtain⟨h1,rfl⟩:=JH ha;obtain⟨h2,rfl⟩:=JH hb;have e:br (yd i)=br (yd j):=e;rw[Fh (by omega),Fh (by omega)]at e;have:=G8 (by omega) (by omega) e;omega
theorem Rp{xs:List Nat}:∀g∈eN xs,g.kV=[]\/eP g.kV=true:=λg hg=>by
 obtain⟨i,hi⟩:=Zf5.1 hg;obtain⟨_,rfl⟩:=JH hi;show(if(xs.getD i 0) % 3=2 then br ((xs.getD i 0) % 5)else [])=[]\/eP (if(xs.getD i 0) % 3=2 then br ((xs.getD i 0) % 5)else [])=true;split
 .exact .inr (PY _)
 .exact .inl rfl
theorem DR{xt:List Nat}(hx:∀x∈xt,x<256):∀t∈gu xt,eD t=jC t.sh t.a t.b/\0<eD t:=λt ht=>by
 obtain⟨i,hi⟩:=Zf5.1 ht;obtain⟨h1,rfl⟩:=G9 hi;have aT:=P0 hx (by omega) i;have z:eD (ir i (xt.getD i 0))=((tN (xt.getD i 0):Nat):Int):=aaG _ aT;have e:jC (ir i (xt.getD i 0)).sh (ir i (xt.getD i 0)).a (ir i (xt.getD i 0)).b=((tN (xt.getD i 0):Nat):Int):=Ku _;have h1:=aaC (xt.getD i 0);exact⟨by rw[z,e],by rw[z];omega⟩
theorem YF{xt xg xy xr:List Nat}(hx:∀x∈xt,x<256):(ff (jS xt xg xy xr)).2=0:=by
 unfold ff;have hb:(iR (jS xt xg xy xr)).2=0:=YE hx _ _ _ _ _ _;rw[Za5 (by rw[hb];simp)];refine Ro (λr hr=> ?_) ?_ _ _
 .obtain⟨x,h1,rfl⟩:=MP hr;exact aaK (p:=jS xt xg xy xr) Rp JJ JI (DR hx) x h1
 .have:=G1 (gu xt) (jF xt xg) xr (min xr.length 12);show(uD _ _ _ _).length<=64;omega
end
section
set_option linter.unusedSimpArgs false
open Go Go.Ai Go.Proofs
variable{c:ai}
theorem aeO(t:aU):0<=eD t/\eD t<=24:=by
 unfold eD;repeat' split
 all_goals omega
theorem UW(a b:List aU):bF (a++b)=bF a+bF b:=by simp[bF]
theorem YG{ts:List aU}{k:Nat}(hk:k<ts.length):bF (ts.take (k+1))=bF (ts.take k)+eD ts[k]/\bF (ts.take (k+1))<=bF ts:=by refine⟨by rw[Zc4 hk,UW];simp[bF],?_⟩;have h:=UW (ts.take (k+1)) (ts.drop (k+1));rw[Zg6]at h;have:=(uB (ts.drop (k+1))).1;omega
theorem TS.aE{s0 s s':St}{V:AV}{ts:List aU}{rows:List (List AV)}(h:TS s0 s V ts rows)(g:Grew s s'):TS s0 s' V ts rows:=
 ⟨h.out.grow g,h.len,λi t r a b=>by obtain⟨v,e1,e2,e3⟩:=h.qt i t r a b;exact⟨v,e1,e2.grow g,e3⟩⟩
theorem GS.aE{s0 s s':St}{V:AV}{ts:List aM}{rows:List (List AV)}(h:GS s0 s V ts rows)(g:Grew s s'):GS s0 s' V ts rows:=
 ⟨h.out.grow g,h.len,λi t r a b=>by obtain⟨v,e1,e2,e3⟩:=h.qt i t r a b;exact⟨v,e1,e2.grow g,e3⟩⟩
theorem PS.qx{s0 s s':St}{Vs:List AV}{p:bZ}(h:PS s0 s Vs p)(g:Grew s s'):PS s0 s' Vs p:=by
 obtain⟨V1,V2,V3,V4,V5,r1,r2,rfl,h1,h2,h3,h4,h5⟩:=h.all;exact⟨h.aE.trans g,V1,V2,V3,V4,V5,r1,r2,rfl,h1.aE g,h2.aE g,h3.grow g,h4.grow g,h5.grow g⟩
abbrev Dd(tk:List Bool):List AV:=tk.map AV.bool
def acE(p:bZ):Prop:=∀t∈p.ts,jC t.sh t.a t.b=eD t/\(0<=t.a/\t.a<=1000000)/\0<=t.b/\t.b<=1000000
section
variable{st sB s:St}{Vs:List AV}{p:bZ}
theorem PS.rT(h:PS st s Vs p):∃V1 V2 r1 r2,Vs[0]? =some V1/\Vs[1]? =some V2/\TS st s V1 p.ts r1/\GS st s V2 p.gs r2/\Vs.length=5:=by
 obtain⟨V1,V2,V3,V4,V5,r1,r2,rfl,h1,h2,_⟩:=h.all;exact⟨V1,V2,r1,r2,rfl,rfl,h1,h2,rfl⟩
theorem aaL(N:Nat):List.replicate N (AV.bool false)=Dd (List.replicate N false):=List.map_replicate.symm
end
set_option linter.unusedSimpArgs false
theorem acF(q:List Int):q.map cv=(q.map (AV.int .i64)).map abI:=by rw[Zg4];rfl
theorem LD{s:St}{v:AV}{q:List Int}(h:QS 1 s v (q.map cv)){i:Nat}{x:Int}(hx:q[i]? =some x):∃b o,Rd s 1 v i b o [.int .i64 x]:=by
 rw[acF]at h;exact h.Ww (by rw[Zc1,hx];rfl)
def YH(q:List Int)(x:Int):Int:=if q.contains x then((q.idxOf x:Nat):Int)else -1
section
variable{s:St}{P:AV}{q:List Int}
theorem acG(pq:QS 1 s P (q.map cv))(hl:q.length<=1000000)(x:Int)(F:Nat)(k1 k2:Q2):∀(m k f:Nat),k+m=q.length->m<f->
  g9 c F k1 k2 f [P,.int .i64 x,.int .i64 (q.length:Int),.int .i64 (k:Int)] s=if(q.drop k).contains x then k1 [.int .i64 ((k+(q.drop k).idxOf x:Nat):Int)] s else k2 [] s:=by
 intro m;induction m with
 |zero=>
  intro k f hk hf;obtain⟨f,rfl⟩:∃g,f=g+1:=⟨f - 1,by omega⟩
  obtain rfl:k=q.length:=by omega
  rw[kW];simp
 |succ m ih=>
  intro k f hk hf;obtain⟨f,rfl⟩:∃g,f=g+1:=⟨f - 1,by omega⟩
  have iY:k<q.length:=by omega
  obtain⟨pb,po,p⟩:=LD pq (H5 iY);have p1:=λ{R}=>@p.st R
  have p3:=p.one;have wr:aq .i64 ((k:Int)+1)=((k+1:Nat):Int):=wrap64 (by omega) (by omega);rw[Zc7 iY,List.contains_cons,List.idxOf_cons];by_cases he:x=q[k]
  .rw[kW];have e2:(x==q[k])=true:=(by simpa using he);have e3:(q[k]==x)=true:=(by simpa using he.symm);have d2:decide (x=q[k])=true:=Za0 he;rw[e2,e3,Bool.true_or];simp[iY,p1,p3,d2]
  .have Qn:(x==q[k])=false:=(by simpa using he);have he3:(q[k]==x)=false:=(by simpa using λe=>he e.symm);have d2:decide (x=q[k])=false:=Za2 he;rw[Qn,he3,Bool.false_or,cond_false,show k+((q.drop (k+1)).idxOf x+1)=(k+1)+(q.drop (k+1)).idxOf x by omega, <-ih (k+1) f (by omega) (by omega),kW];simp[iY,p1,p3,d2,wr]
theorem YI(hc:cE c)(pq:QS 1 s P (q.map cv))(hl:q.length<=1000000)(x:Int):c 71 [P,.int .i64 x] s=some (.int .i64 (YH q x),s):=by
 have ln:=λ(K:AV->St->Option (AV×St))=>pq.lenB (c:=c) K s
 rw[Za9]at ln;have hi:=λk1 k2=>acG (c:=c) pq hl x (q.length+1) k1 k2 q.length 0 (q.length+1) (by omega) (by omega)
 simp only[Ze3,show((0:Nat):Int)=0 from rfl,Zd9]at hi;rw[B6 hc (q.length+1) (r:=(.int .i64 (YH q x),s)),aG (Plain.int _ _) (bt.refl s)];rw[DN];simp only[aC,ln,hi];unfold YH;split<;>simp
theorem HM(hc:cE c)(pq:QS 1 s P (q.map cv))(hl:q.length<=1000000)(x:Int):c 19 [P,.int .i64 x] s=some (.bool (q.contains x),s):=by
 rw[y9 hc 1 (r:=(.bool (q.contains x),s)),aG (Plain.bool _) (bt.refl s)];rw[Av];simp only[aC,fM,YI hc pq hl,eZ];unfold YH;cases h:q.contains x
 .simp
 .simp
end
set_option linter.unusedSimpArgs false
structure LF(p:bZ)(N:Nat):Prop where
 u7:p.Ad
 rs:∀r∈p.rs,r.Ok
 u5:(ff p).2=0
 tabs:(bH p.ts).2=0
 sum:(N:Int)=bF p.ts
 le:N<=100000
section
variable{sB s:St}{P:AV}{q:List Int}{N n:Nat}
end
section
variable{s0 s:St}{Vs:List AV}{p:bZ}{P:AV}{q:List Int}{N:Nat}
end
set_option linter.unusedSimpArgs false
theorem Mk.ad2{es:Nat}{s s':St}{v:AV}{rows:List (List AV)}(h:Mk es s s' v rows)(k:IntKind)(i:Int):∃gO,Go.Ai.tidy s (.tuple [v,.int k i],s')=(.tuple [v,.int k i],gO)/\Mk es s gO v rows:=by
 unfold Go.Ai.tidy;by_cases hp:Plain (AV.tuple [v,.int k i],s').1/\bt s (AV.tuple [v,.int k i],s').2
 . rw[  Za7 hp];refine⟨s,rfl,?_⟩;rcases h.loose with⟨b,off,n,rfl⟩|⟨hl,_⟩
   . refine(Go.Ai.mL (b:=b) (off:=off) (n:=n) (es:=es) (λρ ρ' n n' C x hx=> ?_)).elim;have:=hp.1 ρ ρ' n n' C _ (.tuple _ #[x,.int k i] rfl (λj v v' hv kG=>by
        match j with
        |0=>simp at hv kG;subst hv kG;exact hx
        |1=>simp at hv kG;subst hv kG;exact .int k i
        |j+2=>simp at hv))
     cases this with
     |tuple _ _ _ h=>exact h 0 _ x rfl rfl
   .exact hl s h.qi
 .rw[Za5 hp];exact⟨s',rfl,h⟩
section
variable{s0 s sB:St}{Vs:List AV}{p:bZ}{P:AV}{q:List Int}{N:Nat}
theorem YJ(hc:cE c)(hw:Wf s)(pq:QS 1 s P (q.map cv))(hl:q.length<=1000):∃v s',c 17 [P] s=some (v,s')/\Mk 1 s s' v (q.map cv):=by
 have hS:Src 1 s P (q.map cv):= .inr pq;rcases hS.nil with⟨rfl,h0⟩|hn
 . (refine⟨.af,s,?_,by rw[h0];exact Mk.start hw (Grew.refl hw)⟩;rw[rj hc 1 (r:=(.af,s)),aG Plain.af (bt.refl s)];rw[tQ];have e:∀(K:AV->St->Option (AV×St))(s:St),ak c (.bin .eql .slice) [.af,.af] s K=K (.bool true) s:=λK s=>aK c K (λH n=>rfl) s);simp[e]
 .obtain⟨v,s',a1,a2⟩:=QZ (c:=c) (R:=AV×St) (bytes:=8) (z:=[.int .i64 0]) (λr hr=>by obtain⟨m,_,rfl⟩:=Zg0.1 hr;rfl) (by decide) (by simp;omega) (by simp;omega) s hw hS;obtain⟨gO,t1,t2⟩:=a2.tidy;refine⟨v,gO,?_,t2⟩;rw[rj hc 1 (r:=(v,s')),t1];rw[tQ];simp only[aC,hn,eI];rw[a1]
end
set_option linter.unusedSimpArgs false
theorem UX(i x:Nat):(ir i x).pM.length<=16:=by have h1:=UI x (tN x);have h2:=OI x;show((wZ x (tN x)).map λ(k:Nat)=>(k:Int)).length<=16;rw[Za9];omega
theorem UY(xt xg xy xr:List Nat):(jS xt xg xy xr).Ad where
 ts:=by show(nr xt _).length<=100;rw[GY];omega
 gs:=by have:=zd (rA xt xg);show(eN _).length<=100;omega
 ys:=by have:=(Rm (rA xt xg) xy).1;show(w7 _ _).length<=100;omega
 cs:=by
  have:=zd (rA xt xg);show(lW xt xg xy).length<=100;unfold lW;split
  .rw[GZ];show(eN _).length<=100;omega
  .exact Zj0 _
 rs:=by have:=G1 (gu xt) (jF xt xg) xr (min xr.length 12);show(uD _ _ _ _).length<=100;omega
 ok t ht:=by
  obtain⟨i,x,rfl⟩:=MN ht;have:=UX i x;exact⟨by show(dS i).length<nU;unfold dS nU;simp,by unfold nU;omega⟩
theorem aeP(ts:List aU)(gs:List aM)(x:Nat):(fq ts gs x).1.k=((1+x % 18:Nat):Int):=by
 unfold fq GV
 repeat' split
 all_goals rfl
theorem YK{xt xg xy xr:List Nat}(hx:∀x∈xt,x<256):∀r∈(jS xt xg xy xr).rs,r.Ok/\rX (jS xt xg xy xr) r=0:=λr hr=>by obtain⟨x,h1,rfl⟩:=MP hr;refine⟨?_,aaK (p:=jS xt xg xy xr) Rp JJ JI (DR hx) x h1⟩;have:=aeP (gu xt) (jF xt xg) x;unfold Rl.Ok;omega
theorem aaM{xt xg xy xr:List Nat}(hx:∀x∈xt,x<256):acE (jS xt xg xy xr):=λt ht=>by
 have h1:=DR hx t ht;have h2:=UR t ht;exact⟨h1.1.symm,h2.1,h2.2.1,h2.2.2⟩
theorem Rq{R:Type}{s:St}{b:Pos}{Vs:List AV}(h:s.heap.get b=some (.cells Vs 0))(hl:Vs.length=5)(K:AV->St->Option R):ak c (.load (some 5)) [.ptr b 0] s K=K (.agg Vs) s:=by rw[yy,h];simp only[aQ,Ze7];rw[bV hl];rfl
def tV(xt:List Nat):Nat:=(bF (gu xt)).toNat
theorem UZ{xt xg xy xr:List Nat}(hx:∀x∈xt,x<256):LF (jS xt xg xy xr) (tV xt) where
 u7:=UY xt xg xy xr
 rs r hr:=(YK (xg:=xg) (xy:=xy) (xr:=xr) hx r hr).1
 u5:=YF hx
 tabs:=Rj hx
 sum:=by have:=(uB (gu xt)).1;show((bF (gu xt)).toNat:Int)=bF (gu xt);omega
 le:=by have h1:=(uB (gu xt)).2;have h2:=(UY xt xg xy xr).ts;have h2:(gu xt).length<=100:=h2;unfold tV;omega
section
variable{q:List Int}{g h:Nat}
end
end
section
open Go Go.Ai Go.Proofs Go.RowKit
theorem U0{α:Type}{P:α->Prop}{cells:α->List AV}:∀(rs:List (List AV)),(∀r∈rs,∃t,r=cells t/\P t)->∃l:List α,rs=l.map cells/\∀t∈l,P t
 |[],_=>⟨[],rfl,by simp⟩
 |r::rs,h=>by
  obtain⟨t,rfl,ht⟩:=h r (by simp);obtain⟨l,rfl,hl⟩:=U0 rs (λq hq=>h q (Zb0 _ hq));refine⟨t::l,rfl,λu hu=> ?_⟩;rcases Zb1.1 hu with rfl|hu
  .exact ht
  .exact hl u hu
section
variable{H:Type}{enc:TypeId×Value->H}{w:World}{base:Nat}{spare:Nat->Bool}{held:Bool}
theorem U1{t:TypeId}{k:IntKind}{r:Go.Reach}{b0:Nat}{v:Value}{d:DataW H}{p:List MemPlace}(ht:Tryz.prog.underlying t=some (.int k))
  (hval:Value.okWide Tryz.prog w r b0 t v) (hd:DataW.Trod enc Tryz.prog w base spare held t v d p):∃us,(∃i,us=[AV.int k i]/\(Lit.int k i).wf=true)/\∀ρ n,au ρ n (λad=>w.cell? ad) us [v]:=by
 obtain⟨m,rfl⟩:=Go.WideShapes.okWide_int ht hval;obtain⟨fuel,hf⟩:=hd;exact QT ht _ _ _ hf
theorem wf_u8{i:Int}(h:(Lit.int .u8 i).wf=true):0<=i/\i<256:=by
 have e1:IntKind.min .u8=0:=by decide
 have e2:IntKind.max .u8=255:=by decide
 have h:(decide (IntKind.min _<=i)&&decide (i<=IntKind.max _))=true:=h;rw[e1,e2,Za8,Zd1,Zd1]at h;omega
theorem wf_u16{i:Int}(h:(Lit.int .u16 i).wf=true):0<=i/\i<65536:=by
 have e1:IntKind.min .u16=0:=by decide
 have e2:IntKind.max .u16=65535:=by decide
 have h:(decide (IntKind.min _<=i)&&decide (i<=IntKind.max _))=true:=h;rw[e1,e2,Za8,Zd1,Zd1]at h;omega
theorem wf_u32{i:Int}(h:(Lit.int .u32 i).wf=true):0<=i/\i<4294967296:=by
 have e1:IntKind.min .u32=0:=by decide
 have e2:IntKind.max .u32=4294967295:=by decide
 have h:(decide (IntKind.min _<=i)&&decide (i<=IntKind.max _))=true:=h;rw[e1,e2,Za8,Zd1,Zd1]at h;omega
def zh(k:IntKind)(n:Nat)(vs:List AV):Prop:=∃(z:Bool) (l:List Nat),vs=[bR k z l]/\(∀x∈l,x<n)/\l.length<=9223372036854775807
theorem He{t e:TypeId}{k:IntKind}{n:Nat}(ht:Tryz.prog.underlying t=some (.slice e))(he:Tryz.prog.underlying e=some (.int k))(hc:Tryz.prog.cellsOf e=1)(hk:∀i,(Lit.int k i).wf=true->0<=i/\i<(n:Int)):
  mK enc Tryz.prog w base spare held t (zh k n):=by
 refine mK.mono (Vj (es:=1) ht hc (by omega) (λvs h=>by obtain⟨i,rfl,_⟩:=h;rfl) (QT he)) λvs h=> ?_
 obtain⟨z,rs,rfl,h1,h2⟩:=h;obtain⟨l,rfl,hl⟩:=U0 (P:=λx:Nat=>x<n) (cells:=λx:Nat=>[AV.int k (x:Int)]) rs λr hr=>by
  obtain⟨i,rfl,hi⟩:=h1 r hr;have:=hk i hi;exact⟨i.toNat,by rw[show((i.toNat:Nat):Int)=i by omega],by omega⟩
 refine⟨z,l,rfl,hl,?_⟩;rw[Za9]at h2;unfold Go.maxLen at h2;omega
theorem Rr:mK enc Tryz.prog w base spare held 35 (zh .u8 256):=He (e:=5) (by kernel_rfl) (by kernel_rfl) (by kernel_rfl) λ_ h=>wf_u8 h
theorem YM:mK enc Tryz.prog w base spare held 36 (zh .u16 65536):=He (e:=57) (by kernel_rfl) (by kernel_rfl) (by kernel_rfl) λ_ h=>wf_u16 h
theorem YN:mK enc Tryz.prog w base spare held 37 (zh .u32 4294967296):=He (e:=110) (by kernel_rfl) (by kernel_rfl) (by kernel_rfl) λ_ h=>wf_u32 h
structure afB(xt xg xy xr:List Nat):Prop where
 t:∀x∈xt,x<256
 g:∀x∈xg,x<65536
 y:∀x∈xy,x<256
 r:∀x∈xr,x<4294967296
 lt:xt.length<=9223372036854775807
 lg:xg.length<=9223372036854775807
 ly:xy.length<=9223372036854775807
 lr:xr.length<=9223372036854775807
theorem RQ:mK enc Tryz.prog w base spare held 39 λvs=>∃zt zg zy zr xt xg xy xr,vs=dP zt zg zy zr xt xg xy xr/\afB xt xg xy xr:=by
 refine mK.mono (Tt [35,36,35,37] (Qs:=[zh .u8 256,zh .u16 65536,zh .u8 256,zh .u32 4294967296]) (by kernel_rfl) (by kernel_rfl) (by kernel_rfl) ⟨Rr,YM,Rr,YN,trivial⟩) λvs h=> ?_
 obtain⟨ps,rfl,m0⟩:=h;obtain⟨p0,q0,rfl,⟨z1,l1,rfl,a1,b1⟩,m1⟩:=yQ m0;obtain⟨p0,q0,rfl,⟨z2,l2,rfl,a2,b2⟩,m2⟩:=yQ m1;obtain⟨p0,q0,rfl,⟨z3,l3,rfl,a3,b3⟩,m3⟩:=yQ m2;obtain⟨p0,q0,rfl,⟨z4,l4,rfl,a4,b4⟩,m4⟩:=yQ m3;obtain rfl:=TE m4;exact⟨z1,z2,z3,z4,l1,l2,l3,l4,rfl,⟨a1,a2,a3,a4,b1,b2,b3,b4⟩⟩
end
end
end Go.Proofs.YtlkadmkojjceiaaGreatDoor
section
end
namespace Go.Proofs.YtlkadmkojjceiaaGreatDoor
section
set_option linter.unusedSimpArgs false
open Go Go.Ai Go.Proofs
variable{c:ai}
theorem PS.cells{s0 s:St}{Vs:List AV}{p:bZ}(h:PS s0 s Vs p):Vs.length=5/\aL Vs=true:=by
 obtain⟨G,V1,V2,V3,V4,V5,r1,r2,rfl,F1,F2,F3,F4,F5⟩:=h;have o1:=F1.out.cells.2;have o2:=F2.out.cells.2;have o3:=F3.cells.2;have o4:=F4.cells.2;have o5:=F5.cells.2;simp only[aL,Zk8]at o1 o2 o3 o4 o5;exact⟨rfl,by simp only[aL,o1,o2,o3,o4,o5,Zi8]⟩
theorem QS.beq{es:Nat}{s:St}{v:AV}{rows:List (List AV)}(h:QS es s v rows):kF v v=true:=by
 rcases h with⟨rfl,rfl⟩|⟨b,off,cap,cs,rfl,_⟩|⟨b,off,rfl,rfl⟩
 .rfl
 .cases cap<;>simp[kF,gy,Pos.beq_eq.2 rfl]
 .simp[kF,gy,Pos.beq_eq.2 rfl]
theorem lenP{R:Type}{es:Nat}{s:St}{v:AV}{rows:List (List AV)}(h:QS es s v rows)(K:AV->Option R):dJ (.lenB .l) [v] K=K (.int .i64 (rows.length:Int)):=by
 rcases h with⟨rfl,rfl⟩|⟨b,off,cap,cs,rfl,_⟩|⟨b,off,rfl,rfl⟩<;>exact bU K (λH n=>rfl)
set_option linter.unusedSimpArgs false
def sC(f:Nat->Bool):Nat->Nat
 |0=>0
 |a+1=>sC f a+(f a).toNat
section
variable{s0 s sB:St}{Vs:List AV}{p:bZ}{P:AV}{q:List Int}{N:Nat}
end
end
end Go.Proofs.YtlkadmkojjceiaaGreatDoor
section
end
namespace Go.Proofs.YtlkadmkojjceiaaGreatDoor
section
set_option linter.unusedSimpArgs false
open Go Go.Ai Go.Proofs
variable{c:ai}
section
variable{s0 s sB:St}{Vs:List AV}{p:bZ}{P:AV}{q:List Int}{N:Nat}
theorem YO(hc:cE c)(hz:acE p)(cV:p.ts.length<=100){V1:AV}{r1:List (List AV)}(T:TS s0 sB V1 p.ts r1)(w0:Wf sB)(F:Nat):∀(m k f:Nat)(s:St),k+m=p.ts.length->m<f->Grew sB s->∃s',Grew sB s'/\∀k2:Q2,
  gZ c F k2 f [.int .i64 (bF (p.ts.take k)),V1,.int .i64 (p.ts.length:Int),.int .i64 (k:Int)] s=k2 [.int .i64 (bF p.ts)] s':=by
 intro m;induction m with
 |zero=>
  intro k f s hk hf gr;obtain⟨f,rfl⟩:∃g,f=g+1:=⟨f - 1,by omega⟩
  obtain rfl:k=p.ts.length:=by omega
  refine⟨s,gr,λk2=> ?_⟩;rw[qu,Zi7];simp
 |succ m ih=>
  intro k f s hk hf gr;obtain⟨f,rfl⟩:∃g,f=g+1:=⟨f - 1,by omega⟩
  have iY:k<p.ts.length:=by omega
  have hl:k<r1.length:=by rw[T.len];exact iY
  have T':=T.aE gr;obtain⟨tv,er,hM,_⟩:=T'.qt k p.ts[k] r1[k] (H5 iY) (H5 hl);obtain⟨tb,to,rd⟩:=T'.out.own.rd T'.out.row (H5 hl);rw[er]at rd;have z:=hz _ (Zc6 iY);have et:bF (p.ts.take (k+1))=bF (p.ts.take k)+eD p.ts[k]:=(YG iY).1;have sz:=aeO p.ts[k];have n1:=uB (p.ts.take k);rw[Zd5]at n1;have gN:=Grew.ah gr.wf (.cells (p.ts[k].aA tv) 0);obtain⟨s',g',z2⟩:=ih (k+1) f (ah s (.cells (p.ts[k].aA tv) 0)) (by omega) (by omega) (gr.trans gN);refine⟨s',g',λk2=> ?_⟩;rw[<-z2 k2,qu,et, <-z.1];have L5:aL (p.ts[k].aA tv)=true:=aU.MG _ hM.cells.2;have stn:∀(K:AV->St->Option (AV×St)),ak c (.store 7) [.ptr s.next 0,.agg (p.ts[k].aA tv)] (ah s (.cells [.str [],.int .u8 0,.int .i64 0,.int .i64 0,.af,.int .i64 0,.int .i64 0] 0)) K=K .undef (ah s (.cells (p.ts[k].aA tv) 0)):=λK=>dK c K s 7 (.agg (p.ts[k].aA tv)) _ rfl rfl L5
  have zz:=z.1;obtain⟨_,⟨a1,a2⟩,b1,b2⟩:=z;generalize p.ts[k]=t at*
  have r1':=λ{R}=>@rd.st R
  have Lx:=rd.all;have c1:(t.aA tv)[1]? =some (.int .u8 t.sh):=rfl;have c2:(t.aA tv)[2]? =some (.int .i64 t.a):=rfl;have c3:(t.aA tv)[3]? =some (.int .i64 t.b):=rfl;have wr:Unit->aq .i64 ((k:Int)+1)=((k+1:Nat):Int):=λ_=>by rw[wrap64 (by omega) (by omega)];omega
  have gn:=aD s (.cells (t.aA tv) 0);obtain⟨S,hS⟩:∃S,S=bF (p.ts.take k):=⟨_,rfl⟩
  rw[<-hS]at n1 ⊢;clear z2 ih rd hM T' gN et;unfold jC at zz ⊢;by_cases h2:t.sh=2
  . (rw[Za7 h2]at zz ⊢;have w1:Unit->aq .i64 (2*t.a)=2*t.a:=λ_=>wrap64 (by omega) (by omega));have w2:Unit->aq .i64 (2*t.a+t.b)=2*t.a+t.b:=λ_=>wrap64 (by omega) (by omega)
    have w3:Unit->aq .i64 (S+(2*t.a+t.b))=S+(2*t.a+t.b):=λ_=>wrap64 (by omega) (by omega)
    simp[gM,iY,r1',Lx,stn,gn,aQ,c1,c2,c3,h2,w1 (),w2 (),w3 (),wr ()]
  . rw[Za5 h2]at zz ⊢;by_cases h3:t.sh=3
    .   (rw[Za7 h3]at zz ⊢;have w1:Unit->aq .i64 (2*t.b)=2*t.b:=λ_=>wrap64 (by omega) (by omega));have w2:Unit->aq .i64 (t.a+2*t.b)=t.a+2*t.b:=λ_=>wrap64 (by omega) (by omega)
        have w3:Unit->aq .i64 (S+(t.a+2*t.b))=S+(t.a+2*t.b):=λ_=>wrap64 (by omega) (by omega)
        simp[gM,iY,r1',Lx,stn,gn,aQ,c1,c2,c3,h3,w1 (),w2 (),w3 (),wr ()]
    .   (rw[Za5 h3]at zz ⊢;have w3:Unit->aq .i64 (S+t.a)=S+t.a:=λ_=>wrap64 (by omega) (by omega));have d2:decide (t.sh=2)=false:=Za2 h2;have d3:decide (t.sh=3)=false:=Za2 h3;simp[gM,iY,r1',Lx,stn,gn,aQ,c1,c2,c3,d2,d3,w3 (),wr ()]
theorem YP(hc:cE c)(h:PS s0 s Vs p)(ok:LF p N)(hz:acE p):c 18 [.agg Vs] s=some (.int .i64 (N:Int),s):=by
 have hw:=h.aE.wf;have gN:=Grew.ah hw (.cells Vs 0);have h1:=h.qx gN;obtain⟨V1,V2,r1,r2,e1,e2,T,T2,e5⟩:=h1.rT;have cV:=ok.u7.ts;have lt:=λ(K:AV->St->Option (AV×St))(s1:St)=>T.out.own.lenB (c:=c) K s1
 rw[T.len]at lt;obtain⟨s',g',z2⟩:=YO (c:=c) hc hz cV T gN.wf (p.ts.length+1) p.ts.length 0 (p.ts.length+1) _ (by omega) (by omega) (Grew.refl gN.wf);simp only[show((0:Nat):Int)=0 from rfl,Zn3,show bF []=0 from rfl]at z2;rw[ok.sum,B5 hc (p.ts.length+1) (r:=(.int .i64 (bF p.ts),s')),aG (Plain.int _ _) (gN.trans g').keeps];rw[DK];simp[show ∀l,AV.cells (.agg l)=l from λl=>rfl,aD,aQ,e1,lt];rw[z2];simp
end
end
section
open Go Go.Ai Go.Proofs
variable{c:ai}
end
section
open Go Go.Ai Go.Proofs
section
variable{c:ai}
variable{s0 s:St}{Vs:List AV}{p:bZ}
end
end
noncomputable section
open Go Go.Ai Go.Proofs
attribute [local go_sem ↓] bQ ug ev TF xA getLT vU IX N7 ue uf Gf Eo Ep Er AI AK AL AM AN AO Es Eu AP AQ AR AS AT Kj Kk Kl
attribute [local go_sem] bQ ug ev
section
variable(c:ai)(F:Nat)(x0 x1 x2 x3 x4 x5 x6 x7 x8 x9 Bv Bw:AV)(s:St)
def JK:Sh:=(sq sl (sq sl sl))
def JL:PX 29 JK:=⟨_,by conv=>lhs;reduce⟩
def Hf:O2:=bQ c F b7 JL.1 [x0,x1] s
def U2:=(by dsimp only[Hf,JL,go_sem,Int.reduceOfNat]:Hf c F x0 x1 s=_)
end
section
variable{c:ai}(hc:cE c)(F:Nat){x0 x1 x2 x3 x4 x5 x6 x7 x8 x9 Bv Bw:AV}{s:St}{r:AV×St}
include hc
theorem P6(h:Hf c F x0 x1 s=some r):c 29 [x0,x1] s=some (tidy s r):=hc.o0 F JK (by kernel_rfl) (by kernel_rfl) h
end
end
section
set_option linter.unusedSimpArgs false
open Go Go.Ai Go.Proofs
variable{c:ai}
def tr(N:Nat)(w:Bool)(q:List Int):Nat->Nat->Int×Int
 |0,_=>(0,0)
 |m+1,k=>if w=true/\q.getD k 0= -1 then((k:Int),52)else if q.getD k 0< -1\/(N:Int)<=q.getD k 0 then((k:Int),50)else if 0<=q.getD k 0/\q.getD k 0∈q.take k then((k:Int),51)else tr N w q m (k+1)
def NS(p:bZ):Nat:=(bF p.ts).toNat
def MQ(p:bZ)(w:Bool)(q:List Int):Int×Int:=if q.length≠p.gs.length then(0,53)else tr (NS p) w q q.length 0
def Aw(p:bZ)(w:Bool)(q:List Int):Int×Int:=if(ff p).2≠0 then(0,(ff p).2)else MQ p w q
theorem YQ{p:bZ}(h:(ff p).2=0):(bH p.ts).2=0:=by
 unfold ff at h;split at h
 .rename_i k;exact absurd h k
 .rename_i k;exact LA (by simpa using k)
theorem Rs{N:Nat}{w:Bool}{q:List Int}:∀(m k:Nat),(tr N w q m k).2=0->tr N w q m k=(0,0)
 |0,_,_=>rfl
 |m+1,k,h=>by
  rw[tr]at h ⊢;split at h<;>first|(simp at h;done)|skip
  split at h<;>first|(simp at h;done)|skip
  split at h<;>first|(simp at h;done)|skip
  rename_i h1 h2 h3;rw[Za5 h1,Za5 h2,Za5 h3];exact Rs m (k+1) h
theorem Xc{N:Nat}{w:Bool}{q:List Int}{m k:Nat}(hk:k<q.length){x:Int}(hx:q[k]=x):
  tr N w q (m+1) k=if w=true/\x= -1 then((k:Int),52)else if x< -1\/(N:Int)<=x then((k:Int),50)else if 0<=x/\x∈q.take k then((k:Int),51)else tr N w q m (k+1):=by
 rw[tr,Zb4,H5 hk,hx];rfl
section
variable{sB s:St}{P:AV}{q:List Int}{N n:Nat}
theorem aaN {tb :Pos}(hql:q.length<=1000)(hN:N<=100000)(pq:QS 1 sB P (q.map cv))(OQ:sB.next.toNat<=tb.toNat)(w0:Wf sB)(w:Bool)(F:Nat):
  ∀ (m k f:Nat)(s:St)(tk:List Bool),k+m=q.length->m<f->Grew sB s->s.heap.get tb=some (.cells (Dd tk) 0)->tk.length=N->(∀i:Nat,i<N->(tk[i]? =some true↔(i:Int)∈q.take k))->∃s',Grew sB s'/\
    ∀k1 k2:Q2,pN c F k1 k2 f [.bool w,.int .i64 (N:Int),.slice tb 0 N (some N) 1,P,.int .i64 (q.length:Int),.int .i64 (k:Int)] s=if(tr N w q m k).2=0 then k2 [] s' else k1 [.int .i64 (tr N w q m k).1,.int .i64 (tr N w q m k).2] s':=by
 intro m;induction m with
 |zero=>
  intro k f s tk hk hf gr ht hl Ec;obtain⟨f,rfl⟩:∃g,f=g+1:=⟨f - 1,by omega⟩
  obtain rfl:k=q.length:=by omega
  refine⟨s,gr,λk1 k2=> ?_⟩;rw[jB];simp[tr]
 |succ m ih   =>
  intro k f s tk hk hf gr ht hl Ec;obtain⟨f,rfl⟩:∃g,f=g+1:=⟨f - 1,by omega⟩
  have iY:k<q.length:=by omega
  obtain⟨pb,po,p⟩:=LD (pq.aE gr) (H5 iY);have p1:=λ{R}=>@p.st R
  have p3:=p.one;have wr:aq .i64 ((k:Int)+1)=((k+1:Nat):Int):=by rw[wrap64 (by omega) (by omega)];omega
  have tke:q.take (k+1)=q.take k++[q[k]]:=by rw[Zp5,H5 iY];rfl
  have eb:=Xc (N:=N) (w:=w) (m:=m) iY rfl;generalize q[k]=x at*
  by_cases h0:0<=x
  . have d1   : decide (x= -1)=false:=Za2 (by omega);have d2:decide (x< -1)=false:=Za2 (by omega);have n1:¬(w=true/\x= -1):=λh=>by have:=h.2;omega
    rw[Za5 n1]at eb;by_cases hx:(N:Int)<=x
    .   have d3:decide ((N:Int)<=x)=true:=Za0 hx;have n2:x< -1\/(N:Int)<=x:= .inr hx;rw[Za7 n2]at eb;rw[eb];refine⟨s,gr,λk1 k2=> ?_⟩;rw[jB];simp[gM,iY,p1,p3,d1,d2,d3]
    .   have n2 :¬(x< -1\/(N:Int)<=x):=(by omega);rw[Za5 n2]at eb;have d3:decide ((N:Int)<=x)=false:=Za2 hx;have d5:decide (0<=x)=true:=Za0 h0;obtain⟨i,rfl⟩:∃i:Nat,x=(i:Int):=⟨x.toNat,by omega⟩
        have hi:i<N:=(by omega);have d4:decide (N<=i)=false:=Za2 (by omega);have ix:=λ(K:AV->St->Option (AV×St))(s1:St)=>Gc c K s1 (b:=tb) (off:=0) (len:=N) (es:=1) (es':=1) (cap:=some N) (k:= .i64) (i:=i) hi
        simp only[Zd9,Zl1]at ix;by_cases hm:(i:Int)∈q.take k
        . have ec:(Dd tk)[i]? =some (.bool true):=(by rw[Zc1,(Ec i hi).2 hm];rfl);have n3:0<=(i:Int)/\(i:Int)∈q.take k:=⟨h0,hm⟩
          rw[Za7 n3]at eb;rw[eb];refine⟨s,gr,λk1 k2=> ?_⟩;rw[jB];simp[gM,iY,p1,p3,ix,d1,d2,d3,d4,d5,ht,aQ,ec]
        . have n3:¬(0<=(i:Int)/\(i:Int)∈q.take k):=λh=>hm h.2
          rw[Za5 n3]at eb;rw[eb];have hf0:tk[i]? =some false:=by
            rw[H5 (by omega)];cases h:tk[i]'(by omega)with
            |false=>rfl
            |true=>exact absurd ((Ec i hi).1 (by rw[H5 (by omega),h])) hm
          have ec:(Dd tk)[i]? =some (.bool false):=(by rw[Zc1,hf0];rfl);have pt:=λ(K:AV->St->Option (AV×St))=>adz (c:=c) K ht (o:=i) (by rw[Za9];omega) (v:= .bool true) rfl rfl
          rw[show(Dd tk).set i (.bool true)=Dd (tk.set i true)from(List.map_set).symm]at pt;have aT:=gr.wf _ _ ht;obtain⟨s',z1,z3⟩:=ih (k+1) f (b9 s tb (.cells (Dd (tk.set i true)) 0)) (tk.set i true) (by omega) (by omega) (ru w0 gr OQ aT _) (dx _ _ _) (by simpa using hl) (λj hj=>by
            rw[tke,Zc9,Zc3];by_cases e:i=j
            .subst e;rw[List.getElem?_set_self (by omega)];simp
            . rw[List.getElem?_set_ne e,Ec j hj];constructor
              .exact .inl
              . rintro(h|h)
                .exact h
                .omega)
          refine⟨s',z1,λk1 k2=> ?_⟩;rw[<-z3 k1 k2,jB];simp[gM,iY,p1,p3,ix,pt,wr,d1,d2,d3,d4,d5,ht,aQ,ec]
  . have d5   :decide (0<=x)=false:=Za2 h0;by_cases hx:x= -1
    .   subst hx;have d3:decide ((N:Int)<= -1)=false:=Za2 (by omega);cases w with
        | true=>
          have n1:true=true/\(-1:Int)= -1:=⟨rfl,rfl⟩
          rw[Za7 n1]at eb;rw[eb];refine⟨s,gr,λk1 k2=> ?_⟩;rw[jB];simp[gM,iY,p1,p3]
        | false=>
          have n1:¬(false=true/\(-1:Int)= -1):=(by simp);have n2:¬((-1:Int)< -1\/(N:Int)<= -1):=(by omega);have n3:¬(0<=(-1:Int)/\(-1:Int)∈q.take k):=λh=>by have:=h.1;omega
          rw[Za5 n1,Za5 n2,Za5 n3]at eb;rw[eb];obtain⟨s',z1,z3⟩:=ih (k+1) f s tk (by omega) (by omega) gr ht hl (λj hj=>by
            rw[tke,Zc9,Zc3,Ec j hj];constructor
            .exact .inl
            . rintro(h|h)
              .exact h
              .omega)
          refine⟨s',z1,λk1 k2=> ?_⟩;rw[<-z3 k1 k2,jB];simp[gM,iY,p1,p3,wr,d3]
    .   have d1:decide (x= -1)=false:=Za2 hx;have d2:decide (x< -1)=true:=Za0 (by omega);have n1:¬(w=true/\x= -1):=λh=>hx h.2
        have n2:x< -1\/(N:Int)<=x:= .inl (by omega);rw[Za5 n1,Za7 n2]at eb;rw[eb];refine⟨s,gr,λk1 k2=> ?_⟩;rw[jB];simp[gM,iY,p1,p3,d1,d2]
end
section
variable{s0 s:St}{Vs:List AV}{p:bZ}{P:AV}{q:List Int}
theorem yh(a b:Int):Plain (.tuple [.int .i64 a,.int .i64 b]):= .tuple λv hv=>by simp at hv;rcases hv with rfl|rfl<;>exact .int _ _
theorem afC(hp:p.Ad):((NS p:Nat):Int)=bF p.ts/\NS p<=100000:=by have h1:=uB p.ts;have h2:=hp.ts;unfold NS;omega
theorem ad3(hc:cE c)(h:PS s0 s Vs p)(hp:p.Ad)(hv:(bH p.ts).2=0)(pq:QS 1 s P (q.map cv))(hl:q.length<=1000)(w:Bool):c 122 [.agg Vs,P,.bool w] s=some (.tuple [.int .i64 (MQ p w q).1,.int .i64 (MQ p w q).2],s):=by
 have hw:=h.aE.wf;have gN:=Grew.ah hw (.cells Vs 0);have h1:=h.qx gN;obtain⟨V1,V2,r1,r2,e1,e2,T,T2,e5⟩:=h1.rT;have cn:=y6 hc h1 hp.ok hv e1;obtain⟨hs,hle⟩:=afC hp;rw[<-hs]at cn;have ln:=λ(K:AV->St->Option (AV×St))(s1:St)=>pq.lenB (c:=c) K s1
 rw[Za9]at ln;have lg:=λ(K:AV->St->Option (AV×St))(s1:St)=>T2.out.own.lenB (c:=c) K s1
 rw[T2.len]at lg;unfold MQ;by_cases he:q.length=p.gs.length
 . (rw[Za5 (by simpa using he)];have mk:=λ(K:AV->St->Option (AV×St))=>ady c K (ah s (.cells Vs 0)) (es:=1) (bytes:=1) (z:=[.bool false]) (k:= .i64) (k':= .i64) (n:=NS p) (by omega) (by omega));rw[NX,aaL]at mk;have gT:=Grew.ah gN.wf (.cells (Dd (List.replicate (NS p) false)) 0);obtain⟨s',z1,z3⟩:=aaN (c:=c) hl hle (pq.aE gN) (Za6 _) gN.wf w (q.length+1) q.length 0 (q.length+1) _ (List.replicate (NS p) false) (by omega) (by omega) gT (aD _ _) (by simp) (λi hi=>by rw[List.getElem?_replicate,Za7 hi];simp);simp only[show((0:Nat):Int)=0 from rfl]at z3;rw[Fe hc (q.length+1) (r:=(.tuple [.int .i64 (tr (NS p) w q q.length 0).1,.int .i64 (tr (NS p) w q q.length 0).2],s')),aG (yh _ _) (gN.trans z1).keeps];rw[JB];simp[show ∀l,AV.cells (.agg l)=l from λl=>rfl,aD,aQ,e1,e2,ln,lg,he,cn];rw[mk, <-he,z3];by_cases hz:(tr (NS p) w q q.length 0).2=0
   .rw[Za7 hz,Rs _ _ hz];simp
   .rw[Za5 hz];simp
 .rw[Za7 he];have d:decide ((q.length:Int)=(p.gs.length:Int))=false:=Za2 (by omega);rw[Fe hc 1 (r:=(.tuple [.int .i64 0,.int .i64 53],ah s (.cells Vs 0))),aG (yh _ _) gN.keeps];rw[JB];simp[show ∀l,AV.cells (.agg l)=l from λl=>rfl,aD,aQ,e1,e2,ln,lg,he,d]
theorem aaO(hc:cE c)(h:PS s0 s Vs p)(hp:p.Ad)(hr:∀r∈p.rs,r.Ok)(pq:QS 1 s P (q.map cv))(hl:q.length<=1000)(w:Bool):c 80 [.agg Vs,P,.bool w] s=some (.tuple [.int .i64 (Aw p w q).1,.int .i64 (Aw p w q).2],s):=by
 have hw:=h.aE.wf;have gN:=Grew.ah hw (.cells Vs 0);have h1:=h.qx gN;have hcut:cut Vs 0 5=some Vs:=bV h1.rT.choose_spec.choose_spec.choose_spec.choose_spec.2.2.2.2;have ck:=Da hc h1 hp hr;unfold Aw;by_cases hz:(ff p).2=0
 .rw[Za5 (by simpa using hz)];have kk:=ad3 hc h1 hp (YQ hz) (pq.aE gN) hl w;rw[hz]at ck;rw[B7 hc 1 (r:=(.tuple [.int .i64 (MQ p w q).1,.int .i64 (MQ p w q).2],ah s (.cells Vs 0))),aG (yh _ _) gN.keeps];rw[E0];simp[show ∀l,AV.cells (.agg l)=l from λl=>rfl,aD,aQ,hcut,ck,kk]
 .rw[Za7 hz];have d:decide ((ff p).2=0)=false:=Za2 hz;rw[B7 hc 1 (r:=(.tuple [.int .i64 0,.int .i64 (ff p).2],ah s (.cells Vs 0))),aG (yh _ _) gN.keeps];rw[E0];simp[show ∀l,AV.cells (.agg l)=l from λl=>rfl,aD,aQ,hcut,ck,d,hz]
theorem P9(hc:cE c)(h:PS s0 s Vs p)(hp:p.Ad)(hr:∀r∈p.rs,r.Ok)(pq:QS 1 s P (q.map cv))(hl:q.length<=1000):c 29 [.agg Vs,P] s=some (.tuple [.int .i64 (Aw p true q).1,.int .i64 (Aw p true q).2],s):=by
 have hw:=h.aE.wf;have gN:=Grew.ah hw (.cells Vs 0);have h1:=h.qx gN;have hcut:cut Vs 0 5=some Vs:=bV h1.rT.choose_spec.choose_spec.choose_spec.choose_spec.2.2.2.2;have kk:=aaO hc h1 hp hr (pq.aE gN) hl true;rw[P6 hc 1 (r:=(.tuple [.int .i64 (Aw p true q).1,.int .i64 (Aw p true q).2],ah s (.cells Vs 0))),aG (yh _ _) gN.keeps];rw[U2];simp[show ∀l,AV.cells (.agg l)=l from λl=>rfl,aD,aQ,hcut,kk]
end
end
noncomputable section
open Go Go.Ai Go.Proofs
attribute [local go_sem ↓] bQ ug ev TF xA getLT vU IX N7 ue uf Gf Eo Ep Er AI AK AL AM AN AO Es Eu AP AQ AR AS AT Kj Kk Kl
attribute [local go_sem] bQ ug ev
section
variable(c:ai)(F:Nat)(x0 x1 x2 x3 x4 x5 x6 x7 x8 x9 Bv Bw:AV)(s:St)
def rC:Sh:=(sq sl (sq sl (sq sl (sq (sq sl (sc (sq sl sl) sl)) (sq sl (sq sl (sq sl (sq (sq sl (sc (sq sl sl) sl)) (sq (sq sl (sq sl (sc (sq sl sl) sl))) (sq sl (sq (sq sl (sc (sq sl sl) sl)) (sj [5,6,8] (sq sl (sc (sq sl (sq sl (sc (sq sl sl) sl))) sl)) (sq sl (sq sl (sq sl sl)))))))))))))))
def rD:PX 8 rC:=⟨_,by conv=>lhs;reduce⟩
def nu:O2:=bQ c F b7 rD.1 [x0,x1] s
def rE:=(by dsimp only[nu,rD,go_sem,Int.reduceOfNat,Int.reduceNegSucc]:nu c F x0 x1 s=_)
def o7:Sh:=(sq sl (sq sl (sq sl (sq sl (sq (sb (sp 0 [1,2,4,5,6,7] [(2,[2,4,7])] (sq (sq sl (sc sl sl)) (sb (sq sl sl))))) (sq sl (sq sl sl)))))))
def w9:PX 25 o7:=⟨_,by conv=>lhs;reduce⟩
def vp:PL 25 o7 0:=⟨_,by conv=>lhs;reduce⟩
def gG(k2:Q2):Nat->Q2
 |0,_,_=>none
 |n+1,vs,s=>fX c F b7 (gG k2 n) [k2] vp.1 vs s
def mA(k2:Q2)(n:Nat)(vs:List AV)(s:St):=(by dsimp only[gG,vp,go_sem,Int.reduceOfNat]:gG c F k2 (n+1) vs s=_)
def o8:Un->List Q2->Nat->Q2
 |.z,[k2]=>gG c F k2
 |_,_=>λ_=>iE
def rF:O2:=bQ c F (o8 c F) w9.1 [x0,x1] s
def Hg:=(by dsimp only[rF,w9, ↓o8,go_sem,Int.reduceOfNat]:rF c F x0 x1 s=_)
def LG:Sh:=(sq sl (sq (sq sl (sq sl (sc (sq sl sl) sl))) (sq sl sl)))
def LH:PX 26 LG:=⟨_,by conv=>lhs;reduce⟩
def JM:O2:=bQ c F b7 LH.1 [x0] s
def VB:=(by dsimp only[JM,LH,go_sem,Int.reduceOfNat]:JM c F x0 s=_)
def uh:Sh:=(sq sl (sq (sq sl (sq sl (sc (sq sl sl) sl))) (sq sl (sq (sq sl (sc (sq sl sl) sl)) (sq (sq sl (sc (sq sl sl) sl)) (sq sl (sq sl (sq (sq sl (sb (sp 0 [1,2,8,10,11,40,41] [(2,[1,2,8,10,11])] (sq sl (sq (sc sl sl) (sq (sb (sq sl sl)) sl)))))) (sq sl (sq (sq sl (sb (sp 1 [1,8,10,11,13,51,52] [(4,[13])] (sq sl (sq (sc sl sl) (sq (sb (sq sl (sq sl (sq sl (sq sl sl))))) sl)))))) (sq sl sl)))))))))))
def HN:PX 27 uh:=⟨_,by conv=>lhs;reduce⟩
def Fi:PL 27 uh 1:=⟨_,by conv=>lhs;reduce⟩
def lz(k4:Q2):Nat->Q2
 |0,_,_=>none
 |n+1,vs,s=>fX c F b7 (lz k4 n) [k4] Fi.1 vs s
def uE(k4:Q2)(n:Nat)(vs:List AV)(s:St):=(by dsimp only[lz,Fi,go_sem,Int.reduceOfNat]:lz c F k4 (n+1) vs s=_)
def Fj:PL 27 uh 0:=⟨_,by conv=>lhs;reduce⟩
def n7(k2:Q2):Nat->Q2
 |0,_,_=>none
 |n+1,vs,s=>fX c F b7 (n7 k2 n) [k2] Fj.1 vs s
def Cc(k2:Q2)(n:Nat)(vs:List AV)(s:St):=(by dsimp only[n7,Fj,go_sem,Int.reduceOfNat]:n7 c F k2 (n+1) vs s=_)
def zD:Un->List Q2->Nat->Q2
 |.z,[k2]=>n7 c F k2
 |(.s .z),[k4]=>lz c F k4
 |_,_=>λ_=>iE
def DS:O2:=bQ c F (zD c F) HN.1 [x0,x1] s
def HO:=(by dsimp only[DS,HN, ↓zD,go_sem,Int.reduceOfNat]:DS c F x0 x1 s=_)
def yB:Sh:=(sq sl (sq (sq sl (sq sl (sc (sq sl sl) sl))) (sq (sq sl (sq sl (sc (sq sl sl) sl))) (sq sl (sq sl (sq (sq sl (sb (sp 0 [1,10,11,36,37,38] [(2,[10])] (sq sl (sq (sc sl sl) (sq (sb (sq sl (sq sl (sq (sq sl (sb (sp 1 [1,10,11,12,13,14,36,37,38,46,47,48] [(4,[1,10,11,12,14,36,37,38])] (sq sl (sq (sc sl sl) (sj [1,10,11,12,13,14,36,37,38,46,47,48] (sb (sq sl (sq sl (sc sl sl)))) sl)))))) sl)))) sl)))))) (sq sl sl)))))))
def LJ:PX 28 yB:=⟨_,by conv=>lhs;reduce⟩
def JN:PL 28 yB 1:=⟨_,by conv=>lhs;reduce⟩
def n9(k4:Q2):Nat->Q2
 |0,_,_=>none
 |n+1,vs,s=>fX c F b7 (n9 k4 n) [k4] JN.1 vs s
def yj(k4:Q2)(n:Nat)(vs:List AV)(s:St):=(by dsimp only[n9,JN,go_sem,Int.reduceOfNat]:n9 c F k4 (n+1) vs s=_)
def JO:Un->List Q2->Nat->Q2
 |(.s .z),[k4]=>n9 c F k4
 |_,_=>λ_=>iE
def JP:PL 28 yB 0:=⟨_,by conv=>lhs;reduce⟩
def rG(k2:Q2):Nat->Q2
 |0,_,_=>none
 |n+1,vs,s=>fX c F (JO c F) (rG k2 n) [k2] JP.1 vs s
def Fk(k2:Q2)(n:Nat)(vs:List AV)(s:St):=(by dsimp only[rG,JP, ↓JO,go_sem,Int.reduceOfNat]:rG c F k2 (n+1) vs s=_)
def DT:Un->List Q2->Nat->Q2
 |.z,[k2]=>rG c F k2
 |(.s .z),[k4]=>n9 c F k4
 |_,_=>λ_=>iE
def JQ:O2:=bQ c F (DT c F) LJ.1 [x0,x1] s
def VC:=(by dsimp only[JQ,LJ, ↓DT,go_sem,Int.reduceOfNat]:JQ c F x0 x1 s=_)
def tW:Sh:=(sq sl (sq (sq sl (sq sl (sc (sq sl sl) sl))) (sq sl (sq (sq sl (sb (sp 0 [1,8,9] [(1,[4,5]),(2,[])] (sq (sq sl (sc sl sl)) (sq (sb (sq sl (sb (sp 1 [1,8,9,10] [(1,[4,5]),(4,[1,8,9])] (sq (sq sl (sc sl sl)) (sq (sb (sq sl (sc (sq sl (sq (sq sl (sb (sp 2 [1,11,12] [(6,[11])] (sq (sq sl (sc sl sl)) (sj [1,11,12] (sb (sq sl (sc sl sl))) sl))))) (sq sl sl))) sl))) sl)))))) sl))))) (sq sl sl)))))
def LM:PX 30 tW:=⟨_,by conv=>lhs;reduce⟩
def JR:PL 30 tW 2:=⟨_,by conv=>lhs;reduce⟩
def lY(k6:Q2):Nat->Q2
 |0,_,_=>none
 |n+1,vs,s=>fX c F b7 (lY k6 n) [k6] JR.1 vs s
def rZ(k6:Q2)(n:Nat)(vs:List AV)(s:St):=(by dsimp only[lY,JR,go_sem,Int.reduceOfNat]:lY c F k6 (n+1) vs s=_)
def JS:Un->List Q2->Nat->Q2
 |(.s (.s .z)),[k6]=>lY c F k6
 |_,_=>λ_=>iE
def JT:PL 30 tW 1:=⟨_,by conv=>lhs;reduce⟩
def lZ(k1 k4:Q2):Nat->Q2
 |0,_,_=>none
 |n+1,vs,s=>fX c F (JS c F) (lZ k1 k4 n) [k1,k4] JT.1 vs s
def r9(k1 k4:Q2)(n:Nat)(vs:List AV)(s:St):=(by dsimp only[lZ,JT, ↓JS,go_sem,Int.reduceOfNat]:lZ c F k1 k4 (n+1) vs s=_)
def JU:Un->List Q2->Nat->Q2
 |(.s .z),[k1,k4]=>lZ c F k1 k4
 |(.s (.s .z)),[k6]=>lY c F k6
 |_,_=>λ_=>iE
def JV:PL 30 tW 0:=⟨_,by conv=>lhs;reduce⟩
def oa(k1 k2:Q2):Nat->Q2
 |0,_,_=>none
 |n+1,vs,s=>fX c F (JU c F) (oa k1 k2 n) [k1,k2] JV.1 vs s
def se(k1 k2:Q2)(n:Nat)(vs:List AV)(s:St):=(by dsimp only[oa,JV, ↓JU,go_sem,Int.reduceOfNat]:oa c F k1 k2 (n+1) vs s=_)
def DU:Un->List Q2->Nat->Q2
 |.z,[k1,k2]=>oa c F k1 k2
 |(.s .z),[k1,k4]=>lZ c F k1 k4
 |(.s (.s .z)),[k6]=>lY c F k6
 |_,_=>λ_=>iE
def JW:O2:=bQ c F (DU c F) LM.1 [x0,x1] s
def LN:=(by dsimp only[JW,LM, ↓DU,go_sem,Int.reduceOfNat]:JW c F x0 x1 s=_)
def l6:Sh:=(sq sl (sq (sq sl (sb (sp 0 [0,1,9,10,11] [(1,[4]),(2,[0,1])] (sq sl (sq (sc sl sl) (sq (sb (sq sl (sq (sq sl (sc (sq sl sl) sl)) (sq sl (sq sl (sq sl (sc (sq sl sl) sl))))))) sl)))))) (sq (sq sl (sc (sq sl sl) sl)) (sq sl sl))))
def rH:PX 31 l6:=⟨_,by conv=>lhs;reduce⟩
def qy:PL 31 l6 0:=⟨_,by conv=>lhs;reduce⟩
def gw(k1 k2:Q2):Nat->Q2
 |0,_,_=>none
 |n+1,vs,s=>fX c F b7 (gw k1 k2 n) [k1,k2] qy.1 vs s
def ot(k1 k2:Q2)(n:Nat)(vs:List AV)(s:St):=(by dsimp only[gw,qy,go_sem,Int.reduceOfNat,Int.reduceNegSucc]:gw c F k1 k2 (n+1) vs s=_)
def l7:Un->List Q2->Nat->Q2
 |.z,[k1,k2]=>gw c F k1 k2
 |_,_=>λ_=>iE
def nv:O2:=bQ c F (l7 c F) rH.1 [x0,x1] s
def Cd:=(by dsimp only[nv,rH, ↓l7,go_sem,Int.reduceOfNat,Int.reduceNegSucc]:nv c F x0 x1 s=_)
def LO:Sh:=(sq sl (sq sl sl))
def LP:PX 78 LO:=⟨_,by conv=>lhs;reduce⟩
def JX:O2:=bQ c F b7 LP.1 [x0] s
def VD:=(by dsimp only[JX,LP,go_sem,Int.reduceOfNat]:JX c F x0 s=_)
def Ae:Sh:=(sq sl (sq sl (sq sl (sq (sq sl (sc (sq (sq sl (sc (sq sl sl) sl)) (sq sl sl)) sl)) (sq (sq sl (sc (sq sl sl) sl)) (sq (sq sl (sc (sq sl sl) sl)) (sq (sq sl (sc (sq sl sl) sl)) (sq sl sl))))))))
def Af:PX 81 Ae:=⟨_,by conv=>lhs;reduce⟩
def xe:O2:=bQ c F b7 Af.1 [x0,x1] s
def KJ:=(by dsimp only[xe,Af,go_sem,Int.reduceOfNat,Int.reduceNegSucc]:xe c F x0 x1 s=_)
def yl:Sh:=(sq sl (sq sl (sq (sq sl (sb (sp 0 [0,6,8,9] [(1,[4,5]),(2,[6])] (sq sl (sq (sc sl sl) (sq (sb (sq sl (sq (sq sl (sq sl (sc (sq sl sl) sl))) (sq sl (sc (sq sl sl) sl))))) sl)))))) (sq sl sl))))
def Fl:PX 107 yl:=⟨_,by conv=>lhs;reduce⟩
def De:PL 107 yl 0:=⟨_,by conv=>lhs;reduce⟩
def mU(k1 k2:Q2):Nat->Q2
 |0,_,_=>none
 |n+1,vs,s=>fX c F b7 (mU k1 k2 n) [k1,k2] De.1 vs s
def Ag(k1 k2:Q2)(n:Nat)(vs:List AV)(s:St):=(by dsimp only[mU,De,go_sem,Int.reduceOfNat]:mU c F k1 k2 (n+1) vs s=_)
def ym:Un->List Q2->Nat->Q2
 |.z,[k1,k2]=>mU c F k1 k2
 |_,_=>λ_=>iE
def Ce:O2:=bQ c F (ym c F) Fl.1 [x0,x1] s
def Qa:=(by dsimp only[Ce,Fl, ↓ym,go_sem,Int.reduceOfNat]:Ce c F x0 x1 s=_)
def Df:Sh:=(sq sl (sq sl sl))
def Dg:PX 123 Df:=⟨_,by conv=>lhs;reduce⟩
def zE:O2:=bQ c F b7 Dg.1 [x0] s
def OR:=(by dsimp only[zE,Dg,go_sem,Int.reduceOfNat]:zE c F x0 s=_)
end
section
variable{c:ai}(hc:cE c)(F:Nat){x0 x1 x2 x3 x4 x5 x6 x7 x8 x9 Bv Bw:AV}{s:St}{r:AV×St}
include hc
theorem pO(h:nu c F x0 x1 s=some r):c 8 [x0,x1] s=some (tidy s r):=hc.o0 F rC (by kernel_rfl) (by kernel_rfl) h
theorem DV(h:rF c F x0 x1 s=some r):c 25 [x0,x1] s=some (tidy s r):=hc.o1 F (o8 c F) o7 (by kernel_rfl) (by kernel_rfl) (λ_ _ _=>by kernel_rfl) (λ_ _ _ _=>by kernel_rfl) (by kernel_rfl) h
theorem RR(h:JM c F x0 s=some r):c 26 [x0] s=some (tidy s r):=hc.o0 F LG (by kernel_rfl) (by kernel_rfl) h
theorem Dh(h:DS c F x0 x1 s=some r):c 27 [x0,x1] s=some (tidy s r):=hc.oL F (zD c F) uh 2 (by kernel_rfl) (λi hi=>match i,hi with|0,_=>eF 0 (by kernel_rfl) (λ_ _ _=>by kernel_rfl) (λ_ _ _ _=>by kernel_rfl)|1,_=>eF 1 (by kernel_rfl) (λ_ _ _=>by kernel_rfl) (λ_ _ _ _=>by kernel_rfl)|n+2,h=>absurd h (by omega)) (by kernel_rfl) h
theorem RT(h:JQ c F x0 x1 s=some r):c 28 [x0,x1] s=some (tidy s r):=hc.oL F (DT c F) yB 2 (by kernel_rfl) (λi hi=>match i,hi with|0,_=>eF 0 (by kernel_rfl) (λ_ _ _=>by kernel_rfl) (λ_ _ _ _=>by kernel_rfl)|1,_=>eF 1 (by kernel_rfl) (λ_ _ _=>by kernel_rfl) (λ_ _ _ _=>by kernel_rfl)|n+2,h=>absurd h (by omega)) (by kernel_rfl) h
theorem HP(h:JW c F x0 x1 s=some r):c 30 [x0,x1] s=some (tidy s r):=hc.oL F (DU c F) tW 3 (by kernel_rfl) (λi hi=>match i,hi with|0,_=>eF 0 (by kernel_rfl) (λ_ _ _=>by kernel_rfl) (λ_ _ _ _=>by kernel_rfl)|1,_=>eF 1 (by kernel_rfl) (λ_ _ _=>by kernel_rfl) (λ_ _ _ _=>by kernel_rfl)|2,_=>eF 2 (by kernel_rfl) (λ_ _ _=>by kernel_rfl) (λ_ _ _ _=>by kernel_rfl)|n+3,h=>absurd h (by omega)) (by kernel_rfl) h
theorem zF(h:nv c F x0 x1 s=some r):c 31 [x0,x1] s=some (tidy s r):=hc.o1 F (l7 c F) l6 (by kernel_rfl) (by kernel_rfl) (λ_ _ _=>by kernel_rfl) (λ_ _ _ _=>by kernel_rfl) (by kernel_rfl) h
theorem RU(h:JX c F x0 s=some r):c 78 [x0] s=some (tidy s r):=hc.o0 F LO (by kernel_rfl) (by kernel_rfl) h
theorem Ia(h:xe c F x0 x1 s=some r):c 81 [x0,x1] s=some (tidy s r):=hc.o0 F Ae (by kernel_rfl) (by kernel_rfl) h
theorem MR(h:Ce c F x0 x1 s=some r):c 107 [x0,x1] s=some (tidy s r):=hc.o1 F (ym c F) yl (by kernel_rfl) (by kernel_rfl) (λ_ _ _=>by kernel_rfl) (λ_ _ _ _=>by kernel_rfl) (by kernel_rfl) h
theorem KL(h:zE c F x0 s=some r):c 123 [x0] s=some (tidy s r):=hc.o0 F Df (by kernel_rfl) (by kernel_rfl) h
end
end
section
set_option linter.unusedSimpArgs false
open Go Go.Ai Go.Proofs Go.Ai.Wt
variable{c:ai}
theorem Mk.head{s0 s:St}{v:AV}{q:List Int}(h:Mk 1 s0 s v (q.map cv)){i:Nat}(hi:i<=q.length):
   ∃v',(∀(K:AV->St->Option (AV×St))(s1:St),ak c (.sliceL 1 false true false) [v,.int .i64 (i:Int)] s1 K=K v' s1)/\QS 1 s v' ((q.take i).map cv):=by
 rcases h.own with⟨rfl,h0⟩|⟨b,off,cap,cs,rfl,g1,g2,g3,g4⟩|⟨b,off,rfl,h0⟩
 .have:q=[]:=(by simpa using h0);subst this;obtain rfl:i=0:=(by simpa using hi);exact⟨.af,λK s1=>aK c K (λH n=>rfl) s1,.inl ⟨rfl,rfl⟩⟩
 . rw[  Za9]at g2 g3 g4;have hlen:((q.take i).map cv).length=i:=(by rw[Za9,Zd5];omega);have afD:((q.take i).map cv).flatten=(q.map cv).flatten.take (i*1):=by
     have key:∀(q:List Int)(i:Nat),((q.take i).map cv).flatten=(q.map cv).flatten.take (i*1):=λq=>by
        induction q with
        |nil=>intro i;simp
        |cons x q ih=>
         intro i;cases i with
         |zero=>simp
         |succ i=>
          rw[Zo6,Zd6,Zf8,Zd6,Zf8,ih i];show [AV.int .i64 x]++_=List.take ((i+1)*1) ([AV.int .i64 x]++_);simp
     exact key q i
   rcases h.cap b off _ _ _ rfl with Rc|⟨h0,Rc⟩
   . subst Rc;refine⟨.slice b off i none 1,λK s1=>aK c K (λH n=> ?_) s1,.inr (.inl ⟨b,off,none,cs,by rw[hlen],g1,by rw[hlen];omega,?_,.inl rfl⟩)⟩
     .  simp only[av.run,iK,aeq,cQ,di,Zg2,Zg1,Zk1,Zj0,Za9,Za0 hi];simp
     .  rw[hlen,afD, <-g3,Zn2,Zj1 (by omega)]
   .subst Rc;have h0:q.length=0:=(by simpa using h0);have:q=[]:=Zb2 h0;subst this;obtain rfl:i=0:=(by simpa using hi);exact⟨.slice b off 0 (some 0) 1,λK s1=>aK c K (λH n=>rfl) s1,.inr (.inr ⟨b,off,rfl,rfl⟩)⟩
 .have:q=[]:=(by simpa using h0);subst this;obtain rfl:i=0:=(by simpa using hi);exact⟨.slice b off 0 (some 0) 1,λK s1=>aK c K (λH n=>rfl) s1,.inr (.inr ⟨b,off,rfl,rfl⟩)⟩
section
variable{s0 s sB:St}{Vs:List AV}{p:bZ}{P:AV}{q:List Int}{N G:Nat}
theorem JY(a:Int)(b:Bool):Plain (.tuple [.int .i64 a,.bool b]):= .tuple λv hv=>by simp at hv;rcases hv with rfl|rfl;exact .int _ _;exact .bool _
theorem YS{S G:Nat}{T:Int}(hS:S<=100000)(hG:G<=S)(hT:T<=20000)(F:Nat)(k1 k2:Q2):∀(m g f:Nat)(n:Int),g+m=G->m<f->1<=n->n*pr S m g=T->
  mU c F k1 k2 f [.int .i64 (S:Int),.int .i64 n,.int .i64 (G:Int),.int .i64 (g:Int)] s=k2 [.int .i64 T] s:=by
 intro m;induction m with
 |zero=>
  intro g f n hg hf hn hp;obtain⟨f,rfl⟩:∃g,f=g+1:=⟨f - 1,by omega⟩
  obtain rfl:g=G:=by omega
  have:n=T:=by rw[<-hp];simp[pr]
  subst this;rw[Ag];simp
 |succ m ih=>
  intro g f n hg hf hn hp;obtain⟨f,rfl⟩:∃g,f=g+1:=⟨f - 1,by omega⟩
  have aT:decide ((g:Int)<(G:Int))=true:=Za0 (by omega);have h1:=yR (s:=(S:Int)) m (g+1) (by omega);rw[pr, <-Zm3]at hp;have h2:1<=n*((S:Int) - g):=by have:1*1<=n*((S:Int) - g):=Int.mul_le_mul hn (by omega) (by omega) (by omega);omega
  have h3:n*((S:Int) - g)<=T:=by have:n*((S:Int) - g)*1<=n*((S:Int) - g)*pr S m (g+1):=Zk4 h1 (by omega);omega
  have xK:=ih (g+1) f (n*((S:Int) - g)) (by omega) (by omega) h2 hp;have w1:Unit->aq .i64 ((S:Int) - (g:Int))=(S:Int) - g:=λ_=>wrap64 (by omega) (by omega)
  have w2:Unit->aq .i64 (n*((S:Int) - g))=n*((S:Int) - g):=λ_=>wrap64 (by omega) (by omega)
  have wr:Unit->aq .i64 ((g:Int)+1)=((g+1:Nat):Int):=λ_=>wrap64 (by omega) (by omega)
  have d1:decide ((20000:Int)<n*((S:Int) - g))=false:=Za2 (by omega);have d2:decide (n*((S:Int) - g)=0)=false:=Za2 (by omega);rw[<-xK,Ag];simp only[aB,bu,aC,eJ,aT,e8,eI,xU,w1 (),Kf,w2 (),We,d1,fe,d2,iA,wr ()]
theorem YT(hc:cE c){S G:Nat}(hS:S<=100000)(hG:G<=S)(hT:pr S G 0<=20000):c 107 [.int .i64 (S:Int),.int .i64 (G:Int)] s=some (.tuple [.int .i64 (pr S G 0),.bool true],s):=by
 have L:=λk1 k2=>YS (c:=c) (s:=s) hS hG hT (G+1) k1 k2 G 0 (G+1) 1 (by omega) (by omega) (by omega) (Int.one_mul _)
 simp only[show((0:Nat):Int)=0 from rfl]at L;rw[MR hc (G+1) (r:=(.tuple [.int .i64 (pr S G 0),.bool true],s)),aG (JY _ _) (bt.refl s)];rw[Qa];simp only[aC,L,aB,bu]
theorem Kv(hc:cE c)(h:PS s0 s Vs p)(ok:LF p N)(hG:p.gs.length<=N)(hT:pr N p.gs.length 0<=20000):c 78 [.agg Vs] s=some (.tuple [.int .i64 (pr N p.gs.length 0),.bool true],s):=by
 have gN:=Grew.ah h.aE.wf (.cells Vs 0);have h1:=h.qx gN;obtain⟨V1,V2,r1,r2,e1,e2,T,T2,e5⟩:=h1.rT;have cn:=y6 hc h1 ok.u7.ok ok.tabs e1;rw[<-ok.sum]at cn;have fa:=YT (s:=ah s (.cells Vs 0)) hc ok.le hG hT;have x:=aD s (.cells Vs 0);have l0:∀(K:AV->Option (AV×St)),kR (.load none) [.ptr s.next 0] (ah s (.cells Vs 0)).heap (λ_=>true) K=K V1:=λK=>by simp[x,aQ,e1]
 have l1:∀(K:AV->Option (AV×St)),kR (.load none) [.ptr s.next 1] (ah s (.cells Vs 0)).heap (λv=>pP (.load none) [.ptr s.next 1] v (vu [] (ah s (.cells Vs 0)).heap)&&true) K=K V2:=λK=>uR K (by rw[x];exact e2) (by rw[x];exact e2) (Go.Ai.QS.beq T2.out.own)
 have lg:=λ(K:AV->Option (AV×St))=>lenP T2.out.own K
 rw[T2.len]at lg;have f0:∀(K:AV->Option (AV×St)),dJ (.fieldA 0) [.ptr s.next 0] K=K (.ptr s.next 0):=λK=>bU K (λH n=>rfl)
 have f1:∀(K:AV->Option (AV×St)),dJ (.fieldA 1) [.ptr s.next 0] K=K (.ptr s.next 1):=λK=>bU K (λH n=>rfl)
 have x0:∀(a b:AV)(K:AV->Option (AV×St)),dJ (.extract 0) [.tuple [a,b]] K=K a:=λa b K=>bU K (λH n=>rfl)
 have x1:∀(a b:AV)(K:AV->Option (AV×St)),dJ (.extract 1) [.tuple [a,b]] K=K b:=λa b K=>bU K (λH n=>rfl)
 rw[RU hc 1 (r:=(.tuple [.int .i64 (pr N p.gs.length 0),.bool true],ah s (.cells Vs 0))),aG (JY _ _) gN.keeps];rw[VD];rw[pT];simp only[show ∀l,AV.cells (.agg l)=l from λl=>rfl,aC,f0,l0,fM,cn,eZ,f1,l1,lg,fa,x0,x1,cZ]
theorem ad4(hc:cE c)(h:PS s0 s Vs p)(ok:LF p N)(hG:p.gs.length<=N)(hT:pr N p.gs.length 0<=20000):c 26 [.agg Vs] s=some (.tuple [.int .i64 (pr N p.gs.length 0),.bool true],s):=by
 have gN:=Grew.ah h.aE.wf (.cells Vs 0);have h1:=h.qx gN;have hcut:cut Vs 0 5=some Vs:=bV h.cells.1;have ck:=Da hc h1 ok.u7 ok.rs;rw[ok.u5]at ck;have wk:=Kv hc h1 ok hG hT;rw[RR hc 1 (r:=(.tuple [.int .i64 (pr N p.gs.length 0),.bool true],ah s (.cells Vs 0))),aG (JY _ _) gN.keeps];rw[VB];simp[show ∀l,AV.cells (.agg l)=l from λl=>rfl,aD,aQ,hcut,ck,wk]
theorem Xd{q:List Int}(hs:Seq (N:Int) [] q):∀(m k:Nat),k+m=q.length->tr N true q m k=(0,0)
 |0,_,_=>rfl
 |m+1,k,hk=>by
  have iY:k<q.length:=by omega
  have e:q=q.take k++q[k]::q.drop (k+1):=by rw[<-Zc7 iY,Zg6]
  have gK:=hs;rw[e]at gK;obtain⟨_,s2⟩:=Seq.app.1 gK;rw[Ze0]at s2;obtain⟨a1,a2,a3,_⟩:=s2;rw[Xc iY rfl,Za5 (λh=>by have:=h.2;omega),Za5 (by omega),Za5 (λh=>a1 h.2)];exact Xd hs m (k+1) (by omega)
theorem MS(ok:LF p N)(hs:Seq (N:Int) [] q)(hl:q.length=p.gs.length):Aw p true q=(0,0):=by
 have hN:NS p=N:=by unfold NS;rw[<-ok.sum];rfl
 unfold Aw MQ;rw[Za5 (by rw[ok.u5];simp),Za5 (by simpa using hl),hN];exact Xd hs q.length 0 (by omega)
theorem ad5(pw:QS 1 s P (q.map cv))(hl:q.length<=1000)(x:Int)(x1 Bv Bw x12 x36 x37 x38:AV)(F:Nat)(k4:Q2):∀(m k f:Nat)(n:Int),k+m=q.length->m<f-> -10000<=n - (m:Int)->n<=1000000->
  n9 c F k4 f [x1,Bv,Bw,x12,.int .i64 x,.int .i64 n,x36,x37,x38,P,.int .i64 (q.length:Int),.int .i64 (k:Int)] s=k4 [x1,Bv,Bw,x12,.int .i64 (n - (((q.drop k).countP λy=>decide (y<x):Nat):Int)),x36,x37,x38] s:=by
 intro m;induction m with
 |zero=>
  intro k f n hk hf _ _;obtain⟨f,rfl⟩:∃g,f=g+1:=⟨f - 1,by omega⟩
  obtain rfl:k=q.length:=by omega
  rw[yj];simp
 |succ m ih=>
  intro k f n hk hf hn1 Lw;obtain⟨f,rfl⟩:∃g,f=g+1:=⟨f - 1,by omega⟩
  have iY:k<q.length:=by omega
  obtain⟨pb,po,p⟩:=LD pw (H5 iY);have p1:=λ{R}=>@p.st R
  have p3:=p.one;have wr:Unit->aq .i64 ((k:Int)+1)=((k+1:Nat):Int):=λ_=>wrap64 (by omega) (by omega)
  have aT:decide ((k:Int)<(q.length:Int))=true:=Za0 (by omega);rw[Zc7 iY,List.countP_cons];by_cases e:q[k]<x
  . have d:decide (q[k]<x)=true:=Za0 e;have wn:Unit->aq .i64 (n - 1)=n - 1:=λ_=>wrap64 (by omega) (by omega)
    rw[d,Za7 rfl,show n - ((((q.drop (k+1)).countP λy=>decide (y<x))+1:Nat):Int)=n - 1 - (((q.drop (k+1)).countP λy=>decide (y<x):Nat):Int)by omega, <-ih (k+1) f (n - 1) (by omega) (by omega) (by omega) (by omega),yj];simp[gM,aT,iY,p1,p3,d,wr (),wn ()]
  .have d:decide (q[k]<x)=false:=Za2 e;rw[d,Za5 (by simp)];show _=k4 [x1,Bv,Bw,x12,.int .i64 (n - (((q.drop (k+1)).countP λy=>decide (y<x):Nat):Int)),x36,x37,x38] s;rw[<-ih (k+1) f n (by omega) (by omega) (by omega) (by omega),yj];simp[gM,aT,iY,p1,p3,d,wr ()]
theorem aaP{pre:List Int}(h:∀y∈pre,0<=y)(x:Int):cnt pre 0 x=pre.countP λy=>decide (y<x):=by
 unfold cnt;refine List.countP_congr λy hy=> ?_
 have:=h y hy;simp[this]
theorem ad6{sA:St}(hs:Seq (N:Int) [] q)(hN:N<=100000)(hlN:q.length<=N)(hT:pr N q.length 0<=20000)(hq1:q.length<=1000)(M:Mk 1 sA s P (q.map cv))(F:Nat)(hF:q.length<F)(k2:Q2):∀(m k f:Nat),k+m=q.length->m<f->
  rG c F k2 f [P,.int .i64 (rk N 0 [] (q.take k)),.int .i64 (N:Int),P,.int .i64 (q.length:Int),.int .i64 (k:Int)] s=k2 [.int .i64 (rk N 0 [] q)] s:=by
 have Le:Ok (N:Int) []:=⟨Zj7,λy hy=>by cases hy⟩
 have hpre:∀k,k<=q.length->Seq (N:Int) [] (q.take k)/\0<=rk N 0 [] (q.take k)/\rk N 0 [] (q.take k)+1<=20000:=λk hk=>by
  have e:q=q.take k++q.drop k:=(Zg6 k q).symm;have gK:=hs;rw[e]at gK;have s1:=(Seq.app.1 gK).1;have aT:(q.take k).length=k:=by rw[Zd5];omega
  refine⟨s1,?_,?_⟩
  . have nn:∀(xs pre:List Int)(acc:Int),Ok (N:Int) pre->Seq (N:Int) pre xs->0<=acc->pre.length+xs.length<=N->0<=rk N acc pre xs:=λxs=>by
        induction xs with
        |nil=>intro pre acc _ _ h _;exact h
        |cons x xs ih=>
         intro pre acc ho ⟨h1,h2,h3,h4⟩ ha hl;rw[Zd4]at hl;refine ih (pre++[x]) _ (ho.snoc h1 h2 h3) h4 ?_ (by rw[fQ];omega);have h5:=acW ho h2;have h6:0<=acc*((N:Int) - pre.length):=Zp4 ha (by omega);omega
    exact nn _ _ _ Le s1 (by omega) (by rw[aT];simp;omega)
  . have h1:=Wt.Ob (s:=(N:Int)) (q.take k) [] 0 Le s1 (by rw[aT];simp;omega);rw[aT]at h1;simp only[Zj8,Int.zero_add,Int.one_mul]at h1;have mono:∀(a b g:Nat),((g+(a+b):Nat):Int)<=N->pr N a g<=pr N (a+b) g:=λa=>by
        induction a with
        |zero=>
         intro b g h;have:=yR (s:=(N:Int)) (0+b) g h;show(1:Int)<=_;exact this
        |succ a ih=>
         intro b g h;rw[show a+1+b=(a+b)+1 by omega,pr,pr];exact Zk4 (ih b (g+1) (by omega)) (by omega)
    have:=mono k (q.length - k) 0 (by omega);rw[show k+(q.length - k)=q.length by omega]at this;omega
 intro m;induction m with
 |zero=>
  intro k f hk hf;obtain⟨f,rfl⟩:∃g,f=g+1:=⟨f - 1,by omega⟩
  obtain rfl:k=q.length:=by omega
  rw[Fk,Zi7];simp
 |succ m ih=>
  intro k f hk hf;obtain⟨f,rfl⟩:∃g,f=g+1:=⟨f - 1,by omega⟩
  have iY:k<q.length:=by omega
  obtain⟨pb,po,p⟩:=LD M.own (H5 iY);have p1:=λ{R}=>@p.st R
  have p3:=p.one;obtain⟨W,w1,w2⟩:=Mk.head (c:=c) M (i:=k) (by omega);have aT:decide ((k:Int)<(q.length:Int))=true:=Za0 (by omega);have hlk:(q.take k).length=k:=by rw[Zd5];omega
  have lw:=λ(K:AV->St->Option (AV×St))(s1:St)=>w2.lenB (c:=c) K s1
  rw[Za9,hlk]at lw;obtain⟨a1,a2,a3⟩:=hpre k (by omega);obtain⟨b1,b2,b3⟩:=hpre (k+1) (by omega);have e1:q.take (k+1)=q.take k++[q[k]]:=Zc4 iY;have e2:rk N 0 [] (q.take (k+1))=rk N 0 [] (q.take k)*((N:Int) - k)+dg (q.take k) q[k]:=by
    rw[e1,Oc,Ze0];show rk N 0 [] (q.take k)*((N:Int) - ((q.take k).length:Int))+dg (q.take k) q[k]=_;rw[hlk]
  have gK:=b1;rw[e1]at gK;obtain⟨_,s2⟩:=Seq.app.1 gK;rw[Ze0]at s2;obtain⟨c1,c2,c3,_⟩:=s2;have okp:=Seq.ok Le a1;rw[Ze0]at okp;have ed:dg (q.take k) q[k]=q[k] - (((q.take k).countP λy=>decide (y<q[k]):Nat):Int):=by
    unfold dg;rw[aaP λy hy=>(okp.rg y hy).1]
  have L1:=λ(x38:AV)(k4:Q2)=>ad5 (c:=c) w2 (by omega) q[k] P (.int .i64 (rk N 0 [] (q.take k))) (.int .i64 (N:Int)) (.int .i64 (k:Int)) P (.int .i64 (q.length:Int)) x38 F k4 (q.take k).length 0 F q[k] (by omega) (by omega) (by omega) (by omega)
  simp only[Ze3,hlk,show((0:Nat):Int)=0 from rfl, <-ed]at L1;have xK:=ih (k+1) f (by omega) (by omega);rw[e2]at xK b2 b3;have h7:=acW okp c2;have h8:0<=rk N 0 [] (q.take k)*((N:Int) - k):=Zp4 a2 (by omega);generalize dg (q.take k) q[k]=D at*
  generalize rk N 0 [] (q.take k)=R at*
  have v1:Unit->aq .i64 ((N:Int) - (k:Int))=(N:Int) - k:=λ_=>wrap64 (by omega) (by omega)
  generalize hZ:R*((N:Int) - k)=Z at*
  have v2:Unit->aq .i64 (R*((N:Int) - k))=Z:=λ_=>by rw[hZ];exact wrap64 (by omega) (by omega)
  have v3:Unit->aq .i64 (Z+D)=Z+D:=λ_=>wrap64 (by omega) (by omega)
  have wr:Unit->aq .i64 ((k:Int)+1)=((k+1:Nat):Int):=λ_=>wrap64 (by omega) (by omega)
  have ld:∀(K:AV->St->Option (AV×St)),ak c (.load none) [.ptr pb po] s K=K (.int .i64 q[k]) s:=λK=>by simp[p3]
  rw[<-xK,Fk];simp only[aB,bu,eJ,aT,e8,aC,p1,ld,w1,lw,L1,xU,v1 (),Kf,v2 (),iA,v3 (),wr ()]
theorem Xe{sA:St}(hc:cE c)(h:PS s0 s Vs p)(ok:LF p N)(hG:p.gs.length<=N)(hT:pr N p.gs.length 0<=20000)(M:Mk 1 sA s P (q.map cv))(hs:Seq (N:Int) [] q)(hl:q.length=p.gs.length):
  c 28 [.agg Vs,P] s=some (.tuple [.int .i64 (rk N 0 [] q),.int .i64 0],s):=by
 have gN:=Grew.ah h.aE.wf (.cells Vs 0);have h1:=h.qx gN;have hcut:cut Vs 0 5=some Vs:=bV h.cells.1;have hgs:=ok.u7.gs;have M1:=M.grow gN;have ck:=P9 hc h1 ok.u7 ok.rs M1.own (by omega);rw[MS ok hs hl]at ck;have wk:=Kv hc h1 ok hG hT;obtain⟨V1,V2,r1,r2,e1,e2,T,T2,e5⟩:=h1.rT;have cn:=y6 hc h1 ok.u7.ok ok.tabs e1;rw[<-ok.sum]at cn;have ln:=λ(K:AV->St->Option (AV×St))(s1:St)=>M1.own.lenB (c:=c) K s1
 rw[Za9]at ln;have L0:=λk2=>ad6 (c:=c) hs ok.le (by omega) (by rw[hl];exact hT) (by omega) M1 (q.length+1) (by omega) k2 q.length 0 (q.length+1) (by omega) (by omega)
 simp only[Zn3,show rk (N:Int) 0 [] []=0 from rfl,show((0:Nat):Int)=0 from rfl]at L0;rw[RT hc (q.length+1) (r:=(.tuple [.int .i64 (rk N 0 [] q),.int .i64 0],ah s (.cells Vs 0))),aG (yh _ _) gN.keeps];rw[VC];simp[show ∀l,AV.cells (.agg l)=l from λl=>rfl,aD,aQ,hcut,ck,wk,e1,cn,ln];rw[L0];simp
end
set_option linter.unusedSimpArgs false
abbrev yC(o:List Int):List AV:=o.map (AV.int .i64)
structure FL(sB s:St)(V:AV)(b:Pos)(l:List Int):Prop where
 val:V= .slice b 0 l.length none 1
 mem:∃cs,s.heap.get b=some (.cells cs 0)/\l.length<=cs.length/\cs.take l.length=yC l
 ge:sB.next.toNat<=b.toNat
theorem JZ:∀l:List Int,(l.map cv).flatten=yC l
 |[]=>rfl
 |x::l=>by rw[Zd6,Zf8,JZ l];rfl
theorem FL.qs{sB s:St}{V:AV}{b:Pos}{l:List Int}(h:FL sB s V b l):QS 1 s V (l.map cv):=by
 obtain⟨cs,g1,g2,g3⟩:=h.mem;have hlen:(l.map cv).length=l.length:=by rw[Za9]
 refine .inr (.inl ⟨b,0,none,cs,by rw[hlen];exact h.val,g1,by rw[hlen];omega,?_,.inl rfl⟩);rw[hlen,Ze3,show l.length*1=l.length by omega,g3,JZ]
theorem Xf{cs vs:List AV}{i:Nat}(h:i+vs.length<=cs.length)(k:Nat):(aF cs i vs)[k]? =if k<i then cs[k]? else if k<i+vs.length then vs[k - i]? else cs[k]? :=by
 unfold aF;by_cases h1:k<i
 .rw[Za7 h1,Zb7 (by rw[Zd5];omega),Zb8,Za7 h1]
 . rw[Za5 h1,Zc2 (by rw[Zd5];omega),Zd5,Zj1 (by omega)];by_cases h2:k<i+vs.length
   .rw[Za7 h2,Zb7 (by omega)]
   .rw[Za5 h2,Zc2 (by omega),Zc5,show i+vs.length+(k - i - vs.length)=k by omega]
theorem Qb{cs vs:List AV}{i:Nat}(h:i+vs.length<=cs.length):(aF cs i vs).length=cs.length:=by unfold aF;simp only[Zd7,Zd5,Zj5];omega
theorem LQ:∀(l:List Int),aL (yC l)=true
 |[]=>rfl
 |x::l=>by show aL (.int .i64 x::yC l)=true;simp only[aL,LQ l,Zk8];rfl
theorem ad7{cs:List AV}{l:List Int}{i:Nat}(hi:i<l.length)(hc:l.length<=cs.length)(h:cs.take l.length=yC l):(dl cs l.length i).take (l.eraseIdx i).length=yC (l.eraseIdx i)/\l.length<=(dl cs l.length i).length:=by
 have hel:(l.eraseIdx i).length=l.length - 1:=by rw[List.length_eraseIdx,Za7 hi]
 have hv:((cs.drop (i+1)).take (l.length - 1 - i)).length=l.length - 1 - i:=by rw[Zd5,Zj5];omega
 have b1:i+((cs.drop (i+1)).take (l.length - 1 - i)).length<=cs.length:=by omega
 have b2:l.length - 1+[AV.int .i64 0].length<=(aF cs i ((cs.drop (i+1)).take (l.length - 1 - i))).length:=by rw[Qb b1];show l.length - 1+1<=_;omega
 refine⟨?_,?_⟩
 . rw[hel];apply Zi3;intro k;rw[Zb8];by_cases hk:k<l.length - 1
   . have key:∀j,j<l.length->cs[j]? =(yC l)[j]? :=λj hj=>by rw[<-h,Zb8,Za7 hj]
     rw[Za7 hk,dl,Xf b2,Za7 hk,Xf b1,hv];show _=((l.eraseIdx i).map (AV.int .i64))[k]?;rw[Zc1,List.getElem?_eraseIdx];by_cases hki:k<i
     .rw[Za7 hki,Za7 hki,key k (by omega),Zc1]
     .rw[Za5 hki,Za5 hki,Za7 (by omega),Zb8,Za7 (by omega),Zc5,key _ (by omega),Zc1,show i+1+(k - i)=k+1 by omega]
   .rw[Za5 hk,Zc0 (by rw[Za9,hel];omega)]
 .rw[dl,Qb b2,Qb b1];exact hc
section
variable{s0 s sB:St}{Vs:List AV}{p:bZ}{P V O:AV}{q l:List Int}{N G:Nat}{fb:Pos}
theorem VE(hc:cE c)(h:FL sB s V fb l)(h6:l.length<=1000000){i:Nat}(hi:i<l.length):
  ∃V' x,c 79 [V,.int .i64 (i:Int),.int .i64 ((i:Int)+1)] s=some (V',b9 s fb x)/\FL sB (b9 s fb x) V' fb (l.eraseIdx i):=by
 obtain⟨cs,g1,g2,g3⟩:=h.mem;obtain⟨d1,d2⟩:=ad7 hi g2 g3;have hel:(l.eraseIdx i).length=l.length - 1:=by rw[List.length_eraseIdx,Za7 hi]
 have L5:aL ((cs.drop (i+1)).take (l.length - 1 - i))=true:=by
  have:(cs.drop (i+1)).take (l.length - 1 - i)=yC ((l.drop (i+1)).take (l.length - 1 - i)):=by
   have e:(cs.take l.length).drop (i+1)=(cs.drop (i+1)).take (l.length - (i+1)):=Zo9 ..;rw[show l.length - 1 - i=l.length - (i+1)by omega, <-e,g3];unfold yC;rw[Zm1,List.map_drop,Zf3 (by simp)]
  rw[this];exact LQ _
 refine⟨.slice fb 0 (l.length - 1) none 1,.cells (dl cs l.length i) 0,hc.at (s:=AW) rfl ?_,⟨by rw[hel],⟨_,dx _ _ _,by rw[hel];omega,d1⟩,h.ge⟩⟩;rw[h.val];simp only[AW,g1,Zm9,L5,Za0 (show(0:Int)<=(i:Int)by omega),Za0 (show(i:Int)+1=(i:Int)+1 from rfl),Za0 (show(i:Int)+1<=(l.length:Int)by omega),Za0 g2,Za0 h6,Zg2,Zi8]
theorem aaQ(hN:N<=100000)(x1 x2 x8:AV)(F:Nat)(w0:Wf sB):∀(m k f:Nat)(s:St)(v:AV),k+m=N->m<f->Mk 1 sB s v ((dW [] k 0).map cv)->
  ∃s' v',Mk 1 sB s' v' ((dW [] N 0).map cv)/\∀k2:Q2,n7 c F k2 f [x1,x2,x8,.int .i64 (N:Int),v,.int .i64 (N:Int),.int .i64 (k:Int)] s=k2 [x1,x2,x8,.int .i64 (N:Int),v'] s':=by
 intro m;induction m with
 |zero=>
  intro k f s v hk hf M;obtain⟨f,rfl⟩:∃g,f=g+1:=⟨f - 1,by omega⟩
  obtain rfl:k=N:=by omega
  refine⟨s,v,M,λk2=> ?_⟩;rw[Cc];simp
 |succ m ih=>
  intro k f s v hk hf M;obtain⟨f,rfl⟩:∃g,f=g+1:=⟨f - 1,by omega⟩
  have hlk:(dW [] k 0).length=k:=by rw[Ev];simp
  obtain⟨s5,v',a1,M',_,_⟩:=Mk.push (R:=AV×St) (c:=c) (bytes:=8) M (z:=[.int .i64 0]) (x:= .int .i64 (k:Int)) rfl rfl rfl (by decide) (by rw[Za9];omega) (by rw[Za9];omega);have e:dW [] (k+1) 0=dW [] k 0++[(k:Int)]:=by rw[Ev,Ev,List.range'_concat];simp
  obtain⟨s',v2,z1,z2⟩:=ih (k+1) f s5 v' (by omega) (by omega) (by rw[e,Ze2];exact M');refine⟨s',v2,z1,λk2=> ?_⟩;have wr:Unit->aq .i64 ((k:Int)+1)=((k+1:Nat):Int):=λ_=>wrap64 (by omega) (by omega)
  have aT:decide ((k:Int)<(N:Int))=true:=Za0 (by omega);rw[<-z2 k2,Cc];simp only[aB,bu,eJ,aT,e8,aC,a1,iA,wr ()]
theorem Mk.fl{v:AV}(h:Mk 1 sB s v (l.map cv))(hn:l≠[]):∃b,FL sB s v b l/\aZ v=some b:=by
 have CA:0<l.length:=List.length_pos_iff.2 hn;rcases h.own with⟨_,h0⟩|⟨b,off,cap,cs,rfl,g1,g2,g3,g4⟩|⟨b,off,_,h0⟩
 .exact absurd (by simpa using h0) hn
 . rw[Za9]at g2 g3 g4;have Rc:cap=none:=by
    rcases h.cap b off _ _ _ rfl with Rc|⟨h0,_⟩
    .exact Rc
    .rw[Za9]at h0;omega
   subst Rc;have hob:aZ (.slice b off (l.map cv).length none 1)=some b:=rfl;have ht:=h.tight b hob;rw[ht]at g1;simp only[H4,AB.cells.injEq,Zm2]at g1;have Bd:=JZ l;have hfl2:(yC l).length=l.length:=(by simp);have ho:off=0:=(by rw[<-g1,Bd,hfl2]at g2;omega);subst ho;refine⟨b,⟨by rw[Za9],⟨cs,by rw[ht,g1],by rw[<-g1,Bd,hfl2];exact Za6 _,by rw[<-g1,Bd,Zf3 (by simp)]⟩,h.new b hob⟩,rfl⟩
 .exact absurd (by simpa using h0) hn
theorem aaR(hc:cE c)(w0:Wf sB)(hN:N<=100000)(hG:G<=N)(hG2:G<=1000)(hT:pr N G 0<=20000)(F:Nat):∀(m g f n:Nat)(s:St)(V O:AV)(q:List Int),g+m=G->m<f->q.length=g->Ok (N:Int) q->(n:Int)<pr N m g->pr N m g<=20000->
  FL sB s V fb (dW q N 0)->Mk 1 sB s O (q.map cv)->aZ O≠some fb->
  ∃s' O',Mk 1 sB s' O' ((Q1 N m q n).map cv)/\∀k4:Q2,lz c F k4 f [.int .i64 (n:Int),.int .i64 (pr N m g),.int .i64 (N:Int),V,O,.int .i64 (G:Int),.int .i64 (g:Int)] s=k4 [O'] s':=by
 intro m;induction m with
 |zero=>
  intro g f n s V O q hg hf hq ok hn hp hV hO cF;obtain⟨f,rfl⟩:∃g,f=g+1:=⟨f - 1,by omega⟩
  obtain rfl:g=G:=by omega
  refine⟨s,O,hO,λk4=> ?_⟩;rw[uE];simp
 |succ m ih=>
  intro g f n s V O q hg hf hq ok hn hp hV hO cF;obtain⟨f,rfl⟩:∃g,f=g+1:=⟨f - 1,by omega⟩
  subst hq;obtain⟨k,x,hk,iu,kg,aT,hx,h1,h2,h3,h4⟩:=Wv ok (by omega) hn;have Bd:(dW q N 0).length<=N:=by have:=Kn ok;omega
  have epr:pr (N:Int) (m+1) q.length=((N:Int) - q.length)*(k:Int):=by rw[pr, <-iu]
  rw[epr]at hp hn ⊢;have hNq:1<=(N:Int) - q.length:=by omega
  have xj:(k:Int)<=20000:=by have:1*(k:Int)<=((N:Int) - q.length)*(k:Int):=Zk3 hNq (by omega);omega
  obtain⟨pb,po,p⟩:=LD hV.qs hx;have p1:=λ{R}=>@p.st R
  have p3:=p.one;obtain⟨s5,O',a1,M',fr,nb⟩:=Mk.push (R:=AV×St) (c:=c) (bytes:=8) hO (z:=[.int .i64 0]) (x:= .int .i64 x) rfl rfl rfl (by decide) (by rw[Za9];omega) (by rw[Za9];omega);obtain⟨cs,v1,v2,v3⟩:=hV.mem;have hfb:=hO.aE.wf _ _ v1;have hV5:FL sB s5 V fb (dW q N 0):=⟨hV.val,⟨cs,fr fb _ cF v1,v2,v3⟩,hV.ge⟩
  obtain⟨V',y,D1,D2⟩:=VE hc hV5 (by omega) aT;rw[Pj N 0 _ hx]at D2;have hne':aZ O'≠some fb:=λe=>by have:=nb fb e;omega
  have g5:Grew sB (b9 s5 fb y):=ru w0 M'.aE hV.ge (M'.aE.wf _ _ (fr fb _ cF v1)) y;have M6:Mk 1 sB (b9 s5 fb y) O' ((q++[x]).map cv):=by rw[Ze2];exact M'.ud g5 λb z hb hz=>by rw[bk (λe=>hne' (by rw[e];exact hb))];exact hz
  have hm:n % k<k:=Zi4 _ kg;obtain⟨s',O2,z1,z2⟩:=ih (q.length+1) f (n % k) (b9 s5 fb y) V' O' (q++[x]) (by omega) (by omega) (fQ q x) (ok.snoc h1 h2 h3) (by rw[<-iu];omega) (by rw[<-iu];exact xj) D2 M6 hne';refine⟨s',O2,?_,λk4=> ?_⟩
  .rw[Q1, <-hk,Zb4,hx];exact z1
  have A6:decide ((q.length:Int)<(G:Int))=true:=Za0 (by omega);have Is:(n:Int)<20001:=by omega
  have q1:∀(K:AV->St->Option (AV×St))(s:St),ak c (.bin .quo .num) [.int .i64 (((N:Int) - q.length)*(k:Int)),.int .i64 ((N:Int) - q.length)] s K=K (.int .i64 (k:Int)) s:=λK s=>by
    rw[eG (Zp4 (by omega) (by omega)) (by omega) (by omega),Int.mul_ediv_cancel_left _ (by omega)]
  have q2:∀(K:AV->St->Option (AV×St))(s:St),ak c (.bin .quo .num) [.int .i64 (n:Int),.int .i64 (k:Int)] s K=K (.int .i64 ((n / k:Nat):Int)) s:=λK s=>by
    rw[eG (by omega) (by omega) (by omega),Zp9]
  have q3:∀(K:AV->Option (AV×St)),dJ (.bin .quo .num) [.int .i64 (n:Int),.int .i64 (k:Int)] K=K (.int .i64 ((n / k:Nat):Int)):=λK=>by
    rw[Mr (by omega) (by omega) (by omega),Zp9]
  have r1:∀(K:AV->St->Option (AV×St))(s:St),ak c (.bin .rem .num) [.int .i64 (n:Int),.int .i64 (k:Int)] s K=K (.int .i64 ((n % k:Nat):Int)) s:=λK s=>by
    rw[bN (by omega) (by omega),Zl9]
  have hi:=aT;generalize n / k=i at*
  have pl:∀(K:AV->Option (AV×St)),dJ (.bin .add .num) [.int .i64 (i:Int),.int .i64 1] K=K (.int .i64 ((i:Int)+1)):=λK=>by
    rw[adm,wrap64 (by omega) (by omega)]
  have ld:∀(K:AV->St->Option (AV×St)),ak c (.load none) [.ptr pb po] s K=K (.int .i64 x) s:=λK=>by simp[p3]
  have w1:Unit->aq .i64 ((N:Int) - (q.length:Int))=(N:Int) - q.length:=λ_=>wrap64 (by omega) (by omega)
  have wr:Unit->aq .i64 ((q.length:Int)+1)=((q.length+1:Nat):Int):=λ_=>wrap64 (by omega) (by omega)
  rw[<-iu]at z2;rw[<-z2 k4,uE];simp only[aB,bu,eJ,A6,e8,aC,xU,w1 (),q1,q2,p1,ld,a1,cZ,q3,pl,fM,D1,eZ,r1,iA,wr ()]
theorem aaS(hc:cE c)(h:PS s0 s Vs p)(ok:LF p N)(hG:p.gs.length<=N)(hT:pr N p.gs.length 0<=20000){n:Nat}(hn:(n:Int)<pr N p.gs.length 0):
  ∃s' v,c 27 [.agg Vs,.int .i64 (n:Int)] s=some (.tuple [v,.int .i64 0],s')/\Mk 1 s s' v ((Q1 N p.gs.length [] n).map cv):=by
 have hw:=h.aE.wf;have gN:=Grew.ah hw (.cells Vs 0);have h1:=h.qx gN;have hcut:cut Vs 0 5=some Vs:=bV h.cells.1;have hgs:=ok.u7.gs;have ck:=Da hc h1 ok.u7 ok.rs;rw[ok.u5]at ck;have wk:=Kv hc h1 ok hG hT;obtain⟨V1,V2,r1,r2,e1,e2,T,T2,e5⟩:=h1.rT;have cn:=y6 hc h1 ok.u7.ok ok.tabs e1;rw[<-ok.sum]at cn;have hN:=ok.le;have d1:decide ((n:Int)<0)=false:=Za2 (by omega);have d2:decide (pr (N:Int) p.gs.length 0<=(n:Int))=false:=Za2 (by omega);obtain⟨s1,v1,M1,L0⟩:=aaQ (c:=c) (N:=N) ok.le (.int .i64 (n:Int)) (.ptr s.next 0) (.int .i64 (pr N p.gs.length 0)) (N+1001) gN.wf N 0 (N+1001) (ah s (.cells Vs 0)) .af (by omega) (by omega) (Mk.start gN.wf (Grew.refl gN.wf));simp only[show((0:Nat):Int)=0 from rfl]at L0;have x2:=M1.aE.get (aD s (.cells Vs 0));have T2':=T2.aE M1.aE;have lg:=λ(K:AV->St->Option (AV×St))(s1:St)=>T2'.out.own.lenB (c:=c) K s1
 rw[T2'.len]at lg;have Le:Ok (N:Int) []:=⟨Zj7,λy hy=>by cases hy⟩
 have fin:∃s' O',Mk 1 (ah s (.cells Vs 0)) s' O' ((Q1 N p.gs.length [] n).map cv)/\∀k4:Q2,lz c (N+1001) k4 (N+1001) [.int .i64 (n:Int),.int .i64 (pr N p.gs.length 0),.int .i64 (N:Int),v1,.af,.int .i64 (p.gs.length:Int),.int .i64 0] s1=k4 [O'] s':=by
  by_cases h0:p.gs.length=0
  . refine⟨s1,.af,?_,λk4=> ?_⟩
    .   rw[h0];exact Mk.start M1.qi M1.aE
    .   rw[uE];simp[h0]
  . have cF:dW [] N 0≠[]:=λe=>by have:=congrArg List.length e;rw[Ev]at this;simp at this;omega
    obtain⟨fb,hF,_⟩:=Mk.fl M1 cF;have:=aaR (c:=c) (fb:=fb) hc gN.wf ok.le hG (by omega) hT (N+1001) p.gs.length 0 (N+1001) n s1 v1 .af [] (by omega) (by omega) rfl Le hn hT hF (Mk.start M1.qi M1.aE) (λh=>by cases h);simpa using this
 obtain⟨s',O',z1,z2⟩:=fin;have M:=z1.back hw gN;obtain⟨s3,t1,t2⟩:=Mk.ad2 M .i64 0;refine⟨s3,O',?_,t2⟩;rw[Dh hc (N+1001) (r:=(.tuple [O',.int .i64 0],s')),t1];rw[HO];simp[show ∀l,AV.cells (.agg l)=l from λl=>rfl,aD,aQ,hcut,ck,wk,d1,d2,e1,cn];rw[L0];simp[x2,aQ,e2,lg];rw[z2];simp
theorem Rt(hc:cE c)(h:PS s0 s Vs p)(ok:LF p N)(hG:p.gs.length<=N)(hT:pr N p.gs.length 0<=20000){n:Int}(hn:n<0\/pr N p.gs.length 0<=n):
   c 27 [.agg Vs,.int .i64 n] s=some (.tuple [.af,.int .i64 2],s):=by
 have gN:=Grew.ah h.aE.wf (.cells Vs 0);have h1:=h.qx gN;have hcut:cut Vs 0 5=some Vs:=bV h.cells.1;have ck:=Da hc h1 ok.u7 ok.rs;rw[ok.u5]at ck;have wk:=Kv hc h1 ok hG hT;have pl:Plain (.tuple [.af,.int .i64 2]):= .tuple λv hv=>by simp at hv;rcases hv with rfl|rfl;exact .af;exact .int _ _
 rw[Dh hc 1 (r:=(.tuple [.af,.int .i64 2],ah s (.cells Vs 0))),aG pl gN.keeps];rw[HO];by_cases h1:n<0
 .have d1:decide (n<0)=true:=Za0 h1;simp[show ∀l,AV.cells (.agg l)=l from λl=>rfl,aD,aQ,hcut,ck,wk,d1]
 .have d1:decide (n<0)=false:=Za2 h1;have d2:decide (pr (N:Int) p.gs.length 0<=n)=true:=Za0 (hn.resolve_left h1);simp[show ∀l,AV.cells (.agg l)=l from λl=>rfl,aD,aQ,hcut,ck,wk,d1,d2]
end
set_option linter.unusedSimpArgs false
section
variable{s0 s sB:St}{Vs:List AV}{p:bZ}{P V O:AV}{q r l o:List Int}{N G L:Nat}
theorem U3(hc:cE c)(x:Int):c 123 [.int .i64 x] s=some (.bool false,s):=by rw[KL hc 1 (r:=(.bool false,s)),aG (Plain.bool _) (bt.refl s)];rw[OR];simp
theorem Xg(hc:cE c)(x y:Int):c 81 [.int .i64 x,.int .i64 y] s=some (.int .i64 (if x<y then -1 else if y<x then 1 else 0),s):=by
 have na:=U3 (s:=s) hc x;have nb:=U3 (s:=s) hc y;rw[Ia hc 1 (r:=(.int .i64 (if x<y then -1 else if y<x then 1 else 0),s)),aG (Plain.int _ _) (bt.refl s)];rw[KJ];by_cases h:x<y
 .have d:=Za0 h;simp[na,nb,d,h]
 . have d:=Za2 h;by_cases h2:y<x
   .have d2:=Za0 h2;simp[na,nb,d,h,d2,h2]
   .have d2:=Za2 h2;simp[na,nb,d,h,d2,h2]
theorem aeQ(hc:cE c){pre xs ys:List Int}{x y:Int}(hxy:x<y){W:AV}(pq:QS 1 s P ((pre++x::xs).map cv))(pr:QS 1 s W ((pre++y::ys).map cv))(hl:(pre++x::xs).length<=1000)(F:Nat)(k2:Q2):∀(m k f:Nat),k+m=pre.length->m<f->
  ∀k1:Q2,gw c F k1 k2 f [P,W,P,.int .i64 ((pre++x::xs).length:Int),.int .i64 (k:Int)] s=k1 [.int .i64 (-1)] s:=by
 intro m;have uM:(pre++x::xs).length=pre.length+(xs.length+1):=by rw[Zd7,Zd4]
 have kZ:(pre++y::ys).length=pre.length+(ys.length+1):=by rw[Zd7,Zd4]
 have lw:=λ(K:AV->St->Option (AV×St))(s1:St)=>pr.lenB (c:=c) K s1
 rw[Za9]at lw;induction m with
 |zero=>
  intro k f hk hf k1;obtain⟨f,rfl⟩:∃g,f=g+1:=⟨f - 1,by omega⟩
  obtain rfl:k=pre.length:=by omega
  have ga:(pre++x::xs)[pre.length]? =some x:=by simp
  have gb:(pre++y::ys)[pre.length]? =some y:=by simp
  obtain⟨pb,po,p⟩:=LD pq ga;have p1:=λ{R}=>@p.st R
  have p3:=p.one;obtain⟨rb,ro,r⟩:=LD pr gb;have r1:=λ{R}=>@r.st R
  have r3:=r.one;have ldp:∀(K:AV->St->Option (AV×St)),ak c (.load none) [.ptr pb po] s K=K (.int .i64 x) s:=λK=>by simp[p3]
  have Lb:∀(K:AV->St->Option (AV×St)),ak c (.load none) [.ptr rb ro] s K=K (.int .i64 y) s:=λK=>by simp[r3]
  have aT:decide ((pre.length:Int)<((pre++x::xs).length:Int))=true:=Za0 (by omega);have OQ:decide (((pre++y::ys).length:Int)<=(pre.length:Int))=false:=Za2 (by omega);have cm:=Xg (s:=s) hc x y;rw[Za7 hxy]at cm;have dn:(!decide ((-1:Int)=0))=true:=rfl;rw[ot];simp only[aB,bu,eJ,aT,e8,eI,aC,p1,ldp,lw,AH,OQ,r1,Lb,fM,cm,eZ,Wj,dn]
 |succ m ih=>
  intro k f hk hf k1;obtain⟨f,rfl⟩:∃g,f=g+1:=⟨f - 1,by omega⟩
  have iY:k<pre.length:=by omega
  have ga:(pre++x::xs)[k]? =some pre[k]:=by rw[Zb7 iY,H5 iY]
  have gb:(pre++y::ys)[k]? =some pre[k]:=by rw[Zb7 iY,H5 iY]
  obtain⟨pb,po,p⟩:=LD pq ga;have p1:=λ{R}=>@p.st R
  have p3:=p.one;obtain⟨rb,ro,r⟩:=LD pr gb;have r1:=λ{R}=>@r.st R
  have r3:=r.one;have ldp:∀(K:AV->St->Option (AV×St)),ak c (.load none) [.ptr pb po] s K=K (.int .i64 pre[k]) s:=λK=>by simp[p3]
  have Lb:∀(K:AV->St->Option (AV×St)),ak c (.load none) [.ptr rb ro] s K=K (.int .i64 pre[k]) s:=λK=>by simp[r3]
  have aT:decide ((k:Int)<((pre++x::xs).length:Int))=true:=Za0 (by omega);have OQ:decide (((pre++y::ys).length:Int)<=(k:Int))=false:=Za2 (by omega);have cm:=Xg (s:=s) hc pre[k] pre[k];rw[Za5 (Int.lt_irrefl _),Za5 (Int.lt_irrefl _)]at cm;have dn:(!decide ((0:Int)=0))=false:=rfl;have wr:Unit->aq .i64 ((k:Int)+1)=((k+1:Nat):Int):=λ_=>wrap64 (by omega) (by omega)
  rw[<-ih (k+1) f (by omega) (by omega) k1,ot];simp only[aB,bu,eJ,aT,e8,eI,aC,p1,ldp,lw,AH,OQ,r1,Lb,fM,cm,eZ,Wj,dn,Zg2,Zk0,eI,iA,wr ()]
theorem VF(hc:cE c){W:AV}(h:Below q r)(pq:QS 1 s P (q.map cv))(pr:QS 1 s W (r.map cv))(hl:q.length<=1000):c 31 [P,W] s=some (.int .i64 (-1),s):=by
 obtain⟨pre,x,y,xs,ys,rfl,rfl,hxy⟩:=h;have uM:(pre++x::xs).length=pre.length+(xs.length+1):=by rw[Zd7,Zd4]
 have L0:=λk1 k2=>aeQ (c:=c) hc hxy pq pr hl 1001 k2 pre.length 0 1001 (by omega) (by omega) k1
 simp only[show((0:Nat):Int)=0 from rfl]at L0;have lp:=λ(K:AV->St->Option (AV×St))(s1:St)=>pq.lenB (c:=c) K s1
 rw[Za9]at lp;rw[zF hc 1001 (r:=(.int .i64 (-1),s)),aG (Plain.int _ _) (bt.refl s)];rw[Cd];simp only[aC,lp,L0,aB,bu]
theorem ad8 (hc:cE c)(hL:L<=1000)(lp:∀(K:AV->St->Option (AV×St))(s1:St),ak c (.lenB .l) [P] s1 K=K (.int .i64 (L:Int)) s1){o0:List Int}(F:Nat):∀(m k f:Nat)(s:St)(v:AV)(o:List Int),k+m=N->m<f->N<=100000->Mk 1 sB s v (o.map cv)->o.length<=L->L<=o.length+(dW o0 m k).length->(∀z:Int,(k:Int)<=z->(z∈o↔z∈o0))->
  ∃s' v',Mk 1 sB s' v' ((o++(dW o0 m k).take (L - o.length)).map cv)/\∀k6:Q2,lY c F k6 f [P,v,.int .i64 (k:Int)] s=k6 [v'] s':=by
 intro m;induction m with
 |zero=>
  intro k f s v o hk hf hN M h1 h2 h3;obtain⟨f,rfl⟩:∃g,f=g+1:=⟨f - 1,by omega⟩
  have lv:=λ(K:AV->St->Option (AV×St))(s1:St)=>M.own.lenB (c:=c) K s1
  rw[Za9]at lv;have h2:L<=o.length:=h2;have d:decide ((o.length:Int)<(L:Int))=false:=Za2 (by omega);refine⟨s,v,by simpa [dW]using M,λk6=> ?_⟩;rw[rZ];simp only[aB,bu,aC,lv,lp,eJ,d,eI]
 |succ m ih=>
  intro k f s v o hk hf hN M h1 h2 h3;obtain⟨f,rfl⟩:∃g,f=g+1:=⟨f - 1,by omega⟩
  have lv:=λ(K:AV->St->Option (AV×St))(s1:St)=>M.own.lenB (c:=c) K s1
  rw[Za9]at lv;by_cases h4:o.length=L
  .have d:decide ((o.length:Int)<(L:Int))=false:=Za2 (by omega);refine⟨s,v,by rw[h4,Zm8,Zn3,Zf0];exact M,λk6=> ?_⟩;rw[rZ];simp only[aB,bu,aC,lv,lp,eJ,d,eI]
  . have d:decide ((o.length:Int)<(L:Int))=true:=Za0 (by omega);have ct:=HM hc M.own (by omega) (k:Int);have wr:Unit->aq .i64 ((k:Int)+1)=((k+1:Nat):Int):=λ_=>wrap64 (by omega) (by omega)
    by_cases hm:(k:Int)∈o0
    .   have ho:=(h3 _ (Int.le_refl _)).2 hm;rw[Zl0.2 ho]at ct;rw[dW,Za7 hm]at h2 ⊢;obtain⟨s',v',z1,z2⟩:=ih (k+1) f s v o (by omega) (by omega) hN M h1 h2 λz hz=>h3 z (by omega)
        refine⟨s',v',z1,λk6=> ?_⟩;rw[<-z2 k6,rZ];simp only[aB,bu,aC,lv,lp,eJ,d,e8,eI,gM,fM,ct,eZ,rQ,Zk0,iA,wr ()]
    .   have ho:(k:Int)∉o:=λh=>hm ((h3 _ (Int.le_refl _)).1 h)
        rw[show o.contains (k:Int)=false from by
          cases e:o.contains (k:Int)with
          |false=>rfl
          |true=>exact absurd (Zl0.1 e) ho]at ct
        rw[dW,Za5 hm]at h2 ⊢;rw[Zd4]at h2;obtain⟨s5,v5,a1,M5,_,_⟩:=Mk.push (R:=AV×St) (c:=c) (bytes:=8) M (z:=[.int .i64 0]) (x:= .int .i64 (k:Int)) rfl rfl rfl (by decide) (by rw[Za9];omega) (by rw[Za9];omega);obtain⟨s',v',z1,z2⟩:=ih (k+1) f s5 v5 (o++[(k:Int)]) (by omega) (by omega) hN (by rw[Ze2];exact M5) (by rw[fQ];omega) (by rw[fQ];omega) λz hz=>by
          rw[Zc9,Zc3,h3 z (by omega)];constructor
          . rintro(h|h)
            .exact h
            .omega
          .exact .inl
        refine⟨s',v',?_,λk6=> ?_⟩
        .rw[fQ]at z1;rw[show L - o.length=(L - (o.length+1))+1 by omega,Zo6];rw[Zi2]at z1;exact z1
        .rw[<-z2 k6,rZ];simp only[aB,bu,aC,lv,lp,eJ,d,e8,eI,gM,fM,ct,eZ,rQ,Zn0,a1,iA,wr ()]
theorem ad9{sA:St}(hc:cE c)(hN:N<=100000)(hlN:q.length<=N)(hL:q.length<=1000)(M:Mk 1 sA s P (q.map cv))(w0:Wf s){g:Nat}(hg:g<q.length)(dw:Ok (N:Int) (q.take g))(F:Nat)(hF:N<F):∀(m k f:Nat),k+m=N->m<f->
  match (dW (q.take g) m k).head? with
  |none=>∀k1 k4:Q2,lZ c F k1 k4 f [P,.int .i64 (N:Int),.int .i64 (g:Int),.int .i64 (k:Int)] s=k4 [P,.int .i64 (N:Int),.int .i64 (g:Int)] s
  |some y=>∃s' v',Mk 1 s s' v' ((q.take g++[y]++(dW (q.take g++[y]) N 0).take (q.length - (g+1))).map cv)/\∀k1 k4:Q2,lZ c F k1 k4 f [P,.int .i64 (N:Int),.int .i64 (g:Int),.int .i64 (k:Int)] s=k1 [v',.bool true] s':=by
 obtain⟨W,w1,w2⟩:=Mk.head (c:=c) M (i:=g) (by omega);have hlg:(q.take g).length=g:=by rw[Zd5];omega
 have lp:=λ(K:AV->St->Option (AV×St))(s1:St)=>M.own.lenB (c:=c) K s1
 rw[Za9]at lp;intro m;induction m with
 |zero=>
  intro k f hk hf;obtain⟨f,rfl⟩:∃g,f=g+1:=⟨f - 1,by omega⟩
  obtain rfl:k=N:=by omega
  show ∀k1 k4:Q2,_;intro k1 k4;rw[r9];have d:decide ((k:Int)<(k:Int))=false:=Za2 (by omega);simp only[aB,bu,aC,eJ,d,eI]
 |succ m ih=>
  intro k f hk hf;obtain⟨f,rfl⟩:∃g,f=g+1:=⟨f - 1,by omega⟩
  have d:decide ((k:Int)<(N:Int))=true:=Za0 (by omega);have ct:=HM hc w2 (by omega) (k:Int);have wr:Unit->aq .i64 ((k:Int)+1)=((k+1:Nat):Int):=λ_=>wrap64 (by omega) (by omega)
  by_cases hm:(k:Int)∈q.take g
  . rw[Zl0.2 hm]at ct;have xK:=ih (k+1) f (by omega) (by omega);rw[dW,Za7 hm];cases hh:(dW (q.take g) m (k+1)).head? with
    |   none=>
        rw[hh]at xK;simp only at xK ⊢;intro k1 k4;rw[<-xK k1 k4,r9];simp only[aB,bu,aC,eJ,d,e8,eI,w1,fM,ct,eZ,rQ,Zk0,iA,wr ()]
    |   some y=>
        rw[hh]at xK;simp only at xK ⊢;obtain⟨s',v',z1,z2⟩:=xK;refine⟨s',v',z1,λk1 k4=> ?_⟩;rw[<-z2 k1 k4,r9];simp only[aB,bu,aC,eJ,d,e8,eI,w1,fM,ct,eZ,rQ,Zk0,iA,wr ()]
  . rw[show(q.take g).contains (k:Int)=false from by
        cases e:(q.take g).contains (k:Int)with
        |false=>rfl
        |true=>exact absurd (Zl0.1 e) hm]at ct
    (rw[dW,Za5 hm,List.head?_cons];simp only;obtain⟨v1,s1,b1,M1⟩:=YJ hc w0 w2 (by omega);obtain⟨s5,v5,a1,M5,_,_⟩:=Mk.push (R:=AV×St) (c:=c) (bytes:=8) M1 (z:=[.int .i64 0]) (x:= .int .i64 (k:Int)) rfl rfl rfl (by decide) (by rw[Za9];omega) (by rw[Za9];omega);have abO:=dw.snoc (x:=(k:Int)) hm (by omega) (by omega);have Bd:=Kn abO;rw[fQ,hlg]at Bd;obtain⟨s',v',z1,z2⟩:=ad8 (N:=N) (o0:=q.take g++[(k:Int)]) hc hL lp F N 0 F s5 v5 (q.take g++[(k:Int)]) (by omega) hF hN (by rw[Ze2];exact M5) (by rw[fQ];omega) (by rw[fQ];omega) λz _=>Iff.rfl);rw[fQ,hlg]at z1;simp only[show((0:Nat):Int)=0 from rfl]at z2;refine⟨s',v',z1,λk1 k4=> ?_⟩;rw[r9];simp only[aB,bu,aC,eJ,d,e8,eI,w1,fM,ct,eZ,rQ,Zn0,b1,a1,z2]
theorem aea{sA:St}(hc:cE c)(hs:Seq (N:Int) [] q)(hN:N<=100000)(hlN:q.length<=N)(hL:q.length<=1000)(M:Mk 1 sA s P (q.map cv))(w0:Wf s)(F:Nat)(hF:N<F):∀(g f:Nat),g<=q.length->g<f->
  match Hx N q g with
  |none=>∀k1 k2:Q2,oa c F k1 k2 f [P,.int .i64 (N:Int),.int .i64 ((g:Int) - 1)] s=k2 [] s
  |some r=>∃s' v',Mk 1 s s' v' (r.map cv)/\∀k1 k2:Q2,oa c F k1 k2 f [P,.int .i64 (N:Int),.int .i64 ((g:Int) - 1)] s=k1 [v',.bool true] s':=by
 intro g;induction g with
 |zero=>
  intro f _ hf;obtain⟨f,rfl⟩:∃g,f=g+1:=⟨f - 1,by omega⟩
  show ∀k1 k2:Q2,_;intro k1 k2;have d:decide ((0:Int)<=((0:Nat):Int) - 1)=false:=rfl;rw[se];simp only[aB,bu,aC,AH,d,eI]
 |succ g ih=>
  intro f hg hf;obtain⟨f,rfl⟩:∃g,f=g+1:=⟨f - 1,by omega⟩
  have zL:g<q.length:=by omega
  have eg:q=q.take g++q[g]::q.drop (g+1):=by rw[<-Zc7 zL,Zg6]
  have ed:q.getD g 0=q[g]:=by rw[Zb4,H5 zL];rfl
  have gK:=hs;rw[eg]at gK;obtain⟨s1,s2⟩:=Seq.app.1 gK;rw[Ze0]at s2;obtain⟨a1,a2,a3,a4⟩:=s2;have dw:=Seq.ok (⟨Zj7,λy hy=>by cases hy⟩:Ok (N:Int) []) s1;rw[Ze0]at dw;obtain⟨pb,po,p⟩:=LD M.own (H5 zL);have p1:=λ{R}=>@p.st R
  have p3:=p.one;have ld:∀(K:AV->St->Option (AV×St)),ak c (.load none) [.ptr pb po] s K=K (.int .i64 q[g]) s:=λK=>by simp[p3]
  have OQ:decide ((0:Int)<=(g:Int))=true:=Za0 (by omega);have hx:q[g]+1=((q[g].toNat+1:Nat):Int):=by omega
  have wx:Unit->aq .i64 (q[g]+1)=((q[g].toNat+1:Nat):Int):=λ_=>by rw[hx];exact wrap64 (by omega) (by omega)
  have wg:Unit->aq .i64 ((g:Int) - 1)=(g:Int) - 1:=λ_=>wrap64 (by omega) (by omega)
  rw[show(((g+1:Nat):Int)) - 1=(g:Int)by omega];have L1:=ad9 hc hN hlN hL M w0 zL dw F hF (N - (q[g].toNat+1)) (q[g].toNat+1) F (by omega) (by omega);rw[Hx,ed];cases hh:(dW (q.take g) (N - (q[g].toNat+1)) (q[g].toNat+1)).head? with
  |some y=>
   rw[hh]at L1;simp only at L1 ⊢;obtain⟨s',v',z1,z2⟩:=L1;refine⟨s',v',z1,λk1 k2=> ?_⟩;rw[se];simp only[aB,bu,aC,AH,OQ,e8,p1,ld,iA,wx (),z2]
  |none=>
   rw[hh]at L1;simp only at L1 ⊢;have xK:=ih f (by omega) (by omega);cases hn:Hx N q g with
   |    none=>
        rw[hn]at xK;simp only at xK ⊢;intro k1 k2;rw[<-xK k1 k2,se];simp only[aB,bu,aC,AH,OQ,e8,p1,ld,iA,wx (),L1,xU,wg ()]
   |    some r=>
        rw[hn]at xK;simp only at xK ⊢;obtain⟨s',v',z1,z2⟩:=xK;refine⟨s',v',z1,λk1 k2=> ?_⟩;rw[<-z2 k1 k2,se];simp only[aB,bu,aC,AH,OQ,e8,p1,ld,iA,wx (),L1,xU,wg ()]
theorem aeb{sA:St}(hc:cE c)(h:PS s0 s Vs p)(ok:LF p N)(hG:p.gs.length<=N)(M:Mk 1 sA s P (q.map cv))(hs:Seq (N:Int) [] q)(hl:q.length=p.gs.length):
  match Hx N q q.length with
  |none=>c 30 [.agg Vs,P] s=some (.tuple [.af,.bool false],s)
  |some r=>∃s' v',c 30 [.agg Vs,P] s=some (.tuple [v',.bool true],s')/\Mk 1 s s' v' (r.map cv):=by
 have hw:=h.aE.wf;have gN:=Grew.ah hw (.cells Vs 0);have h1:=h.qx gN;have hcut:cut Vs 0 5=some Vs:=bV h.cells.1;have hgs:=ok.u7.gs;have M1:=M.grow gN;have ck:=P9 hc h1 ok.u7 ok.rs M1.own (by omega);rw[MS ok hs hl]at ck;obtain⟨V1,V2,r1,r2,e1,e2,T,T2,e5⟩:=h1.rT;have cn:=y6 hc h1 ok.u7.ok ok.tabs e1;rw[<-ok.sum]at cn;have hN:=ok.le;have ln:=λ(K:AV->St->Option (AV×St))(s1:St)=>M1.own.lenB (c:=c) K s1
 rw[Za9]at ln;have wl:Unit->aq .i64 ((q.length:Int) - 1)=(q.length:Int) - 1:=λ_=>wrap64 (by omega) (by omega)
 have L0:=aea hc hs ok.le (by omega) (by omega) M1 gN.wf (N+1001) (by omega) q.length (N+1001) (Za6 _) (by omega);have l5:∀(K:AV->St->Option (AV×St)),ak c (.load (some 5)) [.ptr s.next 0] (ah s (.cells Vs 0)) K=K (.agg Vs) (ah s (.cells Vs 0)):=λK=>Rq (aD s (.cells Vs 0)) h.cells.1 K
 cases hn:Hx N q q.length with
 |none=>
  rw[hn]at L0;simp only at L0 ⊢;have pl:Plain (.tuple [.af,.bool false]):= .tuple λv hv=>by simp at hv;rcases hv with rfl|rfl;exact .af;exact .bool _
  rw[HP hc (N+1001) (r:=(.tuple [.af,.bool false],ah s (.cells Vs 0))),aG pl gN.keeps];rw[LN];simp[show ∀l,AV.cells (.agg l)=l from λl=>rfl,aD,aQ,hcut,ck,e1,cn,ln,wl ()];rw[L0];simp
 |some r=>
  rw[hn]at L0;simp only at L0 ⊢;obtain⟨s',v',z1,z2⟩:=L0;obtain⟨s3,t1,t2⟩:=Mk.adA (z1.back hw gN) true;refine⟨s3,v',?_,t2⟩;rw[HP hc (N+1001) (r:=(.tuple [v',.bool true],s')),t1];rw[LN];simp[show ∀l,AV.cells (.agg l)=l from λl=>rfl,aD,aQ,hcut,ck,e1,cn,ln,wl ()];rw[z2];simp
end
set_option linter.unusedSimpArgs false
theorem U4{s:Int}:∀(m g:Nat),pr s (m+1) g=pr s m g*(s - ((g+m:Nat):Int))
 |0,g=>by simp[pr]
 |m+1,g=>by
  rw[pr,U4 m (g+1),pr,Zm3,show g+1+m=g+(m+1)by omega]
theorem aec{s:Int}(a b g:Nat)(h:((g+(a+b):Nat):Int)<=s):pr s a g<=pr s (a+b) g:=by
 induction b with
 |zero=>exact Int.le_refl _
 |succ b ih=>
  have h1:=ih (by omega);have h2:=yR (s:=s) (a+b) g (by omega);rw[show a+(b+1)=(a+b)+1 by omega,U4];have:pr s (a+b) g*1<=pr s (a+b) g*(s - ((g+(a+b):Nat):Int)):=Zk4 (by omega) (by omega);omega
theorem PS.mvd{s0 s1 s s':St}{Vs:List AV}{p:bZ}(h:PS s1 s Vs p)(h0:Wf s0)(zK:Grew s0 s1)(hg:Grew s0 s')(hk:∀q b,s1.next.toNat<=q.toNat->s.heap.get q=some b->s'.heap.get q=some b):PS s0 s' Vs p:=by
 obtain⟨G,V1,V2,V3,V4,V5,r1,r2,rfl,F1,F2,F3,F4,F5⟩:=h;exact⟨hg,V1,V2,V3,V4,V5,r1,r2,rfl,F1.vQ h0 zK hg hk,F2.vQ h0 zK hg hk,F3.vQ h0 zK hg hk,F4.vQ h0 zK hg hk,F5.vQ h0 zK hg hk⟩
theorem PS.afE{s s1:St}{Vs:List AV}{p:bZ}(h:PS s s1 Vs p):∃gO,Go.Ai.tidy s (.agg Vs,s1)=(.agg Vs,gO)/\PS s gO Vs p:=by obtain⟨G,V1,V2,V3,V4,V5,r1,r2,rfl,F1,F2,F3,F4,F5⟩:=h;exact PS.ac5 F1 F2 F3 F4 F5
theorem Xh(k k':IntKind)(z:Bool)(l:List Nat){i:Nat}(h:i<=l.length)(K:AV->St->Option (AV×St))(s:St):ak c (.sliceL 1 false true false) [bR k z l,.int k' (i:Int)] s K=K (bR k (z&&l.isEmpty) (l.take i)) s:=by unfold bR;rw[ZX,Za9,Za7 h, <-Zm1];cases l<;>rfl
section
variable{s0 s sB:St}{Vs:List AV}{p:bZ}{P V O:AV}{q r l o:List Int}{N G L:Nat}
theorem acH{b:Pos}{zt zg zy zr:Bool}{xt xg xy xr:List Nat}(h:s.heap.get b=some (.cells (dP zt zg zy zr xt xg xy xr) 0))(hN:N<=100000)(x4:AV)(F:Nat):∀(m n f:Nat),n+m=min xg.length N->m<f->pr N n 0<=800->
  ∃n',n'<=min xg.length N/\pr N n' 0<=800/\∀k2:Q2,gG c F k2 f [.int .i64 800,.ptr b 0,x4,.int .i64 (N:Int),.int .i64 (pr N n 0),.int .i64 (n:Int)] s=k2 [.ptr b 0,x4,.int .i64 (n':Int)] s:=by
 intro m;have ld:∀(K:AV->St->Option (AV×St)),ak c (.load none) [.ptr b (0+1)] s K=K (bR .u16 zg xg) s:=λK=>by rw[iG,h];rfl
 have mn:=λ(K:AV->St->Option (AV×St))(s:St)=>aK c K (λH n=>Ki H n .i64 .i64 (xg.length:Int) (N:Int)) s
 rw[show min (xg.length:Int) (N:Int)=((min xg.length N:Nat):Int)by omega]at mn;induction m with
 |zero=>
  intro n f hn hf hp;obtain⟨f,rfl⟩:∃g,f=g+1:=⟨f - 1,by omega⟩
  refine⟨n,by omega,hp,λk2=> ?_⟩;have d:decide ((n:Int)<((min xg.length N:Nat):Int))=false:=Za2 (by omega);rw[mA];simp only[aB,bu,aC,cC,ld,ry,mn,eJ,d,aem,aen,NP,eI]
 |succ m ih=>
  intro n f hn hf hp;obtain⟨f,rfl⟩:∃g,f=g+1:=⟨f - 1,by omega⟩
  have hnN:n<N:=by omega
  have d:decide ((n:Int)<((min xg.length N:Nat):Int))=true:=Za0 (by omega);have hpp:=yR (s:=(N:Int)) n 0 (by omega);have he:=U4 (s:=(N:Int)) n 0;rw[Zd9]at he;have hb:pr N n 0*((N:Int) - n)<=800*((N:Int) - n):=Zk3 hp (by omega);have KN:0<=pr N n 0*((N:Int) - n):=Zp4 (by omega) (by omega);have v1:Unit->aq .i64 ((N:Int) - (n:Int))=(N:Int) - n:=λ_=>wrap64 (by omega) (by omega)
  have v2:Unit->aq .i64 (pr N n 0*((N:Int) - n))=pr N n 0*((N:Int) - n):=λ_=>wrap64 (by omega) (by omega)
  have wr:Unit->aq .i64 ((n:Int)+1)=((n+1:Nat):Int):=λ_=>wrap64 (by omega) (by omega)
  by_cases hc:pr N n 0*((N:Int) - n)<=800
  .obtain⟨n',a1,a2,a3⟩:=ih (n+1) f (by omega) (by omega) (by rw[he];exact hc);rw[he]at a3;refine⟨n',a1,a2,λk2=> ?_⟩;have d2:=Za0 hc;rw[<-a3 k2,mA];simp only[aB,bu,aC,cC,ld,ry,mn,eJ,d,pR,xU,v1 (),Kf,v2 (),Wc,d2,Ga,e8,iA,wr ()]
  .refine⟨n,by omega,hp,λk2=> ?_⟩;have d2:=Za2 hc;rw[mA];simp only[aB,bu,aC,cC,ld,ry,mn,eJ,d,pR,xU,v1 (),Kf,v2 (),Wc,d2,Ga,eI]
theorem acI(hc:cE c){xt xg xy xr:List Nat}(ht:∀x∈xt,x<256)(hg:∀x∈xg,x<65536)(hy:∀x∈xy,x<256)(hr:∀x∈xr,x<4294967296)(lt:xt.length<=9223372036854775807)(lg:xg.length<=9223372036854775807)(lr:xr.length<=9223372036854775807)(ly:xy.length<=9223372036854775807)
  (zt zg zy zr:Bool) (st:St) (hw:Wf st):∃N p Vs s',LF p N/\p.gs.length<=N/\pr N p.gs.length 0<=800/\
   c 25 [.agg (dP zt zg zy zr xt xg xy xr),.int .i64 800] st=some (.agg Vs,s')/\PS st s' Vs p:=by
 obtain⟨yt,hyt⟩:∃yt,yt=xt.take (min xt.length 2):=⟨_,rfl⟩
 have U5:∀x∈yt,x<256:=λx hx=>ht x (by rw[hyt]at hx;exact Zl7 hx)
 have lyt:yt.length<=9223372036854775807:=by rw[hyt,Zd5];omega
 have g1:=Grew.ah hw (.cells (dP zt zg zy zr xt xg xy xr) 0);have g2:=Grew.ah g1.wf (.cells [.af,.af,.af,.af,.af] 0);obtain⟨b0,KN⟩:∃b,b=st.next:=⟨_,rfl⟩
 obtain⟨b1,yJ⟩:∃b,b=(ah st (.cells (dP zt zg zy zr xt xg xy xr) 0)).next:=⟨_,rfl⟩
 obtain⟨s2,pI⟩:∃s2,s2=ah (ah st (.cells (dP zt zg zy zr xt xg xy xr) 0)) (.cells [.af,.af,.af,.af,.af] 0):=⟨_,rfl⟩
 have G2:Grew st s2:=by rw[pI];exact g1.trans g2
 have n0:st.next.toNat=b0.toNat:=by rw[KN]
 have n1:b1.toNat=b0.toNat+1:=by rw[yJ,cN,Pos.az,KN]
 have n2:s2.next.toNat=b1.toNat+1:=by rw[pI,cN,Pos.az,yJ]
 have H0:s2.heap.get b0=some (.cells (dP zt zg zy zr xt xg xy xr) 0):=by rw[pI,KN];exact g2.get (aD _ _)
 have H1:s2.heap.get b1=some (.cells [.af,.af,.af,.af,.af] 0):=by rw[pI,yJ];exact aD _ _
 have d01:b0≠b1:=λe=>by subst e;omega
 obtain⟨Di,hzt⟩:∃z,z=(zt&&xt.isEmpty):=⟨_,rfl⟩
 obtain⟨s3,qN⟩:∃s3,s3=b9 s2 b0 (.cells (dP Di zg zy zr yt xg xy xr) 0):=⟨_,rfl⟩
 have G3:Grew st s3:=by rw[qN];exact ru hw G2 (by omega) (by omega) _
 have H03:s3.heap.get b0=some (.cells (dP Di zg zy zr yt xg xy xr) 0):=by rw[qN];exact dx _ _ _
 have H13:s3.heap.get b1=some (.cells [.af,.af,.af,.af,.af] 0):=by rw[qN,bk d01];exact H1
 obtain⟨V1,s4,M1,P1⟩:=Xa hc (xt:=yt) (xg:=[]) (xy:=[]) (xr:=[]) U5 (λx hx=>by cases hx) (λx hx=>by cases hx) (λx hx=>by cases hx) lyt (by simp) (by simp) (by simp) Di true true true s3 G3.wf;have ok1:=UZ (xt:=yt) (xg:=[]) (xy:=[]) (xr:=[]) U5;have si:=YP hc P1 ok1 (aaM U5);have H04:=P1.aE.get H03;have H14:=P1.aE.get H13;have G4:=G3.trans P1.aE;obtain⟨n,hn1,Lw,L0⟩:∃n,n<=min xg.length (tV yt)/\pr (tV yt) n 0<=800/\∀k2:Q2,gG c (xg.length+1) k2 (xg.length+1) [.int .i64 800,.ptr b0 0,.ptr b1 0,.int .i64 (tV yt:Int),.int .i64 1,.int .i64 0] s4=k2 [.ptr b0 0,.ptr b1 0,.int .i64 (n:Int)] s4:=by have:=acH (c:=c) (N:=tV yt) H04 ok1.le (.ptr b1 0) (xg.length+1) (min xg.length (tV yt)) 0 (xg.length+1) (by omega) (by omega) (by show(1:Int)<=800;omega);exact this
 obtain⟨Xi,hzg⟩:∃z,z=(zg&&xg.isEmpty):=⟨_,rfl⟩
 obtain⟨yg,hyg⟩:∃yg,yg=xg.take n:=⟨_,rfl⟩
 have hyg1:∀x∈yg,x<65536:=λx hx=>hg x (by rw[hyg]at hx;exact Zl7 hx)
 have lyg:yg.length<=n:=by rw[hyg,Zd5];omega
 have n4:=P1.aE.next;have e3:s3.next=s2.next:=by rw[qN];rfl
 obtain⟨s5,hs5⟩:∃s5,s5=b9 s4 b0 (.cells (dP Di Xi zy zr yt yg xy xr) 0):=⟨_,rfl⟩
 have e5:s5.next=s4.next:=by rw[hs5];rfl
 rw[e3]at n4;have G5:Grew st s5:=by rw[hs5];exact ru hw G4 (by omega) (by omega) _
 have H05:s5.heap.get b0=some (.cells (dP Di Xi zy zr yt yg xy xr) 0):=by rw[hs5];exact dx _ _ _
 have H15:s5.heap.get b1=some (.cells [.af,.af,.af,.af,.af] 0):=by rw[hs5,bk d01];exact H14
 obtain⟨Vs,s6,M2,P2⟩:=Xa hc (xt:=yt) (xg:=yg) (xy:=xy) (xr:=xr) U5 hyg1 hy hr lyt (by omega) lr ly Di Xi zy zr s5 G5.wf;obtain⟨vl,vo⟩:=P2.cells;have H16:=P2.aE.get H15;have n6:=P2.aE.next;have G6:=G5.trans P2.aE;rw[e5]at n6;obtain⟨s7,hs7⟩:∃s7,s7=b9 s6 b1 (.cells Vs 0):=⟨_,rfl⟩
 have G7:Grew st s7:=by rw[hs7];exact ru hw G6 (by omega) (by omega) _
 have P7:PS st s7 Vs (jS yt yg xy xr):=PS.mvd P2 hw G5 G7 λq b hq hx=>by rw[hs7,bk (λe=>by subst e;rw[e5]at hq;omega)];exact hx
 obtain⟨s8,t1,P8⟩:=PS.afE P7;have ok:=UZ (xt:=yt) (xg:=yg) (xy:=xy) (xr:=xr) U5;have zL:(jS yt yg xy xr).gs.length<=n:=by show(jF yt yg).length<=n;unfold jF eN rA;rw[B9,Zd5];omega
 have hmo:pr (tV yt) (jS yt yg xy xr).gs.length 0<=800:=by have:=aec (s:=(tV yt:Int)) (jS yt yg xy xr).gs.length (n - (jS yt yg xy xr).gs.length) 0 (by omega);rw[show(jS yt yg xy xr).gs.length+(n - (jS yt yg xy xr).gs.length)=n by omega]at this;omega
 refine⟨tV yt,jS yt yg xy xr,Vs,s8,ok,by omega,hmo,?_,P8⟩;have mn:=λ(K:AV->St->Option (AV×St))(s:St)=>aK c K (λH n=>Ki H n .i64 .i64 (xt.length:Int) 2) s
 rw[show min (xt.length:Int) 2=((min xt.length 2:Nat):Int)by omega]at mn;have l20:∀(K:AV->St->Option (AV×St)),ak c (.load none) [.ptr b0 (0+0)] s2 K=K (bR .u8 zt xt) s2:=λK=>by rw[iG,H0];rfl
 have l30:∀(K:AV->St->Option (AV×St)),ak c (.load none) [.ptr b0 (0+0)] s3 K=K (bR .u8 Di yt) s3:=λK=>by rw[iG,H03];rfl
 have l41:∀(K:AV->St->Option (AV×St)),ak c (.load none) [.ptr b0 (0+1)] s4 K=K (bR .u16 zg xg) s4:=λK=>by rw[iG,H04];rfl
 have Hh:∀(k:IntKind)(z:Bool)(l:List Nat),(bR k z l).cells=[bR k z l]/\aL [bR k z l]=true:=λk z l=>by
  unfold bR ro;split<;>exact⟨rfl,rfl⟩
 have Ey:∀(K:AV->St->Option (AV×St)),ak c (.store 1) [.ptr b0 (0+0),bR .u8 Di yt] s2 K=K .undef s3:=λK=>by rw[dh c K _ 1 b0 (0+0) (bR .u8 Di yt) _ H0 (by rw[(Hh _ _ _).1];rfl) (by simp[dP]) (by rw[(Hh _ _ _).1];exact(Hh _ _ _).2),qN,(Hh _ _ _).1];rfl
 have aN:∀(K:AV->St->Option (AV×St)),ak c (.store 1) [.ptr b0 (0+1),bR .u16 Xi yg] s4 K=K .undef s5:=λK=>by rw[dh c K _ 1 b0 (0+1) (bR .u16 Xi yg) _ H04 (by rw[(Hh _ _ _).1];rfl) (by simp[dP]) (by rw[(Hh _ _ _).1];exact(Hh _ _ _).2),hs5,(Hh _ _ _).1];rfl
 have st5:∀(K:AV->St->Option (AV×St)),ak c (.store 5) [.ptr b1 0,.agg Vs] s6 K=K .undef s7:=λK=>by
  rw[dh c K _ 5 b1 0 (.agg Vs) _ H16 vl (by simp) vo,hs7,show aF [AV.af,AV.af,AV.af,AV.af,AV.af] 0 (AV.agg Vs).cells=Vs from by show []++(Vs++List.drop (0+Vs.length) _)=Vs;rw[vl];simp]
 have ld4:∀(K:AV->St->Option (AV×St)),ak c (.load (some 4)) [.ptr b0 0] s5 K=K (.agg (dP Di Xi zy zr yt yg xy xr)) s5:=λK=>by rw[yy,H05];rfl
 have bl:∀(K:AV->St->Option (AV×St)),ak c (.build [.af,.af,.af,.af] [(0,1)]) [bR .u8 Di yt] s3 K=K (.agg (dP Di true true true yt [] [] [])) s3:=λK=>by
  rw[iw];rw[show cj [.af,.af,.af,.af] [(0,1)] [bR .u8 Di yt]=some (dP Di true true true yt [] [] [])from by unfold cj;simp[(Hh _ _ _).1,dP,aF];rfl];rfl
 have x7:s7.heap.get b1=some (.cells Vs 0):=by rw[hs7];exact dx _ _ _
 have hcut:cut Vs 0 5=some Vs:=bV vl;have tk0:=λ(K:AV->St->Option (AV×St))(s:St)=>Xh (c:=c) .u8 .i64 zt xt (Nat.min_le_left xt.length 2) K s
 rw[<-hyt, <-hzt]at tk0;have tk1:=λ(K:AV->St->Option (AV×St))(s:St)=>Xh (c:=c) .u16 .i64 zg xg (show n<=xg.length by omega) K s
 rw[<-hyg, <-hzg]at tk1;rw[DV hc (xg.length+1) (r:=(.agg Vs,s7)),t1];rw[Hg,pT,show AV.cells (.agg (dP zt zg zy zr xt xg xy xr))=dP zt zg zy zr xt xg xy xr from rfl,iO, <-pI, <-yJ, <-KN];simp only[cC,l20,ry,mn,tk0,Ey,l30,bl,fM,M1,eZ,si,aC,L0,aB,bu,l41,tk1,aN,ld4,M2,st5,Mn,x7,aQ,Ze7,hcut,uQ]
theorem U6(hc:cE c){xt xg xy xr:List Nat}(ht:∀x∈xt,x<256)(hg:∀x∈xg,x<65536)(hy:∀x∈xy,x<256)(hr:∀x∈xr,x<4294967296)(lt:xt.length<=9223372036854775807)(lg:xg.length<=9223372036854775807)(lr:xr.length<=9223372036854775807)(ly:xy.length<=9223372036854775807)
  (zt zg zy zr:Bool) {n:Nat} (hn:n<65536) (st:St) (hw:Wf st):
  c 8 [.agg (dP zt zg zy zr xt xg xy xr),.int .u16 (n:Int)] st=some (.bool true,st):=by
 have g1:=Grew.ah hw (.cells (dP zt zg zy zr xt xg xy xr) 0);obtain⟨N,p,Vs,s2,ok,hG,hT8,M,P⟩:=acI hc ht hg hy hr lt lg lr ly zt zg zy zr _ g1.wf;obtain⟨vl,vo⟩:=P.cells;have gB:=Grew.ah P.aE.wf (.cells Vs 0);have st5:∀(K:AV->St->Option (AV×St)),ak c (.store 5) [.ptr s2.next 0,.agg Vs] (ah s2 (.cells [.af,.af,.af,.af,.af] 0)) K=K .undef (ah s2 (.cells Vs 0)):=λK=>dK c K s2 5 (.agg Vs) _ vl rfl vo
 have P3:=P.qx gB;have hT:pr N p.gs.length 0<=20000:=by omega
 have SA:=yR (s:=(N:Int)) p.gs.length 0 (by omega);obtain⟨k,hk⟩:∃k:Nat,pr N p.gs.length 0=(k:Int):=⟨(pr N p.gs.length 0).toNat,by omega⟩
 have Le:Ok (N:Int) []:=⟨Zj7,λy hy=>by cases hy⟩
 have x5:=aD s2 (.cells Vs 0);have ld4:∀(K:AV->St->Option (AV×St)),ak c (.load (some 4)) [.ptr st.next 0] (ah st (.cells (dP zt zg zy zr xt xg xy xr) 0)) K=K (.agg (dP zt zg zy zr xt xg xy xr)) (ah st (.cells (dP zt zg zy zr xt xg xy xr) 0)):=λK=>by rw[yy,aD];rfl
 have al:∀(K:AV->St->Option (AV×St)),ak c (.alloc [.af,.af,.af,.af,.af]) [] s2 K=K (.ptr s2.next 0) (ah s2 (.cells [.af,.af,.af,.af,.af] 0)):=λK=>rfl
 have bx:∀(K:AV->St->Option (AV×St)),ak c .box [.agg (dP zt zg zy zr xt xg xy xr)] st K=K (.ptr st.next 0) (ah st (.cells (dP zt zg zy zr xt xg xy xr) 0)):=λK=>rfl
 obtain⟨s3,qN⟩:∃s3,s3=ah s2 (.cells Vs 0):=⟨_,rfl⟩
 rw[<-qN]at st5 P3 x5;have l5:∀{t:St},Grew s3 t->∀(K:AV->St->Option (AV×St)),ak c (.load (some 5)) [.ptr s2.next 0] t K=K (.agg Vs) t:=λg K=>Rq (g.get x5) vl K
 have l5a:=λ(K:AV->St->Option (AV×St))=>l5 (Grew.refl P3.aE.wf) K
 have hcut:cut Vs 0 5=some Vs:=bV vl;have gB3:Grew s2 s3:=by rw[qN];exact gB
 have wk:=ad4 hc P3 ok hG hT;rw[hk]at wk;obtain⟨r,hr0⟩:∃r,r=n % k:=⟨_,rfl⟩
 have hrk:r<k:=by rw[hr0];exact Zi4 _ (by omega)
 obtain⟨s4,v,U,Mv⟩:=aaS hc P3 ok hG hT (n:=r) (by omega);obtain⟨q,eq,ql,qs,qr⟩:=aac (s:=N) p.gs.length r [] 0 Le (by simp;omega) (by rw[Zj8];omega);rw[Ze0]at eq;rw[Int.zero_mul,Int.zero_add]at qr;rw[eq]at Mv;have P4:=P3.qx Mv.aE;have rkq:=Xe hc P4 ok hG hT Mv qs ql;rw[qr]at rkq;have l5b:=λ(K:AV->St->Option (AV×St))=>l5 Mv.aE K
 have ck:=P9 hc P4 ok.u7 ok.rs Mv.own (by have:=ok.u7.gs;omega);rw[MS ok qs ql]at ck;have nx:=aeb hc P4 ok hG Mv qs ql;have np:=adF (s:=N) qs (by omega);have wn:Unit->aq .i64 (n:Int)=(n:Int):=λ_=>wrap64 (by omega) (by omega)
 have d1:decide ((k:Int)<1)=false:=Za2 (by omega);have d2:decide ((800:Int)<(k:Int))=false:=Za2 (by omega);have rm:∀(K:AV->St->Option (AV×St))(s:St),ak c (.bin .rem .num) [.int .i64 (n:Int),.int .i64 (k:Int)] s K=K (.int .i64 (r:Int)) s:=λK s=>by
  rw[bN (by omega) (by omega),hr0,Zl9]
 have w1:Unit->aq .i64 ((r:Int)+1)=(r:Int)+1:=λ_=>wrap64 (by omega) (by omega)
 have w2:Unit->aq .i64 (-1 - (r:Int))= -1 - (r:Int):=λ_=>wrap64 (by omega) (by omega)
 have w3:Unit->aq .i64 ((k:Int)+(r:Int))=(k:Int)+(r:Int):=λ_=>wrap64 (by omega) (by omega)
 have z0:(!decide ((0:Int)=0))=false:=rfl;have zr:(!decide ((r:Int)=(r:Int)))=false:=by simp
 have x0:∀(a b:AV)(K:AV->St->Option (AV×St))(s:St),ak c (.extract 0) [.tuple [a,b]] s K=K a s:=λa b K s=>aK c K (λH n=>rfl) s
 have x1:∀(a b:AV)(K:AV->St->Option (AV×St))(s:St),ak c (.extract 1) [.tuple [a,b]] s K=K b s:=λa b K s=>aK c K (λH n=>rfl) s
 have fin:∀{t:St},Grew s3 t->c 27 [.agg Vs,.int .i64 (-1 - (r:Int))] t=some (.tuple [.af,.int .i64 2],t)/\c 27 [.agg Vs,.int .i64 ((k:Int)+(r:Int))] t=some (.tuple [.af,.int .i64 2],t)/\c 12 [] t=some (.bool true,t)/\Grew st t:=λg=>
  have Pt:=P3.qx g
  ⟨Rt hc Pt ok hG hT (.inl (by omega)),Rt hc Pt ok hG hT (.inr (by omega)),aau hc _,((g1.trans P.aE).trans gB3).trans g⟩
 have y2:decide ((2:Int)=2)=true:=rfl;cases CI:Hx N q q.length with
 |none=>
  rw[CI]at nx np;simp only at nx np;obtain⟨f1,f2,f3,f4⟩:=fin Mv.aE;have d3:decide ((r:Int)+1<(k:Int))=false:=Za2 (by rw[ql]at np;omega);rw[pO hc 1 (r:=(.bool true,s4)),aG (Plain.bool _) f4.keeps];rw[rE,bx,aC,ld4,fM,M,eZ,al,st5];have x5b:=Mv.aE.get x5;simp[x5,x5b,aQ,hcut,wk,d1,d2,wn (),rm,U,rkq,ck,nx,w1 (),d3,gM,w2 (),w3 (),f1,f2,f3]
 |some q2=>
  rw[CI]at nx np;simp only at nx np;obtain⟨s5,v2,nx,M2⟩:=nx;obtain⟨b1,b2,b3,b4,b5⟩:=np;have P5:=P4.qx M2.aE;have G5:=Mv.aE.trans M2.aE;obtain⟨f1,f2,f3,f4⟩:=fin G5;have l5c:=λ(K:AV->St->Option (AV×St))=>l5 G5 K
  have rk2:=Xe hc P5 ok hG hT M2 b2 (by omega);rw[b3,qr]at rk2;have cp:=VF hc b5 (Mv.own.aE M2.aE) M2.own (by have:=ok.u7.gs;omega);have d3:decide ((r:Int)+1<(k:Int))=true:=Za0 (by rw[qr,ql]at b4;omega);rw[pO hc 1 (r:=(.bool true,s5)),aG (Plain.bool _) f4.keeps];rw[rE,bx,aC,ld4,fM,M,eZ,al,st5];have x5b:=Mv.aE.get x5;have x5c:=G5.get x5;simp[x5,x5b,x5c,aQ,hcut,wk,d1,d2,wn (),rm,U,rkq,ck,nx,w1 (),d3,gM,rk2,cp,w2 (),w3 (),f1,f2,f3]
end
end
end Go.Proofs.YtlkadmkojjceiaaGreatDoor
namespace Go.Proofs.YtlkadmkojjceiaaGreatDoor.zi
section
open Go
theorem k1:(Rows.planRanksRow.inPlace==Tryz.pinned.checked.prog.inPlace 8)=true:=by kernel_rfl
theorem k2:(Rows.planRanksRow.unfollowed==Tryz.pinned.checked.prog.unfollowed 8)=true:=by kernel_rfl
theorem k3:(Rows.planRanksRow.recurses==Tryz.pinned.checked.prog.recurses 8)=true:=by kernel_rfl
theorem k4:(Rows.planRanksRow.named==Tryz.pinned.checked.prog.varsNamed 8)=true:=by kernel_rfl
theorem k5:laidOutB Tryz.pinned.checked.prog=true:=by kernel_rfl
theorem k6:mapsRowed Tryz.pinned.checked.prog=true:=by kernel_rfl
theorem k7:(Rows.planRanksRow.plainKeys==Tryz.pinned.checked.prog.plainKeys)=true:=by kernel_rfl
theorem closed:joinedFacts Tryz.pinned.checked.prog 8 Tryz.f8 (OpenSpec.ofChange Rows.planRanksSpec).bare Rows.planRanksRow=true:=by
 unfold joinedFacts;rw[k1,k2,k3,k4,k5,k6,k7]
 kernel_rfl
end
end Go.Proofs.YtlkadmkojjceiaaGreatDoor.zi
