/- Pinned seats. -/
import Derived.Test.YtngcejgciomphaaGreatDoorNNames
set_option linter.all false
set_option maxRecDepth 100000
set_option maxHeartbeats 1000000
namespace Go.Proofs.YtngcejgciomphaaGreatDoor
section
open Go Go.Ai Go.Proofs
variable{c:aq}
theorem nP{l:List Int}{i:Nat}(h:i<l.length):(fO l)[i]? =some (.int .i64 l[i]):=by rw[Zc3,Za0 h];rfl
theorem Zt(l:List Int)(i:Nat)(v:Int):(fO l).set i (.int .i64 v)=fO (l.set i v):=(List.map_set).symm
structure Ar(V:AV)(b:Pos)(n:Nat):Prop where
 st:∀(c:aq)(K:AV->St->Option (AV×St))(i:Nat),i<n->∀s1,aj c (.idxA 1 none) [V,.int .i64 (i:Int)] s1 K=K (.ptr b i) s1
 pr:∀(K:AV->Option (AV×St))(i:Nat),i<n->gU (.idxA 1 none) [V,.int .i64 (i:Int)] K=K (.ptr b i)
theorem Ar.of(b:Pos)(n:Nat)(cap:Option Nat):Ar (.slice b 0 n cap 1) b n:=⟨λc K i h s1=>by
 have:=xX c K s1 (b:=b) (off:=0) (len:=n) (es:=1) (es':=1) (cap:=cap) (k:= .i64) (i:=i) h
 rwa [Za5,Zp0]at this,λK i h=>dJ K λH m=>by
 simp only[aJ.run,qC,kF];have:Nat.blt i n=true:=by rw[Nat.blt_eq];exact h
 rw[this];simp⟩
def swp(l:List Int)(i j:Nat):List Int:=(l.set i (l.getD j 0)).set j (l.getD i 0)
theorem I9{l:List Int}{i:Nat}(h:i<l.length):l.getD i 0=l[i]:=by rw[Ze4,Za0 h];rfl
theorem aj7{l:List Int}{i j:Nat}(hi:i<l.length)(hj:j<l.length):(swp l i j).Perm l:=by have h:=Array.swap_perm (xs:=l.toArray) (i:=i) (j:=j) (by simpa using hi) (by simpa using hj);have h:=h.toList;rw[Array.toList_swap]at h;unfold swp;rw[I9 hi,I9 hj];simpa using h
theorem SL(l:List Int){i j q:Nat}(h1:q≠i)(h2:q≠j):(swp l i j)[q]? =l[q]? :=by
 unfold swp;rw[Zg2 (Ne.symm h2),Zg2 (Ne.symm h1)]
theorem swp_right{l:List Int}{i j:Nat}(hi:i<l.length)(hj:j<l.length):(swp l i j)[j]? =l[i]? :=by
 unfold swp;rw[Zn7 (by rw[Zf9];exact hj),I9 hi,Za0 hi]
structure Wr(b:Pos)(s s':St)(l l':List Int):Prop where
 kx:KX b s s'
 get:s'.heap.get b=some (.cells (fO l') 0)
 perm:l'.Perm l
theorem Wr.refl{b:Pos}{s:St}{l:List Int}(hw:Wf s)(h:s.heap.get b=some (.cells (fO l) 0)):Wr b s s l l:=⟨KX.refl hw,h,List.Perm.refl l⟩
theorem Wr.trans{b:Pos}{s1 s2 s3:St}{l1 l2 l3:List Int}(h:Wr b s1 s2 l1 l2)(g:Wr b s2 s3 l2 l3):Wr b s1 s3 l1 l3:=⟨h.kx.trans g.kx,g.get,g.perm.trans h.perm⟩
theorem Wr.len{b:Pos}{s s':St}{l l':List Int}(h:Wr b s s' l l'):l'.length=l.length:=h.perm.length_eq
theorem Wr.tidy{b:Pos}{s s':St}{l l':List Int}(hw:Wf s)(h0:s.heap.get b=some (.cells (fO l) 0))(h:Wr b s s' l l')(v:AV):∃cP,Go.Ai.tidy s (v,s')=(v,cP)/\Wr b s cP l l':=by
 unfold Go.Ai.tidy;by_cases hP:Plain (v,s').1/\bf s (v,s').2
 .rw[Zb5 hP];have e:=hP.2 b _ h0;rw[h.get]at e;have e:l'=l:=aeR (by simpa using e);exact⟨s,rfl,by rw[e];exact Wr.refl hw h0⟩
 .rw[Zb2 hP];exact⟨s',rfl,h⟩
theorem Ub{b:Pos}{s:St}{l:List Int}(hw:Wf s)(h0:s.heap.get b=some (.cells (fO l) 0)){i j:Nat}(hi:i<l.length)(hj:j<l.length):
   (∀(K:AV->St->Option (AV×St)),aj c (.store 1) [.ptr b i,.int .i64 l[j]] s K=K .undef (bI s b (.cells (fO (l.set i l[j])) 0)))/\
   (∀(K:AV->St->Option (AV×St)),aj c (.store 1) [.ptr b j,.int .i64 l[i]] (bI s b (.cells (fO (l.set i l[j])) 0)) K=K .undef (bI s b (.cells (fO (swp l i j)) 0)))/\Wr b s (bI s b (.cells (fO (swp l i j)) 0)) l (swp l i j):=by
 refine⟨λK=> ?_,λK=> ?_,(KX.refl hw).store (hw _ _ h0) _,cW _ _ _,aj7 hi hj⟩
 .rw[Ex (c:=c) K h0 (o:=i) (by rw[Zb9];exact hi) (v:= .int .i64 l[j]) rfl rfl,Zt]
 .rw[Ex (c:=c) K (cW s b (.cells (fO (l.set i l[j])) 0)) (o:=j) (by rw[Zb9,Zf9];exact hj) (v:= .int .i64 l[i]) rfl rfl,Zt,YN];unfold swp;rw[I9 hi,I9 hj]
structure Cm(c:aq)(g:FuncId)(x y:List AV)(b:Pos)(s0:St)(R:Int->Prop)(lt:Int->Int->Bool)(h:Int):Prop where
 is:∀(u v:Int),R u->R v->∀s,KX b s0 s->∃d:Int,c g (x++([.int .i64 u,.int .i64 v]++y)) s=some (.int .i64 d,s)/\decide (d<0)=lt u v
 fst:∀u,R u->u≠h->lt h u=true
 low:∀u,R u->lt u h=false
structure Iv(b:Pos)(s0:St)(n:Nat)(R:Int->Prop)(s:St)(l:List Int):Prop where
 kx:KX b s0 s
 get:s.heap.get b=some (.cells (fO l) 0)
 len:l.length=n
 all:∀u∈l,R u
 nd:l.Nodup
section
variable{V:AV}{b:Pos}{n:Nat}{g:FuncId}{x y:List AV}{s0:St}{R:Int->Prop}{lt:Int->Int->Bool}{h:Int}
theorem Iv.next{s s':St}{l l':List Int}(I:Iv b s0 n R s l)(W:Wr b s s' l l'):Iv b s0 n R s' l':=
 ⟨I.kx.trans W.kx,W.get,W.len.trans I.len,λu hu=>I.all u (W.perm.mem_iff.1 hu),W.perm.nodup_iff.2 I.nd⟩
theorem Iv.wr{s:St}{l:List Int}(I:Iv b s0 n R s l):Wr b s s l l:=Wr.refl I.kx.wf I.get
theorem wI{k:Int}(m:Nat)(h:k=(m:Int))(hm:m<=1000000):az .i64 k=(m:Int):=by rw[wrap64 (by omega) (by omega)];exact h
theorem gI(l:List Int){i:Nat}(hi:i<l.length):l[i]? =some l[i]:=Za0 hi
theorem amM(A:Ar V b n)(hn:n<=1000){a d k:Nat}(ha:a+k<=n)(hd:d+k<=n)(F:Nat):∀(m i f:Nat)(s:St)(l:List Int),i+m=k->m<f->Iv b s0 n R s l->∃s' l',Wr b s s' l l'/\(∀q,q<a->q<d->l'[q]? =l[q]?)/\
  ∀k2:Q2,fK c F k2 f [V,.int .i64 (a:Int),.int .i64 (d:Int),.int .i64 (k:Int),.int .i64 (i:Int)] s=k2 [] s':=by
 intro m;induction m with
 |zero=>
  intro i f s l hi hf I;obtain⟨f,rfl⟩:∃g,f=g+1:=⟨f - 1,by omega⟩
  have d:decide ((i:Int)<(k:Int))=false:=Za3 (by omega);refine⟨s,l,I.wr,λq _ _=>rfl,λk2=> ?_⟩;rw[pW];simp only[au,ay,ai,aE,d,aX]
 |succ m ih=>
  intro i f s l hi hf I;obtain⟨f,rfl⟩:∃g,f=g+1:=⟨f - 1,by omega⟩
  have dd:decide ((i:Int)<(k:Int))=true:=Za1 (by omega);have hl:=I.len;have w1:=λ(_:Unit)=>wI (k:=(a:Int)+(i:Int)) (a+i) (by omega) (by omega)
  have w2:=λ(_:Unit)=>wI (k:=(d:Int)+(i:Int)) (d+i) (by omega) (by omega)
  have w3:=λ(_:Unit)=>wI (k:=(i:Int)+1) (i+1) (by omega) (by omega)
  have a1:=λ(K:AV->Option (AV×St))=>A.pr K (a+i) (by omega)
  have a2:=λ(K:AV->Option (AV×St))=>A.pr K (d+i) (by omega)
  have e1:=nP (l:=l) (i:=a+i) (by omega);have e2:=nP (l:=l) (i:=d+i) (by omega);obtain⟨t1,t2,W⟩:=Ub (c:=c) I.kx.wf I.get (i:=a+i) (j:=d+i) (by omega) (by omega);obtain⟨s',l',W',z1,z⟩:=ih (i+1) f _ _ (by omega) (by omega) (I.next W);refine⟨s',l',W.trans W',λq q1 q2=>(z1 q q1 q2).trans (SL l (by omega) (by omega)),λk2=> ?_⟩;have hg:=I.get;rw[<-z k2,pW];simp only[au,ay,ai,bH,aE,dd,bk,TQ,w1 (),w2 (),a1,a2,cu,hg,ak,Za2,e1,e2,aD,t1,t2,bw,w3 ()]
theorem Ja(hc:Sem c)(A:Ar V b n)(hn:n<=1000){a d k:Nat}(ha:a+k<=n)(hd:d+k<=n)(w:AV){s:St}{l:List Int}(I:Iv b s0 n R s l):∃s' l',Wr b s s' l l'/\(∀q,q<a->q<d->l'[q]? =l[q]?)/\
  c 272 [V,.int .i64 (a:Int),.int .i64 (d:Int),.int .i64 (k:Int),w] s=some (.tuple [],s'):=by
 obtain⟨s',l',W,z1,z⟩:=amM (c:=c) (s0:=s0) (R:=R) A hn ha hd (k+1) k 0 (k+1) s l (by omega) (by omega) I;obtain⟨cP,t1,t2⟩:=W.tidy I.kx.wf I.get (.tuple []);refine⟨cP,l',t2,z1,?_⟩;simp only[show((0:Nat):Int)=0 from rfl]at z;rw[Cj hc (k+1) (r:=(.tuple [],s')),t1];rw[DQ];simp only[ai,z,ay]
theorem amN(hc:Sem c)(A:Ar V b n)(hn:n<=1000){md:Nat}(w:AV)(F:Nat):∀(m i j f:Nat)(s:St)(l:List Int),i+j<=m->m<f->1<=i->1<=j->i<=md->md+j<=n->Iv b s0 n R s l->∃s' l' i',Wr b s s' l l'/\1<=i'/\i'<=i/\md+i'<=n/\(∀q,q+i<md->l'[q]? =l[q]?)/\
  ∀k2:Q2,gV c F k2 f [V,.int .i64 (md:Int),w,.int .i64 (i:Int),.int .i64 (j:Int)] s=k2 [V,.int .i64 (md:Int),w,.int .i64 (i':Int)] s':=by
 intro m;induction m with
 |zero=>intro i j f s l h1 _ h2;omega
 |succ m ih=>
  intro i j f s l h1 hf h2 h3 h4 h5 I;obtain⟨f,rfl⟩:∃g,f=g+1:=⟨f - 1,by omega⟩
  by_cases e:i=j
  .subst e;refine⟨s,l,i,I.wr,h2,Za6 _,h5,λq _=>rfl,λk2=> ?_⟩;rw[mo];simp only[au,ay,ai,nM,Zh8,Zf8,aX]
  . have d1:decide ((i:Int)=(j:Int))=false:=Za3 (by omega);have w1:=λ(_:Unit)=>wI (k:=(md:Int) - (i:Int)) (md - i) (by omega) (by omega)
    by_cases g:j<i
    .   have d2:decide ((j:Int)<(i:Int))=true:=Za1 (by omega);have w2:=λ(_:Unit)=>wI (k:=(i:Int) - (j:Int)) (i - j) (by omega) (by omega)
        obtain⟨s1,l1,W,z1,z⟩:=Ja hc A hn (a:=md - i) (d:=md) (k:=j) (by omega) (by omega) w I;obtain⟨s',l',i',W',y1,y2,y3,y4,y5⟩:=ih (i - j) j f s1 l1 (by omega) (by omega) (by omega) h3 (by omega) h5 (I.next W);refine⟨s',l',i',W.trans W',y1,by omega,y3,λq hq=>(y4 q (by omega)).trans (z1 q (by omega) (by omega)),λk2=> ?_⟩;rw[<-y5 k2,mo];simp only[au,ay,ai,nM,d1,Zi4,bk,nK,d2,mO,w1 (),aT,z,aR,w2 ()]
    .   have d2:decide ((j:Int)<(i:Int))=false:=Za3 (by omega);have w2:=λ(_:Unit)=>wI (k:=(j:Int) - (i:Int)) (j - i) (by omega) (by omega)
        have w3:=λ(_:Unit)=>wI (k:=(md:Int)+(j:Int)) (md+j) (by omega) (by omega)
        have w4:=λ(_:Unit)=>wI (k:=((md+j:Nat):Int) - (i:Int)) (md+j - i) (by omega) (by omega)
        obtain⟨s1,l1,W,z1,z⟩:=Ja hc A hn (a:=md - i) (d:=md+j - i) (k:=i) (by omega) (by omega) w I;obtain⟨s',l',i',W',y1,y2,y3,y4,y5⟩:=ih i (j - i) f s1 l1 (by omega) (by omega) h2 (by omega) h4 (by omega) (I.next W);refine⟨s',l',i',W.trans W',y1,by omega,y3,λq hq=>(y4 q (by omega)).trans (z1 q (by omega) (by omega)),λk2=> ?_⟩;rw[<-y5 k2,mo];simp only[au,ay,ai,nM,d1,Zi4,bk,nK,d2,aX,mO,w1 (),bw,w3 (),w4 (),aT,z,aR,w2 ()]
theorem ahW(hc:Sem c)(A:Ar V b n)(hn:n<=1000){a md e:Nat}(h1:a<md)(h2:md<e)(h3:e<=n)(w:AV){s:St}{l:List Int}(I:Iv b s0 n R s l):∃s' l',Wr b s s' l l'/\(∀q,q<a->l'[q]? =l[q]?)/\
  c 264 [V,.int .i64 (a:Int),.int .i64 (md:Int),.int .i64 (e:Int),w] s=some (.tuple [],s'):=by
 have w1:=λ(_:Unit)=>wI (k:=(md:Int) - (a:Int)) (md - a) (by omega) (by omega)
 have w2:=λ(_:Unit)=>wI (k:=(e:Int) - (md:Int)) (e - md) (by omega) (by omega)
 obtain⟨s1,l1,i',W,y1,y2,y3,y4,y5⟩:=amN (s0:=s0) (R:=R) hc A hn (md:=md) w 3000 2000 (md - a) (e - md) 3000 s l (by omega) (by omega) (by omega) (by omega) (by omega) (by omega) I;have w3:=λ(_:Unit)=>wI (k:=(md:Int) - (i':Int)) (md - i') (by omega) (by omega)
 obtain⟨s2,l2,W2,z1,z⟩:=Ja hc A hn (a:=md - i') (d:=md) (k:=i') (by omega) (by omega) w (I.next W);obtain⟨s3,t1,t2⟩:=(W.trans W2).tidy I.kx.wf I.get (.tuple []);refine⟨s3,l2,t2,λq hq=>(z1 q (by omega) (by omega)).trans (y4 q (by omega)),?_⟩;rw[ED hc 3000 (r:=(.tuple [],s2)),t1];rw[FP];simp only[ai,mO,w1 (),w2 (),y5,au,ay,w3 (),aT,z,aR]
theorem amO (A:Ar V b n)(hn:n<=1000)(C:Cm c g x y b s0 R lt h)(x2 x8:AV){a:Nat}(F:Nat):∀(m j f:Nat)(s:St)(l:List Int),j=a+m->j<n->m<f->Iv b s0 n R s l->∃s' l',Wr b s s' l l'/\(∀q,q<a\/j<q->l'[q]? =l[q]?)/\(a=0->l[j]? =some h\/l[0]? =some h->l'[0]? =some h)/\
  ∀k4:Q2,dx c F k4 f [V,.int .i64 (a:Int),x2,.func g x y,x8,.int .i64 (j:Int)] s=k4 [V,.int .i64 (a:Int),x2,.func g x y,x8] s':=by
 intro m;induction m with
 |zero=>
  intro j f s l hj hjn hf I;obtain⟨f,rfl⟩:∃g,f=g+1:=⟨f - 1,by omega⟩
  have d:decide ((a:Int)<(j:Int))=false:=Za3 (by omega);refine⟨s,l,I.wr,λq _=>rfl,λe he=> ?_,λk4=> ?_⟩
  .rw[show j=0 by omega]at he;exact he.elim id id
  rw[jw];simp only[au,ay,ai,bH,nK,YL,d,nk,nu,vz,ML,eM,eN,aX]
 |succ m ih=>
  intro j f s l hj hjn hf I;obtain⟨f,rfl⟩:∃g,f=g+1:=⟨f - 1,by omega⟩
  have d:decide ((a:Int)<(j:Int))=true:=Za1 (by omega);have hl:=I.len;have w1:=λ(_:Unit)=>wI (k:=(j:Int) - 1) (j - 1) (by omega) (by omega)
  have a1:=λ(K:AV->Option (AV×St))=>A.pr K j hjn
  have a2:=λ(K:AV->Option (AV×St))=>A.pr K (j - 1) (by omega)
  have e1:=nP (l:=l) (i:=j) (by omega);have e2:=nP (l:=l) (i:=j - 1) (by omega);obtain⟨dv,cl,dl⟩:=C.is (l[j]'(by omega)) (l[j - 1]'(by omega)) (I.all _ (Zc0 _)) (I.all _ (Zc0 _)) s I.kx;have hg:=I.get;cases gx:lt (l[j]'(by omega)) (l[j - 1]'(by omega))with
  | true=>
    rw[gx]at dl;obtain⟨t1,t2,W⟩:=Ub (c:=c) I.kx.wf I.get (i:=j) (j:=j - 1) (by omega) (by omega);obtain⟨s',l',W',z1,z2,z⟩:=ih (j - 1) f _ _ (by omega) (by omega) (by omega) (I.next W);refine⟨s',l',W.trans W',λq hq=>(z1 q (by omega)).trans (SL l (by omega) (by omega)),λe he=>z2 e ?_,λk4=> ?_⟩
    .   rcases he with he|he
        .exact .inl ((swp_right (by omega) (by omega)).trans he)
        . (refine .inr ((SL l (by omega) λe0=> ?_).trans he);have ee:l[j - 1]'(by omega)=h:=by have h1:=gI l (i:=j - 1) (by omega);have h3:l[j - 1]? =some h:=(by rw[<-e0];exact he);rw[h1]at h3;exact Zh2 h3);rw[ee,C.low _ (I.all _ (Zc0 _))]at gx;cases gx
    rw[<-z k4,jw];simp only[au,ay,ai,bH,nK,YL,d,dI,fQ,fh,gG,HO,mO,w1 (),a1,a2,cu,hg,ak,Za2,e1,e2,aD,kR,cl,aR,vQ,dl,fc,dc,bk,t1,t2]
  | false   =>
    rw[gx]at dl;refine⟨s,l,I.wr,λq _=>rfl,λe he=> ?_,λk4=> ?_⟩
    .   rcases he with he|he
        . exfalso;have ej:l[j]'(by omega)=h:=(by rw[gI l (i:=j) (by omega)]at he;exact Zh2 he);have ne:l[j - 1]'(by omega)≠h:=λe2=>by
            have:=List.pairwise_iff_getElem.1 I.nd (j - 1) j (by omega) (by omega) (by omega);exact this (by rw[ej,e2])
          rw[ej,C.fst _ (I.all _ (Zc0 _)) ne]at gx;cases gx
        .exact he
    rw[jw];simp only[au,ay,ai,bH,nK,YL,d,dI,fQ,fh,gG,HO,mO,w1 (),a1,a2,cu,hg,ak,Za2,e1,e2,aD,kR,cl,aR,vQ,dl,fc,dc,aX]
theorem amP(A:Ar V b n)(hn:n<=1000)(C:Cm c g x y b s0 R lt h){a e:Nat}(he:e<=n)(F:Nat)(hF:n<F):∀(m i f:Nat)(s:St)(l:List Int),e<=i+m->a<i->m<f->Iv b s0 n R s l->∃s' l',Wr b s s' l l'/\(∀q,q<a\/e<=q->l'[q]? =l[q]?)/\(a=0->(l[0]? =some h\/∃p,i<=p/\p<e/\l[p]? =some h)->l'[0]? =some h)/\
  ∀k2:Q2,eF c F k2 f [V,.int .i64 (a:Int),.int .i64 (e:Int),.func g x y,.int .i64 (i:Int)] s=k2 [] s':=by
 intro m;induction m with
 |zero=>
  intro i f s l hi ha hf I;obtain⟨f,rfl⟩:∃g,f=g+1:=⟨f - 1,by omega⟩
  have d:decide ((i:Int)<(e:Int))=false:=Za3 (by omega);refine⟨s,l,I.wr,λq _=>rfl,λ_ hh=> ?_,λk2=> ?_⟩
  . rcases hh with hh|⟨p,p1,p2,_⟩
    .   exact hh
    .   omega
  rw[jx];simp only[au,ay,ai,aE,d,aX]
 |succ m ih=>
  intro i f s l hi ha hf I;obtain⟨f,rfl⟩:∃g,f=g+1:=⟨f - 1,by omega⟩
  by_cases hie:i<e
  . have d:decide ((i:Int)<(e:Int))=true:=Za1 (by omega);have w1:=λ(_:Unit)=>wI (k:=(i:Int)+1) (i+1) (by omega) (by omega)
    obtain⟨s1,l1,W1,y1,y2,y⟩:=amO (c:=c) A hn C (.int .i64 (e:Int)) (.int .i64 (i:Int)) (a:=a) F (i - a) i F s l (by omega) (by omega) (by omega) I;obtain⟨s',l',W',z1,z2,z⟩:=ih (i+1) f s1 l1 (by omega) (by omega) (by omega) (I.next W1);refine⟨s',l',W1.trans W',λq hq=>(z1 q hq).trans (y1 q (by omega)),λa0 hh=>z2 a0 ?_,λk2=> ?_⟩
    .   rcases hh with hh|⟨p,p1,p2,hh⟩
        .exact .inl (y2 a0 (.inr hh))
        . by_cases ep:p=i
          .subst ep;exact .inl (y2 a0 (.inl hh))
          .exact .inr ⟨p,by omega,p2,(y1 p (by omega)).trans hh⟩
    rw[<-z k2,jx];simp only[au,ay,ai,aE,d,bk,y,bw,w1 ()]
  . have d:decide ((i:Int)<(e:Int))=false:=Za3 (by omega);refine⟨s,l,I.wr,λq _=>rfl,λ_ hh=> ?_,λk2=> ?_⟩
    .   rcases hh with hh|⟨p,p1,p2,_⟩
        .exact hh
        .omega
    rw[jx];simp only[au,ay,ai,aE,d,aX]
theorem SM(hc:Sem c)(A:Ar V b n)(hn:n<=1000)(C:Cm c g x y b s0 R lt h){a e:Nat}(ha:a<=n)(he:e<=n){s:St}{l:List Int}(I:Iv b s0 n R s l):∃s' l',Wr b s s' l l'/\(∀q,q<a\/e<=q->l'[q]? =l[q]?)/\(a=0->(∃p,p<e/\l[p]? =some h)->l'[0]? =some h)/\
   c 232 [V,.int .i64 (a:Int),.int .i64 (e:Int),.func g x y] s=some (.tuple [],s'):=by
 have w1:=λ(_:Unit)=>wI (k:=(a:Int)+1) (a+1) (by omega) (by omega)
 obtain⟨s',l',W,z1,z2,z⟩:=amP (c:=c) A hn C (a:=a) he (n+1) (by omega) n (a+1) (n+1) s l (by omega) (by omega) (by omega) I;obtain⟨cP,t1,t2⟩:=W.tidy I.kx.wf I.get (.tuple []);refine⟨cP,l',t2,z1,λa0 ⟨p,p1,p2⟩=>z2 a0 ?_,?_⟩
 . by_cases p0:p=0
   .subst p0;exact .inl p2
   .exact .inr ⟨p,by omega,p1,p2⟩
 rw[zb hc (n+1) (r:=(.tuple [],s')),t1];rw[Af];simp only[ai,bw,w1 (),z,ay]
end
theorem adt{R:Type}{f:(List AV->St->Option R)->Option R}{k:List AV->St->Option R}{vs:List AV}{s:St}{r:Option R}(h:∀K,f K=K vs s)(hr:k vs s=r):fB f k=r:=(h k).trans hr
section
variable{V:AV}{b:Pos}{n:Nat}{g:FuncId}{x y:List AV}{s0:St}{R:Int->Prop}{lt:Int->Int->Bool}{h:Int}
theorem Uc(K:AV->St->Option (AV×St))(s:St){i j:Nat}(hi:i+j<=100000):aj c (.bin .add .num) [.int .i64 (i:Int),.int .i64 (j:Int)] s (λx s=>aj c (.conv (.int .u64)) [x] s λx s=>aj c (.bin .shr .num) [x,.int .u64 1] s λx s=>aj c (.conv (.int .i64)) [x] s K)=K (.int .i64 (((i+j) / 2:Nat):Int)) s:=by
 have w1:=λ(_:Unit)=>wI (k:=(i:Int)+(j:Int)) (i+j) (by omega) (by omega)
 have w2:Unit->az .u64 ((i+j:Nat):Int)=((i+j:Nat):Int):=λ_=>afF (by omega) (by omega)
 have w3:Unit->az .i64 (((i+j) / 2:Nat):Int)=(((i+j) / 2:Nat):Int):=λ_=>wrap64 (by omega) (by omega)
 simp only[bw,w1 (),VW,w2 (),Wg,w3 ()]
theorem Iv.cmp(C:Cm c g x y b s0 R lt h){s:St}{l:List Int}(I:Iv b s0 n R s l){i j:Nat}(hi:i<l.length)(hj:j<l.length):∃d:Int,c g (x++([.int .i64 l[i],.int .i64 l[j]]++y)) s=some (.int .i64 d,s)/\decide (d<0)=lt l[i] l[j]:=
 C.is _ _ (I.all _ (Zc0 _)) (I.all _ (Zc0 _)) s I.kx
theorem anI(A:Ar V b n)(hn:n<=1000)(C:Cm c g x y b s0 R lt h){a:Nat}(ha:a<n)(F:Nat){s:St}{l:List Int}(I:Iv b s0 n R s l):∀(m i j f:Nat),j<=i+m->i<=j->j<=n->m<f->∃i',i<=i'/\i'<=j/\(l[a]? =some h->i'=i)/\
  ∀k2:Q2,fV c F k2 f [V,.int .i64 (a:Int),.func g x y,.int .i64 (i:Int),.int .i64 (j:Int)] s=k2 [V,.int .i64 (a:Int),.int .i64 (i':Int)] s:=by
 intro m;induction m with
 |zero=>
  intro i j f h1 h2 h3 hf;obtain⟨f,rfl⟩:∃g,f=g+1:=⟨f - 1,by omega⟩
  have d:decide ((i:Int)<(j:Int))=false:=Za3 (by omega);refine⟨i,Za6 _,h2,λ_=>rfl,λk2=> ?_⟩;rw[ir];simp only[au,ay,ai,aE,d,aX]
 |succ m ih=>
  intro i j f h1 h2 h3 hf;obtain⟨f,rfl⟩:∃g,f=g+1:=⟨f - 1,by omega⟩
  by_cases Z7:i<j
  . have d:decide ((i:Int)<(j:Int))=true:=Za1 (by omega);have hl:=I.len;have hf:=λ(K:AV->St->Option (AV×St))(s:St)=>Uc (c:=c) K s (i:=i) (j:=j) (by omega)
    obtain⟨q,hq⟩:∃q,q=(i+j) / 2:=⟨_,rfl⟩
    (rw[<-hq]at hf;have w4:=λ(_:Unit)=>wI (k:=(q:Int)+1) (q+1) (by omega) (by omega));have a1:=λ(K:AV->Option (AV×St))=>A.pr K q (by omega)
    have a2:=λ(K:AV->Option (AV×St))=>A.pr K a ha
    have e1:=nP (l:=l) (i:=q) (by omega);have e2:=nP (l:=l) (i:=a) (by omega);obtain⟨dv,cl,dl⟩:=I.cmp C (i:=q) (j:=a) (by omega) (by omega);have hg:=I.get;cases gx:lt (l[q]'(by omega)) (l[a]'(by omega))with
    |   true=>
        rw[gx]at dl;obtain⟨i',z1,z2,z3,z⟩:=ih (q+1) j f (by omega) (by omega) h3 (by omega);refine⟨i',by omega,z2,λhe=> ?_,λk2=> ?_⟩
        .have ea:l[a]'(by omega)=h:=(by rw[gI l (i:=a) (by omega)]at he;exact Zh2 he);rw[ea,C.low _ (I.all _ (Zc0 _))]at gx;cases gx
        rw[<-z k2,ir];simp only[au,ay,ai,aE,d,bk,hf,bH,a1,a2,cu,hg,ak,Za2,e1,e2,aD,kR,cl,aR,vQ,dl,bw,w4 ()]
    |   false=>
        rw[gx]at dl;obtain⟨i',z1,z2,z3,z⟩:=ih i q f (by omega) (by omega) (by omega) (by omega);refine⟨i',z1,by omega,z3,λk2=> ?_⟩;rw[<-z k2,ir];simp only[au,ay,ai,aE,d,bk,hf,bH,a1,a2,cu,hg,ak,Za2,e1,e2,aD,kR,cl,aR,vQ,dl,aX]
  .have d:decide ((i:Int)<(j:Int))=false:=Za3 (by omega);refine⟨i,Za6 _,h2,λ_=>rfl,λk2=> ?_⟩;rw[ir];simp only[au,ay,ai,aE,d,aX]
theorem anJ(A:Ar V b n)(hn:n<=1000){a i:Nat}(h1:1<=i)(hi:i<=n)(F:Nat):∀(m k f:Nat)(s:St)(l:List Int),i<=k+1+m->m<f->a<=k->Iv b s0 n R s l->∃s' l',Wr b s s' l l'/\(∀q,q<a->l'[q]? =l[q]?)/\(i<=k+1->l'=l)/\
  ∀k4:Q2,k<=n->fW c F k4 f [V,.int .i64 (i:Int),.int .i64 (k:Int)] s=k4 [] s':=by
 intro m;have w1:=λ(_:Unit)=>wI (k:=(i:Int) - 1) (i - 1) (by omega) (by omega)
 induction m with
 |zero=>
  intro k f s l h2 hf h3 I;obtain⟨f,rfl⟩:∃g,f=g+1:=⟨f - 1,by omega⟩
  have d:decide ((k:Int)<((i - 1:Nat):Int))=false:=Za3 (by omega);refine⟨s,l,I.wr,λq _=>rfl,λ_=>rfl,λk4 _=> ?_⟩;rw[lg];simp only[au,ay,ai,mO,w1 (),aE,d,aX]
 |succ m ih=>
  intro k f s l h2 hf h3 I;obtain⟨f,rfl⟩:∃g,f=g+1:=⟨f - 1,by omega⟩
  by_cases hk:k+1<i
  . have d:decide ((k:Int)<((i - 1:Nat):Int))=true:=Za1 (by omega);have hl:=I.len;have w2:=λ(_:Unit)=>wI (k:=(k:Int)+1) (k+1) (by omega) (by omega)
    have a1:=λ(K:AV->Option (AV×St))=>A.pr K k (by omega)
    have a2:=λ(K:AV->Option (AV×St))=>A.pr K (k+1) (by omega)
    have e1:=nP (l:=l) (i:=k) (by omega);have e2:=nP (l:=l) (i:=k+1) (by omega);have hg:=I.get;obtain⟨t1,t2,W⟩:=Ub (c:=c) I.kx.wf I.get (i:=k) (j:=k+1) (by omega) (by omega);obtain⟨s',l',W',z1,z2,z⟩:=ih (k+1) f _ _ (by omega) (by omega) (by omega) (I.next W);refine⟨s',l',W.trans W',λq hq=>(z1 q hq).trans (SL l (by omega) (by omega)),λe=>by omega,λk4 hkn=> ?_⟩;rw[<-z k4 (by omega),lg];simp only[au,ay,ai,mO,w1 (),aE,d,bk,bH,TQ,w2 (),a1,a2,cu,hg,ak,Za2,e1,e2,aD,t1,t2,bw]
  .have d:decide ((k:Int)<((i - 1:Nat):Int))=false:=Za3 (by omega);refine⟨s,l,I.wr,λq _=>rfl,λ_=>rfl,λk4 _=> ?_⟩;rw[lg];simp only[au,ay,ai,mO,w1 (),aE,d,aX]
theorem anK(A:Ar V b n)(hn:n<=1000)(C:Cm c g x y b s0 R lt h){md:Nat}(ha:md<n)(F:Nat){s:St}{l:List Int}(I:Iv b s0 n R s l):∀(m i j f:Nat),j<=i+m->i<=j->j<=n->m<f->∃i',i<=i'/\i'<=j/\(l[0]? =some h->1<=j->1<=i')/\
  ∀k2:Q2,fX c F k2 f [V,.int .i64 (md:Int),.func g x y,.int .i64 (i:Int),.int .i64 (j:Int)] s=k2 [V,.int .i64 (md:Int),.int .i64 (i':Int)] s:=by
 intro m;induction m with
 |zero=>
  intro i j f h1 h2 h3 hf;obtain⟨f,rfl⟩:∃g,f=g+1:=⟨f - 1,by omega⟩
  have d:decide ((i:Int)<(j:Int))=false:=Za3 (by omega);refine⟨i,Za6 _,h2,λ_ _=>by omega,λk2=> ?_⟩;rw[iu];simp only[au,ay,ai,aE,d,aX]
 |succ m ih=>
  intro i j f h1 h2 h3 hf;obtain⟨f,rfl⟩:∃g,f=g+1:=⟨f - 1,by omega⟩
  by_cases Z7:i<j
  . have d:decide ((i:Int)<(j:Int))=true:=Za1 (by omega);have hl:=I.len;have hf:=λ(K:AV->St->Option (AV×St))(s:St)=>Uc (c:=c) K s (i:=i) (j:=j) (by omega)
    obtain⟨q,hq⟩:∃q,q=(i+j) / 2:=⟨_,rfl⟩
    (rw[<-hq]at hf;have w4:=λ(_:Unit)=>wI (k:=(q:Int)+1) (q+1) (by omega) (by omega));have a1:=λ(K:AV->Option (AV×St))=>A.pr K q (by omega)
    have a2:=λ(K:AV->Option (AV×St))=>A.pr K md ha
    have e1:=nP (l:=l) (i:=q) (by omega);have e2:=nP (l:=l) (i:=md) (by omega);obtain⟨dv,cl,dl⟩:=I.cmp C (i:=md) (j:=q) (by omega) (by omega);have hg:=I.get;cases gx:lt (l[md]'(by omega)) (l[q]'(by omega))with
    |   false=>
        rw[gx]at dl;obtain⟨i',z1,z2,z3,z⟩:=ih (q+1) j f (by omega) (by omega) h3 (by omega);refine⟨i',by omega,z2,λ_ _=>by omega,λk2=> ?_⟩;rw[<-z k2,iu];simp only[au,ay,ai,aE,d,bk,hf,bH,a1,a2,cu,hg,ak,Za2,e1,e2,aD,kR,cl,aR,vQ,dl,Et,Zi4,bw,w4 ()]
    |   true=>
        rw[gx]at dl;obtain⟨i',z1,z2,z3,z⟩:=ih i q f (by omega) (by omega) (by omega) (by omega);refine⟨i',z1,by omega,λhe _=>z3 he ?_,λk2=> ?_⟩
        . (refine Nat.pos_of_ne_zero λq0=> ?_);have eq:l[q]'(by omega)=h:=(by rw[<-q0,gI l (i:=q) (by omega)]at he;exact Zh2 he);rw[eq,C.low _ (I.all _ (Zc0 _))]at gx;cases gx
        rw[<-z k2,iu];simp only[au,ay,ai,aE,d,bk,hf,bH,a1,a2,cu,hg,ak,Za2,e1,e2,aD,kR,cl,aR,vQ,dl,Et,Zf8,aX]
  .have d:decide ((i:Int)<(j:Int))=false:=Za3 (by omega);refine⟨i,Za6 _,h2,λ_ _=>by omega,λk2=> ?_⟩;rw[iu];simp only[au,ay,ai,aE,d,aX]
theorem anL(A:Ar V b n)(hn:n<=1000){i:Nat}(F:Nat):∀(m k f:Nat)(s:St)(l:List Int),k<=i+m->m<f->k<n->Iv b s0 n R s l->∃s' l',Wr b s s' l l'/\(∀q,q<i->l'[q]? =l[q]?)/\
  ∀k8:Q2,fY c F k8 f [V,.int .i64 (i:Int),.int .i64 (k:Int)] s=k8 [] s':=by
 intro m;induction m with
 |zero=>
  intro k f s l h2 hf h3 I;obtain⟨f,rfl⟩:∃g,f=g+1:=⟨f - 1,by omega⟩
  have d:decide ((i:Int)<(k:Int))=false:=Za3 (by omega);refine⟨s,l,I.wr,λq _=>rfl,λk8=> ?_⟩;rw[lq];simp only[au,ay,ai,nK,d,aX]
 |succ m ih=>
  intro k f s l h2 hf h3 I;obtain⟨f,rfl⟩:∃g,f=g+1:=⟨f - 1,by omega⟩
  by_cases hk:i<k
  . have d:decide ((i:Int)<(k:Int))=true:=Za1 (by omega);have hl:=I.len;have w2:=λ(_:Unit)=>wI (k:=(k:Int) - 1) (k - 1) (by omega) (by omega)
    have a1:=λ(K:AV->Option (AV×St))=>A.pr K k (by omega)
    have a2:=λ(K:AV->Option (AV×St))=>A.pr K (k - 1) (by omega)
    have e1:=nP (l:=l) (i:=k) (by omega);have e2:=nP (l:=l) (i:=k - 1) (by omega);have hg:=I.get;obtain⟨t1,t2,W⟩:=Ub (c:=c) I.kx.wf I.get (i:=k) (j:=k - 1) (by omega) (by omega);obtain⟨s',l',W',z1,z⟩:=ih (k - 1) f _ _ (by omega) (by omega) (by omega) (I.next W);refine⟨s',l',W.trans W',λq hq=>(z1 q hq).trans (SL l (by omega) (by omega)),λk8=> ?_⟩;rw[<-z k8,lq];simp only[au,ay,ai,nK,d,bk,bH,HO,w2 (),a1,a2,cu,hg,ak,Za2,e1,e2,aD,t1,t2,mO]
  .have d:decide ((i:Int)<(k:Int))=false:=Za3 (by omega);refine⟨s,l,I.wr,λq _=>rfl,λk8=> ?_⟩;rw[lq];simp only[au,ay,ai,nK,d,aX]
theorem anM(A:Ar V b n)(hn:n<=1000)(C:Cm c g x y b s0 R lt h)(x1 x2 x3 Gk x19:AV){p i0:Nat}(F:Nat){s:St}{l:List Int}(I:Iv b s0 n R s l):∀(m i j f:Nat),j<=i+m->i<=j->j<=n->i0<=i->j<=p+1->p<n+i0->m<f->∃i',i<=i'/\i'<=j/\(l[0]? =some h->1<=j->1<=i')/\
  ∀k2:Q2,p<=10000->fZ c F k2 f [V,x1,x2,x3,.func g x y,Gk,x19,.int .i64 (i:Int),.int .i64 (j:Int),.int .i64 (p:Int)] s=k2 [V,x1,x2,x3,.func g x y,Gk,x19,.int .i64 (i':Int)] s:=by
 intro m;induction m with
 |zero=>
  intro i j f h1 h2 h3 h4 h5 h6 hf;obtain⟨f,rfl⟩:∃g,f=g+1:=⟨f - 1,by omega⟩
  have d:decide ((i:Int)<(j:Int))=false:=Za3 (by omega);refine⟨i,Za6 _,h2,λ_ _=>by omega,λk2 _=> ?_⟩;rw[iw];simp only[au,ay,ai,aE,d,aX]
 |succ m ih=>
  intro i j f h1 h2 h3 h4 h5 h6 hf;obtain⟨f,rfl⟩:∃g,f=g+1:=⟨f - 1,by omega⟩
  by_cases Z7:i<j
  . have d:decide ((i:Int)<(j:Int))=true:=Za1 (by omega);have hl:=I.len;have hf:=λ(K:AV->St->Option (AV×St))(s:St)=>Uc (c:=c) K s (i:=i) (j:=j) (by omega)
    obtain⟨q,hq⟩:∃q,q=(i+j) / 2:=⟨_,rfl⟩
    (rw[<-hq]at hf;have w4:=λ(_:Unit)=>wI (k:=(q:Int)+1) (q+1) (by omega) (by omega));have w5:p<=10000->az .i64 ((p:Int) - (q:Int))=((p - q:Nat):Int):=λhp=>wI (k:=(p:Int) - (q:Int)) (p - q) (by omega) (by omega)
    have a1:=λ(K:AV->Option (AV×St))=>A.pr K q (by omega)
    have a2:=λ(K:AV->Option (AV×St))=>A.pr K (p - q) (by omega)
    have e1:=nP (l:=l) (i:=q) (by omega);have e2:=nP (l:=l) (i:=p - q) (by omega);obtain⟨dv,cl,dl⟩:=I.cmp C (i:=p - q) (j:=q) (by omega) (by omega);have hg:=I.get;cases gx:lt (l[p - q]'(by omega)) (l[q]'(by omega))with
    |   false=>
        rw[gx]at dl;obtain⟨i',z1,z2,z3,z⟩:=ih (q+1) j f (by omega) (by omega) h3 (by omega) h5 h6 (by omega);refine⟨i',by omega,z2,λ_ _=>by omega,λk2 hp=> ?_⟩;have w5:=w5 hp;rw[<-z k2 hp,iw];simp only[au,ay,ai,aE,d,bk,hf,bH,HO,w5,a1,a2,cu,hg,ak,Za2,e1,e2,aD,kR,cl,aR,vQ,dl,Et,Zi4,bw,w4 ()]
    |   true=>
        rw[gx]at dl;obtain⟨i',z1,z2,z3,z⟩:=ih i q f (by omega) (by omega) (by omega) h4 (by omega) h6 (by omega);refine⟨i',z1,by omega,λhe _=>z3 he ?_,λk2 hp=> ?_⟩
        . (refine Nat.pos_of_ne_zero λq0=> ?_);have eq:l[q]'(by omega)=h:=(by rw[<-q0,gI l (i:=q) (by omega)]at he;exact Zh2 he);rw[eq,C.low _ (I.all _ (Zc0 _))]at gx;cases gx
        have w5:=w5 hp;rw[<-z k2 hp,iw];simp only[au,ay,ai,aE,d,bk,hf,bH,HO,w5,a1,a2,cu,hg,ak,Za2,e1,e2,aD,kR,cl,aR,vQ,dl,Et,Zf8,aX]
  .have d:decide ((i:Int)<(j:Int))=false:=Za3 (by omega);refine⟨i,Za6 _,h2,λ_ _=>by omega,λk2 _=> ?_⟩;rw[iw];simp only[au,ay,ai,aE,d,aX]
end
section
variable{V:AV}{b:Pos}{n:Nat}{g:FuncId}{x y:List AV}{s0:St}{R:Int->Prop}{lt:Int->Int->Bool}{h:Int}
theorem amQ(hc:Sem c)(A:Ar V b n)(hn:n<=1000)(C:Cm c g x y b s0 R lt h):∀(m a md e:Nat)(s:St)(l:List Int),e<=a+m->a<md->md<e->e<=n->Iv b s0 n R s l->∃s' l',Wr b s s' l l'/\(∀q,q<a->l'[q]? =l[q]?)/\(l[0]? =some h->l'[0]? =some h)/\
  c 233 [V,.int .i64 (a:Int),.int .i64 (md:Int),.int .i64 (e:Int),.func g x y] s=some (.tuple [],s'):=by
 intro m;induction m with
 |zero=>intro a md e s l h1 h2 h3;omega
 |succ m ih=>
  intro a md e s l h1 h2 h3 h4 I;have u1:=λ(_:Unit)=>wI (k:=(md:Int) - (a:Int)) (md - a) (by omega) (by omega)
  have u2:=λ(_:Unit)=>wI (k:=(e:Int) - (md:Int)) (e - md) (by omega) (by omega)
  by_cases c1:md=a+1
  . have d1:decide (((md - a:Nat):Int)=1)=true:=Za1 (by omega);obtain⟨i',y1,y2,y3,yk⟩:=anI (c:=c) A hn C (a:=a) (by omega) (n+1) I n md e (n+1) (by omega) (by omega) h4 (by omega);obtain⟨s',l',W,z1,z2,zk⟩:=anJ (c:=c) A hn (a:=a) (i:=i') (by omega) (by omega) (n+1) n a (n+1) s l (by omega) (by omega) (Za6 _) I;obtain⟨cP,t1,t2⟩:=W.tidy I.kx.wf I.get (.tuple []);refine⟨cP,l',t2,z1,λhe=> ?_,?_⟩
    .   by_cases a0:a=0
        .subst a0;rw[z2 (by have:=y3 he;omega)];exact he
        .rw[z1 0 (by omega)];exact he
    rw[lY hc (n+1) (r:=(.tuple [],s')),t1];rw[mQ];simp only[ai,mO,u1 (),nL,d1,bk,yk,au,ay,zk _ (show a<=n by omega)]
  have d1:decide (((md - a:Nat):Int)=1)=false:=Za3 (by omega);by_cases c2:e=md+1
  . have d2:decide (((e - md:Nat):Int)=1)=true:=Za1 (by omega);obtain⟨i',y1,y2,y3,yk⟩:=anK (c:=c) A hn C (md:=md) (by omega) (n+1) I n a md (n+1) (by omega) (by omega) (by omega) (by omega);obtain⟨s',l',W,z1,zk⟩:=anL (c:=c) A hn (i:=i') (n+1) n md (n+1) s l (by omega) (by omega) (by omega) I;obtain⟨cP,t1,t2⟩:=W.tidy I.kx.wf I.get (.tuple []);refine⟨cP,l',t2,λq hq=>z1 q (by omega),λhe=> ?_,?_⟩
    .   have:=y3 he (by omega);rw[z1 0 (by omega)];exact he
    rw[lY hc (n+1) (r:=(.tuple [],s')),t1];rw[mQ];simp only[ai,mO,u1 (),nL,d1,aX,u2 (),d2,bk,yk,au,ay,zk]
  have d2:decide (((e - md:Nat):Int)=1)=false:=Za3 (by omega);have hf:=λ(K:AV->St->Option (AV×St))(s:St)=>Uc (c:=c) K s (i:=a) (j:=e) (by omega)
  obtain⟨mid,hmid⟩:∃q,q=(a+e) / 2:=⟨_,rfl⟩
  rw[<-hmid]at hf;have u3:=λ(_:Unit)=>wI (k:=(mid:Int)+(md:Int)) (mid+md) (by omega) (by omega)
  obtain⟨st,r,hsr,b1,b2,b3⟩:∃st r:Nat,((mid<md/\st=mid+md - e/\r=mid)\/(md<=mid/\st=a/\r=md))/\a<=st/\st<=r/\mid+md<=e+st:=by
    by_cases q:mid<md
    .   exact⟨mid+md - e,mid,.inl ⟨q,rfl,rfl⟩,by omega,by omega,by omega⟩
    .   exact⟨a,md,.inr ⟨by omega,rfl,rfl⟩,by omega,by omega,by omega⟩
  have b4:r<=mid/\r<=md:=by rcases hsr with⟨_,_,q⟩|⟨_,_,q⟩<;>omega
  have b5:1<=r:=by rcases hsr with⟨_,_,q⟩|⟨_,_,q⟩<;>omega
  have u4:=λ(_:Unit)=>wI (k:=((mid+md:Nat):Int) - 1) (mid+md - 1) (by omega) (by omega)
  obtain⟨i',y1,y2,y3,yk⟩:=anM (c:=c) A hn C (.int .i64 (a:Int)) (.int .i64 (md:Int)) (.int .i64 (e:Int)) (.int .i64 (mid:Int)) (.int .i64 ((mid+md:Nat):Int)) (p:=mid+md - 1) (i0:=st) (n+1) I n st r (n+1) (by omega) b2 (by omega) (Za6 _) (by omega) (by omega) (by omega);obtain⟨en,hen⟩:∃q,q=mid+md - i':=⟨_,rfl⟩
  have u5:=λ(_:Unit)=>wI (k:=((mid+md:Nat):Int) - (i':Int)) en (by omega) (by omega)
  obtain⟨s1,l1,W1,p1,hrot⟩:∃s1 l1,Wr b s s1 l l1/\(∀q,q<i'->l1[q]? =l[q]?)/\((i'<md/\md<en/\c 264 [V,.int .i64 (i':Int),.int .i64 (md:Int),.int .i64 (en:Int),.func g x y] s=some (.tuple [],s1))\/(¬(i'<md/\md<en)/\s1=s)):=by
    by_cases q:i'<md/\md<en
    .   obtain⟨s1,l1,W,p1,p2⟩:=ahW hc A hn q.1 q.2 (by omega) (.func g x y) I;exact⟨s1,l1,W,p1,.inl ⟨q.1,q.2,p2⟩⟩
    .   exact⟨s,l,I.wr,λ_ _=>rfl,.inr ⟨q,rfl⟩⟩
  have I1:=I.next W1;obtain⟨s2,l2,W2,p2,p3,hr1⟩:∃s2 l2,Wr b s1 s2 l1 l2/\(∀q,q<a->l2[q]? =l1[q]?)/\(l1[0]? =some h->l2[0]? =some h)/\((a<i'/\i'<mid/\c 233 [V,.int .i64 (a:Int),.int .i64 (i':Int),.int .i64 (mid:Int),.func g x y] s1=some (.tuple [],s2))\/(¬(a<i'/\i'<mid)/\s2=s1)):=by
    by_cases q:a<i'/\i'<mid
    .   obtain⟨s2,l2,W,p2,p3,p4⟩:=ih a i' mid s1 l1 (by omega) q.1 q.2 (by omega) I1;exact⟨s2,l2,W,p2,p3,.inl ⟨q.1,q.2,p4⟩⟩
    .   exact⟨s1,l1,I1.wr,λ_ _=>rfl,id,.inr ⟨q,rfl⟩⟩
  have I2:=I1.next W2;obtain⟨s3,l3,W3,p4,p5,Fl⟩:∃s3 l3,Wr b s2 s3 l2 l3/\(∀q,q<mid->l3[q]? =l2[q]?)/\(l2[0]? =some h->l3[0]? =some h)/\((mid<en/\en<e/\c 233 [V,.int .i64 (mid:Int),.int .i64 (en:Int),.int .i64 (e:Int),.func g x y] s2=some (.tuple [],s3))\/(¬(mid<en/\en<e)/\s3=s2)):=by
    by_cases q:mid<en/\en<e
    .   obtain⟨s3,l3,W,p4,p5,p6⟩:=ih mid en e s2 l2 (by omega) q.1 q.2 h4 I2;exact⟨s3,l3,W,p4,p5,.inl ⟨q.1,q.2,p6⟩⟩
    .   exact⟨s2,l2,I2.wr,λ_ _=>rfl,id,.inr ⟨q,rfl⟩⟩
  obtain⟨cP,t1,t2⟩:=((W1.trans W2).trans W3).tidy I.kx.wf I.get (.tuple []);refine⟨cP,l3,t2,λq hq=>(p4 q (by omega)).trans ((p2 q hq).trans (p1 q (by omega))),λhe=>p5 (p3 ?_),?_⟩
  .have:=y3 he b5;rw[p1 0 (by omega)];exact he
  rw[lY hc (n+1) (r:=(.tuple [],s3)),t1];rw[mQ];simp only[ai,mO,u1 (),nL,d1,aX,u2 (),d2,hf,bw,u3 ()];refine adt (vs:=[V,.int .i64 (a:Int),.int .i64 (md:Int),.int .i64 (e:Int),.func g x y,.int .i64 (mid:Int),.int .i64 ((mid+md:Nat):Int),.int .i64 (st:Int),.int .i64 (r:Int)]) (s:=s) (λK=> ?_) ?_
  . rcases hsr with⟨q,rfl,rfl⟩|⟨q,rfl,rfl⟩
    .   have dd:decide ((r:Int)<(md:Int))=true:=Za1 (by omega);have u6:=λ(_:Unit)=>wI (k:=((r+md:Nat):Int) - (e:Int)) (r+md - e) (by omega) (by omega)
        simp only[nK,dd,bk,mO,u6 ()]
    .   have dd:decide ((mid:Int)<(r:Int))=false:=Za3 (by omega);simp only[nK,dd,aX]
  simp only[au,ay,mO,u4 (),yk _ (show mid+md - 1<=10000 by omega),u5 ()];refine adt (vs:=[V,.int .i64 (a:Int),.int .i64 (e:Int),.func g x y,.int .i64 (mid:Int),.int .i64 (i':Int),.int .i64 (en:Int)]) (s:=s1) (λK=> ?_) ?_
  . rcases hrot with⟨q1,q2,q3⟩|⟨q,rfl⟩
    .   have dd:decide ((i':Int)<(md:Int))=true:=Za1 (by omega);have de:decide ((md:Int)<(en:Int))=true:=Za1 (by omega);simp only[aE,dd,dI,ai,de,fc,bk,aT,q3,aR]
    .   by_cases qq:i'<md
        .have dd:decide ((i':Int)<(md:Int))=true:=Za1 (by omega);have de:decide ((md:Int)<(en:Int))=false:=Za3 (by omega);simp only[aE,dd,dI,ai,de,fc,aX]
        .have dd:decide ((i':Int)<(md:Int))=false:=Za3 (by omega);simp only[aE,dd,ML,ai,eM,aX]
  simp only[au,ay];refine adt (vs:=[V,.int .i64 (e:Int),.func g x y,.int .i64 (mid:Int),.int .i64 (en:Int)]) (s:=s2) (λK=> ?_) ?_
  . rcases hr1 with⟨q1,q2,q3⟩|⟨q,rfl⟩
    .   have dd:decide ((a:Int)<(i':Int))=true:=Za1 (by omega);have de:decide ((i':Int)<(mid:Int))=true:=Za1 (by omega);simp only[aE,dd,dI,ai,de,fc,bk,aT,q3,aR]
    .   by_cases qq:a<i'
        .have dd:decide ((a:Int)<(i':Int))=true:=Za1 (by omega);have de:decide ((i':Int)<(mid:Int))=false:=Za3 (by omega);simp only[aE,dd,dI,ai,de,fc,aX]
        .have dd:decide ((a:Int)<(i':Int))=false:=Za3 (by omega);simp only[aE,dd,ML,ai,eM,aX]
  simp only[au,ay];rcases Fl with⟨q1,q2,q3⟩|⟨q,rfl⟩
  .have dd:decide ((mid:Int)<(en:Int))=true:=Za1 (by omega);have de:decide ((en:Int)<(e:Int))=true:=Za1 (by omega);simp only[aE,dd,dI,ai,de,fc,bk,aT,q3,aR]
  . by_cases qq:mid<en
    .   have dd:decide ((mid:Int)<(en:Int))=true:=Za1 (by omega);have de:decide ((en:Int)<(e:Int))=false:=Za3 (by omega);simp only[aE,dd,dI,ai,de,fc,aX]
    .   have dd:decide ((mid:Int)<(en:Int))=false:=Za3 (by omega);simp only[aE,dd,ML,ai,eM,aX]
theorem ahX(hc:Sem c)(A:Ar V b n)(hn:n<=39)(C:Cm c g x y b s0 R lt h){s:St}{l:List Int}(I:Iv b s0 n R s l)(hh:∃p,p<20/\l[p]? =some h):∃s' l',Wr b s s' l l'/\l'[0]? =some h/\
   c 158 [V,.int .i64 (n:Int),.func g x y] s=some (.tuple [],s'):=by
 have w0:Unit->az .i64 ((20:Int)+20)=40:=λ_=>by decide
 have w1:Unit->az .i64 ((2:Int)*20)=40:=λ_=>by decide
 have w2:Unit->az .i64 ((20:Int)*2)=40:=λ_=>by decide
 have w3:Unit->az .i64 ((0:Int)+20)=20:=λ_=>by decide
 have e40:decide ((40:Int)<=(n:Int))=false:=Za3 (by omega);have f40:decide ((40:Int)<(n:Int))=false:=Za3 (by omega);by_cases h20:20<=n
 . have d1:decide ((20:Int)<=(n:Int))=true:=Za1 (by omega);obtain⟨s1,l1,W1,p1,p2,k1⟩:=SM hc A (by omega) C (a:=0) (e:=20) (Zj1 _) h20 I;have I1:=I.next W1;obtain⟨s2,l2,W2,p3,p4,k2⟩:=SM hc A (by omega) C (a:=20) (e:=n) h20 (Za6 _) I1;have I2:=I1.next W2;have o2:l2[0]? =some h:=(p3 0 (by omega)).trans (p2 rfl hh);simp only[show((0:Nat):Int)=0 from rfl,show((20:Nat):Int)=20 from rfl]at k1 k2;by_cases h21:20<n
   .have d2:decide ((20:Int)<(n:Int))=true:=Za1 (by omega);obtain⟨s3,l3,W3,p5,p6,k3⟩:=amQ hc A (by omega) C n 0 20 n s2 l2 (by omega) (by omega) h21 (Za6 _) I2;simp only[show((0:Nat):Int)=0 from rfl,show((20:Nat):Int)=20 from rfl]at k3;obtain⟨cP,t1,t2⟩:=((W1.trans W2).trans W3).tidy I.kx.wf I.get (.tuple []);refine⟨cP,l3,t2,p6 o2,?_⟩;rw[mR hc 3 (r:=(.tuple [],s3)),t1];rw[nZ];simp only[ai];rw[gh];simp only[ai,au,ay,HN,d1,bk,aT,k1,aR,bw,w0 ()];rw[gh];simp only[ai,au,ay,HN,e40,aX,aT,k2,aR];rw[jf];simp only[ai,au,ay,aE,d2,bk,aey,w1 ()];rw[DR];simp only[ai,au,ay,HN,e40,aX,bO,bw,w3 (),aE,d2,bk,aT,k3,aR,aey,w2 ()];rw[jf];simp only[ai,au,ay,aE,f40,aX]
   .have d2:decide ((20:Int)<(n:Int))=false:=Za3 (by omega);obtain⟨cP,t1,t2⟩:=(W1.trans W2).tidy I.kx.wf I.get (.tuple []);refine⟨cP,l2,t2,o2,?_⟩;rw[mR hc 3 (r:=(.tuple [],s2)),t1];rw[nZ];simp only[ai];rw[gh];simp only[ai,au,ay,HN,d1,bk,aT,k1,aR,bw,w0 ()];rw[gh];simp only[ai,au,ay,HN,e40,aX,aT,k2,aR];rw[jf];simp only[ai,au,ay,aE,d2,aX]
 . have d1:decide ((20:Int)<=(n:Int))=false:=Za3 (by omega);have d2:decide ((20:Int)<(n:Int))=false:=Za3 (by omega);obtain⟨s1,l1,W1,p1,p2,k1⟩:=SM hc A (by omega) C (a:=0) (e:=n) (Zj1 _) (Za6 _) I;simp only[show((0:Nat):Int)=0 from rfl]at k1;obtain⟨cP,t1,t2⟩:=W1.tidy I.kx.wf I.get (.tuple []);refine⟨cP,l1,t2,p2 rfl ?_,?_⟩
   .obtain⟨p,_,hp⟩:=hh;exact⟨p,by have:=(Za4.1 hp).1;have:=I.len;omega,hp⟩
   rw[mR hc 3 (r:=(.tuple [],s1)),t1];rw[nZ];simp only[ai];rw[gh];simp only[ai,au,ay,HN,d1,aX,aT,k1,aR];rw[jf];simp only[ai,au,ay,aE,d2,aX]
end
end
section
open Go Go.Ai Go.Proofs
def NZ(fr:Nat)(B:Int)(o:List Int):Prop:=∀m,m<o.length->(m≠fr->o.getD m 0≠0)/\ -1<=o.getD m 0/\o.getD m 0<=B
theorem Po(o:List Int){m:Nat}(h:m<o.length)(v:Int)(i:Nat):(o.set m v).getD i 0=if m=i then v else o.getD i 0:=by
 by_cases e:m=i
 .subst e;simp[List.getD,h]
 .simp[List.getD,Zg2 e,e]
theorem Zu(nr:Nat->Bool)(k fr:Nat)(B:Int):∀(ms:List Nat)(o:List Int)(q:List Nat),(∀m∈ms,m<o.length)->0<=o.getD k 0->o.getD k 0<B->NZ fr B o->NZ fr B (j8 nr k ms o q).1
 |[],o,q,_,_,_,h=>h
 |m ::ms,o,q,hm,hk,hB,h=>by
  have hmo:=hm m (by simp);by_cases hc:o.getD m 0<0/\nr m=true
  . (rw[j8,Zb5 hc];have cA:m≠k:=λe=>by subst e;omega);refine Zu nr k fr B ms _ _ (λi hi=>by simpa using hm i (Za8 _ hi)) ?_ ?_ λi hi=> ?_
    .   rw[Po o hmo,Zb2 cA];exact hk
    .   rw[Po o hmo,Zb2 cA];exact hB
    .   rw[Zf9]at hi;rw[Po o hmo];by_cases e:m=i
        .rw[Zb5 e];exact⟨λ_=>by omega,by omega,by omega⟩
        .rw[Zb2 e];exact h i hi
  .rw[j8,Zb2 hc];exact Zu nr k fr B ms o q (λi hi=>hm i (Za8 _ hi)) hk hB h
theorem adu(nr:Nat->Nat->Bool)(fr n:Nat):∀(f:Nat)(o:List Int)(q:List Nat)(B:Int),o.length=n->(∀m∈q,m<n/\0<=o.getD m 0)->o.getD fr 0=0->NZ fr B o->(C0 nr n f o q).getD fr 0=0/\NZ fr (B+f) (C0 nr n f o q)/\(C0 nr n f o q).length=n
 |0,o,q,B,hl,_,h0,h=>by
  have e:C0 nr n 0 o q=o:=by cases q<;>rfl
  rw[e];exact⟨h0,λm hm=>⟨(h m hm).1,(h m hm).2.1,by have:=(h m hm).2.2;omega⟩,hl⟩
 |f+1,o,[],B,hl,_,h0,h=>by
  have e:C0 nr n (f+1) o []=o:=rfl;rw[e];exact⟨h0,λm hm=>⟨(h m hm).1,(h m hm).2.1,by have:=(h m hm).2.2;omega⟩,hl⟩
 |f+1,o,k::q,B,hl,hq,h0,h=>by
  obtain⟨hk,tX⟩:=hq k (by simp);have hms:∀m∈List.range n,m<o.length:=λm hm=>by rw[hl];exact Zi5.1 hm
  obtain⟨a1,a2,a3,a4⟩:=Hs (nr k) k (List.range n) o q hms tX λm hm=>(hq m (Za8 _ hm)).2
  have hB:=(h k (by omega)).2.2;have z:=Zu (nr k) k fr (B+1) (List.range n) o q hms tX (by omega) λm hm=>⟨(h m hm).1,(h m hm).2.1,by have:=(h m hm).2.2;omega⟩
  have lt:∀m∈(j8 (nr k) k (List.range n) o q).2,m<n:=Zv (nr k) k n (List.range n) o q (λm hm=>Zi5.1 hm) λm hm=>(hq m (Za8 _ hm)).1
  obtain⟨r1,r2,r3⟩:=adu nr fr n f _ _ (B+1) (a2.trans hl) (λm hm=>⟨lt m hm,a3 m hm⟩) (by rw[a4 fr (by omega)];exact h0) z;have e:C0 nr n (f+1) o (k::q)=C0 nr n f (j8 (nr k) k (List.range n) o q).1 (j8 (nr k) k (List.range n) o q).2:=rfl;rw[e];refine⟨r1,λm hm=> ?_,r3⟩;obtain⟨b1,b2,b3⟩:=r2 m hm;exact⟨b1,b2,by omega⟩
where
 Zv (nr:Nat->Bool) (k n:Nat):∀(ms:List Nat)(o:List Int)(q:List Nat),(∀m∈ms,m<n)->(∀m∈q,m<n)->∀m∈(j8 nr k ms o q).2,m<n
  |[],o,q,_,h=>h
  |  m ::ms,o,q,hm,h=>by
     by_cases hc:o.getD m 0<0/\nr m=true
     . rw[j8,Zb5 hc];exact Zv nr k n ms _ _ (λi hi=>hm i (Za8 _ hi)) λi hi=>by
        rcases Ze7.1 hi with hi|hi
        .exact h i hi
        .rw[Zf1.1 hi];exact hm m (by simp)
     .rw[j8,Zb2 hc];exact Zv nr k n ms o q (λi hi=>hm i (Za8 _ hi)) h
theorem EE{t:aH}(hz:aY t≠0){k:Nat}(hk:k<(aY t).toNat):(jE t).length=(aY t).toNat/\(k=(cG t).toNat->(jE t).getD k 0=0)/\(k≠(cG t).toNat->1<=(jE t).getD k 0)/\(jE t).getD k 0<=10000:=by
 have hb:=jJ t;have hh:=Ez hz;have hf:(cG t).toNat<(aY t).toNat:=by omega
 have hrl:(List.replicate (aY t).toNat (-1:Int)).length=(aY t).toNat:=Zk4;have r:∀i,i<(aY t).toNat->((List.replicate (aY t).toNat (-1:Int)).set (cG t).toNat 0).getD i 0=if(cG t).toNat=i then 0 else -1:=λi hi=>by
   rw[Po _ (by rw[hrl];exact hf)];congr 1;simp[List.getD,hi]
 obtain⟨z1,z2,z3⟩:=adu (λk m=>ym t k m) (cG t).toNat (aY t).toNat (2*(aY t).toNat+1) ((List.replicate (aY t).toNat (-1)).set (cG t).toNat 0) [(cG t).toNat] 0 (by rw[Zf9,hrl]) (λm hm=>by
   rw[Zf1.1 hm,r _ hf,Zb5 rfl];exact⟨hf,Zp1 _⟩) (by rw[r _ hf,Zb5 rfl]) λm hm=>by
   rw[Zf9,hrl]at hm;rw[r _ hm];by_cases e:(cG t).toNat=m
   .rw[Zb5 e];exact⟨λh=>absurd e.symm h,by omega,by omega⟩
   .rw[Zb2 e];exact⟨λ_=>by omega,by omega,by omega⟩
 have hl:(jE t).length=(aY t).toNat:=by unfold jE qT;rw[Zb9];exact z3
 have g:(jE t).getD k 0=IL (aY t).toNat ((qT t (cG t).toNat).getD k 0):=by
   have h2:k<(qT t (cG t).toNat).length:=(by unfold qT;rw[z3];exact hk);unfold jE;simp only[List.getD,Zc3,Za0 h2,Zd8,Zj8]
 have rU:=z2 k (by rw[z3];exact hk);rw[g];change (qT t (cG t).toNat).getD (cG t).toNat 0=0 at z1;change (k≠(cG t).toNat->(qT t (cG t).toNat).getD k 0≠0)/\ -1<=(qT t (cG t).toNat).getD k 0/\(qT t (cG t).toNat).getD k 0<=_ at rU;obtain⟨b1,b2,b3⟩:=rU;unfold IL;refine⟨hl,λe=> ?_,λe=> ?_,?_⟩
 .rw[e,z1,Zb2 (by decide)]
 .have:=b1 e;split<;>omega
 .split<;>omega
variable{c:aq}
theorem aeU(z:Bool)(ts:List aH){i:Nat}(hi:i<ts.length)(K:AV->St->Option (AV×St))(s:St):aj c (.idxA 7 none) [tabs z ts,.int .i64 (i:Int)] s K=K (.fp (ts.map aH.cells) i 0) s:=by
 unfold tabs;rw[Io];simp[hi]
theorem aeV(ts:List aH){i:Nat}(hi:i<ts.length)(K:AV->St->Option (AV×St))(s:St):aj c (.load (some 7)) [.fp (ts.map aH.cells) i 0] s K=K (.agg (ts[i]).cells) s:=by
 rw[ER];simp[hi]
def ltL(by':List Int)(first:Int)(u v:Int):Bool:=decide (by'.getD (u - first).toNat 0<by'.getD (v - first).toNat 0)
def Rg(first:Int)(n:Nat)(u:Int):Prop:=first<=u/\u<first+(n:Int)
theorem al2(hc:Sem c){t:aH}(hz:aY t≠0){first:Int}(hf:0<=first/\first<=100000){s0:St}(DY:Wf s0){b p5 p6 bo:Pos}(h5:s0.heap.get p5=some (.cells [.slice b 0 (aY t).toNat (some (aY t).toNat) 1] 0))(h6:s0.heap.get p6=some (.cells [.int .i64 first] 0))
   (hb:s0.heap.get b=some (.cells ((jE t).map cI) 0)) (n5:p5≠bo) (n6:p6≠bo) (nb:b≠bo):Cm c 81 [] [.ptr p5 0,.ptr p6 0] bo s0 (Rg first (aY t).toNat) (ltL (jE t) first) (first+cG t):=by
 have hh:=Ez hz;have Kt:=jJ t;refine⟨λu v hu hv s K=> ?_,λu hu cA=> ?_,λu hu=> ?_⟩
 . have g5:=K.keep p5 _ n5 h5;have g6:=K.keep p6 _ n6 h6;have gb:=K.keep b _ nb hb;obtain⟨u',eu⟩:∃k:Nat,u - first=(k:Int):=⟨(u - first).toNat,by have:=hu.1;omega⟩
   obtain⟨v',ev⟩:∃k:Nat,v - first=(k:Int):=⟨(v - first).toNat,by have:=hv.1;omega⟩
   have hu':u'<(aY t).toNat:=(by have:=hu.2;omega);have Gd:v'<(aY t).toNat:=(by have:=hv.2;omega);obtain⟨L,a1,a2,a3⟩:=EE hz hu';obtain⟨_,b1,b2,b3⟩:=EE hz Gd;have gu:=aah (t:=t) (k:=u') (by omega);have gv:=aah (t:=t) (k:=v') (by omega);have du:(jE t).getD u' 0=(jE t)[u']'(by omega):=(by rw[Ze4,Za0 (by omega)];rfl);have dv:(jE t).getD v' 0=(jE t)[v']'(by omega):=(by rw[Ze4,Za0 (by omega)];rfl);have pu:0<=(jE t).getD u' 0:=by
     by_cases e:u'=(cG t).toNat
     .rw[a1 e];exact Zp1 _
     .have:=a2 e;omega
   have pv:0<=(jE t).getD v' 0:=by
     by_cases e:v'=(cG t).toNat
     .rw[b1 e];exact Zp1 _
     .have:=b2 e;omega
   have w1:Unit->az .i64 (u - first)=(u':Int):=λ_=>by rw[wrap64 (by omega) (by omega)];exact eu
   have w2:Unit->az .i64 (v - first)=(v':Int):=λ_=>by rw[wrap64 (by omega) (by omega)];exact ev
   refine⟨(jE t).getD u' 0 - (jE t).getD v' 0,?_,?_⟩
   . have w3:az .i64 ((jE t)[u']'(by omega) - (jE t)[v']'(by omega))=(jE t).getD u' 0 - (jE t).getD v' 0:=(by rw[<-du, <-dv];exact wrap64 (by omega) (by omega));have ix:∀(i:Nat),i<(aY t).toNat->∀(K:AV->Option (AV×St)),gU (.idxA 1 none) [.slice b 0 (aY t).toNat (some (aY t).toNat) 1,.int .i64 (i:Int)] K=K (.ptr b i):=λi hi K=>(Ar.of b (aY t).toNat (some (aY t).toNat)).pr K i hi
     show c 81 [.int .i64 u,.int .i64 v,.ptr p5 0,.ptr p6 0] s=_;rw[UD hc 1 (r:=(.int .i64 ((jE t).getD u' 0 - (jE t).getD v' 0),s)),aB (Plain.int _ _) (bf.refl s)];rw[Yf];simp only[ai,bH,cu,g5,g6,gb,ak,Za2,Zb0,aD,HO,w1 (),w2 (),ix u' hu',ix v' Gd,gu,gv,w3]
   . unfold ltL;rw[eu,ev,Zk9,Zk9];by_cases e:(jE t).getD u' 0<(jE t).getD v' 0
     .rw[Za1 e,Za1 (by omega)]
     .rw[Za3 e,Za3 (by omega)]
 .have hk:(u - first).toNat<(aY t).toNat:=(by have:=hu.2;have:=hu.1;omega);obtain⟨_,_,a2,_⟩:=EE hz hk;obtain⟨_,z1,_,_⟩:=EE hz (k:=(cG t).toNat) (by omega);have:=a2 (λe=>cA (by have:=hu.1;omega));unfold ltL;rw[show(first+cG t - first).toNat=(cG t).toNat by omega,z1 rfl];exact Za1 (by omega)
 . have hk:(u - first).toNat<(aY t).toNat:=(by have:=hu.2;have:=hu.1;omega);obtain⟨_,a1,a2,_⟩:=EE hz hk;obtain⟨_,z1,_,_⟩:=EE hz (k:=(cG t).toNat) (by omega);unfold ltL;rw[show(first+cG t - first).toNat=(cG t).toNat by omega,z1 rfl];refine Za3 ?_;by_cases e:(u - first).toNat=(cG t).toNat
   .rw[a1 e];omega
   .have:=a2 e;omega
def zl(first:Int)(k:Nat):List Int:=(List.range k).map λ(i:Nat)=>first+(i:Int)
theorem aj8(first:Int)(k:Nat):zl first (k+1)=zl first k++[first+(k:Int)]:=by unfold zl;rw[Zp5,Ze2];rfl
theorem Nx(first:Int)(k:Nat):(zl first k).length=k:=by unfold zl;simp
theorem amR(first:Int){n k:Nat}(hk:k<n):(zl first k++List.replicate (n - k) 0).set k (first+(k:Int))=zl first (k+1)++List.replicate (n - (k+1)) 0:=by
 obtain⟨m,hm⟩:∃m,n - k=m+1:=⟨n - k - 1,by omega⟩
 rw[hm,show n - (k+1)=m by omega,aj8,Zl4 _ _ (by rw[Nx];exact Za6 _),Nx,Zk3,Zp7,Zm6,Zg4];rfl
theorem aj9{s0:St}{p6 bo:Pos}{first:Int}(hf:0<=first/\first<=100000){n:Nat}(hn:n<=1000)(cA:p6≠bo)(x5:AV)(F:Nat):∀(m k f:Nat)(s:St),m<f->k+m=n->KX bo s0 s->s.heap.get p6=some (.cells [.int .i64 first] 0)->s.heap.get bo=some (.cells (fO (zl first k++List.replicate (n - k) 0)) 0)->
  ∃s',KX bo s0 s'/\s'.heap.get bo=some (.cells (fO (zl first n)) 0)/\∀k2:Q2,sX c F k2 f [x5,.ptr p6 0,.slice bo 0 n (some n) 1,.int .i64 (n:Int),.int .i64 (k:Int)] s=k2 [x5,.ptr p6 0,.slice bo 0 n (some n) 1] s':=by
 intro m;induction m with
 |zero=>
  intro k f s hf1 h1 K h6 ho;obtain⟨f,rfl⟩:∃g,f=g+1:=⟨f - 1,by omega⟩
  obtain rfl:k=n:=by omega
  rw[Zk3,List.replicate_zero,Zd4]at ho;refine⟨s,K,ho,λk2=> ?_⟩;rw[Jb];simp only[au,ay,aE,Zg1,Zf6,aX]
 |succ m ih=>
  intro k f s hf1 h1 K h6 ho;obtain⟨f,rfl⟩:∃g,f=g+1:=⟨f - 1,by omega⟩
  have hk:k<n:=by omega
  have d:decide ((k:Int)<(n:Int))=true:=Za1 (by omega);have w:=λ(_:Unit)=>wI (k:=(k:Int)+1) (k+1) (by omega) (by omega)
  have w2:Unit->az .i64 (first+(k:Int))=first+(k:Int):=λ_=>wrap64 (by omega) (by omega)
  have ix:=λ(K:AV->St->Option (AV×St))(s1:St)=>(Ar.of bo n (some n)).st c K k hk s1
  have hl:(zl first k++List.replicate (n - k) 0).length=n:=by rw[Zc9,Nx,Zk4];omega
  have nj:∀(K:AV->St->Option (AV×St)),aj c (.store 1) [.ptr bo k,.int .i64 (first+(k:Int))] s K=K .undef (bI s bo (.cells (fO (zl first (k+1)++List.replicate (n - (k+1)) 0)) 0)):=λK=>by
   rw[Ex (c:=c) K ho (o:=k) (by rw[Zb9,hl];exact hk) (v:= .int .i64 (first+(k:Int))) rfl rfl,Zt,amR first hk]
  obtain⟨s',a1,a2,a3⟩:=ih (k+1) f _ (by omega) (by omega) (K.store (K.wf _ _ ho) _) (by rw[aO (λe=>cA e.symm)];exact h6) (cW _ _ _);refine⟨s',a1,a2,λk2=> ?_⟩;rw[<-a3 k2,Jb];simp only[au,ay,aE,d,bk,ai,aN,h6,ak,Za2,Zb0,aD,bw,w2 (),ix,nj,w ()]
theorem aa8(hc:Sem c){V:AV}{b:Pos}{n:Nat}{g:FuncId}{x y:List AV}{s0:St}{R:Int->Prop}{lt:Int->Int->Bool}{h:Int}(A:Ar V b n)(hV:∀(K:AV->St->Option (AV×St))(s1:St),aj c (.lenB .l) [V] s1 K=K (.int .i64 (n:Int)) s1)(hn:n<=39)(C:Cm c g x y b s0 R lt h){s:St}{l:List Int}(I:Iv b s0 n R s l)(hh:∃p,p<20/\l[p]? =some h):
  ∃s' l',Wr b s s' l l'/\l'[0]? =some h/\c 80 [V,.func g x y] s=some (.tuple [],s'):=by
 obtain⟨s',l',W,z,k⟩:=ahX hc A hn C I hh;obtain⟨cP,t1,t2⟩:=W.tidy I.kx.wf I.get (.tuple []);refine⟨cP,l',t2,z,?_⟩;rw[Ag hc 1 (r:=(.tuple [],s')),t1];rw[Ck];simp only[ai,hV,aT,k,aR]
theorem amS{t:aH}(hz:aY t≠0):aY t<=24/\cG t<20:=by
 unfold aY at hz ⊢;unfold cG
 repeat' split
 all_goals first|omega|skip
 all_goals (try simp_all)
 all_goals (rw[Zh3 (by omega)];omega)
theorem ahY(hc:Sem c)(z:Bool)(ts:List aH)(cR:∀t∈ts,t.Ok)(hv:(bJ ts).2=0){i:Nat}{t:aH}(ht:ts[i]? =some t)(s:St)(hw:Wf s):
  ∃b s' l n,c 36 [tabs z ts,.int .i64 (i:Int)] s=some (.slice b 0 n (some n) 1,s')/\Grew s s'/\s.next.toNat<=b.toNat/\s'.heap.get b=some (.cells (fO l) 0)/\l.length=n/\l[0]? =some (ey ts (i:Int)+cG t):=by
 obtain⟨hi,hg⟩:=Za4.1 ht;have hz:=SE (KQ hv ht);obtain⟨f1,f2⟩:=amS hz;have Kt:=jJ t;have hh:=Ez hz;have Gf:ts.length<=16:=by
  unfold bJ at hv;by_cases e:16<ts.length
  .rw[Zb5 e]at hv;simp at hv
  .omega
 have hF:0<=ey ts (i:Int)/\ey ts (i:Int)<=100000:=by
  rw[ey];split
  .omega
  .have:=A4 (ts.take (i:Int).toNat);have hl:(ts.take (i:Int).toNat).length<=16:=(by rw[Ze0];omega);omega
 have fi:=V9 hc z ts cR (i:Int);obtain⟨first,Yg⟩:∃f,f=ey ts (i:Int):=⟨_,rfl⟩
 rw[<-Yg]at hF fi ⊢;have va:=OX hc z ts cR s hw;rw[Za1 hv]at va;obtain⟨b,s1,L1,L2,L3,L4,L5⟩:=ahC hc t hz s hw;obtain⟨n,hn⟩:∃n,n=(aY t).toNat:=⟨_,rfl⟩
 have MB:1<=n:=by omega
 have g2:=Grew.ah L2.wf (.cells [.slice b 0 n (some n) 1] 0);have x5:=aF s1 (.cells [.slice b 0 n (some n) 1] 0);have Sd:∀(K:AV->St->Option (AV×St)),aj c (.store 1) [.ptr s1.next 0,.slice b 0 n (some n) 1] (ah s1 (.cells [.af] 0)) K=K .undef (ah s1 (.cells [.slice b 0 n (some n) 1] 0)):=λK=>cV c K s1 1 (.slice b 0 n (some n) 1) _ rfl rfl rfl
 obtain⟨s2,wR⟩:∃s2,s2=ah s1 (.cells [.slice b 0 n (some n) 1] 0):=⟨_,rfl⟩
 rw[<-wR]at g2 x5 Sd;have fi2:=fi s2 g2.wf;have g3:=Grew.ah g2.wf (.cells [.int .i64 first] 0);have x6:=aF s2 (.cells [.int .i64 first] 0);have KD:∀(K:AV->St->Option (AV×St)),aj c (.store 1) [.ptr s2.next 0,.int .i64 first] (ah s2 (.cells [.int .i64 0] 0)) K=K .undef (ah s2 (.cells [.int .i64 first] 0)):=λK=>cV c K s2 1 (.int .i64 first) _ rfl rfl rfl
 have x53:=g3.get x5;obtain⟨s3,Xo⟩:∃s3,s3=ah s2 (.cells [.int .i64 first] 0):=⟨_,rfl⟩
 rw[<-Xo]at g3 x6 KD x53;have mk:=λ(K:AV->St->Option (AV×St))=>aeC c K s3 (es:=1) (bytes:=8) (z:=[.int .i64 0]) (k:= .i64) (k':= .i64) (n:=n) (by omega) (by omega)
 rw[OO]at mk;have e0:List.replicate n (AV.int .i64 0)=fO (zl first 0++List.replicate (n - 0) 0):=by simp[zl,fO]
 rw[e0]at mk;have g4:=Grew.ah g3.wf (.cells (fO (zl first 0++List.replicate (n - 0) 0)) 0);have xo:=aF s3 (.cells (fO (zl first 0++List.replicate (n - 0) 0)) 0);have X2:=g4.get x6;have Z9:=g4.get x53;have q2:s1.next.toNat<s2.next.toNat:=g2.wf _ _ x5;have q3:s2.next.toNat<s3.next.toNat:=g3.wf _ _ x6;have qb:b.toNat<s1.next.toNat:=L2.wf _ _ L3;obtain⟨s4,XG⟩:∃s4,s4=ah s3 (.cells (fO (zl first 0++List.replicate (n - 0) 0)) 0):=⟨_,rfl⟩
 rw[<-XG]at mk g4 xo X2 Z9;obtain⟨bo,hbo⟩:∃bo,bo=s3.next:=⟨_,rfl⟩
 rw[<-hbo]at mk xo;have n6:s2.next≠bo:=λe=>by rw[e,hbo]at q3;omega
 have n5:s1.next≠bo:=λe=>by rw[e,hbo]at q2;omega
 have nb:b≠bo:=λe=>by rw[e,hbo]at qb;omega
 obtain⟨s5,y1,y2,y3⟩:=aj9 (c:=c) (s0:=s4) hF (n:=n) (by omega) n6 (.ptr s1.next 0) 2000 n 0 2000 s4 (by omega) (by omega) (KX.refl g4.wf) X2 xo;have C:=al2 hc hz hF y1.wf (bo:=bo) (y1.keep _ _ n5 (by rw[<-hn];exact Z9)) (y1.keep _ _ n6 X2) (y1.keep _ _ nb ((g2.trans (g3.trans g4)).get L3)) n5 n6 nb;rw[<-hn]at C;have nd:(zl first n).Nodup:=by unfold zl;refine List.nodup_iff_pairwise_ne.2 ?_;rw[Zq4];exact Zn5.imp λh=>by omega
 have I:Iv bo s5 n (Rg first n) s5 (zl first n):=⟨KX.refl y1.wf,y2,Nx _ _,λu hu=>by unfold zl at hu;obtain⟨k,hk,rfl⟩:=Zd0.1 hu;have:=Zi5.1 hk;exact⟨by omega,by omega⟩,nd⟩
 have hp:∃p,p<20/\(zl first n)[p]? =some (first+cG t):=⟨(cG t).toNat,by omega,by unfold zl;rw[Zc3,Zm2 (by omega)];show some (first+(((cG t).toNat:Nat):Int))=_;congr 2;omega⟩
 have lo:∀(K:AV->St->Option (AV×St))(s1:St),aj c (.lenB .l) [.slice bo 0 n (some n) 1] s1 K=K (.int .i64 (n:Int)) s1:=λK s1=>xY c K s1 _ _ _ _ _
 have lb:∀(K:AV->St->Option (AV×St))(s1:St),aj c (.lenB .l) [.slice b 0 n (some n) 1] s1 K=K (.int .i64 (n:Int)) s1:=λK s1=>xY c K s1 _ _ _ _ _
 obtain⟨s6,l',W,z1,z2⟩:=aa8 hc (Ar.of bo n (some n)) lo (by omega) C I hp;have aka:KX bo s4 s6:=y1.trans W.kx;have Se:Grew s s6:=by have g34:=L2.trans (g2.trans (g3.trans g4));refine⟨aka.wf,λp x hx=>aka.keep p x (λe=> ?_) (g34.get hx),Zb7 g34.next aka.next⟩;have h1:=hw _ _ hx;have h2:=L2.next;rw[e,hbo]at h1;omega
 refine⟨bo,s6,l',n,?_,Se,by rw[hbo];have:=L2.next;omega,W.get,W.len.trans (Nx _ _),z1⟩;have d0:decide ((i:Int)<0)=false:=Za3 (by omega);have d1:decide ((ts.length:Int)<=(i:Int))=false:=Za3 (by omega);have np:¬Plain (.slice bo 0 n (some n) 1):=A7 (by omega);rw[Yh hc 2000 (r:=(.slice bo 0 n (some n) 1,s6)),Wm np];have ln:∀(K:AV->St->Option (AV×St))(s1:St),aj c (.lenB .l) [tabs z ts] s1 K=K (.int .i64 (ts.length:Int)) s1:=λK s1=>by unfold tabs;simp
 have ta:=aeU (c:=c) z ts hi;have tl:=aeV (c:=c) ts hi;rw[hg]at tl;rw[<-hn]at L1;simp only[show((0:Nat):Int)=0 from rfl]at y3;rw[aa9];simp only[ai,aE,d0,dI,ln,MM,d1,eM,aT,va,aR,Es,Zf8,aX,ta,tl,L1,bM,Sd,fi2,KD,aN,x53,ak,Za2,Zb0,aD,lb,mk,lo,y3,au,ay,Lr,z2]
theorem beqI(n:Int):dO (.int .i64 n) (.int .i64 n)=true:=by simp[dO,nG,gq,cN,iy]
theorem al3(hc:Sem c){v:AV}{s s':St}(h:KG [v] s=some (.tuple [],s')):c 37 [v] s=some (.tuple [],s'):=by subst hc;exact Hf (O:=sY) (s:=KG) rfl h
theorem agk(hc:Sem c){v v':AV}{s s':St}(h:yc [v] s=some (v',s')):c 38 [v] s=some (v',s'):=by subst hc;exact Hf (O:=sY) (s:=yc) rfl h
theorem agl(t:aH)(first:Int)(r:Rl):(Dc t first r).length<=1:=by
 unfold Dc;repeat' split
 all_goals simp
theorem akb(t:aH)(first:Int)(rs:List Rl)(r:Rl):FO t first (rs++[r])=FO t first rs++Dc t first r:=by
 unfold FO;rw[List.flatMap_append,List.flatMap_singleton]
theorem Wv(t:aH)(first:Int):∀rs:List Rl,(FO t first rs).length<=rs.length
 |[]=>Za6 _
 |r::rs=>by
  have h1:=Wv t first rs
  have h2:=agl t first r
  unfold FO at h1 ⊢;rw[Zl6,Zc9,Zc2];omega
structure PI(s1 t:St)(v:AV)(w:List Int):Prop where
 gr:Grew s1 t
 out:I6 t v w
 new:∀b,bN v=some b->s1.next.toNat<=b.toNat
theorem PI.grow{s1 t t':St}{v:AV}{w:List Int}(h:PI s1 t v w)(g:Grew t t'):PI s1 t' v w:=⟨h.gr.trans g,h.out.mono λb x _ hx=>g.get hx,h.new⟩
theorem PI.push{s1 t:St}(w1:Wf s1){v:AV}{w:List Int}(h:PI s1 t v w)(x:Int)(hB:w.length+1<=1000000):
   ∃s5 v',(∀(K:AV->St->Option (AV×St)),aj c (.append 1 8) [v,.slice t.next 0 1 (some 1) 1] (ah t (.cells [.int .i64 x] 0)) K=K v' s5)/\PI s1 s5 v' (w++[x]):=by
 obtain⟨s5,v',a1,a2,a3,a4,a5,a6⟩:=ajZ (c:=c) h.gr.wf h.out x hB;refine⟨s5,v',a1,⟨a3,λp y hy=> ?_,Zb7 h.gr.next a4⟩,a2,λb hb=> ?_⟩
 .exact a5 p y (λe=>by have h1:=h.new _ e;have h2:=w1 _ _ hy;omega) (h.gr.get hy)
 . rcases a6 b hb with h1|h1
   .exact h.new b h1
   .exact Zb7 h.gr.next h1
structure Sl(s0 s:St)(v:AV)(l:List Int):Prop where
 gr:Grew s0 s
 own:(v= .af/\l=[])\/∃b zs,s0.next.toNat<=b.toNat/\v= .slice b 0 l.length none 1/\s.heap.get b=some (.cells (fO (l++zs)) 0)
theorem Sl.qs{s0 s:St}{v:AV}{l:List Int}(h:Sl s0 s v l):QS 1 s v (l.map dK):=by
 rcases h.own with⟨rfl,rfl⟩|⟨b,zs,_,rfl,hb⟩
 .exact QS.nil
 . refine .inr (.inl ⟨b,0,none,_,by rw[Zb9],hb,?_,?_,.inl rfl⟩)
   .rw[Zb9,Zb9,Zc9];omega
   .rw[adn,Zf4,Zb9,Zp0,fO,Ze2,Zp2 (by simp),Zg0 (by simp)]
theorem Sl.tidy{s s':St}{v:AV}{l:List Int}(hw:Wf s)(h:Sl s s' v l):∃cP,Go.Ai.tidy s (v,s')=(v,cP)/\Sl s cP v l:=by
 unfold Go.Ai.tidy;by_cases hp:Plain (v,s').1/\bf s (v,s').2
 . rw[Zb5 hp];refine⟨s,rfl,Grew.refl hw,?_⟩;rcases h.own with e|⟨b,zs,_,rfl,_⟩
   .exact .inl e
   .exact(Go.Ai.nN hp.1).elim
 .rw[Zb2 hp];exact⟨s',rfl,h⟩
theorem Sl.cK{s s1:St}{v:AV}{l:List Int}(hw:Wf s)(h:Sl (emptyAt s) s1 v l):Sl s (Go.Ai.cK s s1) v l:=by
 refine⟨Lu hw h.gr.wf h.gr.next,?_⟩;rcases h.own with e|⟨b,zs,h1,rfl,hb⟩
 .exact .inl e
 .exact .inr ⟨b,zs,h1,rfl,Xy hw h1 hb λx hx=>by obtain⟨y,_,rfl⟩:=Zd0.1 hx;exact cL.int _ _⟩
theorem agm{s:St}{v:AV}{w:List Int}(hw:Wf s)(h:I6 s v w)(hl:w.length<=1000000):
   ∃s' v',yc [v] s=some (v',s')/\((v'= .af/\Lib.compact w=[])\/∃b zs,bN v=some b/\v'= .slice b 0 (Lib.compact w).length none 1/\s'.heap.get b=some (.cells (fO (Lib.compact w++zs)) 0))/\Wf s'/\s'.next=s.next/\∀p,bN v≠some p->s'.heap.get p=s.heap.get p:=by
 have hcl:=Va w;rcases h with⟨rfl,rfl⟩|⟨b,cA,rfl,hb⟩
 .exact⟨s,.af,rfl,.inl ⟨rfl,rfl⟩,hw,rfl,λ_ _=>rfl⟩
 . have aW:=hw _ _ hb;have hr:=aaj hb hl;have hz:(Lib.compact w++List.replicate (w.length - (Lib.compact w).length) 0).length=w.length:=(by rw[Zc9,Zk4];omega);refine⟨bI s b (.cells (fO (Lib.compact w++List.replicate (w.length - (Lib.compact w).length) 0)) 0),.slice b 0 (Lib.compact w).length none 1,?_,.inr ⟨b,_,iE ..,rfl,cW _ _ _⟩,jI hw aW,rfl,λp hp=>aO (λe=>hp (by rw[iE,e]))⟩;rw[<-ado s b hz];cases w with
   |nil=>exact absurd rfl cA
   |cons a t=>
    simp only[yc,Zc2]at hr ⊢;rw[hr];rfl
section
variable{p:aP}{i:Nat}{t:aH}{s1:St}{q:Pos}
theorem amT (hc:Sem c)(hp:p.ew)(hv:(bJ p.ts).2=0)(ht:p.ts[i]? =some t)(hb:∀r∈p.rs,r.k=7->r.t=t.name->0<=r.n/\r.n<aY t)(w1:Wf s1)(hq:s1.heap.get q=some (.cells p.cells 0))(F:Nat):
  ∀ (m k f:Nat)(u:St)(v:AV),k+m=p.rs.length->m<f->PI s1 u v (FO t (ey p.ts (i:Int)) (p.rs.take k))->∃u' v',PI s1 u' v' (FO t (ey p.ts (i:Int)) p.rs)/\
    ∀k2:Q2,sZ c F k2 f [.int .i64 (i:Int),.ptr q 0,v,dm p.rz p.rs,.int .i64 (p.rs.length:Int),.int .i64 (k:Int)] u=k2 [v'] u':=by
 have fN:=(Za4.1 ht).1;have fA:p.ts[i]=t:=(Za4.1 ht).2;have hF:0<=ey p.ts (i:Int)/\ey p.ts (i:Int)<=100000:=by
  rw[ey];split
  .omega
  .have:=A4 (p.ts.take (i:Int).toNat);have hl:(p.ts.take (i:Int).toNat).length<=100:=(by rw[Ze0];have:=hp.ts;omega);omega
 have hh:=Ez (SE (KQ hv ht));have fC:=jJ t;obtain⟨first,Yg⟩:∃f,f=ey p.ts (i:Int):=⟨_,rfl⟩
 have fi:=V9 hc p.tz p.ts hp.ok (i:Int);rw[<-Yg]at hF fi ⊢;have afH:=hp.rs;intro m;induction m with
 |zero=>
  intro k f u v hk hf P;obtain⟨f,rfl⟩:∃g,f=g+1:=⟨f - 1,by omega⟩
  obtain rfl:k=p.rs.length:=by omega
  rw[Zh6]at P;refine⟨u,v,P,λk2=> ?_⟩;rw[kG];simp only[au,ay,aE,Zg1,Zf6,aX]
 |succ m ih=>
  intro k f u v hk hf P;obtain⟨f,rfl⟩:∃g,f=g+1:=⟨f - 1,by omega⟩
  have wN:k<p.rs.length:=by omega
  have aW:decide ((k:Int)<(p.rs.length:Int))=true:=Za1 (by omega);have wr:=λ(_:Unit)=>wI (k:=(k:Int)+1) (k+1) (by omega) (by omega)
  have et:p.rs.take (k+1)=p.rs.take k++[p.rs[k]]:=Zb8 wN;have ei:=akb t first (p.rs.take k) p.rs[k]
  rw[<-et]at ei;have il:(FO t first (p.rs.take k)).length<=100:=Zb7 (Wv _ _ _) (by rw[Ze0];omega);have rb:=hb p.rs[k] (Zc0 wN);have kW:=Db (c:=c) p.rz p.rs wN;have lC:=Fm (c:=c) p.rs wN;generalize p.rs[k]=r at*
  have g1:=Grew.ah P.gr.wf (.cells r.cells 0);have x9:=aF u (.cells r.cells 0);have st:=λ(K:AV->St->Option (AV×St))=>Ua (c:=c) r u K
  have P1:=P.grow g1;have D0:r.cells[0]? =some (.int .u8 r.k):=rfl;have D4:r.cells[4]? =some (.str r.t):=rfl;have D5:r.cells[5]? =some (.int .i64 r.n):=rfl;obtain⟨u1,hu1⟩:∃u1,u1=ah u (.cells r.cells 0):=⟨_,rfl⟩
  rw[<-hu1]at g1 x9 P1 st;have xq:=P1.gr.get hq;have fu:=fi u1 P1.gr.wf;have tf:∀{R:Type}(K:AV->Option R),gU (.idxA 7 none) [tabs p.tz p.ts,.int .i64 (i:Int)] K=K (.fp (p.ts.map aH.cells) i 0):=λK=>by
    unfold tabs;rw[ab9];simp[fN]
  have tn:((p.ts.map aH.cells)[i]?.bind λcs=>cs[0]?)=some (.str t.name):=by rw[Zc3,ht];rfl
  by_cases c7:r.k=7/\r.t=t.name
  . have e7:Dc t first r=[first+r.n]:=Zb5 c7
    (rw[e7]at ei;obtain⟨n1,n2⟩:=rb c7.1 c7.2;have w2:Unit->az .i64 (first+r.n)=first+r.n:=λ_=>wrap64 (by omega) (by omega));obtain⟨u2,v2,a1,P2⟩:=P1.push (c:=c) w1 (first+r.n) (by omega);obtain⟨u',v',z1,z2⟩:=ih (k+1) f u2 v2 (by omega) (by omega) (by rw[ei];exact P2);refine⟨u',v',z1,λk2=> ?_⟩;have c5:((cellsOf (u1.heap.get u.next)).bind λcs=>cs[5]?)=some (.int .i64 r.n):=(by rw[x9];rfl);have rdn:=λ(K:AV->Option (AV×St))=>pO (R:=AV×St) (p:=u.next) (o:=5) (h:=u1.heap) c5 (λv=>jA (.load none) [.ptr u.next 5] v (jU [] u1.heap)&&true) (by simp only[Zg8];exact jr c5 (beqI _)) K
    have nw:=λ(K:AV->AB->Option (AV×St))=>ak8 (z:=[.int .i64 0]) (x:= .int .i64 (first+r.n)) rfl rfl u1 K
    rw[<-z2 k2,kG];simp only[au,ay,aE,aW,bk,bO,kW,lC,bM,st,di,Za5,cu,x9,ak,Za2,D0,D4,D5,Zb0,Zb3,aD,j6,Za1 c7.1,bH,fQ,fh,xq,aP.c0,tf,dS,fH,tn,jk,Za1 c7.2,dc,aT,fu,aR,rdn,TQ,w2 (),nw,a1,bw,wr (),ai]
  . have no:r.k=7->r.t≠t.name:=λh1 h2=>c7 ⟨h1,h2⟩
    by_cases Vl:r.k=14/\(r.t=[]\/r.t=t.name)
    .   have e7:Dc t first r=[first+cG t]:=(Zb2 c7).trans (Zb5 Vl)
        (rw[e7]at ei;obtain⟨bh,u2,l,n,H1,H2,H3,H4,H5,H6⟩:=ahY hc p.tz p.ts hp.ok hv ht u1 P1.gr.wf;rw[<-Yg]at H6;have MB:0<n:=(by have:=(Za4.1 H6).1;omega);have ix:=λ(K:AV->St->Option (AV×St))(s:St)=>(Ar.of bh n (some n)).st c K 0 MB s);(simp only[show((0:Nat):Int)=0 from rfl]at ix;have H7:(fO l)[0]? =some (.int .i64 (first+cG t)):=(by rw[Zc3,H6];rfl);have P2:=P1.grow H2;obtain⟨u3,v3,a1,P3⟩:=P2.push (c:=c) w1 (first+cG t) (by omega);obtain⟨u',v',z1,z2⟩:=ih (k+1) f u3 v3 (by omega) (by omega) (by rw[ei];exact P3);refine⟨u',v',z1,λk2=> ?_⟩;have c5:r.k≠7:=(by omega);have rw1:=λ(K:AV->St->Option (AV×St))=>ai5 (c:=c) (z:=[.int .i64 0]) (x:= .int .i64 (first+cG t)) rfl rfl u2 K);by_cases ce:r.t=[]
        .rw[<-z2 k2,kG];simp only[au,ay,aE,aW,bk,aX,bO,kW,lC,bM,st,di,Za5,cu,x9,ak,Za2,D0,D4,D5,Zb0,Zb3,aD,j6,bH,fQ,nk,oh,om,fh,nu,oo,oq,xq,aP.c0,tf,dS,fH,tn,jk,dc,eN,bw,wr (),ai,Za3 c5,Za1 Vl.1,Za1 ce,aG,aN,aT,H1,aR,ix,H4,H7,rw1,a1]
        .have cn:r.t=t.name:=Vl.2.resolve_left ce;rw[<-z2 k2,kG];simp only[au,ay,aE,aW,bk,aX,bO,kW,lC,bM,st,di,Za5,cu,x9,ak,Za2,D0,D4,D5,Zb0,Zb3,aD,j6,bH,fQ,nk,oh,om,fh,nu,oo,oq,xq,aP.c0,tf,dS,fH,tn,jk,dc,eN,bw,wr (),ai,Za3 c5,Za1 Vl.1,Za3 ce,Za1 cn,aG,aN,aT,H1,aR,ix,H4,H7,rw1,a1]
    .   have e7:Dc t first r=[]:=(Zb2 c7).trans (Zb2 Vl)
        rw[e7,Zd4]at ei;obtain⟨u',v',z1,z2⟩:=ih (k+1) f u1 v (by omega) (by omega) (by rw[ei];exact P1);refine⟨u',v',z1,λk2=> ?_⟩;by_cases k7:r.k=7
        .have nn:=no k7;have n14:r.k≠14:=(by omega);rw[<-z2 k2,kG];simp only[au,ay,aE,aW,bk,aX,bO,kW,lC,bM,st,di,Za5,cu,x9,ak,Za2,D0,D4,D5,Zb0,Zb3,aD,j6,bH,fQ,nk,oh,om,fh,nu,oo,oq,xq,aP.c0,tf,dS,fH,tn,jk,dc,eN,bw,wr (),ai,Za1 k7,Za3 nn,Za3 n14]
        . by_cases k14:r.k=14
          . have ce:r.t≠[]:=λe=>Vl ⟨k14,.inl e⟩
            have cn:r.t≠t.name:=λe=>Vl ⟨k14,.inr e⟩
            rw[<-z2 k2,kG];simp only[au,ay,aE,aW,bk,aX,bO,kW,lC,bM,st,di,Za5,cu,x9,ak,Za2,D0,D4,D5,Zb0,Zb3,aD,j6,bH,fQ,nk,oh,om,fh,nu,oo,oq,xq,aP.c0,tf,dS,fH,tn,jk,dc,eN,bw,wr (),ai,Za3 k7,Za1 k14,Za3 ce,Za3 cn]
          .rw[<-z2 k2,kG];simp only[au,ay,aE,aW,bk,aX,bO,kW,lC,bM,st,di,Za5,cu,x9,ak,Za2,D0,D4,D5,Zb0,Zb3,aD,j6,bH,fQ,nk,oh,om,fh,nu,oo,oq,xq,aP.c0,tf,dS,fH,tn,jk,dc,eN,bw,wr (),ai,Za3 k7,Za3 k14]
theorem ahZ(hc:Sem c)(hp:p.ew)(vK:mI c p)(hr:∀r∈p.rs,r.Ok)(hk:(aU p).2=0)(ht:p.ts[i]? =some t)(s:St)(hw:Wf s):
  ∃v s',c 10 [.agg p.cells,.int .i64 (i:Int)] s=some (v,s')/\Sl s s' v (zK t (ey p.ts (i:Int)) p.rs (aY t).toNat):=by
 have gA:=Grew.ah hw (.cells p.cells 0);have x2:=aF s (.cells p.cells 0);have bx:∀(K:AV->St->Option (AV×St)),aj c .box [.agg p.cells] s K=K (.ptr s.next 0) (ah s (.cells p.cells 0)):=λK=>by rw[dw];rfl
 have ck:=mg hc p hp vK hr _ gA.wf;have fN:=(Za4.1 ht).1;have hv:=MP hk;have hb:∀r∈p.rs,r.k=7->r.t=t.name->0<=r.n/\r.n<aY t:=λr h1 h2 h3=>aeS hk hp hr ht h1 h2 h3
 have P0:PI (ah s (.cells p.cells 0)) (ah s (.cells p.cells 0)) .af (FO t (ey p.ts (i:Int)) (p.rs.take 0)):=⟨Grew.refl gA.wf,.inl ⟨rfl,rfl⟩,λb hb=>by cases hb⟩
 obtain⟨u,v,P,z⟩:=amT (c:=c) (q:=s.next) hc hp hv ht hb gA.wf x2 200 p.rs.length 0 200 _ .af (Za5 _) (by have:=hp.rs;omega) P0;simp only[show((0:Nat):Int)=0 from rfl]at z;have hl:(FO t (ey p.ts (i:Int)) p.rs).length<=1000000:=by have:=Wv t (ey p.ts (i:Int)) p.rs;have:=hp.rs;omega
 obtain⟨u2,a1,a2,a3,a4,a5⟩:=ajY P.gr.wf P.out hl;obtain⟨u3,v',b1,b3,b4,b5,b6⟩:=agm a3 a2 (by rw[Fo];exact hl);rw[alY hk hp hr ht]at b3;have G:Grew s u3:=⟨b4,λb x hx=>by
  have hn:bN v≠some b:=λe=>by have h1:=P.new _ e;have h2:=(gA.wf _ _ (gA.get hx));omega
  rw[b6 _ hn,a5 _ hn];exact P.gr.get (gA.get hx),by rw[b5,a4];exact Zb7 gA.next P.gr.next⟩
 have M:Sl s u3 v' (zK t (ey p.ts (i:Int)) p.rs (aY t).toNat):=by
  refine⟨G,?_⟩;rcases b3 with h|⟨b,zs,h1,h2,h3⟩
  .exact .inl h
  .exact .inr ⟨b,zs,Zb7 gA.next (P.new _ h1),h2,h3⟩
 obtain⟨s3,t1,t2⟩:=M.tidy hw;refine⟨v',s3,?_,t2⟩;have pV:cut p.cells 0 5=some p.cells:=bP rfl;have d0:decide ((aU p).2=0)=true:=Za1 hk;have d1:decide ((i:Int)<0)=false:=Za3 (by omega);have d2:decide ((p.ts.length:Int)<=(i:Int))=false:=Za3 (by omega);have ln:∀(K:AV->St->Option (AV×St))(s1:St),aj c (.lenB .l) [tabs p.tz p.ts] s1 K=K (.int .i64 (p.ts.length:Int)) s1:=λK s1=>by unfold tabs;simp
 have lr:∀(K:AV->St->Option (AV×St))(s1:St),aj c (.lenB .l) [dm p.rz p.rs] s1 K=K (.int .i64 (p.rs.length:Int)) s1:=λK s1=>ID ..
 rw[KW hc 200 (r:=(v',u3)),t1];rw[Qh];simp only[bx,ai,cY,x2,ak,Za2,pV,cT,aT,ck,aR,fq,Zb0,Zb3,aD,nM,d0,Zf8,dI,aE,d1,eM,aG,Za5,aN,aP.c0,aP.c4,ln,lr,MM,d2,aX,z,au,ay,al3 hc a1,agk hc b1]
theorem aao(hc:Sem c)(hp:p.ew)(vK:mI c p)(hr:∀r∈p.rs,r.Ok){x:Int}(hk:(aU p).2≠0\/x<0\/(p.ts.length:Int)<=x)(s:St)(hw:Wf s):c 10 [.agg p.cells,.int .i64 x] s=some (.af,s):=by
 have gA:=Grew.ah hw (.cells p.cells 0);have x2:=aF s (.cells p.cells 0);have bx:∀(K:AV->St->Option (AV×St)),aj c .box [.agg p.cells] s K=K (.ptr s.next 0) (ah s (.cells p.cells 0)):=λK=>by rw[dw];rfl
 have ck:=mg hc p hp vK hr _ gA.wf;have pV:cut p.cells 0 5=some p.cells:=bP rfl;have ln:∀(K:AV->St->Option (AV×St))(s1:St),aj c (.lenB .l) [tabs p.tz p.ts] s1 K=K (.int .i64 (p.ts.length:Int)) s1:=λK s1=>by unfold tabs;simp
 rw[KW hc 1 (r:=(.af,ah s (.cells p.cells 0))),aB Plain.af gA.keeps];rw[Qh];by_cases h0:(aU p).2=0
 . have d0:decide ((aU p).2=0)=true:=Za1 h0;by_cases h1:x<0
   .have d1:decide (x<0)=true:=Za1 h1;simp only[bx,ai,cY,x2,ak,Za2,pV,cT,aT,ck,aR,fq,Zb0,Zb3,aD,nM,d0,Zf8,dI,aE,d1,eM,fc,z8,bk]
   .have d1:decide (x<0)=false:=Za3 h1;have d2:decide ((p.ts.length:Int)<=x)=true:=Za1 (by omega);simp only[bx,ai,cY,x2,ak,Za2,pV,cT,aT,ck,aR,fq,Zb0,Zb3,aD,nM,d0,Zf8,dI,aE,d1,eM,aG,Za5,aN,aP.c0,ln,MM,d2,bk]
 .have d0:decide ((aU p).2=0)=false:=Za3 h0;simp only[bx,ai,cY,x2,ak,Za2,pV,cT,aT,ck,aR,fq,Zb0,Zb3,aD,nM,d0,Zi4,z8,fc,bk]
end
theorem ad9(hc:Sem c)(z:Bool)(ts:List aH)(hl:ts.length<=100){n:Nat}(hn:n<=ts.length)(F:Nat)(s:St)(hw:Wf s)(k2):∀(m k:Nat),n<=k+m->k<=n->
  fk c F k2 (m+1) [tabs z ts,.int .i64 (n:Int),.int .i64 (cm (ts.take k)),.int .i64 (k:Int)] s=k2 [.int .i64 (cm (ts.take n))] s:=by
 intro m;induction m with
 |zero=>
  intro k h1 h2;obtain rfl:k=n:=by omega
  rw[mE];simp
 |succ m ih=>
  intro k h1 h2;rw[mE];by_cases h:k<n
  . have hk:k<ts.length:=(by omega);have w:az .i64 ((k:Int)+1)=((k+1:Nat):Int):=wrap64 (by omega) (by omega);have hs:=uD hc ts[k] s hw;have e:cm (ts.take (k+1))=cm (ts.take k)+aY ts[k]:=by
        rw[Zb8 hk,Hl]
    have w2:az .i64 (cm (ts.take k)+aY ts[k])=cm (ts.take (k+1)):=by
        have b1:=A4 (ts.take k);have b2:=jJ ts[k];have b3:(ts.take k).length<=100:=(by simp;omega);rw[e];exact wrap64 (by omega) (by omega)
    rw[<-ih (k+1) (by omega) (by omega)];simp[tabs,h,hk,hs,w,w2]
  .obtain rfl:k=n:=(by omega);simp
theorem ah0(hc:Sem c)(z:Bool)(ts:List aH)(hl:ts.length<=100){n:Nat}(hn:n<=ts.length)(s:St)(hw:Wf s):c 49 [tabs z ts,.int .i64 (n:Int)] s=some (.int .i64 (cm (ts.take n)),s):=by
 rw[Ad hc 101 (r:=(.int .i64 (cm (ts.take n)),s)),aB (Plain.int _ _) (bf.refl s)];rw[CX];have L:∀k2,fk c 101 k2 101 [tabs z ts,.int .i64 (n:Int),.int .i64 0,.int .i64 0] s=k2 [.int .i64 (cm (ts.take n))] s:=λk2=>by have:=ad9 hc z ts hl hn 101 s hw k2 100 0 (by omega) (by omega);simpa [cm]using this
 simp[L]
theorem aap(hc:Sem c)(t:aH){a k:Nat}(ha:t.a=(a:Int))(ha2:a<=1000)(hb:0<t.b)(hk:k<=a)(s:St)(hw:Wf s):c 172 [.agg t.cells,.int .i64 (k:Int)] s=some (.agg (if k<a then [.int .i64 (k:Int),.int .i64 0]else [.int .i64 (a:Int),.int .i64 1]),s):=by
 have gA:=Grew.ah hw (.cells t.cells 0);have x2:=aF s (.cells t.cells 0);have bx:∀(K:AV->St->Option (AV×St)),aj c .box [.agg t.cells] s K=K (.ptr s.next 0) (ah s (.cells t.cells 0)):=λK=>by rw[dw];rfl
 obtain⟨sA,Fe⟩:∃sA,sA=ah s (.cells t.cells 0):=⟨_,rfl⟩
 rw[<-Fe]at gA x2 bx;have c2:t.cells[2]? =some (.int .i64 (a:Int)):=by rw[<-ha];rfl
 have c3:t.cells[3]? =some (.int .i64 t.b):=rfl;have P:∀(u w:Int),Plain (.agg [.int .i64 u,.int .i64 w]):=λu w=>Plain.agg (λv hv=>by simp at hv;rcases hv with rfl|rfl<;>exact Plain.int _ _)
 have bd:∀(u w:Int)(K:AV->St->Option (AV×St))(s1:St),aj c (.build [.int .i64 0,.int .i64 0] [(0,1),(1,1)]) [.int .i64 u,.int .i64 w] s1 K=K (.agg [.int .i64 u,.int .i64 w]) s1:=λu w K s1=>by rw[dP (l:=[.int .i64 u,.int .i64 w]) (h:=rfl)]
 have fin:∀(u w:Int),Grew s (ah sA (.cells [.int .i64 u,.int .i64 w] 0)):=λu w=>gA.trans (Grew.ah gA.wf _)
 have zZ:∀(u w:Int)(K:AV->St->Option (AV×St)),aj c (.store 2) [.ptr sA.next 0,.agg [.int .i64 u,.int .i64 w]] (ah sA (.cells [.int .i64 0,.int .i64 0] 0)) K=K .undef (ah sA (.cells [.int .i64 u,.int .i64 w] 0)):=λu w K=>cV c K sA 2 (.agg [.int .i64 u,.int .i64 w]) [.int .i64 0,.int .i64 0] rfl rfl rfl
 have x2':=(Grew.ah gA.wf (.cells [AV.int .i64 0,.int .i64 0] 0)).get x2;have cc:∀(u w:Int),cut [AV.int .i64 u,.int .i64 w] 0 2=some [.int .i64 u,.int .i64 w]:=λu w=>bP rfl
 by_cases h:k<a
 .rw[Zb5 h];have d:decide ((k:Int)<(a:Int))=true:=Za1 (by omega);rw[zm hc 1 (r:=(.agg [.int .i64 (k:Int),.int .i64 0],ah sA (.cells [.int .i64 (k:Int),.int .i64 0] 0))),aB (P _ _) (fin _ _).keeps];rw[BM];simp only[bx,bM,ai,aG,Za5,aN,x2',ak,Za2,c2,aD,aE,d,bk,bd,zZ,OG,aF,cc,cT]
 .obtain rfl:k=a:=(by omega);rw[Zb2 (by omega)];have d:decide ((k:Int)<(k:Int))=false:=Za3 (by omega);have d2:decide (0<t.b)=true:=Za1 hb;have w1:az .i64 ((k:Int) - (k:Int))=0:=(by rw[Int.sub_self];rfl);rw[zm hc 1 (r:=(.agg [.int .i64 (k:Int),.int .i64 1],ah sA (.cells [.int .i64 (k:Int),.int .i64 1] 0))),aB (P _ _) (fin _ _).keeps];rw[BM];simp only[bx,bM,ai,aG,Za5,aN,x2',ak,Za2,c2,c3,aD,aE,d,aX,mO,w1,bO,nK,d2,bk,nL,Zh8,bd,zZ,OG,aF,cc,cT]
theorem aeW(u w u' w':Int)(K:AV->Option (AV×St)):gU (.bin .eql (.struct [(0,.i),(1,.i)])) [.agg [.int .i64 u,.int .i64 w],.agg [.int .i64 u',.int .i64 w']] K=K (.bool (decide (u=u')&&decide (w=w'))):=dJ K λH n=>by
 by_cases h:u=u'<;>by_cases h2:w=w'<;>simp[aJ.run,jg,pE,Le,eqFields,nth,zG,cN,iy,h,h2]
theorem ah1(hc:Sem c)(t:aH){a:Nat}(ha:t.a=(a:Int))(ha2:a<=1000)(hb:0<t.b)(hz:(a:Int)<aY t){q2 q3:Pos}{s:St}(hw:Wf s)(x2:s.heap.get q2=some (.cells t.cells 0))(x3:s.heap.get q3=some (.cells [.int .i64 (a:Int),.int .i64 1] 0))(F:Nat)(k1 k2:Q2):
  ∀(m k f:Nat),k+m=a->m<f->kj c F k1 k2 f [.ptr q2 0,.ptr q3 0,.int .i64 (k:Int)] s=k1 [.int .i64 (a:Int)] s:=by
 have sz:=uD hc t s hw;have hc7:cut t.cells 0 7=some t.cells:=bP rfl;have r3:=λ(K:AV->Option (AV×St))=>ach K (m:=2) (p:=q3) (o:=0) (l:=[.int .i64 (a:Int),.int .i64 1]) (h:=s.heap) (h2:=s.heap) (by rw[x3];rfl) (by rw[x3];rfl) (by simp[dO,pF,nG,gq,cN,iy])
 intro m;induction m with
 |zero=>
  intro k f hk hf;obtain⟨f,rfl⟩:∃g,f=g+1:=⟨f - 1,by omega⟩
  obtain rfl:k=a:=by omega
  have sp:=aap hc t ha ha2 hb (Za6 k) s hw;rw[Zb2 (by omega)]at sp;have d:decide ((k:Int)<aY t)=true:=Za1 hz;have e:=aeW (k:Int) 1 (k:Int) 1;simp only[Zh8,Ze5]at e;rw[yy];simp only[au,ay,ai,cY,x2,ak,Za2,hc7,cT,aT,sz,aR,aE,d,bk,ES,bH,sp,Zg8,r3,e]
 |succ m ih=>
  intro k f hk hf;obtain⟨f,rfl⟩:∃g,f=g+1:=⟨f - 1,by omega⟩
  have hka:k<a:=by omega
  have sp:=aap hc t ha ha2 hb (show k<=a by omega) s hw;rw[Zb5 hka]at sp;have d:decide ((k:Int)<aY t)=true:=Za1 (by omega);have e:=aeW (k:Int) 0 (a:Int) 1;rw[show(decide ((k:Int)=(a:Int))&&decide ((0:Int)=1))=false by rw[Za3 (show ¬(0:Int)=1 by decide),Bool.and_false]]at e;have w:az .i64 ((k:Int)+1)=((k+1:Nat):Int):=wrap64 (by omega) (by omega);rw[<-ih (k+1) f (by omega) (by omega),yy];simp only[au,ay,ai,cY,x2,ak,Za2,hc7,cT,aT,sz,aR,aE,d,bk,ES,bH,sp,Zg8,r3,e,aX,bw,w]
theorem ah2(hc:Sem c)(t:aH){a:Nat}(ha:t.a=(a:Int))(ha2:a<=1000)(hb:0<t.b)(hz:(a:Int)<aY t)(s:St)(hw:Wf s):c 96 [.agg t.cells,.agg [.int .i64 (a:Int),.int .i64 1]] s=some (.int .i64 (a:Int),s):=by
 have gA:=Grew.ah hw (.cells t.cells 0);have x2:=aF s (.cells t.cells 0);have bx:∀(K:AV->St->Option (AV×St)),aj c .box [.agg t.cells] s K=K (.ptr s.next 0) (ah s (.cells t.cells 0)):=λK=>by rw[dw];rfl
 obtain⟨sA,Fe⟩:∃sA,sA=ah s (.cells t.cells 0):=⟨_,rfl⟩
 rw[<-Fe]at gA x2 bx;have gB:=Grew.ah gA.wf (.cells [.int .i64 (a:Int),.int .i64 1] 0);have x3:=aF sA (.cells [.int .i64 (a:Int),.int .i64 1] 0);have by':∀(K:AV->St->Option (AV×St)),aj c .box [.agg [.int .i64 (a:Int),.int .i64 1]] sA K=K (.ptr sA.next 0) (ah sA (.cells [.int .i64 (a:Int),.int .i64 1] 0)):=λK=>by rw[dw];rfl
 have L:=λk1 k2=>ah1 (c:=c) hc t ha ha2 hb hz gB.wf (gB.get x2) x3 (a+1) k1 k2 a 0 (a+1) (Za5 _) (by omega)
 simp only[show((0:Nat):Int)=0 from rfl]at L;rw[JX hc (a+1) (r:=(.int .i64 (a:Int),ah sA (.cells [.int .i64 (a:Int),.int .i64 1] 0))),aB (Plain.int _ _) (gA.trans gB).keeps];rw[Ny];simp only[bx,by',ai,L,au,ay]
theorem aba(hc:Sem c)(t:aH)(hz:aY t≠0)(s:St)(hw:Wf s):c 51 [.agg t.cells] s=some (.int .i64 (cG t),s):=by
 have gA:=Grew.ah hw (.cells t.cells 0);have x2:=aF s (.cells t.cells 0);have bx:∀(K:AV->St->Option (AV×St)),aj c .box [.agg t.cells] s K=K (.ptr s.next 0) (ah s (.cells t.cells 0)):=λK=>by rw[dw];rfl
 obtain⟨sA,Fe⟩:∃sA,sA=ah s (.cells t.cells 0):=⟨_,rfl⟩
 rw[<-Fe]at gA x2 bx;have fit:=X3 hz;have hh:=Ez hz;have Kt:=jJ t;have c1:t.cells[1]? =some (.int .u8 t.sh):=rfl;have c2:t.cells[2]? =some (.int .i64 t.a):=rfl;have c3:t.cells[3]? =some (.int .i64 t.b):=rfl;have hc7:cut t.cells 0 7=some t.cells:=bP rfl;have wq:az .i64 (t.a.tdiv 2)=t.a.tdiv 2:=by
   have:=fit.a;rw[Zh3 (by omega)];exact wrap64 (by omega) (by omega)
 have fa:∀u w:Int,cH [AV.int .i64 0,.int .i64 0] [(0,1),(1,1)] [.int .i64 u,.int .i64 w]=some [.int .i64 u,.int .i64 w]:=λ_ _=>rfl
 rw[Fp hc 1 (r:=(.int .i64 (cG t),sA)),aB (Plain.int _ _) gA.keeps];rw[Hy];have hS:t.sh=1\/t.sh=2\/t.sh=3\/t.sh=4:=by have:=fit.sh;omega
 rcases hS with h|h|h|h
 .have e:cG t=0:=(by simp[cG,h]);simp[bx,x2,c1,h,e,fB]
 . by_cases hb:0<t.b
   . have e:cG t=t.a:=(by simp[cG,h,hb]);obtain⟨a,ha⟩:∃a:Nat,t.a=(a:Int):=⟨t.a.toNat,by omega⟩
     have se:=ah2 hc t ha (by omega) hb (by omega) sA gA.wf;rw[e,ha];rw[ha]at c2;simp[bx,x2,c1,c2,c3,h,hb,hc7,fa,se,fB]
   .have e:cG t=t.a.tdiv 2:=(by simp[cG,h,hb]);simp[bx,x2,c1,c2,c3,h,hb,e,wq,fB]
 .have e:cG t=t.b+t.a.tdiv 2:=(by simp[cG,h]);have w:az .i64 (t.b+t.a.tdiv 2)=cG t:=(by rw[<-e];exact wrap64 (by omega) (by omega));simp[bx,x2,c1,c2,c3,h,wq,w,fB]
 .have e:cG t=t.a.tdiv 2:=(by simp[cG,h]);simp[bx,x2,c1,c2,h,e,wq,fB]
section
variable{p:aP}{i:Nat}{t:aH}{s1:St}{q:Pos}
theorem al4 (hc :Sem c)(hp:p.ew)(hv:(bJ p.ts).2=0)(ht:p.ts[i]? =some t)(hq:s1.heap.get q=some (.cells p.cells 0))(x5 x6:AV)(k:Nat)(F:Nat):
  ∀(m j f:Nat)(u:St)(b:Bool),j+m=p.rs.length->m<f->Grew s1 u->∃u',Grew u u'/\
   ∀k4:Q2,iz c F k4 f [.int .i64 (i:Int),.ptr q 0,x5,x6,.int .i64 (k:Int),.bool b,.int .i64 (j:Int)] u=k4 [.int .i64 (i:Int),.ptr q 0,x5,x6,.int .i64 (k:Int),.bool (b||(p.rs.drop j).any (lV t k))] u':=by
 have fN:=(Za4.1 ht).1;have fA:p.ts[i]=t:=(Za4.1 ht).2;have hz:=SE (KQ hv ht);have tf:∀{R:Type}(K:AV->Option R),gU (.idxA 7 none) [tabs p.tz p.ts,.int .i64 (i:Int)] K=K (.fp (p.ts.map aH.cells) i 0):=λK=>by
  unfold tabs;rw[ab9];simp[fN]
 have tn:((p.ts.map aH.cells)[i]?.bind λcs=>cs[0]?)=some (.str t.name):=by rw[Zc3,ht];rfl
 have afH:=hp.rs;intro m;induction m with
 |zero=>
  intro j f u b hj hf G;obtain⟨f,rfl⟩:∃g,f=g+1:=⟨f - 1,by omega⟩
  obtain rfl:j=p.rs.length:=by omega
  have x0:=G.get hq;refine⟨u,Grew.refl G.wf,λk4=> ?_⟩;rw[Zo4,List.any_nil,Zh0,yA];simp only[au,ay,ai,aG,Za5,aN,x0,ak,Za2,aP.c4,aD,j7,aE,Zg1,Zf6,aX]
 |succ m ih   =>
  intro j f u b hj hf G;obtain⟨f,rfl⟩:∃g,f=g+1:=⟨f - 1,by omega⟩
  have EW:j<p.rs.length:=by omega
  have aW:decide ((j:Int)<(p.rs.length:Int))=true:=Za1 (by omega);have kW:=Db (c:=c) p.rz p.rs EW;have lC:=Fm (c:=c) p.rs EW;rw[Zd2 EW];generalize p.rs[j]=r at*
  have g1:=Grew.ah G.wf (.cells r.cells 0);have x9:=aF u (.cells r.cells 0);have st:=λ(K:AV->St->Option (AV×St))=>Ua (c:=c) r u K
  have x0:=G.get hq;have G1:=G.trans g1;obtain⟨u1,hu1⟩:∃u1,u1=ah u (.cells r.cells 0):=⟨_,rfl⟩
  rw[<-hu1]at g1 x9 st G1;have xq:=G1.get hq;have hs:=aba hc t hz u1 G1.wf;have SN:∀(K:AV->Option (AV×St)),kB (.load (some 7)) [.fp (p.ts.map aH.cells) i 0] u1.heap (λ_=>true) K=K (.agg t.cells):=λK=>by rw[adK,Zc3,ht];have hc7:cut t.cells 0 7=some t.cells:=bP rfl;show Er (cut t.cells 0 7) _=_;rw[hc7];rfl
  have D0:r.cells[0]? =some (.int .u8 r.k):=rfl;have D4:r.cells[4]? =some (.str r.t):=rfl;have D5:r.cells[5]? =some (.int .i64 r.n):=rfl;have wr:az .i64 ((j:Int)+1)=((j+1:Nat):Int):=by rw[wrap64 (by omega) (by omega)];omega
  obtain⟨u',z1,z2⟩:=ih (j+1) f u1 (b||lV t k r) (by clear wr;omega) (by clear wr;omega) G1;refine⟨u',g1.trans z1,λk4=> ?_⟩;rw[Zo8, <-Bool.or_assoc, <-z2 k4,yA];have e714:r.k=7->decide (r.k=14)=false:=λh=>Za3 (by clear wr;omega)
  cases b with
  |true=>
   simp only[au,ay,ai,aG,Za5,aN,x0,ak,Za2,aP.c0,aP.c4,aD,j7,aE,aW,bk,kW,lC,bM,st,bH,di,cu,x9,xq,D0,D4,D5,fQ,nk,oh,om,fh,nu,oo,oq,gG,vz,xV,j6,jk,tf,dS,fH,tn,SN,dc,eN,aT,hs,aR,bw,wr,Bool.true_or]
  |false    =>
   by_cases c7:r.k=7
   .    have n14:=e714 c7;have d7:=Za1 c7;by_cases cn:r.t=t.name
        . have dn:=Za1 cn;by_cases ck:r.n=(k:Int)
          .have dk:=Za1 ck;have pb:lV t k r=true:=(by unfold lV;rw[d7,dn,dk];rfl);rw[pb];simp only[au,ay,ai,aG,Za5,aN,x0,ak,Za2,aP.c0,aP.c4,aD,j7,aE,aW,bk,kW,lC,bM,st,bH,di,cu,x9,xq,D0,D4,D5,fQ,nk,oh,om,fh,nu,oo,oq,gG,vz,xV,j6,jk,tf,dS,fH,tn,SN,dc,eN,aT,hs,aR,bw,wr,d7,dn,dk,Zr0]
          .have dk:=Za3 ck;have pb:lV t k r=false:=(by unfold lV;rw[d7,dn,dk,n14];rfl);rw[pb];simp only[au,ay,ai,aG,Za5,aN,x0,ak,Za2,aP.c0,aP.c4,aD,j7,aE,aW,bk,kW,lC,bM,st,bH,di,cu,x9,xq,D0,D4,D5,fQ,nk,oh,om,fh,nu,oo,oq,gG,vz,xV,j6,jk,tf,dS,fH,tn,SN,dc,eN,aT,hs,aR,bw,wr,d7,dn,dk,n14,Zh0]
        .have dn:=Za3 cn;have pb:lV t k r=false:=(by unfold lV;rw[d7,dn,n14];rfl);rw[pb];simp only[au,ay,ai,aG,Za5,aN,x0,ak,Za2,aP.c0,aP.c4,aD,j7,aE,aW,bk,kW,lC,bM,st,bH,di,cu,x9,xq,D0,D4,D5,fQ,nk,oh,om,fh,nu,oo,oq,gG,vz,xV,j6,jk,tf,dS,fH,tn,SN,dc,eN,aT,hs,aR,bw,wr,d7,dn,n14,Zh0]
   .    have d7 :=Za3 c7;by_cases Vl:r.k=14
        . have d14:=Za1 Vl;by_cases hk:cG t=(k:Int)
          . have dk:=Za1 hk;by_cases ce:r.t=[]
            .have de:=Za1 ce;have pb:lV t k r=true:=(by unfold lV;rw[d7,d14,de,dk];rfl);rw[pb];simp only[au,ay,ai,aG,Za5,aN,x0,ak,Za2,aP.c0,aP.c4,aD,j7,aE,aW,bk,kW,lC,bM,st,bH,di,cu,x9,xq,D0,D4,D5,fQ,nk,oh,om,fh,nu,oo,oq,gG,vz,xV,j6,jk,tf,dS,fH,tn,SN,dc,eN,aT,hs,aR,bw,wr,d7,d14,de,dk,Zr0]
            . have de:=Za3 ce;by_cases cn:r.t=t.name
              .have dn:=Za1 cn;have pb:lV t k r=true:=(by unfold lV;rw[d7,d14,de,dn,dk];rfl);rw[pb];simp only[au,ay,ai,aG,Za5,aN,x0,ak,Za2,aP.c0,aP.c4,aD,j7,aE,aW,bk,kW,lC,bM,st,bH,di,cu,x9,xq,D0,D4,D5,fQ,nk,oh,om,fh,nu,oo,oq,gG,vz,xV,j6,jk,tf,dS,fH,tn,SN,dc,eN,aT,hs,aR,bw,wr,d7,d14,de,dn,dk,Zr0]
              .have dn:=Za3 cn;have pb:lV t k r=false:=(by unfold lV;rw[d7,d14,de,dn];rfl);rw[pb];simp only[au,ay,ai,aG,Za5,aN,x0,ak,Za2,aP.c0,aP.c4,aD,j7,aE,aW,bk,kW,lC,bM,st,bH,di,cu,x9,xq,D0,D4,D5,fQ,nk,oh,om,fh,nu,oo,oq,gG,vz,xV,j6,jk,tf,dS,fH,tn,SN,dc,eN,aT,hs,aR,bw,wr,d7,d14,de,dn,Zh0]
          . have dk:=Za3 hk;by_cases ce:r.t=[]
            .have de:=Za1 ce;have pb:lV t k r=false:=(by unfold lV;rw[d7,d14,de,dk];rfl);rw[pb];simp only[au,ay,ai,aG,Za5,aN,x0,ak,Za2,aP.c0,aP.c4,aD,j7,aE,aW,bk,kW,lC,bM,st,bH,di,cu,x9,xq,D0,D4,D5,fQ,nk,oh,om,fh,nu,oo,oq,gG,vz,xV,j6,jk,tf,dS,fH,tn,SN,dc,eN,aT,hs,aR,bw,wr,d7,d14,de,dk,Zh0]
            . have de:=Za3 ce;by_cases cn:r.t=t.name
              .have dn:=Za1 cn;have pb:lV t k r=false:=(by unfold lV;rw[d7,d14,de,dn,dk];rfl);rw[pb];simp only[au,ay,ai,aG,Za5,aN,x0,ak,Za2,aP.c0,aP.c4,aD,j7,aE,aW,bk,kW,lC,bM,st,bH,di,cu,x9,xq,D0,D4,D5,fQ,nk,oh,om,fh,nu,oo,oq,gG,vz,xV,j6,jk,tf,dS,fH,tn,SN,dc,eN,aT,hs,aR,bw,wr,d7,d14,de,dn,dk,Zh0]
              .have dn:=Za3 cn;have pb:lV t k r=false:=(by unfold lV;rw[d7,d14,de,dn];rfl);rw[pb];simp only[au,ay,ai,aG,Za5,aN,x0,ak,Za2,aP.c0,aP.c4,aD,j7,aE,aW,bk,kW,lC,bM,st,bH,di,cu,x9,xq,D0,D4,D5,fQ,nk,oh,om,fh,nu,oo,oq,gG,vz,xV,j6,jk,tf,dS,fH,tn,SN,dc,eN,aT,hs,aR,bw,wr,d7,d14,de,dn,Zh0]
        .have d14:=Za3 Vl;have pb:lV t k r=false:=(by unfold lV;rw[d7,d14];rfl);rw[pb];simp only[au,ay,ai,aG,Za5,aN,x0,ak,Za2,aP.c0,aP.c4,aD,j7,aE,aW,bk,kW,lC,bM,st,bH,di,cu,x9,xq,D0,D4,D5,fQ,nk,oh,om,fh,nu,oo,oq,gG,vz,xV,j6,jk,tf,dS,fH,tn,SN,dc,eN,aT,hs,aR,bw,wr,d7,d14,Zh0]
theorem ah3(t:aH)(first:Int)(rs:List Rl)(k:Nat):zK t first rs (k+1)=zK t first rs k++if rs.any (lV t k)=true then [first+(k:Int)]else []:=by
 unfold zK;rw[Zp5,List.filter_append,Ze2];congr 1;by_cases h:rs.any (lV t k)=true
 .rw[Zb5 h];simp[h]
 .rw[Zb2 h];simp[h]
theorem acm(t:aH)(first:Int)(rs:List Rl)(k:Nat):(zK t first rs k).length<=k:=by
 unfold zK;rw[Zb9];exact Zb7 (Zo1 _ _) (by simp)
theorem al5(hc:Sem c)(hp:p.ew)(hv:(bJ p.ts).2=0)(ht:p.ts[i]? =some t)(hq:s1.heap.get q=some (.cells p.cells 0)){first:Int}(hF:0<=first/\first<=100000){n:Nat}(hn:aY t=(n:Int))(Sn:n<=1000)(F:Nat)(hFF:p.rs.length<F):
  ∀(m k f:Nat)(u:St)(v:AV),k+m=n->m<f->Mk 1 s1 u v ((zK t first p.rs k).map dK)->∃u' v',Mk 1 s1 u' v' ((zK t first p.rs n).map dK)/\
   ∀k2:Q2,kq c F k2 f [.int .i64 (i:Int),.ptr q 0,v,.int .i64 first,.int .i64 (k:Int)] u=k2 [v'] u':=by
 have fN:=(Za4.1 ht).1;have fA:p.ts[i]=t:=(Za4.1 ht).2;have ta:=aeU (c:=c) p.tz p.ts fN;have tl:=aeV (c:=c) p.ts fN;rw[fA]at tl;intro m;induction m with
 |zero=>
  intro k f u v hk hf M;obtain⟨f,rfl⟩:∃g,f=g+1:=⟨f - 1,by omega⟩
  obtain rfl:k=n:=by omega
  have xq:=M.aA.get hq;have sz:=uD hc t u M.aA.wf;rw[hn]at sz;refine⟨u,v,M,λk2=> ?_⟩;rw[pX];simp only[au,ay,ai,aG,Za5,aN,xq,ak,Za2,aP.c0,aD,ta,tl,aT,sz,aR,aE,Zg1,Zf6,aX]
 |succ m ih=>
  intro k f u v hk hf M;obtain⟨f,rfl⟩:∃g,f=g+1:=⟨f - 1,by omega⟩
  have xq:=M.aA.get hq;have sz:=uD hc t u M.aA.wf;rw[hn]at sz;have aW:decide ((k:Int)<(n:Int))=true:=Za1 (by omega);obtain⟨u1,g1,L⟩:=al4 (c:=c) hc hp hv ht hq v (.int .i64 first) k F p.rs.length 0 F u false (Za5 _) hFF M.aA;simp only[show((0:Nat):Int)=0 from rfl,Zf4,Zl1]at L;have M1:=M.grow g1;have es:=ah3 t first p.rs k
  have il:=acm t first p.rs k
  have wr:Unit->az .i64 ((k:Int)+1)=((k+1:Nat):Int):=λ_=>by rw[wrap64 (by omega) (by omega)];omega
  have w2:Unit->az .i64 (first+(k:Int))=first+(k:Int):=λ_=>wrap64 (by omega) (by omega)
  cases hb:p.rs.any (lV t k)with
  |true=>
   rw[hb]at L es;rw[Zb5 rfl]at es;obtain⟨t5,v5,a1,M5,_,_⟩:=M1.push (R:=AV×St) (c:=c) (bytes:=8) (z:=[.int .i64 0]) (x:= .int .i64 (first+(k:Int))) rfl rfl rfl (by omega) (by rw[Zb9];omega) (by rw[Zb9];omega);obtain⟨t',v',z1,z2⟩:=ih (k+1) f t5 v5 (by omega) (by omega) (by rw[es,Ze2];exact M5);refine⟨t',v',z1,λk2=> ?_⟩;rw[<-z2 k2,pX];simp only[au,ay,ai,aG,Za5,aN,xq,ak,Za2,aP.c0,aD,ta,tl,aT,sz,aR,aE,aW,bk,bO,L,bw,w2 (),a1,wr ()]
  |false=>
   rw[hb]at L es;rw[Zb2 (by decide),Zd4]at es;obtain⟨t',v',z1,z2⟩:=ih (k+1) f u1 v (by omega) (by omega) (by rw[es];exact M1);refine⟨t',v',z1,λk2=> ?_⟩;rw[<-z2 k2,pX];simp only[au,ay,ai,aG,Za5,aN,xq,ak,Za2,aP.c0,aD,ta,tl,aT,sz,aR,aE,aW,bk,aX,bO,L,bw,wr ()]
theorem ago(hc:Sem c)(hp:p.ew)(hv:(bJ p.ts).2=0)(ht:p.ts[i]? =some t)(s:St)(hw:Wf s):
  ∃v s',c 18 [.agg p.cells,.int .i64 (i:Int)] s=some (v,s')/\Mk 1 s s' v ((zK t (ey p.ts (i:Int)) p.rs (aY t).toNat).map dK):=by
 have gA:=Grew.ah hw (.cells p.cells 0);have x2:=aF s (.cells p.cells 0);have bx:∀(K:AV->St->Option (AV×St)),aj c .box [.agg p.cells] s K=K (.ptr s.next 0) (ah s (.cells p.cells 0)):=λK=>by rw[dw];rfl
 have fN:=(Za4.1 ht).1;have Gf:=hp.ts;have ZG:=hp.rs;have hF:ey p.ts (i:Int)=cm (p.ts.take i):=by
  rw[ey,Zb2 (by omega),Zk9]
 have fi:=ah0 hc p.tz p.ts Gf (Zl9 fN) _ gA.wf;rw[<-hF]at fi;have hb:0<=ey p.ts (i:Int)/\ey p.ts (i:Int)<=100000:=by
  have h1:=A4 (p.ts.take i);have h2:(p.ts.take i).length<=100:=by rw[Ze0];omega
  omega
 have fC:=jJ t;obtain⟨n,hn⟩:∃n:Nat,aY t=(n:Int):=⟨(aY t).toNat,by omega⟩
 obtain⟨u,v,M,z⟩:=al5 (c:=c) (q:=s.next) hc hp hv ht x2 hb hn (by omega) 2000 (by omega) n 0 2000 _ .af (Za5 _) (by omega) (Mk.start gA.wf (Grew.refl gA.wf));simp only[show((0:Nat):Int)=0 from rfl]at z;rw[show(aY t).toNat=n by omega];obtain⟨s3,t1,t2⟩:=(M.back hw gA).tidy;refine⟨v,s3,?_,t2⟩;rw[JY hc 2000 (r:=(v,u)),t1];rw[Nz];simp only[bx,ai,aG,Za5,aN,x2,ak,Za2,aP.c0,aD,aT,fi,aR,z,au,ay]
end
end
noncomputable section
open Go Go.Ai Go.Proofs
def iF(f:FuncId):List AV->St->Option (AV×St):=ON (run sY gg) f 4
def Ud:eE:=uC [(266,Eo),(5,TV),(4,iF 4),(6,iF 6),
 (7,iF 7),(8,iF 8),(9,iF 9),(10,iF 10),
 (11,iF 11),(12,iF 12),(13,iF 13),(14,iF 14),
 (15,iF 15),(16,iF 16),(17,iF 17),(18,iF 18)]
def jq(c:aq):Prop:=c=run Ud gg
theorem jq.oL{c:aq}(hc:jq c)(F:Nat){f:FuncId}{args:List AV}{st:St}{r:AV×St}(Ls:Un->List Q2->Nat->Q2)(s:Sh)(n:Nat)(hk:(DW (Ud f)&& !DW (gg.get (key f))&&Nat.beq (gC (gA f).code s).length n)=true)
  (hL:∀i,i<n->CI c F (zJ Ls (gA f) s) (jR (gA f) s i).1 (jR (gA f) s i).2) {k:O2} (hd:Lp c F (zJ Ls (gA f) s) (gA f) s args st=k) (h:k=some r):c f args st=some (tidy st r):=by
 subst hc;exact YQ Ls s n hk hL hd h
theorem jq.at{c:aq}(hc:jq c){f:FuncId}{s:List AV->St->Option (AV×St)}{args:List AV}{st:St}{r:AV×St}(ho:Ud f=some s)(h:s args st=some r):c f args st=some r:=by subst hc;exact Hf ho h
theorem ams{p:aP}(h:(aU p).2=0)(hp:p.ew):p.Real:=by
 have b:∀s:List Nat,eX s=true->∀x∈s,x<256:=λs h x hx=>by unfold eX at h;simp only[Zb6,Zj3,Zd1]at h;have:=h.2 x hx;omega
 have b2:∀s:List Nat,mU s=true->∀x∈s,x<256:=λs h x hx=>by
   unfold mU at h;simp only[Zg5]at h;rcases h with h|h
   .rw[Zi1 h]at hx;cases hx
   .exact b s h x hx
 have Gf:=hp.ts;have hgs:=hp.gs;refine⟨by omega,λt ht=> ?_,by omega,λg hg=> ?_,?_,?_,?_⟩
 . obtain⟨i,hi,rfl⟩:=Zf0.1 ht;have e:=afL h (Za0 hi);refine⟨b _ ?_,?_⟩
   . unfold mP at e;by_cases x:eX p.ts[i].name=true
     .exact x
     .rw[Zb5 (by simpa using x)]at e;cases e
   .have:=akD e;have:=jJ p.ts[i];show p.ts[i].cD.length<=1048576;omega
 . have e:=abl h hgs hg;have t4:=v_tg h hgs hg;unfold fe at e;by_cases x:(eX g.name&&mU g.oQ&&mU g.jW&&mU g.nv)=true
   .simp only[Zb6]at x;exact⟨b _ x.1.1.1,b2 _ x.1.1.2,b2 _ x.1.2,b2 _ x.2,by show g.tg.length<=1048576;omega⟩
   .rw[Zb5 (by simpa using x)]at e;cases e
 .show p.ys.length<=1048576;have:=hp.ys;omega
 .show p.cs.length<=1048576;have:=hp.cs;omega
 .show p.rs.length<=1048576;have:=hp.rs;omega
theorem anp{p:aP}(h:CP p 16=true)(cR:∀t∈p.ts,t.Ok):p.ew:=by
 unfold CP at h;simp only[Zb6,Zd1]at h;exact⟨by omega,by omega,by omega,by omega,by omega,cR⟩
section
variable{c:aq}{p:aP}{s:St}
theorem YR(hc:jq c)(p:aP)(m:Nat)(s:St):c 4 [.agg p.cells,.int .i64 (m:Int)] s=some (.bool (CP p m),s):=
 hc.at (s:=iF 4) rfl (jB (by
  rw[Zb1,Zb1,Zd5,nO];exact amD rfl p m (emptyAt s) (dG s)) (cL.bool _))
theorem Sc(hc:jq c)(s:St):c 5 [] s=some (.bool true,s):=hc.at (s:=TV) rfl rfl
theorem aco(hc:jq c)(hp:p.ew)(hr:∀r∈p.rs,r.Ok)(s:St):c 6 [.agg p.cells] s=some (.bool (decide ((aU p).2=0)),s):=
 hc.at (s:=iF 6) rfl (jB (by
  rw[Zb1,Zd5,nO];exact alZ rfl p hp (pq rfl hp) hr (emptyAt s) (dG s)) (cL.bool _))
theorem ahc(hc:jq c)(hp:p.ew)(hr:∀r∈p.rs,r.Ok){x:Int}(hk:(aU p).2≠0\/x<0\/(p.rs.length:Int)<=x)(s:St):c 7 [.agg p.cells,.int .i64 x] s=some (.af,s):=
 hc.at (s:=iF 7) rfl (jB (by
  rw[Zb1,Zb1,Zd5,nO];exact ads rfl hp (pq rfl hp) hr hk (emptyAt s) (dG s)) cL.af)
theorem afK(hc:jq c)(hp:p.ew)(hr:∀r∈p.rs,r.Ok){x:Int}(hk:(aU p).2≠0\/x<0\/(p.ts.length:Int)<=x)(s:St):c 10 [.agg p.cells,.int .i64 x] s=some (.af,s):=
 hc.at (s:=iF 10) rfl (jB (by
  rw[Zb1,Zb1,Zd5,nO];exact aao rfl hp (pq rfl hp) hr hk (emptyAt s) (dG s)) cL.af)
theorem aja(hc:jq c)(hp:p.ew)(hr:∀r∈p.rs,r.Ok)(hk:(aU p).2≠0)(s:St):c 8 [.agg p.cells] s=some (.af,s):=
 hc.at (s:=iF 8) rfl (jB (by
  rw[Zb1,Zd5,nO];exact alU rfl hp (pq rfl hp) hr hk (emptyAt s) (dG s)) cL.af)
theorem adO(hc:jq c)(hp:p.ew)(hr:∀r∈p.rs,r.Ok)(hk:(aU p).2≠0)(s:St):c 9 [.agg p.cells] s=some (.af,s):=
 hc.at (s:=iF 9) rfl (jB (by
  rw[Zb1,Zd5,nO];exact agj rfl hp (pq rfl hp) hr hk (emptyAt s) (dG s)) cL.af)
theorem ah4:cL (.agg [.af,.af,.af,.af,.af]):=cL.agg λv hv=>by simp at hv;subst hv;exact cL.af
theorem ajb(hc:jq c)(hp:p.ew)(hr:∀r∈p.rs,r.Ok)(hk:(aU p).2≠0)(V:AV)(s:St):c 12 [.agg p.cells,V] s=some (.agg [.af,.af,.af,.af,.af],s):=
 hc.at (s:=iF 12) rfl (jB (by
  rw[Zb1,Zb1,Zd5,nO];exact alV rfl hp (pq rfl hp) hr hk _ (emptyAt s) (dG s)) ah4)
def Ww:aP:=⟨true,[],true,[],true,[],true,[],true,[]⟩
theorem ajc(hc:jq c)(s:St):c 11 [.agg [.af,.af,.af,.af,.af],.agg [.af,.af,.af,.af,.af]] s=some (.bool true,s):=
 hc.at (s:=iF 11) rfl (jB (by
  have e:(AV.agg [.af,.af,.af,.af,.af])= .agg Ww.cells:=rfl;rw[Zb1,Zb1,Zd5,e,nO];exact EA rfl Ww Ww ⟨rfl,λi t t' h=>by simp[Ww]at h,rfl,λi t t' h=>by simp[Ww]at h,rfl,rfl,rfl⟩ ⟨by decide,λt h=>by simp[Ww]at h,by decide,λt h=>by simp[Ww]at h,by decide,by decide,by decide⟩ (emptyAt s) (dG s)) (cL.bool _))
theorem aje(hc:jq c)(p:aP)(hp:p.Real)(s:St)(hw:Wf s):∃Vs s',c 13 [.agg p.cells] s=some (.agg Vs,s')/\PS s s' Vs p:=by obtain⟨Vs,s1,e,P⟩:=Nr (c:=run sY gg) rfl p hp (emptyAt s) (dG s);refine⟨Vs,cK s s1,hc.at (s:=iF 13) rfl (o7 ?_ (cL.agg P.bare) P.aA.next),PS.cK hw P⟩;rw[Zb1,Zd5,nO];exact e
theorem acp(hc:jq c)(p:aP)(hl:p.rs.length<=100)(h:Bool)(s:St)(hw:Wf s):∃v s',c 15 [.agg p.cells,.bool h] s=some (v,s')/\Mk 1 s s' v ((pP (yb h) p.rs 0).map dK):=by obtain⟨v,s1,e,M⟩:=al1 (c:=run sY gg) rfl p hl h (emptyAt s) (dG s);refine⟨v,cK s s1,hc.at (s:=iF 15) rfl (o7 ?_ M.own.bare M.aA.next),M.cK hw (nE uk _)⟩;rw[Zb1,Zb1,Zd5,nO];exact e
theorem aaq(s:St)(d:Nat)(z:Bool)(l:List Int):dM s d (ints z l)=ints z l:=by unfold ints;exact ahL ..
theorem ahd(hc:jq c)(p:aP)(hl:p.rs.length<=100)(hR:p.Real)(z:Bool){l:List Int}(Nn:l.length<=1000000)(s:St)(hw:Wf s):∃Vs s',c 16 [.agg p.cells,ints z l] s=some (.agg Vs,s')/\PS s s' Vs (p.Hx true (oR l p.rs 0)):=by obtain⟨Vs,s1,e,P⟩:=aj6 (c:=run sY gg) rfl p hl hR z Nn (emptyAt s) (dG s);refine⟨Vs,cK s s1,hc.at (s:=iF 16) rfl (o7 ?_ (cL.agg P.bare) P.aA.next),PS.cK hw P⟩;rw[Zb1,Zb1,Zd5,nO,aaq];exact e
theorem afI(hc:jq c)(p:aP)(hp:p.ew){i:Nat}{r:Rl}(hi:p.rs[i]? =some r){m:Nat}(hm:r.k=(m:Int))(h1:1<=m)(h2:m<=18)(s:St)(hw:Wf s):∃v s',c 17 [.agg p.cells,.int .i64 (i:Int)] s=some (v,s')/\Mk 1 s s' v ((qR (KA p r) p.gs 0).map dK):=by obtain⟨v,s1,e,M⟩:=ahV (c:=run sY gg) rfl p hp hi hm h1 h2 (emptyAt s) (dG s);refine⟨v,cK s s1,hc.at (s:=iF 17) rfl (o7 ?_ M.own.bare M.aA.next),M.cK hw (nE uk _)⟩;rw[Zb1,Zb1,Zd5,nO];exact e
theorem adN(hc:jq c)(p:aP)(hp:p.ew)(hv:(bJ p.ts).2=0){i:Nat}{t:aH}(ht:p.ts[i]? =some t)(s:St)(hw:Wf s):∃v s',c 18 [.agg p.cells,.int .i64 (i:Int)] s=some (v,s')/\Mk 1 s s' v ((zK t (ey p.ts (i:Int)) p.rs (aY t).toNat).map dK):=by obtain⟨v,s1,e,M⟩:=ago (c:=run sY gg) rfl hp hv ht (emptyAt s) (dG s);refine⟨v,cK s s1,hc.at (s:=iF 18) rfl (o7 ?_ M.own.bare M.aA.next),M.cK hw (nE uk _)⟩;rw[Zb1,Zb1,Zd5,nO];exact e
end
section
variable{c:aq}{s0 s1 s:St}{Vs Us:List AV}{p q:aP}
theorem ajg(hc:jq c)(h:PS s0 s Vs p)(hp:p.ew)(hr:∀r∈p.rs,r.Ok)(hk:(aU p).2=0):∃v s',c 8 [.agg Vs] s=some (v,s')/\Mk 1 s s' v ((pP (yb true) p.rs 0).map dK):=by obtain⟨p',e,S⟩:=h.dM 1;obtain⟨v,s1,e1,M⟩:=alR (c:=run sY gg) rfl p' (S.KS hp) (pq rfl (S.KS hp)) (by rw[S.rs];exact hr) (by rw[S.check];exact hk) (emptyAt s) (dG s);rw[S.rs]at M;refine⟨v,cK s s1,hc.at (s:=iF 8) rfl (o7 ?_ M.own.bare M.aA.next),M.cK h.aA.wf (nE uk _)⟩;rw[Zb1,Zd5,e];exact e1
theorem adP(hc:jq c)(h:PS s0 s Vs p)(hp:p.ew)(hr:∀r∈p.rs,r.Ok)(hk:(aU p).2=0):∃v s',c 9 [.agg Vs] s=some (v,s')/\Mk 1 s s' v ((pP (yb false) p.rs 0).map dK):=by obtain⟨p',e,S⟩:=h.dM 1;obtain⟨v,s1,e1,M⟩:=agi (c:=run sY gg) rfl p' (S.KS hp) (pq rfl (S.KS hp)) (by rw[S.rs];exact hr) (by rw[S.check];exact hk) (emptyAt s) (dG s);rw[S.rs]at M;refine⟨v,cK s s1,hc.at (s:=iF 9) rfl (o7 ?_ M.own.bare M.aA.next),M.cK h.aA.wf (nE uk _)⟩;rw[Zb1,Zd5,e];exact e1
theorem ajf(hc:jq c)(h:PS s0 s Vs p)(hp:p.ew)(hR:p.Real)(hr:∀r∈p.rs,r.Ok)(hk:(aU p).2=0)(z:Bool){l:List Int}(hl:l.length<cC):∃Us s' p',c 12 [.agg Vs,ints z l] s=some (.agg Us,s')/\PS s s' Us (p'.Hx true (oR l p.rs 0))/\p.dA p':=by obtain⟨p',e,S⟩:=h.dM 1;obtain⟨Us,s1,e1,P⟩:=alT (c:=run sY gg) rfl p' (S.KS hp) (pq rfl (S.KS hp)) (S.real hR) (by rw[S.rs];exact hr) (by rw[S.check];exact hk) z hl (emptyAt s) (dG s);rw[S.rs]at P;refine⟨Us,cK s s1,p',hc.at (s:=iF 12) rfl (o7 ?_ (cL.agg P.bare) P.aA.next),PS.cK h.aA.wf P,S⟩;rw[Zb1,Zb1,Zd5,e,aaq];exact e1
theorem aha(hc:jq c)(h:PS s0 s Vs p)(hp:p.ew)(hr:∀r∈p.rs,r.Ok)(hk:(aU p).2=0){i:Nat}{r:Rl}(hi:p.rs[i]? =some r){m:Nat}(hm:r.k=(m:Int))(h1:1<=m)(h2:m<=18):
  ∃v s',c 7 [.agg Vs,.int .i64 (i:Int)] s=some (v,s')/\Mk 1 s s' v ((qR (ya p r) p.gs 0).map dK):=by
 obtain⟨p',e,S⟩:=h.dM 1;obtain⟨v,s1,e1,M⟩:=aj1 (c:=run sY gg) rfl p' (S.KS hp) (pq rfl (S.KS hp)) (by rw[S.rs];exact hr) (by rw[S.check];exact hk) (i:=i) (r:=r) (by rw[S.rs];exact hi) hm h1 h2 (emptyAt s) (dG s);rw[alQ S]at M;refine⟨v,cK s s1,hc.at (s:=iF 7) rfl (o7 ?_ M.own.bare M.aA.next),M.cK h.aA.wf (nE uk _)⟩;rw[Zb1,Zb1,Zd5,e];exact e1
theorem XI(hc:jq c)(h:PS s0 s Vs p)(hp:p.ew)(hr:∀r∈p.rs,r.Ok){x:Int}(hk:x<0\/(p.rs.length:Int)<=x):c 7 [.agg Vs,.int .i64 x] s=some (.af,s):=by
 obtain⟨p',e,S⟩:=h.dM 1;refine hc.at (s:=iF 7) rfl (jB ?_ cL.af);rw[Zb1,Zb1,Zd5,e];exact ads rfl (S.KS hp) (pq rfl (S.KS hp)) (by rw[S.rs];exact hr) (.inr (by rw[S.rs];exact hk)) (emptyAt s) (dG s)
theorem U9(hc:jq c)(h:PS s0 s Vs p)(hp:p.ew)(hr:∀r∈p.rs,r.Ok){x:Int}(hk:x<0\/(p.ts.length:Int)<=x):c 10 [.agg Vs,.int .i64 x] s=some (.af,s):=by
 obtain⟨p',e,S⟩:=h.dM 1;refine hc.at (s:=iF 10) rfl (jB ?_ cL.af);rw[Zb1,Zb1,Zd5,e];exact aao rfl (S.KS hp) (pq rfl (S.KS hp)) (by rw[S.rs];exact hr) (.inr (by rw[S.tl];exact hk)) (emptyAt s) (dG s)
theorem al6(S:p.dA q):q.ts.map aY=p.ts.map aY:=by
 refine Zj4 λi=> ?_
 rw[Zc3,Zc3];by_cases h:i<p.ts.length
 .have h':i<q.ts.length:=(by rw[S.tl];exact h);obtain⟨z,e⟩:=S.ts i _ _ (Za0 h) (Za0 h');rw[Za0 h,Za0 h',e];rfl
 .have:=S.tl;rw[Zc6 (by omega),Zc6 (by omega)]
theorem afJ(hc:jq c)(h:PS s0 s Vs p)(hp:p.ew)(hr:∀r∈p.rs,r.Ok)(hk:(aU p).2=0){i:Nat}{t:aH}(ht:p.ts[i]? =some t):
  ∃v s',c 10 [.agg Vs,.int .i64 (i:Int)] s=some (v,s')/\Sl s s' v (zK t (ey p.ts (i:Int)) p.rs (aY t).toNat):=by
 obtain⟨p',e,S⟩:=h.dM 1;have hi:=(Za4.1 ht).1;have Ge:i<p'.ts.length:=by rw[S.tl];exact hi
 have IF:=Za0 Ge;have qM:(aU p').2=0:=by rw[S.check];exact hk
 obtain⟨z,et⟩:=S.ts i _ _ ht IF;rw[et]at IF;obtain⟨v,s1,e1,M⟩:=ahZ (c:=run sY gg) rfl (S.KS hp) (pq rfl (S.KS hp)) (by rw[S.rs];exact hr) qM IF (emptyAt s) (dG s);have ef:ey p'.ts (i:Int)=ey p.ts (i:Int):=by
  have a1:=MP hk;have a2:=MP qM;rw[ey,ey,Zb2 (by omega),Zb2 (by omega)];unfold cm;rw[Zo6,Zo6,al6 S]
 rw[ef,S.rs]at M;refine⟨v,cK s s1,hc.at (s:=iF 10) rfl (o7 ?_ M.qs.bare M.gr.next),M.cK h.aA.wf⟩;rw[Zb1,Zb1,Zd5,e];exact e1
theorem aar{v:AV}{l:List Int}(h:QS 1 s v (l.map dK))(d:Nat):∃z,dM s (d+1) v=ints z l:=by
 obtain⟨z,hz⟩:=h.dM (d:=d) (λr hr=>by obtain⟨t,_,rfl⟩:=Zd0.1 hr;rfl);refine⟨z,?_⟩;rw[hz];unfold ints;rw[Zi0];congr 1;refine Zj5 λa _=> ?_
 simp only[Function.comp,Zb1,Zd5,HS]
theorem KB(hc:jq c){v w:AV}{l:List Int}(hl:l.length<cC)(h:QS 1 s v (l.map dK))(h':QS 1 s w (l.map dK)):c 14 [v,w] s=some (.bool true,s):=by
 obtain⟨z,e⟩:=aar h 3;obtain⟨z',e'⟩:=aar h' 3;refine hc.at (s:=iF 14) rfl (jB ?_ (cL.bool _));rw[Zb1,Zb1,Zd5,e,e'];exact LL rfl z z' l hl (emptyAt s)
theorem ajh(hc:jq c)(h:PS s0 s Vs p){q:aP}(hq:p.dA q)(hR:p.Real)(hk:∀t∈p.ts,t.Ok):c 11 [.agg Vs,.agg q.cells] s=some (.bool true,s):=by
 obtain⟨p',e,S⟩:=h.dM 1;refine hc.at (s:=iF 11) rfl (jB ?_ (cL.bool _));rw[Zb1,Zb1,Zd5,e,nO];exact EA rfl p' q (S.symm.trans hq) ((S.real hR).akI (λt ht=>by obtain⟨u,hu,z,rfl⟩:=S.tab ht;have:=hk u hu;exact⟨this.1,this.2⟩)) (emptyAt s) (dG s)
theorem ahe(hc:jq c)(h:PS s0 s Vs p)(h':PS s1 s Us q)(hq:p.dA q)(hR:p.Real)(hk:∀t∈p.ts,t.Ok):c 11 [.agg Vs,.agg Us] s=some (.bool true,s):=by
 obtain⟨p',e,S⟩:=h.dM 1;obtain⟨q',e',S'⟩:=h'.dM 1;refine hc.at (s:=iF 11) rfl (jB ?_ (cL.bool _));rw[Zb1,Zb1,Zd5,e,e'];exact EA rfl p' q' (S.symm.trans (hq.trans S')) ((S.real hR).akI (λt ht=>by obtain⟨u,hu,z,rfl⟩:=S.tab ht;have:=hk u hu;exact⟨this.1,this.2⟩)) (emptyAt s) (dG s)
theorem ahf(S:p.dA q)(z:Bool)(l:List Rl):(p.Hx z l).dA (q.Hx z l):=⟨S.tl,S.ts,S.gl,S.gs,S.ys,S.cs,rfl⟩
theorem afM(h:p.Real)(z:Bool){l:List Rl}(hl:l.length<=1000):(p.Hx z l).Real:=⟨h.ts,h.tab,h.gs,h.bT,h.ys,h.cs,by show l.length<=1048576;omega⟩
theorem QS.SP{es:Nat}{v:AV}{rows:List (List AV)}(h:QS es s v rows):cU 3 v:=by
 rcases h with⟨rfl,_⟩|⟨b,off,cap,cs,rfl,_⟩|⟨b,off,rfl,_⟩
 .exact .flat rfl
 .refine .flat ?_;cases cap<;>simp[gq,Pos.beq_eq.2 rfl]
 .refine .flat ?_;simp[gq,Pos.beq_eq.2 rfl]
theorem PS.beq(h:PS s0 s Vs p):dO (.agg Vs) (.agg Vs)=true:=by
 obtain⟨V1,V2,V3,V4,V5,r1,r2,rfl,h1,h2,h3,h4,h5⟩:=h.all;refine FI λv hv=> ?_
 simp only[Zb4,Zc8,Zg9]at hv;rcases hv with rfl|rfl|rfl|rfl|rfl
 .exact QS.SP h1.out.own
 .exact QS.SP h2.out.own
 .exact QS.SP h3.own
 .exact QS.SP h4.own
 .exact QS.SP h5.own
end
end
end Go.Proofs.YtngcejgciomphaaGreatDoor
