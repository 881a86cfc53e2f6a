/- What rule.New answers. -/
import Derived.Test.YtgihekklfnjkiaaGreatDoorBLawsD
import Derived.Lib.SlicesCompact
set_option linter.all false
set_option maxRecDepth 100000
set_option maxHeartbeats 1000000
namespace Go.Proofs.YtgihekklfnjkiaaGreatDoor
section
open Go Go.Ai Go.Proofs
variable{c:aj}
theorem YA(s:St)(r:AV×St):tidy s r=r\/tidy s r=(r.1,s):=by
 unfold tidy;split
 .exact .inr rfl
 .exact .inl rfl
theorem aow{s:St}{v:AV}{l:List (List Nat)}(h:QS 1 s v (l.map qc))(hl:l.length<=1000)(x:List Nat)(F:Nat):∀(m k:Nat),l.length<=k+m->k<=l.length->
  (∃i:Nat,x∈l.drop k/\∀k1 k2,eV c F k1 k2 (m+1) [v,.str x,.int .i64 (l.length:Int),.int .i64 (k:Int)] s=k1 [.int .i64 (i:Int)] s)\/
    x∉l.drop k/\∀k1 k2,eV c F k1 k2 (m+1) [v,.str x,.int .i64 (l.length:Int),.int .i64 (k:Int)] s=k2 [] s:=by
 intro m;induction m with
 |zero=>
  intro k h1 h2;obtain rfl:k=l.length:=by omega
  right;refine⟨by simp,λk1 k2=> ?_⟩;rw[fK];simp
 |succ m ih=>
  intro k h1 h2;by_cases hk:k<l.length
  . obtain⟨b,o,cs,a1,a2,a3,a4⟩:=h.at (R:=AV×St) (c:=c) (FK l) (by decide) (i:=k) (by simpa using hk);have g0:cs[o]? =some (.str l[k]):=(by simpa using a4 0 (.str l[k]) (by simp));have w:ax .i64 ((k:Int)+1)=((k+1:Nat):Int):=wrap64 (by omega) (by omega);rw[Ze2 hk,Za9];by_cases he:x=l[k]
    .   left;refine⟨k,.inl he,λk1 k2=> ?_⟩;rw[fK];simp[hk,a1,a3,g0,he]
    .   rcases ih (k+1) (by omega) (by omega)with⟨i,hm,hi⟩|⟨hm,hi⟩
        .left;refine⟨i,.inr hm,λk1 k2=> ?_⟩;rw[<-hi k1 k2,fK];simp[hk,a1,a3,g0,he,w]
        .right;refine⟨λh=>h.elim he hm,λk1 k2=> ?_⟩;rw[<-hi k1 k2,fK];simp[hk,a1,a3,g0,he,w]
  .obtain rfl:k=l.length:=(by omega);right;refine⟨by simp,λk1 k2=> ?_⟩;rw[fK];simp
theorem aim(hc:Sem c){s:St}{v:AV}{l:List (List Nat)}(h:QS 1 s v (l.map qc))(hl:l.length<=1000)(x:List Nat):c 135 [v,.str x] s=some (.bool (decide (x∈l)),s):=by
 have ln:=λ(K:AV->St->Option (AV×St))(s1:St)=>h.lenB (c:=c) K s1
 simp only[Za5]at ln;have ix:∃i:Int,(0<=i↔x∈l)/\c 188 [v,.str x] s=some (.int .i64 i,s):=by
  rcases aow (c:=c) h hl x (l.length+1) l.length 0 (by omega) (by omega)with⟨i,hm,hi⟩|⟨hm,hi⟩
  .rw[Ze6]at hm;refine⟨i,⟨λ_=>hm,λ_=>by omega⟩,?_⟩;rw[sW hc (l.length+1) (r:=(.int .i64 (i:Int),s)),aF (Plain.int _ _) (aX.refl s)];rw[uK];simp only[az,ln];rw[show(0:Int)=((0:Nat):Int)from rfl,hi];simp
  .rw[Ze6]at hm;refine⟨-1,⟨λh=>by omega,λh=>absurd h hm⟩,?_⟩;rw[sW hc (l.length+1) (r:=(.int .i64 (-1),s)),aF (Plain.int _ _) (aX.refl s)];rw[uK];simp only[az,ln];rw[show(0:Int)=((0:Nat):Int)from rfl,hi];simp
 obtain⟨i,hm,hi⟩:=ix;rw[show decide (x∈l)=decide (0<=i)from decide_eq_decide.2 hm.symm];rw[AD hc 1 (r:=(.bool (decide (0<=i)),s)),aF (Plain.bool _) (aX.refl s)];rw[Cq];simp[hi]
theorem aox{s:St}{v:AV}{l:List (List Nat)}(h:QS 1 s v (l.map qc))(hl:l.length<=1000){g:FuncId}{u:AV}{Pd:List Nat->Bool}(H:∀w,c g [.str w,u] s=some (.bool (Pd w),s))(F:Nat):∀(m k:Nat),l.length<=k+m->k<=l.length->
  (∃i:Nat,∃hi:i<l.length,(Pd l[i]=true/\∀j (hj:j<l.length),k<=j->j<i->Pd l[j]=false)/\∀k1 k2,dL c F k1 k2 (m+1) [v,.func g [] [u],.int .i64 (l.length:Int),.int .i64 (k:Int)] s=k1 [.int .i64 (i:Int)] s)\/
    (∀j (hj:j<l.length),k<=j->Pd l[j]=false)/\∀k1 k2,dL c F k1 k2 (m+1) [v,.func g [] [u],.int .i64 (l.length:Int),.int .i64 (k:Int)] s=k2 [] s:=by
 intro m;induction m with
 |zero=>
  intro k h1 h2;obtain rfl:k=l.length:=by omega
  right;refine⟨λj hj h=>by omega,λk1 k2=> ?_⟩;rw[eE];simp
 |succ m ih=>
  intro k h1 h2;by_cases hk:k<l.length
  . obtain⟨b,o,cs,a1,a2,a3,a4⟩:=h.at (R:=AV×St) (c:=c) (FK l) (by decide) (i:=k) (by simpa using hk);have g0:cs[o]? =some (.str l[k]):=(by simpa using a4 0 (.str l[k]) (by simp));have w:ax .i64 ((k:Int)+1)=((k+1:Nat):Int):=wrap64 (by omega) (by omega);have hb:=H l[k];cases hP:Pd l[k]with
    |   true=>
        rw[hP]at hb;left;refine⟨k,hk,⟨hP,λj _ h1 h2=>by omega⟩,λk1 k2=> ?_⟩;rw[eE];simp[hk,a1,a3,g0,gI,hb]
    |   false=>
        rw[hP]at hb;have low:∀j (hj:j<l.length),k<=j->(k+1<=j->Pd l[j]=false)->Pd l[j]=false:=λj hj h f=>by
          by_cases e:j=k
          .subst e;exact hP
          .exact f (by omega)
        rcases ih (k+1) (by omega) (by omega)with⟨i,sF,⟨Nk,sN⟩,hi⟩|⟨sN,hi⟩
        .left;refine⟨i,sF,⟨Nk,λj hj h1 h2=>low j hj h1 λh=>sN j hj h h2⟩,λk1 k2=> ?_⟩;rw[<-hi k1 k2,eE];simp[hk,a1,a3,g0,gI,hb,w]
        .right;refine⟨λj hj h=>low j hj h λh=>sN j hj h,λk1 k2=> ?_⟩;rw[<-hi k1 k2,eE];simp[hk,a1,a3,g0,gI,hb,w]
  .obtain rfl:k=l.length:=(by omega);right;refine⟨λj hj h=>by omega,λk1 k2=> ?_⟩;rw[eE];simp
theorem alZ(hc:Sem c){s:St}{v:AV}{l:List (List Nat)}(h:QS 1 s v (l.map qc))(hl:l.length<=1000){g:FuncId}{u:AV}{Pd:List Nat->Bool}(H:∀w,c g [.str w,u] s=some (.bool (Pd w),s)):
   (∃i:Nat,∃hi:i<l.length,(Pd l[i]=true/\∀j (hj:j<l.length),j<i->Pd l[j]=false)/\c 187 [v,.func g [] [u]] s=some (.int .i64 (i:Int),s))\/(∀j (hj:j<l.length),Pd l[j]=false)/\c 187 [v,.func g [] [u]] s=some (.int .i64 (-1),s):=by
 have ln:=λ(K:AV->St->Option (AV×St))(s1:St)=>h.lenB (c:=c) K s1
 simp only[Za5]at ln;rcases aox (c:=c) h hl H (l.length+1) l.length 0 (by omega) (by omega)with⟨i,sF,⟨Nk,sN⟩,hi⟩|⟨sN,hi⟩
 .left;refine⟨i,sF,⟨Nk,λj hj h=>sN j hj (Zi1 _) h⟩,?_⟩;rw[pN hc (l.length+1) (r:=(.int .i64 (i:Int),s)),aF (Plain.int _ _) (aX.refl s)];rw[qJ];simp only[az,ln];rw[show(0:Int)=((0:Nat):Int)from rfl,hi];simp
 .right;refine⟨λj hj=>sN j hj (Zi1 _),?_⟩;rw[pN hc (l.length+1) (r:=(.int .i64 (-1),s)),aF (Plain.int _ _) (aX.refl s)];rw[qJ];simp only[az,ln];rw[show(0:Int)=((0:Nat):Int)from rfl,hi];simp
structure Aside(s t:St)(v:AV):Prop where
 wf:Wf t
 next:t.next=s.next
 keep:∀p x,aK v≠some p->s.heap.get p=some x->t.heap.get p=some x
def Lo(Pd:List Nat->Bool)(l:List (List Nat)):Nat:=(l.filter λw=> !Pd w).length
theorem aum(Pd:List Nat->Bool)(l:List (List Nat)):Lo Pd l<=l.length:=Zk1 _ _
theorem abf{Pd:List Nat->Bool}{l:List (List Nat)}{j:Nat}(h:j<l.length):Lo Pd (l.take (j+1))=Lo Pd (l.take j)+if Pd l[j]then 0 else 1:=by
 unfold Lo;rw[Zc7 h,Zk4,Zd8];cases h2:Pd l[j]<;>simp[h2]
theorem ad4{Pd:List Nat->Bool}{l:List (List Nat)}:∀(i:Nat),i<=l.length->(∀j (hj:j<l.length),j<i->Pd l[j]=false)->Lo Pd (l.take i)=i
 |0,_,_=>by simp[Lo]
 |i+1,h,hp=>by rw[abf (by omega),ad4 i (by omega) λj hj h=>hp j hj (by omega),hp i (by omega) (by omega)];rfl
theorem aq1{s:St}{v:AV}{n:Nat}(hn:n<=1000){g:FuncId}{u:AV}{Pd:List Nat->Bool}(H:∀t,Aside s t v->∀w,c g [.str w,u] t=some (.bool (Pd w),t)){l0:List (List Nat)}(hl0:l0.length=n)(F:Nat):∀(m j i f:Nat)(t:St)(l:List (List Nat)),m<f->j+m=n->i<j->QS 1 t v (l.map qc)->l.length=n->Aside s t v->l.drop j=l0.drop j->i=Lo Pd (l0.take j)->
  ∃(i':Nat) (t':St) (l':List (List Nat)),i'=Lo Pd l0/\QS 1 t' v (l'.map qc)/\l'.length=n/\Aside s t' v/\∀k2,eR c F k2 f [v,.func g [] [u],.int .i64 (i:Int),.int .i64 (j:Int)] t=k2 [v,.int .i64 (i':Int)] t':=by
 intro m;induction m with
 |zero=>
  intro j i f t l hf hj hi h hl A hd rj;obtain⟨f,rfl⟩:∃g,f=g+1:=⟨f - 1,by omega⟩
  obtain rfl:j=n:=by omega
  rw[Ze9 (by omega)]at rj;refine⟨i,t,l,rj,h,hl,A,λk2=> ?_⟩;have ln:=λ(K:AV->St->Option (AV×St))(s1:St)=>h.lenB (c:=c) K s1
  simp only[Za5,hl]at ln;rw[jH];simp[ln]
 |succ m ih=>
  intro j i f t l hf hj hi h hl A hd rj;obtain⟨f,rfl⟩:∃g,f=g+1:=⟨f - 1,by omega⟩
  have hk:j<l.length:=by omega
  have hjn:j<n:=by omega
  have ln:=λ(K:AV->St->Option (AV×St))(s1:St)=>h.lenB (c:=c) K s1
  simp only[Za5,hl]at ln;obtain⟨b,o,cs,a1,a2,a3,a4⟩:=h.at (R:=AV×St) (c:=c) (FK l) (by decide) (i:=j) (by simpa using hk);have g0:cs[o]? =some (.str l[j]):=by simpa using a4 0 (.str l[j]) (by simp)
  have w:ax .i64 ((j:Int)+1)=((j+1:Nat):Int):=wrap64 (by omega) (by omega);have w2:ax .i64 ((i:Int)+1)=((i+1:Nat):Int):=wrap64 (by omega) (by omega);have hb:=H t A l[j];have hj0:j<l0.length:=by omega
  have ej:l[j]=l0[j]:=by have:=congrArg (λq=>q[0]?) hd;simp only[Ze5,Zf5,H0 hk,H0 hj0,H5]at this;exact this
  have ed:l.drop (j+1)=l0.drop (j+1):=by have:=congrArg (λq=>q.drop 1) hd;simpa only[Zl4]using this
  have kt:=abf (Pd:=Pd) hj0;rw[<-ej]at kt;cases hP:Pd l[j]with
  |true=>
   rw[hP]at hb kt;obtain⟨i',t',l',b1,b2,b3,b4,b5⟩:=ih (j+1) i f t l (by omega) (by omega) (by omega) h hl A ed (by rw[kt,rj];rfl);refine⟨i',t',l',b1,b2,b3,b4,λk2=> ?_⟩;rw[<-b5 k2,jH];simp[iZ,ln,hjn,a1,a3,g0,gI,hb,w]
  |false=>
   (rw[hP]at hb kt;obtain⟨b',o',mJ,e1,_,e3,e4,e5,e6,e7,_⟩:=h.set (R:=AV×St) (c:=c) (FK l) (by decide) (i:=i) (by simp;omega);have bD:=λ(K:AV->St->Option (AV×St))=>bY c K t 1 b' o' (.str l[j]) mJ e4 rfl e5 rfl);have hs:=bG t b' (.cells (aQ mJ o' [.str l[j]]) 0);have Q:=e7 0 (.str l[j]) (bg t b' (.cells (aQ mJ o' [.str l[j]]) 0)) (by decide) (by rw[Zf5];exact hs);have er:(l.map qc).set i (((l.map qc)[i]'(by simp;omega)).set 0 (.str l[j]))=(l.set i l[j]).map qc:=(by rw[Zq2];simp);rw[er]at Q;have A2:Aside s (bg t b' (.cells (aQ mJ o' [.str l[j]]) 0)) v:=⟨iG A.wf (A.wf _ _ e4),by rw[dH];exact A.next,λp x hp hx=>by rw[aH (λe=>hp (by rw[e3,e]))];exact A.keep p x hp hx⟩
   obtain⟨i',t',l',b1,b2,b3,b4,b5⟩:=ih (j+1) (i+1) f _ _ (by omega) (by omega) (by omega) Q (by simpa using hl) A2 (by rw[Zp9 (by omega)];exact ed) (by rw[kt,rj];rfl);refine⟨i',t',l',b1,b2,b3,b4,λk2=> ?_⟩;rw[<-b5 k2,jH];have ce:(AV.str l[j]).cells=[.str l[j]]:=rfl;rw[ce]at bD;simp[iZ,ln,hjn,a1,a3,g0,gI,hb,e1,bD,w,w2]
theorem aoy(hc:Sem c){s:St}{v:AV}{l:List (List Nat)}(h:QS 1 s v (l.map qc))(hl:l.length<=1000)(hw:Wf s){g:FuncId}{u:AV}{Pd:List Nat->Bool}(H:∀t,Aside s t v->∀w,c g [.str w,u] t=some (.bool (Pd w),t)):
   ∃(w:AV) (s':St),c 133 [v,.func g [] [u]] s=some (w,s')/\Aside s s' v/\∀{R:Type}(c:aj)(K:AV->St->Option R)(s1:St),aq c (.lenB .l) [w] s1 K=K (.int .i64 (Lo Pd l:Int)) s1:=by
 have A:Aside s s v:=⟨hw,rfl,λ_ _ _ h=>h⟩
 rcases alZ hc h hl (H s A)with⟨i,hi,⟨Nk,sN⟩,hx⟩|⟨sN,hx⟩
 . obtain⟨i',t',l',b1,b2,b3,b4,b5⟩:=aq1 (c:=c) (n:=l.length) hl H (l0:=l) rfl (l.length+1) (l.length - (i+1)) (i+1) i (l.length+1) s l (by omega) (by omega) (by omega) h rfl A rfl (by rw[abf hi,ad4 i (by omega) sN,Nk];rfl);have OS:=aum Pd l;rw[<-b1]at OS;obtain⟨v1,d1,d2,d3⟩:=b2.low (FK l') (i:=i') (by simp;omega);obtain⟨v2,f1,f2⟩:=b2.high (i:=i') (by simp;omega);obtain⟨s6,g1,g2,g3,g4⟩:=d2.clear (z:=[.str []]) b4.wf rfl (λn=>by rw[CS];induction n with|zero=>rfl|succ n ih=>rw[Zn2];simp[aN,AV.one,ih]);have w:ax .i64 ((i:Int)+1)=((i+1:Nat):Int):=wrap64 (by omega) (by omega);have A6:Aside s s6 v:=⟨g2,by rw[g3,b4.next],λp x hp hx=>g4 p x (λe=>hp (d3 p e)) (b4.keep p x hp hx)⟩
   have run:=oY hc (l.length+1) (x0:=v) (x1:= .func g [] [u]) (s:=s) (r:=(v2,s6)) (by
     rw[qf];simp only[az,cY,hx,cL,fN,gC,w];have:decide ((i:Int)= -1)=false:=Za2 (by omega);rw[this,dQ,b5];simp[d1,g1,f1])
   rcases YA s (v2,s6)with e|e
   .exact⟨v2,s6,by rw[run,e],A6,by rw[<-b1];exact f2⟩
   .exact⟨v2,s,by rw[run,e],A,by rw[<-b1];exact f2⟩
 . have kl:=ad4 (Pd:=Pd) (l:=l) l.length (Za3 _) (λj hj _=>sN j hj);rw[Zh7]at kl;have run:=oY hc 1 (x0:=v) (x1:= .func g [] [u]) (s:=s) (r:=(v,s)) (by
     rw[qf];simp[hx])
   have ln:=λ{R:Type}(c:aj)(K:AV->St->Option R)(s1:St)=>h.lenB (c:=c) K s1
   simp only[Za5]at ln;rcases YA s (v,s)with e|e
   .exact⟨v,s,by rw[run,e],A,λc K s1=>by rw[kl];exact ln c K s1⟩
   .exact⟨v,s,by rw[run,e],A,λc K s1=>by rw[kl];exact ln c K s1⟩
def ZM(gs:List aR):List (List Nat×List (List Nat)):=gs.map λg=>(g.name,g.tg)
def aa1(L:List (List Nat×List (List Nat)))(a b:List Nat):Nat:=match L.find? (λg=>decide (g.1=a)),L.find? (λg=>decide (g.1=b))with
 |some g,some h=>Lo (λw=> !decide (w∈h.2)) g.2
 |_,_=>0
theorem ain(gs:List aR)(a:List Nat):(ZM gs).find? (λg=>decide (g.1=a))=(TO gs a).map λg=>(g.name,g.tg):=by unfold ZM TO;rw[List.find?_map];rfl
theorem aoz(hc:Sem c){s0 s:St}{bp mp:Pos}{gs:List aR}{ts:List Ty}{gk tk:Option Pos}(B:eD s0 s bp mp gs ts gk tk)(a b:List Nat):
   ∃(w:AV) (s':St),c 69 [.ptr bp 0,.str a,.str b] s=some (w,s')/\Grew s s'/\∀{R:Type}(c:aj)(K:AV->St->Option R)(s1:St),aq c (.lenB .l) [w] s1 K=K (.int .i64 (aa1 (ZM gs) a b:Int)) s1:=by
 have hw:=B.wf;unfold aa1;rw[ain,ain];obtain⟨v1,s1,f1,M1,l1⟩:=ail hc B a;generalize hg1:TO gs a=G1 at*
 generalize zA:TO gs b=G2' at*
 obtain⟨g1,aq2⟩:∃g1,g1=G1.getD tW:=⟨_,rfl⟩
 obtain⟨g2,aq3⟩:∃g2,g2=G2'.getD tW:=⟨_,rfl⟩
 obtain⟨ok1,ho1⟩:∃ok1,ok1=G1.isSome:=⟨_,rfl⟩
 obtain⟨ok2,KI⟩:∃ok2,ok2=G2'.isSome:=⟨_,rfl⟩
 rw[<-aq2, <-ho1]at f1;rw[<-aq2]at M1 l1;have w1:=M1.ai.wf;have G2:Grew s1 (ah s1 (.cells (g1.av v1) 0)):=Grew.ah w1 _;obtain⟨v2,s3,f2,M2,l2⟩:=ail hc (B.ai (M1.ai.trans G2)) b;rw[zA, <-aq3, <-KI]at f2;rw[zA, <-aq3]at M2 l2;have w3:=M2.ai.wf;have G4:Grew s3 (ah s3 (.cells (g2.av v2) 0)):=Grew.ah w3 _;have Ga:Grew s (ah s3 (.cells (g2.av v2) 0)):=((M1.ai.trans G2).trans M2.ai).trans G4;have one1:=g1.Le M1.cells.2;have one2:=g2.Le M2.cells.2;have al:∀(g:aR)(v:AV)(t:St)(K:AV->St->Option (AV×St)),aN (g.av v)=true->aq c (.alloc [(.str []),(.str []),(.str []),(.int .i64 0),(.int .i64 0),(.str []),(.bool false),(.bool false),.af]) [] t (λx7 s7=>aq c (.store 9) [x7,.agg (g.av v)] s7 (λ_ s8=>K x7 s8))=K (.ptr t.next 0) (ah t (.cells (g.av v) 0)):=λg v t K ho=>by rw[dB];exact cG c (λ_ s8=>K (.ptr t.next 0) s8) t 9 (.agg (g.av v)) _ rfl rfl ho
 have al1:=λK=>al g1 v1 s1 K one1
 have al2:=λK=>al g2 v2 s3 K one2
 have pre:∀r,(cnd (.bool (!ok1|| !ok2)) (some (.af,ah s3 (.cells (g2.av v2) 0))) (aq c (.fieldA 8) [.ptr s1.next 0] (ah s3 (.cells (g2.av v2) 0)) λx29 s26=>aq c (.load none) [x29] s26 λx30 s27=>aq c (.mkFunc 134 0) [.ptr s3.next 0] s27 λx31 s28=>aq c (.callF 133) [x30,x31] s28 λx32 s29=>aq c .move [x32] s29 λx6 s30=>some (x6,s30))=some r)->
     uf c 1 (.ptr bp 0) (.str a) (.str b) s=some r:=λr h=>by
   rw[U3, <-h];simp only[az,cY,f1,cL,jK,Za4,Zb6,aW,al1,f2,al2];cases ok1<;>cases ok2<;>simp
 by_cases cw:(!ok1|| !ok2)=true
 . have cz:(match G1.map (λg=>(g.name,g.tg)),G2'.map (λg=>(g.name,g.tg))with|some g,some h=>Lo (λw=> !decide (w∈h.2)) g.2|_,_=>0)=0:=(by rw[ho1,KI]at cw;cases G1<;>cases G2'<;>first|rfl|simp at cw);have run:=B8 hc 1 (x0:= .ptr bp 0) (x1:= .str a) (x2:= .str b) (s:=s) (r:=(.af,ah s3 (.cells (g2.av v2) 0))) (pre _ (by rw[cw,eo]));rcases YA s (AV.af,ah s3 (.cells (g2.av v2) 0))with e|e
   .exact⟨.af,_,by rw[run,e],Ga,λc K s1=>by rw[cz];exact aS c K (λH n=>rfl) s1⟩
   .exact⟨.af,_,by rw[run,e],Grew.refl hw,λc K s1=>by rw[cz];exact aS c K (λH n=>rfl) s1⟩
 . have cw:(!ok1|| !ok2)=false:=(by simpa using cw);have Q1:QS 1 (ah s3 (.cells (g2.av v2) 0)) v1 (g1.tg.map qc):=M1.own.mono λp x _ hx=>((G2.trans M2.ai).trans G4).get hx
   have lt1:∀p,aK v1=some p->p.toNat<s1.next.toNat:=λp hp=>M1.own.lt w1 hp
   have n3:s1.next.toNat<s3.next.toNat:=(by have:=M2.ai.next;rw[bN,Pos.aD]at this;omega);have hq:(ah s3 (.cells (g2.av v2) 0)).heap.get s3.next=some (.cells (g2.av v2) 0):=aA _ _;have hq1:(ah s3 (.cells (g2.av v2) 0)).heap.get s1.next=some (.cells (g1.av v1) 0):=(M2.ai.trans G4).get (aA _ _);have cz:(match G1.map (λg=>(g.name,g.tg)),G2'.map (λg=>(g.name,g.tg))with|some g,some h=>Lo (λw=> !decide (w∈h.2)) g.2|_,_=>0)=Lo (λw=> !decide (w∈g2.tg)) g1.tg:=by
     rw[ho1,KI]at cw;cases G1 with
     |none=>simp at cw
     |  some x=>cases G2' with
        |none=>simp at cw
        |some y=>rw[aq2,aq3];rfl
   rw[cz];have H:∀t,Aside (ah s3 (.cells (g2.av v2) 0)) t v1->∀w,c 134 [.str w,.ptr s3.next 0] t=some (.bool (!decide (w∈g2.tg)),t):=λt A w=>by
     have hq':=A.keep s3.next _ (λe=>by have:=lt1 _ e;omega) hq;have Q2:QS 1 t v2 (g2.tg.map qc):=M2.own.mono λp x hp hx=>A.keep p x (λe=>by have:=lt1 _ e;have:=M2.new p hp;rw[bN,Pos.aD]at this;omega) (G4.get hx)
     have hb:=aim hc Q2 (by omega) w;generalize decide (w∈g2.tg)=bb at*
     rw[MB hc 1 (r:=(.bool (!bb),t)),aF (Plain.bool _) (aX.refl t)];rw[Qp];have g8:(g2.av v2)[8]? =some v2:=rfl;simp[hq',g8,hb]
   obtain⟨w,s5,d1,d2,d3⟩:=aoy hc Q1 (by omega) (bF w3) H;have g8:(g1.av v1)[8]? =some v1:=rfl;have run:=B8 hc 1 (x0:= .ptr bp 0) (x1:= .str a) (x2:= .str b) (s:=s) (r:=(w,s5)) (pre _ (by
     rw[cw,dQ];simp[hq1,g8,d1]))
   have G5:Grew s s5:=⟨d2.wf,λp x hx=>d2.keep p x (λe=>by have:=M1.new p e;have:=hw _ _ hx;omega) (Ga.get hx),by rw[d2.next];exact Ga.next⟩
   rcases YA s (w,s5)with e|e
   .exact⟨w,s5,by rw[run,e],G5,d3⟩
   .exact⟨w,s,by rw[run,e],Grew.refl hw,d3⟩
def Xf(I:List (AV×List (List AV)))(ws:List AV)(rs:List (List Int)):Prop:=∀(i:Nat)(w:AV)(r:List Int),ws[i]? =some w->rs[i]? =some r->(w,r.map bJ)∈I
theorem Xf.more{I:List (AV×List (List AV))}{ws:List AV}{rs:List (List Int)}(h:Xf I ws rs)(e:AV×List (List AV)):Xf (e::I) ws rs:=λi w r h1 h2=>Zb0 _ (h i w r h1 h2)
theorem Xf.snoc{I:List (AV×List (List AV))}{ws:List AV}{rs:List (List Int)}(h:Xf I ws rs)(hl:ws.length=rs.length){w:AV}{r:List Int}(hm:(w,r.map bJ)∈I):Xf I (ws++[w]) (rs++[r]):=λi w' r' h1 h2=>by
 by_cases hi:i<ws.length
 .rw[Zc5 hi]at h1;rw[Zc5 (by omega)]at h2;exact h i w' r' h1 h2
 . rw[Zc4 (by omega)]at h1;rw[Zc4 (by omega)]at h2;by_cases h0:i - ws.length=0
   .rw[h0]at h1;rw[show i - rs.length=0 by omega]at h2;simp at h1 h2;subst h1;subst h2;exact hm
   .rw[Zc2 (by simp;omega)]at h1;cases h1
theorem KZ(t:aB):0<=bw t:=by
 unfold bw;repeat' split
 all_goals omega
def bQ:List aB->Nat->Nat
 |[],_=>0
 |t::ts,i=>if i<(bw t).toNat then 0 else bQ ts (i - (bw t).toNat)+1
def ue(ts:List aB)(i:Nat):Nat:=(aU (ts.take (bQ ts i))).toNat
def yC(ts:List aB)(i:Nat):Nat:=match ts[bQ ts i]? with
 |some t=>(bw t).toNat
 |none=>0
def oh(ts:List aB)(i:Nat):List Int:=ja (ue ts i) (yC ts i) (Lm ts (i:Int))
def uy(ts:List aB)(i:Nat):List Int:=ja (ue ts i) (yC ts i) (Ln ts (i:Int))
theorem aio:∀(ts:List aB)(k:Nat)(hk:k<ts.length)(i:Nat),(i:Int)<bw ts[k]->bQ ts ((aU (ts.take k)).toNat+i)=k
 |t::ts,0,_,i,h=>by
  have h:(i:Int)<bw t:=h;rw[show(aU ((t::ts).take 0)).toNat=0 from rfl,bQ,Zb4 (by omega)]
 |t::ts,k+1,hk,i,h=>by
  have hk:k<ts.length:=by simpa using hk
  have ih:=aio ts k hk i h;have n1:0<=bw t:=(KZ t)
  have n2:=(om (ts.take k)).1;have e:aU ((t::ts).take (k+1))=bw t+aU (ts.take k):=by simp[aU]
  rw[e,bQ,Za6 (by omega),show(bw t+aU (ts.take k)).toNat+i - (bw t).toNat=(aU (ts.take k)).toNat+i by omega,ih]
theorem ahy{ts:List aB}{k:Nat}(hk:k<ts.length){first i:Nat}(hf:(first:Int)=aU (ts.take k))(hi:(i:Int)<bw ts[k]):bQ ts (first+i)=k/\ue ts (first+i)=first/\(yC ts (first+i):Int)=bw ts[k]:=by have e:=aio ts k hk i hi;rw[show(aU (ts.take k)).toNat=first by omega]at e;refine⟨e,by unfold ue;rw[e];omega,?_⟩;unfold yC;rw[e,H0 hk];have:=KZ ts[k];simp only;omega
def A7(ts:List aB)(m:Nat):List AV:=(List.range m).map λi=>AV.int .i64 ((bQ ts i:Nat):Int)
def A8(ts:List aB)(m:Nat):List AV:=(List.range m).map λi=>AV.int .i64 (H9 ts ((i:Nat):Int))
def A9(ts:List aB)(m:Nat):List AV:=(List.range m).map λi=>AV.bool (NU ts ((i:Nat):Int))
def xO(ts:List aB)(m:Nat):List (List Int):=(List.range m).map (oh ts)
def xP(ts:List aB)(m:Nat):List (List Int):=(List.range m).map (uy ts)
structure SW(ts:List aB)(s0 s:St)(jb:Pos)(H Ls:List AV)(R:List (List AV))(I:List (AV×List (List AV)))(m:Nat):Prop where
 ow:Ow s0 s jb Ls R I
 cell:s.heap.get jb=some (.cells (H++Ls) 0)
 shp:∃L0 L1 L2 L3 L4 wB wA,Ls=[L0,L1,L2,L3,L4,.af,.af,.af]/\R=[A7 ts m,A8 ts m,A9 ts m,wB,wA,[],[],[]]/\wB.length=m/\wA.length=m/\Xf I wB (xO ts m)/\Xf I wA (xP ts m)
abbrev Bd(N:Nat)(r:List Int):Prop:=r.length<=1000/\∀k∈r,0<=k/\k<(N:Int)
theorem aeX{first n N:Nat}(hn:n<=1000)(hN:first+n<=N)(so:Int->Bool):Bd N (ja first n so):=by refine⟨Zb3 (J7 _ _ _) hn,λk hk=> ?_⟩;unfold ja at hk;simp only[Zj4,Zc6,Zg3]at hk;obtain⟨⟨i,hi,rfl⟩,_⟩:=hk;omega
theorem Qq{H Ls:List AV}(hH:H.length=6)(i:Nat):(H++Ls)[6+i]? =Ls[i]? :=by rw[Zc4 (by omega)];congr 1;omega
theorem arW{a b k:Nat}(h:a+b=k)(hk:k<=1000000):ax .i64 ((a:Int)+(b:Int))=(k:Int):=by rw[wrap64 (by omega) (by omega)];omega
theorem acN{a k:Nat}(h:a+1=k)(hk:k<=1000000):ax .i64 ((a:Int)+1)=(k:Int):=by rw[wrap64 (by omega) (by omega)];omega
theorem Sb(ts:List aB)(m:Nat):(A7 ts m).length=m/\(A8 ts m).length=m/\(A9 ts m).length=m:=by simp[A7,A8,A9]
theorem M8(ts:List aB)(m:Nat):(xO ts m).length=m/\(xP ts m).length=m:=by simp[xO,xP]
theorem al0(ts:List aB)(m:Nat):A7 ts (m+1)=A7 ts m++[AV.int .i64 ((bQ ts m:Nat):Int)]:=by simp[A7,Zg2]
theorem al3(ts:List aB)(m:Nat):A8 ts (m+1)=A8 ts m++[AV.int .i64 (H9 ts ((m:Nat):Int))]:=by simp[A8,Zg2]
theorem al4(ts:List aB)(m:Nat):A9 ts (m+1)=A9 ts m++[AV.bool (NU ts ((m:Nat):Int))]:=by simp[A9,Zg2]
theorem al5(ts:List aB)(m:Nat):xO ts (m+1)=xO ts m++[oh ts m]:=by simp[xO,Zg2]
theorem al6(ts:List aB)(m:Nat):xP ts (m+1)=xP ts m++[uy ts m]:=by simp[xP,Zg2]
theorem aun(hc:Sem c)(p:cr)(cw:∀t∈p.ts,t.Ok){pb jb:Pos}{H:List AV}(hH:H.length=6){s0:St}(hpb:s0.heap.get pb=some (.cells p.cells 0))(Nl:pb≠jb){first n N k:Nat}(hk:k<p.ts.length)(hfi:(first:Int)=aU (p.ts.take k))(fQ:(n:Int)=bw p.ts[k])(hN:first+n<=N)(hN2:N<=10000)(hn:n<=1000)(F:Nat):
  ∀(m i f:Nat)(s:St)(Ls:List AV)(R:List (List AV))(I:List (AV×List (List AV)))(sb:Pos),m<f->i+m=n->SW p.ts s0 s jb H Ls R I (first+i)->
   s.heap.get sb=some (.cells [.int .i64 ((first+i:Nat):Int)] 0)->sb≠jb->(∀L∈Ls,aK L≠some sb)->
   ∃    s' Ls' R' I',SW p.ts s0 s' jb H Ls' R' I' (first+n)/\
        ∀(x40 Qo:AV)(k4),wR c F k4 f [.ptr pb 0,.ptr jb 0,.int .i64 (k:Int),.int .i64 (first:Int),.int .i64 (n:Int),.ptr sb 0,x40,Qo] s=k4 [.ptr pb 0,.ptr jb 0,x40,Qo] s':=by
 intro m;induction m with
 |zero=>
  intro i f s Ls R I sb hf hi hS al7 hsj ad5;obtain⟨f,rfl⟩:∃g,f=g+1:=⟨f - 1,by omega⟩
  obtain rfl:i=n:=by omega
  refine⟨s,Ls,R,I,hS,λx40 Qo k4=> ?_⟩;have w:ax .i64 ((first:Int)+(i:Int))=((first+i:Nat):Int):=arW rfl (by omega);rw[TP];simp[al7,w]
 |succ m ih=>
  intro i f s Ls R I sb hf hi hS al7 hsj ad5;obtain⟨f,rfl⟩:∃g,f=g+1:=⟨f - 1,by omega⟩
  obtain⟨L0,L1,L2,L3,L4,wB,wA,rfl,rfl,e3,e4,PB,PA⟩:=hS.shp;obtain⟨T1,T2,T3⟩:=ahy hk hfi (i:=i) (by omega);have T3:yC p.ts (first+i)=n:=by omega
  have LT:=Sb p.ts (first+i);have eB:oh p.ts (first+i)=ja first n (Lm p.ts ((first+i:Nat):Int)):=by unfold oh;rw[T2,T3]
  have eA:uy p.ts (first+i)=ja first n (Ln p.ts ((first+i:Nat):Int)):=by unfold uy;rw[T2,T3]
  have aV:(((first+i:Nat):Int))<((first+n:Nat):Int):=by omega
  have ha:((first+i:Nat):Int)<=4611686018427387904:=by omega
  obtain⟨t1,s1,V0,a1,a2,O1,C1,K1⟩:=hS.ow.put hS.cell (c:=c) (Q:=AV×St) 8 (i:=0) (L:=L0) (r:=A7 p.ts (first+i)) rfl rfl (x:= .int .i64 (k:Int)) rfl rfl (by omega) (by omega) (o:=6) (by omega);obtain⟨b1,F1⟩:=K1 sb _ hsj ad5 al7;have g1:(H++[L0,L1,L2,L3,L4,.af,.af,.af])[6]? =some L0:=Qq hH 0;have q1:=O1.keep pb _ Nl hpb;have lv:=aqU hc p.tz p.ts cw _ ha s1 O1.wf;obtain⟨t2,s2,V1,c1,c2,O2,C2,K2⟩:=O1.put C1 (c:=c) (Q:=AV×St) 8 (i:=1) (L:=L1) (r:=A8 p.ts (first+i)) rfl rfl (x:= .int .i64 (H9 p.ts ((first+i:Nat):Int))) rfl rfl (by omega) (by omega) (o:=7) (by omega);obtain⟨b2,F2⟩:=K2 sb _ hsj F1 b1;have n1:=λ(K:AV->Option (AV×St))=>kW K (p:=jb) (o:=7) (h:=s1.heap) (h2:=s1.heap) (v:=L1) (by rw[C1];exact Qq hH 1) (by rw[C1];exact Qq hH 1) (O1.own 1 L1 _ rfl rfl).beq
  have q2:=O2.keep pb _ Nl hpb;have op:=as8 hc p.tz p.ts cw _ ha s2 O2.wf;obtain⟨t3,s3,V2,d1,d2,O3,C3,K3⟩:=O2.put C2 (c:=c) (Q:=AV×St) 1 (i:=2) (L:=L2) (r:=A9 p.ts (first+i)) rfl rfl (x:= .bool (NU p.ts ((first+i:Nat):Int))) rfl rfl (by omega) (by omega) (o:=8) (by omega);obtain⟨b3,F3⟩:=K3 sb _ hsj F2 b2;have n2:=λ(K:AV->Option (AV×St))=>kW K (p:=jb) (o:=8) (h:=s2.heap) (h2:=s2.heap) (v:=L2) (by rw[C2];exact Qq hH 2) (by rw[C2];exact Qq hH 2) (O2.own 2 L2 _ rfl rfl).beq
  have q3:=O3.keep pb _ Nl hpb;obtain⟨v4,u4,h4,M4⟩:=aop hc p.tz p.ts cw (pb:=pb) (sb:=sb) (cs:=p.cells) rfl ((first+i:Nat):Int) (by omega) (first:=(first:Int)) (by omega) (n:=n) (by omega) s3 O3.wf q3 b3;have O4':=O3.more M4;have C4':=M4.ai.get C3;have b4':=M4.ai.get b3;obtain⟨vc4,vo4⟩:=M4.own.cells;obtain⟨t4,s4,V3,f1,f2,O4,C4,K4⟩:=O4'.put C4' (c:=c) (Q:=AV×St) 24 (i:=3) (L:=L3) (r:=wB) rfl rfl (x:=v4) vc4 vo4 (by omega) (by omega) (o:=9) (by omega);obtain⟨b4,F4⟩:=K4 sb _ hsj F3 b4';have n3:=λ(K:AV->Option (AV×St))=>kW K (p:=jb) (o:=9) (h:=u4.heap) (h2:=s3.heap) (v:=L3) (by rw[C4'];exact Qq hH 3) (by rw[C3];exact Qq hH 3) (O3.own 3 L3 wB rfl rfl).beq
  have q4:=O4.keep pb _ Nl hpb;obtain⟨v5,u5,h5,M5⟩:=aoq hc p.tz p.ts cw (pb:=pb) (sb:=sb) (cs:=p.cells) rfl ((first+i:Nat):Int) (by omega) (first:=(first:Int)) (by omega) (n:=n) (by omega) s4 O4.wf q4 b4;have O5':=O4.more M5;have C5':=M5.ai.get C4;have b5':=M5.ai.get b4;obtain⟨vc5,vo5⟩:=M5.own.cells;obtain⟨t5,s5,V4,g1',g2',O5,C5,K5⟩:=O5'.put C5' (c:=c) (Q:=AV×St) 24 (i:=4) (L:=L4) (r:=wA) rfl rfl (x:=v5) vc5 vo5 (by omega) (by omega) (o:=10) (by omega);obtain⟨b5,F5⟩:=K5 sb _ hsj F4 b5';have n4:=λ(K:AV->Option (AV×St))=>kW K (p:=jb) (o:=10) (h:=u5.heap) (h2:=s4.heap) (v:=L4) (by rw[C5'];exact Qq hH 4) (by rw[C4];exact Qq hH 4) (O4.own 4 L4 wA rfl rfl).beq
  have hw5:=O5.wf;have G6:Grew s5 (ah s5 (.cells [.int .i64 ((first+(i+1):Nat):Int)] 0)):=Grew.ah hw5 _;have O6:=O5.ai G6;have C6:=G6.get C5;have lB:=M8 p.ts (first+i);have PB':=((PB.more (v4,(oh p.ts (first+i)).map bJ)).snoc (by rw[lB.1];exact e3) (w:=v4) (Zd6)).more (v5,(uy p.ts (first+i)).map bJ);have PA':=((PA.more (v4,(oh p.ts (first+i)).map bJ)).more (v5,(uy p.ts (first+i)).map bJ)).snoc (by rw[lB.2];exact e4) (w:=v5) (Zd6);rw[<-al5]at PB';rw[<-al6]at PA';rw[eB,eA]at PB' PA'
  obtain⟨s',Ls',R',I',z1,z5⟩:=ih (i+1) f _ _ _ _ s5.next (by omega) (by omega) ⟨O6,C6,V0,V1,V2,V3,V4,_,_,rfl,by rw[show first+(i+1)=(first+i)+1 from rfl,al0,al3,al4,T1];rfl,by simp[e3];omega,by simp[e4];omega,PB',PA'⟩
   (aA _ _) (λe=>by have:=hw5 _ _ C5;rw[<-e]at this;omega) (λL hL e=>by have:=O5.ltL hL e;omega)
  refine⟨s',Ls',R',I',z1,λx40 Qo k4=> ?_⟩;rw[<-z5 x40 Qo k4,TP];have w:ax .i64 ((first:Int)+(n:Int))=((first+n:Nat):Int):=arW rfl (by omega);have w1:ax .i64 (((first+i:Nat):Int)+1)=((first+(i+1):Nat):Int):=acN rfl (by clear w;omega);have r1x:=λ(K:AV->St->Option (AV×St))=>FB (c:=c) (z:=[.int .i64 0]) (x:= .int .i64 (k:Int)) rfl rfl s K
  have r2x:=λ(K:AV->AB->Option (AV×St))=>FA (z:=[.int .i64 0]) (x:= .int .i64 (H9 p.ts ((first+i:Nat):Int))) rfl rfl s1 K
  have r3x:=λ(K:AV->AB->Option (AV×St))=>FA (z:=[.bool false]) (x:= .bool (NU p.ts ((first+i:Nat):Int))) rfl rfl s2 K
  have r4x:=λ(K:AV->AB->Option (AV×St))=>FA (z:=[.af]) (x:=v4) rfl vc4 u4 K
  have r5x:=λ(K:AV->AB->Option (AV×St))=>FA (z:=[.af]) (x:=v5) rfl vc5 u5 K
  have st7:∀(K:AV->St->Option (AV×St)),aq c (.store 1) [.ptr s5.next 0,.int .i64 ((first+i:Nat):Int)] (ah s5 (.cells [.int .i64 0] 0)) K=K .undef (ah s5 (.cells [.int .i64 ((first+i:Nat):Int)] 0)):=λK=>cG c K s5 1 (.int .i64 ((first+i:Nat):Int)) [.int .i64 0] rfl rfl rfl
  have st8:∀(K:AV->St->Option (AV×St)),aq c (.store 1) [.ptr s5.next 0,.int .i64 ((first+(i+1):Nat):Int)] (ah s5 (.cells [.int .i64 ((first+i:Nat):Int)] 0)) K=K .undef (ah s5 (.cells [.int .i64 ((first+(i+1):Nat):Int)] 0)):=λK=>cG c K s5 1 (.int .i64 ((first+(i+1):Nat):Int)) [.int .i64 ((first+i:Nat):Int)] rfl rfl rfl
  simp only[aL,bu,aY,al7,aG,Zb1,Za4,aW,az,gC,w,dI,Za0 aV,eo,cE,aT,Zb9,hS.cell,g1,r1x,a1,a2,
   br,jN,q1,b1,cr.c0,cY,lv,cL,di,oc,Zj5,n1,r2x,c1,c2,
   q2,b2,op,n2,r3x,d1,d2,NQ,h4,n3,r4x,f1,f2,h5,n4,r5x,g1',g2',b5,dB,st7,aA,w1,st8]
theorem We(t:aB):0<=bw t/\bw t<=24:=by
 unfold bw;repeat' split
 all_goals omega
theorem aip(ts:List aB):aU ts<=24*ts.length:=by
 induction ts with
 |nil=>simp[aU]
 |cons t ts ih=>
  have:=We t;simp only[aU,Zd3,Zm2,Zc9]at ih ⊢;omega
theorem aoA(a b:List aB):aU (a++b)=aU a+aU b:=by simp[aU]
theorem Sf{ts:List aB}{k:Nat}(hk:k<ts.length):aU (ts.take (k+1))=aU (ts.take k)+bw ts[k]/\aU (ts.take (k+1))<=aU ts:=by have e:=Zc7 hk;refine⟨by rw[e,Sw],?_⟩;have h:=aoA (ts.take (k+1)) (ts.drop (k+1));rw[Zm3]at h;have:=(om (ts.drop (k+1))).1;omega
theorem aiq:∀{ts:List aB}{i:Nat},(i:Int)<aU ts->bQ ts i<ts.length
 |[],i,h=>by simp[aU]at h;omega
 |t ::ts,i,h=>by
  have e:aU (t::ts)=bw t+aU ts:=by simp[aU]
  have:=KZ t;unfold bQ;split
  .simp
  .have:=aiq (ts:=ts) (i:=i - (bw t).toNat) (by omega);simp;omega
theorem aoB{ts:List aB}{N:Nat}(hN:(N:Int)=aU ts){i:Nat}(hi:i<N):ue ts i+yC ts i<=N/\yC ts i<=24:=by have h:=aiq (ts:=ts) (i:=i) (by omega);have u:=Sf h;have:=We ts[bQ ts i];have n0:=(om (ts.take (bQ ts i))).1;unfold ue yC;rw[H0 h];simp only;omega
theorem aaT{ts:List aB}{N:Nat}(hN:(N:Int)=aU ts):(∀r∈xO ts N,Bd N r)/\∀r∈xP ts N,Bd N r:=by
 constructor
 .intro r hr;unfold xO at hr;obtain⟨i,hi,rfl⟩:=Zc6.1 hr;have:=aoB hN (Zg3.1 hi);exact aeX (by omega) this.1 _
 .intro r hr;unfold xP at hr;obtain⟨i,hi,rfl⟩:=Zc6.1 hr;have:=aoB hN (Zg3.1 hi);exact aeX (by omega) this.1 _
theorem auo(hc:Sem c)(p:cr)(cw:∀t∈p.ts,t.Ok)(hv:(bR p.ts).2=0)(h16:p.ts.length<=16){pb jb:Pos}{H:List AV}(hH:H.length=6){s0:St}(hpb:s0.heap.get pb=some (.cells p.cells 0))(Nl:pb≠jb){N:Nat}(hN:(N:Int)=aU p.ts)(F:Nat)(hF:1010<=F):
  ∀(m k f:Nat)(s:St)(Ls:List AV)(R:List (List AV))(I:List (AV×List (List AV)))(j:Nat),m<f->k+m=p.ts.length->SW p.ts s0 s jb H Ls R I j->(j:Int)=aU (p.ts.take k)->
   ∃    s' Ls' R' I',SW p.ts s0 s' jb H Ls' R' I' N/\
        ∀(k2),AE c F k2 f [.ptr pb 0,.ptr jb 0,.int .i64 (p.ts.length:Int),.int .i64 (k:Int)] s=k2 [.ptr pb 0,.ptr jb 0] s':=by
 have hN2:N<=10000:=by have:=aip p.ts;omega
 intro m;induction m with
 |zero=>
  intro k f s Ls R I j hf hk hS hl;obtain⟨f,rfl⟩:∃g,f=g+1:=⟨f - 1,by omega⟩
  obtain rfl:k=p.ts.length:=by omega
  rw[Zh7]at hl;obtain rfl:j=N:=by omega
  refine⟨s,Ls,R,I,hS,λk2=> ?_⟩;rw[TQ];simp
 |succ m ih=>
  intro k f s Ls R I j hf hk hS hl;obtain⟨f,rfl⟩:∃g,f=g+1:=⟨f - 1,by omega⟩
  have iO:k<p.ts.length:=by omega
  obtain⟨u1,u2⟩:=Sf iO;have z24:=We p.ts[k];have hw:=hS.ow.wf;obtain⟨n,hn⟩:∃n:Nat,(n:Int)=bw p.ts[k]:=⟨(bw p.ts[k]).toNat,by omega⟩
  have aup:zm p.ts (k:Int)=((j:Nat):Int):=by rw[zm,Za6 (by omega),hl];simp
  have fi:=ahP hc p.tz p.ts cw (k:Int) s hw;rw[aup]at fi;have co:=aot hc p.ts[k] (cw _ (Zb8 iO)) (GP hv k iO) s hw;rw[<-hn]at co;have so:=λ(K:AV->St->Option (AV×St))=>aor (c:=c) p.tz p.ts k iO K s
  have q0:=hS.ow.keep pb _ Nl hpb;have G:=Grew.ah hw (.cells [.int .i64 ((j:Nat):Int)] 0);have S1:SW p.ts s0 (ah s (.cells [.int .i64 ((j:Nat):Int)] 0)) jb H Ls R I (j+0):=⟨hS.ow.ai G,G.get hS.cell,hS.shp⟩
  obtain⟨s1,Ls1,R1,I1,y1,y5⟩:=aun hc p cw hH hpb Nl (first:=j) (n:=n) (N:=N) (k:=k) iO hl hn (by omega) hN2 (by omega) F n 0 F _ Ls R I s.next (by omega) (by omega) S1 (aA _ _)
   (λe=>by have:=hw _ _ hS.cell;rw[<-e]at this;omega) (λL hL e=>by have:=hS.ow.ltL hL e;omega)
  obtain⟨s',Ls',R',I',z1,z5⟩:=ih (k+1) f s1 Ls1 R1 I1 (j+n) (by omega) (by omega) y1 (by omega);refine⟨s',Ls',R',I',z1,λk2=> ?_⟩;have aV:(k:Int)<(p.ts.length:Int):=by omega
  have w1:ax .i64 ((k:Int)+1)=((k+1:Nat):Int):=acN rfl (by omega);have st7:∀(K:AV->St->Option (AV×St)),aq c (.store 1) [.ptr s.next 0,.int .i64 ((j:Nat):Int)] (ah s (.cells [.int .i64 0] 0)) K=K .undef (ah s (.cells [.int .i64 ((j:Nat):Int)] 0)):=λK=>cG c K s 1 (.int .i64 ((j:Nat):Int)) [.int .i64 0] rfl rfl rfl
  rw[<-z5 k2,TQ];simp only[aL,bu,dI,Za0 aV,eo,az,aT,Zb9,aY,q0,aG,Zb1,cr.c0,aW,cY,fi,cL,gC,w1,so,co,dB,st7,y5]
theorem arX{s0 s:St}{jb:Pos}{Ls:List AV}{R:List (List AV)}{I:List (AV×List (List AV))}(O:Ow s0 s jb Ls R I){i:Nat}{L:AV}{ws:List AV}(hL:Ls[i]? =some L)(hR:R[i]? =some ws){rs:List (List Int)}(hl:ws.length=rs.length)(P:Xf I ws rs):RL s L rs ws:=by refine⟨O.own i L ws hL hR,hl,λi w r h1 h2=>(O.dY _ (P i w r h1 h2)).1,λw hw=> ?_⟩;obtain⟨i,hi,rfl⟩:=Zg4.1 hw;exact(O.dY _ (P i _ rs[i] (H0 hi) (H0 (by omega)))).1.cells.1
def air(lo:Nat)(s:St)(jb:Pos)(Ls:List AV)(rB rA:List (List Int))(N:Nat)(ms:List Pos):Prop:=
 ∀(i:Nat)(m:Pos),ms[i]? =some m->s.heap.get m=some (im (ab6 rB rA N (i:Int)))/\m≠jb/\(∀L∈Ls,aK L≠some m)/\lo<=m.toNat
theorem auq (hc:Sem c){jb:Pos}{H:List AV}(hH:H.length=6){s0:St}{L0 L1 L2 L3 L4:AV}{r0 r1 r2 wB wA:List AV}{I:List (AV×List (List AV))}{rB rA:List (List Int)}{N:Nat}(hN2:N<=10000)(lB:rB.length=N)(lA:rA.length=N)(eB:wB.length=rB.length)(eA:wA.length=rA.length)
  (PB:Xf I wB rB) (PA:Xf I wA rA) (hB:∀r∈rB,Bd N r) (hA:∀r∈rA,Bd N r) (F:Nat):
  ∀(m k f:Nat)(s:St)(L5:AV)(ms:List Pos),m<f->k+m=N->Ow s0 s jb [L0,L1,L2,L3,L4,L5,.af,.af] [r0,r1,r2,wB,wA,ms.map AV.map,[],[]] I->s.heap.get jb=some (.cells (H++[L0,L1,L2,L3,L4,L5,.af,.af]) 0)->ms.length=k->air s0.next.toNat s jb [L0,L1,L2,L3,L4,L5,.af,.af] rB rA N ms->
   ∃    s' L5' ms',Ow s0 s' jb [L0,L1,L2,L3,L4,L5',.af,.af] [r0,r1,r2,wB,wA,ms'.map AV.map,[],[]] I/\s'.heap.get jb=some (.cells (H++[L0,L1,L2,L3,L4,L5',.af,.af]) 0)/\ms'.length=N/\air s0.next.toNat s' jb [L0,L1,L2,L3,L4,L5',.af,.af] rB rA N ms'/\
        ∀(x1:AV)(k6),AG c F k6 f [x1,.ptr jb 0,.int .i64 (N:Int),.int .i64 (k:Int)] s=k6 [x1,.ptr jb 0] s':=by
 intro m;induction m with
 |zero=>
  intro k f s L5 ms hf hk O C hl hM;obtain⟨f,rfl⟩:∃g,f=g+1:=⟨f - 1,by omega⟩
  obtain rfl:k=N:=by omega
  refine⟨s,L5,ms,O,C,hl,hM,λx1 k6=> ?_⟩;rw[TR];simp
 |succ m ih=>
  intro k f s L5 ms hf hk O C hl hM;obtain⟨f,rfl⟩:∃g,f=g+1:=⟨f - 1,by omega⟩
  obtain ⟨mm,u,W,G,hmm,hmg⟩:=atl hc hN2 s O.wf C (Qq hH 3) (Qq hH 4) (arX O (i:=3) rfl rfl eB PB) (arX O (i:=4) rfl rfl eA PA) lB lA hB hA (k:Int) (by omega);have O1:=O.ai G;have C1:=G.get C;obtain⟨t2,s2,V5,c1,c2,O2,C2,K2⟩:=O1.put C1 (c:=c) (Q:=AV×St) 8 (i:=5) (L:=L5) (r:=ms.map AV.map) rfl rfl (x:= .map mm) rfl rfl (by rw[Za5];omega) (by rw[Za5];omega) (o:=11) (by omega);have M2   :air s0.next.toNat s2 jb [L0,L1,L2,L3,L4,V5,.af,.af] rB rA N (ms++[mm]):=λi m' hi=>by
   have gG:u.heap.get m'=some (im (ab6 rB rA N (i:Int)))/\m'≠jb/\(∀L∈[L0,L1,L2,L3,L4,L5,AV.af,AV.af],aK L≠some m')/\s0.next.toNat<=m'.toNat:=by
        by_cases h0:i<ms.length
        .rw[Zc5 h0]at hi;have:=hM i m' hi;exact⟨G.get this.1,this.2⟩
        . rw[Zc4 (by omega)]at hi;have h1:i=k:=by
            rcases Zj2 (i - ms.length) 1 with h|h
            .omega
            .rw[Zc2 (by simpa using h)]at hi;cases hi
          subst h1;rw[show i - ms.length=0 by omega]at hi;simp at hi;subst hi;exact⟨hmg,λe=>by have:=O.wf _ _ C;rw[<-e]at this;omega,λL hL e=>(by have:=O.ltL hL e;omega),Zb3 O.next hmm⟩
   obtain⟨q1,q2⟩:=K2 m' _ gG.2.1 gG.2.2.1 gG.1;exact⟨q1,gG.2.1,q2,gG.2.2.2⟩
  have n1:=λ(K:AV->Option (AV×St))=>kW K (p:=jb) (o:=11) (h:=u.heap) (h2:=s.heap) (v:=L5) (by rw[C1];exact Qq hH 5) (by rw[C];exact Qq hH 5) (O.own 5 L5 _ rfl rfl).beq
  have r1x:=λ(K:AV->AB->Option (AV×St))=>FA (z:=[.qp]) (x:= .map mm) rfl rfl u K
  obtain⟨s',L5',ms',z1,z2,z6,z7,z3⟩:=ih (k+1) f s2 V5 (ms++[mm]) (by omega) (by omega) (by rw[Zc8];exact O2) C2 (by simp;omega) M2;refine⟨s',L5',ms',z1,z2,z6,z7,λx1 k6=> ?_⟩;have aV:(k:Int)<(N:Int):=by omega
  have w1:ax .i64 ((k:Int)+1)=((k+1:Nat):Int):=acN rfl (by omega);rw[<-z3 x1 k6,TR];simp only[aL,bu,dI,Za0 aV,eo,az,di,cY,W,cL,oc,br,Zb9,Zj5,n1,r1x,c1,c2,gC,w1]
theorem aki(z:Bool)(gs:List aR){i:Nat}(hi:i<gs.length)(K:AV->St->Option (AV×St))(s:St):aq c (.idxA 9 none) [dm z gs,.int .i64 (i:Int)] s K=K (.fp (gs.map aR.cells) i 0) s:=by
 unfold dm;rw[aaF];simp[hi]
theorem akj(gs:List aR){i:Nat}(hi:i<gs.length)(K:AV->St->Option (AV×St))(s:St):aq c (.load (some 9)) [.fp (gs.map aR.cells) i 0] s K=K (.agg (gs[i]).cells) s:=by
 rw[aiV];simp[hi]
theorem akk(g:aR)(s:St)(K:AV->St->Option (AV×St)):
  aq c (.alloc [(.str []),(.str []),(.str []),(.int .i64 0),(.int .i64 0),(.str []),(.bool false),(.bool false),.af]) [] s (λx7 s7=>aq c (.store 9) [x7,.agg g.cells] s7 (λ_ s8=>K x7 s8))=K (.ptr s.next 0) (ah s (.cells g.cells 0)):=by
 rw[dB];exact cG c (λ_ s8=>K (.ptr s.next 0) s8) s 9 (.agg g.cells) _ rfl rfl (g.Le (v:=kY g.tz g.tg) (by simp only[aN,ahR]))
def PrR(I:List (AV×List (List AV)))(ws:List AV)(rs:List (List (List AV))):Prop:=∀(i:Nat)(w:AV)(r:List (List AV)),ws[i]? =some w->rs[i]? =some r->(w,r)∈I
theorem PrR.more{I:List (AV×List (List AV))}{ws:List AV}{rs:List (List (List AV))}(h:PrR I ws rs)(e:AV×List (List AV)):PrR (e::I) ws rs:=λi w r h1 h2=>Zb0 _ (h i w r h1 h2)
theorem PrR.snoc{I:List (AV×List (List AV))}{ws:List AV}{rs:List (List (List AV))}(h:PrR I ws rs)(hl:ws.length=rs.length){w:AV}{r:List (List AV)}(hm:(w,r)∈I):PrR I (ws++[w]) (rs++[r]):=λi w' r' h1 h2=>by
 by_cases hi:i<ws.length
 .rw[Zc5 hi]at h1;rw[Zc5 (by omega)]at h2;exact h i w' r' h1 h2
 . rw[Zc4 (by omega)]at h1;rw[Zc4 (by omega)]at h2;by_cases h0:i - ws.length=0
   .rw[h0]at h1;rw[show i - rs.length=0 by omega]at h2;simp at h1 h2;subst h1;subst h2;exact hm
   .rw[Zc2 (by simp;omega)]at h1;cases h1
def acO(r:List Bool):List (List AV):=(r.map AV.bool).map oe
def acP(r:List Int):List (List AV):=(r.map (AV.int .u8)).map oe
def Ss(L:List (List Nat×List (List Nat)))(a b:List Nat):Bool:=decide ((0:Int)<(aa1 L a b:Int))
theorem aur(hc:Sem c)(z:Bool)(gs:List aR)(hl:gs.length<=100){s0 T:St}{bp mp:Pos}{gs2:List aR}{ts:List Ty}{gk tk:Option Pos}(B:eD s0 T bp mp gs2 ts gk tk)(um:ts.length<=1000)(hs:EN ts){jb:Pos}{y:AB}(hj:s0.heap.get jb=some y)
  {L6 L7:AV} {r6 r7:List AV} {I:List (AV×List (List AV))} {Y:AB} {gb:Pos} {gcs:List AV} {a:List Nat} (ha:gcs[0]? =some (.str a)) (hgj:gb≠jb) (F:Nat):
  ∀(m i f:Nat)(s:St)(cv kv:AV)(bs:List Bool)(ks:List Int),m<f->i+m=gs.length->Ow T s jb [L6,L7,cv,kv] [r6,r7,bs.map AV.bool,ks.map (AV.int .u8)] I->s.heap.get jb=some Y->s.heap.get gb=some (.cells gcs 0)->(∀L∈[L6,L7,cv,kv],aK L≠some gb)->bs=(gs.take i).map (λg=>Ss (ZM gs2) a g.name)->ks=(gs.take i).map (λg=>Xe ts a g.name)->
   ∃    (s':St) (cv' kv':AV) (bs':List Bool) (ks':List Int),Ow T s' jb [L6,L7,cv',kv'] [r6,r7,bs'.map AV.bool,ks'.map (AV.int .u8)] I/\s'.heap.get jb=some Y/\bs'=gs.map (λg=>Ss (ZM gs2) a g.name)/\ks'=gs.map (λg=>Xe ts a g.name)/\
        ∀(x1 x7 ais ait aiu:AV)(Nn),wS c F Nn f [x1,x7,.ptr bp 0,.ptr gb 0,cv,kv,ais,ait,aiu,dm z gs,.int .i64 (gs.length:Int),.int .i64 (i:Int)] s=Nn [x1,x7,.ptr bp 0,cv',kv',ais,ait,aiu] s':=by
 intro m;induction m with
 |zero=>
  intro i f s cv kv bs ks hf hi O C hb ad5 h1 h2;obtain⟨f,rfl⟩:∃g,f=g+1:=⟨f - 1,by omega⟩
  obtain rfl:i=gs.length:=by omega
  rw[Zh7]at h1 h2;refine⟨s,cv,kv,bs,ks,O,C,h1,h2,λx1 x7 ais ait aiu Nn=> ?_⟩;rw[TU];simp
 |succ m ih=>
  intro i f s cv kv bs ks hf hi O C hb ad5 h1 h2;obtain⟨f,rfl⟩:∃g,f=g+1:=⟨f - 1,by omega⟩
  have gJ:i<gs.length:=by omega
  have hw:=O.wf;have G1:=Grew.ah hw (.cells (gs[i]).cells 0);have O1:=O.ai G1;have b1':bs.length=i:=by rw[h1,Za5,Zg7];omega
  have k1':ks.length=i:=by rw[h2,Za5,Zg7];omega
  have et:gs.take (i+1)=gs.take i++[gs[i]]:=Zc7 gJ;obtain⟨w,s2,e1,G2,ln⟩:=aoz hc (B.at hj O1.wf O1.keep) a (gs[i]).name;obtain⟨nn,hnn⟩:∃nn,nn=aa1 (ZM gs2) a (gs[i]).name:=⟨_,rfl⟩
  rw[<-hnn]at ln;have O2:=O1.ai G2;have C2:=G2.get (G1.get C);have b2:=G2.get (G1.get hb);have x2:s2.heap.get s.next=some (.cells (gs[i]).cells 0):=G2.get (aA _ _);have far2:∀L∈[L6,L7,cv,kv],aK L≠some s.next:=λL hL e=>by have:=O.ltL hL e;omega
  obtain⟨s3,cv',a1,O3,a3,a4,a5,a6,a7,a8⟩:=O2.abY (c:=c) (Q:=AV×St) 1 (i:=2) (L:=cv) (r:=bs.map AV.bool) rfl rfl (x:= .bool (decide ((0:Int)<(nn:Int)))) rfl rfl (by rw[Za5];omega) (by rw[Za5];omega);have C3:=a3 _ C2;have b3:=a4 gb _ (ad5 cv (by simp)) b2;have x3:=a4 s.next _ (far2 cv (by simp)) x2;have fg3:∀L∈[L6,L7,cv',kv],aK L≠some gb:=Ow.mem_set (i:=2) ad5 λe=>by have:=a8 _ e;have:=O2.wf _ _ b2;omega
  obtain⟨ok,t1⟩:=atp hc (B.at hj O3.wf O3.keep) um hs a (gs[i]).name;obtain⟨k,hk⟩:∃k,k=Xe ts a (gs[i]).name:=⟨_,rfl⟩
  rw[<-hk]at t1;obtain⟨s4,kv',d1,O4,d3,d4,d5,d6,d7,d8⟩:=O3.abY (c:=c) (Q:=AV×St) 1 (i:=3) (L:=kv) (r:=ks.map (AV.int .u8)) rfl rfl (x:= .int .u8 k) rfl rfl (by rw[Za5];omega) (by rw[Za5];omega);have C4:=d3 _ C3;have b4:=d4 gb _ (fg3 kv (by simp)) b3;have fg4:∀L∈[L6,L7,cv',kv'],aK L≠some gb:=Ow.mem_set (i:=3) fg3 λe=>by have:=d8 _ e;have:=O3.wf _ _ b3;omega
  obtain⟨s',cv2,kv2,bs2,ks2,z1,z2,z6,z7,z3⟩:=ih (i+1) f s4 cv' kv' (bs++[decide ((0:Int)<(nn:Int))]) (ks++[k]) (by omega) (by omega) (by rw[Zc8,Zc8];exact O4) C4 b4 fg4 (by rw[et,Zc8, <-h1,hnn];rfl) (by rw[et,Zc8, <-h2,hk];rfl);refine⟨s',cv2,kv2,bs2,ks2,z1,z2,z6,z7,λx1 x7 ais ait aiu Nn=> ?_⟩;have aV:(i:Int)<(gs.length:Int):=by omega
  have w1:ax .i64 ((i:Int)+1)=((i+1:Nat):Int):=acN rfl (by omega);have r1x:=λ(K:AV->St->Option (AV×St))=>FB (c:=c) (z:=[.bool false]) (x:= .bool (decide ((0:Int)<(nn:Int)))) rfl rfl s2 K
  have r2x:=λ(K:AV->St->Option (AV×St))=>FB (c:=c) (z:=[.int .u8 0]) (x:= .int .u8 k) rfl rfl s3 K
  have b1:=G1.get hb;have x1':(ah s (.cells (gs[i]).cells 0)).heap.get s.next=some (.cells (gs[i]).cells 0):=aA _ _;rw[<-z3 x1 x7 ais ait aiu Nn,TU];simp only[aL,bu,dI,Za0 aV,eo,aki z gs gJ,akj gs gJ,akk,az,aT,Zb9,aY,b1,x1',aG,Zb1,ha,aR.c0,aW,cY,e1,cL,ln,BV,r1x,a1,
   b3,x3,t1,jK,Za4,Zb6,r2x,d1,gC,w1]
theorem aq4{H Ls:List AV}(hH:H.length=12)(i:Nat):(H++Ls)[12+i]? =Ls[i]? :=by rw[Zc4 (by omega)];congr 1;omega
structure aq5(I:List (AV×List (List AV)))(r6 r7:List AV)(iQ:List (List Bool))(jL:List (List Int))(n j:Nat):Prop where
 lb:iQ.length=j
 lk:jL.length=j
 eb:∀r∈iQ,r.length=n
 ek:∀r∈jL,r.length=n
 pb:PrR I r6 (iQ.map acO)
 pk:PrR I r7 (jL.map acP)
theorem aus(hc:Sem c)(p:cr)(hl:p.gs.length<=100){s0 T:St}{bp mp:Pos}{gs2:List aR}{ts:List Ty}{gk tk:Option Pos}(B:eD s0 T bp mp gs2 ts gk tk)(um:ts.length<=1000)(hs:EN ts){pb jb:Pos}{y:AB}(hj:s0.heap.get jb=some y)(hpb:T.heap.get pb=some (.cells p.cells 0))(Nl:pb≠jb)
  {H:List AV} (hH:H.length=12) (F:Nat) (hF:1010<=F):
  ∀(m j f:Nat)(s:St)(L6 L7:AV)(r6 r7:List AV)(I:List (AV×List (List AV)))(iQ:List (List Bool))(jL:List (List Int)),m<f->j+m=p.gs.length->Ow T s jb [L6,L7] [r6,r7] I->s.heap.get jb=some (.cells (H++[L6,L7]) 0)->r6.length=j->r7.length=j->aq5 I r6 r7 iQ jL p.gs.length j->iQ=(p.gs.take j).map (λg=>p.gs.map λh=>Ss (ZM gs2) g.name h.name)->jL=(p.gs.take j).map (λg=>p.gs.map λh=>Xe ts g.name h.name)->
   ∃    (s':St) (L6' L7':AV) (r6' r7':List AV) (I':List (AV×List (List AV))) (al8:List (List Bool)) (al9:List (List Int)),Ow T s' jb [L6',L7'] [r6',r7'] I'/\s'.heap.get jb=some (.cells (H++[L6',L7']) 0)/\r6'.length=p.gs.length/\r7'.length=p.gs.length/\aq5 I' r6' r7' al8 al9 p.gs.length p.gs.length/\(al8=p.gs.map (λg=>p.gs.map λh=>Ss (ZM gs2) g.name h.name)/\al9=p.gs.map (λg=>p.gs.map λh=>Xe ts g.name h.name))/\
        ∀(k8),AH c F k8 f [.ptr pb 0,.ptr jb 0,.ptr bp 0,dm p.gz p.gs,.int .i64 (p.gs.length:Int),.int .i64 (j:Int)] s=k8 [.ptr jb 0] s':=by
 intro m;induction m with
 |zero=>
  intro j f s L6 L7 r6 r7 I iQ jL hf hi O C h1 h2 hG hB hK;obtain⟨f,rfl⟩:∃g,f=g+1:=⟨f - 1,by omega⟩
  obtain rfl:j=p.gs.length:=by omega
  rw[Zh7]at hB hK;refine⟨s,L6,L7,r6,r7,I,iQ,jL,O,C,h1,h2,hG,⟨hB,hK⟩,λk8=> ?_⟩;rw[TV];simp
 |succ m ih=>
  intro j f s L6 L7 r6 r7 I iQ jL hf hi O C h1 h2 hG hB hK;obtain⟨f,rfl⟩:∃g,f=g+1:=⟨f - 1,by omega⟩
  have gJ:j<p.gs.length:=by omega
  have hw:=O.wf;have G1:=Grew.ah hw (.cells (p.gs[j]).cells 0);have O1:Ow T (ah s (.cells (p.gs[j]).cells 0)) jb [L6,L7,.af,.af] [r6,r7,[],[]] I:=((O.ai G1).snoc).snoc;have C1:=G1.get C;have yu:∀L∈[L6,L7,AV.af,AV.af],aK L≠some s.next:=λL hL e=>by
   simp only[Za9,Zc3,Zf0]at hL;rcases hL with rfl|rfl|rfl|rfl
   .    have:=O.ltL (L:=L) (by simp) e;omega
   .    have:=O.ltL (L:=L) (by simp) e;omega
   .    cases e
   .    cases e
  have et:p.gs.take (j+1)=p.gs.take j++[p.gs[j]]:=Zc7 gJ;obtain⟨s2,cv,kv,bs,ks,O2,C2,ebs,eks,z3⟩:=aur hc p.gz p.gs hl B um hs hj (gb:=s.next) (gcs:=(p.gs[j]).cells) (a:=(p.gs[j]).name) rfl (λe=>by have:=hw _ _ C;rw[<-e]at this;omega) F p.gs.length 0 F _ .af .af [] [] (by omega) (by omega) O1 C1 (aA _ _) yu rfl rfl;have lbs:bs.length=p.gs.length:=by rw[ebs,Za5]
  have lks:ks.length=p.gs.length:=by rw[eks,Za5]
  obtain⟨cc,co⟩:=(O2.own 2 cv _ rfl rfl).cells;obtain⟨kc,ko⟩:=(O2.own 3 kv _ rfl rfl).cells;have O2':Ow T s2 jb [L6,L7] [r6,r7] ((cv,acO bs)::(kv,acP ks)::I):=(Ow.take (Ls:=[L6,L7]) (R:=[r6,r7]) (Ow.take (Ls:=[L6,L7,cv]) (R:=[r6,r7,bs.map AV.bool]) O2))
  obtain⟨s3,V6,a1,O3,a3,a4,a5,a6,a7,a8⟩:=O2'.abY (c:=c) (Q:=AV×St) 24 (i:=0) (L:=L6) (r:=r6) rfl rfl (x:=cv) cc co (by omega) (by omega);have C3:=a3 _ C2;obtain⟨s4,V7,d1,O4,d3,d4,d5,d6,d7,d8⟩:=O3.abY (c:=c) (Q:=AV×St) 24 (i:=1) (L:=L7) (r:=r7) rfl rfl (x:=kv) kc ko (by omega) (by omega);have C4:=d3 _ C3;have O5:=(O4.store (.cells (H++[V6,L7]) 0)).store (.cells (H++[V6,V7]) 0);have bD:∀(K:AV->St->Option (AV×St)),aq c (.store 1) [.ptr jb 12,V6] s4 K=K .undef (bg s4 jb (.cells (H++[V6,L7]) 0)):=λK=>by rw[Ks K C4 (by simp;omega) a5 a6,Zk2 _ _ (by omega),show 12 - H.length=0 by omega];rfl
  have An:∀(K:AV->St->Option (AV×St)),aq c (.store 1) [.ptr jb 13,V7] (bg s4 jb (.cells (H++[V6,L7]) 0)) K=K .undef (bg (bg s4 jb (.cells (H++[V6,L7]) 0)) jb (.cells (H++[V6,V7]) 0)):=λK=>by rw[Ks K (bG _ _ _) (by simp;omega) d5 d6,Zk2 _ _ (by omega),show 13 - H.length=1 by omega];rfl
  have hG':aq5 ((cv,acO bs)::(kv,acP ks)::I) (r6++[cv]) (r7++[kv]) (iQ++[bs]) (jL++[ks]) p.gs.length (j+1):=by
   have e1:=hG.lb;have e2:=hG.lk;refine⟨by simp;omega,by simp;omega,λr hr=> ?_,λr hr=> ?_,?_,?_⟩
   .    rcases Zd5.1 hr with h|h
        .exact hG.eb r h
        .simp at h;subst h;exact lbs
   .    rcases Zd5.1 hr with h|h
        .exact hG.ek r h
        .simp at h;subst h;exact lks
   .    rw[Zc8];exact((hG.pb.more _).more _).snoc (by simp;omega) (Zd6)
   .    rw[Zc8];exact((hG.pk.more _).more _).snoc (by simp;omega) (Zb0 _ Zd6)
  obtain⟨s',L6',L7',r6',r7',I',al8,al9,y1,y2,y6,y7,y8,y9,y3⟩:=ih (j+1) f _ V6 V7 (r6++[cv]) (r7++[kv]) _ (iQ++[bs]) (jL++[ks]) (by omega) (by omega) O5 (bG _ _ _) (by simp;omega) (by simp;omega) hG' (by rw[et,Zc8, <-hB,ebs];rfl) (by rw[et,Zc8, <-hK,eks];rfl);refine⟨s',L6',L7',r6',r7',I',al8,al9,y1,y2,y6,y7,y8,y9,λk8=> ?_⟩;have aV:(j:Int)<(p.gs.length:Int):=by omega
  have w1:ax .i64 ((j:Int)+1)=((j+1:Nat):Int):=acN rfl (by omega);have q1:=O1.keep pb _ Nl hpb;have g12:(H++[L6,L7])[12]? =some L6:=aq4 hH 0;have r1x:=λ(K:AV->AB->Option (AV×St))=>FA (z:=[.af]) (x:=cv) rfl cc s2 K
  have r2x:=λ(K:AV->AB->Option (AV×St))=>FA (z:=[.af]) (x:=kv) rfl kc s3 K
  have n1:=λ(K:AV->Option (AV×St))=>kW K (p:=jb) (o:=13) (h:=s3.heap) (h2:=s2.heap) (v:=L7) (by rw[C3];exact aq4 hH 1) (by rw[C2];exact aq4 hH 1) (O2.own 1 L7 r7 rfl rfl).beq
  have lG:∀(K:AV->St->Option (AV×St))(s:St),aq c (.lenB .l) [dm p.gz p.gs] s K=K (.int .i64 (p.gs.length:Int)) s:=λK s=>by unfold dm;rw[jv];simp
  rw[<-y3 k8,TV];simp only[aL,bu,dI,Za0 aV,eo,aki p.gz p.gs gJ,akj p.gs gJ,akk,az,aT,Zb9,aY,q1,aG,Zb1,cr.c1,aW,lG];rw[show(0:Int)=((0:Nat):Int)from rfl,z3];simp only[aL,bu,di,oc,br,Zb9,jN,C2,aG,Zb1,g12,aW,r1x,a1,Zj5,n1,r2x,d1,bD,An,gC,w1,az]
def WE(gs:List aR):List (List Bool):=gs.map λg=>gs.map λh=>Ss (ZM gs) g.name h.name
noncomputable def aqj(gs:List aR)(ts:List Ty):List (List Int):=gs.map λg=>gs.map λh=>Xe ts g.name h.name
theorem aji{p:cr}(h:(jZ p).2=0):(bR p.ts).2=0/\(dU p.gs p.ys).2=0:=by
 have hb:(jF p).2=0:=by
   unfold jZ at h;by_cases e:(jF p).2=0
   .exact e
   .rw[Zb4 e]at h;exact absurd h e
 unfold jF at hb;by_cases h1:(bR p.ts).2=0
 . rw[Za6 (by simpa using h1)]at hb;by_cases h2:(dU p.gs p.ys).2=0
   .exact⟨h1,h2⟩
   .rw[Zb4 h2]at hb;exact absurd hb h2
 .rw[Zb4 h1]at hb;exact absurd hb h1
def Tg(s0 s:St)(v:AV)(rows:List (List AV)):Prop:=QS 1 s v rows/\∀b,aK v=some b->s0.next.toNat<=b.toNat/\s.heap.get b=some (.cells rows.flatten 0)
theorem Tg.mono{s0 s s':St}{v:AV}{rows:List (List AV)}(h:Tg s0 s v rows)(hk:∀b x,s0.next.toNat<=b.toNat->s.heap.get b=some x->s'.heap.get b=some x):Tg s0 s' v rows:=
 ⟨h.1.mono λb x hb hx=>hk b x (h.2 b hb).1 hx,λb hb=>⟨(h.2 b hb).1,hk b _ (h.2 b hb).1 (h.2 b hb).2⟩⟩
theorem Tg.base{s1 s0 s:St}{v:AV}{rows:List (List AV)}(h:Tg s0 s v rows)(hn:s1.next.toNat<=s0.next.toNat):Tg s1 s v rows:=⟨h.1,λb hb=>⟨Zb3 hn (h.2 b hb).1,(h.2 b hb).2⟩⟩
theorem Ow.tg{s0 s:St}{jb:Pos}{Ls:List AV}{R:List (List AV)}{I:List (AV×List (List AV))}(O:Ow s0 s jb Ls R I){i:Nat}{L:AV}{r:List AV}(hL:Ls[i]? =some L)(hR:R[i]? =some r):Tg s0 s L (r.map oe):=
 ⟨O.own i L r hL hR,λb hb=>⟨O.new L (Zc1 hL) b hb,by rw[afU];exact O.tig i L r hL hR b hb⟩⟩
theorem Ow.tgi{s0 s:St}{jb:Pos}{Ls:List AV}{R:List (List AV)}{I:List (AV×List (List AV))}(O:Ow s0 s jb Ls R I){w:AV}{rows:List (List AV)}(h:(w,rows)∈I):Tg s0 s w rows:=
 ⟨(O.dY _ h).1,λb hb=>⟨O.inw _ h b hb,O.itg _ h b hb⟩⟩
structure JD(s0 s:St)(jb:Pos)(Vs:List AV)(ts:List aB)(N n:Nat)(iQ:List (List Bool))(jL:List (List Int)):Prop where
 all:∃(m:Pos) (L0 L1 L2 L3 L4 L5 L6 L7:AV) (wB wA:List AV) (ms:List Pos) (r6 r7:List AV),s.heap.get jb=some (.cells (Vs++[.map m,L0,L1,L2,L3,L4,L5,L6,L7]) 0)/\
  (s0.next.toNat<=m.toNat/\s.heap.get m=some (.map EL 18))/\Tg s0 s L0 ((A7 ts N).map oe)/\Tg s0 s L1 ((A8 ts N).map oe)/\Tg s0 s L2 ((A9 ts N).map oe)/\
  (Tg s0 s L3 (wB.map oe)/\wB.length=N/\∀(i:Nat)(w:AV)(r:List Int),wB[i]? =some w->(xO ts N)[i]? =some r->Tg s0 s w (r.map bJ))/\
  (Tg s0 s L4 (wA.map oe)/\wA.length=N/\∀(i:Nat)(w:AV)(r:List Int),wA[i]? =some w->(xP ts N)[i]? =some r->Tg s0 s w (r.map bJ))/\
  (Tg s0 s L5 ((ms.map AV.map).map oe)/\ms.length=N/\∀(i:Nat)(m:Pos),ms[i]? =some m->s0.next.toNat<=m.toNat/\s.heap.get m=some (im (ab6 (xO ts N) (xP ts N) N (i:Int))))/\
  (Tg s0 s L6 (r6.map oe)/\r6.length=n/\∀(i:Nat)(w:AV)(r:List Bool),r6[i]? =some w->iQ[i]? =some r->Tg s0 s w (acO r))/\
  (Tg s0 s L7 (r7.map oe)/\r7.length=n/\∀(i:Nat)(w:AV)(r:List Int),r7[i]? =some w->jL[i]? =some r->Tg s0 s w (acP r))
 n1:iQ.length=n
 n2:jL.length=n
 n3:∀r∈iQ,r.length=n
 n4:∀r∈jL,r.length=n
theorem ajj(hc:Sem c)(p:cr)(hp:p.Gw)(hRo:acE c p)(hR:p.Real)(hr:∀r∈p.rs,r.Ok)(s:St)(hw:Wf s)(h:(jZ p).2=0):
   ∃(jb:Pos) (s':St) (Vs:List AV) (N:Nat) (iQ:List (List Bool)) (jL:List (List Int)),c 18 [.agg p.cells] s=some (.tuple [.ptr jb 0,.int .i64 0,.int .i64 0],s')/\PS s s' Vs p/\(N:Int)=aU p.ts/\JD s s' jb Vs p.ts N p.gs.length iQ jL/\s.next.toNat<=jb.toNat/\Vs.length=5/\iQ=WE p.gs/\jL=aqj p.gs p.ys:=by
 obtain⟨hv,avh⟩:=aji h;have h16:=Ng hv;have cO:Wf (ah s (.cells p.cells 0)):=bF hw;have G1:=Grew.ah hw (.cells p.cells 0);have ck:=afx hc p hp hRo hr _ cO;obtain⟨Vs,s1,cp,P⟩:=alW hc p hR _ cO;obtain⟨vl,vo⟩:=P.cells;obtain⟨V1,V2,V3,V4,V5,rfl⟩:∃V1 V2 V3 V4 V5,Vs=[V1,V2,V3,V4,V5]:=by
   match Vs,vl with
   |[a,b,c,d,e],_=>exact⟨a,b,c,d,e,rfl⟩
 have w1:=P.ai.wf;have kk:=ah3 hc s1;have w2:Wf (ah s1 (.map EL 18)):=bF w1;have G2:=Grew.ah w1 (.map EL 18)
 let s2:=ah s1 (.map EL 18)
 let H:=[V1,V2,V3,V4,V5,AV.map s1.next]
 let J0:List AV:=H++[.af,.af,.af,.af,.af,.af,.af,.af]
 have w3:Wf (ah s2 (.cells J0 0)):=bF w2;have G3:Grew s2 (ah s2 (.cells J0 0)):=Grew.ah w2 _
 let jb:=s2.next
 let s3:=ah s2 (.cells J0 0)
 have cj:s3.heap.get jb=some (.cells J0 0):=aA _ _;have ltj:jb.toNat<s3.next.toNat:=by show s2.next.toNat<s2.next.succ.toNat;rw[Pos.aD];exact Nat.lt_succ_self _
 have pb3:s3.heap.get s.next=some (.cells p.cells 0):=((P.ai.trans G2).trans G3).get (aA _ _);have Nl:s.next≠jb:=λe=>by have e1:=P.ai.next;rw[bN,Pos.aD]at e1;have e2:s2.next.toNat=s1.next.toNat+1:=(by show(ah s1 _).next.toNat=_;rw[bN,Pos.aD]);have:s.next.toNat=s2.next.toNat:=(by rw[e]);omega
 have O0:Ow s3 s3 jb [.af,.af,.af,.af,.af,.af,.af,.af] [[],[],[],[],[],[],[],[]] []:=Ow.none w3 ltj 8;obtain⟨N,hN⟩:∃N:Nat,(N:Int)=aU p.ts:=⟨(aU p.ts).toNat,by have:=(om p.ts).1;omega⟩
 have hN2:N<=10000:=by have:=aip p.ts;omega
 obtain⟨s4,Ls,R,I,S4,z4⟩:=auo hc p hp.ok hv h16 (H:=H) rfl pb3 Nl hN 20000 (by omega) p.ts.length 0 20000 s3 _ _ _ 0 (by have:=hp.ts;omega) (by omega)
   ⟨O0,cj,.af,.af,.af,.af,.af,[],[],rfl,rfl,rfl,rfl,λi w r h=>(by simp at h),λi w r h=>(by simp at h)⟩ (by simp[aU])
 obtain⟨L0,L1,L2,L3,L4,wB,wA,rfl,rfl,e3,e4,PB,PA⟩:=S4.shp;have lBA:=M8 p.ts N;obtain⟨hB,hA⟩:=aaT hN;obtain⟨s5,L5,ms,O5,C5,lms,M5,z5⟩:=auq hc (H:=H) rfl hN2 lBA.1 lBA.2 (by rw[lBA.1];exact e3) (by rw[lBA.2];exact e4) PB PA hB hA 20000 N 0 20000 s4 .af [] (by omega) (by omega) S4.ow S4.cell rfl (λi m h=>by simp at h);have w5:=O5.wf;obtain⟨v6,s6,e6,k6,b6⟩:=Qg hc p.gz p.yz p.gs p.ys hp.gs hp.ys s5 w5;obtain⟨bp,mp,gk,tk,rfl,B,hs⟩:=b6 avh;have w6:=B.wf;have hj6:=k6 _ _ C5;have hj5:(ah s5 (.cells [dm p.gz p.gs,gL p.yz p.ys] 0)).heap.get jb=some (.cells (H++[L0,L1,L2,L3,L4,L5,.af,.af]) 0):=(Grew.ah w5 _).get C5;have lt6:=w6 _ _ hj6;have pb5:=O5.keep s.next _ Nl pb3;have pb6:=k6 _ _ pb5
 let H':=H++[L0,L1,L2,L3,L4,L5]
 have O6:Ow s6 s6 jb [.af,.af] [[],[]] []:=Ow.none w6 lt6 2;obtain⟨s7,L6,L7,r6,r7,I',iQ,jL,O7,C7,l6,l7,G7,⟨eB,eK⟩,z7⟩:=aus hc p hp.gs B (by have:=hp.ys;omega) hs hj5 pb6 Nl (H:=H') rfl 20000 (by omega) p.gs.length 0 20000 s6 .af .af [] [] [] [] [] (by have:=hp.gs;omega) (by omega) O6 hj6 rfl rfl ⟨rfl,rfl,λr h=>(by cases h),λr h=>(by cases h),λi w r h=>(by simp at h),λi w r h=>(by simp at h)⟩ rfl rfl;have keep:∀q x,q≠jb->s3.heap.get q=some x->s7.heap.get q=some x:=λq x hq hx=>O7.keep q x hq (k6 _ _ (O5.keep q x hq hx))
 have G03:Grew s s3:=((G1.trans P.ai).trans G2).trans G3;have jge:s1.next.toNat<jb.toNat:=by show _<(ah s1 _).next.toNat;rw[bN,Pos.aD];omega
 have sle:s.next.toNat<=s1.next.toNat:=(G1.trans P.ai).next;have G07:Grew s s7:=⟨O7.wf,λq x hx=>keep q x (λe=>by have:=hw _ _ hx;rw[e]at this;omega) (G03.get hx),by have a1:=G03.next;have a2:=O5.next;have a3:=B.next;have a4:=O7.next;rw[bN,Pos.aD]at a3;omega⟩
 have PE:PS s s7 [V1,V2,V3,V4,V5] p:=P.qP hw G1 G07 λq b _ hx=>keep q b (λe=>by have:=w1 _ _ hx;rw[e]at this;omega) ((G2.trans G3).get hx)
 have n03:s.next.toNat<=s3.next.toNat:=G03.next;have n36:s3.next.toNat<=s6.next.toNat:=Zb3 O5.next (by have:=B.next;rw[bN,Pos.aD]at this;omega);have aq6:∀q x,q≠jb->s5.heap.get q=some x->s7.heap.get q=some x:=λq x hq hx=>O7.keep q x hq (k6 _ _ hx)
 have nj:∀q:Pos,s3.next.toNat<=q.toNat->q≠jb:=λq hq e=>by rw[e]at hq;omega
 have T5:∀{i:Nat}{L:AV}{r:List AV},([L0,L1,L2,L3,L4,L5,.af,.af]:List AV)[i]? =some L->([A7 p.ts N,A8 p.ts N,A9 p.ts N,wB,wA,ms.map AV.map,[],[]]:List (List AV))[i]? =some r->Tg s s7 L (r.map oe):=λh1 h2=>
   ((Ow.tg O5 h1 h2).mono λb x hb hx=>aq6 b x (nj b hb) hx).base n03
 have T5i:∀{w:AV}{rows:List (List AV)},(w,rows)∈I->Tg s s7 w rows:=λh=>((Ow.tgi O5 h).mono λb x hb hx=>aq6 b x (nj b hb) hx).base n03
 have n06:=Zb3 n03 n36;refine⟨jb,s7,[V1,V2,V3,V4,V5],N,iQ,jL,?_,PE,hN,⟨⟨s1.next,L0,L1,L2,L3,L4,L5,L6,L7,wB,wA,ms,r6,r7,C7,⟨sle,keep _ _ (λe=>by rw[<-e]at jge;omega) (G3.get (aA _ _))⟩,T5 (i:=0) rfl rfl,T5 (i:=1) rfl rfl,T5 (i:=2) rfl rfl,
   ⟨T5 (i:=3) rfl rfl,e3,λi w r h1 h2=>T5i (PB i w r h1 h2)⟩,⟨T5 (i:=4) rfl rfl,e4,λi w r h1 h2=>T5i (PA i w r h1 h2)⟩,⟨T5 (i:=5) rfl rfl,lms,λi m h=> ?_⟩,
   ⟨(Ow.tg O7 (i:=0) rfl rfl).base n06,l6,λi w r h1 h2=>(Ow.tgi O7 (G7.pb i w _ h1 (by rw[Zb7,h2];rfl))).base n06⟩,⟨(Ow.tg O7 (i:=1) rfl rfl).base n06,l7,λi w r h1 h2=>(Ow.tgi O7 (G7.pk i w _ h1 (by rw[Zb7,h2];rfl))).base n06⟩⟩,G7.lb,G7.lk,G7.eb,G7.ek⟩,by omega,rfl,eB,eK⟩
 . have hcut:cut p.cells 0 5=some p.cells:=cQ rfl;have eZ:=aA s (.cells p.cells 0);have bx:∀(K:AV->St->Option (AV×St)),aq c .box [.agg p.cells] s K=K (.ptr s.next 0) (ah s (.cells p.cells 0)):=λK=>by rw[dy];rfl
   have bx2:∀(K:AV->St->Option (AV×St)),aq c .box [.agg J0] s2 K=K (.ptr jb 0) s3:=λK=>by rw[dy];rfl
   have hd:decide ((jZ p).2=0)=true:=Za0 h;have cj1:s1.heap.get s.next=some (.cells p.cells 0):=P.ai.get eZ;have ag:(AV.agg [V1,V2,V3,V4,V5]).cells=[V1,V2,V3,V4,V5]:=rfl;have bd:∀(K:AV->St->Option (AV×St)),aq c (.build [.af,.af,.af,.af,.af,.qp,.af,.af,.af,.af,.af,.af,.af,.af] [(0,5),(5,1)]) [.agg [V1,V2,V3,V4,V5],.map s1.next] s2 K=K (.agg J0) s2:=λK=>by rw[ig];rfl
   have bd2:∀(K:AV->St->Option (AV×St)),aq c (.build [.af,.af] [(0,1),(1,1)]) [dm p.gz p.gs,gL p.yz p.ys] s5 K=K (.agg [dm p.gz p.gs,gL p.yz p.ys]) s5:=λK=>by rw[ig,ve];rfl
   have lT:∀(K:AV->St->Option (AV×St))(s:St),aq c (.lenB .l) [tabs p.tz p.ts] s K=K (.int .i64 (p.ts.length:Int)) s:=λK s=>by unfold tabs;rw[jv];simp
   have lG:∀(K:AV->St->Option (AV×St))(s:St),aq c (.lenB .l) [dm p.gz p.gs] s K=K (.int .i64 (p.gs.length:Int)) s:=λK s=>by unfold dm;rw[jv];simp
   have l0:∀(K:AV->St->Option (AV×St))(s:St),aq c (.lenB .l) [L0] s K=K (.int .i64 (N:Int)) s:=λK s=>by
    rw[(S4.ow.own 0 L0 _ rfl rfl).lenB K s,Za5,(Sb p.ts N).1]
   have pb4:=S4.ow.keep s.next _ Nl pb3;have g6:(H++[L0,L1,L2,L3,L4,.af,.af,.af])[6]? =some L0:=rfl;have c4:=S4.cell;have run:=aiv hc 20000 (x0:= .agg p.cells) (s:=s) (r:=(.tuple [.ptr jb 0,.int .i64 0,.int .i64 0],s7)) (by
    rw[ama];simp only[bx,az,gW,eZ,aG,Zb1,hcut,fC,cY,ck,cL,jK,Za4,Zb6,aW,Pb,hd,Zj6,dQ,cp,kk];rw[show ah s1 (.map EL 18)=s2 from rfl,bd,bx2];simp only[az,aT,Zb9,aY,pb3,aG,Zb1,cr.c0,aW,lT];rw[show(0:Int)=((0:Nat):Int)from rfl,z4];simp only[aL,bu,az,cE,aT,Zb9,aY,c4,aG,Zb1,g6,aW,l0];rw[z5];simp only[aL,bu,az,aT,Zb9,aY,pb5,aG,Zb1,cr.c1,cr.c2,aW,bd2,cY,e6,cL,jK,Za4,Zb6,pb6,lG];rw[z7];simp only[aL,bu,az])
   rw[run];unfold tidy;rw[Za6 (λe=>TG e.1)]
 .have:=M5 i m h;exact⟨Zb3 n03 this.2.2.2,aq6 m _ this.2.1 this.1⟩
end
section
open Go Go.Ai Go.Proofs
section
variable{p p':cr}
theorem cr.gD.tab(h:p.gD p'){t':aB}(ht:t'∈p'.ts):∃t∈p.ts,t.gD t':=by
 obtain⟨i,hi,rfl⟩:=Zg4.1 ht;have sN:i<p.ts.length:=by rw[<-h.tl];exact hi
 exact⟨p.ts[i],Zb8 sN,h.ts i _ _ (H0 sN) (H0 hi)⟩
theorem cr.gD.qy(h:p.gD p'){t':aR}(ht:t'∈p'.gs):∃t∈p.gs,t.gD t':=by
 obtain⟨i,hi,rfl⟩:=Zg4.1 ht;have sN:i<p.gs.length:=by rw[<-h.gl];exact hi
 exact⟨p.gs[i],Zb8 sN,h.gs i _ _ (H0 sN) (H0 hi)⟩
theorem cr.gD.zC(h:p.gD p')(hp:p.Gw):p'.Gw where
 ts:=by rw[h.tl];exact hp.ts
 gs:=by rw[h.gl];exact hp.gs
 ys:=by rw[h.ys];exact hp.ys
 cs:=by rw[h.cs];exact hp.cs
 rs:=by rw[h.rs];exact hp.rs
 ok t ht:=by obtain⟨u,hu,z,rfl⟩:=h.tab ht;have:=hp.ok u hu;exact⟨this.1,this.2⟩
theorem cr.gD.real(h:p.gD p')(hp:p.Real):p'.Real where
 ts:=by rw[h.tl];exact hp.ts
 tab t ht:=by obtain⟨u,hu,z,rfl⟩:=h.tab ht;have:=hp.tab u hu;exact⟨this.1,this.2⟩
 gs:=by rw[h.gl];exact hp.gs
 qy t ht:=by obtain⟨u,hu,z,rfl⟩:=h.qy ht;have:=hp.qy u hu;exact⟨this.1,this.2,this.3,this.4,this.5⟩
 ys:=by rw[h.ys];exact hp.ys
 cs:=by rw[h.cs];exact hp.cs
 rs:=by rw[h.rs];exact hp.rs
theorem aq7(t:aB){v:AV}(h:bM v):∀x∈t.av v,bM x:=λx hx=>by simp only[aB.av,Za9,Zc3,Zf0]at hx;rcases hx with rfl|rfl|rfl|rfl|rfl|rfl|rfl<;>first|exact h|exact bM.str _|exact bM.int _ _
theorem aq8(t:aR){v:AV}(h:bM v):∀x∈t.av v,bM x:=λx hx=>by simp only[aR.av,Za9,Zc3,Zf0]at hx;rcases hx with rfl|rfl|rfl|rfl|rfl|rfl|rfl|rfl|rfl<;>first|exact h|exact bM.str _|exact bM.int _ _|exact bM.bool _
theorem yO{α:Type}{f:α->List AV}(h:∀a,∀x∈f a,bM x)(l:List α):∀r∈l.map f,∀x∈r,bM x:=λr hr x hx=>by obtain⟨a,_,rfl⟩:=Zc6.1 hr;exact h a x hx
theorem Np(i:Int):∀x∈bJ i,bM x:=λx hx=>by simp only[bJ,Za9,Zc3,Zf0]at hx;subst hx;exact bM.int _ _
theorem aoC(i:List Nat):∀x∈SD i,bM x:=λx hx=>by simp only[SD,Za9,Zc3,Zf0]at hx;subst hx;exact bM.str _
theorem atq(t:Ty):∀x∈t.cells,bM x:=λx hx=>by simp only[Ty.cells,Za9,Zc3,Zf0]at hx;rcases hx with rfl|rfl|rfl<;>first|exact bM.str _|exact bM.int _ _
theorem atr(t:Rl):∀x∈t.cells,bM x:=λx hx=>by simp only[Rl.cells,Za9,Zc3,Zf0]at hx;rcases hx with rfl|rfl|rfl|rfl|rfl|rfl<;>first|exact bM.str _|exact bM.int _ _
end
section
variable{s s1:St}
theorem TS.dc{V:AV}{ts:List aB}{rows:List (List AV)}(hw:Wf s)(h:TS (emptyAt s) s1 V ts rows):TS s (dc s s1) V ts rows where
 out:=Mk.dc hw h.out (λr hr x hx=>by
  obtain⟨i,hi,rfl⟩:=Zg4.1 hr;have ht:i<ts.length:=by rw[<-h.len];exact hi
  obtain⟨v,e,M,_⟩:=h.dY i _ _ (H0 ht) (H0 hi);rw[e]at hx;exact aq7 _ M.own.bare x hx)
 len:=h.len
 dY i t r hi hr:=by
  obtain⟨v,e,M,n⟩:=h.dY i t r hi hr;exact⟨v,e,Mk.dc hw M (yO Np _),n⟩
theorem GS.dc{V:AV}{ts:List aR}{rows:List (List AV)}(hw:Wf s)(h:GS (emptyAt s) s1 V ts rows):GS s (dc s s1) V ts rows where
 out:=Mk.dc hw h.out (λr hr x hx=>by
  obtain⟨i,hi,rfl⟩:=Zg4.1 hr;have ht:i<ts.length:=by rw[<-h.len];exact hi
  obtain⟨v,e,M,_⟩:=h.dY i _ _ (H0 ht) (H0 hi);rw[e]at hx;exact aq8 _ M.own.bare x hx)
 len:=h.len
 dY i t r hi hr:=by
  obtain⟨v,e,M,n⟩:=h.dY i t r hi hr;exact⟨v,e,Mk.dc hw M (yO aoC _),n⟩
theorem PS.dc{Vs:List AV}{p:cr}(hw:Wf s)(h:PS (emptyAt s) s1 Vs p):PS s (dc s s1) Vs p:=by
 obtain⟨V1,V2,V3,V4,V5,r1,r2,e,h1,h2,h3,h4,h5⟩:=h.all;exact⟨ZI hw h.ai.wf h.ai.next,V1,V2,V3,V4,V5,r1,r2,e,TS.dc hw h1,GS.dc hw h2,Mk.dc hw h3 (yO atq _),Mk.dc hw h4 (yO Np _),Mk.dc hw h5 (yO atr _)⟩
theorem PS.bare{s0:St}{Vs:List AV}{p:cr}(h:PS s0 s Vs p):∀V∈Vs,bM V:=λV hV=>by
 obtain⟨V1,V2,V3,V4,V5,r1,r2,rfl,h1,h2,h3,h4,h5⟩:=h.all;simp only[Za9,Zc3,Zf0]at hV;rcases hV with rfl|rfl|rfl|rfl|rfl
 .exact h1.out.own.bare
 .exact h2.out.own.bare
 .exact h3.own.bare
 .exact h4.own.bare
 .exact h5.own.bare
end
abbrev qe(l:List Int):List AV:=l.map (AV.int .i64)
def PW:List AV->Option (List Int)
 |[]=>some []
 |  .int .i64 x::l=>match PW l with
    |some r=>some (x::r)
    |none=>none
 |_=>none
def Bb(l:List Int):List Int:=l.mergeSort λx y=>decide (x<=y)
def rowOf(st:St)(b:Pos)(o n:Nat):Option (List AV×List Int):=match st.heap.get b with
 |  some (.cells cs 0)=>match PW ((cs.drop o).take n)with
    |some zs=>match Nat.beq zs.length n&&Nat.ble n 1000000 with
     |true=>some (cs,zs)
     |false=>none
    |none=>none
 |_=>none
def laid(st:St)(b:Pos)(cs:List AV)(o:Nat)(zs:List Int):St:=st.bh none (some (b,.cells (aQ cs o (qe zs)) 0)) none
def Sq:List AV->St->Option (AV×St)
 |[.af],st=>some (.tuple [],st)
 |  [.slice b o n _ 1],st=>match n with
    |0=>some (.tuple [],st)
    |n+1=>match rowOf st b o (n+1)with
     |some (cs,zs)=>some (.tuple [],laid st b cs o (Bb zs))
     |none=>none
 |_,_=>none
def Bs:List AV->St->Option (AV×St)
 |[.af],st=>some (.af,st)
 |  [.slice b o n cp 1],st=>match n with
    |0=>some (.slice b o 0 cp 1,st)
    |n+1=>match rowOf st b o (n+1)with
     |some (cs,zs)=>some (.slice b o (Lib.compact zs).length cp 1,laid st b cs o (Lib.compact zs++List.replicate (zs.length - (Lib.compact zs).length) 0))
     |none=>none
 |_,_=>none
theorem Ob(zs:List Int):(Lib.compact zs).length<=zs.length:=by
 unfold Lib.compact Lib.compactUpTo;rw[Za5];exact Zb3 (Zk1 _ _) (by simp)
theorem ai2(zs:List Int)(x:Int):x∈Lib.compact zs↔x∈zs:=by
 unfold Lib.compact Lib.compactUpTo;simp only[Zc6,Zj4,Zg3];constructor
 .rintro⟨i,⟨hi,_⟩,rfl⟩;simp[getElem!_pos,hi]
 . intro hx;obtain⟨n,hn,rfl⟩:=Zg4.1 hx
   suffices h:∀m n,n<=m->(hn:n<zs.length)->∃i,(i<zs.length/\Lib.keeps zs.toArray i=true)/\zs.toArray[i]! =zs[n]by
    obtain⟨i,h1,h2⟩:=h n n (Za3 _) hn;exact⟨i,h1,h2⟩
   intro m;induction m with
   |zero=>
    intro n hm hn;have:n=0:=(by omega);subst this;exact⟨0,⟨hn,Lib.keeps_lt_one _ 0 (by omega)⟩,by simp[getElem!_pos,hn]⟩
   |succ m ih=>
    intro n hm hn;by_cases h0:n=0
    .   subst h0;exact⟨0,⟨hn,Lib.keeps_lt_one _ 0 (by omega)⟩,by simp[getElem!_pos,hn]⟩
    by_cases he:zs[n]=zs[n - 1]'(by omega)
    .   obtain⟨i,h1,h2⟩:=ih (n - 1) (by omega) (by omega);exact⟨i,h1,h2.trans he.symm⟩
    .   refine⟨n,⟨hn,Lib.keeps_pos ?_⟩,by simp[getElem!_pos,hn]⟩;simpa [getElem!_pos,hn,show n - 1<zs.length by omega]using he
theorem anI(zs:List Int)(x:Int):x∈Bb zs↔x∈zs:=by unfold Bb;exact(List.mergeSort_perm _ _).mem_iff
theorem B6(zs:List Int):(Bb zs).length=zs.length:=by unfold Bb;exact List.length_mergeSort _
end
noncomputable section
open Go Go.Ai Go.Proofs
def NT(f:FuncId):List AV->St->Option (AV×St):=VT (run SK gg) f 4
def Nq:eP:=vw [(246,Fu),(14,Yl),(18,NT 18),(109,NT 109),
 (16,NT 16),(17,NT 17),(30,NT 30),(32,NT 32),(33,NT 33),(34,NT 34),
 (39,Sq),(40,Bs)]
def bH(c:aj):Prop:=c=run Nq gg
theorem bH.o0{c:aj}(hc:bH c)(F:Nat){f:FuncId}{args:List AV}{st:St}{r:AV×St}(s:Sh)(hk:(zB (Nq f)&& !zB (gg.get (key f))&&(fM (gA f).code s).isEmpty)=true)
  {k:O2} (hd:H6 c F (afS []) (gA f) s args st=k) (h:k=some r):c f args st=some (tidy st r):=by
 subst hc;exact ajU s hk hd h
theorem bH.o1{c:aj}(hc:bH c)(F:Nat){f:FuncId}{args:List AV}{st:St}{r:AV×St}(Ls:Un->List Q2->Nat->Q2)(s:Sh)(hk:(zB (Nq f)&& !zB (gg.get (key f))&&Nat.beq (fM (gA f).code s).length 1)=true)
  (hs:(adj (iu (gA f) s 0).2&&Nat.beq (lpJ (iu (gA f) s 0).2) 0)=true) (h0:∀K' vs st,tI Ls (gA f) s 0 K' 0 vs st=none)
  (h1:∀K' n vs st,tI Ls (gA f) s 0 K' (n+1) vs st=Pa (den c F (tI Ls (gA f) s) (iu (gA f) s 0).1 (lpB (iu (gA f) s 0).2)) (lpI (iu (gA f) s 0).2) (lpO (iu (gA f) s 0).2) K' (tI Ls (gA f) s 0 K' n) vs st)
  {k:O2} (hd:H6 c F (tI Ls (gA f) s) (gA f) s args st=k) (h:k=some r):c f args st=some (tidy st r):=by
 subst hc;exact ajV Ls s hk hs h0 h1 hd h
theorem bH.oL{c:aj}(hc:bH c)(F:Nat){f:FuncId}{args:List AV}{st:St}{r:AV×St}(Ls:Un->List Q2->Nat->Q2)(s:Sh)(n:Nat)(hk:(zB (Nq f)&& !zB (gg.get (key f))&&Nat.beq (fM (gA f).code s).length n)=true)
  (hL:∀i,i<n->CO c F (tI Ls (gA f) s) (iu (gA f) s i).1 (iu (gA f) s i).2) {k:O2} (hd:H6 c F (tI Ls (gA f) s) (gA f) s args st=k) (h:k=some r):c f args st=some (tidy st r):=by
 subst hc;exact ads Ls s n hk hL hd h
theorem bH.at{c:aj}(hc:bH c){f:FuncId}{s:List AV->St->Option (AV×St)}{args:List AV}{st:St}{r:AV×St}(ho:Nq f=some s)(h:s args st=some r):c f args st=some r:=by subst hc;exact abS ho h
section
variable{s s1:St}
theorem Tg.dc{v:AV}{rows:List (List AV)}(hw:Wf s)(h:Tg (emptyAt s) s1 v rows)(hb:∀r∈rows,∀x∈r,bM x):Tg s (Go.Ai.dc s s1) v rows:=by
 have key:∀b,aK v=some b->(Go.Ai.dc s s1).heap.get b=some (.cells rows.flatten 0):=λb dO=>
  CU hw (h.2 b dO).1 (h.2 b dO).2 (λv hv=>by obtain⟨r,hr,hv⟩:=List.mem_flatten.1 hv;exact hb r hr v hv)
 exact⟨h.1.mono λb x dO hx=>by rw[(h.2 b dO).2]at hx;cases hx;exact key b dO,λb dO=>⟨(h.2 b dO).1,key b dO⟩⟩
theorem qg{l:List AV}(h:∀x∈l,bM x):∀r∈l.map oe,∀x∈r,bM x:=λr hr x hx=>by obtain⟨y,hy,rfl⟩:=Zc6.1 hr;simp only[oe,Zh9]at hx;subst hx;exact h _ hy
theorem aq9:J5 (.map EL 18):=λe he=>by
 simp only[EL,Za9,Zc3,Zf0]at he;rcases he with rfl|rfl|rfl|rfl|rfl|rfl|rfl|rfl|rfl|rfl|rfl|rfl|rfl|rfl|rfl|rfl|rfl|rfl<;>
 .refine⟨bM.int _ _,bM.agg λv hv=> ?_⟩;simp only[kd,Kd.cells,Za9,Zc3,Zf0]at hv;rcases hv with rfl|rfl|rfl|rfl|rfl|rfl|rfl|rfl<;>first|exact bM.str _|exact bM.int _ _|exact bM.bool _|exact bM.func _ (by simp) (by simp)|exact bM.jM
theorem att(E:List (Int×Int)):J5 (im E):=by
 have:∀(E:List (Int×Int))(i:Nat),∀e∈Pg E i,bM e.1/\bM e.2.1:=λE=>by
  induction E with
  |nil=>intro i e he;cases he
  |cons a E ih=>
   intro i e he;simp only[Pg,Za9]at he;rcases he with rfl|he
   .exact⟨bM.int _ _,bM.int _ _⟩
   .exact ih _ e he
 exact this E 0
theorem JD.dc{jb:Pos}{Vs:List AV}{ts:List aB}{N n:Nat}{iQ:List (List Bool)}{jL:List (List Int)}(hw:Wf s)(hV:∀V∈Vs,bM V)(hj:s.next.toNat<=jb.toNat)(h:JD (emptyAt s) s1 jb Vs ts N n iQ jL):JD s (Go.Ai.dc s s1) jb Vs ts N n iQ jL:=by
 obtain⟨m,L0,L1,L2,L3,L4,L5,L6,L7,wB,wA,ms,r6,r7,Cx,⟨hm,hmk⟩,t0,t1,t2,⟨t3,lB,iB⟩,⟨t4,lA,iA⟩,⟨t5,l5,i5⟩,⟨t6,l6,i6⟩,⟨t7,l7,i7⟩⟩:=h.all;have n2:=M8 ts N;have bT:∀x∈A7 ts N,bM x:=λx hx=>by obtain⟨i,_,rfl⟩:=Zc6.1 hx;exact bM.int _ _
 have bL:∀x∈A8 ts N,bM x:=λx hx=>by obtain⟨i,_,rfl⟩:=Zc6.1 hx;exact bM.int _ _
 have bO:∀x∈A9 ts N,bM x:=λx hx=>by obtain⟨i,_,rfl⟩:=Zc6.1 hx;exact bM.bool _
 have dY:∀{α:Type}{ws:List AV}{rs:List α}{f:α->List (List AV)},ws.length=rs.length->(∀(i:Nat)(w:AV)(r:α),ws[i]? =some w->rs[i]? =some r->Tg (emptyAt s) s1 w (f r))->∀w∈ws,bM w:=λ{α ws rs f} hl hi w hw=>by obtain⟨i,sN,rfl⟩:=Zg4.1 hw;exact(hi i _ (rs[i]'(by omega)) (H0 sN) (H0 (by omega))).1.bare
 have bB:=dY (f:=λ(r:List Int)=>r.map bJ) (by rw[n2.1];exact lB) iB;have bA:=dY (f:=λ(r:List Int)=>r.map bJ) (by rw[n2.2];exact lA) iA;have b6:=dY (f:=acO) (by rw[h.n1];exact l6) i6;have b7:=dY (f:=acP) (by rw[h.n2];exact l7) i7;have b5:∀x∈ms.map AV.map,bM x:=λx hx=>by obtain⟨i,_,rfl⟩:=Zc6.1 hx;exact bM.map _
 refine⟨⟨m,L0,L1,L2,L3,L4,L5,L6,L7,wB,wA,ms,r6,r7,CU hw hj Cx (λv hv=> ?_),⟨hm,CU hw hm hmk aq9⟩,t0.dc hw (qg bT),t1.dc hw (qg bL),t2.dc hw (qg bO),
   ⟨t3.dc hw (qg bB),lB,λi w r h1 h2=>(iB i w r h1 h2).dc hw (yO Np r)⟩,⟨t4.dc hw (qg bA),lA,λi w r h1 h2=>(iA i w r h1 h2).dc hw (yO Np r)⟩,
   ⟨t5.dc hw (qg b5),l5,λi m h=>⟨(i5 i m h).1,CU hw (i5 i m h).1 (i5 i m h).2 (att _)⟩⟩,
   ⟨t6.dc hw (qg b6),l6,λi w r h1 h2=>(i6 i w r h1 h2).dc hw (qg λx hx=>by obtain⟨b,_,rfl⟩:=Zc6.1 hx;exact bM.bool _)⟩,
   ⟨t7.dc hw (qg b7),l7,λi w r h1 h2=>(i7 i w r h1 h2).dc hw (qg λx hx=>by obtain⟨b,_,rfl⟩:=Zc6.1 hx;exact bM.int _ _)⟩⟩,h.n1,h.n2,h.n3,h.n4⟩
 rcases Zd5.1 hv with hv|hv
 .exact hV v hv
 . simp only[Za9,Zc3,Zf0]at hv;rcases hv with rfl|rfl|rfl|rfl|rfl|rfl|rfl|rfl|rfl
   .exact bM.map _
   .exact t0.1.bare
   .exact t1.1.bare
   .exact t2.1.bare
   .exact t3.1.bare
   .exact t4.1.bare
   .exact t5.1.bare
   .exact t6.1.bare
   .exact t7.1.bare
end
theorem JD.mono{s0 s s':St}{jb:Pos}{Vs:List AV}{ts:List aB}{N n:Nat}{iQ:List (List Bool)}{jL:List (List Int)}(h:JD s0 s jb Vs ts N n iQ jL)(hj:s0.next.toNat<=jb.toNat)(hk:∀b x,s0.next.toNat<=b.toNat->s.heap.get b=some x->s'.heap.get b=some x):JD s0 s' jb Vs ts N n iQ jL:=by
 obtain⟨m,L0,L1,L2,L3,L4,L5,L6,L7,wB,wA,ms,r6,r7,Cx,⟨hm,hmk⟩,t0,t1,t2,⟨t3,lB,iB⟩,⟨t4,lA,iA⟩,⟨t5,l5,i5⟩,⟨t6,l6,i6⟩,⟨t7,l7,i7⟩⟩:=h.all;exact⟨⟨m,L0,L1,L2,L3,L4,L5,L6,L7,wB,wA,ms,r6,r7,hk _ _ hj Cx,⟨hm,hk _ _ hm hmk⟩,t0.mono hk,t1.mono hk,t2.mono hk,⟨t3.mono hk,lB,λi w r a b=>(iB i w r a b).mono hk⟩,⟨t4.mono hk,lA,λi w r a b=>(iA i w r a b).mono hk⟩,
  ⟨t5.mono hk,l5,λi m a=>⟨(i5 i m a).1,hk _ _ (i5 i m a).1 (i5 i m a).2⟩⟩,⟨t6.mono hk,l6,λi w r a b=>(i6 i w r a b).mono hk⟩,⟨t7.mono hk,l7,λi w r a b=>(i7 i w r a b).mono hk⟩⟩,h.n1,h.n2,h.n3,h.n4⟩
section
variable{c:aj}{s0 s:St}{Vs:List AV}{p:cr}
theorem aql(hc:bH c)(h:PS s0 s Vs p)(hp:p.Gw)(hR:p.Real)(hr:∀r∈p.rs,r.Ok)(hn:(jZ p).2=0):
  ∃(jb:Pos) (s':St) (Us:List AV) (p':cr) (N:Nat) (iQ:List (List Bool)) (jL:List (List Int)),c 18 [.agg Vs] s=some (.tuple [.ptr jb 0,.int .i64 0,.int .i64 0],s')/\PS s s' Us p'/\p.gD p'/\
   (N:Int)=aU p'.ts/\JD s s' jb Us p'.ts N p'.gs.length iQ jL/\Us.length=5/\s.next.toNat<=jb.toNat/\iQ=WE p'.gs/\jL=aqj p'.gs p'.ys:=by
 obtain⟨p',e,S⟩:=h.fT 1;obtain⟨jb,s1,Us,N,iQ,jL,e1,P,hN,J,hge,h5,eB,eK⟩:=ajj (c:=run SK gg) rfl p' (S.zC hp) (as2 rfl (S.zC hp)) (S.real hR) (by rw[S.rs];exact hr) (emptyAt s) (abZ s) (by rw[S.check];exact hn);refine⟨jb,dc s s1,Us,p',N,iQ,jL,hc.at (s:=NT 18) rfl (am7 ?_ (bM.tuple (by intro v hv;simp at hv;rcases hv with rfl|rfl|rfl<;>first|exact bM.int _ _|exact bM.ptr _ _)) P.ai.next),PS.dc h.ai.wf P,S,hN,JD.dc h.ai.wf P.bare hge J,h5,hge,eB,eK⟩;rw[Zd3,Zi8,e];exact e1
end
end
end Go.Proofs.YtgihekklfnjkiaaGreatDoor
