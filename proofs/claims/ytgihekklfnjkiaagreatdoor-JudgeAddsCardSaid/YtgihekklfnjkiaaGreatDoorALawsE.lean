/- What rule.New answers. -/
import Derived.Test.YtgihekklfnjkiaaGreatDoorALawsD
set_option linter.all false
set_option maxRecDepth 100000
set_option maxHeartbeats 1000000
namespace Go.Proofs.YtgihekklfnjkiaaGreatDoor
section
open Go Go.Ai Go.Proofs
variable{c:aj}
theorem aal(s:St)(r:AV×St):tidy s r=r\/tidy s r=(r.1,s):=by
 unfold tidy;split
 .exact .inr rfl
 .exact .inl rfl
theorem apS{s:St}{v:AV}{l:List (List Nat)}(h:QS 1 s v (l.map qG))(hl:l.length<=1000)(x:List Nat)(F:Nat):∀(m k:Nat),l.length<=k+m->k<=l.length->
  (∃i:Nat,x∈l.drop k/\∀k1 k2,fA c F k1 k2 (m+1) [v,.str x,.int .i64 (l.length:Int),.int .i64 (k:Int)] s=k1 [.int .i64 (i:Int)] s)\/
    x∉l.drop k/\∀k1 k2,fA c F k1 k2 (m+1) [v,.str x,.int .i64 (l.length:Int),.int .i64 (k:Int)] s=k2 [] s:=by
 intro m;induction m with
 |zero=>
  intro k h1 h2;obtain rfl:k=l.length:=by omega
  right;refine⟨by simp,λk1 k2=> ?_⟩;rw[fW];simp
 |succ m ih=>
  intro k h1 h2;by_cases hk:k<l.length
  . obtain⟨b,o,cs,a1,a2,a3,a4⟩:=h.at (R:=AV×St) (c:=c) (GW l) (by decide) (i:=k) (by simpa using hk);have g0:cs[o]? =some (.str l[k]):=(by simpa using a4 0 (.str l[k]) (by simp));have w:av .i64 ((k:Int)+1)=((k+1:Nat):Int):=wrap64 (by omega) (by omega);rw[Zd2 hk,Za9];by_cases he:x=l[k]
    .   left;refine⟨k,.inl he,λk1 k2=> ?_⟩;rw[fW];simp[hk,a1,a3,g0,he]
    .   rcases ih (k+1) (by omega) (by omega)with⟨i,hm,hi⟩|⟨hm,hi⟩
        .left;refine⟨i,.inr hm,λk1 k2=> ?_⟩;rw[<-hi k1 k2,fW];simp[hk,a1,a3,g0,he,w]
        .right;refine⟨λh=>h.elim he hm,λk1 k2=> ?_⟩;rw[<-hi k1 k2,fW];simp[hk,a1,a3,g0,he,w]
  .obtain rfl:k=l.length:=(by omega);right;refine⟨by simp,λk1 k2=> ?_⟩;rw[fW];simp
theorem ajT(hc:Sem c){s:St}{v:AV}{l:List (List Nat)}(h:QS 1 s v (l.map qG))(hl:l.length<=1000)(x:List Nat):c 135 [v,.str x] s=some (.bool (decide (x∈l)),s):=by
 have ln:=λ(K:AV->St->Option (AV×St))(s1:St)=>h.lenB (c:=c) K s1
 simp only[Za3]at ln;have ix:∃i:Int,(0<=i↔x∈l)/\c 188 [v,.str x] s=some (.int .i64 i,s):=by
  rcases apS (c:=c) h hl x (l.length+1) l.length 0 (by omega) (by omega)with⟨i,hm,hi⟩|⟨hm,hi⟩
  .rw[Ze3]at hm;refine⟨i,⟨λ_=>hm,λ_=>by omega⟩,?_⟩;rw[tS hc (l.length+1) (r:=(.int .i64 (i:Int),s)),aE (Plain.int _ _) (aZ.refl s)];rw[ve];simp only[au,ln];rw[show(0:Int)=((0:Nat):Int)from rfl,hi];simp
  .rw[Ze3]at hm;refine⟨-1,⟨λh=>by omega,λh=>absurd h hm⟩,?_⟩;rw[tS hc (l.length+1) (r:=(.int .i64 (-1),s)),aE (Plain.int _ _) (aZ.refl s)];rw[ve];simp only[au,ln];rw[show(0:Int)=((0:Nat):Int)from rfl,hi];simp
 obtain⟨i,hm,hi⟩:=ix;rw[show decide (x∈l)=decide (0<=i)from decide_eq_decide.2 hm.symm];rw[Bj hc 1 (r:=(.bool (decide (0<=i)),s)),aE (Plain.bool _) (aZ.refl s)];rw[Dg];simp[hi]
theorem apT{s:St}{v:AV}{l:List (List Nat)}(h:QS 1 s v (l.map qG))(hl:l.length<=1000){g:FuncId}{u:AV}{Pd:List Nat->Bool}(H:∀w,c g [.str w,u] s=some (.bool (Pd w),s))(F:Nat):∀(m k:Nat),l.length<=k+m->k<=l.length->
  (∃i:Nat,∃hi:i<l.length,(Pd l[i]=true/\∀j (hj:j<l.length),k<=j->j<i->Pd l[j]=false)/\∀k1 k2,dX c F k1 k2 (m+1) [v,.func g [] [u],.int .i64 (l.length:Int),.int .i64 (k:Int)] s=k1 [.int .i64 (i:Int)] s)\/
    (∀j (hj:j<l.length),k<=j->Pd l[j]=false)/\∀k1 k2,dX c F k1 k2 (m+1) [v,.func g [] [u],.int .i64 (l.length:Int),.int .i64 (k:Int)] s=k2 [] s:=by
 intro m;induction m with
 |zero=>
  intro k h1 h2;obtain rfl:k=l.length:=by omega
  right;refine⟨λj hj h=>by omega,λk1 k2=> ?_⟩;rw[eW];simp
 |succ m ih=>
  intro k h1 h2;by_cases hk:k<l.length
  . obtain⟨b,o,cs,a1,a2,a3,a4⟩:=h.at (R:=AV×St) (c:=c) (GW l) (by decide) (i:=k) (by simpa using hk);have g0:cs[o]? =some (.str l[k]):=(by simpa using a4 0 (.str l[k]) (by simp));have w:av .i64 ((k:Int)+1)=((k+1:Nat):Int):=wrap64 (by omega) (by omega);have hb:=H l[k];cases hP:Pd l[k]with
    |   true=>
        rw[hP]at hb;left;refine⟨k,hk,⟨hP,λj _ h1 h2=>by omega⟩,λk1 k2=> ?_⟩;rw[eW];simp[hk,a1,a3,g0,iZ,hb]
    |   false=>
        rw[hP]at hb;have low:∀j (hj:j<l.length),k<=j->(k+1<=j->Pd l[j]=false)->Pd l[j]=false:=λj hj h f=>by
          by_cases e:j=k
          .subst e;exact hP
          .exact f (by omega)
        rcases ih (k+1) (by omega) (by omega)with⟨i,tu,⟨OZ,tH⟩,hi⟩|⟨tH,hi⟩
        .left;refine⟨i,tu,⟨OZ,λj hj h1 h2=>low j hj h1 λh=>tH j hj h h2⟩,λk1 k2=> ?_⟩;rw[<-hi k1 k2,eW];simp[hk,a1,a3,g0,iZ,hb,w]
        .right;refine⟨λj hj h=>low j hj h λh=>tH j hj h,λk1 k2=> ?_⟩;rw[<-hi k1 k2,eW];simp[hk,a1,a3,g0,iZ,hb,w]
  .obtain rfl:k=l.length:=(by omega);right;refine⟨λj hj h=>by omega,λk1 k2=> ?_⟩;rw[eW];simp
theorem anu(hc:Sem c){s:St}{v:AV}{l:List (List Nat)}(h:QS 1 s v (l.map qG))(hl:l.length<=1000){g:FuncId}{u:AV}{Pd:List Nat->Bool}(H:∀w,c g [.str w,u] s=some (.bool (Pd w),s)):
   (∃i:Nat,∃hi:i<l.length,(Pd l[i]=true/\∀j (hj:j<l.length),j<i->Pd l[j]=false)/\c 187 [v,.func g [] [u]] s=some (.int .i64 (i:Int),s))\/(∀j (hj:j<l.length),Pd l[j]=false)/\c 187 [v,.func g [] [u]] s=some (.int .i64 (-1),s):=by
 have ln:=λ(K:AV->St->Option (AV×St))(s1:St)=>h.lenB (c:=c) K s1
 simp only[Za3]at ln;rcases apT (c:=c) h hl H (l.length+1) l.length 0 (by omega) (by omega)with⟨i,tu,⟨OZ,tH⟩,hi⟩|⟨tH,hi⟩
 .left;refine⟨i,tu,⟨OZ,λj hj h=>tH j hj (Zi6 _) h⟩,?_⟩;rw[qh hc (l.length+1) (r:=(.int .i64 (i:Int),s)),aE (Plain.int _ _) (aZ.refl s)];rw[rI];simp only[au,ln];rw[show(0:Int)=((0:Nat):Int)from rfl,hi];simp
 .right;refine⟨λj hj=>tH j hj (Zi6 _),?_⟩;rw[qh hc (l.length+1) (r:=(.int .i64 (-1),s)),aE (Plain.int _ _) (aZ.refl s)];rw[rI];simp only[au,ln];rw[show(0:Int)=((0:Nat):Int)from rfl,hi];simp
structure Aside(s t:St)(v:AV):Prop where
 wf:Wf t
 next:t.next=s.next
 keep:∀p x,aR v≠some p->s.heap.get p=some x->t.heap.get p=some x
def RU(Pd:List Nat->Bool)(l:List (List Nat)):Nat:=(l.filter λw=> !Pd w).length
theorem avM(Pd:List Nat->Bool)(l:List (List Nat)):RU Pd l<=l.length:=Zl2 _ _
theorem acY{Pd:List Nat->Bool}{l:List (List Nat)}{j:Nat}(h:j<l.length):RU Pd (l.take (j+1))=RU Pd (l.take j)+if Pd l[j]then 0 else 1:=by
 unfold RU;rw[Zc2 h,Zk2,Zd9];cases h2:Pd l[j]<;>simp[h2]
theorem afA{Pd:List Nat->Bool}{l:List (List Nat)}:∀(i:Nat),i<=l.length->(∀j (hj:j<l.length),j<i->Pd l[j]=false)->RU Pd (l.take i)=i
 |0,_,_=>by simp[RU]
 |i+1,h,hp=>by rw[acY (by omega),afA i (by omega) λj hj h=>hp j hj (by omega),hp i (by omega) (by omega)];rfl
theorem asu{s:St}{v:AV}{n:Nat}(hn:n<=1000){g:FuncId}{u:AV}{Pd:List Nat->Bool}(H:∀t,Aside s t v->∀w,c g [.str w,u] t=some (.bool (Pd w),t)){l0:List (List Nat)}(hl0:l0.length=n)(F:Nat):∀(m j i f:Nat)(t:St)(l:List (List Nat)),m<f->j+m=n->i<j->QS 1 t v (l.map qG)->l.length=n->Aside s t v->l.drop j=l0.drop j->i=RU Pd (l0.take j)->
  ∃(i':Nat) (t':St) (l':List (List Nat)),i'=RU Pd l0/\QS 1 t' v (l'.map qG)/\l'.length=n/\Aside s t' v/\∀k2,fu c F k2 f [v,.func g [] [u],.int .i64 (i:Int),.int .i64 (j:Int)] t=k2 [v,.int .i64 (i':Int)] t':=by
 intro m;induction m with
 |zero=>
  intro j i f t l hf hj hi h hl A hd tE;obtain⟨f,rfl⟩:∃g,f=g+1:=⟨f - 1,by omega⟩
  obtain rfl:j=n:=by omega
  rw[Zg0 (by omega)]at tE;refine⟨i,t,l,tE,h,hl,A,λk2=> ?_⟩;have ln:=λ(K:AV->St->Option (AV×St))(s1:St)=>h.lenB (c:=c) K s1
  simp only[Za3,hl]at ln;rw[jS];simp[ln]
 |succ m ih=>
  intro j i f t l hf hj hi h hl A hd tE;obtain⟨f,rfl⟩:∃g,f=g+1:=⟨f - 1,by omega⟩
  have hk:j<l.length:=by omega
  have hjn:j<n:=by omega
  have ln:=λ(K:AV->St->Option (AV×St))(s1:St)=>h.lenB (c:=c) K s1
  simp only[Za3,hl]at ln;obtain⟨b,o,cs,a1,a2,a3,a4⟩:=h.at (R:=AV×St) (c:=c) (GW l) (by decide) (i:=j) (by simpa using hk);have g0:cs[o]? =some (.str l[j]):=by simpa using a4 0 (.str l[j]) (by simp)
  have w:av .i64 ((j:Int)+1)=((j+1:Nat):Int):=wrap64 (by omega) (by omega);have w2:av .i64 ((i:Int)+1)=((i+1:Nat):Int):=wrap64 (by omega) (by omega);have hb:=H t A l[j];have hj0:j<l0.length:=by omega
  have ej:l[j]=l0[j]:=by have:=congrArg (λq=>q[0]?) hd;simp only[Ze4,Zg2,H0 hk,H0 hj0,H5]at this;exact this
  have ed:l.drop (j+1)=l0.drop (j+1):=by have:=congrArg (λq=>q.drop 1) hd;simpa only[Zl0]using this
  have kt:=acY (Pd:=Pd) hj0;rw[<-ej]at kt;cases hP:Pd l[j]with
  |true=>
   rw[hP]at hb kt;obtain⟨i',t',l',b1,b2,b3,b4,b5⟩:=ih (j+1) i f t l (by omega) (by omega) (by omega) h hl A ed (by rw[kt,tE];rfl);refine⟨i',t',l',b1,b2,b3,b4,λk2=> ?_⟩;rw[<-b5 k2,jS];simp[iE,ln,hjn,a1,a3,g0,iZ,hb,w]
  |false=>
   (rw[hP]at hb kt;obtain⟨b',o',nK,e1,_,e3,e4,e5,e6,e7,_⟩:=h.set (R:=AV×St) (c:=c) (GW l) (by decide) (i:=i) (by simp;omega);have bK:=λ(K:AV->St->Option (AV×St))=>cH c K t 1 b' o' (.str l[j]) nK e4 rfl e5 rfl);have hs:=bW t b' (.cells (bf nK o' [.str l[j]]) 0);have Q:=e7 0 (.str l[j]) (bn t b' (.cells (bf nK o' [.str l[j]]) 0)) (by decide) (by rw[Zg2];exact hs);have er:(l.map qG).set i (((l.map qG)[i]'(by simp;omega)).set 0 (.str l[j]))=(l.set i l[j]).map qG:=(by rw[Zr8];simp);rw[er]at Q;have A2:Aside s (bn t b' (.cells (bf nK o' [.str l[j]]) 0)) v:=⟨kq A.wf (A.wf _ _ e4),by rw[dS];exact A.next,λp x hp hx=>by rw[aM (λe=>hp (by rw[e3,e]))];exact A.keep p x hp hx⟩
   obtain⟨i',t',l',b1,b2,b3,b4,b5⟩:=ih (j+1) (i+1) f _ _ (by omega) (by omega) (by omega) Q (by simpa using hl) A2 (by rw[Zp9 (by omega)];exact ed) (by rw[kt,tE];rfl);refine⟨i',t',l',b1,b2,b3,b4,λk2=> ?_⟩;rw[<-b5 k2,jS];have ce:(AV.str l[j]).cells=[.str l[j]]:=rfl;rw[ce]at bK;simp[iE,ln,hjn,a1,a3,g0,iZ,hb,e1,bK,w,w2]
theorem apU(hc:Sem c){s:St}{v:AV}{l:List (List Nat)}(h:QS 1 s v (l.map qG))(hl:l.length<=1000)(hw:Wf s){g:FuncId}{u:AV}{Pd:List Nat->Bool}(H:∀t,Aside s t v->∀w,c g [.str w,u] t=some (.bool (Pd w),t)):
   ∃(w:AV) (s':St),c 133 [v,.func g [] [u]] s=some (w,s')/\Aside s s' v/\∀{R:Type}(c:aj)(K:AV->St->Option R)(s1:St),aq c (.lenB .l) [w] s1 K=K (.int .i64 (RU Pd l:Int)) s1:=by
 have A:Aside s s v:=⟨hw,rfl,λ_ _ _ h=>h⟩
 rcases anu hc h hl (H s A)with⟨i,hi,⟨OZ,tH⟩,hx⟩|⟨tH,hx⟩
 . obtain⟨i',t',l',b1,b2,b3,b4,b5⟩:=asu (c:=c) (n:=l.length) hl H (l0:=l) rfl (l.length+1) (l.length - (i+1)) (i+1) i (l.length+1) s l (by omega) (by omega) (by omega) h rfl A rfl (by rw[acY hi,afA i (by omega) tH,OZ];rfl);have hi':=avM Pd l;rw[<-b1]at hi';obtain⟨v1,d1,d2,d3⟩:=b2.low (GW l') (i:=i') (by simp;omega);obtain⟨v2,f1,f2⟩:=b2.high (i:=i') (by simp;omega);obtain⟨s6,g1,g2,g3,g4⟩:=d2.clear (z:=[.str []]) b4.wf rfl (λn=>by rw[DE];induction n with|zero=>rfl|succ n ih=>rw[Zm9];simp[aV,AV.one,ih]);have w:av .i64 ((i:Int)+1)=((i+1:Nat):Int):=wrap64 (by omega) (by omega);have A6:Aside s s6 v:=⟨g2,by rw[g3,b4.next],λp x hp hx=>g4 p x (λe=>hp (d3 p e)) (b4.keep p x hp hx)⟩
   have run:=pM hc (l.length+1) (x0:=v) (x1:= .func g [] [u]) (s:=s) (r:=(v2,s6)) (by
     rw[qM];simp only[au,bI,hx,bw,dJ,dy,w];have:decide ((i:Int)= -1)=false:=Za2 (by omega);rw[this,cE,b5];simp[d1,g1,f1])
   rcases aal s (v2,s6)with e|e
   .exact⟨v2,s6,by rw[run,e],A6,by rw[<-b1];exact f2⟩
   .exact⟨v2,s,by rw[run,e],A,by rw[<-b1];exact f2⟩
 . have kl:=afA (Pd:=Pd) (l:=l) l.length (Za5 _) (λj hj _=>tH j hj);rw[Zg1]at kl;have run:=pM hc 1 (x0:=v) (x1:= .func g [] [u]) (s:=s) (r:=(v,s)) (by
     rw[qM];simp[hx])
   have ln:=λ{R:Type}(c:aj)(K:AV->St->Option R)(s1:St)=>h.lenB (c:=c) K s1
   simp only[Za3]at ln;rcases aal s (v,s)with e|e
   .exact⟨v,s,by rw[run,e],A,λc K s1=>by rw[kl];exact ln c K s1⟩
   .exact⟨v,s,by rw[run,e],A,λc K s1=>by rw[kl];exact ln c K s1⟩
def Ih(gs:List aS):List (List Nat×List (List Nat)):=gs.map λg=>(g.name,g.tg)
def anv(L:List (List Nat×List (List Nat)))(a b:List Nat):Nat:=match L.find? (λg=>decide (g.1=a)),L.find? (λg=>decide (g.1=b))with
 |some g,some h=>RU (λw=> !decide (w∈h.2)) g.2
 |_,_=>0
theorem ajU(gs:List aS)(a:List Nat):(Ih gs).find? (λg=>decide (g.1=a))=(Vy gs a).map λg=>(g.name,g.tg):=by unfold Ih Vy;rw[List.find?_map];rfl
theorem apV(hc:Sem c){s0 s:St}{bp mp:Pos}{gs:List aS}{ts:List Ty}{gk tk:Option Pos}(B:eV s0 s bp mp gs ts gk tk)(a b:List Nat):
   ∃(w:AV) (s':St),c 69 [.ptr bp 0,.str a,.str b] s=some (w,s')/\Grew s s'/\∀{R:Type}(c:aj)(K:AV->St->Option R)(s1:St),aq c (.lenB .l) [w] s1 K=K (.int .i64 (anv (Ih gs) a b:Int)) s1:=by
 have hw:=B.wf;unfold anv;rw[ajU,ajU];obtain⟨v1,s1,f1,M1,l1⟩:=ajS hc B a;generalize hg1:Vy gs a=G1 at*
 generalize Ab:Vy gs b=G2' at*
 obtain⟨g1,asv⟩:∃g1,g1=G1.getD uB:=⟨_,rfl⟩
 obtain⟨g2,asw⟩:∃g2,g2=G2'.getD uB:=⟨_,rfl⟩
 obtain⟨ok1,ho1⟩:∃ok1,ok1=G1.isSome:=⟨_,rfl⟩
 obtain⟨ok2,My⟩:∃ok2,ok2=G2'.isSome:=⟨_,rfl⟩
 rw[<-asv, <-ho1]at f1;rw[<-asv]at M1 l1;have w1:=M1.ai.wf;have G2:Grew s1 (ah s1 (.cells (g1.ay v1) 0)):=Grew.ah w1 _;obtain⟨v2,s3,f2,M2,l2⟩:=ajS hc (B.ai (M1.ai.trans G2)) b;rw[Ab, <-asw, <-My]at f2;rw[Ab, <-asw]at M2 l2;have w3:=M2.ai.wf;have G4:Grew s3 (ah s3 (.cells (g2.ay v2) 0)):=Grew.ah w3 _;have Ga:Grew s (ah s3 (.cells (g2.ay v2) 0)):=((M1.ai.trans G2).trans M2.ai).trans G4;have one1:=g1.MT M1.cells.2;have one2:=g2.MT M2.cells.2;have al:∀(g:aS)(v:AV)(t:St)(K:AV->St->Option (AV×St)),aV (g.ay v)=true->aq c (.alloc [(.str []),(.str []),(.str []),(.int .i64 0),(.int .i64 0),(.str []),(.bool false),(.bool false),.af]) [] t (λx7 s7=>aq c (.store 9) [x7,.agg (g.ay v)] s7 (λ_ s8=>K x7 s8))=K (.ptr t.next 0) (ah t (.cells (g.ay v) 0)):=λg v t K ho=>by rw[bN];exact cq c (λ_ s8=>K (.ptr t.next 0) s8) t 9 (.agg (g.ay v)) _ rfl rfl ho
 have al1:=λK=>al g1 v1 s1 K one1
 have al2:=λK=>al g2 v2 s3 K one2
 have pre:∀r,(cnd (.bool (!ok1|| !ok2)) (some (.af,ah s3 (.cells (g2.ay v2) 0))) (aq c (.fieldA 8) [.ptr s1.next 0] (ah s3 (.cells (g2.ay v2) 0)) λx29 s26=>aq c (.load none) [x29] s26 λx30 s27=>aq c (.mkFunc 134 0) [.ptr s3.next 0] s27 λx31 s28=>aq c (.callF 133) [x30,x31] s28 λx32 s29=>aq c .move [x32] s29 λx6 s30=>some (x6,s30))=some r)->
     uJ c 1 (.ptr bp 0) (.str a) (.str b) s=some r:=λr h=>by
   rw[Xb, <-h];simp only[au,bI,f1,bw,gP,Za4,Zb6,aQ,al1,f2,al2];cases ok1<;>cases ok2<;>simp
 by_cases cF:(!ok1|| !ok2)=true
 . have cz:(match G1.map (λg=>(g.name,g.tg)),G2'.map (λg=>(g.name,g.tg))with|some g,some h=>RU (λw=> !decide (w∈h.2)) g.2|_,_=>0)=0:=(by rw[ho1,My]at cF;cases G1<;>cases G2'<;>first|rfl|simp at cF);have run:=CR hc 1 (x0:= .ptr bp 0) (x1:= .str a) (x2:= .str b) (s:=s) (r:=(.af,ah s3 (.cells (g2.ay v2) 0))) (pre _ (by rw[cF,cV]));rcases aal s (AV.af,ah s3 (.cells (g2.ay v2) 0))with e|e
   .exact⟨.af,_,by rw[run,e],Ga,λc K s1=>by rw[cz];exact aY c K (λH n=>rfl) s1⟩
   .exact⟨.af,_,by rw[run,e],Grew.refl hw,λc K s1=>by rw[cz];exact aY c K (λH n=>rfl) s1⟩
 . have cF:(!ok1|| !ok2)=false:=(by simpa using cF);have Q1:QS 1 (ah s3 (.cells (g2.ay v2) 0)) v1 (g1.tg.map qG):=M1.own.mono λp x _ hx=>((G2.trans M2.ai).trans G4).get hx
   have lt1:∀p,aR v1=some p->p.toNat<s1.next.toNat:=λp hp=>M1.own.lt w1 hp
   have n3:s1.next.toNat<s3.next.toNat:=(by have:=M2.ai.next;rw[bX,Pos.aH]at this;omega);have hq:(ah s3 (.cells (g2.ay v2) 0)).heap.get s3.next=some (.cells (g2.ay v2) 0):=aB _ _;have OR:(ah s3 (.cells (g2.ay v2) 0)).heap.get s1.next=some (.cells (g1.ay v1) 0):=(M2.ai.trans G4).get (aB _ _);have cz:(match G1.map (λg=>(g.name,g.tg)),G2'.map (λg=>(g.name,g.tg))with|some g,some h=>RU (λw=> !decide (w∈h.2)) g.2|_,_=>0)=RU (λw=> !decide (w∈g2.tg)) g1.tg:=by
     rw[ho1,My]at cF;cases G1 with
     |none=>simp at cF
     |  some x=>cases G2' with
        |none=>simp at cF
        |some y=>rw[asv,asw];rfl
   rw[cz];have H:∀t,Aside (ah s3 (.cells (g2.ay v2) 0)) t v1->∀w,c 134 [.str w,.ptr s3.next 0] t=some (.bool (!decide (w∈g2.tg)),t):=λt A w=>by
     have hq':=A.keep s3.next _ (λe=>by have:=lt1 _ e;omega) hq;have Q2:QS 1 t v2 (g2.tg.map qG):=M2.own.mono λp x hp hx=>A.keep p x (λe=>by have:=lt1 _ e;have:=M2.new p hp;rw[bX,Pos.aH]at this;omega) (G4.get hx)
     have hb:=ajT hc Q2 (by omega) w;generalize decide (w∈g2.tg)=bb at*
     rw[Oj hc 1 (r:=(.bool (!bb),t)),aE (Plain.bool _) (aZ.refl t)];rw[RV];have g8:(g2.ay v2)[8]? =some v2:=rfl;simp[hq',g8,hb]
   obtain⟨w,s5,d1,d2,d3⟩:=apU hc Q1 (by omega) (bP w3) H;have g8:(g1.ay v1)[8]? =some v1:=rfl;have run:=CR hc 1 (x0:= .ptr bp 0) (x1:= .str a) (x2:= .str b) (s:=s) (r:=(w,s5)) (pre _ (by
     rw[cF,cE];simp[OR,g8,d1]))
   have G5:Grew s s5:=⟨d2.wf,λp x hx=>d2.keep p x (λe=>by have:=M1.new p e;have:=hw _ _ hx;omega) (Ga.get hx),by rw[d2.next];exact Ga.next⟩
   rcases aal s (w,s5)with e|e
   .exact⟨w,s5,by rw[run,e],G5,d3⟩
   .exact⟨w,s,by rw[run,e],Grew.refl hw,d3⟩
def YV(I:List (AV×List (List AV)))(ws:List AV)(rs:List (List Int)):Prop:=∀(i:Nat)(w:AV)(r:List Int),ws[i]? =some w->rs[i]? =some r->(w,r.map bH)∈I
theorem YV.more{I:List (AV×List (List AV))}{ws:List AV}{rs:List (List Int)}(h:YV I ws rs)(e:AV×List (List AV)):YV (e::I) ws rs:=λi w r h1 h2=>Zb0 _ (h i w r h1 h2)
theorem YV.snoc{I:List (AV×List (List AV))}{ws:List AV}{rs:List (List Int)}(h:YV I ws rs)(hl:ws.length=rs.length){w:AV}{r:List Int}(hm:(w,r.map bH)∈I):YV I (ws++[w]) (rs++[r]):=λi w' r' h1 h2=>by
 by_cases hi:i<ws.length
 .rw[Zc3 hi]at h1;rw[Zc3 (by omega)]at h2;exact h i w' r' h1 h2
 . rw[Zc1 (by omega)]at h1;rw[Zc1 (by omega)]at h2;by_cases h0:i - ws.length=0
   .rw[h0]at h1;rw[show i - rs.length=0 by omega]at h2;simp at h1 h2;subst h1;subst h2;exact hm
   .rw[Zc0 (by simp;omega)]at h1;cases h1
theorem Ye(t:aC):0<=bQ t:=by
 unfold bQ;repeat' split
 all_goals omega
def cC:List aC->Nat->Nat
 |[],_=>0
 |t::ts,i=>if i<(bQ t).toNat then 0 else cC ts (i - (bQ t).toNat)+1
def LF(ts:List aC)(i:Nat):Nat:=(bg (ts.take (cC ts i))).toNat
def Gz(ts:List aC)(i:Nat):Nat:=match ts[cC ts i]? with
 |some t=>(bQ t).toNat
 |none=>0
def nR(ts:List aC)(i:Nat):List Int:=mA (LF ts i) (Gz ts i) (GN ts (i:Int))
def uk(ts:List aC)(i:Nat):List Int:=mA (LF ts i) (Gz ts i) (GO ts (i:Int))
theorem ajV:∀(ts:List aC)(k:Nat)(hk:k<ts.length)(i:Nat),(i:Int)<bQ ts[k]->cC ts ((bg (ts.take k)).toNat+i)=k
 |t::ts,0,_,i,h=>by
  have h:(i:Int)<bQ t:=h;rw[show(bg ((t::ts).take 0)).toNat=0 from rfl,cC,Zb4 (by omega)]
 |t::ts,k+1,hk,i,h=>by
  have hk:k<ts.length:=by simpa using hk
  have ih:=ajV ts k hk i h;have n1:0<=bQ t:=(Ye t)
  have n2:=(ry (ts.take k)).1;have e:bg ((t::ts).take (k+1))=bQ t+bg (ts.take k):=by simp[bg]
  rw[e,cC,Za7 (by omega),show(bQ t+bg (ts.take k)).toNat+i - (bQ t).toNat=(bg (ts.take k)).toNat+i by omega,ih]
theorem asx{ts:List aC}{k:Nat}(hk:k<ts.length){first i:Nat}(hf:(first:Int)=bg (ts.take k))(hi:(i:Int)<bQ ts[k]):cC ts (first+i)=k/\LF ts (first+i)=first/\(Gz ts (first+i):Int)=bQ ts[k]:=by have e:=ajV ts k hk i hi;rw[show(bg (ts.take k)).toNat=first by omega]at e;refine⟨e,by unfold LF;rw[e];omega,?_⟩;unfold Gz;rw[e,H0 hk];have:=Ye ts[k];simp only;omega
def BK(ts:List aC)(m:Nat):List AV:=(List.range m).map λi=>AV.int .i64 ((cC ts i:Nat):Int)
def BL(ts:List aC)(m:Nat):List AV:=(List.range m).map λi=>AV.int .i64 (BZ ts ((i:Nat):Int))
def BM(ts:List aC)(m:Nat):List AV:=(List.range m).map λi=>AV.bool (Gx ts ((i:Nat):Int))
def uF(ts:List aC)(m:Nat):List (List Int):=(List.range m).map (nR ts)
def uG(ts:List aC)(m:Nat):List (List Int):=(List.range m).map (uk ts)
structure SW(ts:List aC)(s0 s:St)(jb:Pos)(H Ls:List AV)(R:List (List AV))(I:List (AV×List (List AV)))(m:Nat):Prop where
 ow:Ow s0 s jb Ls R I
 cell:s.heap.get jb=some (.cells (H++Ls) 0)
 shp:∃L0 L1 L2 L3 L4 wB wA,Ls=[L0,L1,L2,L3,L4,.af,.af,.af]/\R=[BK ts m,BL ts m,BM ts m,wB,wA,[],[],[]]/\wB.length=m/\wA.length=m/\YV I wB (uF ts m)/\YV I wA (uG ts m)
abbrev Bd(N:Nat)(r:List Int):Prop:=r.length<=1000/\∀k∈r,0<=k/\k<(N:Int)
theorem agx{first n N:Nat}(hn:n<=1000)(hN:first+n<=N)(so:Int->Bool):Bd N (mA first n so):=by refine⟨Zb2 (Lz _ _ _) hn,λk hk=> ?_⟩;unfold mA at hk;simp only[Zl8,Zc9,Zi0]at hk;obtain⟨⟨i,hi,rfl⟩,_⟩:=hk;omega
theorem RW{H Ls:List AV}(hH:H.length=6)(i:Nat):(H++Ls)[6+i]? =Ls[i]? :=by rw[Zc1 (by omega)];congr 1;omega
theorem atl{a b k:Nat}(h:a+b=k)(hk:k<=1000000):av .i64 ((a:Int)+(b:Int))=(k:Int):=by rw[wrap64 (by omega) (by omega)];omega
theorem aep{a k:Nat}(h:a+1=k)(hk:k<=1000000):av .i64 ((a:Int)+1)=(k:Int):=by rw[wrap64 (by omega) (by omega)];omega
theorem Ua(ts:List aC)(m:Nat):(BK ts m).length=m/\(BL ts m).length=m/\(BM ts m).length=m:=by simp[BK,BL,BM]
theorem OO(ts:List aC)(m:Nat):(uF ts m).length=m/\(uG ts m).length=m:=by simp[uF,uG]
theorem anw(ts:List aC)(m:Nat):BK ts (m+1)=BK ts m++[AV.int .i64 ((cC ts m:Nat):Int)]:=by simp[BK,Zf9]
theorem anx(ts:List aC)(m:Nat):BL ts (m+1)=BL ts m++[AV.int .i64 (BZ ts ((m:Nat):Int))]:=by simp[BL,Zf9]
theorem anz(ts:List aC)(m:Nat):BM ts (m+1)=BM ts m++[AV.bool (Gx ts ((m:Nat):Int))]:=by simp[BM,Zf9]
theorem anA(ts:List aC)(m:Nat):uF ts (m+1)=uF ts m++[nR ts m]:=by simp[uF,Zf9]
theorem anB(ts:List aC)(m:Nat):uG ts (m+1)=uG ts m++[uk ts m]:=by simp[uG,Zf9]
theorem avN(hc:Sem c)(p:bE)(cF:∀t∈p.ts,t.Ok){pb jb:Pos}{H:List AV}(hH:H.length=6){s0:St}(hpb:s0.heap.get pb=some (.cells p.cells 0))(O8:pb≠jb){first n N k:Nat}(hk:k<p.ts.length)(hfi:(first:Int)=bg (p.ts.take k))(ic:(n:Int)=bQ p.ts[k])(hN:first+n<=N)(hN2:N<=10000)(hn:n<=1000)(F:Nat):
  ∀(m i f:Nat)(s:St)(Ls:List AV)(R:List (List AV))(I:List (AV×List (List AV)))(sb:Pos),m<f->i+m=n->SW p.ts s0 s jb H Ls R I (first+i)->
   s.heap.get sb=some (.cells [.int .i64 ((first+i:Nat):Int)] 0)->sb≠jb->(∀L∈Ls,aR L≠some sb)->
   ∃    s' Ls' R' I',SW p.ts s0 s' jb H Ls' R' I' (first+n)/\
        ∀(x40 RT:AV)(k4),xI c F k4 f [.ptr pb 0,.ptr jb 0,.int .i64 (k:Int),.int .i64 (first:Int),.int .i64 (n:Int),.ptr sb 0,x40,RT] s=k4 [.ptr pb 0,.ptr jb 0,x40,RT] s':=by
 intro m;induction m with
 |zero=>
  intro i f s Ls R I sb hf hi hS anC hsj afB;obtain⟨f,rfl⟩:∃g,f=g+1:=⟨f - 1,by omega⟩
  obtain rfl:i=n:=by omega
  refine⟨s,Ls,R,I,hS,λx40 RT k4=> ?_⟩;have w:av .i64 ((first:Int)+(i:Int))=((first+i:Nat):Int):=atl rfl (by omega);rw[Vz];simp[anC,w]
 |succ m ih=>
  intro i f s Ls R I sb hf hi hS anC hsj afB;obtain⟨f,rfl⟩:∃g,f=g+1:=⟨f - 1,by omega⟩
  obtain⟨L0,L1,L2,L3,L4,wB,wA,rfl,rfl,e3,e4,PB,PA⟩:=hS.shp;obtain⟨T1,T2,T3⟩:=asx hk hfi (i:=i) (by omega);have T3:Gz p.ts (first+i)=n:=by omega
  have LT:=Ua p.ts (first+i);have eB:nR p.ts (first+i)=mA first n (GN p.ts ((first+i:Nat):Int)):=by unfold nR;rw[T2,T3]
  have eA:uk p.ts (first+i)=mA first n (GO p.ts ((first+i:Nat):Int)):=by unfold uk;rw[T2,T3]
  have aW:(((first+i:Nat):Int))<((first+n:Nat):Int):=by omega
  have ha:((first+i:Nat):Int)<=4611686018427387904:=by omega
  obtain⟨t1,s1,V0,a1,a2,O1,C1,K1⟩:=hS.ow.put hS.cell (c:=c) (Q:=AV×St) 8 (i:=0) (L:=L0) (r:=BK p.ts (first+i)) rfl rfl (x:= .int .i64 (k:Int)) rfl rfl (by omega) (by omega) (o:=6) (by omega);obtain⟨b1,F1⟩:=K1 sb _ hsj afB anC;have g1:(H++[L0,L1,L2,L3,L4,.af,.af,.af])[6]? =some L0:=RW hH 0;have q1:=O1.keep pb _ O8 hpb;have lv:=asm hc p.tz p.ts cF _ ha s1 O1.wf;obtain⟨t2,s2,V1,c1,c2,O2,C2,K2⟩:=O1.put C1 (c:=c) (Q:=AV×St) 8 (i:=1) (L:=L1) (r:=BL p.ts (first+i)) rfl rfl (x:= .int .i64 (BZ p.ts ((first+i:Nat):Int))) rfl rfl (by omega) (by omega) (o:=7) (by omega);obtain⟨b2,F2⟩:=K2 sb _ hsj F1 b1;have n1:=λ(K:AV->Option (AV×St))=>lH K (p:=jb) (o:=7) (h:=s1.heap) (h2:=s1.heap) (v:=L1) (by rw[C1];exact RW hH 1) (by rw[C1];exact RW hH 1) (O1.own 1 L1 _ rfl rfl).beq
  have q2:=O2.keep pb _ O8 hpb;have op:=auD hc p.tz p.ts cF _ ha s2 O2.wf;obtain⟨t3,s3,V2,d1,d2,O3,C3,K3⟩:=O2.put C2 (c:=c) (Q:=AV×St) 1 (i:=2) (L:=L2) (r:=BM p.ts (first+i)) rfl rfl (x:= .bool (Gx p.ts ((first+i:Nat):Int))) rfl rfl (by omega) (by omega) (o:=8) (by omega);obtain⟨b3,F3⟩:=K3 sb _ hsj F2 b2;have n2:=λ(K:AV->Option (AV×St))=>lH K (p:=jb) (o:=8) (h:=s2.heap) (h2:=s2.heap) (v:=L2) (by rw[C2];exact RW hH 2) (by rw[C2];exact RW hH 2) (O2.own 2 L2 _ rfl rfl).beq
  have q3:=O3.keep pb _ O8 hpb;obtain⟨v4,u4,h4,M4⟩:=apM hc p.tz p.ts cF (pb:=pb) (sb:=sb) (cs:=p.cells) rfl ((first+i:Nat):Int) (by omega) (first:=(first:Int)) (by omega) (n:=n) (by omega) s3 O3.wf q3 b3;have O4':=O3.more M4;have C4':=M4.ai.get C3;have b4':=M4.ai.get b3;obtain⟨vc4,vo4⟩:=M4.own.cells;obtain⟨t4,s4,V3,f1,f2,O4,C4,K4⟩:=O4'.put C4' (c:=c) (Q:=AV×St) 24 (i:=3) (L:=L3) (r:=wB) rfl rfl (x:=v4) vc4 vo4 (by omega) (by omega) (o:=9) (by omega);obtain⟨b4,F4⟩:=K4 sb _ hsj F3 b4';have n3:=λ(K:AV->Option (AV×St))=>lH K (p:=jb) (o:=9) (h:=u4.heap) (h2:=s3.heap) (v:=L3) (by rw[C4'];exact RW hH 3) (by rw[C3];exact RW hH 3) (O3.own 3 L3 wB rfl rfl).beq
  have q4:=O4.keep pb _ O8 hpb;obtain⟨v5,u5,h5,M5⟩:=apN hc p.tz p.ts cF (pb:=pb) (sb:=sb) (cs:=p.cells) rfl ((first+i:Nat):Int) (by omega) (first:=(first:Int)) (by omega) (n:=n) (by omega) s4 O4.wf q4 b4;have O5':=O4.more M5;have C5':=M5.ai.get C4;have b5':=M5.ai.get b4;obtain⟨vc5,vo5⟩:=M5.own.cells;obtain⟨t5,s5,V4,g1',g2',O5,C5,K5⟩:=O5'.put C5' (c:=c) (Q:=AV×St) 24 (i:=4) (L:=L4) (r:=wA) rfl rfl (x:=v5) vc5 vo5 (by omega) (by omega) (o:=10) (by omega);obtain⟨b5,F5⟩:=K5 sb _ hsj F4 b5';have n4:=λ(K:AV->Option (AV×St))=>lH K (p:=jb) (o:=10) (h:=u5.heap) (h2:=s4.heap) (v:=L4) (by rw[C5'];exact RW hH 4) (by rw[C4];exact RW hH 4) (O4.own 4 L4 wA rfl rfl).beq
  have hw5:=O5.wf;have G6:Grew s5 (ah s5 (.cells [.int .i64 ((first+(i+1):Nat):Int)] 0)):=Grew.ah hw5 _;have O6:=O5.ai G6;have C6:=G6.get C5;have lB:=OO p.ts (first+i);have PB':=((PB.more (v4,(nR p.ts (first+i)).map bH)).snoc (by rw[lB.1];exact e3) (w:=v4) (Zd6)).more (v5,(uk p.ts (first+i)).map bH);have PA':=((PA.more (v4,(nR p.ts (first+i)).map bH)).more (v5,(uk p.ts (first+i)).map bH)).snoc (by rw[lB.2];exact e4) (w:=v5) (Zd6);rw[<-anA]at PB';rw[<-anB]at PA';rw[eB,eA]at PB' PA'
  obtain⟨s',Ls',R',I',z1,z5⟩:=ih (i+1) f _ _ _ _ s5.next (by omega) (by omega) ⟨O6,C6,V0,V1,V2,V3,V4,_,_,rfl,by rw[show first+(i+1)=(first+i)+1 from rfl,anw,anx,anz,T1];rfl,by simp[e3];omega,by simp[e4];omega,PB',PA'⟩
   (aB _ _) (λe=>by have:=hw5 _ _ C5;rw[<-e]at this;omega) (λL hL e=>by have:=O5.ltL hL e;omega)
  refine⟨s',Ls',R',I',z1,λx40 RT k4=> ?_⟩;rw[<-z5 x40 RT k4,Vz];have w:av .i64 ((first:Int)+(n:Int))=((first+n:Nat):Int):=atl rfl (by omega);have w1:av .i64 (((first+i:Nat):Int)+1)=((first+(i+1):Nat):Int):=aep rfl (by clear w;omega);have r1x:=λ(K:AV->St->Option (AV×St))=>Gt (c:=c) (z:=[.int .i64 0]) (x:= .int .i64 (k:Int)) rfl rfl s K
  have r2x:=λ(K:AV->AB->Option (AV×St))=>Gs (z:=[.int .i64 0]) (x:= .int .i64 (BZ p.ts ((first+i:Nat):Int))) rfl rfl s1 K
  have r3x:=λ(K:AV->AB->Option (AV×St))=>Gs (z:=[.bool false]) (x:= .bool (Gx p.ts ((first+i:Nat):Int))) rfl rfl s2 K
  have r4x:=λ(K:AV->AB->Option (AV×St))=>Gs (z:=[.af]) (x:=v4) rfl vc4 u4 K
  have r5x:=λ(K:AV->AB->Option (AV×St))=>Gs (z:=[.af]) (x:=v5) rfl vc5 u5 K
  have st7:∀(K:AV->St->Option (AV×St)),aq c (.store 1) [.ptr s5.next 0,.int .i64 ((first+i:Nat):Int)] (ah s5 (.cells [.int .i64 0] 0)) K=K .undef (ah s5 (.cells [.int .i64 ((first+i:Nat):Int)] 0)):=λK=>cq c K s5 1 (.int .i64 ((first+i:Nat):Int)) [.int .i64 0] rfl rfl rfl
  have st8:∀(K:AV->St->Option (AV×St)),aq c (.store 1) [.ptr s5.next 0,.int .i64 ((first+(i+1):Nat):Int)] (ah s5 (.cells [.int .i64 ((first+i:Nat):Int)] 0)) K=K .undef (ah s5 (.cells [.int .i64 ((first+(i+1):Nat):Int)] 0)):=λK=>cq c K s5 1 (.int .i64 ((first+(i+1):Nat):Int)) [.int .i64 ((first+i:Nat):Int)] rfl rfl rfl
  simp only[aD,aX,aO,anC,az,Za6,Za4,aQ,au,dy,w,bV,Za0 aW,cV,cr,aK,Zb1,hS.cell,g1,r1x,a1,a2,
   bC,jZ,q1,b1,bE.c0,bI,lv,bw,dh,qU,Zi9,n1,r2x,c1,c2,
   q2,b2,op,n2,r3x,d1,d2,abi,h4,n3,r4x,f1,f2,h5,n4,r5x,g1',g2',b5,bN,st7,aB,w1,st8]
theorem Yc(t:aC):0<=bQ t/\bQ t<=24:=by
 unfold bQ;repeat' split
 all_goals omega
theorem ajW(ts:List aC):bg ts<=24*ts.length:=by
 induction ts with
 |nil=>simp[bg]
 |cons t ts ih=>
  have:=Yc t;simp only[bg,Zd1,Zp4,Zc7]at ih ⊢;omega
theorem apW(a b:List aC):bg (a++b)=bg a+bg b:=by simp[bg]
theorem Uh{ts:List aC}{k:Nat}(hk:k<ts.length):bg (ts.take (k+1))=bg (ts.take k)+bQ ts[k]/\bg (ts.take (k+1))<=bg ts:=by have e:=Zc2 hk;refine⟨by rw[e,Ur],?_⟩;have h:=apW (ts.take (k+1)) (ts.drop (k+1));rw[Zm1]at h;have:=(ry (ts.drop (k+1))).1;omega
theorem ajX:∀{ts:List aC}{i:Nat},(i:Int)<bg ts->cC ts i<ts.length
 |[],i,h=>by simp[bg]at h;omega
 |t ::ts,i,h=>by
  have e:bg (t::ts)=bQ t+bg ts:=by simp[bg]
  have:=Ye t;unfold cC;split
  .simp
  .have:=ajX (ts:=ts) (i:=i - (bQ t).toNat) (by omega);simp;omega
theorem apX{ts:List aC}{N:Nat}(hN:(N:Int)=bg ts){i:Nat}(hi:i<N):LF ts i+Gz ts i<=N/\Gz ts i<=24:=by have h:=ajX (ts:=ts) (i:=i) (by omega);have u:=Uh h;have:=Yc ts[cC ts i];have n0:=(ry (ts.take (cC ts i))).1;unfold LF Gz;rw[H0 h];simp only;omega
theorem acv{ts:List aC}{N:Nat}(hN:(N:Int)=bg ts):(∀r∈uF ts N,Bd N r)/\∀r∈uG ts N,Bd N r:=by
 constructor
 .intro r hr;unfold uF at hr;obtain⟨i,hi,rfl⟩:=Zc9.1 hr;have:=apX hN (Zi0.1 hi);exact agx (by omega) this.1 _
 .intro r hr;unfold uG at hr;obtain⟨i,hi,rfl⟩:=Zc9.1 hr;have:=apX hN (Zi0.1 hi);exact agx (by omega) this.1 _
theorem avO(hc:Sem c)(p:bE)(cF:∀t∈p.ts,t.Ok)(hv:(bZ p.ts).2=0)(h16:p.ts.length<=16){pb jb:Pos}{H:List AV}(hH:H.length=6){s0:St}(hpb:s0.heap.get pb=some (.cells p.cells 0))(O8:pb≠jb){N:Nat}(hN:(N:Int)=bg p.ts)(F:Nat)(hF:1010<=F):
  ∀(m k f:Nat)(s:St)(Ls:List AV)(R:List (List AV))(I:List (AV×List (List AV)))(j:Nat),m<f->k+m=p.ts.length->SW p.ts s0 s jb H Ls R I j->(j:Int)=bg (p.ts.take k)->
   ∃    s' Ls' R' I',SW p.ts s0 s' jb H Ls' R' I' N/\
        ∀(k2),Bk c F k2 f [.ptr pb 0,.ptr jb 0,.int .i64 (p.ts.length:Int),.int .i64 (k:Int)] s=k2 [.ptr pb 0,.ptr jb 0] s':=by
 have hN2:N<=10000:=by have:=ajW p.ts;omega
 intro m;induction m with
 |zero=>
  intro k f s Ls R I j hf hk hS hl;obtain⟨f,rfl⟩:∃g,f=g+1:=⟨f - 1,by omega⟩
  obtain rfl:k=p.ts.length:=by omega
  rw[Zg1]at hl;obtain rfl:j=N:=by omega
  refine⟨s,Ls,R,I,hS,λk2=> ?_⟩;rw[VC];simp
 |succ m ih=>
  intro k f s Ls R I j hf hk hS hl;obtain⟨f,rfl⟩:∃g,f=g+1:=⟨f - 1,by omega⟩
  have dM:k<p.ts.length:=by omega
  obtain⟨u1,u2⟩:=Uh dM;have z24:=Yc p.ts[k];have hw:=hS.ow.wf;obtain⟨n,hn⟩:∃n:Nat,(n:Int)=bQ p.ts[k]:=⟨(bQ p.ts[k]).toNat,by omega⟩
  have avP:zS p.ts (k:Int)=((j:Nat):Int):=by rw[zS,Za7 (by omega),hl];simp
  have fi:=ajo hc p.tz p.ts cF (k:Int) s hw;rw[avP]at fi;have co:=apP hc p.ts[k] (cF _ (Zb8 dM)) (Ip hv k dM) s hw;rw[<-hn]at co;have so:=λ(K:AV->St->Option (AV×St))=>apO (c:=c) p.tz p.ts k dM K s
  have q0:=hS.ow.keep pb _ O8 hpb;have G:=Grew.ah hw (.cells [.int .i64 ((j:Nat):Int)] 0);have S1:SW p.ts s0 (ah s (.cells [.int .i64 ((j:Nat):Int)] 0)) jb H Ls R I (j+0):=⟨hS.ow.ai G,G.get hS.cell,hS.shp⟩
  obtain⟨s1,Ls1,R1,I1,y1,y5⟩:=avN hc p cF hH hpb O8 (first:=j) (n:=n) (N:=N) (k:=k) dM hl hn (by omega) hN2 (by omega) F n 0 F _ Ls R I s.next (by omega) (by omega) S1 (aB _ _)
   (λe=>by have:=hw _ _ hS.cell;rw[<-e]at this;omega) (λL hL e=>by have:=hS.ow.ltL hL e;omega)
  obtain⟨s',Ls',R',I',z1,z5⟩:=ih (k+1) f s1 Ls1 R1 I1 (j+n) (by omega) (by omega) y1 (by omega);refine⟨s',Ls',R',I',z1,λk2=> ?_⟩;have aW:(k:Int)<(p.ts.length:Int):=by omega
  have w1:av .i64 ((k:Int)+1)=((k+1:Nat):Int):=aep rfl (by omega);have st7:∀(K:AV->St->Option (AV×St)),aq c (.store 1) [.ptr s.next 0,.int .i64 ((j:Nat):Int)] (ah s (.cells [.int .i64 0] 0)) K=K .undef (ah s (.cells [.int .i64 ((j:Nat):Int)] 0)):=λK=>cq c K s 1 (.int .i64 ((j:Nat):Int)) [.int .i64 0] rfl rfl rfl
  rw[<-z5 k2,VC];simp only[aD,aX,bV,Za0 aW,cV,au,aK,Zb1,aO,q0,az,Za6,bE.c0,aQ,bI,fi,bw,dy,w1,so,co,bN,st7,y5]
theorem atm{s0 s:St}{jb:Pos}{Ls:List AV}{R:List (List AV)}{I:List (AV×List (List AV))}(O:Ow s0 s jb Ls R I){i:Nat}{L:AV}{ws:List AV}(hL:Ls[i]? =some L)(hR:R[i]? =some ws){rs:List (List Int)}(hl:ws.length=rs.length)(P:YV I ws rs):RL s L rs ws:=by refine⟨O.own i L ws hL hR,hl,λi w r h1 h2=>(O.eI _ (P i w r h1 h2)).1,λw hw=> ?_⟩;obtain⟨i,hi,rfl⟩:=Zg6.1 hw;exact(O.eI _ (P i _ rs[i] (H0 hi) (H0 (by omega)))).1.cells.1
def ajY(lo:Nat)(s:St)(jb:Pos)(Ls:List AV)(rB rA:List (List Int))(N:Nat)(ms:List Pos):Prop:=
 ∀(i:Nat)(m:Pos),ms[i]? =some m->s.heap.get m=some (im (adN rB rA N (i:Int)))/\m≠jb/\(∀L∈Ls,aR L≠some m)/\lo<=m.toNat
theorem avQ (hc:Sem c){jb:Pos}{H:List AV}(hH:H.length=6){s0:St}{L0 L1 L2 L3 L4:AV}{r0 r1 r2 wB wA:List AV}{I:List (AV×List (List AV))}{rB rA:List (List Int)}{N:Nat}(hN2:N<=10000)(lB:rB.length=N)(lA:rA.length=N)(eB:wB.length=rB.length)(eA:wA.length=rA.length)
  (PB:YV I wB rB) (PA:YV I wA rA) (hB:∀r∈rB,Bd N r) (hA:∀r∈rA,Bd N r) (F:Nat):
  ∀(m k f:Nat)(s:St)(L5:AV)(ms:List Pos),m<f->k+m=N->Ow s0 s jb [L0,L1,L2,L3,L4,L5,.af,.af] [r0,r1,r2,wB,wA,ms.map AV.map,[],[]] I->s.heap.get jb=some (.cells (H++[L0,L1,L2,L3,L4,L5,.af,.af]) 0)->ms.length=k->ajY s0.next.toNat s jb [L0,L1,L2,L3,L4,L5,.af,.af] rB rA N ms->
   ∃    s' L5' ms',Ow s0 s' jb [L0,L1,L2,L3,L4,L5',.af,.af] [r0,r1,r2,wB,wA,ms'.map AV.map,[],[]] I/\s'.heap.get jb=some (.cells (H++[L0,L1,L2,L3,L4,L5',.af,.af]) 0)/\ms'.length=N/\ajY s0.next.toNat s' jb [L0,L1,L2,L3,L4,L5',.af,.af] rB rA N ms'/\
        ∀(x1:AV)(k6),Bl c F k6 f [x1,.ptr jb 0,.int .i64 (N:Int),.int .i64 (k:Int)] s=k6 [x1,.ptr jb 0] s':=by
 intro m;induction m with
 |zero=>
  intro k f s L5 ms hf hk O C hl hM;obtain⟨f,rfl⟩:∃g,f=g+1:=⟨f - 1,by omega⟩
  obtain rfl:k=N:=by omega
  refine⟨s,L5,ms,O,C,hl,hM,λx1 k6=> ?_⟩;rw[VD];simp
 |succ m ih=>
  intro k f s L5 ms hf hk O C hl hM;obtain⟨f,rfl⟩:∃g,f=g+1:=⟨f - 1,by omega⟩
  obtain ⟨mm,u,W,G,hmm,hmg⟩:=auQ hc hN2 s O.wf C (RW hH 3) (RW hH 4) (atm O (i:=3) rfl rfl eB PB) (atm O (i:=4) rfl rfl eA PA) lB lA hB hA (k:Int) (by omega);have O1:=O.ai G;have C1:=G.get C;obtain⟨t2,s2,V5,c1,c2,O2,C2,K2⟩:=O1.put C1 (c:=c) (Q:=AV×St) 8 (i:=5) (L:=L5) (r:=ms.map AV.map) rfl rfl (x:= .map mm) rfl rfl (by rw[Za3];omega) (by rw[Za3];omega) (o:=11) (by omega);have M2   :ajY s0.next.toNat s2 jb [L0,L1,L2,L3,L4,V5,.af,.af] rB rA N (ms++[mm]):=λi m' hi=>by
   have gR:u.heap.get m'=some (im (adN rB rA N (i:Int)))/\m'≠jb/\(∀L∈[L0,L1,L2,L3,L4,L5,AV.af,AV.af],aR L≠some m')/\s0.next.toNat<=m'.toNat:=by
        by_cases h0:i<ms.length
        .rw[Zc3 h0]at hi;have:=hM i m' hi;exact⟨G.get this.1,this.2⟩
        . rw[Zc1 (by omega)]at hi;have h1:i=k:=by
            rcases Zj3 (i - ms.length) 1 with h|h
            .omega
            .rw[Zc0 (by simpa using h)]at hi;cases hi
          subst h1;rw[show i - ms.length=0 by omega]at hi;simp at hi;subst hi;exact⟨hmg,λe=>by have:=O.wf _ _ C;rw[<-e]at this;omega,λL hL e=>(by have:=O.ltL hL e;omega),Zb2 O.next hmm⟩
   obtain⟨q1,q2⟩:=K2 m' _ gR.2.1 gR.2.2.1 gR.1;exact⟨q1,gR.2.1,q2,gR.2.2.2⟩
  have n1:=λ(K:AV->Option (AV×St))=>lH K (p:=jb) (o:=11) (h:=u.heap) (h2:=s.heap) (v:=L5) (by rw[C1];exact RW hH 5) (by rw[C];exact RW hH 5) (O.own 5 L5 _ rfl rfl).beq
  have r1x:=λ(K:AV->AB->Option (AV×St))=>Gs (z:=[.qX]) (x:= .map mm) rfl rfl u K
  obtain⟨s',L5',ms',z1,z2,z6,z7,z3⟩:=ih (k+1) f s2 V5 (ms++[mm]) (by omega) (by omega) (by rw[Zc8];exact O2) C2 (by simp;omega) M2;refine⟨s',L5',ms',z1,z2,z6,z7,λx1 k6=> ?_⟩;have aW:(k:Int)<(N:Int):=by omega
  have w1:av .i64 ((k:Int)+1)=((k+1:Nat):Int):=aep rfl (by omega);rw[<-z3 x1 k6,VD];simp only[aD,aX,bV,Za0 aW,cV,au,dh,bI,W,bw,qU,bC,Zb1,Zi9,n1,r1x,c1,c2,dy,w1]
theorem alN(z:Bool)(gs:List aS){i:Nat}(hi:i<gs.length)(K:AV->St->Option (AV×St))(s:St):aq c (.idxA 9 none) [dL z gs,.int .i64 (i:Int)] s K=K (.fp (gs.map aS.cells) i 0) s:=by
 unfold dL;rw[Tn];simp[hi]
theorem alO(gs:List aS){i:Nat}(hi:i<gs.length)(K:AV->St->Option (AV×St))(s:St):aq c (.load (some 9)) [.fp (gs.map aS.cells) i 0] s K=K (.agg (gs[i]).cells) s:=by
 rw[abh];simp[hi]
theorem alP(g:aS)(s:St)(K:AV->St->Option (AV×St)):
  aq c (.alloc [(.str []),(.str []),(.str []),(.int .i64 0),(.int .i64 0),(.str []),(.bool false),(.bool false),.af]) [] s (λx7 s7=>aq c (.store 9) [x7,.agg g.cells] s7 (λ_ s8=>K x7 s8))=K (.ptr s.next 0) (ah s (.cells g.cells 0)):=by
 rw[bN];exact cq c (λ_ s8=>K (.ptr s.next 0) s8) s 9 (.agg g.cells) _ rfl rfl (g.MT (v:=lM g.tz g.tg) (by simp only[aV,ajq]))
def PrR(I:List (AV×List (List AV)))(ws:List AV)(rs:List (List (List AV))):Prop:=∀(i:Nat)(w:AV)(r:List (List AV)),ws[i]? =some w->rs[i]? =some r->(w,r)∈I
theorem PrR.more{I:List (AV×List (List AV))}{ws:List AV}{rs:List (List (List AV))}(h:PrR I ws rs)(e:AV×List (List AV)):PrR (e::I) ws rs:=λi w r h1 h2=>Zb0 _ (h i w r h1 h2)
theorem PrR.snoc{I:List (AV×List (List AV))}{ws:List AV}{rs:List (List (List AV))}(h:PrR I ws rs)(hl:ws.length=rs.length){w:AV}{r:List (List AV)}(hm:(w,r)∈I):PrR I (ws++[w]) (rs++[r]):=λi w' r' h1 h2=>by
 by_cases hi:i<ws.length
 .rw[Zc3 hi]at h1;rw[Zc3 (by omega)]at h2;exact h i w' r' h1 h2
 . rw[Zc1 (by omega)]at h1;rw[Zc1 (by omega)]at h2;by_cases h0:i - ws.length=0
   .rw[h0]at h1;rw[show i - rs.length=0 by omega]at h2;simp at h1 h2;subst h1;subst h2;exact hm
   .rw[Zc0 (by simp;omega)]at h1;cases h1
def aeq(r:List Bool):List (List AV):=(r.map AV.bool).map oH
def aer(r:List Int):List (List AV):=(r.map (AV.int .u8)).map oH
def acL(L:List (List Nat×List (List Nat)))(a b:List Nat):Bool:=decide ((0:Int)<(anv L a b:Int))
theorem avR(hc:Sem c)(z:Bool)(gs:List aS)(hl:gs.length<=100){s0 T:St}{bp mp:Pos}{gs2:List aS}{ts:List Ty}{gk tk:Option Pos}(B:eV s0 T bp mp gs2 ts gk tk)(uO:ts.length<=1000)(hs:FF ts){jb:Pos}{y:AB}(hj:s0.heap.get jb=some y)
  {L6 L7:AV} {r6 r7:List AV} {I:List (AV×List (List AV))} {Y:AB} {gb:Pos} {gcs:List AV} {a:List Nat} (ha:gcs[0]? =some (.str a)) (hgj:gb≠jb) (F:Nat):
  ∀(m i f:Nat)(s:St)(cv kv:AV)(bs:List Bool)(ks:List Int),m<f->i+m=gs.length->Ow T s jb [L6,L7,cv,kv] [r6,r7,bs.map AV.bool,ks.map (AV.int .u8)] I->s.heap.get jb=some Y->s.heap.get gb=some (.cells gcs 0)->(∀L∈[L6,L7,cv,kv],aR L≠some gb)->bs=(gs.take i).map (λg=>acL (Ih gs2) a g.name)->ks=(gs.take i).map (λg=>P9 ts a g.name)->
   ∃    (s':St) (cv' kv':AV) (bs':List Bool) (ks':List Int),Ow T s' jb [L6,L7,cv',kv'] [r6,r7,bs'.map AV.bool,ks'.map (AV.int .u8)] I/\s'.heap.get jb=some Y/\bs'=gs.map (λg=>acL (Ih gs2) a g.name)/\ks'=gs.map (λg=>P9 ts a g.name)/\
        ∀(x1 x7 ajZ aj0 aj1:AV)(JV),xJ c F JV f [x1,x7,.ptr bp 0,.ptr gb 0,cv,kv,ajZ,aj0,aj1,dL z gs,.int .i64 (gs.length:Int),.int .i64 (i:Int)] s=JV [x1,x7,.ptr bp 0,cv',kv',ajZ,aj0,aj1] s':=by
 intro m;induction m with
 |zero=>
  intro i f s cv kv bs ks hf hi O C hb afB h1 h2;obtain⟨f,rfl⟩:∃g,f=g+1:=⟨f - 1,by omega⟩
  obtain rfl:i=gs.length:=by omega
  rw[Zg1]at h1 h2;refine⟨s,cv,kv,bs,ks,O,C,h1,h2,λx1 x7 ajZ aj0 aj1 JV=> ?_⟩;rw[VE];simp
 |succ m ih=>
  intro i f s cv kv bs ks hf hi O C hb afB h1 h2;obtain⟨f,rfl⟩:∃g,f=g+1:=⟨f - 1,by omega⟩
  have fX:i<gs.length:=by omega
  have hw:=O.wf;have G1:=Grew.ah hw (.cells (gs[i]).cells 0);have O1:=O.ai G1;have b1':bs.length=i:=by rw[h1,Za3,Zf1];omega
  have k1':ks.length=i:=by rw[h2,Za3,Zf1];omega
  have et:gs.take (i+1)=gs.take i++[gs[i]]:=Zc2 fX;obtain⟨w,s2,e1,G2,ln⟩:=apV hc (B.at hj O1.wf O1.keep) a (gs[i]).name;obtain⟨nn,hnn⟩:∃nn,nn=anv (Ih gs2) a (gs[i]).name:=⟨_,rfl⟩
  rw[<-hnn]at ln;have O2:=O1.ai G2;have C2:=G2.get (G1.get C);have b2:=G2.get (G1.get hb);have x2:s2.heap.get s.next=some (.cells (gs[i]).cells 0):=G2.get (aB _ _);have far2:∀L∈[L6,L7,cv,kv],aR L≠some s.next:=λL hL e=>by have:=O.ltL hL e;omega
  obtain⟨s3,cv',a1,O3,a3,a4,a5,a6,a7,a8⟩:=O2.adJ (c:=c) (Q:=AV×St) 1 (i:=2) (L:=cv) (r:=bs.map AV.bool) rfl rfl (x:= .bool (decide ((0:Int)<(nn:Int)))) rfl rfl (by rw[Za3];omega) (by rw[Za3];omega);have C3:=a3 _ C2;have b3:=a4 gb _ (afB cv (by simp)) b2;have x3:=a4 s.next _ (far2 cv (by simp)) x2;have fg3:∀L∈[L6,L7,cv',kv],aR L≠some gb:=Ow.mem_set (i:=2) afB λe=>by have:=a8 _ e;have:=O2.wf _ _ b2;omega
  obtain⟨ok,t1⟩:=auU hc (B.at hj O3.wf O3.keep) uO hs a (gs[i]).name;obtain⟨k,hk⟩:∃k,k=P9 ts a (gs[i]).name:=⟨_,rfl⟩
  rw[<-hk]at t1;obtain⟨s4,kv',d1,O4,d3,d4,d5,d6,d7,d8⟩:=O3.adJ (c:=c) (Q:=AV×St) 1 (i:=3) (L:=kv) (r:=ks.map (AV.int .u8)) rfl rfl (x:= .int .u8 k) rfl rfl (by rw[Za3];omega) (by rw[Za3];omega);have C4:=d3 _ C3;have b4:=d4 gb _ (fg3 kv (by simp)) b3;have fg4:∀L∈[L6,L7,cv',kv'],aR L≠some gb:=Ow.mem_set (i:=3) fg3 λe=>by have:=d8 _ e;have:=O3.wf _ _ b3;omega
  obtain⟨s',cv2,kv2,bs2,ks2,z1,z2,z6,z7,z3⟩:=ih (i+1) f s4 cv' kv' (bs++[decide ((0:Int)<(nn:Int))]) (ks++[k]) (by omega) (by omega) (by rw[Zc8,Zc8];exact O4) C4 b4 fg4 (by rw[et,Zc8, <-h1,hnn];rfl) (by rw[et,Zc8, <-h2,hk];rfl);refine⟨s',cv2,kv2,bs2,ks2,z1,z2,z6,z7,λx1 x7 ajZ aj0 aj1 JV=> ?_⟩;have aW:(i:Int)<(gs.length:Int):=by omega
  have w1:av .i64 ((i:Int)+1)=((i+1:Nat):Int):=aep rfl (by omega);have r1x:=λ(K:AV->St->Option (AV×St))=>Gt (c:=c) (z:=[.bool false]) (x:= .bool (decide ((0:Int)<(nn:Int)))) rfl rfl s2 K
  have r2x:=λ(K:AV->St->Option (AV×St))=>Gt (c:=c) (z:=[.int .u8 0]) (x:= .int .u8 k) rfl rfl s3 K
  have b1:=G1.get hb;have x1':(ah s (.cells (gs[i]).cells 0)).heap.get s.next=some (.cells (gs[i]).cells 0):=aB _ _;rw[<-z3 x1 x7 ajZ aj0 aj1 JV,VE];simp only[aD,aX,bV,Za0 aW,cV,alN z gs fX,alO gs fX,alP,au,aK,Zb1,aO,b1,x1',az,Za6,ha,aS.c0,aQ,bI,e1,bw,ln,nG,r1x,a1,
   b3,x3,t1,gP,Za4,Zb6,r2x,d1,dy,w1]
theorem asy{H Ls:List AV}(hH:H.length=12)(i:Nat):(H++Ls)[12+i]? =Ls[i]? :=by rw[Zc1 (by omega)];congr 1;omega
structure asz(I:List (AV×List (List AV)))(r6 r7:List AV)(ja:List (List Bool))(jd:List (List Int))(n j:Nat):Prop where
 lb:ja.length=j
 lk:jd.length=j
 eb:∀r∈ja,r.length=n
 ek:∀r∈jd,r.length=n
 pb:PrR I r6 (ja.map aeq)
 pk:PrR I r7 (jd.map aer)
theorem avS(hc:Sem c)(p:bE)(hl:p.gs.length<=100){s0 T:St}{bp mp:Pos}{gs2:List aS}{ts:List Ty}{gk tk:Option Pos}(B:eV s0 T bp mp gs2 ts gk tk)(uO:ts.length<=1000)(hs:FF ts){pb jb:Pos}{y:AB}(hj:s0.heap.get jb=some y)(hpb:T.heap.get pb=some (.cells p.cells 0))(O8:pb≠jb)
  {H:List AV} (hH:H.length=12) (F:Nat) (hF:1010<=F):
  ∀(m j f:Nat)(s:St)(L6 L7:AV)(r6 r7:List AV)(I:List (AV×List (List AV)))(ja:List (List Bool))(jd:List (List Int)),m<f->j+m=p.gs.length->Ow T s jb [L6,L7] [r6,r7] I->s.heap.get jb=some (.cells (H++[L6,L7]) 0)->r6.length=j->r7.length=j->asz I r6 r7 ja jd p.gs.length j->ja=(p.gs.take j).map (λg=>p.gs.map λh=>acL (Ih gs2) g.name h.name)->jd=(p.gs.take j).map (λg=>p.gs.map λh=>P9 ts g.name h.name)->
   ∃    (s':St) (L6' L7':AV) (r6' r7':List AV) (I':List (AV×List (List AV))) (anD:List (List Bool)) (anE:List (List Int)),Ow T s' jb [L6',L7'] [r6',r7'] I'/\s'.heap.get jb=some (.cells (H++[L6',L7']) 0)/\r6'.length=p.gs.length/\r7'.length=p.gs.length/\asz I' r6' r7' anD anE p.gs.length p.gs.length/\(anD=p.gs.map (λg=>p.gs.map λh=>acL (Ih gs2) g.name h.name)/\anE=p.gs.map (λg=>p.gs.map λh=>P9 ts g.name h.name))/\
        ∀(k8),Bm c F k8 f [.ptr pb 0,.ptr jb 0,.ptr bp 0,dL p.gz p.gs,.int .i64 (p.gs.length:Int),.int .i64 (j:Int)] s=k8 [.ptr jb 0] s':=by
 intro m;induction m with
 |zero=>
  intro j f s L6 L7 r6 r7 I ja jd hf hi O C h1 h2 hG hB hK;obtain⟨f,rfl⟩:∃g,f=g+1:=⟨f - 1,by omega⟩
  obtain rfl:j=p.gs.length:=by omega
  rw[Zg1]at hB hK;refine⟨s,L6,L7,r6,r7,I,ja,jd,O,C,h1,h2,hG,⟨hB,hK⟩,λk8=> ?_⟩;rw[VF];simp
 |succ m ih=>
  intro j f s L6 L7 r6 r7 I ja jd hf hi O C h1 h2 hG hB hK;obtain⟨f,rfl⟩:∃g,f=g+1:=⟨f - 1,by omega⟩
  have fX:j<p.gs.length:=by omega
  have hw:=O.wf;have G1:=Grew.ah hw (.cells (p.gs[j]).cells 0);have O1:Ow T (ah s (.cells (p.gs[j]).cells 0)) jb [L6,L7,.af,.af] [r6,r7,[],[]] I:=((O.ai G1).snoc).snoc;have C1:=G1.get C;have yS:∀L∈[L6,L7,AV.af,AV.af],aR L≠some s.next:=λL hL e=>by
   simp only[Za9,Zc6,Zf3]at hL;rcases hL with rfl|rfl|rfl|rfl
   .    have:=O.ltL (L:=L) (by simp) e;omega
   .    have:=O.ltL (L:=L) (by simp) e;omega
   .    cases e
   .    cases e
  have et:p.gs.take (j+1)=p.gs.take j++[p.gs[j]]:=Zc2 fX;obtain⟨s2,cv,kv,bs,ks,O2,C2,ebs,eks,z3⟩:=avR hc p.gz p.gs hl B uO hs hj (gb:=s.next) (gcs:=(p.gs[j]).cells) (a:=(p.gs[j]).name) rfl (λe=>by have:=hw _ _ C;rw[<-e]at this;omega) F p.gs.length 0 F _ .af .af [] [] (by omega) (by omega) O1 C1 (aB _ _) yS rfl rfl;have lbs:bs.length=p.gs.length:=by rw[ebs,Za3]
  have lks:ks.length=p.gs.length:=by rw[eks,Za3]
  obtain⟨cc,co⟩:=(O2.own 2 cv _ rfl rfl).cells;obtain⟨kc,ko⟩:=(O2.own 3 kv _ rfl rfl).cells;have O2':Ow T s2 jb [L6,L7] [r6,r7] ((cv,aeq bs)::(kv,aer ks)::I):=(Ow.take (Ls:=[L6,L7]) (R:=[r6,r7]) (Ow.take (Ls:=[L6,L7,cv]) (R:=[r6,r7,bs.map AV.bool]) O2))
  obtain⟨s3,V6,a1,O3,a3,a4,a5,a6,a7,a8⟩:=O2'.adJ (c:=c) (Q:=AV×St) 24 (i:=0) (L:=L6) (r:=r6) rfl rfl (x:=cv) cc co (by omega) (by omega);have C3:=a3 _ C2;obtain⟨s4,V7,d1,O4,d3,d4,d5,d6,d7,d8⟩:=O3.adJ (c:=c) (Q:=AV×St) 24 (i:=1) (L:=L7) (r:=r7) rfl rfl (x:=kv) kc ko (by omega) (by omega);have C4:=d3 _ C3;have O5:=(O4.store (.cells (H++[V6,L7]) 0)).store (.cells (H++[V6,V7]) 0);have bK:∀(K:AV->St->Option (AV×St)),aq c (.store 1) [.ptr jb 12,V6] s4 K=K .undef (bn s4 jb (.cells (H++[V6,L7]) 0)):=λK=>by rw[CJ K C4 (by simp;omega) a5 a6,Zk1 _ _ (by omega),show 12 - H.length=0 by omega];rfl
  have A3:∀(K:AV->St->Option (AV×St)),aq c (.store 1) [.ptr jb 13,V7] (bn s4 jb (.cells (H++[V6,L7]) 0)) K=K .undef (bn (bn s4 jb (.cells (H++[V6,L7]) 0)) jb (.cells (H++[V6,V7]) 0)):=λK=>by rw[CJ K (bW _ _ _) (by simp;omega) d5 d6,Zk1 _ _ (by omega),show 13 - H.length=1 by omega];rfl
  have hG':asz ((cv,aeq bs)::(kv,aer ks)::I) (r6++[cv]) (r7++[kv]) (ja++[bs]) (jd++[ks]) p.gs.length (j+1):=by
   have e1:=hG.lb;have e2:=hG.lk;refine⟨by simp;omega,by simp;omega,λr hr=> ?_,λr hr=> ?_,?_,?_⟩
   .    rcases Ze0.1 hr with h|h
        .exact hG.eb r h
        .simp at h;subst h;exact lbs
   .    rcases Ze0.1 hr with h|h
        .exact hG.ek r h
        .simp at h;subst h;exact lks
   .    rw[Zc8];exact((hG.pb.more _).more _).snoc (by simp;omega) (Zd6)
   .    rw[Zc8];exact((hG.pk.more _).more _).snoc (by simp;omega) (Zb0 _ Zd6)
  obtain⟨s',L6',L7',r6',r7',I',anD,anE,y1,y2,y6,y7,y8,y9,y3⟩:=ih (j+1) f _ V6 V7 (r6++[cv]) (r7++[kv]) _ (ja++[bs]) (jd++[ks]) (by omega) (by omega) O5 (bW _ _ _) (by simp;omega) (by simp;omega) hG' (by rw[et,Zc8, <-hB,ebs];rfl) (by rw[et,Zc8, <-hK,eks];rfl);refine⟨s',L6',L7',r6',r7',I',anD,anE,y1,y2,y6,y7,y8,y9,λk8=> ?_⟩;have aW:(j:Int)<(p.gs.length:Int):=by omega
  have w1:av .i64 ((j:Int)+1)=((j+1:Nat):Int):=aep rfl (by omega);have q1:=O1.keep pb _ O8 hpb;have g12:(H++[L6,L7])[12]? =some L6:=asy hH 0;have r1x:=λ(K:AV->AB->Option (AV×St))=>Gs (z:=[.af]) (x:=cv) rfl cc s2 K
  have r2x:=λ(K:AV->AB->Option (AV×St))=>Gs (z:=[.af]) (x:=kv) rfl kc s3 K
  have n1:=λ(K:AV->Option (AV×St))=>lH K (p:=jb) (o:=13) (h:=s3.heap) (h2:=s2.heap) (v:=L7) (by rw[C3];exact asy hH 1) (by rw[C2];exact asy hH 1) (O2.own 1 L7 r7 rfl rfl).beq
  have lG:∀(K:AV->St->Option (AV×St))(s:St),aq c (.lenB .l) [dL p.gz p.gs] s K=K (.int .i64 (p.gs.length:Int)) s:=λK s=>by unfold dL;rw[jL];simp
  rw[<-y3 k8,VF];simp only[aD,aX,bV,Za0 aW,cV,alN p.gz p.gs fX,alO p.gs fX,alP,au,aK,Zb1,aO,q1,az,Za6,bE.c1,aQ,lG];rw[show(0:Int)=((0:Nat):Int)from rfl,z3];simp only[aD,aX,dh,qU,bC,Zb1,jZ,C2,az,Za6,g12,aQ,r1x,a1,Zi9,n1,r2x,d1,bK,A3,dy,w1,au]
def Na(gs:List aS):List (List Bool):=gs.map λg=>gs.map λh=>acL (Ih gs) g.name h.name
noncomputable def Nb(gs:List aS)(ts:List Ty):List (List Int):=gs.map λg=>gs.map λh=>P9 ts g.name h.name
theorem akQ{p:bE}(h:(eD p).2=0):(bZ p.ts).2=0/\(ey p.gs p.ys).2=0:=by
 have hb:(iI p).2=0:=by
   unfold eD at h;by_cases e:(iI p).2=0
   .exact e
   .rw[Zb4 e]at h;exact absurd h e
 unfold iI at hb;by_cases h1:(bZ p.ts).2=0
 . rw[Za7 (by simpa using h1)]at hb;by_cases h2:(ey p.gs p.ys).2=0
   .exact⟨h1,h2⟩
   .rw[Zb4 h2]at hb;exact absurd hb h2
 .rw[Zb4 h1]at hb;exact absurd hb h1
def Tg(s0 s:St)(v:AV)(rows:List (List AV)):Prop:=QS 1 s v rows/\∀b,aR v=some b->s0.next.toNat<=b.toNat/\s.heap.get b=some (.cells rows.flatten 0)
theorem Tg.mono{s0 s s':St}{v:AV}{rows:List (List AV)}(h:Tg s0 s v rows)(hk:∀b x,s0.next.toNat<=b.toNat->s.heap.get b=some x->s'.heap.get b=some x):Tg s0 s' v rows:=
 ⟨h.1.mono λb x hb hx=>hk b x (h.2 b hb).1 hx,λb hb=>⟨(h.2 b hb).1,hk b _ (h.2 b hb).1 (h.2 b hb).2⟩⟩
theorem Tg.base{s1 s0 s:St}{v:AV}{rows:List (List AV)}(h:Tg s0 s v rows)(hn:s1.next.toNat<=s0.next.toNat):Tg s1 s v rows:=⟨h.1,λb hb=>⟨Zb2 hn (h.2 b hb).1,(h.2 b hb).2⟩⟩
theorem Ow.tg{s0 s:St}{jb:Pos}{Ls:List AV}{R:List (List AV)}{I:List (AV×List (List AV))}(O:Ow s0 s jb Ls R I){i:Nat}{L:AV}{r:List AV}(hL:Ls[i]? =some L)(hR:R[i]? =some r):Tg s0 s L (r.map oH):=
 ⟨O.own i L r hL hR,λb hb=>⟨O.new L (Zc5 hL) b hb,by rw[ahu];exact O.tig i L r hL hR b hb⟩⟩
theorem Ow.tgi{s0 s:St}{jb:Pos}{Ls:List AV}{R:List (List AV)}{I:List (AV×List (List AV))}(O:Ow s0 s jb Ls R I){w:AV}{rows:List (List AV)}(h:(w,rows)∈I):Tg s0 s w rows:=
 ⟨(O.eI _ h).1,λb hb=>⟨O.inw _ h b hb,O.itg _ h b hb⟩⟩
structure JD(s0 s:St)(jb:Pos)(Vs:List AV)(ts:List aC)(N n:Nat)(ja:List (List Bool))(jd:List (List Int)):Prop where
 all:∃(m:Pos) (L0 L1 L2 L3 L4 L5 L6 L7:AV) (wB wA:List AV) (ms:List Pos) (r6 r7:List AV),s.heap.get jb=some (.cells (Vs++[.map m,L0,L1,L2,L3,L4,L5,L6,L7]) 0)/\
  (s0.next.toNat<=m.toNat/\s.heap.get m=some (.map FA 18))/\Tg s0 s L0 ((BK ts N).map oH)/\Tg s0 s L1 ((BL ts N).map oH)/\Tg s0 s L2 ((BM ts N).map oH)/\
  (Tg s0 s L3 (wB.map oH)/\wB.length=N/\∀(i:Nat)(w:AV)(r:List Int),wB[i]? =some w->(uF ts N)[i]? =some r->Tg s0 s w (r.map bH))/\
  (Tg s0 s L4 (wA.map oH)/\wA.length=N/\∀(i:Nat)(w:AV)(r:List Int),wA[i]? =some w->(uG ts N)[i]? =some r->Tg s0 s w (r.map bH))/\
  (Tg s0 s L5 ((ms.map AV.map).map oH)/\ms.length=N/\∀(i:Nat)(m:Pos),ms[i]? =some m->s0.next.toNat<=m.toNat/\s.heap.get m=some (im (adN (uF ts N) (uG ts N) N (i:Int))))/\
  (Tg s0 s L6 (r6.map oH)/\r6.length=n/\∀(i:Nat)(w:AV)(r:List Bool),r6[i]? =some w->ja[i]? =some r->Tg s0 s w (aeq r))/\
  (Tg s0 s L7 (r7.map oH)/\r7.length=n/\∀(i:Nat)(w:AV)(r:List Int),r7[i]? =some w->jd[i]? =some r->Tg s0 s w (aer r))
 n1:ja.length=n
 n2:jd.length=n
 n3:∀r∈ja,r.length=n
 n4:∀r∈jd,r.length=n
theorem abl(hc:Sem c)(p:bE)(hp:p.uz)(hRo:Ii c p)(hR:p.Real)(hr:∀r∈p.rs,r.Ok)(s:St)(hw:Wf s)(h:(eD p).2=0):
   ∃(jb:Pos) (s':St) (Vs:List AV) (N:Nat) (ja:List (List Bool)) (jd:List (List Int)),c 18 [.agg p.cells] s=some (.tuple [.ptr jb 0,.int .i64 0,.int .i64 0],s')/\PS s s' Vs p/\(N:Int)=bg p.ts/\JD s s' jb Vs p.ts N p.gs.length ja jd/\s.next.toNat<=jb.toNat/\Vs.length=5/\ja=Na p.gs/\jd=Nb p.gs p.ys:=by
 obtain⟨hv,awG⟩:=akQ h;have h16:=OV hv;have dm:Wf (ah s (.cells p.cells 0)):=bP hw;have G1:=Grew.ah hw (.cells p.cells 0);have ck:=Jv hc p hp hRo hr _ dm;obtain⟨Vs,s1,cp,P⟩:=adY hc p hR _ dm;obtain⟨vl,vo⟩:=P.cells;obtain⟨V1,V2,V3,V4,V5,rfl⟩:∃V1 V2 V3 V4 V5,Vs=[V1,V2,V3,V4,V5]:=by
   match Vs,vl with
   |[a,b,c,d,e],_=>exact⟨a,b,c,d,e,rfl⟩
 have w1:=P.ai.wf;have kk:=ajC hc s1;have w2:Wf (ah s1 (.map FA 18)):=bP w1;have G2:=Grew.ah w1 (.map FA 18)
 let s2:=ah s1 (.map FA 18)
 let H:=[V1,V2,V3,V4,V5,AV.map s1.next]
 let J0:List AV:=H++[.af,.af,.af,.af,.af,.af,.af,.af]
 have w3:Wf (ah s2 (.cells J0 0)):=bP w2;have G3:Grew s2 (ah s2 (.cells J0 0)):=Grew.ah w2 _
 let jb:=s2.next
 let s3:=ah s2 (.cells J0 0)
 have cj:s3.heap.get jb=some (.cells J0 0):=aB _ _;have ltj:jb.toNat<s3.next.toNat:=by show s2.next.toNat<s2.next.succ.toNat;rw[Pos.aH];exact Nat.lt_succ_self _
 have pb3:s3.heap.get s.next=some (.cells p.cells 0):=((P.ai.trans G2).trans G3).get (aB _ _);have O8:s.next≠jb:=λe=>by have e1:=P.ai.next;rw[bX,Pos.aH]at e1;have e2:s2.next.toNat=s1.next.toNat+1:=(by show(ah s1 _).next.toNat=_;rw[bX,Pos.aH]);have:s.next.toNat=s2.next.toNat:=(by rw[e]);omega
 have O0:Ow s3 s3 jb [.af,.af,.af,.af,.af,.af,.af,.af] [[],[],[],[],[],[],[],[]] []:=Ow.none w3 ltj 8;obtain⟨N,hN⟩:∃N:Nat,(N:Int)=bg p.ts:=⟨(bg p.ts).toNat,by have:=(ry p.ts).1;omega⟩
 have hN2:N<=10000:=by have:=ajW p.ts;omega
 obtain⟨s4,Ls,R,I,S4,z4⟩:=avO hc p hp.ok hv h16 (H:=H) rfl pb3 O8 hN 20000 (by omega) p.ts.length 0 20000 s3 _ _ _ 0 (by have:=hp.ts;omega) (by omega)
   ⟨O0,cj,.af,.af,.af,.af,.af,[],[],rfl,rfl,rfl,rfl,λi w r h=>(by simp at h),λi w r h=>(by simp at h)⟩ (by simp[bg])
 obtain⟨L0,L1,L2,L3,L4,wB,wA,rfl,rfl,e3,e4,PB,PA⟩:=S4.shp;have lBA:=OO p.ts N;obtain⟨hB,hA⟩:=acv hN;obtain⟨s5,L5,ms,O5,C5,lms,M5,z5⟩:=avQ hc (H:=H) rfl hN2 lBA.1 lBA.2 (by rw[lBA.1];exact e3) (by rw[lBA.2];exact e4) PB PA hB hA 20000 N 0 20000 s4 .af [] (by omega) (by omega) S4.ow S4.cell rfl (λi m h=>by simp at h);have w5:=O5.wf;obtain⟨v6,s6,e6,k6,b6⟩:=RF hc p.gz p.yz p.gs p.ys hp.gs hp.ys s5 w5;obtain⟨bp,mp,gk,tk,rfl,B,hs⟩:=b6 awG;have w6:=B.wf;have hj6:=k6 _ _ C5;have hj5:(ah s5 (.cells [dL p.gz p.gs,gW p.yz p.ys] 0)).heap.get jb=some (.cells (H++[L0,L1,L2,L3,L4,L5,.af,.af]) 0):=(Grew.ah w5 _).get C5;have lt6:=w6 _ _ hj6;have pb5:=O5.keep s.next _ O8 pb3;have pb6:=k6 _ _ pb5
 let H':=H++[L0,L1,L2,L3,L4,L5]
 have O6:Ow s6 s6 jb [.af,.af] [[],[]] []:=Ow.none w6 lt6 2;obtain⟨s7,L6,L7,r6,r7,I',ja,jd,O7,C7,l6,l7,G7,⟨eB,eK⟩,z7⟩:=avS hc p hp.gs B (by have:=hp.ys;omega) hs hj5 pb6 O8 (H:=H') rfl 20000 (by omega) p.gs.length 0 20000 s6 .af .af [] [] [] [] [] (by have:=hp.gs;omega) (by omega) O6 hj6 rfl rfl ⟨rfl,rfl,λr h=>(by cases h),λr h=>(by cases h),λi w r h=>(by simp at h),λi w r h=>(by simp at h)⟩ rfl rfl;have keep:∀q x,q≠jb->s3.heap.get q=some x->s7.heap.get q=some x:=λq x hq hx=>O7.keep q x hq (k6 _ _ (O5.keep q x hq hx))
 have G03:Grew s s3:=((G1.trans P.ai).trans G2).trans G3;have jge:s1.next.toNat<jb.toNat:=by show _<(ah s1 _).next.toNat;rw[bX,Pos.aH];omega
 have sle:s.next.toNat<=s1.next.toNat:=(G1.trans P.ai).next;have G07:Grew s s7:=⟨O7.wf,λq x hx=>keep q x (λe=>by have:=hw _ _ hx;rw[e]at this;omega) (G03.get hx),by have a1:=G03.next;have a2:=O5.next;have a3:=B.next;have a4:=O7.next;rw[bX,Pos.aH]at a3;omega⟩
 have PE:PS s s7 [V1,V2,V3,V4,V5] p:=P.pJ hw G1 G07 λq b _ hx=>keep q b (λe=>by have:=w1 _ _ hx;rw[e]at this;omega) ((G2.trans G3).get hx)
 have n03:s.next.toNat<=s3.next.toNat:=G03.next;have n36:s3.next.toNat<=s6.next.toNat:=Zb2 O5.next (by have:=B.next;rw[bX,Pos.aH]at this;omega);have asA:∀q x,q≠jb->s5.heap.get q=some x->s7.heap.get q=some x:=λq x hq hx=>O7.keep q x hq (k6 _ _ hx)
 have nj:∀q:Pos,s3.next.toNat<=q.toNat->q≠jb:=λq hq e=>by rw[e]at hq;omega
 have T5:∀{i:Nat}{L:AV}{r:List AV},([L0,L1,L2,L3,L4,L5,.af,.af]:List AV)[i]? =some L->([BK p.ts N,BL p.ts N,BM p.ts N,wB,wA,ms.map AV.map,[],[]]:List (List AV))[i]? =some r->Tg s s7 L (r.map oH):=λh1 h2=>
   ((Ow.tg O5 h1 h2).mono λb x hb hx=>asA b x (nj b hb) hx).base n03
 have T5i:∀{w:AV}{rows:List (List AV)},(w,rows)∈I->Tg s s7 w rows:=λh=>((Ow.tgi O5 h).mono λb x hb hx=>asA b x (nj b hb) hx).base n03
 have n06:=Zb2 n03 n36;refine⟨jb,s7,[V1,V2,V3,V4,V5],N,ja,jd,?_,PE,hN,⟨⟨s1.next,L0,L1,L2,L3,L4,L5,L6,L7,wB,wA,ms,r6,r7,C7,⟨sle,keep _ _ (λe=>by rw[<-e]at jge;omega) (G3.get (aB _ _))⟩,T5 (i:=0) rfl rfl,T5 (i:=1) rfl rfl,T5 (i:=2) rfl rfl,
   ⟨T5 (i:=3) rfl rfl,e3,λi w r h1 h2=>T5i (PB i w r h1 h2)⟩,⟨T5 (i:=4) rfl rfl,e4,λi w r h1 h2=>T5i (PA i w r h1 h2)⟩,⟨T5 (i:=5) rfl rfl,lms,λi m h=> ?_⟩,
   ⟨(Ow.tg O7 (i:=0) rfl rfl).base n06,l6,λi w r h1 h2=>(Ow.tgi O7 (G7.pb i w _ h1 (by rw[Zb3,h2];rfl))).base n06⟩,⟨(Ow.tg O7 (i:=1) rfl rfl).base n06,l7,λi w r h1 h2=>(Ow.tgi O7 (G7.pk i w _ h1 (by rw[Zb3,h2];rfl))).base n06⟩⟩,G7.lb,G7.lk,G7.eb,G7.ek⟩,by omega,rfl,eB,eK⟩
 . have hcut:cut p.cells 0 5=some p.cells:=cQ rfl;have fG:=aB s (.cells p.cells 0);have bx:∀(K:AV->St->Option (AV×St)),aq c .box [.agg p.cells] s K=K (.ptr s.next 0) (ah s (.cells p.cells 0)):=λK=>by rw[di];rfl
   have bx2:∀(K:AV->St->Option (AV×St)),aq c .box [.agg J0] s2 K=K (.ptr jb 0) s3:=λK=>by rw[di];rfl
   have hd:decide ((eD p).2=0)=true:=Za0 h;have cj1:s1.heap.get s.next=some (.cells p.cells 0):=P.ai.get fG;have ag:(AV.agg [V1,V2,V3,V4,V5]).cells=[V1,V2,V3,V4,V5]:=rfl;have bd:∀(K:AV->St->Option (AV×St)),aq c (.build [.af,.af,.af,.af,.af,.qX,.af,.af,.af,.af,.af,.af,.af,.af] [(0,5),(5,1)]) [.agg [V1,V2,V3,V4,V5],.map s1.next] s2 K=K (.agg J0) s2:=λK=>by rw[iF];rfl
   have bd2:∀(K:AV->St->Option (AV×St)),aq c (.build [.af,.af] [(0,1),(1,1)]) [dL p.gz p.gs,gW p.yz p.ys] s5 K=K (.agg [dL p.gz p.gs,gW p.yz p.ys]) s5:=λK=>by rw[iF,vO];rfl
   have lT:∀(K:AV->St->Option (AV×St))(s:St),aq c (.lenB .l) [tabs p.tz p.ts] s K=K (.int .i64 (p.ts.length:Int)) s:=λK s=>by unfold tabs;rw[jL];simp
   have lG:∀(K:AV->St->Option (AV×St))(s:St),aq c (.lenB .l) [dL p.gz p.gs] s K=K (.int .i64 (p.gs.length:Int)) s:=λK s=>by unfold dL;rw[jL];simp
   have l0:∀(K:AV->St->Option (AV×St))(s:St),aq c (.lenB .l) [L0] s K=K (.int .i64 (N:Int)) s:=λK s=>by
    rw[(S4.ow.own 0 L0 _ rfl rfl).lenB K s,Za3,(Ua p.ts N).1]
   have pb4:=S4.ow.keep s.next _ O8 pb3;have g6:(H++[L0,L1,L2,L3,L4,.af,.af,.af])[6]? =some L0:=rfl;have c4:=S4.cell;have run:=aj2 hc 20000 (x0:= .agg p.cells) (s:=s) (r:=(.tuple [.ptr jb 0,.int .i64 0,.int .i64 0],s7)) (by
    rw[anF];simp only[bx,au,cm,fG,az,Za6,hcut,cG,bI,ck,bw,gP,Za4,Zb6,aQ,zO,hd,Zi4,cE,cp,kk];rw[show ah s1 (.map FA 18)=s2 from rfl,bd,bx2];simp only[au,aK,Zb1,aO,pb3,az,Za6,bE.c0,aQ,lT];rw[show(0:Int)=((0:Nat):Int)from rfl,z4];simp only[aD,aX,au,cr,aK,Zb1,aO,c4,az,Za6,g6,aQ,l0];rw[z5];simp only[aD,aX,au,aK,Zb1,aO,pb5,az,Za6,bE.c1,bE.c2,aQ,bd2,bI,e6,bw,gP,Za4,Zb6,pb6,lG];rw[z7];simp only[aD,aX,au])
   rw[run];unfold tidy;rw[Za7 (λe=>Vo e.1)]
 .have:=M5 i m h;exact⟨Zb2 n03 this.2.2.2,asA m _ this.2.1 this.1⟩
end
section
open Go Go.Ai Go.Proofs
section
variable{p p':bE}
theorem bE.dQ.trans{q:bE}(h:p.dQ p')(k:p'.dQ q):p.dQ q where
 tl:=k.tl.trans h.tl
 ts i t t' h1 h2:=by
  have hi:i<p'.ts.length:=by rw[h.tl];exact(Za1.1 h1).1
  have e:=H0 hi;obtain⟨z,e1⟩:=h.ts i _ _ h1 e;obtain⟨z2,e2⟩:=k.ts i _ _ e h2;exact⟨z2,by rw[e2,e1]⟩
 gl:=k.gl.trans h.gl
 gs i t t' h1 h2:=by
  have hi:i<p'.gs.length:=by rw[h.gl];exact(Za1.1 h1).1
  have e:=H0 hi;obtain⟨z,e1⟩:=h.gs i _ _ h1 e;obtain⟨z2,e2⟩:=k.gs i _ _ e h2;exact⟨z2,by rw[e2,e1]⟩
 ys:=k.ys.trans h.ys
 cs:=k.cs.trans h.cs
 rs:=k.rs.trans h.rs
theorem bE.dQ.tab(h:p.dQ p'){t':aC}(ht:t'∈p'.ts):∃t∈p.ts,t.dQ t':=by
 obtain⟨i,hi,rfl⟩:=Zg6.1 ht;have tH:i<p.ts.length:=by rw[<-h.tl];exact hi
 exact⟨p.ts[i],Zb8 tH,h.ts i _ _ (H0 tH) (H0 hi)⟩
theorem bE.dQ.qK(h:p.dQ p'){t':aS}(ht:t'∈p'.gs):∃t∈p.gs,t.dQ t':=by
 obtain⟨i,hi,rfl⟩:=Zg6.1 ht;have tH:i<p.gs.length:=by rw[<-h.gl];exact hi
 exact⟨p.gs[i],Zb8 tH,h.gs i _ _ (H0 tH) (H0 hi)⟩
theorem bE.dQ.kL(h:p.dQ p')(hp:p.uz):p'.uz where
 ts:=by rw[h.tl];exact hp.ts
 gs:=by rw[h.gl];exact hp.gs
 ys:=by rw[h.ys];exact hp.ys
 cs:=by rw[h.cs];exact hp.cs
 rs:=by rw[h.rs];exact hp.rs
 ok t ht:=by obtain⟨u,hu,z,rfl⟩:=h.tab ht;have:=hp.ok u hu;exact⟨this.1,this.2⟩
theorem bE.dQ.real(h:p.dQ p')(hp:p.Real):p'.Real where
 ts:=by rw[h.tl];exact hp.ts
 tab t ht:=by obtain⟨u,hu,z,rfl⟩:=h.tab ht;have:=hp.tab u hu;exact⟨this.1,this.2⟩
 gs:=by rw[h.gl];exact hp.gs
 qK t ht:=by obtain⟨u,hu,z,rfl⟩:=h.qK ht;have:=hp.qK u hu;exact⟨this.1,this.2,this.3,this.4,this.5⟩
 ys:=by rw[h.ys];exact hp.ys
 cs:=by rw[h.cs];exact hp.cs
 rs:=by rw[h.rs];exact hp.rs
theorem asB(t:aC){v:AV}(h:bS v):∀x∈t.ay v,bS x:=λx hx=>by simp only[aC.ay,Za9,Zc6,Zf3]at hx;rcases hx with rfl|rfl|rfl|rfl|rfl|rfl|rfl<;>first|exact h|exact bS.str _|exact bS.int _ _
theorem asC(t:aS){v:AV}(h:bS v):∀x∈t.ay v,bS x:=λx hx=>by simp only[aS.ay,Za9,Zc6,Zf3]at hx;rcases hx with rfl|rfl|rfl|rfl|rfl|rfl|rfl|rfl|rfl<;>first|exact h|exact bS.str _|exact bS.int _ _|exact bS.bool _
theorem tP{α:Type}{f:α->List AV}(h:∀a,∀x∈f a,bS x)(l:List α):∀r∈l.map f,∀x∈r,bS x:=λr hr x hx=>by obtain⟨a,_,rfl⟩:=Zc9.1 hr;exact h a x hx
theorem CP(i:Int):∀x∈bH i,bS x:=λx hx=>by simp only[bH,Za9,Zc6,Zf3]at hx;subst hx;exact bS.int _ _
theorem apY(i:List Nat):∀x∈Uz i,bS x:=λx hx=>by simp only[Uz,Za9,Zc6,Zf3]at hx;subst hx;exact bS.str _
theorem auV(t:Ty):∀x∈t.cells,bS x:=λx hx=>by simp only[Ty.cells,Za9,Zc6,Zf3]at hx;rcases hx with rfl|rfl|rfl<;>first|exact bS.str _|exact bS.int _ _
theorem auW(t:Rl):∀x∈t.cells,bS x:=λx hx=>by simp only[Rl.cells,Za9,Zc6,Zf3]at hx;rcases hx with rfl|rfl|rfl|rfl|rfl|rfl<;>first|exact bS.str _|exact bS.int _ _
end
section
variable{s s1:St}
theorem TS.cO{V:AV}{ts:List aC}{rows:List (List AV)}(hw:Wf s)(h:TS (emptyAt s) s1 V ts rows):TS s (cO s s1) V ts rows where
 out:=Mk.cO hw h.out (λr hr x hx=>by
  obtain⟨i,hi,rfl⟩:=Zg6.1 hr;have ht:i<ts.length:=by rw[<-h.len];exact hi
  obtain⟨v,e,M,_⟩:=h.eI i _ _ (H0 ht) (H0 hi);rw[e]at hx;exact asB _ M.own.bare x hx)
 len:=h.len
 eI i t r hi hr:=by
  obtain⟨v,e,M,n⟩:=h.eI i t r hi hr;exact⟨v,e,Mk.cO hw M (tP CP _),n⟩
theorem GS.cO{V:AV}{ts:List aS}{rows:List (List AV)}(hw:Wf s)(h:GS (emptyAt s) s1 V ts rows):GS s (cO s s1) V ts rows where
 out:=Mk.cO hw h.out (λr hr x hx=>by
  obtain⟨i,hi,rfl⟩:=Zg6.1 hr;have ht:i<ts.length:=by rw[<-h.len];exact hi
  obtain⟨v,e,M,_⟩:=h.eI i _ _ (H0 ht) (H0 hi);rw[e]at hx;exact asC _ M.own.bare x hx)
 len:=h.len
 eI i t r hi hr:=by
  obtain⟨v,e,M,n⟩:=h.eI i t r hi hr;exact⟨v,e,Mk.cO hw M (tP apY _),n⟩
theorem PS.cO{Vs:List AV}{p:bE}(hw:Wf s)(h:PS (emptyAt s) s1 Vs p):PS s (cO s s1) Vs p:=by
 obtain⟨V1,V2,V3,V4,V5,r1,r2,e,h1,h2,h3,h4,h5⟩:=h.all;exact⟨abk hw h.ai.wf h.ai.next,V1,V2,V3,V4,V5,r1,r2,e,TS.cO hw h1,GS.cO hw h2,Mk.cO hw h3 (tP auV _),Mk.cO hw h4 (tP CP _),Mk.cO hw h5 (tP auW _)⟩
theorem PS.bare{s0:St}{Vs:List AV}{p:bE}(h:PS s0 s Vs p):∀V∈Vs,bS V:=λV hV=>by
 obtain⟨V1,V2,V3,V4,V5,r1,r2,rfl,h1,h2,h3,h4,h5⟩:=h.all;simp only[Za9,Zc6,Zf3]at hV;rcases hV with rfl|rfl|rfl|rfl|rfl
 .exact h1.out.own.bare
 .exact h2.out.own.bare
 .exact h3.own.bare
 .exact h4.own.bare
 .exact h5.own.bare
end
end
noncomputable section
open Go Go.Ai Go.Proofs
def DK(f:FuncId):List AV->St->Option (AV×St):=X0 (run GK gg) f 4
def O9:fk:=vZ [(246,Gl),(14,Z0),(18,DK 18),(109,DK 109),
 (16,DK 16),(17,DK 17),(30,DK 30),(32,DK 32),(33,DK 33),(34,DK 34)]
def bu(c:aj):Prop:=c=run O9 gg
theorem bu.o0{c:aj}(hc:bu c)(F:Nat){f:FuncId}{args:List AV}{st:St}{r:AV×St}(s:Sh)(hk:(Ac (O9 f)&& !Ac (gg.get (key f))&&(fY (gA f).code s).isEmpty)=true)
  {k:O2} (hd:Jq c F (ahs []) (gA f) s args st=k) (h:k=some r):c f args st=some (tidy st r):=by
 subst hc;exact als s hk hd h
theorem bu.o1{c:aj}(hc:bu c)(F:Nat){f:FuncId}{args:List AV}{st:St}{r:AV×St}(Ls:Un->List Q2->Nat->Q2)(s:Sh)(hk:(Ac (O9 f)&& !Ac (gg.get (key f))&&Nat.beq (fY (gA f).code s).length 1)=true)
  (hs:(aeT (iK (gA f) s 0).2&&Nat.beq (lpJ (iK (gA f) s 0).2) 0)=true) (h0:∀K' vs st,uj Ls (gA f) s 0 K' 0 vs st=none)
  (h1:∀K' n vs st,uj Ls (gA f) s 0 K' (n+1) vs st=Q3 (den c F (uj Ls (gA f) s) (iK (gA f) s 0).1 (lpB (iK (gA f) s 0).2)) (lpI (iK (gA f) s 0).2) (lpO (iK (gA f) s 0).2) K' (uj Ls (gA f) s 0 K' n) vs st)
  {k:O2} (hd:Jq c F (uj Ls (gA f) s) (gA f) s args st=k) (h:k=some r):c f args st=some (tidy st r):=by
 subst hc;exact alu Ls s hk hs h0 h1 hd h
theorem bu.oL{c:aj}(hc:bu c)(F:Nat){f:FuncId}{args:List AV}{st:St}{r:AV×St}(Ls:Un->List Q2->Nat->Q2)(s:Sh)(n:Nat)(hk:(Ac (O9 f)&& !Ac (gg.get (key f))&&Nat.beq (fY (gA f).code s).length n)=true)
  (hL:∀i,i<n->Dz c F (uj Ls (gA f) s) (iK (gA f) s i).1 (iK (gA f) s i).2) {k:O2} (hd:Jq c F (uj Ls (gA f) s) (gA f) s args st=k) (h:k=some r):c f args st=some (tidy st r):=by
 subst hc;exact ae4 Ls s n hk hL hd h
theorem bu.at{c:aj}(hc:bu c){f:FuncId}{s:List AV->St->Option (AV×St)}{args:List AV}{st:St}{r:AV×St}(ho:O9 f=some s)(h:s args st=some r):c f args st=some r:=by subst hc;exact adC ho h
section
variable{s s1:St}
theorem Tg.cO{v:AV}{rows:List (List AV)}(hw:Wf s)(h:Tg (emptyAt s) s1 v rows)(hb:∀r∈rows,∀x∈r,bS x):Tg s (Go.Ai.cO s s1) v rows:=by
 have key:∀b,aR v=some b->(Go.Ai.cO s s1).heap.get b=some (.cells rows.flatten 0):=λb eO=>
  DF hw (h.2 b eO).1 (h.2 b eO).2 (λv hv=>by obtain⟨r,hr,hv⟩:=List.mem_flatten.1 hv;exact hb r hr v hv)
 exact⟨h.1.mono λb x eO hx=>by rw[(h.2 b eO).2]at hx;cases hx;exact key b eO,λb eO=>⟨(h.2 b eO).1,key b eO⟩⟩
theorem qN{l:List AV}(h:∀x∈l,bS x):∀r∈l.map oH,∀x∈r,bS x:=λr hr x hx=>by obtain⟨y,hy,rfl⟩:=Zc9.1 hr;simp only[oH,Zg8]at hx;subst hx;exact h _ hy
theorem asD:Lw (.map FA 18):=λe he=>by
 simp only[FA,Za9,Zc6,Zf3]at he;rcases he with rfl|rfl|rfl|rfl|rfl|rfl|rfl|rfl|rfl|rfl|rfl|rfl|rfl|rfl|rfl|rfl|rfl|rfl<;>
 .refine⟨bS.int _ _,bS.agg λv hv=> ?_⟩;simp only[kd,Kd.cells,Za9,Zc6,Zf3]at hv;rcases hv with rfl|rfl|rfl|rfl|rfl|rfl|rfl|rfl<;>first|exact bS.str _|exact bS.int _ _|exact bS.bool _|exact bS.func _ (by simp) (by simp)|exact bS.jX
theorem auX(E:List (Int×Int)):Lw (im E):=by
 have:∀(E:List (Int×Int))(i:Nat),∀e∈Q9 E i,bS e.1/\bS e.2.1:=λE=>by
  induction E with
  |nil=>intro i e he;cases he
  |cons a E ih=>
   intro i e he;simp only[Q9,Za9]at he;rcases he with rfl|he
   .exact⟨bS.int _ _,bS.int _ _⟩
   .exact ih _ e he
 exact this E 0
theorem JD.cO{jb:Pos}{Vs:List AV}{ts:List aC}{N n:Nat}{ja:List (List Bool)}{jd:List (List Int)}(hw:Wf s)(hV:∀V∈Vs,bS V)(hj:s.next.toNat<=jb.toNat)(h:JD (emptyAt s) s1 jb Vs ts N n ja jd):JD s (Go.Ai.cO s s1) jb Vs ts N n ja jd:=by
 obtain⟨m,L0,L1,L2,L3,L4,L5,L6,L7,wB,wA,ms,r6,r7,Dm,⟨hm,hmk⟩,t0,t1,t2,⟨t3,lB,iB⟩,⟨t4,lA,iA⟩,⟨t5,l5,i5⟩,⟨t6,l6,i6⟩,⟨t7,l7,i7⟩⟩:=h.all;have n2:=OO ts N;have bT:∀x∈BK ts N,bS x:=λx hx=>by obtain⟨i,_,rfl⟩:=Zc9.1 hx;exact bS.int _ _
 have bL:∀x∈BL ts N,bS x:=λx hx=>by obtain⟨i,_,rfl⟩:=Zc9.1 hx;exact bS.int _ _
 have bO:∀x∈BM ts N,bS x:=λx hx=>by obtain⟨i,_,rfl⟩:=Zc9.1 hx;exact bS.bool _
 have eI:∀{α:Type}{ws:List AV}{rs:List α}{f:α->List (List AV)},ws.length=rs.length->(∀(i:Nat)(w:AV)(r:α),ws[i]? =some w->rs[i]? =some r->Tg (emptyAt s) s1 w (f r))->∀w∈ws,bS w:=λ{α ws rs f} hl hi w hw=>by obtain⟨i,tH,rfl⟩:=Zg6.1 hw;exact(hi i _ (rs[i]'(by omega)) (H0 tH) (H0 (by omega))).1.bare
 have bB:=eI (f:=λ(r:List Int)=>r.map bH) (by rw[n2.1];exact lB) iB;have bA:=eI (f:=λ(r:List Int)=>r.map bH) (by rw[n2.2];exact lA) iA;have b6:=eI (f:=aeq) (by rw[h.n1];exact l6) i6;have b7:=eI (f:=aer) (by rw[h.n2];exact l7) i7;have b5:∀x∈ms.map AV.map,bS x:=λx hx=>by obtain⟨i,_,rfl⟩:=Zc9.1 hx;exact bS.map _
 refine⟨⟨m,L0,L1,L2,L3,L4,L5,L6,L7,wB,wA,ms,r6,r7,DF hw hj Dm (λv hv=> ?_),⟨hm,DF hw hm hmk asD⟩,t0.cO hw (qN bT),t1.cO hw (qN bL),t2.cO hw (qN bO),
   ⟨t3.cO hw (qN bB),lB,λi w r h1 h2=>(iB i w r h1 h2).cO hw (tP CP r)⟩,⟨t4.cO hw (qN bA),lA,λi w r h1 h2=>(iA i w r h1 h2).cO hw (tP CP r)⟩,
   ⟨t5.cO hw (qN b5),l5,λi m h=>⟨(i5 i m h).1,DF hw (i5 i m h).1 (i5 i m h).2 (auX _)⟩⟩,
   ⟨t6.cO hw (qN b6),l6,λi w r h1 h2=>(i6 i w r h1 h2).cO hw (qN λx hx=>by obtain⟨b,_,rfl⟩:=Zc9.1 hx;exact bS.bool _)⟩,
   ⟨t7.cO hw (qN b7),l7,λi w r h1 h2=>(i7 i w r h1 h2).cO hw (qN λx hx=>by obtain⟨b,_,rfl⟩:=Zc9.1 hx;exact bS.int _ _)⟩⟩,h.n1,h.n2,h.n3,h.n4⟩
 rcases Ze0.1 hv with hv|hv
 .exact hV v hv
 . simp only[Za9,Zc6,Zf3]at hv;rcases hv with rfl|rfl|rfl|rfl|rfl|rfl|rfl|rfl|rfl
   .exact bS.map _
   .exact t0.1.bare
   .exact t1.1.bare
   .exact t2.1.bare
   .exact t3.1.bare
   .exact t4.1.bare
   .exact t5.1.bare
   .exact t6.1.bare
   .exact t7.1.bare
end
theorem JD.mono{s0 s s':St}{jb:Pos}{Vs:List AV}{ts:List aC}{N n:Nat}{ja:List (List Bool)}{jd:List (List Int)}(h:JD s0 s jb Vs ts N n ja jd)(hj:s0.next.toNat<=jb.toNat)(hk:∀b x,s0.next.toNat<=b.toNat->s.heap.get b=some x->s'.heap.get b=some x):JD s0 s' jb Vs ts N n ja jd:=by
 obtain⟨m,L0,L1,L2,L3,L4,L5,L6,L7,wB,wA,ms,r6,r7,Dm,⟨hm,hmk⟩,t0,t1,t2,⟨t3,lB,iB⟩,⟨t4,lA,iA⟩,⟨t5,l5,i5⟩,⟨t6,l6,i6⟩,⟨t7,l7,i7⟩⟩:=h.all;exact⟨⟨m,L0,L1,L2,L3,L4,L5,L6,L7,wB,wA,ms,r6,r7,hk _ _ hj Dm,⟨hm,hk _ _ hm hmk⟩,t0.mono hk,t1.mono hk,t2.mono hk,⟨t3.mono hk,lB,λi w r a b=>(iB i w r a b).mono hk⟩,⟨t4.mono hk,lA,λi w r a b=>(iA i w r a b).mono hk⟩,
  ⟨t5.mono hk,l5,λi m a=>⟨(i5 i m a).1,hk _ _ (i5 i m a).1 (i5 i m a).2⟩⟩,⟨t6.mono hk,l6,λi w r a b=>(i6 i w r a b).mono hk⟩,⟨t7.mono hk,l7,λi w r a b=>(i7 i w r a b).mono hk⟩⟩,h.n1,h.n2,h.n3,h.n4⟩
section
variable{c:aj}{s0 s:St}{Vs:List AV}{p:bE}
theorem arM(hc:bu c)(h:PS s0 s Vs p)(hp:p.uz)(hR:p.Real)(hr:∀r∈p.rs,r.Ok)(hn:(eD p).2=0):
  ∃(jb:Pos) (s':St) (Us:List AV) (p':bE) (N:Nat) (ja:List (List Bool)) (jd:List (List Int)),c 18 [.agg Vs] s=some (.tuple [.ptr jb 0,.int .i64 0,.int .i64 0],s')/\PS s s' Us p'/\p.dQ p'/\
   (N:Int)=bg p'.ts/\JD s s' jb Us p'.ts N p'.gs.length ja jd/\Us.length=5/\s.next.toNat<=jb.toNat/\ja=Na p'.gs/\jd=Nb p'.gs p'.ys:=by
 obtain⟨p',e,S⟩:=h.fE 1;obtain⟨jb,s1,Us,N,ja,jd,e1,P,hN,J,hge,h5,eB,eK⟩:=abl (c:=run GK gg) rfl p' (S.kL hp) (Rv rfl (S.kL hp)) (S.real hR) (by rw[S.rs];exact hr) (emptyAt s) (zQ s) (by rw[S.check];exact hn);refine⟨jb,cO s s1,Us,p',N,ja,jd,hc.at (s:=DK 18) rfl (HU ?_ (bS.tuple (by intro v hv;simp at hv;rcases hv with rfl|rfl|rfl<;>first|exact bS.int _ _|exact bS.ptr _ _)) P.ai.next),PS.cO h.ai.wf P,S,hN,JD.cO h.ai.wf P.bare hge J,h5,hge,eB,eK⟩;rw[Zd1,Zg9,e];exact e1
end
end
end Go.Proofs.YtgihekklfnjkiaaGreatDoor
