/- What rule.New answers. -/
import Derived.Test.YtgihekklfnjkiaaGreatDoorTLawsD
set_option linter.all false
set_option linter.unusedSectionVars false
set_option linter.deprecated false
namespace Go.Proofs.YtgihekklfnjkiaaGreatDoor
section
set_option maxRecDepth 100000
open Go Go.Ai Go.Proofs
variable{c : au}
theorem Y9(s:St)(r:AV×St):tidy s r=r\/tidy s r=(r.1,s):=by
 unfold tidy;split
 . exact .inr rfl
 . exact .inl rfl
theorem aoq{s:St}{v:AV}{l:List (List Nat)}(h:QS 1 s v (l.map qe))(hl:l.length<=1000)(x:List Nat)(F:Nat):∀(m k:Nat),l.length<=k+m->k<=l.length->
  (∃i:Nat,∀k1 k2,fc c F k1 k2 (m+1) [v,.str x,.int .i64 (l.length:Int),.int .i64 (k:Int)] s=k1 [.int .i64 (i:Int)] s)\/
    ∀k1 k2,fc c F k1 k2 (m+1) [v,.str x,.int .i64 (l.length:Int),.int .i64 (k:Int)] s=k2 [] s:=by
 intro m;induction m with
 |zero=>
  intro k h1 h2;obtain rfl:k=l.length:=by omega
  right;intro k1 k2;rw[fN];simp
 |succ m ih=>
  intro k h1 h2;by_cases hk:k<l.length
  . obtain⟨b,o,cs,a1,a2,a3,a4⟩:=h.at (R:=AV×St) (c:=c) (Gp l) (by decide) (i:=k) (by simpa using hk);have g0:cs[o]? =some (.str l[k]):=(by simpa using a4 0 (.str l[k]) (by simp));have w:ax .i64 ((k:Int)+1)=((k+1:Nat):Int):=wrap64 (by omega) (by omega);by_cases he:x=l[k]
    .   left;refine⟨k,λk1 k2=> ?_⟩;rw[fN];simp[hk,a1,a3,g0,he]
    .   rcases ih (k+1) (by omega) (by omega)with⟨i,hi⟩|hi
        . left;refine⟨i,λk1 k2=> ?_⟩;rw[<-hi k1 k2,fN];simp[hk,a1,a3,g0,he,w]
        . right;intro k1 k2;rw[<-hi k1 k2,fN];simp[hk,a1,a3,g0,he,w]
  . obtain rfl:k=l.length:=(by omega);right;intro k1 k2;rw[fN];simp
theorem aiF(hc:Sem c){s:St}{v:AV}{l:List (List Nat)}(h:QS 1 s v (l.map qe))(hl:l.length<=1000)(x:List Nat):∃b,c 135 [v,.str x] s=some (.bool b,s):=by
 have ln:=λ(K:AV->St->Option (AV×St))(s1:St)=>h.lenB (c:=c) K s1
 simp only[Za5]at ln;have ix:∃i:Int,c 188 [v,.str x] s=some (.int .i64 i,s):=by
  rcases aoq (c:=c) h hl x (l.length+1) l.length 0 (by omega) (by omega)with⟨i,hi⟩|hi
  . refine⟨i,?_⟩;rw[tC hc (l.length+1) (r:=(.int .i64 (i:Int),s)),aE (Plain.int _ _) (aT.refl s)];rw[uT];simp only[aA,ln];rw[show(0:Int)=((0:Nat):Int)from rfl,hi];simp
  . refine⟨-1,?_⟩;rw[tC hc (l.length+1) (r:=(.int .i64 (-1),s)),aE (Plain.int _ _) (aT.refl s)];rw[uT];simp only[aA,ln];rw[show(0:Int)=((0:Nat):Int)from rfl,hi];simp
 obtain⟨i,hi⟩:=ix;refine⟨decide (0<=i),?_⟩;rw[Bj hc 1 (r:=(.bool (decide (0<=i)),s)),aE (Plain.bool _) (aT.refl s)];rw[Db];simp[hi]
theorem aor{s:St}{v:AV}{l:List (List Nat)}(h:QS 1 s v (l.map qe))(hl:l.length<=1000){g:FuncId}{u:AV}(H:∀w,∃b,c g [.str w,u] s=some (.bool b,s))(F:Nat):∀(m k:Nat),l.length<=k+m->k<=l.length->
  (∃i:Nat,i<l.length/\∀k1 k2,dN c F k1 k2 (m+1) [v,.func g [] [u],.int .i64 (l.length:Int),.int .i64 (k:Int)] s=k1 [.int .i64 (i:Int)] s)\/
    ∀k1 k2,dN c F k1 k2 (m+1) [v,.func g [] [u],.int .i64 (l.length:Int),.int .i64 (k:Int)] s=k2 [] s:=by
 intro m;induction m with
 |zero=>
  intro k h1 h2;obtain rfl:k=l.length:=by omega
  right;intro k1 k2;rw[eG];simp
 |succ m ih=>
  intro k h1 h2;by_cases hk:k<l.length
  . obtain⟨b,o,cs,a1,a2,a3,a4⟩:=h.at (R:=AV×St) (c:=c) (Gp l) (by decide) (i:=k) (by simpa using hk);have g0:cs[o]? =some (.str l[k]):=(by simpa using a4 0 (.str l[k]) (by simp));have w:ax .i64 ((k:Int)+1)=((k+1:Nat):Int):=wrap64 (by omega) (by omega);obtain⟨bb,hb⟩:=H l[k];cases bb with
    |   true=>
        left;refine⟨k,hk,λk1 k2=> ?_⟩;rw[eG];simp[hk,a1,a3,g0,jC,hb]
    |   false=>
        rcases ih (k+1) (by omega) (by omega)with⟨i,sV,hi⟩|hi
        . left;refine⟨i,sV,λk1 k2=> ?_⟩;rw[<-hi k1 k2,eG];simp[hk,a1,a3,g0,jC,hb,w]
        . right;intro k1 k2;rw[<-hi k1 k2,eG];simp[hk,a1,a3,g0,jC,hb,w]
  . obtain rfl:k=l.length:=(by omega);right;intro k1 k2;rw[eG];simp
theorem amg(hc:Sem c){s:St}{v:AV}{l:List (List Nat)}(h:QS 1 s v (l.map qe))(hl:l.length<=1000){g:FuncId}{u:AV}(H:∀w,∃b,c g [.str w,u] s=some (.bool b,s)):
   (∃i:Nat,i<l.length/\c 187 [v,.func g [] [u]] s=some (.int .i64 (i:Int),s))\/c 187 [v,.func g [] [u]] s=some (.int .i64 (-1),s):=by
 have ln:=λ(K:AV->St->Option (AV×St))(s1:St)=>h.lenB (c:=c) K s1
 simp only[Za5]at ln;rcases aor (c:=c) h hl H (l.length+1) l.length 0 (by omega) (by omega)with⟨i,sV,hi⟩|hi
 . left;refine⟨i,sV,?_⟩;rw[pP hc (l.length+1) (r:=(.int .i64 (i:Int),s)),aE (Plain.int _ _) (aT.refl s)];rw[qX];simp only[aA,ln];rw[show(0:Int)=((0:Nat):Int)from rfl,hi];simp
 . right;rw[pP hc (l.length+1) (r:=(.int .i64 (-1),s)),aE (Plain.int _ _) (aT.refl s)];rw[qX];simp only[aA,ln];rw[show(0:Int)=((0:Nat):Int)from rfl,hi];simp
structure Aside(s t:St)(v:AV):Prop where
 wf:Wf t
 next:t.next=s.next
 keep:∀p x,aK v≠some p->s.heap.get p=some x->t.heap.get p=some x
theorem aqQ{s:St}{v:AV}{n:Nat}(hn:n<=1000){g:FuncId}{u:AV}(H:∀t,Aside s t v->∀w,∃b,c g [.str w,u] t=some (.bool b,t))(F:Nat):∀(m j i f:Nat)(t:St)(l:List (List Nat)),m<f->j+m=n->i<j->QS 1 t v (l.map qe)->l.length=n->Aside s t v->
  ∃(i':Nat) (t':St) (l':List (List Nat)),i'<=n/\QS 1 t' v (l'.map qe)/\l'.length=n/\Aside s t' v/\∀k2,eZ c F k2 f [v,.func g [] [u],.int .i64 (i:Int),.int .i64 (j:Int)] t=k2 [v,.int .i64 (i':Int)] t':=by
 intro m;induction m with
 |zero=>
  intro j i f t l hf hj hi h hl A;obtain⟨f,rfl⟩:∃g,f=g+1:=⟨f - 1,by omega⟩
  obtain rfl:j=n:=by omega
  refine⟨i,t,l,by omega,h,hl,A,λk2=> ?_⟩;have ln:=λ(K:AV->St->Option (AV×St))(s1:St)=>h.lenB (c:=c) K s1
  simp only[Za5,hl]at ln;rw[jL];simp[ln]
 |succ m ih=>
  intro j i f t l hf hj hi h hl A;obtain⟨f,rfl⟩:∃g,f=g+1:=⟨f - 1,by omega⟩
  have hk:j<l.length:=by omega
  have hjn:j<n:=by omega
  have ln:=λ(K:AV->St->Option (AV×St))(s1:St)=>h.lenB (c:=c) K s1
  simp only[Za5,hl]at ln;obtain⟨b,o,cs,a1,a2,a3,a4⟩:=h.at (R:=AV×St) (c:=c) (Gp l) (by decide) (i:=j) (by simpa using hk);have g0:cs[o]? =some (.str l[j]):=by simpa using a4 0 (.str l[j]) (by simp)
  have w:ax .i64 ((j:Int)+1)=((j+1:Nat):Int):=wrap64 (by omega) (by omega);have w2:ax .i64 ((i:Int)+1)=((i+1:Nat):Int):=wrap64 (by omega) (by omega);obtain⟨bb,hb⟩:=H t A l[j];cases bb with
  |true=>
   obtain⟨i',t',l',b1,b2,b3,b4,b5⟩:=ih (j+1) i f t l (by omega) (by omega) (by omega) h hl A;refine⟨i',t',l',b1,b2,b3,b4,λk2=> ?_⟩;rw[<-b5 k2,jL];simp[je,ln,hjn,a1,a3,g0,jC,hb,w]
  |false=>
   obtain⟨b',o',nh,e1,_,e3,e4,e5,e6,e7,_⟩:=h.set (R:=AV×St) (c:=c) (Gp l) (by decide) (i:=i) (by simp;omega);have bw:=λ(K:AV->St->Option (AV×St))=>bP c K t 1 b' o' (.str l[j]) nh e4 rfl e5 rfl
   have hs:=bN t b' (.cells (aU nh o' [.str l[j]]) 0);have Q:=e7 0 (.str l[j]) (aY t b' (.cells (aU nh o' [.str l[j]]) 0)) (by decide) (by rw[Zg0];exact hs);have er:(l.map qe).set i (((l.map qe)[i]'(by simp;omega)).set 0 (.str l[j]))=(l.set i l[j]).map qe:=(by rw[Zq5];simp);rw[er]at Q;have A2:Aside s (aY t b' (.cells (aU nh o' [.str l[j]]) 0)) v:=⟨jD A.wf (A.wf _ _ e4),by rw[dH];exact A.next,λp x hp hx=>by rw[aG (λe=>hp (by rw[e3,e]))];exact A.keep p x hp hx⟩
   obtain⟨i',t',l',b1,b2,b3,b4,b5⟩:=ih (j+1) (i+1) f _ _ (by omega) (by omega) (by omega) Q (by simpa using hl) A2;refine⟨i',t',l',b1,b2,b3,b4,λk2=> ?_⟩;rw[<-b5 k2,jL];have ce:(AV.str l[j]).cells=[.str l[j]]:=rfl;rw[ce]at bw;simp[je,ln,hjn,a1,a3,g0,jC,hb,e1,bw,w,w2]
theorem aot(hc:Sem c){s:St}{v:AV}{l:List (List Nat)}(h:QS 1 s v (l.map qe))(hl:l.length<=1000)(hw:Wf s){g:FuncId}{u:AV}(H:∀t,Aside s t v->∀w,∃b,c g [.str w,u] t=some (.bool b,t)):
   ∃(w:AV) (s':St) (n:Nat),c 133 [v,.func g [] [u]] s=some (w,s')/\Aside s s' v/\∀{R:Type}(c:au)(K:AV->St->Option R)(s1:St),aq c (.lenB .l) [w] s1 K=K (.int .i64 (n:Int)) s1:=by
 have A:Aside s s v:=⟨hw,rfl,λ_ _ _ h=>h⟩
 rcases amg hc h hl (H s A)with⟨i,hi,hx⟩|hx
 . obtain⟨i',t',l',b1,b2,b3,b4,b5⟩:=aqQ (c:=c) (n:=l.length) hl H (l.length+1) (l.length - (i+1)) (i+1) i (l.length+1) s l (by omega) (by omega) (by omega) h rfl A;obtain⟨v1,d1,d2,d3⟩:=b2.low (Gp l') (i:=i') (by simp;omega);obtain⟨v2,f1,f2⟩:=b2.high (i:=i') (by simp;omega);obtain⟨s6,g1,g2,g3,g4⟩:=d2.clear (z:=[.str []]) b4.wf rfl (λn=>by rw[Dy];induction n with|zero=>rfl|succ n ih=>rw[Zm4];simp[aM,AV.one,ih]);have w:ax .i64 ((i:Int)+1)=((i+1:Nat):Int):=wrap64 (by omega) (by omega);have A6:Aside s s6 v:=⟨g2,by rw[g3,b4.next],λp x hp hx=>g4 p x (λe=>hp (d3 p e)) (b4.keep p x hp hx)⟩
   have run:=oU hc (l.length+1) (x0:=v) (x1:= .func g [] [u]) (s:=s) (r:=(v2,s6)) (by
     rw[qq];simp only[aA,dD,hx,cO,fR,fS,w];have:decide ((i:Int)= -1)=false:=Za2 (by omega);rw[this,dQ,b5];simp[d1,g1,f1])
   rcases Y9 s (v2,s6)with e|e
   . exact⟨v2,s6,i',by rw[run,e],A6,f2⟩
   . exact⟨v2,s,i',by rw[run,e],A,f2⟩
 . have run:=oU hc 1 (x0:=v) (x1:= .func g [] [u]) (s:=s) (r:=(v,s)) (by
     rw[qq];simp[hx])
   have ln:=λ{R:Type}(c:au)(K:AV->St->Option R)(s1:St)=>h.lenB (c:=c) K s1
   simp only[Za5]at ln;rcases Y9 s (v,s)with e|e
   . exact⟨v,s,l.length,by rw[run,e],A,λc K s1=>ln c K s1⟩
   . exact⟨v,s,l.length,by rw[run,e],A,λc K s1=>ln c K s1⟩
theorem aou(hc:Sem c){s0 s:St}{bp mp:Pos}{gs:List aQ}{ts:List Ty}{gk tk:Option Pos}(B:eF s0 s bp mp gs ts gk tk)(a b:List Nat):
   ∃(w:AV) (s':St) (n:Nat),c 69 [.ptr bp 0,.str a,.str b] s=some (w,s')/\Grew s s'/\∀{R:Type}(c:au)(K:AV->St->Option R)(s1:St),aq c (.lenB .l) [w] s1 K=K (.int .i64 (n:Int)) s1:=by
 have hw:=B.wf;obtain⟨g1,v1,ok1,s1,f1,M1,l1⟩:=aiE hc B a;have w1:=M1.ai.wf;have G2:Grew s1 (ah s1 (.cells (g1.aj v1) 0)):=Grew.ah w1 _;obtain⟨g2,v2,ok2,s3,f2,M2,l2⟩:=aiE hc (B.ai (M1.ai.trans G2)) b;have w3:=M2.ai.wf;have G4:Grew s3 (ah s3 (.cells (g2.aj v2) 0)):=Grew.ah w3 _;have Ga:Grew s (ah s3 (.cells (g2.aj v2) 0)):=((M1.ai.trans G2).trans M2.ai).trans G4;have alH:=g1.Gi M1.cells.2;have one2:=g2.Gi M2.cells.2;have al:∀(g:aQ)(v:AV)(t:St)(K:AV->St->Option (AV×St)),aM (g.aj v)=true->aq c (.alloc [(.str []),(.str []),(.str []),(.int .i64 0),(.int .i64 0),(.str []),(.bool false),(.bool false),.af]) [] t (λx7 s7=>aq c (.store 9) [x7,.agg (g.aj v)] s7 (λ_ s8=>K x7 s8))=K (.ptr t.next 0) (ah t (.cells (g.aj v) 0)):=λg v t K ho=>by rw[dF];exact cr c (λ_ s8=>K (.ptr t.next 0) s8) t 9 (.agg (g.aj v)) _ rfl rfl ho
 have al1:=λK=>al g1 v1 s1 K alH
 have al2:=λK=>al g2 v2 s3 K one2
 have pre:∀r,(cnd (.bool (!ok1|| !ok2)) (some (.af,ah s3 (.cells (g2.aj v2) 0))) (aq c (.fieldA 8) [.ptr s1.next 0] (ah s3 (.cells (g2.aj v2) 0)) λx29 s26=>aq c (.load none) [x29] s26 λx30 s27=>aq c (.mkFunc 134 0) [.ptr s3.next 0] s27 λx31 s28=>aq c (.callF 133) [x30,x31] s28 λx32 s29=>aq c .move [x32] s29 λx6 s30=>some (x6,s30))=some r)->
     uB c 1 (.ptr bp 0) (.str a) (.str b) s=some r:=λr h=>by
   rw[VL, <-h];simp only[aA,dD,f1,cO,kC,Za4,Zb8,bg,al1,f2,al2];cases ok1<;>cases ok2<;>simp
 by_cases cF:(!ok1|| !ok2)=true
 . have run:=CM hc 1 (x0:= .ptr bp 0) (x1:= .str a) (x2:= .str b) (s:=s) (r:=(.af,ah s3 (.cells (g2.aj v2) 0))) (pre _ (by rw[cF,dW]));rcases Y9 s (AV.af,ah s3 (.cells (g2.aj v2) 0))with e|e
   . exact⟨.af,_,0,by rw[run,e],Ga,λc K s1=>aR c K (λH n=>rfl) s1⟩
   . exact⟨.af,_,0,by rw[run,e],Grew.refl hw,λc K s1=>aR c K (λH n=>rfl) s1⟩
 . have cF:(!ok1|| !ok2)=false:=(by simpa using cF);have Q1:QS 1 (ah s3 (.cells (g2.aj v2) 0)) v1 (g1.tg.map qe):=M1.own.mono λp x _ hx=>((G2.trans M2.ai).trans G4).get hx
   have lt1:∀p,aK v1=some p->p.toNat<s1.next.toNat:=λp hp=>M1.own.lt w1 hp
   have n3:s1.next.toNat<s3.next.toNat:=(by have:=M2.ai.next;rw[bD,Pos.aC]at this;omega);have hq:(ah s3 (.cells (g2.aj v2) 0)).heap.get s3.next=some (.cells (g2.aj v2) 0):=az _ _;have hq1:(ah s3 (.cells (g2.aj v2) 0)).heap.get s1.next=some (.cells (g1.aj v1) 0):=(M2.ai.trans G4).get (az _ _);have H:∀t,Aside (ah s3 (.cells (g2.aj v2) 0)) t v1->∀w,∃b,c 134 [.str w,.ptr s3.next 0] t=some (.bool b,t):=λt A w=>by
     have hq':=A.keep s3.next _ (λe=>by have:=lt1 _ e;omega) hq;have Q2:QS 1 t v2 (g2.tg.map qe):=M2.own.mono λp x hp hx=>A.keep p x (λe=>by have:=lt1 _ e;have:=M2.new p hp;rw[bD,Pos.aC]at this;omega) (G4.get hx)
     obtain⟨bb,hb⟩:=aiF hc Q2 (by omega) w;refine⟨!bb,?_⟩;rw[NC hc 1 (r:=(.bool (!bb),t)),aE (Plain.bool _) (aT.refl t)];rw[Rg];have g8:(g2.aj v2)[8]? =some v2:=rfl;simp[hq',g8,hb]
   obtain⟨w,s5,n,d1,d2,d3⟩:=aot hc Q1 (by omega) (bn w3) H;have g8:(g1.aj v1)[8]? =some v1:=rfl;have run:=CM hc 1 (x0:= .ptr bp 0) (x1:= .str a) (x2:= .str b) (s:=s) (r:=(w,s5)) (pre _ (by
     rw[cF,dQ];simp[hq1,g8,d1]))
   have G5:Grew s s5:=⟨d2.wf,λp x hx=>d2.keep p x (λe=>by have:=M1.new p e;have:=hw _ _ hx;omega) (Ga.get hx),by rw[d2.next];exact Ga.next⟩
   rcases Y9 s (w,s5)with e|e
   . exact⟨w,s5,n,by rw[run,e],G5,d3⟩
   . exact⟨w,s,n,by rw[run,e],Grew.refl hw,d3⟩
def XP(I:List (AV×List (List AV)))(ws:List AV)(rs:List (List Int)):Prop:=∀(i:Nat)(w:AV)(r:List Int),ws[i]? =some w->rs[i]? =some r->(w,r.map bV)∈I
theorem XP.more{I:List (AV×List (List AV))}{ws:List AV}{rs:List (List Int)}(h:XP I ws rs)(e:AV×List (List AV)):XP (e::I) ws rs:=λi w r h1 h2=>Za9 _ (h i w r h1 h2)
theorem XP.snoc{I:List (AV×List (List AV))}{ws:List AV}{rs:List (List Int)}(h:XP I ws rs)(hl:ws.length=rs.length){w:AV}{r:List Int}(hm:(w,r.map bV)∈I):XP I (ws++[w]) (rs++[r]):=λi w' r' h1 h2=>by
 by_cases hi:i<ws.length
 . rw[Zc1 hi]at h1;rw[Zc1 (by omega)]at h2;exact h i w' r' h1 h2
 . rw[Zb9 (by omega)]at h1;rw[Zb9 (by omega)]at h2;by_cases h0:i - ws.length=0
   . rw[h0]at h1;rw[show i - rs.length=0 by omega]at h2;simp at h1 h2;subst h1;subst h2;exact hm
   . rw[Zc4 (by simp;omega)]at h1;cases h1
theorem Xd(t:aB):0<=bJ t:=by
 unfold bJ;repeat' split
 all_goals omega
def cE:List aB->Nat->Nat
 |[],_=>0
 |t::ts,i=>if i<(bJ t).toNat then 0 else cE ts (i - (bJ t).toNat)+1
def Za(ts:List aB)(i:Nat):Nat:=(aW (ts.take (cE ts i))).toNat
def OW(ts:List aB)(i:Nat):Nat:=match ts[cE ts i]? with
 |some t=>(bJ t).toNat
 |none=>0
def qM(ts:List aB)(i:Nat):List Int:=lZ (Za ts i) (OW ts i) (XJ ts (i:Int))
def AI(ts:List aB)(i:Nat):List Int:=lZ (Za ts i) (OW ts i) (XK ts (i:Int))
theorem aiG:∀(ts:List aB)(k:Nat)(hk:k<ts.length)(i:Nat),(i:Int)<bJ ts[k]->cE ts ((aW (ts.take k)).toNat+i)=k
 |t::ts,0,_,i,h=>by
  have h:(i:Int)<bJ t:=h;rw[show(aW ((t::ts).take 0)).toNat=0 from rfl,cE,Zb3 (by omega)]
 |t::ts,k+1,hk,i,h=>by
  have hk:k<ts.length:=by simpa using hk
  have ih:=aiG ts k hk i h;have n1:0<=bJ t:=(Xd t)
  have n2:=(o7 (ts.take k)).1;have e:aW ((t::ts).take (k+1))=bJ t+aW (ts.take k):=by simp[aW]
  rw[e,cE,Za7 (by omega),show(bJ t+aW (ts.take k)).toNat+i - (bJ t).toNat=(aW (ts.take k)).toNat+i by omega,ih]
theorem aqR{ts:List aB}{k:Nat}(hk:k<ts.length){first i:Nat}(hf:(first:Int)=aW (ts.take k))(hi:(i:Int)<bJ ts[k]):cE ts (first+i)=k/\Za ts (first+i)=first/\(OW ts (first+i):Int)=bJ ts[k]:=by have e:=aiG ts k hk i hi;rw[show(aW (ts.take k)).toNat=first by omega]at e;refine⟨e,by unfold Za;rw[e];omega,?_⟩;unfold OW;rw[e,H0 hk];have:=Xd ts[k];simp only;omega
def BO(ts:List aB)(m:Nat):List AV:=(List.range m).map λi=>AV.int .i64 ((cE ts i:Nat):Int)
def BP(ts:List aB)(m:Nat):List AV:=(List.range m).map λi=>AV.int .i64 (IM ts ((i:Nat):Int))
def BQ(ts:List aB)(m:Nat):List AV:=(List.range m).map λi=>AV.bool (OV ts ((i:Nat):Int))
def yl(ts:List aB)(m:Nat):List (List Int):=(List.range m).map (qM ts)
def ym(ts:List aB)(m:Nat):List (List Int):=(List.range m).map (AI ts)
structure SW(ts:List aB)(s0 s:St)(jb:Pos)(H Ls:List AV)(R:List (List AV))(I:List (AV×List (List AV)))(m:Nat):Prop where
 ow:Ow s0 s jb Ls R I
 cell:s.heap.get jb=some (.cells (H++Ls) 0)
 shp:∃L0 L1 L2 L3 L4 wB wA,Ls=[L0,L1,L2,L3,L4,.af,.af,.af]/\R=[BO ts m,BP ts m,BQ ts m,wB,wA,[],[],[]]/\wB.length=m/\wA.length=m/\XP I wB (yl ts m)/\XP I wA (ym ts m)
abbrev Bd(N:Nat)(r:List Int):Prop:=r.length<=1000/\∀k∈r,0<=k/\k<(N:Int)
theorem aff{first n N:Nat}(hn:n<=1000)(hN:first+n<=N)(so:Int->Bool):Bd N (lZ first n so):=by refine⟨Zb0 (KP _ _ _) hn,λk hk=> ?_⟩;unfold lZ at hk;simp only[Zl3,Zc7,Zh6]at hk;obtain⟨⟨i,hi,rfl⟩,_⟩:=hk;omega
theorem Rh{H Ls:List AV}(hH:H.length=6)(i:Nat):(H++Ls)[6+i]? =Ls[i]? :=by rw[Zb9 (by omega)];congr 1;omega
theorem arM{a b k:Nat}(h:a+b=k)(hk:k<=1000000):ax .i64 ((a:Int)+(b:Int))=(k:Int):=by rw[wrap64 (by omega) (by omega)];omega
theorem ac6{a k:Nat}(h:a+1=k)(hk:k<=1000000):ax .i64 ((a:Int)+1)=(k:Int):=by rw[wrap64 (by omega) (by omega)];omega
theorem Ta(ts:List aB)(m:Nat):(BO ts m).length=m/\(BP ts m).length=m/\(BQ ts m).length=m:=by simp[BO,BP,BQ]
theorem Oa(ts:List aB)(m:Nat):(yl ts m).length=m/\(ym ts m).length=m:=by simp[yl,ym]
theorem amh(ts:List aB)(m:Nat):BO ts (m+1)=BO ts m++[AV.int .i64 ((cE ts m:Nat):Int)]:=by simp[BO,Zf8]
theorem ami(ts:List aB)(m:Nat):BP ts (m+1)=BP ts m++[AV.int .i64 (IM ts ((m:Nat):Int))]:=by simp[BP,Zf8]
theorem amj(ts:List aB)(m:Nat):BQ ts (m+1)=BQ ts m++[AV.bool (OV ts ((m:Nat):Int))]:=by simp[BQ,Zf8]
theorem amk(ts:List aB)(m:Nat):yl ts (m+1)=yl ts m++[qM ts m]:=by simp[yl,Zf8]
theorem aml(ts:List aB)(m:Nat):ym ts (m+1)=ym ts m++[AI ts m]:=by simp[ym,Zf8]
set_option maxHeartbeats 1000000 in
theorem aub(hc:Sem c)(p:bM)(cF:∀t∈p.ts,t.Ok){pb jb:Pos}{H:List AV}(hH:H.length=6){s0:St}(hpb:s0.heap.get pb=some (.cells p.cells 0))(Om:pb≠jb){first n N k:Nat}(hk:k<p.ts.length)(hfi:(first:Int)=aW (p.ts.take k))(gU:(n:Int)=bJ p.ts[k])(hN:first+n<=N)(hN2:N<=10000)(hn:n<=1000)(F:Nat):
  ∀(m i f:Nat)(s:St)(Ls:List AV)(R:List (List AV))(I:List (AV×List (List AV)))(sb:Pos),m<f->i+m=n->SW p.ts s0 s jb H Ls R I (first+i)->
   s.heap.get sb=some (.cells [.int .i64 ((first+i:Nat):Int)] 0)->sb≠jb->(∀L∈Ls,aK L≠some sb)->
   ∃    s' Ls' R' I',SW p.ts s0 s' jb H Ls' R' I' (first+n)/\
        ∀(x40 Rf:AV)(k4),xG c F k4 f [.ptr pb 0,.ptr jb 0,.int .i64 (k:Int),.int .i64 (first:Int),.int .i64 (n:Int),.ptr sb 0,x40,Rf] s=k4 [.ptr pb 0,.ptr jb 0,x40,Rf] s':=by
 intro m;induction m with
 |zero=>
  intro i f s Ls R I sb hf hi hS amm hsj aem;obtain⟨f,rfl⟩:∃g,f=g+1:=⟨f - 1,by omega⟩
  obtain rfl:i=n:=by omega
  refine⟨s,Ls,R,I,hS,λx40 Rf k4=> ?_⟩;have w:ax .i64 ((first:Int)+(i:Int))=((first+i:Nat):Int):=arM rfl (by omega);rw[Uy];simp[amm,w]
 |succ m ih=>
  intro i f s Ls R I sb hf hi hS amm hsj aem;obtain⟨f,rfl⟩:∃g,f=g+1:=⟨f - 1,by omega⟩
  obtain⟨L0,L1,L2,L3,L4,wB,wA,rfl,rfl,e3,e4,PB,PA⟩:=hS.shp;obtain⟨T1,T2,T3⟩:=aqR hk hfi (i:=i) (by omega);have T3:OW p.ts (first+i)=n:=by omega
  have LT:=Ta p.ts (first+i);have eB:qM p.ts (first+i)=lZ first n (XJ p.ts ((first+i:Nat):Int)):=by unfold qM;rw[T2,T3]
  have eA:AI p.ts (first+i)=lZ first n (XK p.ts ((first+i:Nat):Int)):=by unfold AI;rw[T2,T3]
  have aV:(((first+i:Nat):Int))<((first+n:Nat):Int):=by omega
  have ha:((first+i:Nat):Int)<=4611686018427387904:=by omega
  obtain⟨t1,s1,V0,a1,a2,O1,C1,K1⟩:=hS.ow.put hS.cell (c:=c) (Q:=AV×St) 8 (i:=0) (L:=L0) (r:=BO p.ts (first+i)) rfl rfl (x:= .int .i64 (k:Int)) rfl rfl (by omega) (by omega) (o:=6) (by omega);obtain⟨b1,F1⟩:=K1 sb _ hsj aem amm;have g1:(H++[L0,L1,L2,L3,L4,.af,.af,.af])[6]? =some L0:=Rh hH 0;have q1:=O1.keep pb _ Om hpb;have lv:=aqJ hc p.tz p.ts cF _ ha s1 O1.wf;obtain⟨t2,s2,V1,c1,c2,O2,C2,K2⟩:=O1.put C1 (c:=c) (Q:=AV×St) 8 (i:=1) (L:=L1) (r:=BP p.ts (first+i)) rfl rfl (x:= .int .i64 (IM p.ts ((first+i:Nat):Int))) rfl rfl (by omega) (by omega) (o:=7) (by omega);obtain⟨b2,F2⟩:=K2 sb _ hsj F1 b1;have n1:=λ(K:AV->Option (AV×St))=>kg K (p:=jb) (o:=7) (h:=s1.heap) (h2:=s1.heap) (v:=L1) (by rw[C1];exact Rh hH 1) (by rw[C1];exact Rh hH 1) (O1.own 1 L1 _ rfl rfl).beq
  have q2:=O2.keep pb _ Om hpb;have op:=asT hc p.tz p.ts cF _ ha s2 O2.wf;obtain⟨t3,s3,V2,d1,d2,O3,C3,K3⟩:=O2.put C2 (c:=c) (Q:=AV×St) 1 (i:=2) (L:=L2) (r:=BQ p.ts (first+i)) rfl rfl (x:= .bool (OV p.ts ((first+i:Nat):Int))) rfl rfl (by omega) (by omega) (o:=8) (by omega);obtain⟨b3,F3⟩:=K3 sb _ hsj F2 b2;have n2:=λ(K:AV->Option (AV×St))=>kg K (p:=jb) (o:=8) (h:=s2.heap) (h2:=s2.heap) (v:=L2) (by rw[C2];exact Rh hH 2) (by rw[C2];exact Rh hH 2) (O2.own 2 L2 _ rfl rfl).beq
  have q3:=O3.keep pb _ Om hpb;obtain⟨v4,u4,h4,M4⟩:=aol hc p.tz p.ts cF (pb:=pb) (sb:=sb) (cs:=p.cells) rfl ((first+i:Nat):Int) (by omega) (first:=(first:Int)) (by omega) (n:=n) (by omega) s3 O3.wf q3 b3;have O4':=O3.more M4;have C4':=M4.ai.get C3;have b4':=M4.ai.get b3;obtain⟨vc4,vo4⟩:=M4.own.cells;obtain⟨t4,s4,V3,f1,f2,O4,C4,K4⟩:=O4'.put C4' (c:=c) (Q:=AV×St) 24 (i:=3) (L:=L3) (r:=wB) rfl rfl (x:=v4) vc4 vo4 (by omega) (by omega) (o:=9) (by omega);obtain⟨b4,F4⟩:=K4 sb _ hsj F3 b4';have n3:=λ(K:AV->Option (AV×St))=>kg K (p:=jb) (o:=9) (h:=u4.heap) (h2:=s3.heap) (v:=L3) (by rw[C4'];exact Rh hH 3) (by rw[C3];exact Rh hH 3) (O3.own 3 L3 wB rfl rfl).beq
  have q4:=O4.keep pb _ Om hpb;obtain⟨v5,u5,h5,M5⟩:=aom hc p.tz p.ts cF (pb:=pb) (sb:=sb) (cs:=p.cells) rfl ((first+i:Nat):Int) (by omega) (first:=(first:Int)) (by omega) (n:=n) (by omega) s4 O4.wf q4 b4;have O5':=O4.more M5;have C5':=M5.ai.get C4;have b5':=M5.ai.get b4;obtain⟨vc5,vo5⟩:=M5.own.cells;obtain⟨t5,s5,V4,g1',g2',O5,C5,K5⟩:=O5'.put C5' (c:=c) (Q:=AV×St) 24 (i:=4) (L:=L4) (r:=wA) rfl rfl (x:=v5) vc5 vo5 (by omega) (by omega) (o:=10) (by omega);obtain⟨b5,F5⟩:=K5 sb _ hsj F4 b5';have n4:=λ(K:AV->Option (AV×St))=>kg K (p:=jb) (o:=10) (h:=u5.heap) (h2:=s4.heap) (v:=L4) (by rw[C5'];exact Rh hH 4) (by rw[C4];exact Rh hH 4) (O4.own 4 L4 wA rfl rfl).beq
  have hw5:=O5.wf;have G6:Grew s5 (ah s5 (.cells [.int .i64 ((first+(i+1):Nat):Int)] 0)):=Grew.ah hw5 _;have O6:=O5.ai G6;have C6:=G6.get C5;have lB:=Oa p.ts (first+i);have PB':=((PB.more (v4,(qM p.ts (first+i)).map bV)).snoc (by rw[lB.1];exact e3) (w:=v4) (Zd6)).more (v5,(AI p.ts (first+i)).map bV);have PA':=((PA.more (v4,(qM p.ts (first+i)).map bV)).more (v5,(AI p.ts (first+i)).map bV)).snoc (by rw[lB.2];exact e4) (w:=v5) (Zd6);rw[<-amk]at PB';rw[<-aml]at PA';rw[eB,eA]at PB' PA'
  obtain⟨s',Ls',R',I',z1,z5⟩:=ih (i+1) f _ _ _ _ s5.next (by omega) (by omega) ⟨O6,C6,V0,V1,V2,V3,V4,_,_,rfl,by rw[show first+(i+1)=(first+i)+1 from rfl,amh,ami,amj,T1];rfl,by simp[e3];omega,by simp[e4];omega,PB',PA'⟩
   (az _ _) (λe=>by have:=hw5 _ _ C5;rw[<-e]at this;omega) (λL hL e=>by have:=O5.ltL hL e;omega)
  refine⟨s',Ls',R',I',z1,λx40 Rf k4=> ?_⟩;rw[<-z5 x40 Rf k4,Uy];have w:ax .i64 ((first:Int)+(n:Int))=((first+n:Nat):Int):=arM rfl (by omega);have w1:ax .i64 (((first+i:Nat):Int)+1)=((first+(i+1):Nat):Int):=ac6 rfl (by clear w;omega);have r1x:=λ(K:AV->St->Option (AV×St))=>Ge (c:=c) (z:=[.int .i64 0]) (x:= .int .i64 (k:Int)) rfl rfl s K
  have r2x:=λ(K:AV->AB->Option (AV×St))=>Gd (z:=[.int .i64 0]) (x:= .int .i64 (IM p.ts ((first+i:Nat):Int))) rfl rfl s1 K
  have r3x:=λ(K:AV->AB->Option (AV×St))=>Gd (z:=[.bool false]) (x:= .bool (OV p.ts ((first+i:Nat):Int))) rfl rfl s2 K
  have r4x:=λ(K:AV->AB->Option (AV×St))=>Gd (z:=[.af]) (x:=v4) rfl vc4 u4 K
  have r5x:=λ(K:AV->AB->Option (AV×St))=>Gd (z:=[.af]) (x:=v5) rfl vc5 u5 K
  have st7:∀(K:AV->St->Option (AV×St)),aq c (.store 1) [.ptr s5.next 0,.int .i64 ((first+i:Nat):Int)] (ah s5 (.cells [.int .i64 0] 0)) K=K .undef (ah s5 (.cells [.int .i64 ((first+i:Nat):Int)] 0)):=λK=>cr c K s5 1 (.int .i64 ((first+i:Nat):Int)) [.int .i64 0] rfl rfl rfl
  have st8:∀(K:AV->St->Option (AV×St)),aq c (.store 1) [.ptr s5.next 0,.int .i64 ((first+(i+1):Nat):Int)] (ah s5 (.cells [.int .i64 ((first+i:Nat):Int)] 0)) K=K .undef (ah s5 (.cells [.int .i64 ((first+(i+1):Nat):Int)] 0)):=λK=>cr c K s5 1 (.int .i64 ((first+(i+1):Nat):Int)) [.int .i64 ((first+i:Nat):Int)] rfl rfl rfl
  simp only[aH,br,bf,amm,aJ,Zb1,Za4,bg,aA,fS,w,dS,Za0 aV,dW,cJ,aS,Zc3,hS.cell,g1,r1x,a1,a2,
   bu,kQ,q1,b1,bM.c0,dD,lv,cO,dK,qz,Zi1,n1,r2x,c1,c2,
   q2,b2,op,n2,r3x,d1,d2,aac,h4,n3,r4x,f1,f2,h5,n4,r5x,g1',g2',b5,dF,st7,az,w1,st8]
theorem Xb(t:aB):0<=bJ t/\bJ t<=24:=by
 unfold bJ;repeat' split
 all_goals omega
theorem aiH(ts:List aB):aW ts<=24*ts.length:=by
 induction ts with
 |nil=>simp[aW]
 |cons t ts ih=>
  have:=Xb t;simp only[aW,Zd2,Zo5,Zc9]at ih ⊢;omega
theorem aov(a b:List aB):aW (a++b)=aW a+aW b:=by simp[aW]
theorem Te{ts:List aB}{k:Nat}(hk:k<ts.length):aW (ts.take (k+1))=aW (ts.take k)+bJ ts[k]/\aW (ts.take (k+1))<=aW ts:=by have e:=Zc6 hk;refine⟨by rw[e,Tk],?_⟩;have h:=aov (ts.take (k+1)) (ts.drop (k+1));rw[Zl5]at h;have:=(o7 (ts.drop (k+1))).1;omega
theorem aiI:∀{ts:List aB}{i:Nat},(i:Int)<aW ts->cE ts i<ts.length
 |[],i,h=>by simp[aW]at h;omega
 |t ::ts,i,h=>by
  have e:aW (t::ts)=bJ t+aW ts:=by simp[aW]
  have:=Xd t;unfold cE;split
  . simp
  . have:=aiI (ts:=ts) (i:=i - (bJ t).toNat) (by omega);simp;omega
theorem aow{ts:List aB}{N:Nat}(hN:(N:Int)=aW ts){i:Nat}(hi:i<N):Za ts i+OW ts i<=N/\OW ts i<=24:=by have h:=aiI (ts:=ts) (i:=i) (by omega);have u:=Te h;have:=Xb ts[cE ts i];have n0:=(o7 (ts.take (cE ts i))).1;unfold Za OW;rw[H0 h];simp only;omega
theorem abf{ts:List aB}{N:Nat}(hN:(N:Int)=aW ts):(∀r∈yl ts N,Bd N r)/\∀r∈ym ts N,Bd N r:=by
 constructor
 . intro r hr;unfold yl at hr;obtain⟨i,hi,rfl⟩:=Zc7.1 hr;have:=aow hN (Zh6.1 hi);exact aff (by omega) this.1 _
 . intro r hr;unfold ym at hr;obtain⟨i,hi,rfl⟩:=Zc7.1 hr;have:=aow hN (Zh6.1 hi);exact aff (by omega) this.1 _
theorem auc(hc:Sem c)(p:bM)(cF:∀t∈p.ts,t.Ok)(hv:(bR p.ts).2=0)(h16:p.ts.length<=16){pb jb:Pos}{H:List AV}(hH:H.length=6){s0:St}(hpb:s0.heap.get pb=some (.cells p.cells 0))(Om:pb≠jb){N:Nat}(hN:(N:Int)=aW p.ts)(F:Nat)(hF:1010<=F):
  ∀(m k f:Nat)(s:St)(Ls:List AV)(R:List (List AV))(I:List (AV×List (List AV)))(j:Nat),m<f->k+m=p.ts.length->SW p.ts s0 s jb H Ls R I j->(j:Int)=aW (p.ts.take k)->
   ∃    s' Ls' R' I',SW p.ts s0 s' jb H Ls' R' I' N/\
        ∀(k2),Bk c F k2 f [.ptr pb 0,.ptr jb 0,.int .i64 (p.ts.length:Int),.int .i64 (k:Int)] s=k2 [.ptr pb 0,.ptr jb 0] s':=by
 have hN2:N<=10000:=by have:=aiH p.ts;omega
 intro m;induction m with
 |zero=>
  intro k f s Ls R I j hf hk hS hl;obtain⟨f,rfl⟩:∃g,f=g+1:=⟨f - 1,by omega⟩
  obtain rfl:k=p.ts.length:=by omega
  rw[Zj1]at hl;obtain rfl:j=N:=by omega
  refine⟨s,Ls,R,I,hS,λk2=> ?_⟩;rw[Uz];simp
 |succ m ih=>
  intro k f s Ls R I j hf hk hS hl;obtain⟨f,rfl⟩:∃g,f=g+1:=⟨f - 1,by omega⟩
  have jO:k<p.ts.length:=by omega
  obtain⟨u1,u2⟩:=Te jO;have z24:=Xb p.ts[k];have hw:=hS.ow.wf;obtain⟨n,hn⟩:∃n:Nat,(n:Int)=bJ p.ts[k]:=⟨(bJ p.ts[k]).toNat,by omega⟩
  have aud:zY p.ts (k:Int)=((j:Nat):Int):=by rw[zY,Za7 (by omega),hl];simp
  have fi:=ah4 hc p.tz p.ts cF (k:Int) s hw;rw[aud]at fi;have co:=aoo hc p.ts[k] (cF _ (Zc2 jO)) (HO hv k jO) s hw;rw[<-hn]at co;have so:=λ(K:AV->St->Option (AV×St))=>aon (c:=c) p.tz p.ts k jO K s
  have q0:=hS.ow.keep pb _ Om hpb;have G:=Grew.ah hw (.cells [.int .i64 ((j:Nat):Int)] 0);have S1:SW p.ts s0 (ah s (.cells [.int .i64 ((j:Nat):Int)] 0)) jb H Ls R I (j+0):=⟨hS.ow.ai G,G.get hS.cell,hS.shp⟩
  obtain⟨s1,Ls1,R1,I1,y1,y5⟩:=aub hc p cF hH hpb Om (first:=j) (n:=n) (N:=N) (k:=k) jO hl hn (by omega) hN2 (by omega) F n 0 F _ Ls R I s.next (by omega) (by omega) S1 (az _ _)
   (λe=>by have:=hw _ _ hS.cell;rw[<-e]at this;omega) (λL hL e=>by have:=hS.ow.ltL hL e;omega)
  obtain⟨s',Ls',R',I',z1,z5⟩:=ih (k+1) f s1 Ls1 R1 I1 (j+n) (by omega) (by omega) y1 (by omega);refine⟨s',Ls',R',I',z1,λk2=> ?_⟩;have aV:(k:Int)<(p.ts.length:Int):=by omega
  have w1:ax .i64 ((k:Int)+1)=((k+1:Nat):Int):=ac6 rfl (by omega);have st7:∀(K:AV->St->Option (AV×St)),aq c (.store 1) [.ptr s.next 0,.int .i64 ((j:Nat):Int)] (ah s (.cells [.int .i64 0] 0)) K=K .undef (ah s (.cells [.int .i64 ((j:Nat):Int)] 0)):=λK=>cr c K s 1 (.int .i64 ((j:Nat):Int)) [.int .i64 0] rfl rfl rfl
  rw[<-z5 k2,Uz];simp only[aH,br,dS,Za0 aV,dW,aA,aS,Zc3,bf,q0,aJ,Zb1,bM.c0,bg,dD,fi,cO,fS,w1,so,co,dF,st7,y5]
theorem arN{s0 s:St}{jb:Pos}{Ls:List AV}{R:List (List AV)}{I:List (AV×List (List AV))}(O:Ow s0 s jb Ls R I){i:Nat}{L:AV}{ws:List AV}(hL:Ls[i]? =some L)(hR:R[i]? =some ws){rs:List (List Int)}(hl:ws.length=rs.length)(P:XP I ws rs):RL s L rs ws:=by refine⟨O.own i L ws hL hR,hl,λi w r h1 h2=>(O.dV _ (P i w r h1 h2)).1,λw hw=> ?_⟩;obtain⟨i,hi,rfl⟩:=Zg2.1 hw;exact(O.dV _ (P i _ rs[i] (H0 hi) (H0 (by omega)))).1.cells.1
def aiJ(lo:Nat)(s:St)(jb:Pos)(Ls:List AV)(rB rA:List (List Int))(N:Nat)(ms:List Pos):Prop:=
 ∀(i:Nat)(m:Pos),ms[i]? =some m->s.heap.get m=some (im (acy rB rA N (i:Int)))/\m≠jb/\(∀L∈Ls,aK L≠some m)/\lo<=m.toNat
theorem aue (hc:Sem c){jb:Pos}{H:List AV}(hH:H.length=6){s0:St}{L0 L1 L2 L3 L4:AV}{r0 r1 r2 wB wA:List AV}{I:List (AV×List (List AV))}{rB rA:List (List Int)}{N:Nat}(hN2:N<=10000)(lB:rB.length=N)(lA:rA.length=N)(eB:wB.length=rB.length)(eA:wA.length=rA.length)
  (PB:XP I wB rB) (PA:XP I wA rA) (hB:∀r∈rB,Bd N r) (hA:∀r∈rA,Bd N r) (F:Nat):
  ∀(m k f:Nat)(s:St)(L5:AV)(ms:List Pos),m<f->k+m=N->Ow s0 s jb [L0,L1,L2,L3,L4,L5,.af,.af] [r0,r1,r2,wB,wA,ms.map AV.map,[],[]] I->s.heap.get jb=some (.cells (H++[L0,L1,L2,L3,L4,L5,.af,.af]) 0)->ms.length=k->aiJ s0.next.toNat s jb [L0,L1,L2,L3,L4,L5,.af,.af] rB rA N ms->
   ∃    s' L5' ms',Ow s0 s' jb [L0,L1,L2,L3,L4,L5',.af,.af] [r0,r1,r2,wB,wA,ms'.map AV.map,[],[]] I/\s'.heap.get jb=some (.cells (H++[L0,L1,L2,L3,L4,L5',.af,.af]) 0)/\ms'.length=N/\aiJ s0.next.toNat s' jb [L0,L1,L2,L3,L4,L5',.af,.af] rB rA N ms'/\
        ∀(x1:AV)(k6),Bl c F k6 f [x1,.ptr jb 0,.int .i64 (N:Int),.int .i64 (k:Int)] s=k6 [x1,.ptr jb 0] s':=by
 intro m;induction m with
 |zero=>
  intro k f s L5 ms hf hk O C hl hM;obtain⟨f,rfl⟩:∃g,f=g+1:=⟨f - 1,by omega⟩
  obtain rfl:k=N:=by omega
  refine⟨s,L5,ms,O,C,hl,hM,λx1 k6=> ?_⟩;rw[UA];simp
 |succ m ih=>
  intro k f s L5 ms hf hk O C hl hM;obtain⟨f,rfl⟩:∃g,f=g+1:=⟨f - 1,by omega⟩
  obtain ⟨mm,u,W,G,hmm,hmg⟩:=as9 hc hN2 s O.wf C (Rh hH 3) (Rh hH 4) (arN O (i:=3) rfl rfl eB PB) (arN O (i:=4) rfl rfl eA PA) lB lA hB hA (k:Int) (by omega);have O1:=O.ai G;have C1:=G.get C;obtain⟨t2,s2,V5,c1,c2,O2,C2,K2⟩:=O1.put C1 (c:=c) (Q:=AV×St) 8 (i:=5) (L:=L5) (r:=ms.map AV.map) rfl rfl (x:= .map mm) rfl rfl (by rw[Za5];omega) (by rw[Za5];omega) (o:=11) (by omega);have M2   :aiJ s0.next.toNat s2 jb [L0,L1,L2,L3,L4,V5,.af,.af] rB rA N (ms++[mm]):=λi m' hi=>by
   have gL:u.heap.get m'=some (im (acy rB rA N (i:Int)))/\m'≠jb/\(∀L∈[L0,L1,L2,L3,L4,L5,AV.af,AV.af],aK L≠some m')/\s0.next.toNat<=m'.toNat:=by
        by_cases h0:i<ms.length
        . rw[Zc1 h0]at hi;have:=hM i m' hi;exact⟨G.get this.1,this.2⟩
        . rw[Zb9 (by omega)]at hi;have h1:i=k:=by
            rcases Zi4 (i - ms.length) 1 with h|h
            . omega
            . rw[Zc4 (by simpa using h)]at hi;cases hi
          subst h1;rw[show i - ms.length=0 by omega]at hi;simp at hi;subst hi;exact⟨hmg,λe=>by have:=O.wf _ _ C;rw[<-e]at this;omega,λL hL e=>(by have:=O.ltL hL e;omega),Zb0 O.next hmm⟩
   obtain⟨q1,q2⟩:=K2 m' _ gL.2.1 gL.2.2.1 gL.1;exact⟨q1,gL.2.1,q2,gL.2.2.2⟩
  have n1:=λ(K:AV->Option (AV×St))=>kg K (p:=jb) (o:=11) (h:=u.heap) (h2:=s.heap) (v:=L5) (by rw[C1];exact Rh hH 5) (by rw[C];exact Rh hH 5) (O.own 5 L5 _ rfl rfl).beq
  have r1x:=λ(K:AV->AB->Option (AV×St))=>Gd (z:=[.qE]) (x:= .map mm) rfl rfl u K
  obtain⟨s',L5',ms',z1,z2,z6,z7,z3⟩:=ih (k+1) f s2 V5 (ms++[mm]) (by omega) (by omega) (by rw[Zc8];exact O2) C2 (by simp;omega) M2;refine⟨s',L5',ms',z1,z2,z6,z7,λx1 k6=> ?_⟩;have aV:(k:Int)<(N:Int):=by omega
  have w1:ax .i64 ((k:Int)+1)=((k+1:Nat):Int):=ac6 rfl (by omega);rw[<-z3 x1 k6,UA];simp only[aH,br,dS,Za0 aV,dW,aA,dK,dD,W,cO,qz,bu,Zc3,Zi1,n1,r1x,c1,c2,fS,w1]
theorem akx(z:Bool)(gs:List aQ){i:Nat}(hi:i<gs.length)(K:AV->St->Option (AV×St))(s:St):aq c (.idxA 9 none) [cK z gs,.int .i64 (i:Int)] s K=K (.fp (gs.map aQ.cells) i 0) s:=by
 unfold cK;rw[aa1];simp[hi]
theorem aky(gs:List aQ){i:Nat}(hi:i<gs.length)(K:AV->St->Option (AV×St))(s:St):aq c (.load (some 9)) [.fp (gs.map aQ.cells) i 0] s K=K (.agg (gs[i]).cells) s:=by
 rw[ajf];simp[hi]
theorem akz(g:aQ)(s:St)(K:AV->St->Option (AV×St)):
  aq c (.alloc [(.str []),(.str []),(.str []),(.int .i64 0),(.int .i64 0),(.str []),(.bool false),(.bool false),.af]) [] s (λx7 s7=>aq c (.store 9) [x7,.agg g.cells] s7 (λ_ s8=>K x7 s8))=K (.ptr s.next 0) (ah s (.cells g.cells 0)):=by
 rw[dF];exact cr c (λ_ s8=>K (.ptr s.next 0) s8) s 9 (.agg g.cells) _ rfl rfl (g.Gi (v:=iW g.tz g.tg) (by simp only[aM,ah6]))
def PrR(I:List (AV×List (List AV)))(ws:List AV)(rs:List (List (List AV))):Prop:=∀(i:Nat)(w:AV)(r:List (List AV)),ws[i]? =some w->rs[i]? =some r->(w,r)∈I
theorem PrR.more{I:List (AV×List (List AV))}{ws:List AV}{rs:List (List (List AV))}(h:PrR I ws rs)(e:AV×List (List AV)):PrR (e::I) ws rs:=λi w r h1 h2=>Za9 _ (h i w r h1 h2)
theorem PrR.snoc{I:List (AV×List (List AV))}{ws:List AV}{rs:List (List (List AV))}(h:PrR I ws rs)(hl:ws.length=rs.length){w:AV}{r:List (List AV)}(hm:(w,r)∈I):PrR I (ws++[w]) (rs++[r]):=λi w' r' h1 h2=>by
 by_cases hi:i<ws.length
 . rw[Zc1 hi]at h1;rw[Zc1 (by omega)]at h2;exact h i w' r' h1 h2
 . rw[Zb9 (by omega)]at h1;rw[Zb9 (by omega)]at h2;by_cases h0:i - ws.length=0
   . rw[h0]at h1;rw[show i - rs.length=0 by omega]at h2;simp at h1 h2;subst h1;subst h2;exact hm
   . rw[Zc4 (by simp;omega)]at h1;cases h1
def ac7(r:List Bool):List (List AV):=(r.map AV.bool).map nX
def ac8(r:List Int):List (List AV):=(r.map (AV.int .u8)).map nX
theorem auf(hc:Sem c)(z:Bool)(gs:List aQ)(hl:gs.length<=100){s0 T:St}{bp mp:Pos}{gs2:List aQ}{ts:List Ty}{gk tk:Option Pos}(B:eF s0 T bp mp gs2 ts gk tk)(um:ts.length<=1000)(hs:Jm ts){jb:Pos}{y:AB}(hj:s0.heap.get jb=some y)
  {L6 L7:AV} {r6 r7:List AV} {I:List (AV×List (List AV))} {Y:AB} {gb:Pos} {gcs:List AV} {a:List Nat} (ha:gcs[0]? =some (.str a)) (hgj:gb≠jb) (F:Nat):
  ∀(m i f:Nat)(s:St)(cv kv:AV)(bs:List Bool)(ks:List Int),m<f->i+m=gs.length->Ow T s jb [L6,L7,cv,kv] [r6,r7,bs.map AV.bool,ks.map (AV.int .u8)] I->s.heap.get jb=some Y->s.heap.get gb=some (.cells gcs 0)->(∀L∈[L6,L7,cv,kv],aK L≠some gb)->bs.length=i->ks.length=i->
   ∃    (s':St) (cv' kv':AV) (bs':List Bool) (ks':List Int),Ow T s' jb [L6,L7,cv',kv'] [r6,r7,bs'.map AV.bool,ks'.map (AV.int .u8)] I/\s'.heap.get jb=some Y/\bs'.length=gs.length/\ks'.length=gs.length/\
        ∀(x1 x7 aiK aiL aiM:AV)(On),xH c F On f [x1,x7,.ptr bp 0,.ptr gb 0,cv,kv,aiK,aiL,aiM,cK z gs,.int .i64 (gs.length:Int),.int .i64 (i:Int)] s=On [x1,x7,.ptr bp 0,cv',kv',aiK,aiL,aiM] s':=by
 intro m;induction m with
 |zero=>
  intro i f s cv kv bs ks hf hi O C hb aem h1 h2;obtain⟨f,rfl⟩:∃g,f=g+1:=⟨f - 1,by omega⟩
  obtain rfl:i=gs.length:=by omega
  refine⟨s,cv,kv,bs,ks,O,C,h1,h2,λx1 x7 aiK aiL aiM On=> ?_⟩;rw[UB];simp
 |succ m ih=>
  intro i f s cv kv bs ks hf hi O C hb aem h1 h2;obtain⟨f,rfl⟩:∃g,f=g+1:=⟨f - 1,by omega⟩
  have iH:i<gs.length:=by omega
  have hw:=O.wf;have G1:=Grew.ah hw (.cells (gs[i]).cells 0);have O1:=O.ai G1;obtain⟨w,s2,nn,e1,G2,ln⟩:=aou hc (B.at hj O1.wf O1.keep) a (gs[i]).name;have O2:=O1.ai G2;have C2:=G2.get (G1.get C);have b2:=G2.get (G1.get hb);have x2:s2.heap.get s.next=some (.cells (gs[i]).cells 0):=G2.get (az _ _);have far2:∀L∈[L6,L7,cv,kv],aK L≠some s.next:=λL hL e=>by have:=O.ltL hL e;omega
  obtain⟨s3,cv',a1,O3,a3,a4,a5,a6,a7,a8⟩:=O2.aco (c:=c) (Q:=AV×St) 1 (i:=2) (L:=cv) (r:=bs.map AV.bool) rfl rfl (x:= .bool (decide ((0:Int)<(nn:Int)))) rfl rfl (by rw[Za5];omega) (by rw[Za5];omega);have C3:=a3 _ C2;have b3:=a4 gb _ (aem cv (by simp)) b2;have x3:=a4 s.next _ (far2 cv (by simp)) x2;have fg3:∀L∈[L6,L7,cv',kv],aK L≠some gb:=Ow.mem_set (i:=2) aem λe=>by have:=a8 _ e;have:=O2.wf _ _ b2;omega
  obtain⟨k,ok,t1⟩:=atc hc (B.at hj O3.wf O3.keep) um hs a (gs[i]).name;obtain⟨s4,kv',d1,O4,d3,d4,d5,d6,d7,d8⟩:=O3.aco (c:=c) (Q:=AV×St) 1 (i:=3) (L:=kv) (r:=ks.map (AV.int .u8)) rfl rfl (x:= .int .u8 k) rfl rfl (by rw[Za5];omega) (by rw[Za5];omega);have C4:=d3 _ C3;have b4:=d4 gb _ (fg3 kv (by simp)) b3;have fg4:∀L∈[L6,L7,cv',kv'],aK L≠some gb:=Ow.mem_set (i:=3) fg3 λe=>by have:=d8 _ e;have:=O3.wf _ _ b3;omega
  obtain⟨s',cv2,kv2,bs2,ks2,z1,z2,z6,z7,z3⟩:=ih (i+1) f s4 cv' kv' (bs++[decide ((0:Int)<(nn:Int))]) (ks++[k]) (by omega) (by omega) (by rw[Zc8,Zc8];exact O4) C4 b4 fg4 (by simp;omega) (by simp;omega);refine⟨s',cv2,kv2,bs2,ks2,z1,z2,z6,z7,λx1 x7 aiK aiL aiM On=> ?_⟩;have aV:(i:Int)<(gs.length:Int):=by omega
  have w1:ax .i64 ((i:Int)+1)=((i+1:Nat):Int):=ac6 rfl (by omega);have r1x:=λ(K:AV->St->Option (AV×St))=>Ge (c:=c) (z:=[.bool false]) (x:= .bool (decide ((0:Int)<(nn:Int)))) rfl rfl s2 K
  have r2x:=λ(K:AV->St->Option (AV×St))=>Ge (c:=c) (z:=[.int .u8 0]) (x:= .int .u8 k) rfl rfl s3 K
  have b1:=G1.get hb;have x1':(ah s (.cells (gs[i]).cells 0)).heap.get s.next=some (.cells (gs[i]).cells 0):=az _ _;rw[<-z3 x1 x7 aiK aiL aiM On,UB];simp only[aH,br,dS,Za0 aV,dW,akx z gs iH,aky gs iH,akz,aA,aS,Zc3,bf,b1,x1',aJ,Zb1,ha,aQ.c0,bg,dD,e1,cO,ln,CB,r1x,a1,
   b3,x3,t1,kC,Za4,Zb8,r2x,d1,fS,w1]
theorem aqS{H Ls:List AV}(hH:H.length=12)(i:Nat):(H++Ls)[12+i]? =Ls[i]? :=by rw[Zb9 (by omega)];congr 1;omega
structure aqT(I:List (AV×List (List AV)))(r6 r7:List AV)(oQ:List (List Bool))(oR:List (List Int))(n j:Nat):Prop where
 lb:oQ.length=j
 lk:oR.length=j
 eb:∀r∈oQ,r.length=n
 ek:∀r∈oR,r.length=n
 pb:PrR I r6 (oQ.map ac7)
 pk:PrR I r7 (oR.map ac8)
theorem aug(hc:Sem c)(p:bM)(hl:p.gs.length<=100){s0 T:St}{bp mp:Pos}{gs2:List aQ}{ts:List Ty}{gk tk:Option Pos}(B:eF s0 T bp mp gs2 ts gk tk)(um:ts.length<=1000)(hs:Jm ts){pb jb:Pos}{y:AB}(hj:s0.heap.get jb=some y)(hpb:T.heap.get pb=some (.cells p.cells 0))(Om:pb≠jb)
  {H:List AV} (hH:H.length=12) (F:Nat) (hF:1010<=F):
  ∀(m j f:Nat)(s:St)(L6 L7:AV)(r6 r7:List AV)(I:List (AV×List (List AV)))(oQ:List (List Bool))(oR:List (List Int)),m<f->j+m=p.gs.length->Ow T s jb [L6,L7] [r6,r7] I->s.heap.get jb=some (.cells (H++[L6,L7]) 0)->r6.length=j->r7.length=j->aqT I r6 r7 oQ oR p.gs.length j->
   ∃    (s':St) (L6' L7':AV) (r6' r7':List AV) (I':List (AV×List (List AV))) (aqU:List (List Bool)) (aqV:List (List Int)),Ow T s' jb [L6',L7'] [r6',r7'] I'/\s'.heap.get jb=some (.cells (H++[L6',L7']) 0)/\r6'.length=p.gs.length/\r7'.length=p.gs.length/\aqT I' r6' r7' aqU aqV p.gs.length p.gs.length/\
        ∀(k8),Bm c F k8 f [.ptr pb 0,.ptr jb 0,.ptr bp 0,cK p.gz p.gs,.int .i64 (p.gs.length:Int),.int .i64 (j:Int)] s=k8 [.ptr jb 0] s':=by
 intro m;induction m with
 |zero=>
  intro j f s L6 L7 r6 r7 I oQ oR hf hi O C h1 h2 hG;obtain⟨f,rfl⟩:∃g,f=g+1:=⟨f - 1,by omega⟩
  obtain rfl:j=p.gs.length:=by omega
  refine⟨s,L6,L7,r6,r7,I,oQ,oR,O,C,h1,h2,hG,λk8=> ?_⟩;rw[UC];simp
 |succ m ih=>
  intro j f s L6 L7 r6 r7 I oQ oR hf hi O C h1 h2 hG;obtain⟨f,rfl⟩:∃g,f=g+1:=⟨f - 1,by omega⟩
  have iH:j<p.gs.length:=by omega
  have hw:=O.wf;have G1:=Grew.ah hw (.cells (p.gs[j]).cells 0);have O1:Ow T (ah s (.cells (p.gs[j]).cells 0)) jb [L6,L7,.af,.af] [r6,r7,[],[]] I:=((O.ai G1).snoc).snoc;have C1:=G1.get C;have sY:∀L∈[L6,L7,AV.af,AV.af],aK L≠some s.next:=λL hL e=>by
   simp only[Za8,Zb7,Ze4]at hL;rcases hL with rfl|rfl|rfl|rfl
   .    have:=O.ltL (L:=L) (by simp) e;omega
   .    have:=O.ltL (L:=L) (by simp) e;omega
   .    cases e
   .    cases e
  obtain⟨s2,cv,kv,bs,ks,O2,C2,lbs,lks,z3⟩:=auf hc p.gz p.gs hl B um hs hj (gb:=s.next) (gcs:=(p.gs[j]).cells) (a:=(p.gs[j]).name) rfl (λe=>by have:=hw _ _ C;rw[<-e]at this;omega) F p.gs.length 0 F _ .af .af [] [] (by omega) (by omega) O1 C1 (az _ _) sY rfl rfl;obtain⟨cc,co⟩:=(O2.own 2 cv _ rfl rfl).cells;obtain⟨kc,ko⟩:=(O2.own 3 kv _ rfl rfl).cells;have O2':Ow T s2 jb [L6,L7] [r6,r7] ((cv,ac7 bs)::(kv,ac8 ks)::I):=(Ow.take (Ls:=[L6,L7]) (R:=[r6,r7]) (Ow.take (Ls:=[L6,L7,cv]) (R:=[r6,r7,bs.map AV.bool]) O2))
  obtain⟨s3,V6,a1,O3,a3,a4,a5,a6,a7,a8⟩:=O2'.aco (c:=c) (Q:=AV×St) 24 (i:=0) (L:=L6) (r:=r6) rfl rfl (x:=cv) cc co (by omega) (by omega);have C3:=a3 _ C2;obtain⟨s4,V7,d1,O4,d3,d4,d5,d6,d7,d8⟩:=O3.aco (c:=c) (Q:=AV×St) 24 (i:=1) (L:=L7) (r:=r7) rfl rfl (x:=kv) kc ko (by omega) (by omega);have C4:=d3 _ C3;have O5:=(O4.store (.cells (H++[V6,L7]) 0)).store (.cells (H++[V6,V7]) 0);have bw:∀(K:AV->St->Option (AV×St)),aq c (.store 1) [.ptr jb 12,V6] s4 K=K .undef (aY s4 jb (.cells (H++[V6,L7]) 0)):=λK=>by rw[zX K C4 (by simp;omega) a5 a6,Zj8 _ _ (by omega),show 12 - H.length=0 by omega];rfl
  have w7:∀(K:AV->St->Option (AV×St)),aq c (.store 1) [.ptr jb 13,V7] (aY s4 jb (.cells (H++[V6,L7]) 0)) K=K .undef (aY (aY s4 jb (.cells (H++[V6,L7]) 0)) jb (.cells (H++[V6,V7]) 0)):=λK=>by rw[zX K (bN _ _ _) (by simp;omega) d5 d6,Zj8 _ _ (by omega),show 13 - H.length=1 by omega];rfl
  have hG':aqT ((cv,ac7 bs)::(kv,ac8 ks)::I) (r6++[cv]) (r7++[kv]) (oQ++[bs]) (oR++[ks]) p.gs.length (j+1):=by
   have e1:=hG.lb;have e2:=hG.lk;refine⟨by simp;omega,by simp;omega,λr hr=> ?_,λr hr=> ?_,?_,?_⟩
   .    rcases Zd8.1 hr with h|h
        . exact hG.eb r h
        . simp at h;subst h;exact lbs
   .    rcases Zd8.1 hr with h|h
        . exact hG.ek r h
        . simp at h;subst h;exact lks
   .    rw[Zc8];exact((hG.pb.more _).more _).snoc (by simp;omega) (Zd6)
   .    rw[Zc8];exact((hG.pk.more _).more _).snoc (by simp;omega) (Za9 _ Zd6)
  obtain⟨s',L6',L7',r6',r7',I',aqU,aqV,y1,y2,y6,y7,y8,y3⟩:=ih (j+1) f _ V6 V7 (r6++[cv]) (r7++[kv]) _ (oQ++[bs]) (oR++[ks]) (by omega) (by omega) O5 (bN _ _ _) (by simp;omega) (by simp;omega) hG';refine⟨s',L6',L7',r6',r7',I',aqU,aqV,y1,y2,y6,y7,y8,λk8=> ?_⟩;have aV:(j:Int)<(p.gs.length:Int):=by omega
  have w1:ax .i64 ((j:Int)+1)=((j+1:Nat):Int):=ac6 rfl (by omega);have q1:=O1.keep pb _ Om hpb;have g12:(H++[L6,L7])[12]? =some L6:=aqS hH 0;have r1x:=λ(K:AV->AB->Option (AV×St))=>Gd (z:=[.af]) (x:=cv) rfl cc s2 K
  have r2x:=λ(K:AV->AB->Option (AV×St))=>Gd (z:=[.af]) (x:=kv) rfl kc s3 K
  have n1:=λ(K:AV->Option (AV×St))=>kg K (p:=jb) (o:=13) (h:=s3.heap) (h2:=s2.heap) (v:=L7) (by rw[C3];exact aqS hH 1) (by rw[C2];exact aqS hH 1) (O2.own 1 L7 r7 rfl rfl).beq
  have lG:∀(K:AV->St->Option (AV×St))(s:St),aq c (.lenB .l) [cK p.gz p.gs] s K=K (.int .i64 (p.gs.length:Int)) s:=λK s=>by unfold cK;rw[fE];simp
  rw[<-y3 k8,UC];simp only[aH,br,dS,Za0 aV,dW,akx p.gz p.gs iH,aky p.gs iH,akz,aA,aS,Zc3,bf,q1,aJ,Zb1,bM.c1,bg,lG];rw[show(0:Int)=((0:Nat):Int)from rfl,z3];simp only[aH,br,dK,qz,bu,Zc3,kQ,C2,aJ,Zb1,g12,bg,r1x,a1,Zi1,n1,r2x,d1,bw,w7,fS,w1,aA]
theorem ajD{p:bM}(h:(mP p).2=0):(bR p.ts).2=0/\(dU p.gs p.ys).2=0:=by
 have hb:(gX p).2=0:=by
   unfold mP at h;by_cases e:(gX p).2=0
   . exact e
   . rw[Zb3 e]at h;exact absurd h e
 unfold gX at hb;by_cases h1:(bR p.ts).2=0
 . rw[Za7 (by simpa using h1)]at hb;by_cases h2:(dU p.gs p.ys).2=0
   . exact⟨h1,h2⟩
   . rw[Zb3 h2]at hb;exact absurd hb h2
 . rw[Zb3 h1]at hb;exact absurd hb h1
set_option maxHeartbeats 1000000 in
def Tg(s0 s:St)(v:AV)(rows:List (List AV)):Prop:=QS 1 s v rows/\∀b,aK v=some b->s0.next.toNat<=b.toNat/\s.heap.get b=some (.cells rows.flatten 0)
theorem Tg.mono{s0 s s':St}{v:AV}{rows:List (List AV)}(h:Tg s0 s v rows)(hk:∀b x,s0.next.toNat<=b.toNat->s.heap.get b=some x->s'.heap.get b=some x):Tg s0 s' v rows:=
 ⟨h.1.mono λb x hb hx=>hk b x (h.2 b hb).1 hx,λb hb=>⟨(h.2 b hb).1,hk b _ (h.2 b hb).1 (h.2 b hb).2⟩⟩
theorem Tg.base{s1 s0 s:St}{v:AV}{rows:List (List AV)}(h:Tg s0 s v rows)(hn:s1.next.toNat<=s0.next.toNat):Tg s1 s v rows:=⟨h.1,λb hb=>⟨Zb0 hn (h.2 b hb).1,(h.2 b hb).2⟩⟩
theorem Ow.tg{s0 s:St}{jb:Pos}{Ls:List AV}{R:List (List AV)}{I:List (AV×List (List AV))}(O:Ow s0 s jb Ls R I){i:Nat}{L:AV}{r:List AV}(hL:Ls[i]? =some L)(hR:R[i]? =some r):Tg s0 s L (r.map nX):=
 ⟨O.own i L r hL hR,λb hb=>⟨O.new L (Zc0 hL) b hb,by rw[agd];exact O.tig i L r hL hR b hb⟩⟩
theorem Ow.tgi{s0 s:St}{jb:Pos}{Ls:List AV}{R:List (List AV)}{I:List (AV×List (List AV))}(O:Ow s0 s jb Ls R I){w:AV}{rows:List (List AV)}(h:(w,rows)∈I):Tg s0 s w rows:=
 ⟨(O.dV _ h).1,λb hb=>⟨O.inw _ h b hb,O.itg _ h b hb⟩⟩
structure JD(s0 s:St)(jb:Pos)(Vs:List AV)(ts:List aB)(N n:Nat)(oQ:List (List Bool))(oR:List (List Int)):Prop where
 all:∃(m:Pos) (L0 L1 L2 L3 L4 L5 L6 L7:AV) (wB wA:List AV) (ms:List Pos) (r6 r7:List AV),s.heap.get jb=some (.cells (Vs++[.map m,L0,L1,L2,L3,L4,L5,L6,L7]) 0)/\
  (s0.next.toNat<=m.toNat/\s.heap.get m=some (.map ur 18))/\Tg s0 s L0 ((BO ts N).map nX)/\Tg s0 s L1 ((BP ts N).map nX)/\Tg s0 s L2 ((BQ ts N).map nX)/\
  (Tg s0 s L3 (wB.map nX)/\wB.length=N/\∀(i:Nat)(w:AV)(r:List Int),wB[i]? =some w->(yl ts N)[i]? =some r->Tg s0 s w (r.map bV))/\
  (Tg s0 s L4 (wA.map nX)/\wA.length=N/\∀(i:Nat)(w:AV)(r:List Int),wA[i]? =some w->(ym ts N)[i]? =some r->Tg s0 s w (r.map bV))/\
  (Tg s0 s L5 ((ms.map AV.map).map nX)/\ms.length=N/\∀(i:Nat)(m:Pos),ms[i]? =some m->s0.next.toNat<=m.toNat/\s.heap.get m=some (im (acy (yl ts N) (ym ts N) N (i:Int))))/\
  (Tg s0 s L6 (r6.map nX)/\r6.length=n/\∀(i:Nat)(w:AV)(r:List Bool),r6[i]? =some w->oQ[i]? =some r->Tg s0 s w (ac7 r))/\
  (Tg s0 s L7 (r7.map nX)/\r7.length=n/\∀(i:Nat)(w:AV)(r:List Int),r7[i]? =some w->oR[i]? =some r->Tg s0 s w (ac8 r))
 n1:oQ.length=n
 n2:oR.length=n
 n3:∀r∈oQ,r.length=n
 n4:∀r∈oR,r.length=n
theorem ajm(hc:Sem c)(p:bM)(hp:p.CI)(hRo:XC c p)(hR:p.Real)(hr:∀r∈p.rs,r.Ok)(s:St)(hw:Wf s)(h:(mP p).2=0):
   ∃(jb:Pos) (s':St) (Vs:List AV) (N:Nat) (oQ:List (List Bool)) (oR:List (List Int)),c 18 [.agg p.cells] s=some (.tuple [.ptr jb 0,.int .i64 0,.int .i64 0],s')/\PS s s' Vs p/\(N:Int)=aW p.ts/\JD s s' jb Vs p.ts N p.gs.length oQ oR/\s.next.toNat<=jb.toNat/\Vs.length=5:=by
 obtain⟨hv,au5⟩:=ajD h;have h16:=Oh hv;have cg:Wf (ah s (.cells p.cells 0)):=bn hw;have G1:=Grew.ah hw (.cells p.cells 0);have ck:=afM hc p hp hRo hr _ cg;obtain⟨Vs,s1,cp,P⟩:=amd hc p hR _ cg;obtain⟨vl,vo⟩:=P.cells;obtain⟨V1,V2,V3,V4,V5,rfl⟩:∃V1 V2 V3 V4 V5,Vs=[V1,V2,V3,V4,V5]:=by
   match Vs,vl with
   |[a,b,c,d,e],_=>exact⟨a,b,c,d,e,rfl⟩
 have w1:=P.ai.wf;have kk:=abt hc s1;have w2:Wf (ah s1 (.map ur 18)):=bn w1;have G2:=Grew.ah w1 (.map ur 18)
 let s2:=ah s1 (.map ur 18)
 let H:=[V1,V2,V3,V4,V5,AV.map s1.next]
 let J0:List AV:=H++[.af,.af,.af,.af,.af,.af,.af,.af]
 have w3:Wf (ah s2 (.cells J0 0)):=bn w2;have G3:Grew s2 (ah s2 (.cells J0 0)):=Grew.ah w2 _
 let jb:=s2.next
 let s3:=ah s2 (.cells J0 0)
 have cj:s3.heap.get jb=some (.cells J0 0):=az _ _;have ltj:jb.toNat<s3.next.toNat:=by show s2.next.toNat<s2.next.succ.toNat;rw[Pos.aC];exact Nat.lt_succ_self _
 have pb3:s3.heap.get s.next=some (.cells p.cells 0):=((P.ai.trans G2).trans G3).get (az _ _);have Om:s.next≠jb:=λe=>by have e1:=P.ai.next;rw[bD,Pos.aC]at e1;have e2:s2.next.toNat=s1.next.toNat+1:=(by show(ah s1 _).next.toNat=_;rw[bD,Pos.aC]);have:s.next.toNat=s2.next.toNat:=(by rw[e]);omega
 have O0:Ow s3 s3 jb [.af,.af,.af,.af,.af,.af,.af,.af] [[],[],[],[],[],[],[],[]] []:=Ow.none w3 ltj 8;obtain⟨N,hN⟩:∃N:Nat,(N:Int)=aW p.ts:=⟨(aW p.ts).toNat,by have:=(o7 p.ts).1;omega⟩
 have hN2:N<=10000:=by have:=aiH p.ts;omega
 obtain⟨s4,Ls,R,I,S4,z4⟩:=auc hc p hp.ok hv h16 (H:=H) rfl pb3 Om hN 20000 (by omega) p.ts.length 0 20000 s3 _ _ _ 0 (by have:=hp.ts;omega) (by omega)
   ⟨O0,cj,.af,.af,.af,.af,.af,[],[],rfl,rfl,rfl,rfl,λi w r h=>(by simp at h),λi w r h=>(by simp at h)⟩ (by simp[aW])
 obtain⟨L0,L1,L2,L3,L4,wB,wA,rfl,rfl,e3,e4,PB,PA⟩:=S4.shp;have lBA:=Oa p.ts N;obtain⟨hB,hA⟩:=abf hN;obtain⟨s5,L5,ms,O5,C5,lms,M5,z5⟩:=aue hc (H:=H) rfl hN2 lBA.1 lBA.2 (by rw[lBA.1];exact e3) (by rw[lBA.2];exact e4) PB PA hB hA 20000 N 0 20000 s4 .af [] (by omega) (by omega) S4.ow S4.cell rfl (λi m h=>by simp at h);have w5:=O5.wf;obtain⟨v6,s6,e6,k6,b6⟩:=Q0 hc p.gz p.yz p.gs p.ys hp.gs hp.ys s5 w5;obtain⟨bp,mp,gk,tk,rfl,B,hs⟩:=b6 au5;have w6:=B.wf;have hj6:=k6 _ _ C5;have hj5:(ah s5 (.cells [cK p.gz p.gs,eX p.yz p.ys] 0)).heap.get jb=some (.cells (H++[L0,L1,L2,L3,L4,L5,.af,.af]) 0):=(Grew.ah w5 _).get C5;have lt6:=w6 _ _ hj6;have pb5:=O5.keep s.next _ Om pb3;have pb6:=k6 _ _ pb5
 let H':=H++[L0,L1,L2,L3,L4,L5]
 have O6:Ow s6 s6 jb [.af,.af] [[],[]] []:=Ow.none w6 lt6 2;obtain⟨s7,L6,L7,r6,r7,I',oQ,oR,O7,C7,l6,l7,G7,z7⟩:=aug hc p hp.gs B (by have:=hp.ys;omega) hs hj5 pb6 Om (H:=H') rfl 20000 (by omega) p.gs.length 0 20000 s6 .af .af [] [] [] [] [] (by have:=hp.gs;omega) (by omega) O6 hj6 rfl rfl ⟨rfl,rfl,λr h=>(by cases h),λr h=>(by cases h),λi w r h=>(by simp at h),λi w r h=>(by simp at h)⟩;have keep:∀q x,q≠jb->s3.heap.get q=some x->s7.heap.get q=some x:=λq x hq hx=>O7.keep q x hq (k6 _ _ (O5.keep q x hq hx))
 have G03:Grew s s3:=((G1.trans P.ai).trans G2).trans G3;have jge:s1.next.toNat<jb.toNat:=by show _<(ah s1 _).next.toNat;rw[bD,Pos.aC];omega
 have sle:s.next.toNat<=s1.next.toNat:=(G1.trans P.ai).next;have G07:Grew s s7:=⟨O7.wf,λq x hx=>keep q x (λe=>by have:=hw _ _ hx;rw[e]at this;omega) (G03.get hx),by have a1:=G03.next;have a2:=O5.next;have a3:=B.next;have a4:=O7.next;rw[bD,Pos.aC]at a3;omega⟩
 have PE:PS s s7 [V1,V2,V3,V4,V5] p:=P.oo hw G1 G07 λq b _ hx=>keep q b (λe=>by have:=w1 _ _ hx;rw[e]at this;omega) ((G2.trans G3).get hx)
 have n03:s.next.toNat<=s3.next.toNat:=G03.next;have n36:s3.next.toNat<=s6.next.toNat:=Zb0 O5.next (by have:=B.next;rw[bD,Pos.aC]at this;omega);have aqW:∀q x,q≠jb->s5.heap.get q=some x->s7.heap.get q=some x:=λq x hq hx=>O7.keep q x hq (k6 _ _ hx)
 have nj:∀q:Pos,s3.next.toNat<=q.toNat->q≠jb:=λq hq e=>by rw[e]at hq;omega
 have T5:∀{i:Nat}{L:AV}{r:List AV},([L0,L1,L2,L3,L4,L5,.af,.af]:List AV)[i]? =some L->([BO p.ts N,BP p.ts N,BQ p.ts N,wB,wA,ms.map AV.map,[],[]]:List (List AV))[i]? =some r->Tg s s7 L (r.map nX):=λh1 h2=>
   ((Ow.tg O5 h1 h2).mono λb x hb hx=>aqW b x (nj b hb) hx).base n03
 have T5i:∀{w:AV}{rows:List (List AV)},(w,rows)∈I->Tg s s7 w rows:=λh=>((Ow.tgi O5 h).mono λb x hb hx=>aqW b x (nj b hb) hx).base n03
 have n06:=Zb0 n03 n36;refine⟨jb,s7,[V1,V2,V3,V4,V5],N,oQ,oR,?_,PE,hN,⟨⟨s1.next,L0,L1,L2,L3,L4,L5,L6,L7,wB,wA,ms,r6,r7,C7,⟨sle,keep _ _ (λe=>by rw[<-e]at jge;omega) (G3.get (az _ _))⟩,T5 (i:=0) rfl rfl,T5 (i:=1) rfl rfl,T5 (i:=2) rfl rfl,
   ⟨T5 (i:=3) rfl rfl,e3,λi w r h1 h2=>T5i (PB i w r h1 h2)⟩,⟨T5 (i:=4) rfl rfl,e4,λi w r h1 h2=>T5i (PA i w r h1 h2)⟩,⟨T5 (i:=5) rfl rfl,lms,λi m h=> ?_⟩,
   ⟨(Ow.tg O7 (i:=0) rfl rfl).base n06,l6,λi w r h1 h2=>(Ow.tgi O7 (G7.pb i w _ h1 (by rw[Zb4,h2];rfl))).base n06⟩,⟨(Ow.tg O7 (i:=1) rfl rfl).base n06,l7,λi w r h1 h2=>(Ow.tgi O7 (G7.pk i w _ h1 (by rw[Zb4,h2];rfl))).base n06⟩⟩,G7.lb,G7.lk,G7.eb,G7.ek⟩,by omega,rfl⟩
 . have hcut:cut p.cells 0 5=some p.cells:=cM rfl;have fh:=az s (.cells p.cells 0);have bx:∀(K:AV->St->Option (AV×St)),aq c .box [.agg p.cells] s K=K (.ptr s.next 0) (ah s (.cells p.cells 0)):=λK=>by rw[dI];rfl
   have bx2:∀(K:AV->St->Option (AV×St)),aq c .box [.agg J0] s2 K=K (.ptr jb 0) s3:=λK=>by rw[dI];rfl
   have hd:decide ((mP p).2=0)=true:=Za0 h;have cj1:s1.heap.get s.next=some (.cells p.cells 0):=P.ai.get fh;have ag:(AV.agg [V1,V2,V3,V4,V5]).cells=[V1,V2,V3,V4,V5]:=rfl;have bd:∀(K:AV->St->Option (AV×St)),aq c (.build [.af,.af,.af,.af,.af,.qE,.af,.af,.af,.af,.af,.af,.af,.af] [(0,5),(5,1)]) [.agg [V1,V2,V3,V4,V5],.map s1.next] s2 K=K (.agg J0) s2:=λK=>by rw[ir];rfl
   have bd2:∀(K:AV->St->Option (AV×St)),aq c (.build [.af,.af] [(0,1),(1,1)]) [cK p.gz p.gs,eX p.yz p.ys] s5 K=K (.agg [cK p.gz p.gs,eX p.yz p.ys]) s5:=λK=>by rw[ir,vL];rfl
   have lT:∀(K:AV->St->Option (AV×St))(s:St),aq c (.lenB .l) [tabs p.tz p.ts] s K=K (.int .i64 (p.ts.length:Int)) s:=λK s=>by unfold tabs;rw[fE];simp
   have lG:∀(K:AV->St->Option (AV×St))(s:St),aq c (.lenB .l) [cK p.gz p.gs] s K=K (.int .i64 (p.gs.length:Int)) s:=λK s=>by unfold cK;rw[fE];simp
   have l0:∀(K:AV->St->Option (AV×St))(s:St),aq c (.lenB .l) [L0] s K=K (.int .i64 (N:Int)) s:=λK s=>by
    rw[(S4.ow.own 0 L0 _ rfl rfl).lenB K s,Za5,(Ta p.ts N).1]
   have pb4:=S4.ow.keep s.next _ Om pb3;have g6:(H++[L0,L1,L2,L3,L4,.af,.af,.af])[6]? =some L0:=rfl;have c4:=S4.cell;have run:=aiN hc 20000 (x0:= .agg p.cells) (s:=s) (r:=(.tuple [.ptr jb 0,.int .i64 0,.int .i64 0],s7)) (by
    rw[amn];simp only[bx,aA,gG,fh,aJ,Zb1,hcut,gO,dD,ck,cO,kC,Za4,Zb8,bg,Li,hd,Zk0,dQ,cp,kk];rw[show ah s1 (.map ur 18)=s2 from rfl,bd,bx2];simp only[aA,aS,Zc3,bf,pb3,aJ,Zb1,bM.c0,bg,lT];rw[show(0:Int)=((0:Nat):Int)from rfl,z4];simp only[aH,br,aA,cJ,aS,Zc3,bf,c4,aJ,Zb1,g6,bg,l0];rw[z5];simp only[aH,br,aA,aS,Zc3,bf,pb5,aJ,Zb1,bM.c1,bM.c2,bg,bd2,dD,e6,cO,kC,Za4,Zb8,pb6,lG];rw[z7];simp only[aH,br,aA])
   rw[run];unfold tidy;rw[Za7 (λe=>Up e.1)]
 . have:=M5 i m h;exact⟨Zb0 n03 this.2.2.2,aqW m _ this.2.1 this.1⟩
end
section
set_option maxRecDepth 100000
open Go Go.Ai Go.Proofs
section
variable{p p' : bM}
theorem bM.gD.trans{q:bM}(h:p.gD p')(k:p'.gD q):p.gD q where
 tl:=k.tl.trans h.tl
 ts i t t' h1 h2:=by
  have hi:i<p'.ts.length:=by rw[h.tl];exact(Za1.1 h1).1
  have e:=H0 hi;obtain⟨z,e1⟩:=h.ts i _ _ h1 e;obtain⟨z2,e2⟩:=k.ts i _ _ e h2;exact⟨z2,by rw[e2,e1]⟩
 gl:=k.gl.trans h.gl
 gs i t t' h1 h2:=by
  have hi:i<p'.gs.length:=by rw[h.gl];exact(Za1.1 h1).1
  have e:=H0 hi;obtain⟨z,e1⟩:=h.gs i _ _ h1 e;obtain⟨z2,e2⟩:=k.gs i _ _ e h2;exact⟨z2,by rw[e2,e1]⟩
 ys:=k.ys.trans h.ys
 cs:=k.cs.trans h.cs
 rs:=k.rs.trans h.rs
theorem bM.gD.tab(h:p.gD p'){t':aB}(ht:t'∈p'.ts):∃t∈p.ts,t.gD t':=by
 obtain⟨i,hi,rfl⟩:=Zg2.1 ht;have Ak:i<p.ts.length:=by rw[<-h.tl];exact hi
 exact⟨p.ts[i],Zc2 Ak,h.ts i _ _ (H0 Ak) (H0 hi)⟩
theorem bM.gD.qj(h:p.gD p'){t':aQ}(ht:t'∈p'.gs):∃t∈p.gs,t.gD t':=by
 obtain⟨i,hi,rfl⟩:=Zg2.1 ht;have Ak:i<p.gs.length:=by rw[<-h.gl];exact hi
 exact⟨p.gs[i],Zc2 Ak,h.gs i _ _ (H0 Ak) (H0 hi)⟩
theorem bM.gD.yo(h:p.gD p')(hp:p.CI):p'.CI where
 ts:=by rw[h.tl];exact hp.ts
 gs:=by rw[h.gl];exact hp.gs
 ys:=by rw[h.ys];exact hp.ys
 cs:=by rw[h.cs];exact hp.cs
 rs:=by rw[h.rs];exact hp.rs
 ok t ht:=by obtain⟨u,hu,z,rfl⟩:=h.tab ht;have:=hp.ok u hu;exact⟨this.1,this.2⟩
theorem bM.gD.real(h:p.gD p')(hp:p.Real):p'.Real where
 ts:=by rw[h.tl];exact hp.ts
 tab t ht:=by obtain⟨u,hu,z,rfl⟩:=h.tab ht;have:=hp.tab u hu;exact⟨this.1,this.2⟩
 gs:=by rw[h.gl];exact hp.gs
 qj t ht:=by obtain⟨u,hu,z,rfl⟩:=h.qj ht;have:=hp.qj u hu;exact⟨this.1,this.2,this.3,this.4,this.5⟩
 ys:=by rw[h.ys];exact hp.ys
 cs:=by rw[h.cs];exact hp.cs
 rs:=by rw[h.rs];exact hp.rs
theorem aqX(t:aB){v:AV}(h:bI v):∀x∈t.aj v,bI x:=λx hx=>by simp only[aB.aj,Za8,Zb7,Ze4]at hx;rcases hx with rfl|rfl|rfl|rfl|rfl|rfl|rfl<;>first|exact h|exact bI.str _|exact bI.int _ _
theorem aqY(t:aQ){v:AV}(h:bI v):∀x∈t.aj v,bI x:=λx hx=>by simp only[aQ.aj,Za8,Zb7,Ze4]at hx;rcases hx with rfl|rfl|rfl|rfl|rfl|rfl|rfl|rfl|rfl<;>first|exact h|exact bI.str _|exact bI.int _ _|exact bI.bool _
theorem zq{α:Type}{f:α->List AV}(h:∀a,∀x∈f a,bI x)(l:List α):∀r∈l.map f,∀x∈r,bI x:=λr hr x hx=>by obtain⟨a,_,rfl⟩:=Zc7.1 hr;exact h a x hx
theorem Oo(i:Int):∀x∈bV i,bI x:=λx hx=>by simp only[bV,Za8,Zb7,Ze4]at hx;subst hx;exact bI.int _ _
theorem aox(i:List Nat):∀x∈zl i,bI x:=λx hx=>by simp only[zl,Za8,Zb7,Ze4]at hx;subst hx;exact bI.str _
theorem atd(t:Ty):∀x∈t.cells,bI x:=λx hx=>by simp only[Ty.cells,Za8,Zb7,Ze4]at hx;rcases hx with rfl|rfl|rfl<;>first|exact bI.str _|exact bI.int _ _
theorem ate(t:Rl):∀x∈t.cells,bI x:=λx hx=>by simp only[Rl.cells,Za8,Zb7,Ze4]at hx;rcases hx with rfl|rfl|rfl|rfl|rfl|rfl<;>first|exact bI.str _|exact bI.int _ _
end
section
variable{s s1 : St}
theorem TS.cW{V:AV}{ts:List aB}{rows:List (List AV)}(hw:Wf s)(h:TS (emptyAt s) s1 V ts rows):TS s (cW s s1) V ts rows where
 out:=Mk.cW hw h.out (λr hr x hx=>by
  obtain⟨i,hi,rfl⟩:=Zg2.1 hr;have ht:i<ts.length:=by rw[<-h.len];exact hi
  obtain⟨v,e,M,_⟩:=h.dV i _ _ (H0 ht) (H0 hi);rw[e]at hx;exact aqX _ M.own.bare x hx)
 len:=h.len
 dV i t r hi hr:=by
  obtain⟨v,e,M,n⟩:=h.dV i t r hi hr;exact⟨v,e,Mk.cW hw M (zq Oo _),n⟩
theorem GS.cW{V:AV}{ts:List aQ}{rows:List (List AV)}(hw:Wf s)(h:GS (emptyAt s) s1 V ts rows):GS s (cW s s1) V ts rows where
 out:=Mk.cW hw h.out (λr hr x hx=>by
  obtain⟨i,hi,rfl⟩:=Zg2.1 hr;have ht:i<ts.length:=by rw[<-h.len];exact hi
  obtain⟨v,e,M,_⟩:=h.dV i _ _ (H0 ht) (H0 hi);rw[e]at hx;exact aqY _ M.own.bare x hx)
 len:=h.len
 dV i t r hi hr:=by
  obtain⟨v,e,M,n⟩:=h.dV i t r hi hr;exact⟨v,e,Mk.cW hw M (zq aox _),n⟩
theorem PS.cW{Vs:List AV}{p:bM}(hw:Wf s)(h:PS (emptyAt s) s1 Vs p):PS s (cW s s1) Vs p:=by
 obtain⟨V1,V2,V3,V4,V5,r1,r2,e,h1,h2,h3,h4,h5⟩:=h.all;exact⟨aae hw h.ai.wf h.ai.next,V1,V2,V3,V4,V5,r1,r2,e,TS.cW hw h1,GS.cW hw h2,Mk.cW hw h3 (zq atd _),Mk.cW hw h4 (zq Oo _),Mk.cW hw h5 (zq ate _)⟩
theorem PS.bare{s0:St}{Vs:List AV}{p:bM}(h:PS s0 s Vs p):∀V∈Vs,bI V:=λV hV=>by
 obtain⟨V1,V2,V3,V4,V5,r1,r2,rfl,h1,h2,h3,h4,h5⟩:=h.all;simp only[Za8,Zb7,Ze4]at hV;rcases hV with rfl|rfl|rfl|rfl|rfl
 . exact h1.out.own.bare
 . exact h2.out.own.bare
 . exact h3.own.bare
 . exact h4.own.bare
 . exact h5.own.bare
end
end
noncomputable section
set_option maxRecDepth 100000
open Go Go.Ai Go.Proofs
def IL(f:FuncId):List AV->St->Option (AV×St):=SC (run Pc gg) f 4
def Oq:eV:=vW [(246,F0),(14,YV),(18,IL 18),(109,IL 109),
 (16,IL 16),(17,IL 17),(30,IL 30),(32,IL 32),(33,IL 33),(34,IL 34)]
def bH(c:au):Prop:=c=run Oq gg
theorem bH.o0{c:au}(hc:bH c)(F:Nat){f:FuncId}{args:List AV}{st:St}{r:AV×St}(s:Sh)(hk:(Al (Oq f)&& !Al (gg.get (key f))&&(fQ (gA f).code s).isEmpty)=true)
  {k:O2} (hd:II c F (agb []) (gA f) s args st=k) (h:k=some r):c f args st=some (tidy st r):=by
 subst hc;exact ake s hk hd h
theorem bH.o1{c:au}(hc:bH c)(F:Nat){f:FuncId}{args:List AV}{st:St}{r:AV×St}(Ls:Un->List Q2->Nat->Q2)(s:Sh)(hk:(Al (Oq f)&& !Al (gg.get (key f))&&Nat.beq (fQ (gA f).code s).length 1)=true)
  (hs:(adC (iy (gA f) s 0).2&&Nat.beq (lpJ (iy (gA f) s 0).2) 0)=true) (h0:∀K' vs st,tT Ls (gA f) s 0 K' 0 vs st=none)
  (h1:∀K' n vs st,tT Ls (gA f) s 0 K' (n+1) vs st=Qm (den c F (tT Ls (gA f) s) (iy (gA f) s 0).1 (lpB (iy (gA f) s 0).2)) (lpI (iy (gA f) s 0).2) (lpO (iy (gA f) s 0).2) K' (tT Ls (gA f) s 0 K' n) vs st)
  {k:O2} (hd:II c F (tT Ls (gA f) s) (gA f) s args st=k) (h:k=some r):c f args st=some (tidy st r):=by
 subst hc;exact akf Ls s hk hs h0 h1 hd h
theorem bH.oL{c:au}(hc:bH c)(F:Nat){f:FuncId}{args:List AV}{st:St}{r:AV×St}(Ls:Un->List Q2->Nat->Q2)(s:Sh)(n:Nat)(hk:(Al (Oq f)&& !Al (gg.get (key f))&&Nat.beq (fQ (gA f).code s).length n)=true)
  (hL:∀i,i<n->Dt c F (tT Ls (gA f) s) (iy (gA f) s i).1 (iy (gA f) s i).2) {k:O2} (hd:II c F (tT Ls (gA f) s) (gA f) s args st=k) (h:k=some r):c f args st=some (tidy st r):=by
 subst hc;exact adL Ls s n hk hL hd h
theorem bH.at{c:au}(hc:bH c){f:FuncId}{s:List AV->St->Option (AV×St)}{args:List AV}{st:St}{r:AV×St}(ho:Oq f=some s)(h:s args st=some r):c f args st=some r:=by subst hc;exact ace ho h
section
variable{s s1 : St}
theorem Tg.cW{v:AV}{rows:List (List AV)}(hw:Wf s)(h:Tg (emptyAt s) s1 v rows)(hb:∀r∈rows,∀x∈r,bI x):Tg s (Go.Ai.cW s s1) v rows:=by
 have key:∀b,aK v=some b->(Go.Ai.cW s s1).heap.get b=some (.cells rows.flatten 0):=λb dZ=>
  Dz hw (h.2 b dZ).1 (h.2 b dZ).2 (λv hv=>by obtain⟨r,hr,hv⟩:=List.mem_flatten.1 hv;exact hb r hr v hv)
 exact⟨h.1.mono λb x dZ hx=>by rw[(h.2 b dZ).2]at hx;cases hx;exact key b dZ,λb dZ=>⟨(h.2 b dZ).1,key b dZ⟩⟩
theorem qt{l:List AV}(h:∀x∈l,bI x):∀r∈l.map nX,∀x∈r,bI x:=λr hr x hx=>by obtain⟨y,hy,rfl⟩:=Zc7.1 hr;simp only[nX,Zh8]at hx;subst hx;exact h _ hy
theorem aqZ:KL (.map ur 18):=λe he=>by
 simp only[ur,Za8,Zb7,Ze4]at he;rcases he with rfl|rfl|rfl|rfl|rfl|rfl|rfl|rfl|rfl|rfl|rfl|rfl|rfl|rfl|rfl|rfl|rfl|rfl<;>
 . refine⟨bI.int _ _,bI.agg λv hv=> ?_⟩;simp only[kd,Kd.cells,Za8,Zb7,Ze4]at hv;rcases hv with rfl|rfl|rfl|rfl|rfl|rfl|rfl|rfl<;>first|exact bI.str _|exact bI.int _ _|exact bI.bool _|exact bI.func _ (by simp) (by simp)|exact bI.iI
theorem atf(E:List (Int×Int)):KL (im E):=by
 have:∀(E:List (Int×Int))(i:Nat),∀e∈Qp E i,bI e.1/\bI e.2.1:=λE=>by
  induction E with
  |nil=>intro i e he;cases he
  |cons a E ih=>
   intro i e he;simp only[Qp,Za8]at he;rcases he with rfl|he
   . exact⟨bI.int _ _,bI.int _ _⟩
   . exact ih _ e he
 exact this E 0
theorem JD.cW{jb:Pos}{Vs:List AV}{ts:List aB}{N n:Nat}{oQ:List (List Bool)}{oR:List (List Int)}(hw:Wf s)(hV:∀V∈Vs,bI V)(hj:s.next.toNat<=jb.toNat)(h:JD (emptyAt s) s1 jb Vs ts N n oQ oR):JD s (Go.Ai.cW s s1) jb Vs ts N n oQ oR:=by
 obtain⟨m,L0,L1,L2,L3,L4,L5,L6,L7,wB,wA,ms,r6,r7,KF,⟨hm,hmk⟩,t0,t1,t2,⟨t3,lB,iB⟩,⟨t4,lA,iA⟩,⟨t5,l5,i5⟩,⟨t6,l6,i6⟩,⟨t7,l7,i7⟩⟩:=h.all;have n2:=Oa ts N;have bT:∀x∈BO ts N,bI x:=λx hx=>by obtain⟨i,_,rfl⟩:=Zc7.1 hx;exact bI.int _ _
 have bL:∀x∈BP ts N,bI x:=λx hx=>by obtain⟨i,_,rfl⟩:=Zc7.1 hx;exact bI.int _ _
 have bO:∀x∈BQ ts N,bI x:=λx hx=>by obtain⟨i,_,rfl⟩:=Zc7.1 hx;exact bI.bool _
 have dV:∀{α:Type}{ws:List AV}{rs:List α}{f:α->List (List AV)},ws.length=rs.length->(∀(i:Nat)(w:AV)(r:α),ws[i]? =some w->rs[i]? =some r->Tg (emptyAt s) s1 w (f r))->∀w∈ws,bI w:=λ{α ws rs f} hl hi w hw=>by obtain⟨i,Ak,rfl⟩:=Zg2.1 hw;exact(hi i _ (rs[i]'(by omega)) (H0 Ak) (H0 (by omega))).1.bare
 have bB:=dV (f:=λ(r:List Int)=>r.map bV) (by rw[n2.1];exact lB) iB;have bA:=dV (f:=λ(r:List Int)=>r.map bV) (by rw[n2.2];exact lA) iA;have b6:=dV (f:=ac7) (by rw[h.n1];exact l6) i6;have b7:=dV (f:=ac8) (by rw[h.n2];exact l7) i7;have b5:∀x∈ms.map AV.map,bI x:=λx hx=>by obtain⟨i,_,rfl⟩:=Zc7.1 hx;exact bI.map _
 refine⟨⟨m,L0,L1,L2,L3,L4,L5,L6,L7,wB,wA,ms,r6,r7,Dz hw hj KF (λv hv=> ?_),⟨hm,Dz hw hm hmk aqZ⟩,t0.cW hw (qt bT),t1.cW hw (qt bL),t2.cW hw (qt bO),
   ⟨t3.cW hw (qt bB),lB,λi w r h1 h2=>(iB i w r h1 h2).cW hw (zq Oo r)⟩,⟨t4.cW hw (qt bA),lA,λi w r h1 h2=>(iA i w r h1 h2).cW hw (zq Oo r)⟩,
   ⟨t5.cW hw (qt b5),l5,λi m h=>⟨(i5 i m h).1,Dz hw (i5 i m h).1 (i5 i m h).2 (atf _)⟩⟩,
   ⟨t6.cW hw (qt b6),l6,λi w r h1 h2=>(i6 i w r h1 h2).cW hw (qt λx hx=>by obtain⟨b,_,rfl⟩:=Zc7.1 hx;exact bI.bool _)⟩,
   ⟨t7.cW hw (qt b7),l7,λi w r h1 h2=>(i7 i w r h1 h2).cW hw (qt λx hx=>by obtain⟨b,_,rfl⟩:=Zc7.1 hx;exact bI.int _ _)⟩⟩,h.n1,h.n2,h.n3,h.n4⟩
 rcases Zd8.1 hv with hv|hv
 . exact hV v hv
 . simp only[Za8,Zb7,Ze4]at hv;rcases hv with rfl|rfl|rfl|rfl|rfl|rfl|rfl|rfl|rfl
   . exact bI.map _
   . exact t0.1.bare
   . exact t1.1.bare
   . exact t2.1.bare
   . exact t3.1.bare
   . exact t4.1.bare
   . exact t5.1.bare
   . exact t6.1.bare
   . exact t7.1.bare
end
section
variable{c : au}{s0 s : St}{Vs : List AV}{p : bM}
end
end
end Go.Proofs.YtgihekklfnjkiaaGreatDoor
