/- What rule.New answers. -/
import Derived.Test.YtgihekklfnjkiaaGreatDoorGLawsD
set_option linter.all false
set_option linter.unusedSectionVars false
set_option linter.deprecated false
namespace Go.Proofs.YtgihekklfnjkiaaGreatDoor
section
set_option maxRecDepth 100000
open Go Go.Ai Go.Proofs
variable{c : aj}
theorem YH(s:St)(r:AV×St):tidy s r=r\/tidy s r=(r.1,s):=by
 unfold tidy;split
 . exact .inr rfl
 . exact .inl rfl
theorem an7{s:St}{v:AV}{l:List (List Nat)}(h:QS 1 s v (l.map qj))(hl:l.length<=1000)(x:List Nat)(F:Nat):∀(m k:Nat),l.length<=k+m->k<=l.length->
  (∃i:Nat,∀k1 k2,eW c F k1 k2 (m+1) [v,.str x,.int .i64 (l.length:Int),.int .i64 (k:Int)] s=k1 [.int .i64 (i:Int)] s)\/
    ∀k1 k2,eW c F k1 k2 (m+1) [v,.str x,.int .i64 (l.length:Int),.int .i64 (k:Int)] s=k2 [] s:=by
 intro m;induction m with
 |zero=>
  intro k h1 h2;obtain rfl:k=l.length:=by omega
  right;intro k1 k2;rw[fO];simp
 |succ m ih=>
  intro k h1 h2;by_cases hk:k<l.length
  . obtain⟨b,o,cs,a1,a2,a3,a4⟩:=h.at (R:=AV×St) (c:=c) (FQ l) (by decide) (i:=k) (by simpa using hk);have g0:cs[o]? =some (.str l[k]):=(by simpa using a4 0 (.str l[k]) (by simp));have w:av .i64 ((k:Int)+1)=((k+1:Nat):Int):=wrap64 (by omega) (by omega);by_cases he:x=l[k]
    .   left;refine⟨k,λk1 k2=> ?_⟩;rw[fO];simp[hk,a1,a3,g0,he]
    .   rcases ih (k+1) (by omega) (by omega)with⟨i,hi⟩|hi
        . left;refine⟨i,λk1 k2=> ?_⟩;rw[<-hi k1 k2,fO];simp[hk,a1,a3,g0,he,w]
        . right;intro k1 k2;rw[<-hi k1 k2,fO];simp[hk,a1,a3,g0,he,w]
  . obtain rfl:k=l.length:=(by omega);right;intro k1 k2;rw[fO];simp
theorem ait(hc:Sem c){s:St}{v:AV}{l:List (List Nat)}(h:QS 1 s v (l.map qj))(hl:l.length<=1000)(x:List Nat):∃b,c 135 [v,.str x] s=some (.bool b,s):=by
 have ln:=λ(K:AV->St->Option (AV×St))(s1:St)=>h.lenB (c:=c) K s1
 simp only[Za4]at ln;have ix:∃i:Int,c 188 [v,.str x] s=some (.int .i64 i,s):=by
  rcases an7 (c:=c) h hl x (l.length+1) l.length 0 (by omega) (by omega)with⟨i,hi⟩|hi
  . refine⟨i,?_⟩;rw[tC hc (l.length+1) (r:=(.int .i64 (i:Int),s)),aE (Plain.int _ _) (aW.refl s)];rw[uN];simp only[az,ln];rw[show(0:Int)=((0:Nat):Int)from rfl,hi];simp
  . refine⟨-1,?_⟩;rw[tC hc (l.length+1) (r:=(.int .i64 (-1),s)),aE (Plain.int _ _) (aW.refl s)];rw[uN];simp only[az,ln];rw[show(0:Int)=((0:Nat):Int)from rfl,hi];simp
 obtain⟨i,hi⟩:=ix;refine⟨decide (0<=i),?_⟩;rw[AN hc 1 (r:=(.bool (decide (0<=i)),s)),aE (Plain.bool _) (aW.refl s)];rw[Cv];simp[hi]
theorem an8{s:St}{v:AV}{l:List (List Nat)}(h:QS 1 s v (l.map qj))(hl:l.length<=1000){g:FuncId}{u:AV}(H:∀w,∃b,c g [.str w,u] s=some (.bool b,s))(F:Nat):∀(m k:Nat),l.length<=k+m->k<=l.length->
  (∃i:Nat,i<l.length/\∀k1 k2,dM c F k1 k2 (m+1) [v,.func g [] [u],.int .i64 (l.length:Int),.int .i64 (k:Int)] s=k1 [.int .i64 (i:Int)] s)\/
    ∀k1 k2,dM c F k1 k2 (m+1) [v,.func g [] [u],.int .i64 (l.length:Int),.int .i64 (k:Int)] s=k2 [] s:=by
 intro m;induction m with
 |zero=>
  intro k h1 h2;obtain rfl:k=l.length:=by omega
  right;intro k1 k2;rw[eE];simp
 |succ m ih=>
  intro k h1 h2;by_cases hk:k<l.length
  . obtain⟨b,o,cs,a1,a2,a3,a4⟩:=h.at (R:=AV×St) (c:=c) (FQ l) (by decide) (i:=k) (by simpa using hk);have g0:cs[o]? =some (.str l[k]):=(by simpa using a4 0 (.str l[k]) (by simp));have w:av .i64 ((k:Int)+1)=((k+1:Nat):Int):=wrap64 (by omega) (by omega);obtain⟨bb,hb⟩:=H l[k];cases bb with
    |   true=>
        left;refine⟨k,hk,λk1 k2=> ?_⟩;rw[eE];simp[hk,a1,a3,g0,iU,hb]
    |   false=>
        rcases ih (k+1) (by omega) (by omega)with⟨i,sP,hi⟩|hi
        . left;refine⟨i,sP,λk1 k2=> ?_⟩;rw[<-hi k1 k2,eE];simp[hk,a1,a3,g0,iU,hb,w]
        . right;intro k1 k2;rw[<-hi k1 k2,eE];simp[hk,a1,a3,g0,iU,hb,w]
  . obtain rfl:k=l.length:=(by omega);right;intro k1 k2;rw[eE];simp
theorem alU(hc:Sem c){s:St}{v:AV}{l:List (List Nat)}(h:QS 1 s v (l.map qj))(hl:l.length<=1000){g:FuncId}{u:AV}(H:∀w,∃b,c g [.str w,u] s=some (.bool b,s)):
   (∃i:Nat,i<l.length/\c 187 [v,.func g [] [u]] s=some (.int .i64 (i:Int),s))\/c 187 [v,.func g [] [u]] s=some (.int .i64 (-1),s):=by
 have ln:=λ(K:AV->St->Option (AV×St))(s1:St)=>h.lenB (c:=c) K s1
 simp only[Za4]at ln;rcases an8 (c:=c) h hl H (l.length+1) l.length 0 (by omega) (by omega)with⟨i,sP,hi⟩|hi
 . left;refine⟨i,sP,?_⟩;rw[pU hc (l.length+1) (r:=(.int .i64 (i:Int),s)),aE (Plain.int _ _) (aW.refl s)];rw[qR];simp only[az,ln];rw[show(0:Int)=((0:Nat):Int)from rfl,hi];simp
 . right;rw[pU hc (l.length+1) (r:=(.int .i64 (-1),s)),aE (Plain.int _ _) (aW.refl s)];rw[qR];simp only[az,ln];rw[show(0:Int)=((0:Nat):Int)from rfl,hi];simp
structure Aside(s t:St)(v:AV):Prop where
 wf:Wf t
 next:t.next=s.next
 keep:∀p x,aL v≠some p->s.heap.get p=some x->t.heap.get p=some x
theorem aqz{s:St}{v:AV}{n:Nat}(hn:n<=1000){g:FuncId}{u:AV}(H:∀t,Aside s t v->∀w,∃b,c g [.str w,u] t=some (.bool b,t))(F:Nat):∀(m j i f:Nat)(t:St)(l:List (List Nat)),m<f->j+m=n->i<j->QS 1 t v (l.map qj)->l.length=n->Aside s t v->
  ∃(i':Nat) (t':St) (l':List (List Nat)),i'<=n/\QS 1 t' v (l'.map qj)/\l'.length=n/\Aside s t' v/\∀k2,eR c F k2 f [v,.func g [] [u],.int .i64 (i:Int),.int .i64 (j:Int)] t=k2 [v,.int .i64 (i':Int)] t':=by
 intro m;induction m with
 |zero=>
  intro j i f t l hf hj hi h hl A;obtain⟨f,rfl⟩:∃g,f=g+1:=⟨f - 1,by omega⟩
  obtain rfl:j=n:=by omega
  refine⟨i,t,l,by omega,h,hl,A,λk2=> ?_⟩;have ln:=λ(K:AV->St->Option (AV×St))(s1:St)=>h.lenB (c:=c) K s1
  simp only[Za4,hl]at ln;rw[jJ];simp[ln]
 |succ m ih=>
  intro j i f t l hf hj hi h hl A;obtain⟨f,rfl⟩:∃g,f=g+1:=⟨f - 1,by omega⟩
  have hk:j<l.length:=by omega
  have hjn:j<n:=by omega
  have ln:=λ(K:AV->St->Option (AV×St))(s1:St)=>h.lenB (c:=c) K s1
  simp only[Za4,hl]at ln;obtain⟨b,o,cs,a1,a2,a3,a4⟩:=h.at (R:=AV×St) (c:=c) (FQ l) (by decide) (i:=j) (by simpa using hk);have g0:cs[o]? =some (.str l[j]):=by simpa using a4 0 (.str l[j]) (by simp)
  have w:av .i64 ((j:Int)+1)=((j+1:Nat):Int):=wrap64 (by omega) (by omega);have w2:av .i64 ((i:Int)+1)=((i+1:Nat):Int):=wrap64 (by omega) (by omega);obtain⟨bb,hb⟩:=H t A l[j];cases bb with
  |true=>
   obtain⟨i',t',l',b1,b2,b3,b4,b5⟩:=ih (j+1) i f t l (by omega) (by omega) (by omega) h hl A;refine⟨i',t',l',b1,b2,b3,b4,λk2=> ?_⟩;rw[<-b5 k2,jJ];simp[iH,ln,hjn,a1,a3,g0,iU,hb,w]
  |false=>
   obtain⟨b',o',nv,e1,_,e3,e4,e5,e6,e7,_⟩:=h.set (R:=AV×St) (c:=c) (FQ l) (by decide) (i:=i) (by simp;omega);have bD:=λ(K:AV->St->Option (AV×St))=>cg c K t 1 b' o' (.str l[j]) nv e4 rfl e5 rfl
   have hs:=bG t b' (.cells (aX nv o' [.str l[j]]) 0);have Q:=e7 0 (.str l[j]) (bg t b' (.cells (aX nv o' [.str l[j]]) 0)) (by decide) (by rw[Zf8];exact hs);have er:(l.map qj).set i (((l.map qj)[i]'(by simp;omega)).set 0 (.str l[j]))=(l.set i l[j]).map qj:=(by rw[Zm9];simp);rw[er]at Q;have A2:Aside s (bg t b' (.cells (aX nv o' [.str l[j]]) 0)) v:=⟨jY A.wf (A.wf _ _ e4),by rw[dK];exact A.next,λp x hp hx=>by rw[aJ (λe=>hp (by rw[e3,e]))];exact A.keep p x hp hx⟩
   obtain⟨i',t',l',b1,b2,b3,b4,b5⟩:=ih (j+1) (i+1) f _ _ (by omega) (by omega) (by omega) Q (by simpa using hl) A2;refine⟨i',t',l',b1,b2,b3,b4,λk2=> ?_⟩;rw[<-b5 k2,jJ];have ce:(AV.str l[j]).cells=[.str l[j]]:=rfl;rw[ce]at bD;simp[iH,ln,hjn,a1,a3,g0,iU,hb,e1,bD,w,w2]
theorem an9(hc:Sem c){s:St}{v:AV}{l:List (List Nat)}(h:QS 1 s v (l.map qj))(hl:l.length<=1000)(hw:Wf s){g:FuncId}{u:AV}(H:∀t,Aside s t v->∀w,∃b,c g [.str w,u] t=some (.bool b,t)):
   ∃(w:AV) (s':St) (n:Nat),c 133 [v,.func g [] [u]] s=some (w,s')/\Aside s s' v/\∀{R:Type}(c:aj)(K:AV->St->Option R)(s1:St),aq c (.lenB .l) [w] s1 K=K (.int .i64 (n:Int)) s1:=by
 have A:Aside s s v:=⟨hw,rfl,λ_ _ _ h=>h⟩
 rcases alU hc h hl (H s A)with⟨i,hi,hx⟩|hx
 . obtain⟨i',t',l',b1,b2,b3,b4,b5⟩:=aqz (c:=c) (n:=l.length) hl H (l.length+1) (l.length - (i+1)) (i+1) i (l.length+1) s l (by omega) (by omega) (by omega) h rfl A;obtain⟨v1,d1,d2,d3⟩:=b2.low (FQ l') (i:=i') (by simp;omega);obtain⟨v2,f1,f2⟩:=b2.high (i:=i') (by simp;omega);obtain⟨s6,g1,g2,g3,g4⟩:=d2.clear (z:=[.str []]) b4.wf rfl (λn=>by rw[sZ];induction n with|zero=>rfl|succ n ih=>rw[Zl5];simp[aQ,AV.one,ih]);have w:av .i64 ((i:Int)+1)=((i+1:Nat):Int):=wrap64 (by omega) (by omega);have A6:Aside s s6 v:=⟨g2,by rw[g3,b4.next],λp x hp hx=>g4 p x (λe=>hp (d3 p e)) (b4.keep p x hp hx)⟩
   have run:=pg hc (l.length+1) (x0:=v) (x1:= .func g [] [u]) (s:=s) (r:=(v2,s6)) (by
     rw[qt];simp only[az,cC,hx,bS,ez,eV,w];have:decide ((i:Int)= -1)=false:=Za1 (by omega);rw[this,di,b5];simp[d1,g1,f1])
   rcases YH s (v2,s6)with e|e
   . exact⟨v2,s6,i',by rw[run,e],A6,f2⟩
   . exact⟨v2,s,i',by rw[run,e],A,f2⟩
 . have run:=pg hc 1 (x0:=v) (x1:= .func g [] [u]) (s:=s) (r:=(v,s)) (by
     rw[qt];simp[hx])
   have ln:=λ{R:Type}(c:aj)(K:AV->St->Option R)(s1:St)=>h.lenB (c:=c) K s1
   simp only[Za4]at ln;rcases YH s (v,s)with e|e
   . exact⟨v,s,l.length,by rw[run,e],A,λc K s1=>ln c K s1⟩
   . exact⟨v,s,l.length,by rw[run,e],A,λc K s1=>ln c K s1⟩
theorem aoa(hc:Sem c){s0 s:St}{bp mp:Pos}{gs:List aT}{ts:List Ty}{gk tk:Option Pos}(B:eD s0 s bp mp gs ts gk tk)(a b:List Nat):
   ∃(w:AV) (s':St) (n:Nat),c 69 [.ptr bp 0,.str a,.str b] s=some (w,s')/\Grew s s'/\∀{R:Type}(c:aj)(K:AV->St->Option R)(s1:St),aq c (.lenB .l) [w] s1 K=K (.int .i64 (n:Int)) s1:=by
 have hw:=B.wf;obtain⟨g1,v1,ok1,s1,f1,M1,l1⟩:=ais hc B a;have w1:=M1.ai.wf;have G2:Grew s1 (ah s1 (.cells (g1.ax v1) 0)):=Grew.ah w1 _;obtain⟨g2,v2,ok2,s3,f2,M2,l2⟩:=ais hc (B.ai (M1.ai.trans G2)) b;have w3:=M2.ai.wf;have G4:Grew s3 (ah s3 (.cells (g2.ax v2) 0)):=Grew.ah w3 _;have Ga:Grew s (ah s3 (.cells (g2.ax v2) 0)):=((M1.ai.trans G2).trans M2.ai).trans G4;have one1:=g1.Ln M1.cells.2;have one2:=g2.Ln M2.cells.2;have al:∀(g:aT)(v:AV)(t:St)(K:AV->St->Option (AV×St)),aQ (g.ax v)=true->aq c (.alloc [(.str []),(.str []),(.str []),(.int .i64 0),(.int .i64 0),(.str []),(.bool false),(.bool false),.af]) [] t (λx7 s7=>aq c (.store 9) [x7,.agg (g.ax v)] s7 (λ_ s8=>K x7 s8))=K (.ptr t.next 0) (ah t (.cells (g.ax v) 0)):=λg v t K ho=>by rw[dh];exact cw c (λ_ s8=>K (.ptr t.next 0) s8) t 9 (.agg (g.ax v)) _ rfl rfl ho
 have al1:=λK=>al g1 v1 s1 K one1
 have al2:=λK=>al g2 v2 s3 K one2
 have pre:∀r,(cnd (.bool (!ok1|| !ok2)) (some (.af,ah s3 (.cells (g2.ax v2) 0))) (aq c (.fieldA 8) [.ptr s1.next 0] (ah s3 (.cells (g2.ax v2) 0)) λx29 s26=>aq c (.load none) [x29] s26 λx30 s27=>aq c (.mkFunc 134 0) [.ptr s3.next 0] s27 λx31 s28=>aq c (.callF 133) [x30,x31] s28 λx32 s29=>aq c .move [x32] s29 λx6 s30=>some (x6,s30))=some r)->
     ur c 1 (.ptr bp 0) (.str a) (.str b) s=some r:=λr h=>by
   rw[U7, <-h];simp only[az,cC,f1,bS,jM,Za5,Zc0,aV,al1,f2,al2];cases ok1<;>cases ok2<;>simp
 by_cases cG:(!ok1|| !ok2)=true
 . have run:=Cf hc 1 (x0:= .ptr bp 0) (x1:= .str a) (x2:= .str b) (s:=s) (r:=(.af,ah s3 (.cells (g2.ax v2) 0))) (pre _ (by rw[cG,dG]));rcases YH s (AV.af,ah s3 (.cells (g2.ax v2) 0))with e|e
   . exact⟨.af,_,0,by rw[run,e],Ga,λc K s1=>aR c K (λH n=>rfl) s1⟩
   . exact⟨.af,_,0,by rw[run,e],Grew.refl hw,λc K s1=>aR c K (λH n=>rfl) s1⟩
 . have cG:(!ok1|| !ok2)=false:=(by simpa using cG);have Q1:QS 1 (ah s3 (.cells (g2.ax v2) 0)) v1 (g1.tg.map qj):=M1.own.mono λp x _ hx=>((G2.trans M2.ai).trans G4).get hx
   have lt1:∀p,aL v1=some p->p.toNat<s1.next.toNat:=λp hp=>M1.own.lt w1 hp
   have n3:s1.next.toNat<s3.next.toNat:=(by have:=M2.ai.next;rw[bM,Pos.aF]at this;omega);have hq:(ah s3 (.cells (g2.ax v2) 0)).heap.get s3.next=some (.cells (g2.ax v2) 0):=aA _ _;have hq1:(ah s3 (.cells (g2.ax v2) 0)).heap.get s1.next=some (.cells (g1.ax v1) 0):=(M2.ai.trans G4).get (aA _ _);have H:∀t,Aside (ah s3 (.cells (g2.ax v2) 0)) t v1->∀w,∃b,c 134 [.str w,.ptr s3.next 0] t=some (.bool b,t):=λt A w=>by
     have hq':=A.keep s3.next _ (λe=>by have:=lt1 _ e;omega) hq;have Q2:QS 1 t v2 (g2.tg.map qj):=M2.own.mono λp x hp hx=>A.keep p x (λe=>by have:=lt1 _ e;have:=M2.new p hp;rw[bM,Pos.aF]at this;omega) (G4.get hx)
     obtain⟨bb,hb⟩:=ait hc Q2 (by omega) w;refine⟨!bb,?_⟩;rw[MF hc 1 (r:=(.bool (!bb),t)),aE (Plain.bool _) (aW.refl t)];rw[Qo];have g8:(g2.ax v2)[8]? =some v2:=rfl;simp[hq',g8,hb]
   obtain⟨w,s5,n,d1,d2,d3⟩:=an9 hc Q1 (by omega) (bF w3) H;have g8:(g1.ax v1)[8]? =some v1:=rfl;have run:=Cf hc 1 (x0:= .ptr bp 0) (x1:= .str a) (x2:= .str b) (s:=s) (r:=(w,s5)) (pre _ (by
     rw[cG,di];simp[hq1,g8,d1]))
   have G5:Grew s s5:=⟨d2.wf,λp x hx=>d2.keep p x (λe=>by have:=M1.new p e;have:=hw _ _ hx;omega) (Ga.get hx),by rw[d2.next];exact Ga.next⟩
   rcases YH s (w,s5)with e|e
   . exact⟨w,s5,n,by rw[run,e],G5,d3⟩
   . exact⟨w,s,n,by rw[run,e],Grew.refl hw,d3⟩
def Xl(I:List (AV×List (List AV)))(ws:List AV)(rs:List (List Int)):Prop:=∀(i:Nat)(w:AV)(r:List Int),ws[i]? =some w->rs[i]? =some r->(w,r.map bV)∈I
theorem Xl.more{I:List (AV×List (List AV))}{ws:List AV}{rs:List (List Int)}(h:Xl I ws rs)(e:AV×List (List AV)):Xl (e::I) ws rs:=λi w r h1 h2=>Za9 _ (h i w r h1 h2)
theorem Xl.snoc{I:List (AV×List (List AV))}{ws:List AV}{rs:List (List Int)}(h:Xl I ws rs)(hl:ws.length=rs.length){w:AV}{r:List Int}(hm:(w,r.map bV)∈I):Xl I (ws++[w]) (rs++[r]):=λi w' r' h1 h2=>by
 by_cases hi:i<ws.length
 . rw[Zc3 hi]at h1;rw[Zc3 (by omega)]at h2;exact h i w' r' h1 h2
 . rw[Zc2 (by omega)]at h1;rw[Zc2 (by omega)]at h2;by_cases h0:i - ws.length=0
   . rw[h0]at h1;rw[show i - rs.length=0 by omega]at h2;simp at h1 h2;subst h1;subst h2;exact hm
   . rw[Zc1 (by simp;omega)]at h1;cases h1
theorem Wn(t:aD):0<=bI t:=by
 unfold bI;repeat' split
 all_goals omega
def cJ:List aD->Nat->Nat
 |[],_=>0
 |t::ts,i=>if i<(bI t).toNat then 0 else cJ ts (i - (bI t).toNat)+1
def YI(ts:List aD)(i:Nat):Nat:=(aZ (ts.take (cJ ts i))).toNat
def N9(ts:List aD)(i:Nat):Nat:=match ts[cJ ts i]? with
 |some t=>(bI t).toNat
 |none=>0
def qL(ts:List aD)(i:Nat):List Int:=l9 (YI ts i) (N9 ts i) (Xg ts (i:Int))
def zV(ts:List aD)(i:Nat):List Int:=l9 (YI ts i) (N9 ts i) (Xh ts (i:Int))
theorem aiu:∀(ts:List aD)(k:Nat)(hk:k<ts.length)(i:Nat),(i:Int)<bI ts[k]->cJ ts ((aZ (ts.take k)).toNat+i)=k
 |t::ts,0,_,i,h=>by
  have h:(i:Int)<bI t:=h;rw[show(aZ ((t::ts).take 0)).toNat=0 from rfl,cJ,Zb3 (by omega)]
 |t::ts,k+1,hk,i,h=>by
  have hk:k<ts.length:=by simpa using hk
  have ih:=aiu ts k hk i h;have n1:0<=bI t:=(Wn t)
  have n2:=(pH (ts.take k)).1;have e:aZ ((t::ts).take (k+1))=bI t+aZ (ts.take k):=by simp[aZ]
  rw[e,cJ,Za7 (by omega),show(bI t+aZ (ts.take k)).toNat+i - (bI t).toNat=(aZ (ts.take k)).toNat+i by omega,ih]
theorem aqA{ts:List aD}{k:Nat}(hk:k<ts.length){first i:Nat}(hf:(first:Int)=aZ (ts.take k))(hi:(i:Int)<bI ts[k]):cJ ts (first+i)=k/\YI ts (first+i)=first/\(N9 ts (first+i):Int)=bI ts[k]:=by have e:=aiu ts k hk i hi;rw[show(aZ (ts.take k)).toNat=first by omega]at e;refine⟨e,by unfold YI;rw[e];omega,?_⟩;unfold N9;rw[e,H0 hk];have:=Wn ts[k];simp only;omega
def Bh(ts:List aD)(m:Nat):List AV:=(List.range m).map λi=>AV.int .i64 ((cJ ts i:Nat):Int)
def Bi(ts:List aD)(m:Nat):List AV:=(List.range m).map λi=>AV.int .i64 (Im ts ((i:Nat):Int))
def Bj(ts:List aD)(m:Nat):List AV:=(List.range m).map λi=>AV.bool (N7 ts ((i:Nat):Int))
def xP(ts:List aD)(m:Nat):List (List Int):=(List.range m).map (qL ts)
def xQ(ts:List aD)(m:Nat):List (List Int):=(List.range m).map (zV ts)
structure SW(ts:List aD)(s0 s:St)(jb:Pos)(H Ls:List AV)(R:List (List AV))(I:List (AV×List (List AV)))(m:Nat):Prop where
 ow:Ow s0 s jb Ls R I
 cell:s.heap.get jb=some (.cells (H++Ls) 0)
 shp:∃L0 L1 L2 L3 L4 wB wA,Ls=[L0,L1,L2,L3,L4,.af,.af,.af]/\R=[Bh ts m,Bi ts m,Bj ts m,wB,wA,[],[],[]]/\wB.length=m/\wA.length=m/\Xl I wB (xP ts m)/\Xl I wA (xQ ts m)
abbrev Bd(N:Nat)(r:List Int):Prop:=r.length<=1000/\∀k∈r,0<=k/\k<(N:Int)
theorem ae9{first n N:Nat}(hn:n<=1000)(hN:first+n<=N)(so:Int->Bool):Bd N (l9 first n so):=by refine⟨Zb2 (Kk _ _ _) hn,λk hk=> ?_⟩;unfold l9 at hk;simp only[Zm1,Zd0,Zh3]at hk;obtain⟨⟨i,hi,rfl⟩,_⟩:=hk;omega
theorem Qp{H Ls:List AV}(hH:H.length=6)(i:Nat):(H++Ls)[6+i]? =Ls[i]? :=by rw[Zc2 (by omega)];congr 1;omega
theorem ary{a b k:Nat}(h:a+b=k)(hk:k<=1000000):av .i64 ((a:Int)+(b:Int))=(k:Int):=by rw[wrap64 (by omega) (by omega)];omega
theorem acV{a k:Nat}(h:a+1=k)(hk:k<=1000000):av .i64 ((a:Int)+1)=(k:Int):=by rw[wrap64 (by omega) (by omega)];omega
theorem Sf(ts:List aD)(m:Nat):(Bh ts m).length=m/\(Bi ts m).length=m/\(Bj ts m).length=m:=by simp[Bh,Bi,Bj]
theorem Nh(ts:List aD)(m:Nat):(xP ts m).length=m/\(xQ ts m).length=m:=by simp[xP,xQ]
theorem alV(ts:List aD)(m:Nat):Bh ts (m+1)=Bh ts m++[AV.int .i64 ((cJ ts m:Nat):Int)]:=by simp[Bh,Zf9]
theorem alW(ts:List aD)(m:Nat):Bi ts (m+1)=Bi ts m++[AV.int .i64 (Im ts ((m:Nat):Int))]:=by simp[Bi,Zf9]
theorem alX(ts:List aD)(m:Nat):Bj ts (m+1)=Bj ts m++[AV.bool (N7 ts ((m:Nat):Int))]:=by simp[Bj,Zf9]
theorem alY(ts:List aD)(m:Nat):xP ts (m+1)=xP ts m++[qL ts m]:=by simp[xP,Zf9]
theorem alZ(ts:List aD)(m:Nat):xQ ts (m+1)=xQ ts m++[zV ts m]:=by simp[xQ,Zf9]
set_option maxHeartbeats 1000000 in
theorem atQ(hc:Sem c)(p:cm)(cG:∀t∈p.ts,t.Ok){pb jb:Pos}{H:List AV}(hH:H.length=6){s0:St}(Np:s0.heap.get pb=some (.cells p.cells 0))(Nx:pb≠jb){first n N k:Nat}(hk:k<p.ts.length)(hfi:(first:Int)=aZ (p.ts.take k))(gR:(n:Int)=bI p.ts[k])(hN:first+n<=N)(hN2:N<=10000)(hn:n<=1000)(F:Nat):
  ∀(m i f:Nat)(s:St)(Ls:List AV)(R:List (List AV))(I:List (AV×List (List AV)))(sb:Pos),m<f->i+m=n->SW p.ts s0 s jb H Ls R I (first+i)->
   s.heap.get sb=some (.cells [.int .i64 ((first+i:Nat):Int)] 0)->sb≠jb->(∀L∈Ls,aL L≠some sb)->
   ∃    s' Ls' R' I',SW p.ts s0 s' jb H Ls' R' I' (first+n)/\
        ∀(x40 Qn:AV)(k4),wW c F k4 f [.ptr pb 0,.ptr jb 0,.int .i64 (k:Int),.int .i64 (first:Int),.int .i64 (n:Int),.ptr sb 0,x40,Qn] s=k4 [.ptr pb 0,.ptr jb 0,x40,Qn] s':=by
 intro m;induction m with
 |zero=>
  intro i f s Ls R I sb hf hi hS al0 hsj aea;obtain⟨f,rfl⟩:∃g,f=g+1:=⟨f - 1,by omega⟩
  obtain rfl:i=n:=by omega
  refine⟨s,Ls,R,I,hS,λx40 Qn k4=> ?_⟩;have w:av .i64 ((first:Int)+(i:Int))=((first+i:Nat):Int):=ary rfl (by omega);rw[TQ];simp[al0,w]
 |succ m ih=>
  intro i f s Ls R I sb hf hi hS al0 hsj aea;obtain⟨f,rfl⟩:∃g,f=g+1:=⟨f - 1,by omega⟩
  obtain⟨L0,L1,L2,L3,L4,wB,wA,rfl,rfl,e3,e4,PB,PA⟩:=hS.shp;obtain⟨T1,T2,T3⟩:=aqA hk hfi (i:=i) (by omega);have T3:N9 p.ts (first+i)=n:=by omega
  have LT:=Sf p.ts (first+i);have eB:qL p.ts (first+i)=l9 first n (Xg p.ts ((first+i:Nat):Int)):=by unfold qL;rw[T2,T3]
  have eA:zV p.ts (first+i)=l9 first n (Xh p.ts ((first+i:Nat):Int)):=by unfold zV;rw[T2,T3]
  have aS:(((first+i:Nat):Int))<((first+n:Nat):Int):=by omega
  have ha:((first+i:Nat):Int)<=4611686018427387904:=by omega
  obtain⟨t1,s1,V0,a1,a2,O1,C1,K1⟩:=hS.ow.put hS.cell (c:=c) (Q:=AV×St) 8 (i:=0) (L:=L0) (r:=Bh p.ts (first+i)) rfl rfl (x:= .int .i64 (k:Int)) rfl rfl (by omega) (by omega) (o:=6) (by omega);obtain⟨b1,F1⟩:=K1 sb _ hsj aea al0;have g1:(H++[L0,L1,L2,L3,L4,.af,.af,.af])[6]? =some L0:=Qp hH 0;have q1:=O1.keep pb _ Nx Np;have lv:=aqt hc p.tz p.ts cG _ ha s1 O1.wf;obtain⟨t2,s2,V1,c1,c2,O2,C2,K2⟩:=O1.put C1 (c:=c) (Q:=AV×St) 8 (i:=1) (L:=L1) (r:=Bi p.ts (first+i)) rfl rfl (x:= .int .i64 (Im p.ts ((first+i:Nat):Int))) rfl rfl (by omega) (by omega) (o:=7) (by omega);obtain⟨b2,F2⟩:=K2 sb _ hsj F1 b1;have n1:=λ(K:AV->Option (AV×St))=>kY K (p:=jb) (o:=7) (h:=s1.heap) (h2:=s1.heap) (v:=L1) (by rw[C1];exact Qp hH 1) (by rw[C1];exact Qp hH 1) (O1.own 1 L1 _ rfl rfl).beq
  have q2:=O2.keep pb _ Nx Np;have op:=asF hc p.tz p.ts cG _ ha s2 O2.wf;obtain⟨t3,s3,V2,d1,d2,O3,C3,K3⟩:=O2.put C2 (c:=c) (Q:=AV×St) 1 (i:=2) (L:=L2) (r:=Bj p.ts (first+i)) rfl rfl (x:= .bool (N7 p.ts ((first+i:Nat):Int))) rfl rfl (by omega) (by omega) (o:=8) (by omega);obtain⟨b3,F3⟩:=K3 sb _ hsj F2 b2;have n2:=λ(K:AV->Option (AV×St))=>kY K (p:=jb) (o:=8) (h:=s2.heap) (h2:=s2.heap) (v:=L2) (by rw[C2];exact Qp hH 2) (by rw[C2];exact Qp hH 2) (O2.own 2 L2 _ rfl rfl).beq
  have q3:=O3.keep pb _ Nx Np;obtain⟨v4,u4,h4,M4⟩:=an2 hc p.tz p.ts cG (pb:=pb) (sb:=sb) (cs:=p.cells) rfl ((first+i:Nat):Int) (by omega) (first:=(first:Int)) (by omega) (n:=n) (by omega) s3 O3.wf q3 b3;have O4':=O3.more M4;have C4':=M4.ai.get C3;have b4':=M4.ai.get b3;obtain⟨vc4,vo4⟩:=M4.own.cells;obtain⟨t4,s4,V3,f1,f2,O4,C4,K4⟩:=O4'.put C4' (c:=c) (Q:=AV×St) 24 (i:=3) (L:=L3) (r:=wB) rfl rfl (x:=v4) vc4 vo4 (by omega) (by omega) (o:=9) (by omega);obtain⟨b4,F4⟩:=K4 sb _ hsj F3 b4';have n3:=λ(K:AV->Option (AV×St))=>kY K (p:=jb) (o:=9) (h:=u4.heap) (h2:=s3.heap) (v:=L3) (by rw[C4'];exact Qp hH 3) (by rw[C3];exact Qp hH 3) (O3.own 3 L3 wB rfl rfl).beq
  have q4:=O4.keep pb _ Nx Np;obtain⟨v5,u5,h5,M5⟩:=an3 hc p.tz p.ts cG (pb:=pb) (sb:=sb) (cs:=p.cells) rfl ((first+i:Nat):Int) (by omega) (first:=(first:Int)) (by omega) (n:=n) (by omega) s4 O4.wf q4 b4;have O5':=O4.more M5;have C5':=M5.ai.get C4;have b5':=M5.ai.get b4;obtain⟨vc5,vo5⟩:=M5.own.cells;obtain⟨t5,s5,V4,g1',g2',O5,C5,K5⟩:=O5'.put C5' (c:=c) (Q:=AV×St) 24 (i:=4) (L:=L4) (r:=wA) rfl rfl (x:=v5) vc5 vo5 (by omega) (by omega) (o:=10) (by omega);obtain⟨b5,F5⟩:=K5 sb _ hsj F4 b5';have n4:=λ(K:AV->Option (AV×St))=>kY K (p:=jb) (o:=10) (h:=u5.heap) (h2:=s4.heap) (v:=L4) (by rw[C5'];exact Qp hH 4) (by rw[C4];exact Qp hH 4) (O4.own 4 L4 wA rfl rfl).beq
  have hw5:=O5.wf;have G6:Grew s5 (ah s5 (.cells [.int .i64 ((first+(i+1):Nat):Int)] 0)):=Grew.ah hw5 _;have O6:=O5.ai G6;have C6:=G6.get C5;have lB:=Nh p.ts (first+i);have PB':=((PB.more (v4,(qL p.ts (first+i)).map bV)).snoc (by rw[lB.1];exact e3) (w:=v4) (Zd2)).more (v5,(zV p.ts (first+i)).map bV);have PA':=((PA.more (v4,(qL p.ts (first+i)).map bV)).more (v5,(zV p.ts (first+i)).map bV)).snoc (by rw[lB.2];exact e4) (w:=v5) (Zd2);rw[<-alY]at PB';rw[<-alZ]at PA';rw[eB,eA]at PB' PA'
  obtain⟨s',Ls',R',I',z1,z5⟩:=ih (i+1) f _ _ _ _ s5.next (by omega) (by omega) ⟨O6,C6,V0,V1,V2,V3,V4,_,_,rfl,by rw[show first+(i+1)=(first+i)+1 from rfl,alV,alW,alX,T1];rfl,by simp[e3];omega,by simp[e4];omega,PB',PA'⟩
   (aA _ _) (λe=>by have:=hw5 _ _ C5;rw[<-e]at this;omega) (λL hL e=>by have:=O5.ltL hL e;omega)
  refine⟨s',Ls',R',I',z1,λx40 Qn k4=> ?_⟩;rw[<-z5 x40 Qn k4,TQ];have w:av .i64 ((first:Int)+(n:Int))=((first+n:Nat):Int):=ary rfl (by omega);have w1:av .i64 (((first+i:Nat):Int)+1)=((first+(i+1):Nat):Int):=acV rfl (by clear w;omega);have r1x:=λ(K:AV->St->Option (AV×St))=>FJ (c:=c) (z:=[.int .i64 0]) (x:= .int .i64 (k:Int)) rfl rfl s K
  have r2x:=λ(K:AV->AB->Option (AV×St))=>FH (z:=[.int .i64 0]) (x:= .int .i64 (Im p.ts ((first+i:Nat):Int))) rfl rfl s1 K
  have r3x:=λ(K:AV->AB->Option (AV×St))=>FH (z:=[.bool false]) (x:= .bool (N7 p.ts ((first+i:Nat):Int))) rfl rfl s2 K
  have r4x:=λ(K:AV->AB->Option (AV×St))=>FH (z:=[.af]) (x:=v4) rfl vc4 u4 K
  have r5x:=λ(K:AV->AB->Option (AV×St))=>FH (z:=[.af]) (x:=v5) rfl vc5 u5 K
  have st7:∀(K:AV->St->Option (AV×St)),aq c (.store 1) [.ptr s5.next 0,.int .i64 ((first+i:Nat):Int)] (ah s5 (.cells [.int .i64 0] 0)) K=K .undef (ah s5 (.cells [.int .i64 ((first+i:Nat):Int)] 0)):=λK=>cw c K s5 1 (.int .i64 ((first+i:Nat):Int)) [.int .i64 0] rfl rfl rfl
  have st8:∀(K:AV->St->Option (AV×St)),aq c (.store 1) [.ptr s5.next 0,.int .i64 ((first+(i+1):Nat):Int)] (ah s5 (.cells [.int .i64 ((first+i:Nat):Int)] 0)) K=K .undef (ah s5 (.cells [.int .i64 ((first+(i+1):Nat):Int)] 0)):=λK=>cw c K s5 1 (.int .i64 ((first+(i+1):Nat):Int)) [.int .i64 ((first+i:Nat):Int)] rfl rfl rfl
  simp only[aH,bh,aU,al0,aB,Za8,Za5,aV,az,eV,w,cY,Za0 aS,dG,bW,aO,Zb6,hS.cell,g1,r1x,a1,a2,
   br,kK,q1,b1,cm.c0,cC,lv,bS,dz,qC,Zi3,n1,r2x,c1,c2,
   q2,b2,op,n2,r3x,d1,d2,ZN,h4,n3,r4x,f1,f2,h5,n4,r5x,g1',g2',b5,dh,st7,aA,w1,st8]
theorem Wl(t:aD):0<=bI t/\bI t<=24:=by
 unfold bI;repeat' split
 all_goals omega
theorem aiv(ts:List aD):aZ ts<=24*ts.length:=by
 induction ts with
 |nil=>simp[aZ]
 |cons t ts ih=>
  have:=Wl t;simp only[aZ,Zd5,Zo8,Zc6]at ih ⊢;omega
theorem aob(a b:List aD):aZ (a++b)=aZ a+aZ b:=by simp[aZ]
theorem Sn{ts:List aD}{k:Nat}(hk:k<ts.length):aZ (ts.take (k+1))=aZ (ts.take k)+bI ts[k]/\aZ (ts.take (k+1))<=aZ ts:=by have e:=Zd4 hk;refine⟨by rw[e,Sz],?_⟩;have h:=aob (ts.take (k+1)) (ts.drop (k+1));rw[Zm2]at h;have:=(pH (ts.drop (k+1))).1;omega
theorem aiw:∀{ts:List aD}{i:Nat},(i:Int)<aZ ts->cJ ts i<ts.length
 |[],i,h=>by simp[aZ]at h;omega
 |t ::ts,i,h=>by
  have e:aZ (t::ts)=bI t+aZ ts:=by simp[aZ]
  have:=Wn t;unfold cJ;split
  . simp
  . have:=aiw (ts:=ts) (i:=i - (bI t).toNat) (by omega);simp;omega
theorem aoc{ts:List aD}{N:Nat}(hN:(N:Int)=aZ ts){i:Nat}(hi:i<N):YI ts i+N9 ts i<=N/\N9 ts i<=24:=by have h:=aiw (ts:=ts) (i:=i) (by omega);have u:=Sn h;have:=Wl ts[cJ ts i];have n0:=(pH (ts.take (cJ ts i))).1;unfold YI N9;rw[H0 h];simp only;omega
theorem aaZ{ts:List aD}{N:Nat}(hN:(N:Int)=aZ ts):(∀r∈xP ts N,Bd N r)/\∀r∈xQ ts N,Bd N r:=by
 constructor
 . intro r hr;unfold xP at hr;obtain⟨i,hi,rfl⟩:=Zd0.1 hr;have:=aoc hN (Zh3.1 hi);exact ae9 (by omega) this.1 _
 . intro r hr;unfold xQ at hr;obtain⟨i,hi,rfl⟩:=Zd0.1 hr;have:=aoc hN (Zh3.1 hi);exact ae9 (by omega) this.1 _
theorem atS(hc:Sem c)(p:cm)(cG:∀t∈p.ts,t.Ok)(hv:(bP p.ts).2=0)(h16:p.ts.length<=16){pb jb:Pos}{H:List AV}(hH:H.length=6){s0:St}(Np:s0.heap.get pb=some (.cells p.cells 0))(Nx:pb≠jb){N:Nat}(hN:(N:Int)=aZ p.ts)(F:Nat)(hF:1010<=F):
  ∀(m k f:Nat)(s:St)(Ls:List AV)(R:List (List AV))(I:List (AV×List (List AV)))(j:Nat),m<f->k+m=p.ts.length->SW p.ts s0 s jb H Ls R I j->(j:Int)=aZ (p.ts.take k)->
   ∃    s' Ls' R' I',SW p.ts s0 s' jb H Ls' R' I' N/\
        ∀(k2),AO c F k2 f [.ptr pb 0,.ptr jb 0,.int .i64 (p.ts.length:Int),.int .i64 (k:Int)] s=k2 [.ptr pb 0,.ptr jb 0] s':=by
 have hN2:N<=10000:=by have:=aiv p.ts;omega
 intro m;induction m with
 |zero=>
  intro k f s Ls R I j hf hk hS hl;obtain⟨f,rfl⟩:∃g,f=g+1:=⟨f - 1,by omega⟩
  obtain rfl:k=p.ts.length:=by omega
  rw[Zk1]at hl;obtain rfl:j=N:=by omega
  refine⟨s,Ls,R,I,hS,λk2=> ?_⟩;rw[TR];simp
 |succ m ih=>
  intro k f s Ls R I j hf hk hS hl;obtain⟨f,rfl⟩:∃g,f=g+1:=⟨f - 1,by omega⟩
  have fC:k<p.ts.length:=by omega
  obtain⟨u1,u2⟩:=Sn fC;have z24:=Wl p.ts[k];have hw:=hS.ow.wf;obtain⟨n,hn⟩:∃n:Nat,(n:Int)=bI p.ts[k]:=⟨(bI p.ts[k]).toNat,by omega⟩
  have atT:zq p.ts (k:Int)=((j:Nat):Int):=by rw[zq,Za7 (by omega),hl];simp
  have fi:=ahW hc p.tz p.ts cG (k:Int) s hw;rw[atT]at fi;have co:=an5 hc p.ts[k] (cG _ (Zb8 fC)) (Hf hv k fC) s hw;rw[<-hn]at co;have so:=λ(K:AV->St->Option (AV×St))=>an4 (c:=c) p.tz p.ts k fC K s
  have q0:=hS.ow.keep pb _ Nx Np;have G:=Grew.ah hw (.cells [.int .i64 ((j:Nat):Int)] 0);have S1:SW p.ts s0 (ah s (.cells [.int .i64 ((j:Nat):Int)] 0)) jb H Ls R I (j+0):=⟨hS.ow.ai G,G.get hS.cell,hS.shp⟩
  obtain⟨s1,Ls1,R1,I1,y1,y5⟩:=atQ hc p cG hH Np Nx (first:=j) (n:=n) (N:=N) (k:=k) fC hl hn (by omega) hN2 (by omega) F n 0 F _ Ls R I s.next (by omega) (by omega) S1 (aA _ _)
   (λe=>by have:=hw _ _ hS.cell;rw[<-e]at this;omega) (λL hL e=>by have:=hS.ow.ltL hL e;omega)
  obtain⟨s',Ls',R',I',z1,z5⟩:=ih (k+1) f s1 Ls1 R1 I1 (j+n) (by omega) (by omega) y1 (by omega);refine⟨s',Ls',R',I',z1,λk2=> ?_⟩;have aS:(k:Int)<(p.ts.length:Int):=by omega
  have w1:av .i64 ((k:Int)+1)=((k+1:Nat):Int):=acV rfl (by omega);have st7:∀(K:AV->St->Option (AV×St)),aq c (.store 1) [.ptr s.next 0,.int .i64 ((j:Nat):Int)] (ah s (.cells [.int .i64 0] 0)) K=K .undef (ah s (.cells [.int .i64 ((j:Nat):Int)] 0)):=λK=>cw c K s 1 (.int .i64 ((j:Nat):Int)) [.int .i64 0] rfl rfl rfl
  rw[<-z5 k2,TR];simp only[aH,bh,cY,Za0 aS,dG,az,aO,Zb6,aU,q0,aB,Za8,cm.c0,aV,cC,fi,bS,eV,w1,so,co,dh,st7,y5]
theorem arz{s0 s:St}{jb:Pos}{Ls:List AV}{R:List (List AV)}{I:List (AV×List (List AV))}(O:Ow s0 s jb Ls R I){i:Nat}{L:AV}{ws:List AV}(hL:Ls[i]? =some L)(hR:R[i]? =some ws){rs:List (List Int)}(hl:ws.length=rs.length)(P:Xl I ws rs):RL s L rs ws:=by refine⟨O.own i L ws hL hR,hl,λi w r h1 h2=>(O.dX _ (P i w r h1 h2)).1,λw hw=> ?_⟩;obtain⟨i,hi,rfl⟩:=Zg0.1 hw;exact(O.dX _ (P i _ rs[i] (H0 hi) (H0 (by omega)))).1.cells.1
def aix(lo:Nat)(s:St)(jb:Pos)(Ls:List AV)(rB rA:List (List Int))(N:Nat)(ms:List Pos):Prop:=
 ∀(i:Nat)(m:Pos),ms[i]? =some m->s.heap.get m=some (im (acg rB rA N (i:Int)))/\m≠jb/\(∀L∈Ls,aL L≠some m)/\lo<=m.toNat
theorem atU (hc:Sem c){jb:Pos}{H:List AV}(hH:H.length=6){s0:St}{L0 L1 L2 L3 L4:AV}{r0 r1 r2 wB wA:List AV}{I:List (AV×List (List AV))}{rB rA:List (List Int)}{N:Nat}(hN2:N<=10000)(lB:rB.length=N)(lA:rA.length=N)(eB:wB.length=rB.length)(eA:wA.length=rA.length)
  (PB:Xl I wB rB) (PA:Xl I wA rA) (hB:∀r∈rB,Bd N r) (hA:∀r∈rA,Bd N r) (F:Nat):
  ∀(m k f:Nat)(s:St)(L5:AV)(ms:List Pos),m<f->k+m=N->Ow s0 s jb [L0,L1,L2,L3,L4,L5,.af,.af] [r0,r1,r2,wB,wA,ms.map AV.map,[],[]] I->s.heap.get jb=some (.cells (H++[L0,L1,L2,L3,L4,L5,.af,.af]) 0)->ms.length=k->aix s0.next.toNat s jb [L0,L1,L2,L3,L4,L5,.af,.af] rB rA N ms->
   ∃    s' L5' ms',Ow s0 s' jb [L0,L1,L2,L3,L4,L5',.af,.af] [r0,r1,r2,wB,wA,ms'.map AV.map,[],[]] I/\s'.heap.get jb=some (.cells (H++[L0,L1,L2,L3,L4,L5',.af,.af]) 0)/\ms'.length=N/\aix s0.next.toNat s' jb [L0,L1,L2,L3,L4,L5',.af,.af] rB rA N ms'/\
        ∀(x1:AV)(k6),AP c F k6 f [x1,.ptr jb 0,.int .i64 (N:Int),.int .i64 (k:Int)] s=k6 [x1,.ptr jb 0] s':=by
 intro m;induction m with
 |zero=>
  intro k f s L5 ms hf hk O C hl hM;obtain⟨f,rfl⟩:∃g,f=g+1:=⟨f - 1,by omega⟩
  obtain rfl:k=N:=by omega
  refine⟨s,L5,ms,O,C,hl,hM,λx1 k6=> ?_⟩;rw[TU];simp
 |succ m ih=>
  intro k f s L5 ms hf hk O C hl hM;obtain⟨f,rfl⟩:∃g,f=g+1:=⟨f - 1,by omega⟩
  obtain ⟨mm,u,W,G,hmm,hmg⟩:=asS hc hN2 s O.wf C (Qp hH 3) (Qp hH 4) (arz O (i:=3) rfl rfl eB PB) (arz O (i:=4) rfl rfl eA PA) lB lA hB hA (k:Int) (by omega);have O1:=O.ai G;have C1:=G.get C;obtain⟨t2,s2,V5,c1,c2,O2,C2,K2⟩:=O1.put C1 (c:=c) (Q:=AV×St) 8 (i:=5) (L:=L5) (r:=ms.map AV.map) rfl rfl (x:= .map mm) rfl rfl (by rw[Za4];omega) (by rw[Za4];omega) (o:=11) (by omega);have M2   :aix s0.next.toNat s2 jb [L0,L1,L2,L3,L4,V5,.af,.af] rB rA N (ms++[mm]):=λi m' hi=>by
   have gK:u.heap.get m'=some (im (acg rB rA N (i:Int)))/\m'≠jb/\(∀L∈[L0,L1,L2,L3,L4,L5,AV.af,AV.af],aL L≠some m')/\s0.next.toNat<=m'.toNat:=by
        by_cases h0:i<ms.length
        . rw[Zc3 h0]at hi;have:=hM i m' hi;exact⟨G.get this.1,this.2⟩
        . rw[Zc2 (by omega)]at hi;have h1:i=k:=by
            rcases Zi8 (i - ms.length) 1 with h|h
            . omega
            . rw[Zc1 (by simpa using h)]at hi;cases hi
          subst h1;rw[show i - ms.length=0 by omega]at hi;simp at hi;subst hi;exact⟨hmg,λe=>by have:=O.wf _ _ C;rw[<-e]at this;omega,λL hL e=>(by have:=O.ltL hL e;omega),Zb2 O.next hmm⟩
   obtain⟨q1,q2⟩:=K2 m' _ gK.2.1 gK.2.2.1 gK.1;exact⟨q1,gK.2.1,q2,gK.2.2.2⟩
  have n1:=λ(K:AV->Option (AV×St))=>kY K (p:=jb) (o:=11) (h:=u.heap) (h2:=s.heap) (v:=L5) (by rw[C1];exact Qp hH 5) (by rw[C];exact Qp hH 5) (O.own 5 L5 _ rfl rfl).beq
  have r1x:=λ(K:AV->AB->Option (AV×St))=>FH (z:=[.qG]) (x:= .map mm) rfl rfl u K
  obtain⟨s',L5',ms',z1,z2,z6,z7,z3⟩:=ih (k+1) f s2 V5 (ms++[mm]) (by omega) (by omega) (by rw[Zd3];exact O2) C2 (by simp;omega) M2;refine⟨s',L5',ms',z1,z2,z6,z7,λx1 k6=> ?_⟩;have aS:(k:Int)<(N:Int):=by omega
  have w1:av .i64 ((k:Int)+1)=((k+1:Nat):Int):=acV rfl (by omega);rw[<-z3 x1 k6,TU];simp only[aH,bh,cY,Za0 aS,dG,az,dz,cC,W,bS,qC,br,Zb6,Zi3,n1,r1x,c1,c2,eV,w1]
theorem akg(z:Bool)(gs:List aT){i:Nat}(hi:i<gs.length)(K:AV->St->Option (AV×St))(s:St):aq c (.idxA 9 none) [dB z gs,.int .i64 (i:Int)] s K=K (.fp (gs.map aT.cells) i 0) s:=by
 unfold dB;rw[RD];simp[hi]
theorem akh(gs:List aT){i:Nat}(hi:i<gs.length)(K:AV->St->Option (AV×St))(s:St):aq c (.load (some 9)) [.fp (gs.map aT.cells) i 0] s K=K (.agg (gs[i]).cells) s:=by
 rw[ai2];simp[hi]
theorem aki(g:aT)(s:St)(K:AV->St->Option (AV×St)):
  aq c (.alloc [(.str []),(.str []),(.str []),(.int .i64 0),(.int .i64 0),(.str []),(.bool false),(.bool false),.af]) [] s (λx7 s7=>aq c (.store 9) [x7,.agg g.cells] s7 (λ_ s8=>K x7 s8))=K (.ptr s.next 0) (ah s (.cells g.cells 0)):=by
 rw[dh];exact cw c (λ_ s8=>K (.ptr s.next 0) s8) s 9 (.agg g.cells) _ rfl rfl (g.Ln (v:=lq g.tz g.tg) (by simp only[aQ,ahY]))
def PrR(I:List (AV×List (List AV)))(ws:List AV)(rs:List (List (List AV))):Prop:=∀(i:Nat)(w:AV)(r:List (List AV)),ws[i]? =some w->rs[i]? =some r->(w,r)∈I
theorem PrR.more{I:List (AV×List (List AV))}{ws:List AV}{rs:List (List (List AV))}(h:PrR I ws rs)(e:AV×List (List AV)):PrR (e::I) ws rs:=λi w r h1 h2=>Za9 _ (h i w r h1 h2)
theorem PrR.snoc{I:List (AV×List (List AV))}{ws:List AV}{rs:List (List (List AV))}(h:PrR I ws rs)(hl:ws.length=rs.length){w:AV}{r:List (List AV)}(hm:(w,r)∈I):PrR I (ws++[w]) (rs++[r]):=λi w' r' h1 h2=>by
 by_cases hi:i<ws.length
 . rw[Zc3 hi]at h1;rw[Zc3 (by omega)]at h2;exact h i w' r' h1 h2
 . rw[Zc2 (by omega)]at h1;rw[Zc2 (by omega)]at h2;by_cases h0:i - ws.length=0
   . rw[h0]at h1;rw[show i - rs.length=0 by omega]at h2;simp at h1 h2;subst h1;subst h2;exact hm
   . rw[Zc1 (by simp;omega)]at h1;cases h1
def acW(r:List Bool):List (List AV):=(r.map AV.bool).map ot
def acX(r:List Int):List (List AV):=(r.map (AV.int .u8)).map ot
theorem atV(hc:Sem c)(z:Bool)(gs:List aT)(hl:gs.length<=100){s0 T:St}{bp mp:Pos}{gs2:List aT}{ts:List Ty}{gk tk:Option Pos}(B:eD s0 T bp mp gs2 ts gk tk)(sU:ts.length<=1000)(hs:IK ts){jb:Pos}{y:AB}(hj:s0.heap.get jb=some y)
  {L6 L7:AV} {r6 r7:List AV} {I:List (AV×List (List AV))} {Y:AB} {gb:Pos} {gcs:List AV} {a:List Nat} (ha:gcs[0]? =some (.str a)) (hgj:gb≠jb) (F:Nat):
  ∀(m i f:Nat)(s:St)(cv kv:AV)(bs:List Bool)(ks:List Int),m<f->i+m=gs.length->Ow T s jb [L6,L7,cv,kv] [r6,r7,bs.map AV.bool,ks.map (AV.int .u8)] I->s.heap.get jb=some Y->s.heap.get gb=some (.cells gcs 0)->(∀L∈[L6,L7,cv,kv],aL L≠some gb)->bs.length=i->ks.length=i->
   ∃    (s':St) (cv' kv':AV) (bs':List Bool) (ks':List Int),Ow T s' jb [L6,L7,cv',kv'] [r6,r7,bs'.map AV.bool,ks'.map (AV.int .u8)] I/\s'.heap.get jb=some Y/\bs'.length=gs.length/\ks'.length=gs.length/\
        ∀(x1 x7 aiy aiz aiA:AV)(Ny),wX c F Ny f [x1,x7,.ptr bp 0,.ptr gb 0,cv,kv,aiy,aiz,aiA,dB z gs,.int .i64 (gs.length:Int),.int .i64 (i:Int)] s=Ny [x1,x7,.ptr bp 0,cv',kv',aiy,aiz,aiA] s':=by
 intro m;induction m with
 |zero=>
  intro i f s cv kv bs ks hf hi O C hb aea h1 h2;obtain⟨f,rfl⟩:∃g,f=g+1:=⟨f - 1,by omega⟩
  obtain rfl:i=gs.length:=by omega
  refine⟨s,cv,kv,bs,ks,O,C,h1,h2,λx1 x7 aiy aiz aiA Ny=> ?_⟩;rw[TV];simp
 |succ m ih=>
  intro i f s cv kv bs ks hf hi O C hb aea h1 h2;obtain⟨f,rfl⟩:∃g,f=g+1:=⟨f - 1,by omega⟩
  have gZ:i<gs.length:=by omega
  have hw:=O.wf;have G1:=Grew.ah hw (.cells (gs[i]).cells 0);have O1:=O.ai G1;obtain⟨w,s2,nn,e1,G2,ln⟩:=aoa hc (B.at hj O1.wf O1.keep) a (gs[i]).name;have O2:=O1.ai G2;have C2:=G2.get (G1.get C);have b2:=G2.get (G1.get hb);have x2:s2.heap.get s.next=some (.cells (gs[i]).cells 0):=G2.get (aA _ _);have far2:∀L∈[L6,L7,cv,kv],aL L≠some s.next:=λL hL e=>by have:=O.ltL hL e;omega
  obtain⟨s3,cv',a1,O3,a3,a4,a5,a6,a7,a8⟩:=O2.ab4 (c:=c) (Q:=AV×St) 1 (i:=2) (L:=cv) (r:=bs.map AV.bool) rfl rfl (x:= .bool (decide ((0:Int)<(nn:Int)))) rfl rfl (by rw[Za4];omega) (by rw[Za4];omega);have C3:=a3 _ C2;have b3:=a4 gb _ (aea cv (by simp)) b2;have x3:=a4 s.next _ (far2 cv (by simp)) x2;have fg3:∀L∈[L6,L7,cv',kv],aL L≠some gb:=Ow.mem_set (i:=2) aea λe=>by have:=a8 _ e;have:=O2.wf _ _ b2;omega
  obtain⟨k,ok,t1⟩:=asV hc (B.at hj O3.wf O3.keep) sU hs a (gs[i]).name;obtain⟨s4,kv',d1,O4,d3,d4,d5,d6,d7,d8⟩:=O3.ab4 (c:=c) (Q:=AV×St) 1 (i:=3) (L:=kv) (r:=ks.map (AV.int .u8)) rfl rfl (x:= .int .u8 k) rfl rfl (by rw[Za4];omega) (by rw[Za4];omega);have C4:=d3 _ C3;have b4:=d4 gb _ (fg3 kv (by simp)) b3;have fg4:∀L∈[L6,L7,cv',kv'],aL L≠some gb:=Ow.mem_set (i:=3) fg3 λe=>by have:=d8 _ e;have:=O3.wf _ _ b3;omega
  obtain⟨s',cv2,kv2,bs2,ks2,z1,z2,z6,z7,z3⟩:=ih (i+1) f s4 cv' kv' (bs++[decide ((0:Int)<(nn:Int))]) (ks++[k]) (by omega) (by omega) (by rw[Zd3,Zd3];exact O4) C4 b4 fg4 (by simp;omega) (by simp;omega);refine⟨s',cv2,kv2,bs2,ks2,z1,z2,z6,z7,λx1 x7 aiy aiz aiA Ny=> ?_⟩;have aS:(i:Int)<(gs.length:Int):=by omega
  have w1:av .i64 ((i:Int)+1)=((i+1:Nat):Int):=acV rfl (by omega);have r1x:=λ(K:AV->St->Option (AV×St))=>FJ (c:=c) (z:=[.bool false]) (x:= .bool (decide ((0:Int)<(nn:Int)))) rfl rfl s2 K
  have r2x:=λ(K:AV->St->Option (AV×St))=>FJ (c:=c) (z:=[.int .u8 0]) (x:= .int .u8 k) rfl rfl s3 K
  have b1:=G1.get hb;have x1':(ah s (.cells (gs[i]).cells 0)).heap.get s.next=some (.cells (gs[i]).cells 0):=aA _ _;rw[<-z3 x1 x7 aiy aiz aiA Ny,TV];simp only[aH,bh,cY,Za0 aS,dG,akg z gs gZ,akh gs gZ,aki,az,aO,Zb6,aU,b1,x1',aB,Za8,ha,aT.c0,aV,cC,e1,bS,ln,oo,r1x,a1,
   b3,x3,t1,jM,Za5,Zc0,r2x,d1,eV,w1]
theorem aqB{H Ls:List AV}(hH:H.length=12)(i:Nat):(H++Ls)[12+i]? =Ls[i]? :=by rw[Zc2 (by omega)];congr 1;omega
structure aqC(I:List (AV×List (List AV)))(r6 r7:List AV)(kQ:List (List Bool))(kR:List (List Int))(n j:Nat):Prop where
 lb:kQ.length=j
 lk:kR.length=j
 eb:∀r∈kQ,r.length=n
 ek:∀r∈kR,r.length=n
 pb:PrR I r6 (kQ.map acW)
 pk:PrR I r7 (kR.map acX)
theorem atW(hc:Sem c)(p:cm)(hl:p.gs.length<=100){s0 T:St}{bp mp:Pos}{gs2:List aT}{ts:List Ty}{gk tk:Option Pos}(B:eD s0 T bp mp gs2 ts gk tk)(sU:ts.length<=1000)(hs:IK ts){pb jb:Pos}{y:AB}(hj:s0.heap.get jb=some y)(Np:T.heap.get pb=some (.cells p.cells 0))(Nx:pb≠jb)
  {H:List AV} (hH:H.length=12) (F:Nat) (hF:1010<=F):
  ∀(m j f:Nat)(s:St)(L6 L7:AV)(r6 r7:List AV)(I:List (AV×List (List AV)))(kQ:List (List Bool))(kR:List (List Int)),m<f->j+m=p.gs.length->Ow T s jb [L6,L7] [r6,r7] I->s.heap.get jb=some (.cells (H++[L6,L7]) 0)->r6.length=j->r7.length=j->aqC I r6 r7 kQ kR p.gs.length j->
   ∃    (s':St) (L6' L7':AV) (r6' r7':List AV) (I':List (AV×List (List AV))) (aqD:List (List Bool)) (aqE:List (List Int)),Ow T s' jb [L6',L7'] [r6',r7'] I'/\s'.heap.get jb=some (.cells (H++[L6',L7']) 0)/\r6'.length=p.gs.length/\r7'.length=p.gs.length/\aqC I' r6' r7' aqD aqE p.gs.length p.gs.length/\
        ∀(k8),AQ c F k8 f [.ptr pb 0,.ptr jb 0,.ptr bp 0,dB p.gz p.gs,.int .i64 (p.gs.length:Int),.int .i64 (j:Int)] s=k8 [.ptr jb 0] s':=by
 intro m;induction m with
 |zero=>
  intro j f s L6 L7 r6 r7 I kQ kR hf hi O C h1 h2 hG;obtain⟨f,rfl⟩:∃g,f=g+1:=⟨f - 1,by omega⟩
  obtain rfl:j=p.gs.length:=by omega
  refine⟨s,L6,L7,r6,r7,I,kQ,kR,O,C,h1,h2,hG,λk8=> ?_⟩;rw[TW];simp
 |succ m ih=>
  intro j f s L6 L7 r6 r7 I kQ kR hf hi O C h1 h2 hG;obtain⟨f,rfl⟩:∃g,f=g+1:=⟨f - 1,by omega⟩
  have gZ:j<p.gs.length:=by omega
  have hw:=O.wf;have G1:=Grew.ah hw (.cells (p.gs[j]).cells 0);have O1:Ow T (ah s (.cells (p.gs[j]).cells 0)) jb [L6,L7,.af,.af] [r6,r7,[],[]] I:=((O.ai G1).snoc).snoc;have C1:=G1.get C;have yA:∀L∈[L6,L7,AV.af,AV.af],aL L≠some s.next:=λL hL e=>by
   simp only[Zb0,Zc5,Zf2]at hL;rcases hL with rfl|rfl|rfl|rfl
   .    have:=O.ltL (L:=L) (by simp) e;omega
   .    have:=O.ltL (L:=L) (by simp) e;omega
   .    cases e
   .    cases e
  obtain⟨s2,cv,kv,bs,ks,O2,C2,lbs,lks,z3⟩:=atV hc p.gz p.gs hl B sU hs hj (gb:=s.next) (gcs:=(p.gs[j]).cells) (a:=(p.gs[j]).name) rfl (λe=>by have:=hw _ _ C;rw[<-e]at this;omega) F p.gs.length 0 F _ .af .af [] [] (by omega) (by omega) O1 C1 (aA _ _) yA rfl rfl;obtain⟨cc,co⟩:=(O2.own 2 cv _ rfl rfl).cells;obtain⟨kc,ko⟩:=(O2.own 3 kv _ rfl rfl).cells;have O2':Ow T s2 jb [L6,L7] [r6,r7] ((cv,acW bs)::(kv,acX ks)::I):=(Ow.take (Ls:=[L6,L7]) (R:=[r6,r7]) (Ow.take (Ls:=[L6,L7,cv]) (R:=[r6,r7,bs.map AV.bool]) O2))
  obtain⟨s3,V6,a1,O3,a3,a4,a5,a6,a7,a8⟩:=O2'.ab4 (c:=c) (Q:=AV×St) 24 (i:=0) (L:=L6) (r:=r6) rfl rfl (x:=cv) cc co (by omega) (by omega);have C3:=a3 _ C2;obtain⟨s4,V7,d1,O4,d3,d4,d5,d6,d7,d8⟩:=O3.ab4 (c:=c) (Q:=AV×St) 24 (i:=1) (L:=L7) (r:=r7) rfl rfl (x:=kv) kc ko (by omega) (by omega);have C4:=d3 _ C3;have O5:=(O4.store (.cells (H++[V6,L7]) 0)).store (.cells (H++[V6,V7]) 0);have bD:∀(K:AV->St->Option (AV×St)),aq c (.store 1) [.ptr jb 12,V6] s4 K=K .undef (bg s4 jb (.cells (H++[V6,L7]) 0)):=λK=>by rw[wU K C4 (by simp;omega) a5 a6,Zj8 _ _ (by omega),show 12 - H.length=0 by omega];rfl
  have Av:∀(K:AV->St->Option (AV×St)),aq c (.store 1) [.ptr jb 13,V7] (bg s4 jb (.cells (H++[V6,L7]) 0)) K=K .undef (bg (bg s4 jb (.cells (H++[V6,L7]) 0)) jb (.cells (H++[V6,V7]) 0)):=λK=>by rw[wU K (bG _ _ _) (by simp;omega) d5 d6,Zj8 _ _ (by omega),show 13 - H.length=1 by omega];rfl
  have hG':aqC ((cv,acW bs)::(kv,acX ks)::I) (r6++[cv]) (r7++[kv]) (kQ++[bs]) (kR++[ks]) p.gs.length (j+1):=by
   have e1:=hG.lb;have e2:=hG.lk;refine⟨by simp;omega,by simp;omega,λr hr=> ?_,λr hr=> ?_,?_,?_⟩
   .    rcases Zd8.1 hr with h|h
        . exact hG.eb r h
        . simp at h;subst h;exact lbs
   .    rcases Zd8.1 hr with h|h
        . exact hG.ek r h
        . simp at h;subst h;exact lks
   .    rw[Zd3];exact((hG.pb.more _).more _).snoc (by simp;omega) (Zd2)
   .    rw[Zd3];exact((hG.pk.more _).more _).snoc (by simp;omega) (Za9 _ Zd2)
  obtain⟨s',L6',L7',r6',r7',I',aqD,aqE,y1,y2,y6,y7,y8,y3⟩:=ih (j+1) f _ V6 V7 (r6++[cv]) (r7++[kv]) _ (kQ++[bs]) (kR++[ks]) (by omega) (by omega) O5 (bG _ _ _) (by simp;omega) (by simp;omega) hG';refine⟨s',L6',L7',r6',r7',I',aqD,aqE,y1,y2,y6,y7,y8,λk8=> ?_⟩;have aS:(j:Int)<(p.gs.length:Int):=by omega
  have w1:av .i64 ((j:Int)+1)=((j+1:Nat):Int):=acV rfl (by omega);have q1:=O1.keep pb _ Nx Np;have g12:(H++[L6,L7])[12]? =some L6:=aqB hH 0;have r1x:=λ(K:AV->AB->Option (AV×St))=>FH (z:=[.af]) (x:=cv) rfl cc s2 K
  have r2x:=λ(K:AV->AB->Option (AV×St))=>FH (z:=[.af]) (x:=kv) rfl kc s3 K
  have n1:=λ(K:AV->Option (AV×St))=>kY K (p:=jb) (o:=13) (h:=s3.heap) (h2:=s2.heap) (v:=L7) (by rw[C3];exact aqB hH 1) (by rw[C2];exact aqB hH 1) (O2.own 1 L7 r7 rfl rfl).beq
  have lG:∀(K:AV->St->Option (AV×St))(s:St),aq c (.lenB .l) [dB p.gz p.gs] s K=K (.int .i64 (p.gs.length:Int)) s:=λK s=>by unfold dB;rw[iy];simp
  rw[<-y3 k8,TW];simp only[aH,bh,cY,Za0 aS,dG,akg p.gz p.gs gZ,akh p.gs gZ,aki,az,aO,Zb6,aU,q1,aB,Za8,cm.c1,aV,lG];rw[show(0:Int)=((0:Nat):Int)from rfl,z3];simp only[aH,bh,dz,qC,br,Zb6,kK,C2,aB,Za8,g12,aV,r1x,a1,Zi3,n1,r2x,d1,bD,Av,eV,w1,az]
theorem ajl{p:cm}(h:(j6 p).2=0):(bP p.ts).2=0/\(dS p.gs p.ys).2=0:=by
 have hb:(jH p).2=0:=by
   unfold j6 at h;by_cases e:(jH p).2=0
   . exact e
   . rw[Zb3 e]at h;exact absurd h e
 unfold jH at hb;by_cases h1:(bP p.ts).2=0
 . rw[Za7 (by simpa using h1)]at hb;by_cases h2:(dS p.gs p.ys).2=0
   . exact⟨h1,h2⟩
   . rw[Zb3 h2]at hb;exact absurd hb h2
 . rw[Zb3 h1]at hb;exact absurd hb h1
set_option maxHeartbeats 1000000 in
def Tg(s0 s:St)(v:AV)(rows:List (List AV)):Prop:=QS 1 s v rows/\∀b,aL v=some b->s0.next.toNat<=b.toNat/\s.heap.get b=some (.cells rows.flatten 0)
theorem Tg.mono{s0 s s':St}{v:AV}{rows:List (List AV)}(h:Tg s0 s v rows)(hk:∀b x,s0.next.toNat<=b.toNat->s.heap.get b=some x->s'.heap.get b=some x):Tg s0 s' v rows:=
 ⟨h.1.mono λb x hb hx=>hk b x (h.2 b hb).1 hx,λb hb=>⟨(h.2 b hb).1,hk b _ (h.2 b hb).1 (h.2 b hb).2⟩⟩
theorem Tg.base{s1 s0 s:St}{v:AV}{rows:List (List AV)}(h:Tg s0 s v rows)(hn:s1.next.toNat<=s0.next.toNat):Tg s1 s v rows:=⟨h.1,λb hb=>⟨Zb2 hn (h.2 b hb).1,(h.2 b hb).2⟩⟩
theorem Ow.tg{s0 s:St}{jb:Pos}{Ls:List AV}{R:List (List AV)}{I:List (AV×List (List AV))}(O:Ow s0 s jb Ls R I){i:Nat}{L:AV}{r:List AV}(hL:Ls[i]? =some L)(hR:R[i]? =some r):Tg s0 s L (r.map ot):=
 ⟨O.own i L r hL hR,λb hb=>⟨O.new L (Zb9 hL) b hb,by rw[af5];exact O.tig i L r hL hR b hb⟩⟩
theorem Ow.tgi{s0 s:St}{jb:Pos}{Ls:List AV}{R:List (List AV)}{I:List (AV×List (List AV))}(O:Ow s0 s jb Ls R I){w:AV}{rows:List (List AV)}(h:(w,rows)∈I):Tg s0 s w rows:=
 ⟨(O.dX _ h).1,λb hb=>⟨O.inw _ h b hb,O.itg _ h b hb⟩⟩
structure JD(s0 s:St)(jb:Pos)(Vs:List AV)(ts:List aD)(N n:Nat)(kQ:List (List Bool))(kR:List (List Int)):Prop where
 all:∃(m:Pos) (L0 L1 L2 L3 L4 L5 L6 L7:AV) (wB wA:List AV) (ms:List Pos) (r6 r7:List AV),s.heap.get jb=some (.cells (Vs++[.map m,L0,L1,L2,L3,L4,L5,L6,L7]) 0)/\
  (s0.next.toNat<=m.toNat/\s.heap.get m=some (.map EO 18))/\Tg s0 s L0 ((Bh ts N).map ot)/\Tg s0 s L1 ((Bi ts N).map ot)/\Tg s0 s L2 ((Bj ts N).map ot)/\
  (Tg s0 s L3 (wB.map ot)/\wB.length=N/\∀(i:Nat)(w:AV)(r:List Int),wB[i]? =some w->(xP ts N)[i]? =some r->Tg s0 s w (r.map bV))/\
  (Tg s0 s L4 (wA.map ot)/\wA.length=N/\∀(i:Nat)(w:AV)(r:List Int),wA[i]? =some w->(xQ ts N)[i]? =some r->Tg s0 s w (r.map bV))/\
  (Tg s0 s L5 ((ms.map AV.map).map ot)/\ms.length=N/\∀(i:Nat)(m:Pos),ms[i]? =some m->s0.next.toNat<=m.toNat/\s.heap.get m=some (im (acg (xP ts N) (xQ ts N) N (i:Int))))/\
  (Tg s0 s L6 (r6.map ot)/\r6.length=n/\∀(i:Nat)(w:AV)(r:List Bool),r6[i]? =some w->kQ[i]? =some r->Tg s0 s w (acW r))/\
  (Tg s0 s L7 (r7.map ot)/\r7.length=n/\∀(i:Nat)(w:AV)(r:List Int),r7[i]? =some w->kR[i]? =some r->Tg s0 s w (acX r))
 n1:kQ.length=n
 n2:kR.length=n
 n3:∀r∈kQ,r.length=n
 n4:∀r∈kR,r.length=n
theorem ajm(hc:Sem c)(p:cm)(hp:p.GK)(hRo:acM c p)(hR:p.Real)(hr:∀r∈p.rs,r.Ok)(s:St)(hw:Wf s)(h:(j6 p).2=0):
   ∃(jb:Pos) (s':St) (Vs:List AV) (N:Nat) (kQ:List (List Bool)) (kR:List (List Int)),c 18 [.agg p.cells] s=some (.tuple [.ptr jb 0,.int .i64 0,.int .i64 0],s')/\PS s s' Vs p/\(N:Int)=aZ p.ts/\JD s s' jb Vs p.ts N p.gs.length kQ kR/\s.next.toNat<=jb.toNat/\Vs.length=5:=by
 obtain⟨hv,auM⟩:=ajl h;have h16:=Nt hv;have cN:Wf (ah s (.cells p.cells 0)):=bF hw;have G1:=Grew.ah hw (.cells p.cells 0);have ck:=afI hc p hp hRo hr _ cN;obtain⟨Vs,s1,cp,P⟩:=alR hc p hR _ cN;obtain⟨vl,vo⟩:=P.cells;obtain⟨V1,V2,V3,V4,V5,rfl⟩:∃V1 V2 V3 V4 V5,Vs=[V1,V2,V3,V4,V5]:=by
   match Vs,vl with
   |[a,b,c,d,e],_=>exact⟨a,b,c,d,e,rfl⟩
 have w1:=P.ai.wf;have kk:=aia hc s1;have w2:Wf (ah s1 (.map EO 18)):=bF w1;have G2:=Grew.ah w1 (.map EO 18)
 let s2:=ah s1 (.map EO 18)
 let H:=[V1,V2,V3,V4,V5,AV.map s1.next]
 let J0:List AV:=H++[.af,.af,.af,.af,.af,.af,.af,.af]
 have w3:Wf (ah s2 (.cells J0 0)):=bF w2;have G3:Grew s2 (ah s2 (.cells J0 0)):=Grew.ah w2 _
 let jb:=s2.next
 let s3:=ah s2 (.cells J0 0)
 have cj:s3.heap.get jb=some (.cells J0 0):=aA _ _;have ltj:jb.toNat<s3.next.toNat:=by show s2.next.toNat<s2.next.succ.toNat;rw[Pos.aF];exact Nat.lt_succ_self _
 have pb3:s3.heap.get s.next=some (.cells p.cells 0):=((P.ai.trans G2).trans G3).get (aA _ _);have Nx:s.next≠jb:=λe=>by have e1:=P.ai.next;rw[bM,Pos.aF]at e1;have e2:s2.next.toNat=s1.next.toNat+1:=(by show(ah s1 _).next.toNat=_;rw[bM,Pos.aF]);have:s.next.toNat=s2.next.toNat:=(by rw[e]);omega
 have O0:Ow s3 s3 jb [.af,.af,.af,.af,.af,.af,.af,.af] [[],[],[],[],[],[],[],[]] []:=Ow.none w3 ltj 8;obtain⟨N,hN⟩:∃N:Nat,(N:Int)=aZ p.ts:=⟨(aZ p.ts).toNat,by have:=(pH p.ts).1;omega⟩
 have hN2:N<=10000:=by have:=aiv p.ts;omega
 obtain⟨s4,Ls,R,I,S4,z4⟩:=atS hc p hp.ok hv h16 (H:=H) rfl pb3 Nx hN 20000 (by omega) p.ts.length 0 20000 s3 _ _ _ 0 (by have:=hp.ts;omega) (by omega)
   ⟨O0,cj,.af,.af,.af,.af,.af,[],[],rfl,rfl,rfl,rfl,λi w r h=>(by simp at h),λi w r h=>(by simp at h)⟩ (by simp[aZ])
 obtain⟨L0,L1,L2,L3,L4,wB,wA,rfl,rfl,e3,e4,PB,PA⟩:=S4.shp;have lBA:=Nh p.ts N;obtain⟨hB,hA⟩:=aaZ hN;obtain⟨s5,L5,ms,O5,C5,lms,M5,z5⟩:=atU hc (H:=H) rfl hN2 lBA.1 lBA.2 (by rw[lBA.1];exact e3) (by rw[lBA.2];exact e4) PB PA hB hA 20000 N 0 20000 s4 .af [] (by omega) (by omega) S4.ow S4.cell rfl (λi m h=>by simp at h);have w5:=O5.wf;obtain⟨v6,s6,e6,k6,b6⟩:=Qf hc p.gz p.yz p.gs p.ys hp.gs hp.ys s5 w5;obtain⟨bp,mp,gk,tk,rfl,B,hs⟩:=b6 auM;have w6:=B.wf;have hj6:=k6 _ _ C5;have hj5:(ah s5 (.cells [dB p.gz p.gs,gM p.yz p.ys] 0)).heap.get jb=some (.cells (H++[L0,L1,L2,L3,L4,L5,.af,.af]) 0):=(Grew.ah w5 _).get C5;have lt6:=w6 _ _ hj6;have pb5:=O5.keep s.next _ Nx pb3;have pb6:=k6 _ _ pb5
 let H':=H++[L0,L1,L2,L3,L4,L5]
 have O6:Ow s6 s6 jb [.af,.af] [[],[]] []:=Ow.none w6 lt6 2;obtain⟨s7,L6,L7,r6,r7,I',kQ,kR,O7,C7,l6,l7,G7,z7⟩:=atW hc p hp.gs B (by have:=hp.ys;omega) hs hj5 pb6 Nx (H:=H') rfl 20000 (by omega) p.gs.length 0 20000 s6 .af .af [] [] [] [] [] (by have:=hp.gs;omega) (by omega) O6 hj6 rfl rfl ⟨rfl,rfl,λr h=>(by cases h),λr h=>(by cases h),λi w r h=>(by simp at h),λi w r h=>(by simp at h)⟩;have keep:∀q x,q≠jb->s3.heap.get q=some x->s7.heap.get q=some x:=λq x hq hx=>O7.keep q x hq (k6 _ _ (O5.keep q x hq hx))
 have G03:Grew s s3:=((G1.trans P.ai).trans G2).trans G3;have jge:s1.next.toNat<jb.toNat:=by show _<(ah s1 _).next.toNat;rw[bM,Pos.aF];omega
 have sle:s.next.toNat<=s1.next.toNat:=(G1.trans P.ai).next;have G07:Grew s s7:=⟨O7.wf,λq x hx=>keep q x (λe=>by have:=hw _ _ hx;rw[e]at this;omega) (G03.get hx),by have a1:=G03.next;have a2:=O5.next;have a3:=B.next;have a4:=O7.next;rw[bM,Pos.aF]at a3;omega⟩
 have PE:PS s s7 [V1,V2,V3,V4,V5] p:=P.qZ hw G1 G07 λq b _ hx=>keep q b (λe=>by have:=w1 _ _ hx;rw[e]at this;omega) ((G2.trans G3).get hx)
 have n03:s.next.toNat<=s3.next.toNat:=G03.next;have n36:s3.next.toNat<=s6.next.toNat:=Zb2 O5.next (by have:=B.next;rw[bM,Pos.aF]at this;omega);have aqF:∀q x,q≠jb->s5.heap.get q=some x->s7.heap.get q=some x:=λq x hq hx=>O7.keep q x hq (k6 _ _ hx)
 have nj:∀q:Pos,s3.next.toNat<=q.toNat->q≠jb:=λq hq e=>by rw[e]at hq;omega
 have T5:∀{i:Nat}{L:AV}{r:List AV},([L0,L1,L2,L3,L4,L5,.af,.af]:List AV)[i]? =some L->([Bh p.ts N,Bi p.ts N,Bj p.ts N,wB,wA,ms.map AV.map,[],[]]:List (List AV))[i]? =some r->Tg s s7 L (r.map ot):=λh1 h2=>
   ((Ow.tg O5 h1 h2).mono λb x hb hx=>aqF b x (nj b hb) hx).base n03
 have T5i:∀{w:AV}{rows:List (List AV)},(w,rows)∈I->Tg s s7 w rows:=λh=>((Ow.tgi O5 h).mono λb x hb hx=>aqF b x (nj b hb) hx).base n03
 have n06:=Zb2 n03 n36;refine⟨jb,s7,[V1,V2,V3,V4,V5],N,kQ,kR,?_,PE,hN,⟨⟨s1.next,L0,L1,L2,L3,L4,L5,L6,L7,wB,wA,ms,r6,r7,C7,⟨sle,keep _ _ (λe=>by rw[<-e]at jge;omega) (G3.get (aA _ _))⟩,T5 (i:=0) rfl rfl,T5 (i:=1) rfl rfl,T5 (i:=2) rfl rfl,
   ⟨T5 (i:=3) rfl rfl,e3,λi w r h1 h2=>T5i (PB i w r h1 h2)⟩,⟨T5 (i:=4) rfl rfl,e4,λi w r h1 h2=>T5i (PA i w r h1 h2)⟩,⟨T5 (i:=5) rfl rfl,lms,λi m h=> ?_⟩,
   ⟨(Ow.tg O7 (i:=0) rfl rfl).base n06,l6,λi w r h1 h2=>(Ow.tgi O7 (G7.pb i w _ h1 (by rw[Zb7,h2];rfl))).base n06⟩,⟨(Ow.tg O7 (i:=1) rfl rfl).base n06,l7,λi w r h1 h2=>(Ow.tgi O7 (G7.pk i w _ h1 (by rw[Zb7,h2];rfl))).base n06⟩⟩,G7.lb,G7.lk,G7.eb,G7.ek⟩,by omega,rfl⟩
 . have hcut:cut p.cells 0 5=some p.cells:=cQ rfl;have e8:=aA s (.cells p.cells 0);have bx:∀(K:AV->St->Option (AV×St)),aq c .box [.agg p.cells] s K=K (.ptr s.next 0) (ah s (.cells p.cells 0)):=λK=>by rw[dm];rfl
   have bx2:∀(K:AV->St->Option (AV×St)),aq c .box [.agg J0] s2 K=K (.ptr jb 0) s3:=λK=>by rw[dm];rfl
   have hd:decide ((j6 p).2=0)=true:=Za0 h;have cj1:s1.heap.get s.next=some (.cells p.cells 0):=P.ai.get e8;have ag:(AV.agg [V1,V2,V3,V4,V5]).cells=[V1,V2,V3,V4,V5]:=rfl;have bd:∀(K:AV->St->Option (AV×St)),aq c (.build [.af,.af,.af,.af,.af,.qG,.af,.af,.af,.af,.af,.af,.af,.af] [(0,5),(5,1)]) [.agg [V1,V2,V3,V4,V5],.map s1.next] s2 K=K (.agg J0) s2:=λK=>by rw[iq];rfl
   have bd2:∀(K:AV->St->Option (AV×St)),aq c (.build [.af,.af] [(0,1),(1,1)]) [dB p.gz p.gs,gM p.yz p.ys] s5 K=K (.agg [dB p.gz p.gs,gM p.yz p.ys]) s5:=λK=>by rw[iq,vh];rfl
   have lT:∀(K:AV->St->Option (AV×St))(s:St),aq c (.lenB .l) [tabs p.tz p.ts] s K=K (.int .i64 (p.ts.length:Int)) s:=λK s=>by unfold tabs;rw[iy];simp
   have lG:∀(K:AV->St->Option (AV×St))(s:St),aq c (.lenB .l) [dB p.gz p.gs] s K=K (.int .i64 (p.gs.length:Int)) s:=λK s=>by unfold dB;rw[iy];simp
   have l0:∀(K:AV->St->Option (AV×St))(s:St),aq c (.lenB .l) [L0] s K=K (.int .i64 (N:Int)) s:=λK s=>by
    rw[(S4.ow.own 0 L0 _ rfl rfl).lenB K s,Za4,(Sf p.ts N).1]
   have pb4:=S4.ow.keep s.next _ Nx pb3;have g6:(H++[L0,L1,L2,L3,L4,.af,.af,.af])[6]? =some L0:=rfl;have c4:=S4.cell;have run:=aiB hc 20000 (x0:= .agg p.cells) (s:=s) (r:=(.tuple [.ptr jb 0,.int .i64 0,.int .i64 0],s7)) (by
    rw[al3];simp only[bx,az,fj,e8,aB,Za8,hcut,eO,cC,ck,bS,jM,Za5,Zc0,aV,Ph,hd,Zk3,di,cp,kk];rw[show ah s1 (.map EO 18)=s2 from rfl,bd,bx2];simp only[az,aO,Zb6,aU,pb3,aB,Za8,cm.c0,aV,lT];rw[show(0:Int)=((0:Nat):Int)from rfl,z4];simp only[aH,bh,az,bW,aO,Zb6,aU,c4,aB,Za8,g6,aV,l0];rw[z5];simp only[aH,bh,az,aO,Zb6,aU,pb5,aB,Za8,cm.c1,cm.c2,aV,bd2,cC,e6,bS,jM,Za5,Zc0,pb6,lG];rw[z7];simp only[aH,bh,az])
   rw[run];unfold tidy;rw[Za7 (λe=>TG e.1)]
 . have:=M5 i m h;exact⟨Zb2 n03 this.2.2.2,aqF m _ this.2.1 this.1⟩
end
section
set_option maxRecDepth 100000
open Go Go.Ai Go.Proofs
section
variable{p p' : cm}
theorem cm.gJ.tab(h:p.gJ p'){t':aD}(ht:t'∈p'.ts):∃t∈p.ts,t.gJ t':=by
 obtain⟨i,hi,rfl⟩:=Zg0.1 ht;have GF:i<p.ts.length:=by rw[<-h.tl];exact hi
 exact⟨p.ts[i],Zb8 GF,h.ts i _ _ (H0 GF) (H0 hi)⟩
theorem cm.gJ.pN(h:p.gJ p'){t':aT}(ht:t'∈p'.gs):∃t∈p.gs,t.gJ t':=by
 obtain⟨i,hi,rfl⟩:=Zg0.1 ht;have GF:i<p.gs.length:=by rw[<-h.gl];exact hi
 exact⟨p.gs[i],Zb8 GF,h.gs i _ _ (H0 GF) (H0 hi)⟩
theorem cm.gJ.xR(h:p.gJ p')(hp:p.GK):p'.GK where
 ts:=by rw[h.tl];exact hp.ts
 gs:=by rw[h.gl];exact hp.gs
 ys:=by rw[h.ys];exact hp.ys
 cs:=by rw[h.cs];exact hp.cs
 rs:=by rw[h.rs];exact hp.rs
 ok t ht:=by obtain⟨u,hu,z,rfl⟩:=h.tab ht;have:=hp.ok u hu;exact⟨this.1,this.2⟩
theorem cm.gJ.real(h:p.gJ p')(hp:p.Real):p'.Real where
 ts:=by rw[h.tl];exact hp.ts
 tab t ht:=by obtain⟨u,hu,z,rfl⟩:=h.tab ht;have:=hp.tab u hu;exact⟨this.1,this.2⟩
 gs:=by rw[h.gl];exact hp.gs
 pN t ht:=by obtain⟨u,hu,z,rfl⟩:=h.pN ht;have:=hp.pN u hu;exact⟨this.1,this.2,this.3,this.4,this.5⟩
 ys:=by rw[h.ys];exact hp.ys
 cs:=by rw[h.cs];exact hp.cs
 rs:=by rw[h.rs];exact hp.rs
theorem aqG(t:aD){v:AV}(h:bK v):∀x∈t.ax v,bK x:=λx hx=>by simp only[aD.ax,Zb0,Zc5,Zf2]at hx;rcases hx with rfl|rfl|rfl|rfl|rfl|rfl|rfl<;>first|exact h|exact bK.str _|exact bK.int _ _
theorem aqH(t:aT){v:AV}(h:bK v):∀x∈t.ax v,bK x:=λx hx=>by simp only[aT.ax,Zb0,Zc5,Zf2]at hx;rcases hx with rfl|rfl|rfl|rfl|rfl|rfl|rfl|rfl|rfl<;>first|exact h|exact bK.str _|exact bK.int _ _|exact bK.bool _
theorem yS{α:Type}{f:α->List AV}(h:∀a,∀x∈f a,bK x)(l:List α):∀r∈l.map f,∀x∈r,bK x:=λr hr x hx=>by obtain⟨a,_,rfl⟩:=Zd0.1 hr;exact h a x hx
theorem Nz(i:Int):∀x∈bV i,bK x:=λx hx=>by simp only[bV,Zb0,Zc5,Zf2]at hx;subst hx;exact bK.int _ _
theorem aod(i:List Nat):∀x∈SG i,bK x:=λx hx=>by simp only[SG,Zb0,Zc5,Zf2]at hx;subst hx;exact bK.str _
theorem asW(t:Ty):∀x∈t.cells,bK x:=λx hx=>by simp only[Ty.cells,Zb0,Zc5,Zf2]at hx;rcases hx with rfl|rfl|rfl<;>first|exact bK.str _|exact bK.int _ _
theorem asX(t:Rl):∀x∈t.cells,bK x:=λx hx=>by simp only[Rl.cells,Zb0,Zc5,Zf2]at hx;rcases hx with rfl|rfl|rfl|rfl|rfl|rfl<;>first|exact bK.str _|exact bK.int _ _
end
section
variable{s s1 : St}
theorem TS.dw{V:AV}{ts:List aD}{rows:List (List AV)}(hw:Wf s)(h:TS (emptyAt s) s1 V ts rows):TS s (dw s s1) V ts rows where
 out:=Mk.dw hw h.out (λr hr x hx=>by
  obtain⟨i,hi,rfl⟩:=Zg0.1 hr;have ht:i<ts.length:=by rw[<-h.len];exact hi
  obtain⟨v,e,M,_⟩:=h.dX i _ _ (H0 ht) (H0 hi);rw[e]at hx;exact aqG _ M.own.bare x hx)
 len:=h.len
 dX i t r hi hr:=by
  obtain⟨v,e,M,n⟩:=h.dX i t r hi hr;exact⟨v,e,Mk.dw hw M (yS Nz _),n⟩
theorem GS.dw{V:AV}{ts:List aT}{rows:List (List AV)}(hw:Wf s)(h:GS (emptyAt s) s1 V ts rows):GS s (dw s s1) V ts rows where
 out:=Mk.dw hw h.out (λr hr x hx=>by
  obtain⟨i,hi,rfl⟩:=Zg0.1 hr;have ht:i<ts.length:=by rw[<-h.len];exact hi
  obtain⟨v,e,M,_⟩:=h.dX i _ _ (H0 ht) (H0 hi);rw[e]at hx;exact aqH _ M.own.bare x hx)
 len:=h.len
 dX i t r hi hr:=by
  obtain⟨v,e,M,n⟩:=h.dX i t r hi hr;exact⟨v,e,Mk.dw hw M (yS aod _),n⟩
theorem PS.dw{Vs:List AV}{p:cm}(hw:Wf s)(h:PS (emptyAt s) s1 Vs p):PS s (dw s s1) Vs p:=by
 obtain⟨V1,V2,V3,V4,V5,r1,r2,e,h1,h2,h3,h4,h5⟩:=h.all;exact⟨ZP hw h.ai.wf h.ai.next,V1,V2,V3,V4,V5,r1,r2,e,TS.dw hw h1,GS.dw hw h2,Mk.dw hw h3 (yS asW _),Mk.dw hw h4 (yS Nz _),Mk.dw hw h5 (yS asX _)⟩
theorem PS.bare{s0:St}{Vs:List AV}{p:cm}(h:PS s0 s Vs p):∀V∈Vs,bK V:=λV hV=>by
 obtain⟨V1,V2,V3,V4,V5,r1,r2,rfl,h1,h2,h3,h4,h5⟩:=h.all;simp only[Zb0,Zc5,Zf2]at hV;rcases hV with rfl|rfl|rfl|rfl|rfl
 . exact h1.out.own.bare
 . exact h2.out.own.bare
 . exact h3.own.bare
 . exact h4.own.bare
 . exact h5.own.bare
end
end
noncomputable section
set_option maxRecDepth 100000
open Go Go.Ai Go.Proofs
def N6(f:FuncId):List AV->St->Option (AV×St):=VZ (run SN gg) f 4
def NA:eP:=vC [(246,FC),(14,Yr),(18,N6 18),(109,N6 109),
 (16,N6 16),(17,N6 17),(30,N6 30),(32,N6 32),(33,N6 33),(34,N6 34)]
def bw(c:aj):Prop:=c=run NA gg
theorem bw.o0{c:aj}(hc:bw c)(F:Nat){f:FuncId}{args:List AV}{st:St}{r:AV×St}(s:Sh)(hk:(zH (NA f)&& !zH (gg.get (key f))&&(fP (gA f).code s).isEmpty)=true)
  {k:O2} (hd:Ik c F (af3 []) (gA f) s args st=k) (h:k=some r):c f args st=some (tidy st r):=by
 subst hc;exact ajY s hk hd h
theorem bw.o1{c:aj}(hc:bw c)(F:Nat){f:FuncId}{args:List AV}{st:St}{r:AV×St}(Ls:Un->List Q2->Nat->Q2)(s:Sh)(hk:(zH (NA f)&& !zH (gg.get (key f))&&Nat.beq (fP (gA f).code s).length 1)=true)
  (hs:(adr (iw (gA f) s 0).2&&Nat.beq (lpJ (iw (gA f) s 0).2) 0)=true) (h0:∀K' vs st,tS Ls (gA f) s 0 K' 0 vs st=none)
  (h1:∀K' n vs st,tS Ls (gA f) s 0 K' (n+1) vs st=Pg (den c F (tS Ls (gA f) s) (iw (gA f) s 0).1 (lpB (iw (gA f) s 0).2)) (lpI (iw (gA f) s 0).2) (lpO (iw (gA f) s 0).2) K' (tS Ls (gA f) s 0 K' n) vs st)
  {k:O2} (hd:Ik c F (tS Ls (gA f) s) (gA f) s args st=k) (h:k=some r):c f args st=some (tidy st r):=by
 subst hc;exact ajZ Ls s hk hs h0 h1 hd h
theorem bw.oL{c:aj}(hc:bw c)(F:Nat){f:FuncId}{args:List AV}{st:St}{r:AV×St}(Ls:Un->List Q2->Nat->Q2)(s:Sh)(n:Nat)(hk:(zH (NA f)&& !zH (gg.get (key f))&&Nat.beq (fP (gA f).code s).length n)=true)
  (hL:∀i,i<n->CS c F (tS Ls (gA f) s) (iw (gA f) s i).1 (iw (gA f) s i).2) {k:O2} (hd:Ik c F (tS Ls (gA f) s) (gA f) s args st=k) (h:k=some r):c f args st=some (tidy st r):=by
 subst hc;exact adA Ls s n hk hL hd h
theorem bw.at{c:aj}(hc:bw c){f:FuncId}{s:List AV->St->Option (AV×St)}{args:List AV}{st:St}{r:AV×St}(ho:NA f=some s)(h:s args st=some r):c f args st=some r:=by subst hc;exact abX ho h
section
variable{s s1 : St}
theorem Tg.dw{v:AV}{rows:List (List AV)}(hw:Wf s)(h:Tg (emptyAt s) s1 v rows)(hb:∀r∈rows,∀x∈r,bK x):Tg s (Go.Ai.dw s s1) v rows:=by
 have key:∀b,aL v=some b->(Go.Ai.dw s s1).heap.get b=some (.cells rows.flatten 0):=λb eN=>
  CY hw (h.2 b eN).1 (h.2 b eN).2 (λv hv=>by obtain⟨r,hr,hv⟩:=List.mem_flatten.1 hv;exact hb r hr v hv)
 exact⟨h.1.mono λb x eN hx=>by rw[(h.2 b eN).2]at hx;cases hx;exact key b eN,λb eN=>⟨(h.2 b eN).1,key b eN⟩⟩
theorem qu{l:List AV}(h:∀x∈l,bK x):∀r∈l.map ot,∀x∈r,bK x:=λr hr x hx=>by obtain⟨y,hy,rfl⟩:=Zd0.1 hr;simp only[ot,Zh9]at hx;subst hx;exact h _ hy
theorem aqI:Ki (.map EO 18):=λe he=>by
 simp only[EO,Zb0,Zc5,Zf2]at he;rcases he with rfl|rfl|rfl|rfl|rfl|rfl|rfl|rfl|rfl|rfl|rfl|rfl|rfl|rfl|rfl|rfl|rfl|rfl<;>
 . refine⟨bK.int _ _,bK.agg λv hv=> ?_⟩;simp only[kd,Kd.cells,Zb0,Zc5,Zf2]at hv;rcases hv with rfl|rfl|rfl|rfl|rfl|rfl|rfl|rfl<;>first|exact bK.str _|exact bK.int _ _|exact bK.bool _|exact bK.func _ (by simp) (by simp)|exact bK.jO
theorem asY(E:List (Int×Int)):Ki (im E):=by
 have:∀(E:List (Int×Int))(i:Nat),∀e∈Pk E i,bK e.1/\bK e.2.1:=λE=>by
  induction E with
  |nil=>intro i e he;cases he
  |cons a E ih=>
   intro i e he;simp only[Pk,Zb0]at he;rcases he with rfl|he
   . exact⟨bK.int _ _,bK.int _ _⟩
   . exact ih _ e he
 exact this E 0
theorem JD.dw{jb:Pos}{Vs:List AV}{ts:List aD}{N n:Nat}{kQ:List (List Bool)}{kR:List (List Int)}(hw:Wf s)(hV:∀V∈Vs,bK V)(hj:s.next.toNat<=jb.toNat)(h:JD (emptyAt s) s1 jb Vs ts N n kQ kR):JD s (Go.Ai.dw s s1) jb Vs ts N n kQ kR:=by
 obtain⟨m,L0,L1,L2,L3,L4,L5,L6,L7,wB,wA,ms,r6,r7,CB,⟨hm,hmk⟩,t0,t1,t2,⟨t3,lB,iB⟩,⟨t4,lA,iA⟩,⟨t5,l5,i5⟩,⟨t6,l6,i6⟩,⟨t7,l7,i7⟩⟩:=h.all;have n2:=Nh ts N;have bT:∀x∈Bh ts N,bK x:=λx hx=>by obtain⟨i,_,rfl⟩:=Zd0.1 hx;exact bK.int _ _
 have bL:∀x∈Bi ts N,bK x:=λx hx=>by obtain⟨i,_,rfl⟩:=Zd0.1 hx;exact bK.int _ _
 have bO:∀x∈Bj ts N,bK x:=λx hx=>by obtain⟨i,_,rfl⟩:=Zd0.1 hx;exact bK.bool _
 have dX:∀{α:Type}{ws:List AV}{rs:List α}{f:α->List (List AV)},ws.length=rs.length->(∀(i:Nat)(w:AV)(r:α),ws[i]? =some w->rs[i]? =some r->Tg (emptyAt s) s1 w (f r))->∀w∈ws,bK w:=λ{α ws rs f} hl hi w hw=>by obtain⟨i,GF,rfl⟩:=Zg0.1 hw;exact(hi i _ (rs[i]'(by omega)) (H0 GF) (H0 (by omega))).1.bare
 have bB:=dX (f:=λ(r:List Int)=>r.map bV) (by rw[n2.1];exact lB) iB;have bA:=dX (f:=λ(r:List Int)=>r.map bV) (by rw[n2.2];exact lA) iA;have b6:=dX (f:=acW) (by rw[h.n1];exact l6) i6;have b7:=dX (f:=acX) (by rw[h.n2];exact l7) i7;have b5:∀x∈ms.map AV.map,bK x:=λx hx=>by obtain⟨i,_,rfl⟩:=Zd0.1 hx;exact bK.map _
 refine⟨⟨m,L0,L1,L2,L3,L4,L5,L6,L7,wB,wA,ms,r6,r7,CY hw hj CB (λv hv=> ?_),⟨hm,CY hw hm hmk aqI⟩,t0.dw hw (qu bT),t1.dw hw (qu bL),t2.dw hw (qu bO),
   ⟨t3.dw hw (qu bB),lB,λi w r h1 h2=>(iB i w r h1 h2).dw hw (yS Nz r)⟩,⟨t4.dw hw (qu bA),lA,λi w r h1 h2=>(iA i w r h1 h2).dw hw (yS Nz r)⟩,
   ⟨t5.dw hw (qu b5),l5,λi m h=>⟨(i5 i m h).1,CY hw (i5 i m h).1 (i5 i m h).2 (asY _)⟩⟩,
   ⟨t6.dw hw (qu b6),l6,λi w r h1 h2=>(i6 i w r h1 h2).dw hw (qu λx hx=>by obtain⟨b,_,rfl⟩:=Zd0.1 hx;exact bK.bool _)⟩,
   ⟨t7.dw hw (qu b7),l7,λi w r h1 h2=>(i7 i w r h1 h2).dw hw (qu λx hx=>by obtain⟨b,_,rfl⟩:=Zd0.1 hx;exact bK.int _ _)⟩⟩,h.n1,h.n2,h.n3,h.n4⟩
 rcases Zd8.1 hv with hv|hv
 . exact hV v hv
 . simp only[Zb0,Zc5,Zf2]at hv;rcases hv with rfl|rfl|rfl|rfl|rfl|rfl|rfl|rfl|rfl
   . exact bK.map _
   . exact t0.1.bare
   . exact t1.1.bare
   . exact t2.1.bare
   . exact t3.1.bare
   . exact t4.1.bare
   . exact t5.1.bare
   . exact t6.1.bare
   . exact t7.1.bare
end
theorem JD.mono{s0 s s':St}{jb:Pos}{Vs:List AV}{ts:List aD}{N n:Nat}{kQ:List (List Bool)}{kR:List (List Int)}(h:JD s0 s jb Vs ts N n kQ kR)(hj:s0.next.toNat<=jb.toNat)(hk:∀b x,s0.next.toNat<=b.toNat->s.heap.get b=some x->s'.heap.get b=some x):JD s0 s' jb Vs ts N n kQ kR:=by
 obtain⟨m,L0,L1,L2,L3,L4,L5,L6,L7,wB,wA,ms,r6,r7,CB,⟨hm,hmk⟩,t0,t1,t2,⟨t3,lB,iB⟩,⟨t4,lA,iA⟩,⟨t5,l5,i5⟩,⟨t6,l6,i6⟩,⟨t7,l7,i7⟩⟩:=h.all;exact⟨⟨m,L0,L1,L2,L3,L4,L5,L6,L7,wB,wA,ms,r6,r7,hk _ _ hj CB,⟨hm,hk _ _ hm hmk⟩,t0.mono hk,t1.mono hk,t2.mono hk,⟨t3.mono hk,lB,λi w r a b=>(iB i w r a b).mono hk⟩,⟨t4.mono hk,lA,λi w r a b=>(iA i w r a b).mono hk⟩,
  ⟨t5.mono hk,l5,λi m a=>⟨(i5 i m a).1,hk _ _ (i5 i m a).1 (i5 i m a).2⟩⟩,⟨t6.mono hk,l6,λi w r a b=>(i6 i w r a b).mono hk⟩,⟨t7.mono hk,l7,λi w r a b=>(i7 i w r a b).mono hk⟩⟩,h.n1,h.n2,h.n3,h.n4⟩
section
variable{c : aj}{s0 s : St}{Vs : List AV}{p : cm}
theorem ap0(hc:bw c)(h:PS s0 s Vs p)(hp:p.GK)(hR:p.Real)(hr:∀r∈p.rs,r.Ok)(hn:(j6 p).2=0):
  ∃(jb:Pos) (s':St) (Us:List AV) (p':cm) (N:Nat) (kQ:List (List Bool)) (kR:List (List Int)),c 18 [.agg Vs] s=some (.tuple [.ptr jb 0,.int .i64 0,.int .i64 0],s')/\PS s s' Us p'/\p.gJ p'/\
   (N:Int)=aZ p'.ts/\JD s s' jb Us p'.ts N p'.gs.length kQ kR/\Us.length=5/\s.next.toNat<=jb.toNat:=by
 obtain⟨p',e,S⟩:=h.fW 1;obtain⟨jb,s1,Us,N,kQ,kR,e1,P,hN,J,hge,h5⟩:=ajm (c:=run SN gg) rfl p' (S.xR hp) (asz rfl (S.xR hp)) (S.real hR) (by rw[S.rs];exact hr) (emptyAt s) (ab5 s) (by rw[S.check];exact hn);refine⟨jb,dw s s1,Us,p',N,kQ,kR,hc.at (s:=N6 18) rfl (am4 ?_ (bK.tuple (by intro v hv;simp at hv;rcases hv with rfl|rfl|rfl<;>first|exact bK.int _ _|exact bK.ptr _ _)) P.ai.next),PS.dw h.ai.wf P,S,hN,JD.dw h.ai.wf P.bare hge J,h5,hge⟩;rw[Zd5,Zi5,e];exact e1
end
end
end Go.Proofs.YtgihekklfnjkiaaGreatDoor
