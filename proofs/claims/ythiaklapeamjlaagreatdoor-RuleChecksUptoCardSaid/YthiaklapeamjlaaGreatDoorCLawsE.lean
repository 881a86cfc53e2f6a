/- What rule.New answers, and the law. -/
import Derived.Test.YthiaklapeamjlaaGreatDoorCLawsD
import Derived.Test.YthiaklapeamjlaaGreatDoorCEvalE
import Derived.Test.YthiaklapeamjlaaGreatDoorCLawsB
import Derived.Test.YthiaklapeamjlaaGreatDoorCLawsA
set_option linter.all false
set_option linter.unusedSectionVars false
set_option linter.deprecated false
namespace Go.Proofs.YthiaklapeamjlaaGreatDoor
section
set_option maxRecDepth 100000
open Go Go.Ai Go.Proofs
variable {c : ak}
theorem QO (s:St) (r:AV×St):tidy s r=r\/tidy s r=(r.1,s):=by
 unfold tidy;split
 . exact .inr rfl
 . exact .inl rfl
theorem afR {s:St} {v:AV} {l:List (List Nat)} (h:QS 1 s v (l.map lW)) (hl:l.length<=1000) (x:List Nat) (F:Nat): ∀(m k:Nat),l.length<=k+m->k<=l.length->
  (∃i:Nat,∀k1 k2,dI c F k1 k2 (m+1) [v,.str x,.int .i64 (l.length:Int),.int .i64 (k:Int)] s=k1 [.int .i64 (i:Int)] s)\/
    ∀k1 k2,dI c F k1 k2 (m+1) [v,.str x,.int .i64 (l.length:Int),.int .i64 (k:Int)] s=k2 [] s:=by
 intro m
 induction m with
 |zero=>
  intro k h1 h2
  obtain rfl:k=l.length:=by omega
  right;intro k1 k2
  rw[eu];simp
 |succ m ih=>
  intro k h1 h2
  by_cases hk:k<l.length
  . obtain ⟨b,o,cs,a1,a2,a3,a4⟩:=h.at (R:=AV×St) (c:=c) (Bq l) (by decide) (i:=k) (by simpa using hk)
    have g0:cs[o]? =some (.str l[k]):=by simpa using a4 0 (.str l[k]) (by simp)
    have w:ay .i64 ((k:Int)+1)=((k+1:Nat):Int):=wrap64 (by omega) (by omega)
    by_cases he:x=l[k]
    .   left;refine ⟨k,fun k1 k2=> ?_⟩
        rw[eu];simp[hk,a1,a3,g0,he]
    .   rcases ih (k+1) (by omega) (by omega) with ⟨i,hi⟩|hi
        . left;refine ⟨i,fun k1 k2=> ?_⟩
          rw[<-hi k1 k2,eu]
          simp[hk,a1,a3,g0,he,w]
        . right;intro k1 k2
          rw[<-hi k1 k2,eu]
          simp[hk,a1,a3,g0,he,w]
  . obtain rfl:k=l.length:=by omega
    right;intro k1 k2
    rw[eu];simp
theorem abp (hc:Sem c) {s:St} {v:AV} {l:List (List Nat)} (h:QS 1 s v (l.map lW)) (hl:l.length<=1000) (x:List Nat): ∃b,c 175 [v,.str x] s=some (.bool b,s):=by
 have ln:=fun (K:AV->St->Option (AV×St)) (s1:St)=>h.lenB (c:=c) K s1
 simp only[List.length_map] at ln
 have ix: ∃i:Int,c 254 [v,.str x] s=some (.int .i64 i,s):=by
  rcases afR (c:=c) h hl x (l.length+1) l.length 0 (by omega) (by omega) with ⟨i,hi⟩|hi
  . refine ⟨i,?_⟩
    rw[oB hc (l.length+1) (r:=(.int .i64 (i:Int),s)),au (Plain.int _ _) (aM.refl s)]
    rw[pW]
    simp only[aY,ln]
    rw[show (0:Int)=((0:Nat):Int) from rfl,hi];simp
  . refine ⟨-1,?_⟩
    rw[oB hc (l.length+1) (r:=(.int .i64 (-1),s)),au (Plain.int _ _) (aM.refl s)]
    rw[pW]
    simp only[aY,ln]
    rw[show (0:Int)=((0:Nat):Int) from rfl,hi];simp
 obtain ⟨i,hi⟩:=ix
 refine ⟨decide (0<=i),?_⟩
 rw[wF hc 1 (r:=(.bool (decide (0<=i)),s)),au (Plain.bool _) (aM.refl s)]
 rw[yT]
 simp[hi]
theorem afS {s:St} {v:AV} {l:List (List Nat)} (h:QS 1 s v (l.map lW)) (hl:l.length<=1000) {g:FuncId} {u:AV} (H: ∀w,∃b,c g [.str w,u] s=some (.bool b,s)) (F:Nat): ∀(m k:Nat),l.length<=k+m->k<=l.length->
  (∃i:Nat,i<l.length/\ ∀k1 k2,cH c F k1 k2 (m+1) [v,.func g [] [u],.int .i64 (l.length:Int),.int .i64 (k:Int)] s=k1 [.int .i64 (i:Int)] s)\/
    ∀k1 k2,cH c F k1 k2 (m+1) [v,.func g [] [u],.int .i64 (l.length:Int),.int .i64 (k:Int)] s=k2 [] s:=by
 intro m
 induction m with
 |zero=>
  intro k h1 h2
  obtain rfl:k=l.length:=by omega
  right;intro k1 k2
  rw[di];simp
 |succ m ih=>
  intro k h1 h2
  by_cases hk:k<l.length
  . obtain ⟨b,o,cs,a1,a2,a3,a4⟩:=h.at (R:=AV×St) (c:=c) (Bq l) (by decide) (i:=k) (by simpa using hk)
    have g0:cs[o]? =some (.str l[k]):=by simpa using a4 0 (.str l[k]) (by simp)
    have w:ay .i64 ((k:Int)+1)=((k+1:Nat):Int):=wrap64 (by omega) (by omega)
    obtain ⟨bb,hb⟩:=H l[k]
    cases bb with
    |   true=>
        left;refine ⟨k,hk,fun k1 k2=> ?_⟩
        rw[di];simp[hk,a1,a3,g0,qC,hb]
    |   false=>
        rcases ih (k+1) (by omega) (by omega) with ⟨i,jG,hi⟩|hi
        . left;refine ⟨i,jG,fun k1 k2=> ?_⟩
          rw[<-hi k1 k2,di]
          simp[hk,a1,a3,g0,qC,hb,w]
        . right;intro k1 k2
          rw[<-hi k1 k2,di]
          simp[hk,a1,a3,g0,qC,hb,w]
  . obtain rfl:k=l.length:=by omega
    right;intro k1 k2
    rw[di];simp
theorem aer (hc:Sem c) {s:St} {v:AV} {l:List (List Nat)} (h:QS 1 s v (l.map lW)) (hl:l.length<=1000) {g:FuncId} {u:AV} (H: ∀w,∃b,c g [.str w,u] s=some (.bool b,s)):
   (∃i:Nat,i<l.length/\c 253 [v,.func g [] [u]] s=some (.int .i64 (i:Int),s))\/c 253 [v,.func g [] [u]] s=some (.int .i64 (-1),s):=by
 have ln:=fun (K:AV->St->Option (AV×St)) (s1:St)=>h.lenB (c:=c) K s1
 simp only[List.length_map] at ln
 rcases afS (c:=c) h hl H (l.length+1) l.length 0 (by omega) (by omega) with ⟨i,jG,hi⟩|hi
 . left;refine ⟨i,jG,?_⟩
   rw[lD hc (l.length+1) (r:=(.int .i64 (i:Int),s)),au (Plain.int _ _) (aM.refl s)]
   rw[mT]
   simp only[aY,ln]
   rw[show (0:Int)=((0:Nat):Int) from rfl,hi];simp
 . right
   rw[lD hc (l.length+1) (r:=(.int .i64 (-1),s)),au (Plain.int _ _) (aM.refl s)]
   rw[mT]
   simp only[aY,ln]
   rw[show (0:Int)=((0:Nat):Int) from rfl,hi];simp
structure Aside (s t:St) (v:AV):Prop where
 wf:Wf t
 next:t.next=s.next
 keep: ∀p x,bf v≠some p->s.heap.get p=some x->t.heap.get p=some x
theorem ahM {s:St} {v:AV} {n:Nat} (hn:n<=1000) {g:FuncId} {u:AV} (H: ∀t,Aside s t v-> ∀w,∃b,c g [.str w,u] t=some (.bool b,t)) (F:Nat): ∀(m j i f:Nat) (t:St) (l:List (List Nat)),m<f->j+m=n->i<j->QS 1 t v (l.map lW)->l.length=n->Aside s t v->
  ∃(i':Nat) (t':St) (l':List (List Nat)),i'<=n/\QS 1 t' v (l'.map lW)/\l'.length=n/\Aside s t' v/\ ∀k2,dH c F k2 f [v,.func g [] [u],.int .i64 (i:Int),.int .i64 (j:Int)] t=k2 [v,.int .i64 (i':Int)] t':=by
 intro m
 induction m with
 |zero=>
  intro j i f t l hf hj hi h hl A
  obtain ⟨f,rfl⟩: ∃g,f=g+1:=⟨f - 1,by omega⟩
  obtain rfl:j=n:=by omega
  refine ⟨i,t,l,by omega,h,hl,A,fun k2=> ?_⟩
  have ln:=fun (K:AV->St->Option (AV×St)) (s1:St)=>h.lenB (c:=c) K s1
  simp only[List.length_map,hl] at ln
  rw[gH];simp[ln]
 |succ m ih=>
  intro j i f t l hf hj hi h hl A
  obtain ⟨f,rfl⟩: ∃g,f=g+1:=⟨f - 1,by omega⟩
  have hk:j<l.length:=by omega
  have hjn:j<n:=by omega
  have ln:=fun (K:AV->St->Option (AV×St)) (s1:St)=>h.lenB (c:=c) K s1
  simp only[List.length_map,hl] at ln
  obtain ⟨b,o,cs,a1,a2,a3,a4⟩:=h.at (R:=AV×St) (c:=c) (Bq l) (by decide) (i:=j) (by simpa using hk)
  have g0:cs[o]? =some (.str l[j]):=by simpa using a4 0 (.str l[j]) (by simp)
  have w:ay .i64 ((j:Int)+1)=((j+1:Nat):Int):=wrap64 (by omega) (by omega)
  have w2:ay .i64 ((i:Int)+1)=((i+1:Nat):Int):=wrap64 (by omega) (by omega)
  obtain ⟨bb,hb⟩:=H t A l[j]
  cases bb with
  |true=>
   obtain ⟨i',t',l',b1,b2,b3,b4,b5⟩:=ih (j+1) i f t l (by omega) (by omega) (by omega) h hl A
   refine ⟨i',t',l',b1,b2,b3,b4,fun k2=> ?_⟩
   rw[<-b5 k2,gH]
   simp[cm,ln,hjn,a1,a3,g0,qC,hb,w]
  |false=>
   obtain ⟨b',o',je,e1,_,e3,e4,e5,e6,e7,_⟩:=h.set (R:=AV×St) (c:=c) (Bq l) (by decide) (i:=i) (by simp;omega)
   have bk:=fun (K:AV->St->Option (AV×St))=>cu c K t 1 b' o' (.str l[j]) je e4 rfl e5 rfl
   have hs:=dM t b' (.cells (aG je o' [.str l[j]]) 0)
   have Q:=e7 0 (.str l[j]) (bt t b' (.cells (aG je o' [.str l[j]]) 0)) (by decide) (by rw[Nat.add_zero];exact hs)
   have er:(l.map lW).set i (((l.map lW)[i]'(by simp;omega)).set 0 (.str l[j]))=(l.set i l[j]).map lW:=by
        rw[List.map_set];simp
   rw[er] at Q
   have A2:Aside s (bt t b' (.cells (aG je o' [.str l[j]]) 0)) v:=⟨ij A.wf (A.wf _ _ e4),by rw[cg];exact A.next,fun p x hp hx=>by rw[aF (fun e=>hp (by rw[e3,e]))];exact A.keep p x hp hx⟩
   obtain ⟨i',t',l',b1,b2,b3,b4,b5⟩:=ih (j+1) (i+1) f _ _ (by omega) (by omega) (by omega) Q (by simpa using hl) A2
   refine ⟨i',t',l',b1,b2,b3,b4,fun k2=> ?_⟩
   rw[<-b5 k2,gH]
   have ce:(AV.str l[j]).cells=[.str l[j]]:=rfl
   rw[ce] at bk
   simp[cm,ln,hjn,a1,a3,g0,qC,hb,e1,bk,w,w2]
theorem afT (hc:Sem c) {s:St} {v:AV} {l:List (List Nat)} (h:QS 1 s v (l.map lW)) (hl:l.length<=1000) (hw:Wf s) {g:FuncId} {u:AV} (H: ∀t,Aside s t v-> ∀w,∃b,c g [.str w,u] t=some (.bool b,t)):
   ∃(w:AV) (s':St) (n:Nat),c 173 [v,.func g [] [u]] s=some (w,s')/\Aside s s' v/\ ∀{R:Type} (c:ak) (K:AV->St->Option R) (s1:St),aj c (.lenB .l) [w] s1 K=K (.int .i64 (n:Int)) s1:=by
 have A:Aside s s v:=⟨hw,rfl,fun _ _ _ h=>h⟩
 rcases aer hc h hl (H s A) with ⟨i,hi,hx⟩|hx
 . obtain ⟨i',t',l',b1,b2,b3,b4,b5⟩:=ahM (c:=c) (n:=l.length) hl H (l.length+1) (l.length - (i+1)) (i+1) i (l.length+1) s l (by omega) (by omega) (by omega) h rfl A
   obtain ⟨v1,d1,d2,d3⟩:=b2.low (Bq l') (i:=i') (by simp;omega)
   obtain ⟨v2,f1,f2⟩:=b2.high (i:=i') (by simp;omega)
   obtain ⟨s6,g1,g2,g3,g4⟩:=d2.clear (z:=[.str []]) b4.wf rfl (fun n=>by rw[Ln];induction n with|zero=>rfl|succ n ih=>rw[List.replicate_succ];simp[aK,AV.one,ih])
   have w:ay .i64 ((i:Int)+1)=((i+1:Nat):Int):=wrap64 (by omega) (by omega)
   have A6:Aside s s6 v:=⟨g2,by rw[g3,b4.next],fun p x hp hx=>g4 p x (fun e=>hp (d3 p e)) (b4.keep p x hp hx)⟩
   have run:=kP hc (l.length+1) (x0:=v) (x1:= .func g [] [u]) (s:=s) (r:=(v2,s6)) (by
     rw[mg]
     simp only[aY,kB,hx,iU,aiF,sx,w]
     have:decide ((i:Int)= -1)=false:=decide_eq_false (by omega)
     rw[this,jO,b5]
     simp[d1,g1,f1])
   rcases QO s (v2,s6) with e|e
   . exact ⟨v2,s6,i',by rw[run,e],A6,f2⟩
   . exact ⟨v2,s,i',by rw[run,e],A,f2⟩
 . have run:=kP hc 1 (x0:=v) (x1:= .func g [] [u]) (s:=s) (r:=(v,s)) (by
     rw[mg]
     simp[hx])
   have ln:=fun {R:Type} (c:ak) (K:AV->St->Option R) (s1:St)=>h.lenB (c:=c) K s1
   simp only[List.length_map] at ln
   rcases QO s (v,s) with e|e
   . exact ⟨v,s,l.length,by rw[run,e],A,fun c K s1=>ln c K s1⟩
   . exact ⟨v,s,l.length,by rw[run,e],A,fun c K s1=>ln c K s1⟩
theorem afU (hc:Sem c) {s0 s:St} {bp mp:Pos} {gs:List aJ} {ts:List Ty} {gk tk:Option Pos} (B:dh s0 s bp mp gs ts gk tk) (a b:List Nat):
   ∃(w:AV) (s':St) (n:Nat),c 81 [.ptr bp 0,.str a,.str b] s=some (w,s')/\Grew s s'/\ ∀{R:Type} (c:ak) (K:AV->St->Option R) (s1:St),aj c (.lenB .l) [w] s1 K=K (.int .i64 (n:Int)) s1:=by
 have hw:=B.wf
 obtain ⟨g1,v1,ok1,s1,f1,M1,l1⟩:=abn hc B a
 have w1:=M1.aB.wf
 have G2:Grew s1 (ai s1 (.cells (g1.aq v1) 0)):=Grew.ai w1 _
 obtain ⟨g2,v2,ok2,s3,f2,M2,l2⟩:=abn hc (B.aB (M1.aB.trans G2)) b
 have w3:=M2.aB.wf
 have G4:Grew s3 (ai s3 (.cells (g2.aq v2) 0)):=Grew.ai w3 _
 have Ga:Grew s (ai s3 (.cells (g2.aq v2) 0)):=((M1.aB.trans G2).trans M2.aB).trans G4
 have one1:=g1.Ip M1.cells.2
 have one2:=g2.Ip M2.cells.2
 have al: ∀(g:aJ) (v:AV) (t:St) (K:AV->St->Option (AV×St)),aK (g.aq v)=true->aj c (.alloc [(.str []),(.str []),(.str []),(.int .i64 0),(.int .i64 0),(.str []),(.bool false),(.bool false),.ah]) [] t (fun x7 s7=>aj c (.store 9) [x7,.agg (g.aq v)] s7 (fun _ s8=>K x7 s8))=K (.ptr t.next 0) (ai t (.cells (g.aq v) 0)):=fun g v t K ho=>by
   rw[qD]
   exact dy c (fun _ s8=>K (.ptr t.next 0) s8) t 9 (.agg (g.aq v)) _ rfl rfl ho
 have al1:=fun K=>al g1 v1 s1 K one1
 have al2:=fun K=>al g2 v2 s3 K one2
 have pre: ∀r,(Mu (.bool (!ok1|| !ok2)) (some (.ah,ai s3 (.cells (g2.aq v2) 0))) (aj c (.fieldA 8) [.ptr s1.next 0] (ai s3 (.cells (g2.aq v2) 0)) fun x29 s26=>aj c (.load none) [x29] s26 fun MC s27=>aj c (.mkFunc 174 0) [.ptr s3.next 0] s27 fun x31 s28=>aj c (.callF 173) [MC,x31] s28 fun x32 s29=>aj c .move [x32] s29 fun x6 s30=>some (x6,s30))=some r)->
     pz c 1 (.ptr bp 0) (.str a) (.str b) s=some r:=fun r h=>by
   rw[NN, <-h]
   simp only[aY,kB,f1,iU,kq,List.getElem?_cons_zero,List.getElem?_cons_succ,fo,al1,f2,al2]
   cases ok1<;>cases ok2<;>simp
 by_cases bu:(!ok1|| !ok2)=true
 . have run:=yw hc 1 (x0:= .ptr bp 0) (x1:= .str a) (x2:= .str b) (s:=s) (r:=(.ah,ai s3 (.cells (g2.aq v2) 0))) (pre _ (by rw[bu,kj]))
   rcases QO s (AV.ah,ai s3 (.cells (g2.aq v2) 0)) with e|e
   . exact ⟨.ah,_,0,by rw[run,e],Ga,fun c K s1=>aI c K (fun H n=>rfl) s1⟩
   . exact ⟨.ah,_,0,by rw[run,e],Grew.refl hw,fun c K s1=>aI c K (fun H n=>rfl) s1⟩
 . have bu:(!ok1|| !ok2)=false:=by simpa using bu
   have Q1:QS 1 (ai s3 (.cells (g2.aq v2) 0)) v1 (g1.tg.map lW):=M1.own.mono fun p x _ hx=>((G2.trans M2.aB).trans G4).get hx
   have lt1: ∀p,bf v1=some p->p.toNat<s1.next.toNat:=fun p hp=>M1.own.lt w1 hp
   have n3:s1.next.toNat<s3.next.toNat:=by have:=M2.aB.next;rw[bG,Pos.ax] at this;omega
   have hq:(ai s3 (.cells (g2.aq v2) 0)).heap.get s3.next=some (.cells (g2.aq v2) 0):=aH _ _
   have UZ:(ai s3 (.cells (g2.aq v2) 0)).heap.get s1.next=some (.cells (g1.aq v1) 0):=(M2.aB.trans G4).get (aH _ _)
   have H: ∀t,Aside (ai s3 (.cells (g2.aq v2) 0)) t v1-> ∀w,∃b,c 174 [.str w,.ptr s3.next 0] t=some (.bool b,t):=fun t A w=>by
     have hq':=A.keep s3.next _ (fun e=>by have:=lt1 _ e;omega) hq
     have Q2:QS 1 t v2 (g2.tg.map lW):=M2.own.mono fun p x hp hx=>A.keep p x (fun e=>by have:=lt1 _ e;have:=M2.new p hp;rw[bG,Pos.ax] at this;omega) (G4.get hx)
     obtain ⟨bb,hb⟩:=abp hc Q2 (by omega) w
     refine ⟨!bb,?_⟩
     rw[Gt hc 1 (r:=(.bool (!bb),t)),au (Plain.bool _) (aM.refl t)]
     rw[J8]
     have g8:(g2.aq v2)[8]? =some v2:=rfl
     simp[hq',g8,hb]
   obtain ⟨w,s5,n,d1,d2,d3⟩:=afT hc Q1 (by omega) (aQ w3) H
   have g8:(g1.aq v1)[8]? =some v1:=rfl
   have run:=yw hc 1 (x0:= .ptr bp 0) (x1:= .str a) (x2:= .str b) (s:=s) (r:=(w,s5)) (pre _ (by
     rw[bu,jO]
     simp[UZ,g8,d1]))
   have G5:Grew s s5:=⟨d2.wf,fun p x hx=>d2.keep p x (fun e=>by have:=M1.new p e;have:=hw _ _ hx;omega) (Ga.get hx),by rw[d2.next];exact Ga.next⟩
   rcases QO s (w,s5) with e|e
   . exact ⟨w,s5,n,by rw[run,e],G5,d3⟩
   . exact ⟨w,s,n,by rw[run,e],Grew.refl hw,d3⟩
end
section
set_option maxRecDepth 100000
open Go Go.Ai Go.Proofs
variable {c : ak}
def Pb (I:List (AV×List (List AV))) (ws:List AV) (rs:List (List Int)):Prop:= ∀(i:Nat) (w:AV) (r:List Int),ws[i]? =some w->rs[i]? =some r->(w,r.map eO)∈I
theorem Pb.more {I:List (AV×List (List AV))} {ws:List AV} {rs:List (List Int)} (h:Pb I ws rs) (e:AV×List (List AV)):Pb (e::I) ws rs:=fun i w r h1 h2=>List.mem_cons_of_mem _ (h i w r h1 h2)
theorem Pb.snoc {I:List (AV×List (List AV))} {ws:List AV} {rs:List (List Int)} (h:Pb I ws rs) (hl:ws.length=rs.length) {w:AV} {r:List Int} (hm:(w,r.map eO)∈I):Pb I (ws++[w]) (rs++[r]):=fun i w' r' h1 h2=>by
 by_cases hi:i<ws.length
 . rw[List.getElem?_append_left hi] at h1
   rw[List.getElem?_append_left (by omega)] at h2
   exact h i w' r' h1 h2
 . rw[List.getElem?_append_right (by omega)] at h1
   rw[List.getElem?_append_right (by omega)] at h2
   by_cases h0:i - ws.length=0
   . rw[h0] at h1
     rw[show i - rs.length=0 by omega] at h2
     simp at h1 h2;subst h1;subst h2;exact hm
   . rw[List.getElem?_eq_none (by simp;omega)] at h1;cases h1
structure SW (s0 s:St) (jb:Pos) (H Ls:List AV) (R:List (List AV)) (I:List (AV×List (List AV))) (rB rA:List (List Int)):Prop where
 ow:Ow s0 s jb Ls R I
 cell:s.heap.get jb=some (.cells (H++Ls) 0)
 shp: ∃L0 L1 L2 L3 L4 r0 r1 r2 wB wA,Ls=[L0,L1,L2,L3,L4,.ah,.ah,.ah]/\R=[r0,r1,r2,wB,wA,[],[],[]]/\r0.length=rB.length/\r1.length=rB.length/\r2.length=rB.length/\wB.length=rB.length/\wA.length=rB.length/\rA.length=rB.length/\Pb I wB rB/\Pb I wA rA
abbrev Bd (N:Nat) (r:List Int):Prop:=r.length<=1000/\ ∀k∈r,0<=k/\k<(N:Int)
theorem XS {first n N:Nat} (hn:n<=1000) (hN:first+n<=N) (so:Int->Bool):Bd N (iZ first n so):=by
 refine ⟨Nat.le_trans (U8 _ _ _) hn,fun k hk=> ?_⟩
 unfold iZ at hk
 simp only[List.mem_filter,List.mem_map,List.mem_range] at hk
 obtain ⟨⟨i,hi,rfl⟩,_⟩:=hk
 omega
theorem ac7 {N:Nat} {rs:List (List Int)} {r:List Int} (h: ∀r∈rs,Bd N r) (hr:Bd N r): ∀u∈rs++[r],Bd N u:=fun u hu=>by
 rcases List.mem_append.1 hu with hu|hu
 . exact h u hu
 . simp at hu;subst hu;exact hr
theorem J9 {H Ls:List AV} (hH:H.length=6) (i:Nat):(H++Ls)[6+i]? =Ls[i]? :=by
 rw[List.getElem?_append_right (by omega)];congr 1;omega
theorem aio {a b k:Nat} (h:a+b=k) (hk:k<=1000000):ay .i64 ((a:Int)+(b:Int))=(k:Int):=by rw[wrap64 (by omega) (by omega)];omega
theorem Vg {a k:Nat} (h:a+1=k) (hk:k<=1000000):ay .i64 ((a:Int)+1)=(k:Int):=by rw[wrap64 (by omega) (by omega)];omega
set_option maxHeartbeats 1000000 in
theorem akg (hc:Sem c) (p:aZ) (bu: ∀t∈p.ts,t.Ok) {pb jb:Pos} {H:List AV} (hH:H.length=6) {s0:St} (Vh:s0.heap.get pb=some (.cells p.cells 0)) (Hv:pb≠jb) {first n N:Nat} (hN:first+n<=N) (hN2:N<=10000) (hn:n<=1000) (t:Int) (F:Nat):
  ∀(m i f:Nat) (s:St) (Ls:List AV) (R:List (List AV)) (I:List (AV×List (List AV))) (rB rA:List (List Int)) (sb:Pos),m<f->i+m=n->SW s0 s jb H Ls R I rB rA->rB.length=first+i->
   s.heap.get sb=some (.cells [.int .i64 ((first+i:Nat):Int)] 0)->sb≠jb->(∀L∈Ls,bf L≠some sb)->(∀r∈rB,Bd N r)->(∀r∈rA,Bd N r)->
   ∃    s' Ls' R' I' Pc Vi,SW s0 s' jb H Ls' R' I' Pc Vi/\Pc.length=first+n/\(∀r∈Pc,Bd N r)/\(∀r∈Vi,Bd N r)/\
        ∀(x40 E9:AV) (k4),sD c F k4 f [.ptr pb 0,.ptr jb 0,.int .i64 t,.int .i64 (first:Int),.int .i64 (n:Int),.ptr sb 0,x40,E9] s=k4 [.ptr pb 0,.ptr jb 0,x40,E9] s':=by
 intro m
 induction m with
 |zero=>
  intro i f s Ls R I rB rA sb hf hi hS hl aes hsj WM hB hA
  obtain ⟨f,rfl⟩: ∃g,f=g+1:=⟨f - 1,by omega⟩
  obtain rfl:i=n:=by omega
  refine ⟨s,Ls,R,I,rB,rA,hS,hl,hB,hA,fun x40 E9 k4=> ?_⟩
  have w:ay .i64 ((first:Int)+(i:Int))=((first+i:Nat):Int):=aio rfl (by omega)
  rw[MH]
  simp[aes,w]
 |succ m ih=>
  intro i f s Ls R I rB rA sb hf hi hS hl aes hsj WM hB hA
  obtain ⟨f,rfl⟩: ∃g,f=g+1:=⟨f - 1,by omega⟩
  obtain ⟨L0,L1,L2,L3,L4,r0,r1,r2,wB,wA,rfl,rfl,e0,e1,e2,e3,e4,e5,PB,PA⟩:=hS.shp
  have aP:(((first+i:Nat):Int))<((first+n:Nat):Int):=by omega
  have ha:((first+i:Nat):Int)<=4611686018427387904:=by omega
  obtain ⟨t1,s1,V0,a1,a2,O1,C1,K1⟩:=hS.ow.put hS.cell (c:=c) (Q:=AV×St) 8 (i:=0) (L:=L0) (r:=r0) rfl rfl (x:= .int .i64 t) rfl rfl (by omega) (by omega) (o:=6) (by omega)
  obtain ⟨b1,F1⟩:=K1 sb _ hsj WM aes
  have g1:(H++[L0,L1,L2,L3,L4,.ah,.ah,.ah])[6]? =some L0:=J9 hH 0
  have q1:=O1.keep pb _ Hv Vh
  have lv:=ahD hc p.tz p.ts bu _ ha s1 O1.wf
  obtain ⟨t2,s2,V1,c1,c2,O2,C2,K2⟩:=O1.put C1 (c:=c) (Q:=AV×St) 8 (i:=1) (L:=L1) (r:=r1) rfl rfl (x:= .int .i64 (O8 p.ts ((first+i:Nat):Int))) rfl rfl (by omega) (by omega) (o:=7) (by omega)
  obtain ⟨b2,F2⟩:=K2 sb _ hsj F1 b1
  have n1:=fun (K:AV->Option (AV×St))=>kT K (p:=jb) (o:=7) (h:=s1.heap) (h2:=s1.heap) (v:=L1) (by rw[C1];exact J9 hH 1) (by rw[C1];exact J9 hH 1) (O1.own 1 L1 r1 rfl rfl).beq
  have q2:=O2.keep pb _ Hv Vh
  have op:=ai5 hc p.tz p.ts bu _ ha s2 O2.wf
  obtain ⟨t3,s3,V2,d1,d2,O3,C3,K3⟩:=O2.put C2 (c:=c) (Q:=AV×St) 1 (i:=2) (L:=L2) (r:=r2) rfl rfl (x:= .bool (aa4 p.ts ((first+i:Nat):Int))) rfl rfl (by omega) (by omega) (o:=8) (by omega)
  obtain ⟨b3,F3⟩:=K3 sb _ hsj F2 b2
  have n2:=fun (K:AV->Option (AV×St))=>kT K (p:=jb) (o:=8) (h:=s2.heap) (h2:=s2.heap) (v:=L2) (by rw[C2];exact J9 hH 2) (by rw[C2];exact J9 hH 2) (O2.own 2 L2 r2 rfl rfl).beq
  have q3:=O3.keep pb _ Hv Vh
  obtain ⟨v4,u4,h4,M4⟩:=afM hc p.tz p.ts bu (pb:=pb) (sb:=sb) (cs:=p.cells) rfl ((first+i:Nat):Int) (by omega) (first:=(first:Int)) (by omega) (n:=n) (by omega) s3 O3.wf q3 b3
  have O4':=O3.more M4
  have C4':=M4.aB.get C3
  have b4':=M4.aB.get b3
  obtain ⟨vc4,vo4⟩:=M4.own.cells
  obtain ⟨t4,s4,V3,f1,f2,O4,C4,K4⟩:=O4'.put C4' (c:=c) (Q:=AV×St) 24 (i:=3) (L:=L3) (r:=wB) rfl rfl (x:=v4) vc4 vo4 (by omega) (by omega) (o:=9) (by omega)
  obtain ⟨b4,F4⟩:=K4 sb _ hsj F3 b4'
  have n3:=fun (K:AV->Option (AV×St))=>kT K (p:=jb) (o:=9) (h:=u4.heap) (h2:=s3.heap) (v:=L3) (by rw[C4'];exact J9 hH 3) (by rw[C3];exact J9 hH 3) (O3.own 3 L3 wB rfl rfl).beq
  have q4:=O4.keep pb _ Hv Vh
  obtain ⟨v5,u5,h5,M5⟩:=afN hc p.tz p.ts bu (pb:=pb) (sb:=sb) (cs:=p.cells) rfl ((first+i:Nat):Int) (by omega) (first:=(first:Int)) (by omega) (n:=n) (by omega) s4 O4.wf q4 b4
  have O5':=O4.more M5
  have C5':=M5.aB.get C4
  have b5':=M5.aB.get b4
  obtain ⟨vc5,vo5⟩:=M5.own.cells
  obtain ⟨t5,s5,V4,BT,ZL,O5,C5,K5⟩:=O5'.put C5' (c:=c) (Q:=AV×St) 24 (i:=4) (L:=L4) (r:=wA) rfl rfl (x:=v5) vc5 vo5 (by omega) (by omega) (o:=10) (by omega)
  obtain ⟨b5,F5⟩:=K5 sb _ hsj F4 b5'
  have n4:=fun (K:AV->Option (AV×St))=>kT K (p:=jb) (o:=10) (h:=u5.heap) (h2:=s4.heap) (v:=L4) (by rw[C5'];exact J9 hH 4) (by rw[C4];exact J9 hH 4) (O4.own 4 L4 wA rfl rfl).beq
  have hw5:=O5.wf
  have G6:Grew s5 (ai s5 (.cells [.int .i64 ((first+(i+1):Nat):Int)] 0)):=Grew.ai hw5 _
  have O6:=O5.aB G6
  have C6:=G6.get C5
  have PB':=((PB.more (v4,(iZ first n (OX p.ts ((first+i:Nat):Int))).map eO)).snoc e3 (w:=v4) (List.mem_cons_self)).more (v5,(iZ first n (OY p.ts ((first+i:Nat):Int))).map eO)
  have PA':=((PA.more (v4,(iZ first n (OX p.ts ((first+i:Nat):Int))).map eO)).more (v5,(iZ first n (OY p.ts ((first+i:Nat):Int))).map eO)).snoc (by omega) (w:=v5) (List.mem_cons_self)
  obtain ⟨s',Ls',R',I',Pc,Vi,z1,z2,z3,z4,z5⟩:=ih (i+1) f _ _ _ _ _ _ s5.next (by omega) (by omega) ⟨O6,C6,V0,V1,V2,V3,V4,_,_,_,_,_,rfl,rfl,by simp[e0],by simp[e1],by simp[e2],by simp[e3],by simp[e4],by simp[e5],PB',PA'⟩
   (by simp;omega) (aH _ _) (fun e=>by have:=hw5 _ _ C5;rw[<-e] at this;omega) (fun L hL e=>by have:=O5.Xv hL e;omega) (ac7 hB (XS hn hN _)) (ac7 hA (XS hn hN _))
  refine ⟨s',Ls',R',I',Pc,Vi,z1,z2,z3,z4,fun x40 E9 k4=> ?_⟩
  rw[<-z5 x40 E9 k4,MH]
  have w:ay .i64 ((first:Int)+(n:Int))=((first+n:Nat):Int):=aio rfl (by omega)
  have w1:ay .i64 (((first+i:Nat):Int)+1)=((first+(i+1):Nat):Int):=Vg rfl (by clear w;omega)
  have i1:(AV.int .i64 t).cells=[.int .i64 t]:=rfl
  have r1x:=fun (K:AV->St->Option (AV×St))=>Lp (c:=c) (z:=[.int .i64 0]) (x:= .int .i64 t) rfl rfl s K
  have r2x:=fun (K:AV->AB->Option (AV×St))=>Bo (z:=[.int .i64 0]) (x:= .int .i64 (O8 p.ts ((first+i:Nat):Int))) rfl rfl s1 K
  have r3x:=fun (K:AV->AB->Option (AV×St))=>Bo (z:=[.bool false]) (x:= .bool (aa4 p.ts ((first+i:Nat):Int))) rfl rfl s2 K
  have r4x:=fun (K:AV->AB->Option (AV×St))=>Bo (z:=[.ah]) (x:=v4) rfl vc4 u4 K
  have r5x:=fun (K:AV->AB->Option (AV×St))=>Bo (z:=[.ah]) (x:=v5) rfl vc5 u5 K
  have st7: ∀(K:AV->St->Option (AV×St)),aj c (.store 1) [.ptr s5.next 0,.int .i64 ((first+i:Nat):Int)] (ai s5 (.cells [.int .i64 0] 0)) K=K .undef (ai s5 (.cells [.int .i64 ((first+i:Nat):Int)] 0)):=fun K=>dy c K s5 1 (.int .i64 ((first+i:Nat):Int)) [.int .i64 0] rfl rfl rfl
  have st8: ∀(K:AV->St->Option (AV×St)),aj c (.store 1) [.ptr s5.next 0,.int .i64 ((first+(i+1):Nat):Int)] (ai s5 (.cells [.int .i64 ((first+i:Nat):Int)] 0)) K=K .undef (ai s5 (.cells [.int .i64 ((first+(i+1):Nat):Int)] 0)):=fun K=>dy c K s5 1 (.int .i64 ((first+(i+1):Nat):Int)) [.int .i64 ((first+i:Nat):Int)] rfl rfl rfl
  simp only[ez,fy,gM,aes,bR,Option.bind_some,List.getElem?_cons_zero,fo,aY,sx,w,nQ,decide_eq_true aP,kj,mo,eY,Nat.zero_add,hS.cell,g1,r1x,a1,a2,
   EW,Ux,q1,b1,aZ.c0,kB,lv,iU,EV,Bj,Bool.and_true,n1,r2x,c1,c2,
   q2,b2,op,n2,r3x,d1,d2,abQ,h4,n3,r4x,f1,f2,h5,n4,r5x,BT,ZL,b5,qD,st7,aH,w1,st8]
end
section
set_option maxRecDepth 100000
open Go Go.Ai Go.Proofs
variable {c : ak}
theorem afV (t:az):0<=bl t/\bl t<=24:=by
 unfold bl;repeat' split
 all_goals omega
theorem abq (ts:List az):bw ts<=24*ts.length:=by
 induction ts with
 |nil=>simp[bw]
 |cons t ts ih=>
  have:=afV t
  simp only[bw,List.map_cons,List.sum_cons,List.length_cons] at ih ⊢
  omega
theorem afW (a b:List az):bw (a++b)=bw a+bw b:=by simp[bw]
theorem aet {ts:List az} {k:Nat} (hk:k<ts.length):bw (ts.take (k+1))=bw (ts.take k)+bl ts[k]/\bw (ts.take (k+1))<=bw ts:=by
 have e:=List.take_succ_eq_append_getElem hk
 refine ⟨by rw[e,D7],?_⟩
 have h:=afW (ts.take (k+1)) (ts.drop (k+1))
 rw[List.take_append_drop] at h
 have:=(EZ (ts.drop (k+1))).1
 omega
theorem akh (hc:Sem c) (p:aZ) (bu: ∀t∈p.ts,t.Ok) (hv:(bh p.ts).2=0) (h16:p.ts.length<=16) {pb jb:Pos} {H:List AV} (hH:H.length=6) {s0:St} (Vh:s0.heap.get pb=some (.cells p.cells 0)) (Hv:pb≠jb) {N:Nat} (hN:(N:Int)=bw p.ts) (F:Nat) (hF:1010<=F):
  ∀(m k f:Nat) (s:St) (Ls:List AV) (R:List (List AV)) (I:List (AV×List (List AV))) (rB rA:List (List Int)),m<f->k+m=p.ts.length->SW s0 s jb H Ls R I rB rA->(rB.length:Int)=bw (p.ts.take k)->(∀r∈rB,Bd N r)->(∀r∈rA,Bd N r)->
   ∃    s' Ls' R' I' Pc Vi,SW s0 s' jb H Ls' R' I' Pc Vi/\Pc.length=N/\(∀r∈Pc,Bd N r)/\(∀r∈Vi,Bd N r)/\
        ∀(k2),wG c F k2 f [.ptr pb 0,.ptr jb 0,.int .i64 (p.ts.length:Int),.int .i64 (k:Int)] s=k2 [.ptr pb 0,.ptr jb 0] s':=by
 have hN2:N<=10000:=by have:=abq p.ts;omega
 intro m
 induction m with
 |zero=>
  intro k f s Ls R I rB rA hf hk hS hl hB hA
  obtain ⟨f,rfl⟩: ∃g,f=g+1:=⟨f - 1,by omega⟩
  obtain rfl:k=p.ts.length:=by omega
  refine ⟨s,Ls,R,I,rB,rA,hS,by rw[List.take_length] at hl;omega,hB,hA,fun k2=> ?_⟩
  rw[MI]
  simp
 |succ m ih=>
  intro k f s Ls R I rB rA hf hk hS hl hB hA
  obtain ⟨f,rfl⟩: ∃g,f=g+1:=⟨f - 1,by omega⟩
  have hkl:k<p.ts.length:=by omega
  obtain ⟨u1,u2⟩:=aet hkl
  have z24:=afV p.ts[k]
  have hw:=hS.ow.wf
  obtain ⟨n,hn⟩: ∃n:Nat,(n:Int)=bl p.ts[k]:=⟨(bl p.ts[k]).toNat,by omega⟩
  have aki:vn p.ts (k:Int)=((rB.length:Nat):Int):=by
   rw[vn,if_neg (by omega),hl];simp
  have fi:=aax hc p.tz p.ts bu (k:Int) s hw
  rw[aki] at fi
  have co:=afP hc p.ts[k] (bu _ (List.getElem_mem hkl)) (B6 hv k hkl) s hw
  rw[<-hn] at co
  have so:=fun (K:AV->St->Option (AV×St))=>afO (c:=c) p.tz p.ts k hkl K s
  have q0:=hS.ow.keep pb _ Hv Vh
  have G:=Grew.ai hw (.cells [.int .i64 ((rB.length:Nat):Int)] 0)
  have S1:SW s0 (ai s (.cells [.int .i64 ((rB.length:Nat):Int)] 0)) jb H Ls R I rB rA:=⟨hS.ow.aB G,G.get hS.cell,hS.shp⟩
  obtain ⟨s1,Ls1,R1,I1,rB1,rA1,y1,y2,y3,y4,y5⟩:=akg hc p bu hH Vh Hv (first:=rB.length) (n:=n) (N:=N) (by omega) hN2 (by omega) (k:Int) F n 0 F _ Ls R I rB rA s.next (by omega) (by omega) S1 (by omega) (aH _ _)
   (fun e=>by have:=hw _ _ hS.cell;rw[<-e] at this;omega) (fun L hL e=>by have:=hS.ow.Xv hL e;omega) hB hA
  obtain ⟨s',Ls',R',I',Pc,Vi,z1,z2,z3,z4,z5⟩:=ih (k+1) f s1 Ls1 R1 I1 rB1 rA1 (by omega) (by omega) y1 (by omega) y3 y4
  refine ⟨s',Ls',R',I',Pc,Vi,z1,z2,z3,z4,fun k2=> ?_⟩
  have aP:(k:Int)<(p.ts.length:Int):=by omega
  have w1:ay .i64 ((k:Int)+1)=((k+1:Nat):Int):=Vg rfl (by omega)
  have st7: ∀(K:AV->St->Option (AV×St)),aj c (.store 1) [.ptr s.next 0,.int .i64 ((rB.length:Nat):Int)] (ai s (.cells [.int .i64 0] 0)) K=K .undef (ai s (.cells [.int .i64 ((rB.length:Nat):Int)] 0)):=fun K=>dy c K s 1 (.int .i64 ((rB.length:Nat):Int)) [.int .i64 0] rfl rfl rfl
  rw[<-z5 k2,MI]
  simp only[ez,fy,nQ,decide_eq_true aP,kj,aY,eY,Nat.zero_add,gM,q0,bR,Option.bind_some,aZ.c0,fo,kB,fi,iU,sx,w1,so,co,qD,st7,y5]
theorem aip {s0 s:St} {jb:Pos} {Ls:List AV} {R:List (List AV)} {I:List (AV×List (List AV))} (O:Ow s0 s jb Ls R I) {i:Nat} {L:AV} {ws:List AV} (hL:Ls[i]? =some L) (hR:R[i]? =some ws) {rs:List (List Int)} (hl:ws.length=rs.length) (P:Pb I ws rs):RL s L rs ws:=by
 refine ⟨O.own i L ws hL hR,hl,fun i w r h1 h2=>(O.iq _ (P i w r h1 h2)).1,fun w hw=> ?_⟩
 obtain ⟨i,hi,rfl⟩:=List.mem_iff_getElem.1 hw
 exact (O.iq _ (P i _ rs[i] (List.getElem?_eq_getElem hi) (List.getElem?_eq_getElem (by omega)))).1.cells.1
theorem akj (hc:Sem c) {jb:Pos} {H:List AV} (hH:H.length=6) {s0:St} {L0 L1 L2 L3 L4:AV} {r0 r1 r2 wB wA:List AV} {I:List (AV×List (List AV))} {rB rA:List (List Int)} {N:Nat} (hN2:N<=10000) (lB:rB.length=N) (lA:rA.length=N) (eB:wB.length=rB.length) (eA:wA.length=rA.length)
  (PB:Pb I wB rB) (PA:Pb I wA rA) (hB: ∀r∈rB,Bd N r) (hA: ∀r∈rA,Bd N r) (F:Nat):
  ∀(m k f:Nat) (s:St) (L5:AV) (r5:List AV),m<f->k+m=N->Ow s0 s jb [L0,L1,L2,L3,L4,L5,.ah,.ah] [r0,r1,r2,wB,wA,r5,[],[]] I->s.heap.get jb=some (.cells (H++[L0,L1,L2,L3,L4,L5,.ah,.ah]) 0)->r5.length=k->
   ∃    s' L5' r5',Ow s0 s' jb [L0,L1,L2,L3,L4,L5',.ah,.ah] [r0,r1,r2,wB,wA,r5',[],[]] I/\s'.heap.get jb=some (.cells (H++[L0,L1,L2,L3,L4,L5',.ah,.ah]) 0)/\
        ∀(x1:AV) (k6),wH c F k6 f [x1,.ptr jb 0,.int .i64 (N:Int),.int .i64 (k:Int)] s=k6 [x1,.ptr jb 0] s':=by
 intro m
 induction m with
 |zero=>
  intro k f s L5 r5 hf hk O C hl
  obtain ⟨f,rfl⟩: ∃g,f=g+1:=⟨f - 1,by omega⟩
  obtain rfl:k=N:=by omega
  refine ⟨s,L5,r5,O,C,fun x1 k6=> ?_⟩
  rw[MJ]
  simp
 |succ m ih=>
  intro k f s L5 r5 hf hk O C hl
  obtain ⟨f,rfl⟩: ∃g,f=g+1:=⟨f - 1,by omega⟩
  obtain ⟨mm,u,W,G,_,_⟩:=ajk hc hN2 s O.wf C (J9 hH 3) (J9 hH 4) (aip O (i:=3) rfl rfl eB PB) (aip O (i:=4) rfl rfl eA PA) lB lA hB hA (k:Int) (by omega)
  have O1:=O.aB G
  have C1:=G.get C
  obtain ⟨t2,s2,V5,c1,c2,O2,C2,_⟩:=O1.put C1 (c:=c) (Q:=AV×St) 8 (i:=5) (L:=L5) (r:=r5) rfl rfl (x:= .map mm) rfl rfl (by omega) (by omega) (o:=11) (by omega)
  have n1:=fun (K:AV->Option (AV×St))=>kT K (p:=jb) (o:=11) (h:=u.heap) (h2:=s.heap) (v:=L5) (by rw[C1];exact J9 hH 5) (by rw[C];exact J9 hH 5) (O.own 5 L5 r5 rfl rfl).beq
  have r1x:=fun (K:AV->AB->Option (AV×St))=>Bo (z:=[.mA]) (x:= .map mm) rfl rfl u K
  obtain ⟨s',L5',r5',z1,z2,z3⟩:=ih (k+1) f s2 V5 (r5++[AV.map mm]) (by omega) (by omega) O2 C2 (by simp;omega)
  refine ⟨s',L5',r5',z1,z2,fun x1 k6=> ?_⟩
  have aP:(k:Int)<(N:Int):=by omega
  have w1:ay .i64 ((k:Int)+1)=((k+1:Nat):Int):=Vg rfl (by omega)
  rw[<-z3 x1 k6,MJ]
  simp only[ez,fy,nQ,decide_eq_true aP,kj,aY,EV,kB,W,iU,Bj,EW,Nat.zero_add,Bool.and_true,n1,r1x,c1,c2,sx,w1]
end
section
set_option maxRecDepth 100000
open Go Go.Ai Go.Proofs
variable {c : ak}
theorem ac8 (z:Bool) (gs:List aJ) {i:Nat} (hi:i<gs.length) (K:AV->St->Option (AV×St)) (s:St):aj c (.idxA 9 none) [aT z gs,.int .i64 (i:Int)] s K=K (.fp (gs.map aJ.cells) i 0) s:=by
 unfold aT;rw[ag1];simp[hi]
theorem ac9 (gs:List aJ) {i:Nat} (hi:i<gs.length) (K:AV->St->Option (AV×St)) (s:St):aj c (.load (some 9)) [.fp (gs.map aJ.cells) i 0] s K=K (.agg (gs[i]).cells) s:=by
 rw[abP];simp[hi]
theorem ada (g:aJ) (s:St) (K:AV->St->Option (AV×St)):
  aj c (.alloc [(.str []),(.str []),(.str []),(.int .i64 0),(.int .i64 0),(.str []),(.bool false),(.bool false),.ah]) [] s (fun x7 s7=>aj c (.store 9) [x7,.agg g.cells] s7 (fun _ s8=>K x7 s8))=K (.ptr s.next 0) (ai s (.cells g.cells 0)):=by
 rw[qD]
 exact dy c (fun _ s8=>K (.ptr s.next 0) s8) s 9 (.agg g.cells) _ rfl rfl (g.Ip (v:=cR g.tz g.tg) (by simp only[aK,aaz]))
theorem akk (hc:Sem c) (z:Bool) (gs:List aJ) (hl:gs.length<=100) {s0 T:St} {bp mp:Pos} {gs2:List aJ} {ts:List Ty} {gk tk:Option Pos} (B:dh s0 T bp mp gs2 ts gk tk) (qy:ts.length<=1000) (hs:CZ ts) {jb:Pos} {y:AB} (hj:s0.heap.get jb=some y)
  {L6 L7:AV} {r6 r7:List AV} {I:List (AV×List (List AV))} {Y:AB} {gb:Pos} {gcs:List AV} {a:List Nat} (ha:gcs[0]? =some (.str a)) (hgj:gb≠jb) (F:Nat):
  ∀(m i f:Nat) (s:St) (cv kv:AV) (rc rk:List AV),m<f->i+m=gs.length->Ow T s jb [L6,L7,cv,kv] [r6,r7,rc,rk] I->s.heap.get jb=some Y->s.heap.get gb=some (.cells gcs 0)->(∀L∈[L6,L7,cv,kv],bf L≠some gb)->rc.length=i->rk.length=i->
   ∃    s' cv' kv' rc' rk',Ow T s' jb [L6,L7,cv',kv'] [r6,r7,rc',rk'] I/\s'.heap.get jb=some Y/\
        ∀(x1 x7 Br Tq Tr:AV) (Hw),sF c F Hw f [x1,x7,.ptr bp 0,.ptr gb 0,cv,kv,Br,Tq,Tr,aT z gs,.int .i64 (gs.length:Int),.int .i64 (i:Int)] s=Hw [x1,x7,.ptr bp 0,cv',kv',Br,Tq,Tr] s':=by
 intro m
 induction m with
 |zero=>
  intro i f s cv kv rc rk hf hi O C hb WM h1 h2
  obtain ⟨f,rfl⟩: ∃g,f=g+1:=⟨f - 1,by omega⟩
  obtain rfl:i=gs.length:=by omega
  refine ⟨s,cv,kv,rc,rk,O,C,fun x1 x7 Br Tq Tr Hw=> ?_⟩
  rw[MK]
  simp
 |succ m ih=>
  intro i f s cv kv rc rk hf hi O C hb WM h1 h2
  obtain ⟨f,rfl⟩: ∃g,f=g+1:=⟨f - 1,by omega⟩
  have kC:i<gs.length:=by omega
  have hw:=O.wf
  have G1:=Grew.ai hw (.cells (gs[i]).cells 0)
  have O1:=O.aB G1
  obtain ⟨w,s2,nn,e1,G2,ln⟩:=afU hc (B.at hj O1.wf O1.keep) a (gs[i]).name
  have O2:=O1.aB G2
  have C2:=G2.get (G1.get C)
  have b2:=G2.get (G1.get hb)
  have x2:s2.heap.get s.next=some (.cells (gs[i]).cells 0):=G2.get (aH _ _)
  have far2: ∀L∈[L6,L7,cv,kv],bf L≠some s.next:=fun L hL e=>by have:=O.Xv hL e;omega
  obtain ⟨s3,cv',a1,O3,a3,a4,a5,a6,a7,a8⟩:=O2.UB (c:=c) (Q:=AV×St) 1 (i:=2) (L:=cv) (r:=rc) rfl rfl (x:= .bool (decide ((0:Int)<(nn:Int)))) rfl rfl (by omega) (by omega)
  have C3:=a3 _ C2
  have b3:=a4 gb _ (WM cv (by simp)) b2
  have x3:=a4 s.next _ (far2 cv (by simp)) x2
  have fg3: ∀L∈[L6,L7,cv',kv],bf L≠some gb:=Ow.mem_set (i:=2) WM fun e=>by have:=a8 _ e;have:=O2.wf _ _ b2;omega
  obtain ⟨k,ok,t1⟩:=ajn hc (B.at hj O3.wf O3.keep) qy hs a (gs[i]).name
  obtain ⟨s4,kv',d1,O4,d3,d4,d5,d6,d7,d8⟩:=O3.UB (c:=c) (Q:=AV×St) 1 (i:=3) (L:=kv) (r:=rk) rfl rfl (x:= .int .u8 k) rfl rfl (by omega) (by omega)
  have C4:=d3 _ C3
  have b4:=d4 gb _ (fg3 kv (by simp)) b3
  have fg4: ∀L∈[L6,L7,cv',kv'],bf L≠some gb:=Ow.mem_set (i:=3) fg3 fun e=>by have:=d8 _ e;have:=O3.wf _ _ b3;omega
  obtain ⟨s',cv2,kv2,rc2,rk2,z1,z2,z3⟩:=ih (i+1) f s4 cv' kv' (rc++[AV.bool (decide ((0:Int)<(nn:Int)))]) (rk++[AV.int .u8 k]) (by omega) (by omega) O4 C4 b4 fg4 (by simp;omega) (by simp;omega)
  refine ⟨s',cv2,kv2,rc2,rk2,z1,z2,fun x1 x7 Br Tq Tr Hw=> ?_⟩
  have aP:(i:Int)<(gs.length:Int):=by omega
  have w1:ay .i64 ((i:Int)+1)=((i+1:Nat):Int):=Vg rfl (by omega)
  have r1x:=fun (K:AV->St->Option (AV×St))=>Lp (c:=c) (z:=[.bool false]) (x:= .bool (decide ((0:Int)<(nn:Int)))) rfl rfl s2 K
  have r2x:=fun (K:AV->St->Option (AV×St))=>Lp (c:=c) (z:=[.int .u8 0]) (x:= .int .u8 k) rfl rfl s3 K
  have b1:=G1.get hb
  have x1':(ai s (.cells (gs[i]).cells 0)).heap.get s.next=some (.cells (gs[i]).cells 0):=aH _ _
  rw[<-z3 x1 x7 Br Tq Tr Hw,MK]
  simp only[ez,fy,nQ,decide_eq_true aP,kj,ac8 z gs kC,ac9 gs kC,ada,aY,eY,Nat.zero_add,gM,b1,x1',bR,Option.bind_some,ha,aJ.c0,fo,kB,e1,iU,ln,aiE,r1x,a1,
   b3,x3,t1,kq,List.getElem?_cons_zero,List.getElem?_cons_succ,r2x,d1,sx,w1]
theorem ahN {H Ls:List AV} (hH:H.length=12) (i:Nat):(H++Ls)[12+i]? =Ls[i]? :=by
 rw[List.getElem?_append_right (by omega)];congr 1;omega
theorem akl (hc:Sem c) (p:aZ) (hl:p.gs.length<=100) {s0 T:St} {bp mp:Pos} {gs2:List aJ} {ts:List Ty} {gk tk:Option Pos} (B:dh s0 T bp mp gs2 ts gk tk) (qy:ts.length<=1000) (hs:CZ ts) {pb jb:Pos} {y:AB} (hj:s0.heap.get jb=some y) (Vh:T.heap.get pb=some (.cells p.cells 0)) (Hv:pb≠jb)
  {H:List AV} (hH:H.length=12) (F:Nat) (hF:1010<=F):
  ∀(m j f:Nat) (s:St) (L6 L7:AV) (r6 r7:List AV) (I:List (AV×List (List AV))),m<f->j+m=p.gs.length->Ow T s jb [L6,L7] [r6,r7] I->s.heap.get jb=some (.cells (H++[L6,L7]) 0)->r6.length=j->r7.length=j->
   ∃    s' L6' L7' r6' r7' I',Ow T s' jb [L6',L7'] [r6',r7'] I'/\s'.heap.get jb=some (.cells (H++[L6',L7']) 0)/\
        ∀(k8),wI c F k8 f [.ptr pb 0,.ptr jb 0,.ptr bp 0,aT p.gz p.gs,.int .i64 (p.gs.length:Int),.int .i64 (j:Int)] s=k8 [.ptr jb 0] s':=by
 intro m
 induction m with
 |zero=>
  intro j f s L6 L7 r6 r7 I hf hi O C h1 h2
  obtain ⟨f,rfl⟩: ∃g,f=g+1:=⟨f - 1,by omega⟩
  obtain rfl:j=p.gs.length:=by omega
  refine ⟨s,L6,L7,r6,r7,I,O,C,fun k8=> ?_⟩
  rw[ML]
  simp
 |succ m ih=>
  intro j f s L6 L7 r6 r7 I hf hi O C h1 h2
  obtain ⟨f,rfl⟩: ∃g,f=g+1:=⟨f - 1,by omega⟩
  have kC:j<p.gs.length:=by omega
  have hw:=O.wf
  have G1:=Grew.ai hw (.cells (p.gs[j]).cells 0)
  have O1:Ow T (ai s (.cells (p.gs[j]).cells 0)) jb [L6,L7,.ah,.ah] [r6,r7,[],[]] I:=((O.aB G1).snoc).snoc
  have C1:=G1.get C
  have tI: ∀L∈[L6,L7,AV.ah,AV.ah],bf L≠some s.next:=fun L hL e=>by
   simp only[List.mem_cons,List.not_mem_nil,or_false] at hL
   rcases hL with rfl|rfl|rfl|rfl
   .    have:=O.Xv (L:=L) (by simp) e;omega
   .    have:=O.Xv (L:=L) (by simp) e;omega
   .    cases e
   .    cases e
  obtain ⟨s2,cv,kv,rc,rk,O2,C2,z3⟩:=akk hc p.gz p.gs hl B qy hs hj (gb:=s.next) (gcs:=(p.gs[j]).cells) (a:=(p.gs[j]).name) rfl (fun e=>by have:=hw _ _ C;rw[<-e] at this;omega) F p.gs.length 0 F _ .ah .ah [] [] (by omega) (by omega) O1 C1 (aH _ _) tI rfl rfl
  obtain ⟨cc,co⟩:=(O2.own 2 cv rc rfl rfl).cells
  obtain ⟨kc,ko⟩:=(O2.own 3 kv rk rfl rfl).cells
  have O2':Ow T s2 jb [L6,L7] [r6,r7] ((cv,rc.map aad)::(kv,rk.map aad)::I):=(Ow.take (Ls:=[L6,L7]) (R:=[r6,r7]) (Ow.take (Ls:=[L6,L7,cv]) (R:=[r6,r7,rc]) O2))
  obtain ⟨s3,V6,a1,O3,a3,a4,a5,a6,a7,a8⟩:=O2'.UB (c:=c) (Q:=AV×St) 24 (i:=0) (L:=L6) (r:=r6) rfl rfl (x:=cv) cc co (by omega) (by omega)
  have C3:=a3 _ C2
  obtain ⟨s4,V7,d1,O4,d3,d4,d5,d6,d7,d8⟩:=O3.UB (c:=c) (Q:=AV×St) 24 (i:=1) (L:=L7) (r:=r7) rfl rfl (x:=kv) kc ko (by omega) (by omega)
  have C4:=d3 _ C3
  have O5:=(O4.store (.cells (H++[V6,L7]) 0)).store (.cells (H++[V6,V7]) 0)
  have bk: ∀(K:AV->St->Option (AV×St)),aj c (.store 1) [.ptr jb 12,V6] s4 K=K .undef (bt s4 jb (.cells (H++[V6,L7]) 0)):=fun K=>by
   rw[VN K C4 (by simp;omega) a5 a6,List.set_append_right _ _ (by omega),show 12 - H.length=0 by omega];rfl
  have yh: ∀(K:AV->St->Option (AV×St)),aj c (.store 1) [.ptr jb 13,V7] (bt s4 jb (.cells (H++[V6,L7]) 0)) K=K .undef (bt (bt s4 jb (.cells (H++[V6,L7]) 0)) jb (.cells (H++[V6,V7]) 0)):=fun K=>by
   rw[VN K (dM _ _ _) (by simp;omega) d5 d6,List.set_append_right _ _ (by omega),show 13 - H.length=1 by omega];rfl
  obtain ⟨s',L6',L7',r6',r7',I',y1,y2,y3⟩:=ih (j+1) f _ V6 V7 (r6++[cv]) (r7++[kv]) _ (by omega) (by omega) O5 (dM _ _ _) (by simp;omega) (by simp;omega)
  refine ⟨s',L6',L7',r6',r7',I',y1,y2,fun k8=> ?_⟩
  have aP:(j:Int)<(p.gs.length:Int):=by omega
  have w1:ay .i64 ((j:Int)+1)=((j+1:Nat):Int):=Vg rfl (by omega)
  have q1:=O1.keep pb _ Hv Vh
  have g12:(H++[L6,L7])[12]? =some L6:=ahN hH 0
  have r1x:=fun (K:AV->AB->Option (AV×St))=>Bo (z:=[.ah]) (x:=cv) rfl cc s2 K
  have r2x:=fun (K:AV->AB->Option (AV×St))=>Bo (z:=[.ah]) (x:=kv) rfl kc s3 K
  have n1:=fun (K:AV->Option (AV×St))=>kT K (p:=jb) (o:=13) (h:=s3.heap) (h2:=s2.heap) (v:=L7) (by rw[C3];exact ahN hH 1) (by rw[C2];exact ahN hH 1) (O2.own 1 L7 r7 rfl rfl).beq
  have lG: ∀(K:AV->St->Option (AV×St)) (s:St),aj c (.lenB .l) [aT p.gz p.gs] s K=K (.int .i64 (p.gs.length:Int)) s:=fun K s=>by unfold aT;rw[bV];simp
  rw[<-y3 k8,ML]
  simp only[ez,fy,nQ,decide_eq_true aP,kj,ac8 p.gz p.gs kC,ac9 p.gs kC,ada,aY,eY,Nat.zero_add,gM,q1,bR,Option.bind_some,aZ.c1,fo,lG]
  rw[show (0:Int)=((0:Nat):Int) from rfl,z3]
  simp only[ez,fy,EV,Bj,EW,Nat.zero_add,Ux,C2,bR,Option.bind_some,g12,fo,r1x,a1,Bool.and_true,n1,r2x,d1,bk,yh,sx,w1,aY]
end
section
set_option maxRecDepth 100000
open Go Go.Ai Go.Proofs
variable {c : ak}
theorem Ow.bare {s0 s:St} {jb:Pos} {Ls:List AV} {R:List (List AV)} {I:List (AV×List (List AV))} (O:Ow s0 s jb Ls R I): ∀L∈Ls,bL L:=fun L hL=>by
 obtain ⟨i,hi,rfl⟩:=List.mem_iff_getElem.1 hL
 have hr:i<R.length:=by rw[<-O.len];exact hi
 exact (O.own i _ _ (List.getElem?_eq_getElem hi) (List.getElem?_eq_getElem hr)).bare
theorem ace {p:aZ} (h:(bN p).2=0):(bh p.ts).2=0/\(bI p.gs p.ys).2=0:=by
 have hb:(e9 p).2=0:=by
   unfold bN at h
   by_cases e:(e9 p).2=0
   . exact e
   . rw[if_pos e] at h;exact absurd h e
 unfold e9 at hb
 by_cases h1:(bh p.ts).2=0
 . rw[if_neg (by simpa using h1)] at hb
   by_cases h2:(bI p.gs p.ys).2=0
   . exact ⟨h1,h2⟩
   . rw[if_pos h2] at hb;exact absurd hb h2
 . rw[if_pos h1] at hb;exact absurd hb h1
theorem acf (hc:Sem c) (p:aZ) (hp:p.lq) (hRo:E5 c p) (hr: ∀r∈p.rs,r.Ok) (s:St) (hw:Wf s) (h:(bN p).2≠0):c 22 [.agg p.cells] s=some (.tuple [.dP,.int .i64 (bN p).1,.int .i64 (bN p).2],s):=by
 have aX:Wf (ai s (.cells p.cells 0)):=aQ hw
 have ck:=CB hc p hp hRo hr _ aX
 have hcut:cut p.cells 0 5=some p.cells:=cD rfl
 have hbx:=aH s (.cells p.cells 0)
 have hb:aj c .box [.agg p.cells] s (fun x1 s0=>some (x1,s0))=some (AV.ptr s.next 0,ai s (.cells p.cells 0)):=by rw[nR];rfl
 have bx: ∀(K:AV->St->Option (AV×St)),aj c .box [.agg p.cells] s K=K (.ptr s.next 0) (ai s (.cells p.cells 0)):=fun K=>by rw[nR];rfl
 have hd:decide ((bN p).2=0)=false:=decide_eq_false h
 rw[Pd hc 1 (r:=(.tuple [.dP,.int .i64 (bN p).1,.int .i64 (bN p).2],ai s (.cells p.cells 0))),au (Plain.tuple (by simp[Plain.int,Plain.dP])) (aU hw)]
 rw[Vj]
 simp only[bx,aY,R5,hbx,bR,Option.bind_some,hcut,qA,kB,ck,iU,kq,List.getElem?_cons_zero,List.getElem?_cons_succ,fo,acL,hd,Bool.not_false,kj]
set_option maxHeartbeats 1000000 in
theorem acg (hc:Sem c) (p:aZ) (hp:p.lq) (hRo:E5 c p) (hR:p.Real) (hr: ∀r∈p.rs,r.Ok) (s:St) (hw:Wf s) (h:(bN p).2=0):
   ∃jb s' Vs m cs,c 22 [.agg p.cells] s=some (.tuple [.ptr jb 0,.int .i64 0,.int .i64 0],s')/\PS s s' Vs p/\s'.heap.get jb=some (.cells (Vs++ .map m::cs) 0)/\(∀x∈cs,bL x)/\s.next.toNat<=jb.toNat/\Vs.length=5:=by
 obtain ⟨hv,ak9⟩:=ace h
 have h16:=Hj hv
 have aX:Wf (ai s (.cells p.cells 0)):=aQ hw
 have G1:=Grew.ai hw (.cells p.cells 0)
 have ck:=CB hc p hp hRo hr _ aX
 obtain ⟨Vs,s1,cp,P⟩:=Ve hc p hR _ aX
 obtain ⟨vl,vo⟩:=P.cells
 obtain ⟨V1,V2,V3,V4,V5,rfl⟩: ∃V1 V2 V3 V4 V5,Vs=[V1,V2,V3,V4,V5]:=by
   match Vs,vl with
   |[a,b,c,d,e],_=>exact ⟨a,b,c,d,e,rfl⟩
 have w1:=P.aB.wf
 have kk:=aaR hc s1
 have w2:Wf (ai s1 (.map MD 18)):=aQ w1
 have G2:=Grew.ai w1 (.map MD 18)
 let s2:=ai s1 (.map MD 18)
 let H:=[V1,V2,V3,V4,V5,AV.map s1.next]
 let J0:List AV:=H++[.ah,.ah,.ah,.ah,.ah,.ah,.ah,.ah]
 have w3:Wf (ai s2 (.cells J0 0)):=aQ w2
 have G3:Grew s2 (ai s2 (.cells J0 0)):=Grew.ai w2 _
 let jb:=s2.next
 let s3:=ai s2 (.cells J0 0)
 have cj:s3.heap.get jb=some (.cells J0 0):=aH _ _
 have ltj:jb.toNat<s3.next.toNat:=by show s2.next.toNat<s2.next.succ.toNat;rw[Pos.ax];exact Nat.lt_succ_self _
 have pb3:s3.heap.get s.next=some (.cells p.cells 0):=((P.aB.trans G2).trans G3).get (aH _ _)
 have Hv:s.next≠jb:=fun e=>by
   have e1:=P.aB.next
   rw[bG,Pos.ax] at e1
   have e2:s2.next.toNat=s1.next.toNat+1:=by show (ai s1 _).next.toNat=_;rw[bG,Pos.ax]
   have:s.next.toNat=s2.next.toNat:=by rw[e]
   omega
 have O0:Ow s3 s3 jb [.ah,.ah,.ah,.ah,.ah,.ah,.ah,.ah] [[],[],[],[],[],[],[],[]] []:=Ow.none w3 ltj 8
 obtain ⟨N,hN⟩: ∃N:Nat,(N:Int)=bw p.ts:=⟨(bw p.ts).toNat,by have:=(EZ p.ts).1;omega⟩
 have hN2:N<=10000:=by have:=abq p.ts;omega
 obtain ⟨s4,Ls,R,I,rB,rA,S4,lB,hB,hA,z4⟩:=akh hc p hp.ok hv h16 (H:=H) rfl pb3 Hv hN 20000 (by omega) p.ts.length 0 20000 s3 _ _ _ [] [] (by have:=hp.ts;omega) (by omega)
   ⟨O0,cj,.ah,.ah,.ah,.ah,.ah,[],[],[],[],[],rfl,rfl,rfl,rfl,rfl,rfl,rfl,rfl,fun i w r h=>(by simp at h),fun i w r h=>(by simp at h)⟩ (by simp[bw]) (fun r h=>(by cases h)) (fun r h=>(by cases h))
 obtain ⟨L0,L1,L2,L3,L4,r0,r1,r2,wB,wA,rfl,rfl,e0,e1,e2,e3,e4,e5,PB,PA⟩:=S4.shp
 obtain ⟨s5,L5,r5,O5,C5,z5⟩:=akj hc (H:=H) rfl hN2 lB (by omega) e3 (by omega) PB PA hB hA 20000 N 0 20000 s4 .ah [] (by omega) (by omega) S4.ow S4.cell rfl
 have w5:=O5.wf
 obtain ⟨v6,s6,e6,k6,b6⟩:=JJ hc p.gz p.yz p.gs p.ys hp.gs hp.ys s5 w5
 obtain ⟨bp,mp,gk,tk,rfl,B,hs⟩:=b6 ak9
 have w6:=B.wf
 have hj6:=k6 _ _ C5
 have hj5:(ai s5 (.cells [aT p.gz p.gs,bH p.yz p.ys] 0)).heap.get jb=some (.cells (H++[L0,L1,L2,L3,L4,L5,.ah,.ah]) 0):=(Grew.ai w5 _).get C5
 have lt6:=w6 _ _ hj6
 have pb5:=O5.keep s.next _ Hv pb3
 have pb6:=k6 _ _ pb5
 let H':=H++[L0,L1,L2,L3,L4,L5]
 have O6:Ow s6 s6 jb [.ah,.ah] [[],[]] []:=Ow.none w6 lt6 2
 obtain ⟨s7,L6,L7,r6,r7,I',O7,C7,z7⟩:=akl hc p hp.gs B (by have:=hp.ys;omega) hs hj5 pb6 Hv (H:=H') rfl 20000 (by omega) p.gs.length 0 20000 s6 .ah .ah [] [] [] (by have:=hp.gs;omega) (by omega) O6 hj6 rfl rfl
 have keep: ∀q x,q≠jb->s3.heap.get q=some x->s7.heap.get q=some x:=fun q x hq hx=>O7.keep q x hq (k6 _ _ (O5.keep q x hq hx))
 have G03:Grew s s3:=((G1.trans P.aB).trans G2).trans G3
 have jge:s1.next.toNat<jb.toNat:=by show _<(ai s1 _).next.toNat;rw[bG,Pos.ax];omega
 have sle:s.next.toNat<=s1.next.toNat:=(G1.trans P.aB).next
 have G07:Grew s s7:=⟨O7.wf,fun q x hx=>keep q x (fun e=>by have:=hw _ _ hx;rw[e] at this;omega) (G03.get hx),by
   have a1:=G03.next
   have a2:=O5.next
   have a3:=B.next
   have a4:=O7.next
   rw[bG,Pos.ax] at a3;omega⟩
 have PE:PS s s7 [V1,V2,V3,V4,V5] p:=P.ja hw G1 G07 fun q b _ hx=>keep q b (fun e=>by have:=w1 _ _ hx;rw[e] at this;omega) ((G2.trans G3).get hx)
 refine ⟨jb,s7,[V1,V2,V3,V4,V5],s1.next,[L0,L1,L2,L3,L4,L5,L6,L7],?_,PE,C7,fun x hx=> ?_,by omega,rfl⟩
 . have hcut:cut p.cells 0 5=some p.cells:=cD rfl
   have hbx:=aH s (.cells p.cells 0)
   have bx: ∀(K:AV->St->Option (AV×St)),aj c .box [.agg p.cells] s K=K (.ptr s.next 0) (ai s (.cells p.cells 0)):=fun K=>by rw[nR];rfl
   have bx2: ∀(K:AV->St->Option (AV×St)),aj c .box [.agg J0] s2 K=K (.ptr jb 0) s3:=fun K=>by rw[nR];rfl
   have hd:decide ((bN p).2=0)=true:=decide_eq_true h
   have cj1:s1.heap.get s.next=some (.cells p.cells 0):=P.aB.get hbx
   have ag:(AV.agg [V1,V2,V3,V4,V5]).cells=[V1,V2,V3,V4,V5]:=rfl
   have bd: ∀(K:AV->St->Option (AV×St)),aj c (.build [.ah,.ah,.ah,.ah,.ah,.mA,.ah,.ah,.ah,.ah,.ah,.ah,.ah,.ah] [(0,5),(5,1)]) [.agg [V1,V2,V3,V4,V5],.map s1.next] s2 K=K (.agg J0) s2:=fun K=>by
     rw[BW]
     rfl
   have bd2: ∀(K:AV->St->Option (AV×St)),aj c (.build [.ah,.ah] [(0,1),(1,1)]) [aT p.gz p.gs,bH p.yz p.ys] s5 K=K (.agg [aT p.gz p.gs,bH p.yz p.ys]) s5:=fun K=>by
     rw[BW,gx];rfl
   have lT: ∀(K:AV->St->Option (AV×St)) (s:St),aj c (.lenB .l) [tabs p.tz p.ts] s K=K (.int .i64 (p.ts.length:Int)) s:=fun K s=>by unfold tabs;rw[bV];simp
   have lG: ∀(K:AV->St->Option (AV×St)) (s:St),aj c (.lenB .l) [aT p.gz p.gs] s K=K (.int .i64 (p.gs.length:Int)) s:=fun K s=>by unfold aT;rw[bV];simp
   have l0: ∀(K:AV->St->Option (AV×St)) (s:St),aj c (.lenB .l) [L0] s K=K (.int .i64 (N:Int)) s:=fun K s=>by
     rw[(S4.ow.own 0 L0 r0 rfl rfl).lenB K s,List.length_map,e0,lB]
   have pb4:=S4.ow.keep s.next _ Hv pb3
   have g6:(H++[L0,L1,L2,L3,L4,.ah,.ah,.ah])[6]? =some L0:=rfl
   have c4:=S4.cell
   have run:=Pd hc 20000 (x0:= .agg p.cells) (s:=s) (r:=(.tuple [.ptr jb 0,.int .i64 0,.int .i64 0],s7)) (by
     rw[Vj]
     simp only[bx,aY,R5,hbx,bR,Option.bind_some,hcut,qA,kB,ck,iU,kq,List.getElem?_cons_zero,List.getElem?_cons_succ,fo,acL,hd,Bool.not_true,jO,cp,kk]
     rw[show ai s1 (.map MD 18)=s2 from rfl,bd,bx2]
     simp only[aY,eY,Nat.zero_add,gM,pb3,bR,Option.bind_some,aZ.c0,fo,lT]
     rw[show (0:Int)=((0:Nat):Int) from rfl,z4]
     simp only[ez,fy,aY,mo,eY,Nat.zero_add,gM,c4,bR,Option.bind_some,g6,fo,l0]
     rw[z5]
     simp only[ez,fy,aY,eY,Nat.zero_add,gM,pb5,bR,Option.bind_some,aZ.c1,aZ.c2,fo,bd2,kB,e6,iU,kq,List.getElem?_cons_zero,List.getElem?_cons_succ,pb6,lG]
     rw[z7]
     simp only[ez,fy,aY])
   rw[run]
   unfold tidy
   rw[if_neg (fun e=>My e.1)]
 . have GG:x∈[L0,L1,L2,L3,L4,L5,.ah,.ah]\/x∈[L6,L7]:=by
     simp only[List.mem_cons,List.not_mem_nil,or_false] at hx ⊢
     rcases hx with rfl|rfl|rfl|rfl|rfl|rfl|rfl|rfl<;>simp
   rcases GG with GG|GG
   . exact Ow.bare O5 x GG
   . exact Ow.bare O7 x GG
end
noncomputable section
set_option maxRecDepth 100000
open Go Go.Ai Go.Proofs
def xU (f:FuncId):List AV->St->Option (AV×St):=Lm (run Fx gg) f 4
def QT:dQ:=xw [(328,Bh),(18,QE),(19,xU 19),
 (20,xU 20),(21,xU 21),(22,xU 22),
 (23,xU 23),(24,xU 24),(25,xU 25)]
def xV (c:ak):Prop:=c=run QT gg
theorem xV.o0 {c:ak} (hc:xV c) (F:Nat) {f:FuncId} {args:List AV} {st:St} {r:AV×St} (s:Sh) (hk:(AN (QT f)&& !AN (gg.get (key f))&&(eW (gA f).code s).isEmpty)=true)
  {k:O2} (hd:Ii c F (YX []) (gA f) s args st=k) (h:k=some r):c f args st=some (tidy st r):=by
 subst hc;exact acV s hk hd h
theorem xV.at {c:ak} (hc:xV c) {f:FuncId} {s:List AV->St->Option (AV×St)} {args:List AV} {st:St} {r:AV×St} (ho:QT f=some s) (h:s args st=some r):c f args st=some r:=by
 subst hc;exact Ur ho h
section
variable {p p' : aZ}
theorem aZ.cK.symm (h:p.cK p'):p'.cK p where
 tl:=h.tl.symm
 ts i t t' h1 h2:=by obtain ⟨z,rfl⟩:=h.ts i t' t h2 h1;exact ⟨t'.oz,rfl⟩
 gl:=h.gl.symm
 gs i t t' h1 h2:=by obtain ⟨z,rfl⟩:=h.gs i t' t h2 h1;exact ⟨t'.tz,rfl⟩
 ys:=h.ys.symm
 cs:=h.cs.symm
 rs:=h.rs.symm
theorem aZ.cK.trans {q:aZ} (h:p.cK p') (k:p'.cK q):p.cK q where
 tl:=k.tl.trans h.tl
 ts i t t' h1 h2:=by
  have hi:i<p'.ts.length:=by rw[h.tl];exact (List.getElem?_eq_some_iff.1 h1).1
  have e:=List.getElem?_eq_getElem hi
  obtain ⟨z,e1⟩:=h.ts i _ _ h1 e
  obtain ⟨z2,e2⟩:=k.ts i _ _ e h2
  exact ⟨z2,by rw[e2,e1]⟩
 gl:=k.gl.trans h.gl
 gs i t t' h1 h2:=by
  have hi:i<p'.gs.length:=by rw[h.gl];exact (List.getElem?_eq_some_iff.1 h1).1
  have e:=List.getElem?_eq_getElem hi
  obtain ⟨z,e1⟩:=h.gs i _ _ h1 e
  obtain ⟨z2,e2⟩:=k.gs i _ _ e h2
  exact ⟨z2,by rw[e2,e1]⟩
 ys:=k.ys.trans h.ys
 cs:=k.cs.trans h.cs
 rs:=k.rs.trans h.rs
theorem aZ.cK.tab (h:p.cK p') {t':az} (ht:t'∈p'.ts): ∃t∈p.ts,t.cK t':=by
 obtain ⟨i,hi,rfl⟩:=List.mem_iff_getElem.1 ht
 have kJ:i<p.ts.length:=by rw[<-h.tl];exact hi
 exact ⟨p.ts[i],List.getElem_mem kJ,h.ts i _ _ (List.getElem?_eq_getElem kJ) (List.getElem?_eq_getElem hi)⟩
theorem aZ.cK.bB (h:p.cK p') {t':aJ} (ht:t'∈p'.gs): ∃t∈p.gs,t.cK t':=by
 obtain ⟨i,hi,rfl⟩:=List.mem_iff_getElem.1 ht
 have kJ:i<p.gs.length:=by rw[<-h.gl];exact hi
 exact ⟨p.gs[i],List.getElem_mem kJ,h.gs i _ _ (List.getElem?_eq_getElem kJ) (List.getElem?_eq_getElem hi)⟩
theorem aZ.cK.few (h:p.cK p') (hp:p.lq):p'.lq where
 ts:=by rw[h.tl];exact hp.ts
 gs:=by rw[h.gl];exact hp.gs
 ys:=by rw[h.ys];exact hp.ys
 cs:=by rw[h.cs];exact hp.cs
 rs:=by rw[h.rs];exact hp.rs
 ok t ht:=by obtain ⟨u,hu,z,rfl⟩:=h.tab ht;have:=hp.ok u hu;exact ⟨this.1,this.2⟩
theorem aZ.cK.real (h:p.cK p') (hp:p.Real):p'.Real where
 ts:=by rw[h.tl];exact hp.ts
 tab t ht:=by obtain ⟨u,hu,z,rfl⟩:=h.tab ht;have:=hp.tab u hu;exact ⟨this.1,this.2⟩
 gs:=by rw[h.gl];exact hp.gs
 bB t ht:=by obtain ⟨u,hu,z,rfl⟩:=h.bB ht;have:=hp.bB u hu;exact ⟨this.1,this.2,this.3,this.4,this.5⟩
 ys:=by rw[h.ys];exact hp.ys
 cs:=by rw[h.cs];exact hp.cs
 rs:=by rw[h.rs];exact hp.rs
theorem aZ.Real.ala (hp:p.Real) (hk: ∀t∈p.ts,t.Ok):p.Big where
 ts:=by have:=hp.ts;unfold cO;omega
 bZ t ht:=(hk t ht).2
 gs:=by have:=hp.gs;unfold cO;omega
 tg t ht:=by have h:=(hp.bB t ht).tg;have h:t.tg.length<=1048576:=h;unfold cO;omega
 ys:=by have h:=hp.ys;have h:p.ys.length<=1048576:=h;unfold cO;omega
 cs:=by have h:=hp.cs;have h:p.cs.length<=1048576:=h;unfold cO;omega
 rs:=by have h:=hp.rs;have h:p.rs.length<=1048576:=h;unfold cO;omega
theorem akm (s:St) (d es:Nat) (z:Bool) (l:List (List AV)):cV s d (ro es z l)=ro es z l:=by
 unfold ro;split<;>cases d<;>rfl
theorem QU (s:St) (d:Nat) (p:aZ):cV s (d+1) (.agg p.cells)= .agg p.cells:=by
 rw[QF]
 simp only[aZ.cells,tabs,aT,bH,ints,dG,List.map_cons,List.map_nil,akm]
theorem ahO (t:az) {v:AV} (h:bL v): ∀x∈t.aq v,bL x:=fun x hx=>by
 simp only[az.aq,List.mem_cons,List.not_mem_nil,or_false] at hx
 rcases hx with rfl|rfl|rfl|rfl|rfl|rfl|rfl<;>first|exact h|exact bL.str _|exact bL.int _ _
theorem ahP (t:aJ) {v:AV} (h:bL v): ∀x∈t.aq v,bL x:=fun x hx=>by
 simp only[aJ.aq,List.mem_cons,List.not_mem_nil,or_false] at hx
 rcases hx with rfl|rfl|rfl|rfl|rfl|rfl|rfl|rfl|rfl<;>first|exact h|exact bL.str _|exact bL.int _ _|exact bL.bool _
theorem Cb {α:Type} {f:α->List AV} (h: ∀a,∀x∈f a,bL x) (l:List α): ∀r∈l.map f,∀x∈r,bL x:=fun r hr x hx=>by
 obtain ⟨a,_,rfl⟩:=List.mem_map.1 hr
 exact h a x hx
theorem XT (i:Int): ∀x∈eO i,bL x:=fun x hx=>by
 simp only[eO,List.mem_cons,List.not_mem_nil,or_false] at hx
 subst hx;exact bL.int _ _
theorem afX (i:List Nat): ∀x∈uz i,bL x:=fun x hx=>by
 simp only[uz,List.mem_cons,List.not_mem_nil,or_false] at hx
 subst hx;exact bL.str _
theorem ajr (t:Ty): ∀x∈t.cells,bL x:=fun x hx=>by
 simp only[Ty.cells,List.mem_cons,List.not_mem_nil,or_false] at hx
 rcases hx with rfl|rfl|rfl<;>first|exact bL.str _|exact bL.int _ _
theorem ajs (t:Rl): ∀x∈t.cells,bL x:=fun x hx=>by
 simp only[Rl.cells,List.mem_cons,List.not_mem_nil,or_false] at hx
 rcases hx with rfl|rfl|rfl|rfl|rfl|rfl<;>first|exact bL.str _|exact bL.int _ _
end
section
variable {s s1 : St}
theorem TS.eN {V:AV} {ts:List az} {rows:List (List AV)} (hw:Wf s) (h:TS (emptyAt s) s1 V ts rows):TS s (eN s s1) V ts rows where
 out:=Mk.eN hw h.out (fun r hr x hx=>by
  obtain ⟨i,hi,rfl⟩:=List.mem_iff_getElem.1 hr
  have ht:i<ts.length:=by rw[<-h.len];exact hi
  obtain ⟨v,e,M,_⟩:=h.iq i _ _ (List.getElem?_eq_getElem ht) (List.getElem?_eq_getElem hi)
  rw[e] at hx
  exact ahO _ M.own.bare x hx)
 len:=h.len
 iq i t r hi hr:=by
  obtain ⟨v,e,M,n⟩:=h.iq i t r hi hr
  exact ⟨v,e,Mk.eN hw M (Cb XT _),n⟩
theorem GS.eN {V:AV} {ts:List aJ} {rows:List (List AV)} (hw:Wf s) (h:GS (emptyAt s) s1 V ts rows):GS s (eN s s1) V ts rows where
 out:=Mk.eN hw h.out (fun r hr x hx=>by
  obtain ⟨i,hi,rfl⟩:=List.mem_iff_getElem.1 hr
  have ht:i<ts.length:=by rw[<-h.len];exact hi
  obtain ⟨v,e,M,_⟩:=h.iq i _ _ (List.getElem?_eq_getElem ht) (List.getElem?_eq_getElem hi)
  rw[e] at hx
  exact ahP _ M.own.bare x hx)
 len:=h.len
 iq i t r hi hr:=by
  obtain ⟨v,e,M,n⟩:=h.iq i t r hi hr
  exact ⟨v,e,Mk.eN hw M (Cb afX _),n⟩
theorem PS.eN {Vs:List AV} {p:aZ} (hw:Wf s) (h:PS (emptyAt s) s1 Vs p):PS s (eN s s1) Vs p:=by
 obtain ⟨V1,V2,V3,V4,V5,r1,r2,e,h1,h2,h3,h4,h5⟩:=h.all
 exact ⟨R7 hw h.aB.wf h.aB.next,V1,V2,V3,V4,V5,r1,r2,e,TS.eN hw h1,GS.eN hw h2,Mk.eN hw h3 (Cb ajr _),Mk.eN hw h4 (Cb XT _),Mk.eN hw h5 (Cb ajs _)⟩
theorem PS.bare {s0:St} {Vs:List AV} {p:aZ} (h:PS s0 s Vs p): ∀V∈Vs,bL V:=fun V hV=>by
 obtain ⟨V1,V2,V3,V4,V5,r1,r2,rfl,h1,h2,h3,h4,h5⟩:=h.all
 simp only[List.mem_cons,List.not_mem_nil,or_false] at hV
 rcases hV with rfl|rfl|rfl|rfl|rfl
 . exact h1.out.own.bare
 . exact h2.out.own.bare
 . exact h3.own.bare
 . exact h4.own.bare
 . exact h5.own.bare
end
section
variable {c : ak}
theorem ajt (hc:xV c) (p:aZ) (m:Nat) (s:St):c 19 [.agg p.cells,.int .i64 (m:Int)] s=some (.bool (OQ p m),s):=
 hc.at (s:=xU 19) rfl (zq (by
  rw[List.map_cons,List.map_cons,List.map_nil,QU]
  exact aj5 rfl p m (emptyAt s) (ot s)) (bL.bool _))
theorem Pe (hc:xV c) (s:St):c 18 [] s=some (.bool true,s):=hc.at (s:=QE) rfl rfl
theorem ahQ (hc:xV c) (p:aZ) (hp:p.Real) (s:St) (hw:Wf s): ∃Vs s',c 20 [.agg p.cells] s=some (.agg Vs,s')/\PS s s' Vs p:=by
 obtain ⟨Vs,s1,e,P⟩:=WD (c:=run Fx gg) rfl p hp (emptyAt s) (ot s)
 refine ⟨Vs,eN s s1,hc.at (s:=xU 20) rfl (OC ?_ (bL.agg P.bare) P.aB.next),PS.eN hw P⟩
 rw[List.map_cons,List.map_nil,QU]
 exact e
theorem Pg (hc:xV c) (p:aZ) (hp:p.lq) (hr: ∀r∈p.rs,r.Ok) (s:St):c 23 [.agg p.cells] s=some (.tuple [.int .i64 (bN p).1,.int .i64 (bN p).2],s):=
 hc.at (s:=xU 23) rfl (zq (by
  rw[List.map_cons,List.map_nil,QU]
  exact aaX rfl p hp (QJ rfl hp) hr (emptyAt s) (ot s)) (bL.tuple (by intro v hv;simp at hv;rcases hv with rfl|rfl<;>exact bL.int _ _)))
variable {s0 s : St} {Vs : List AV} {p : aZ}
theorem afY (hc:xV c) (h:PS s0 s Vs p) (hp:p.lq) (hr: ∀r∈p.rs,r.Ok):c 21 [.agg Vs] s=some (.tuple [.int .i64 (bN p).1,.int .i64 (bN p).2],s):=by
 obtain ⟨p',e,S⟩:=h.cV 1
 refine hc.at (s:=xU 21) rfl (zq ?_ (bL.tuple (by intro v hv;simp at hv;rcases hv with rfl|rfl<;>exact bL.int _ _)))
 rw[List.map_cons,List.map_nil,e, <-S.check]
 exact CB rfl p' (S.few hp) (QJ rfl (S.few hp)) (by rw[S.rs];exact hr) (emptyAt s) (ot s)
theorem aju (hc:xV c) (h:PS s0 s Vs p) (hp:p.lq) (hr: ∀r∈p.rs,r.Ok) (hn:(bN p).2≠0):c 22 [.agg Vs] s=some (.tuple [.dP,.int .i64 (bN p).1,.int .i64 (bN p).2],s):=by
 obtain ⟨p',e,S⟩:=h.cV 1
 refine hc.at (s:=xU 22) rfl (zq ?_ (bL.tuple (by intro v hv;simp at hv;rcases hv with rfl|rfl|rfl<;>first|exact bL.int _ _|exact bL.dP)))
 rw[List.map_cons,List.map_nil,e, <-S.check]
 exact acf rfl p' (S.few hp) (QJ rfl (S.few hp)) (by rw[S.rs];exact hr) (emptyAt s) (ot s) (by rw[S.check];exact hn)
theorem ajv (hc:xV c) (h:PS s0 s Vs p) (hp:p.lq) (hR:p.Real) (hr: ∀r∈p.rs,r.Ok) (hn:(bN p).2=0):
   ∃jb s' Us m cs p',c 22 [.agg Vs] s=some (.tuple [.ptr jb 0,.int .i64 0,.int .i64 0],s')/\PS s s' Us p'/\p.cK p'/\s'.heap.get jb=some (.cells (Us++ .map m::cs) 0)/\Us.length=5:=by
 obtain ⟨p',e,S⟩:=h.cV 1
 obtain ⟨jb,s1,Us,m,cs,e1,P,g,fh,hge,h5⟩:=acg (c:=run Fx gg) rfl p' (S.few hp) (QJ rfl (S.few hp)) (S.real hR) (by rw[S.rs];exact hr) (emptyAt s) (ot s) (by rw[S.check];exact hn)
 refine ⟨jb,eN s s1,Us,m,cs,p',hc.at (s:=xU 22) rfl (OC ?_ (bL.tuple (by intro v hv;simp at hv;rcases hv with rfl|rfl|rfl<;>first|exact bL.int _ _|exact bL.ptr _ _)) P.aB.next),PS.eN h.aB.wf P,S,UC h.aB.wf hge g (fun v hv=> ?_),h5⟩
 . rw[List.map_cons,List.map_nil,e]
   exact e1
 . rcases List.mem_append.1 hv with hv|hv
   . exact P.bare v hv
   . rcases List.mem_cons.1 hv with rfl|hv
     . exact bL.map _
     . exact fh v hv
theorem ach (hc:xV c) (h:PS s0 s Vs p) (hR:p.Real) {jb m:Pos} {cs:List AV} (g:s.heap.get jb=some (.cells (Vs++ .map m::cs) 0)) (h5:Vs.length=5):
  ∃Us s' p',c 25 [.ptr jb 0] s=some (.agg Us,s')/\PS s s' Us p'/\p.cK p':=by
 obtain ⟨p',e,S⟩:=h.cV 1
 have hl:(Vs.map (cV s 3)).length=5:=by simpa using h5
 have e:Vs.map (cV s 3)=p'.cells:=by
  have e:cV s (3+1) (.agg Vs)= .agg p'.cells:=e
  rw[QF] at e
  exact AV.agg.inj e
 obtain ⟨Us,s1,e1,P⟩:=aep (c:=run Fx gg) rfl p' (S.real hR) ((Vs++ .map m::cs).map (cV s 3)) m (by
  rw[List.map_append,e]
  unfold cut
  rw[cM,decide_eq_true (by simp[aZ.cells])]
  simp[aZ.cells]) (by
  rw[List.map_append,List.getElem?_append_right (by rw[hl];exact Nat.le_refl _),hl]
  rfl) (emptyAt s) (ot s)
 refine ⟨Us,eN s s1,p',hc.at (s:=xU 25) rfl (OC ?_ (bL.agg P.bare) P.aB.next),PS.eN h.aB.wf P,S⟩
 rw[List.map_cons,List.map_nil,show cV s 4 (.ptr jb 0)= .fp [(Vs++ .map m::cs).map (cV s 3)] 0 0 from by rw[acR,g]]
 exact e1
theorem Tz (hc:xV c) (h:PS s0 s Vs p) {q:aZ} (hq:p.cK q) (hR:p.Real) (hk: ∀t∈p.ts,t.Ok):c 24 [.agg Vs,.agg q.cells] s=some (.bool true,s):=by
 obtain ⟨p',e,S⟩:=h.cV 1
 refine hc.at (s:=xU 24) rfl (zq ?_ (bL.bool _))
 rw[List.map_cons,List.map_cons,List.map_nil,e,QU]
 exact WH rfl p' q (S.symm.trans hq) ((S.real hR).ala (fun t ht=>by obtain ⟨u,hu,z,rfl⟩:=S.tab ht;have:=hk u hu;exact ⟨this.1,this.2⟩)) (emptyAt s) (ot s)
end
end
noncomputable section
set_option linter.all false
set_option maxRecDepth 100000
set_option maxHeartbeats 4000000
open Go Go.Ai Go.Proofs
attribute [local go_sem ↓] aW QG ev evX EY getLT Hf aag kat D4 D5 VP aah aai aaj VQ VR VS VT VU VV aak aal VW VX VY VZ V8 adS adT adU
attribute [local go_sem] aW QG ev
section
variable (c : ak) (F : Nat) (x0 x1 x2 x3 x4 x5 x6 x7 x8 x9 x10 x11 : AV) (s : St)
def Fy:Sh:=(sq sl (sq (sq sl (sc (sq sl sl) sl)) (sq sl (sq sl (sq sl (sq sl (sq sl sl)))))))
def Fz:PX 4 Fy:=⟨_,by conv=>lhs;reduce⟩
def Bu:O2:=aW c F aV Fz.1 [x0] s
def xW:=(by dsimp only[Bu,Fz,go_sem,Int.reduceOfNat]:Bu c F x0 s=_)
end
section
variable {c : ak} (hc : xV c) (F : Nat) {x0 x1 x2 x3 x4 x5 x6 x7 x8 x9 x10 x11 : AV} {s : St} {r : AV × St}
include hc
theorem uE (h:Bu c F x0 s=some r):c 4 [x0] s=some (tidy s r):=hc.o0 F Fy (by kernel_rfl) (by kernel_rfl) h
end
end
section
set_option maxRecDepth 100000
open Go Go.Ai Go.Proofs
variable {c : ak}
theorem aZ.cK.refl (p:aZ):p.cK p:=⟨rfl,fun i t t' h1 h2=>⟨t.oz,by rw[h1] at h2;cases h2;rfl⟩,rfl,fun i t t' h1 h2=>⟨t.tz,by rw[h1] at h2;cases h2;rfl⟩,rfl,rfl,rfl⟩
theorem afZ {R:Type} (q:Pos) (o:Nat) (K:AV->Option R):fM (.bin .eql .ptr) [.ptr q o,.dP] K=K (.bool false):=id rfl
theorem af0 {R:Type} (K:AV->Option R):fM (.bin .eql .ptr) [.dP,.dP] K=K (.bool true):=id rfl
theorem af1 {R:Type} (a b:Bool) (K:AV->Option R):fM (.bin .eql .bool) [.bool a,.bool b] K=K (.bool (a==b)):=id rfl
theorem ahR {p:aZ} (h:(bN p).2=0):(bN p).1=0:=by
 unfold bN at h ⊢
 split at h
 . rename_i k;exact absurd h k
 . rename_i k;rw[if_neg k];exact BL p 100 0 h
theorem af2 (z:Bool) (l:List Ty):cC 3 (bH z l):=cC.ro fun r hr v hv=>by
 simp only[List.mem_map] at hr
 obtain ⟨g,_,rfl⟩:=hr
 simp only[Ty.cells,List.mem_cons,List.not_mem_nil,or_false] at hv
 rcases hv with rfl|rfl|rfl<;>first|exact cC.str _|exact cC.int _ _
theorem ajw (p:aZ):eC (.agg p.cells) (.agg p.cells)=true:=Mw fun v hv=>by
 simp only[aZ.cells,List.mem_cons,List.not_mem_nil,or_false] at hv
 rcases hv with rfl|rfl|rfl|rfl|rfl
 . exact ad7 _ _
 . exact Ea _ _
 . exact af2 _ _
 . exact zG _ _
 . exact OJ _ _
theorem YM (hc:xV c) (p:aZ) (hl:p.Laid) (s:St) (hw:Wf s):c 4 [.agg p.cells] s=some (.bool true,s):=by
 have aX:Wf (ai s (.cells p.cells 0)):=aQ hw
 have G1:=Grew.ai hw (.cells p.cells 0)
 have p1:=aH s (.cells p.cells 0)
 have F:c 19 [.agg p.cells,.int .i64 100] (ai s (.cells p.cells 0))=some (.bool (OQ p 100),ai s (.cells p.cells 0)):=ajt hc p 100 _
 cases h:OQ p 100 with
 |false=>
  have A:=Pe hc (ai s (.cells p.cells 0))
  rw[h] at F
  rw[uE hc 1 (r:=(.bool true,ai s (.cells p.cells 0))),au (Plain.bool _) G1.keeps]
  rw[xW]
  simp[p1,F,A]
 |true=>
  rw[h] at F
  have hk: ∀t∈p.ts,t.Ok:=fun t ht=>(hl.tab t ht).1
  have hp:=ahx h hk
  have hR:p.Real:=⟨by have:=hp.ts;omega,fun t ht=>(hl.tab t ht).2,by have:=hp.gs;omega,hl.bB,hl.ys,hl.cs,hl.rs⟩
  obtain ⟨Vs,s1,e1,P⟩:=ahQ hc p hR _ aX
  obtain ⟨vl,vo⟩:=P.cells
  have w1:=P.aB.wf
  have G2:=Grew.ai w1 (.cells Vs 0)
  have w2:=G2.wf
  have P2:=P.ja aX (Grew.refl aX) (P.aB.trans G2) (fun q b _ hx=>G2.get hx)
  have x3:=aH s1 (.cells Vs 0)
  have x1:=(P.aB.trans G2).get p1
  have C:=afY hc P2 hp hl.rul
  have vc:cut Vs 0 5=some Vs:=cD vl
  have Gs:=G1.trans (P.aB.trans G2)
  have st5: ∀(K:AV->St->Option (AV×St)),aj c (.store 5) [.ptr s1.next 0,.agg Vs] (ai s1 (.cells [.ah,.ah,.ah,.ah,.ah] 0)) K=K .undef (ai s1 (.cells Vs 0)):=fun K=>dy c K s1 5 (.agg Vs) _ vl rfl vo
  by_cases hn:(bN p).2=0
  . obtain ⟨jb,s2,Us,m,cs,p2,N,Q,S2,g,h5⟩:=ajv hc P2 hp hR hl.rul hn
    have G3:=Q.aB
    have P3:=P2.ja aX (Grew.refl aX) ((P.aB.trans G2).trans G3) fun q b _ hx=>G3.get hx
    have y1:=G3.get x1
    have y3:=G3.get x3
    have R:=Pg hc p hp hl.rul s2
    have Sa:=Tz hc P3 (aZ.cK.refl p) hR hk
    obtain ⟨Us2,s3,p3,e3,Q3,S3⟩:=ach hc Q (S2.real hR) g h5
    have z1:=Q3.aB.get y1
    have S4:=S2.trans S3
    have Sb:=Tz hc Q3 S4.symm (S4.real hR) (fun t ht=>by obtain ⟨u,hu,z,rfl⟩:=S4.tab ht;have:=hk u hu;exact ⟨this.1,this.2⟩)
    have A:=Pe hc s3
    have r2:=fun (K:AV->Option (AV×St))=>aab K (m:=5) (o:=0) (l:=p.cells) (h:=s3.heap) (h2:=s2.heap) (by rw[z1];rfl) (by rw[y1];rfl) (ajw p)
    have i0:(bN p).1=0:=ahR hn
    rw[hn,i0] at R C
    rw[uE hc 1 (r:=(.bool true,s3)),au (Plain.bool _) ((Gs.trans G3).trans Q3.aB).keeps]
    rw[xW]
    simp[-dy,afZ,af0,af1,p1,F,e1,st5,x1,x3,C,N,R,Sa,e3,Sb,A,y1,y3,z1,r2,vc]
  . have N:=aju hc P2 hp hl.rul hn
    have R:=Pg hc p hp hl.rul (ai s1 (.cells Vs 0))
    have S:=Tz hc P2 (aZ.cK.refl p) hR hk
    have A:=Pe hc (ai s1 (.cells Vs 0))
    rw[uE hc 1 (r:=(.bool true,ai s1 (.cells Vs 0))),au (Plain.bool _) Gs.keeps]
    rw[xW]
    simp[-dy,afZ,af0,af1,p1,F,e1,st5,x1,x3,C,N,R,S,A,hn,vc]
end
end Go.Proofs.YthiaklapeamjlaaGreatDoor
