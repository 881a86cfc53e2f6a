/- What the plain functions answer: names and what is asked of a rule. -/
import Derived.Test.YtehbdakjkjkekaaGreatDoorSPlainA
import Derived.Test.YtehbdakjkjkekaaGreatDoorSEvalE
set_option linter.all false
set_option linter.unusedSectionVars false
set_option linter.deprecated false
section
set_option maxRecDepth 100000
namespace Go.Proofs.YtehbdakjkjkekaaGreatDoor
open Go Go.Ai Go.Proofs
variable {c : ai}
def Q3 (N0:Nat) (s:St) (X:Pos) (bs:List Nat):Prop:=
 X.toNat<N0/\N0<=s.next.toNat/\(∀x∈bs,x<256)/\ ∃p v,s.heap.get X=some (.typed 81 [p,v])/\(p= .bq\/p= .ptr X 0)/\
    ((v= .aj/\bs=[])\/ ∃Y,v= .slice Y 0 bs.length none 1/\s.heap.get Y=some (.typed 5 (wq bs))/\N0<=Y.toNat/\bs≠[])
theorem OB {st st':St} {X:Pos} {x y:AB} (h:st.heap.get X=some x) (h':st'.heap.get X=some y) (en:x≠y): ¬cB st st':=fun k=>by
 have:=k X x h
 rw[h'] at this
 exact en (Option.some.inj this).symm
theorem KL {st st':St} {v:AV} (h: ¬cB st st'):tidy st (v,st')=(v,st'):=by
 unfold tidy;rw[if_neg]
 exact fun e=>h e.2
theorem Plain.tup0:Plain (.tuple []):=Plain.tuple (fun v h=>by cases h)
theorem Q4 (hc:Sem c) {s:St} {X:Pos} {p v:AV} (h:s.heap.get X=some (.typed 81 [p,v])) (hp:p= .bq\/p= .ptr X 0):
   ∃s',c 105 [.ptr X 0] s=some (.tuple [],s')/\s'.heap.get X=some (.typed 81 [.ptr X 0,v])/\(∀b,b≠X->s'.heap.get b=s.heap.get b)/\s'.next=s.next:=by
 rcases hp with rfl|rfl
 . refine ⟨rP s X (.typed 81 [.ptr X 0,v]),?_,Jo _ _ _,fun b hb=>rf (fun e=>hb e.symm),rfl⟩
   rw[pZ hc 1 (r:=(.tuple [],rP s X (.typed 81 [.ptr X 0,v]))),KL (OB h (Jo _ _ _) (by simp))]
   rw[nJ]
   have e1: ∀(K:AV->St->Option (AV×St)) (t:St),af c (.bin .eql .ptr) [.bq,.bq] t K=K (.bool true) t:=fun K t=>rfl
   have e2: ∀(K:AV->St->Option (AV×St)),af c .toU [.ptr X 0] s K=K (.ptr X 0) s:=fun K=>abN h (by simp) K
   have e3: ∀(K:AV->St->Option (AV×St)),af c (.fromU 81 2) [.ptr X 0] s K=K (.ptr X 0) s:=fun K=>XG h (by simp) K
   have e4: ∀(K:AV->St->Option (AV×St)),af c (.store 1) [.ptr X 0,.ptr X 0] s K=K .undef (rP s X (.typed 81 [.ptr X 0,v])):=fun K=>Ms (m:=1) h rfl (by simp) rfl K
   have e5:=TB hc (.ptr X 0) s
   simp[h,e1,e2,e3,e4,e5]
 . refine ⟨s,?_,h,fun _ _=>rfl,rfl⟩
   rw[pZ hc 1 (r:=(.tuple [],s)),aX Plain.tup0 (cB.refl s)]
   rw[nJ]
   have e1: ∀(K:AV->St->Option (AV×St)) (t:St),af c (.bin .eql .ptr) [.ptr X 0,.bq] t K=K (.bool false) t:=fun K t=>rfl
   have e2: ∀(K:AV->St->Option (AV×St)) (t:St),af c (.bin .neq .ptr) [.ptr X 0,.ptr X 0] t K=K (.bool false) t:=fun K t=>dm c K (fun H n=>by simp[aE.run,iH,n8,EY,Pos.beq_eq.2 rfl]) t
   simp[h,e1,e2]
theorem Ns (hc:Sem c) {N0:Nat} {s:St} {X:Pos} {bs u:List Nat} (hw:Wf s) (h:Q3 N0 s X bs) (hu:u≠[]) (hu2: ∀x∈u,x<256) (hl:bs.length+u.length<=140000000000000):
   ∃s',c 36 [.ptr X 0,.str u] s=some (.tuple [.int .i64 (u.length:Int),.oN],s')/\Q3 N0 s' X (bs++u)/\Wf s'/\(∀b,b≠X->b.toNat<N0->s'.heap.get b=s.heap.get b):=by
 obtain ⟨h1,h2,h3,p,v,hX,hp,hv⟩:=h
 obtain ⟨s1,c1,c2,c3,c4⟩:=Q4 hc hX hp
 have cH:Wf s1:=fun b x hb=>by
   rw[c4]
   by_cases e:b=X
   . subst e;exact hw _ _ hX
   . rw[c3 b e] at hb;exact hw _ _ hb
 have Uj:u.length≠0:=fun e=>hu (List.eq_nil_of_length_eq_zero e)
 have Es: ∀x∈bs++u,x<256:=fun x hx=>(List.mem_append.1 hx).elim (h3 x) (hu2 x)
 have key: ∃s2,(∀(K:AV->St->Option (AV×St)),af c (.appendT 5 1) [v,.str u] s1 K=K (.slice s1.next 0 (bs.length+u.length) none 1) s2)/\s2.heap.get X=some (.typed 81 [.ptr X 0,v])/\
     s2.heap.get s1.next=some (.typed 5 (wq (bs++u)))/\Wf s2/\s2.next=s1.next.succ/\ ∀b,b.toNat<N0->s2.heap.get b=s1.heap.get b:=by
   have hXs:X.toNat<s1.next.toNat:=by rw[c4];omega
   rcases hv with ⟨rfl,rfl⟩|⟨Y,rfl,hY,hN,hb⟩
   . refine ⟨au s1 (.typed 5 (wq u)),fun K=>by simpa using XH (c:=c) (st:=s1) (e:=5) (bytes:=1) (u:=u) (by omega) (by omega) Uj K,by rw[nS hXs];exact c2,aR _ _,eB cH,rfl,fun b hb=>nS (by rw[c4];omega)⟩
   . have hYX:Y≠X:=fun e=>by subst e;omega
     have hY1:s1.heap.get Y=some (.typed 5 (wq bs)):=by rw[c3 Y hYX];exact hY
     have mQ: ∀b,b≠Y->b≠s1.next->(s1.aI (some Y) none (some (.typed 5 (wq (bs++u))))).heap.get b=s1.heap.get b:=fun b cW cE=>by
        show (T.put _ s1.next (T.put none Y s1.heap)).get b=_
        rw[T.bN _ (fun e=>cE e.symm),T.bN _ (fun e=>cW e.symm)]
     refine ⟨s1.aI (some Y) none (some (.typed 5 (wq (bs++u)))),fun K=>Z8 hY1 (by omega) (by omega) Uj K,by rw[mQ X (fun e=>hYX e.symm) (fun e=>by rw[e] at hXs;omega)];exact c2,T.fj _ _ _,fun b x hb=> ?_,rfl,fun b hb=>mQ b (fun e=>by subst e;omega) (fun e=>by subst e;rw[c4] at hb;omega)⟩
     show b.toNat<s1.next.succ.toNat
     rw[Pos.aG]
     by_cases e1:b=s1.next
     .  subst e1;omega
     .  by_cases e2:b=Y
        . subst e2;have:=cH _ _ hY1;omega
        . rw[mQ b e2 e1] at hb;have:=cH _ _ hb;omega
 obtain ⟨s2,k1,k2,k3,k4,k5,k6⟩:=key
 have en:bs++u≠[]:=by simp[hu]
 have hXn:X≠s1.next:=fun e=>by rw[c4] at e;subst e;omega
 have hfin:(rP s2 X (.typed 81 [.ptr X 0,.slice s1.next 0 (bs.length+u.length) none 1])).heap.get X=some (.typed 81 [.ptr X 0,.slice s1.next 0 (bs.length+u.length) none 1]):=Jo _ _ _
 refine ⟨rP s2 X (.typed 81 [.ptr X 0,.slice s1.next 0 (bs.length+u.length) none 1]),?_,⟨h1,by rw[FK,k5,Pos.aG,c4];omega,Es,.ptr X 0,.slice s1.next 0 (bs.length+u.length) none 1,hfin,.inr rfl,.inr ⟨s1.next,by rw[List.length_append],by rw[rf hXn];exact k3,by rw[c4];omega,en⟩⟩,fun b x hb=> ?_,fun b cW cE=> ?_⟩
 . rw[wF hc 1 (r:=(.tuple [.int .i64 (u.length:Int),.oN],rP s2 X (.typed 81 [.ptr X 0,.slice s1.next 0 (bs.length+u.length) none 1]))),KL (OB hX hfin (by
     rcases hv with ⟨rfl,rfl⟩|⟨Y,rfl,hY,hN,hb⟩
     .  simp
     .  simp;intros;omega))]
   rw[qM]
   have e4: ∀(K:AV->St->Option (AV×St)),af c (.store 1) [.ptr X 1,.slice s1.next 0 (bs.length+u.length) none 1] s2 K=K .undef (rP s2 X (.typed 81 [.ptr X 0,.slice s1.next 0 (bs.length+u.length) none 1])):=fun K=>Ms (m:=1) k2 rfl (by simp) rfl K
   simp[c1,c2,k1,e4]
 . rw[FK]
   by_cases e:b=X
   . subst e;rw[k5,Pos.aG,c4];omega
   . rw[rf (fun e'=>e e'.symm)] at hb;exact k4 _ _ hb
 . rw[rf (fun e=>cW e.symm),k6 b cE,c3 b cW]
theorem VR (hc:Sem c) {N0:Nat} {s:St} {X:Pos} {bs:List Nat} (h:Q3 N0 s X bs) (hl:bs.length<=140000000000000):
   ∃s',c 37 [.ptr X 0] s=some (.str bs,s')/\ ∀b,b.toNat<N0->s'.heap.get b=s.heap.get b:=by
 obtain ⟨h1,h2,h3,p,v,hX,hp,hv⟩:=h
 rcases hv with ⟨rfl,rfl⟩|⟨Y,rfl,hY,hN,hb⟩
 . refine ⟨s,?_,fun _ _=>rfl⟩
   rw[rQ hc 1 (r:=(.str [],s)),aX (Plain.str _) (cB.refl s)]
   rw[pQ]
   have e0: ∀(K:AV->Option (AV×St)),bg (.lenB .l) [.aj] K=K (.int .i64 0):=fun K=>rfl
   simp[hX,e0,Np,Nq]
 . have rH:bs.length≠0:=fun e=>hb (List.eq_nil_of_length_eq_zero e)
   refine ⟨s.aI (some Y) none none,?_,fun b hb=>T.bN _ (fun e=>by subst e;omega) _⟩
   have aip:(s.aI (some Y) none none).heap.get Y=none:=T.fj _ _ _
   rw[rQ hc 1 (r:=(.str bs,s.aI (some Y) none none)),KL (fun k=>by
    have:=k Y _ hY
    rw[aip] at this;cases this)]
   rw[pQ]
   have e1: ∀(K:AV->Option (AV×St)),bg .sliceData [.slice Y 0 bs.length none 1] K=K (.ptr Y 0):=fun K=>O9 rH K
   have e2: ∀(K:AV->St->Option (AV×St)),af c (.unsafeStr 5) [.ptr Y 0,.int .i64 (bs.length:Int)] s K=K (.str bs) (s.aI (some Y) none none):=fun K=>Pa hY rH (by omega) h3 K
   have e0: ∀(K:AV->Option (AV×St)),bg (.lenB .l) [.slice Y 0 bs.length none 1] K=K (.int .i64 (bs.length:Int)):=fun K=>rfl
   simp[hX,e0,e1,e2]
end Go.Proofs.YtehbdakjkjkekaaGreatDoor
end
section
set_option maxRecDepth 100000
namespace Go.Proofs.YtehbdakjkjkekaaGreatDoor
open Go Go.Ai Go.Proofs
variable {c : ai}
def eU (s:List Nat):Bool:=decide (1<=s.length)&&decide (s.length<=12)&&s.all fun c=>decide (97<=c/\c<=122)
theorem abO (s:List Nat) (hs:s.length<=12) (F:Nat) (st:St) (k1 k2): ∀(m k:Nat),s.length<=k+m->k<=s.length->
  iL c F k1 k2 (m+1) [.str s,.int .i64 (k:Int)] st=if (s.drop k).all (fun c=>decide (97<=c/\c<=122))=true then k2 [] st else k1 [.bool false] st:=by
 intro m
 induction m with
 |zero=>
  intro k h1 h2
  rw[iL]
  obtain rfl:k=s.length:=by omega
  simp
 |succ m ih=>
  intro k h1 h2
  rw[iL]
  by_cases h:k<s.length
  . have e:s.drop k=s[k]::s.drop (k+1):=List.drop_eq_getElem_cons h
    have:=ih (k+1) (by omega) (by omega)
    have w:aY .i64 ((k:Int)+1)=((k+1:Nat):Int):=wrap64 (by omega) (by omega)
    rw[e,List.all_cons]
    generalize (s.drop (k+1)).all _=rest at this ⊢
    by_cases h3:(s[k]:Int)<97
    .   have h5:decide (97<=s[k]/\s[k]<=122)=false:=by simp;omega
        simp[h,h3,h5]
    .   by_cases h4:122<(s[k]:Int)
        . have h5:decide (97<=s[k]/\s[k]<=122)=false:=by simp;omega
          simp[h,h3,h4,h5]
        . have h5:decide (97<=s[k]/\s[k]<=122)=true:=by simp;omega
          rw[h5,Bool.true_and, <-this]
          simp[h,h3,h4,w]
  . obtain rfl:k=s.length:=by omega
    simp
theorem Ev (hc:Sem c) (s:List Nat) (st:St):c 106 [.str s] st=some (.bool (eU s),st):=by
 rw[Hp hc (s.length+1) (r:=(.bool (eU s),st)),aX (Plain.bool _) (cB.refl st)]
 rw[w7]
 by_cases h0:(s.length:Int)<1
 . have h1: ¬1<=s.length:=by omega
   simp[eU,h0,h1]
 . by_cases h1:12<(s.length:Int)
   . have h2: ¬s.length<=12:=by omega
     simp[eU,h0,h1,h2]
   . have h2:s.length<=12:=by omega
     have h3:1<=s.length:=by omega
     have L: ∀k1 k2,iL c (s.length+1) k1 k2 (s.length+1) [.str s,.int .i64 0] st=if (s.drop 0).all (fun c=>decide (97<=c/\c<=122))=true then k2 [] st else k1 [.bool false] st:=
        fun k1 k2=>abO (c:=c) s h2 (s.length+1) st k1 k2 s.length 0 (by omega) (by omega)
     rw[List.drop_zero] at L
     have e:eU s=s.all fun c=>decide (97<=c/\c<=122):=by simp[eU,h2,h3]
     rw[e]
     generalize (s.all _)=b at L ⊢
     simp[h0,h1,L]
     cases b<;>simp
end Go.Proofs.YtehbdakjkjkekaaGreatDoor
end
section
set_option maxRecDepth 100000
namespace Go.Proofs.YtehbdakjkjkekaaGreatDoor
open Go Go.Ai Go.Proofs
variable {c : ai}
structure bO where
 name:List Nat
 sh:Int
 a:Int
 b:Int
 oz:Bool
 fF:List Int
 x:Int
 y:Int
def ints (z:Bool) (l:List Int):AV:=ro 1 z (l.map fun i=>[.int .i64 i])
def bO.cells (t:bO):List AV:=[.str t.name,.int .u8 t.sh,.int .i64 t.a,.int .i64 t.b,ints t.oz t.fF,.int .i64 t.x,.int .i64 t.y]
@[simp] theorem aab (z:Bool) (l:List Int):(ints z l).one=true:=afT _ _ _
def ew (t:bO):Int:=
 if t.sh=1 then (if 1<=t.a/\t.a<=24/\t.b=0 then t.a else 0)
 else if t.sh=2 then (if 1<=t.a/\t.a<=11/\0<=t.b/\t.b<=2 then 2*t.a+t.b else 0)
 else if t.sh=3 then (if 1<=t.a/\t.a<=8/\1<=t.b/\t.b<=8 then t.a+2*t.b else 0)
 else if t.sh=4 then (if 1<=t.a/\t.a<=24/\0<=t.b/\t.b<=t.a then t.a else 0)
 else 0
theorem fK (hc:Sem c) (n lo hi:Int) (st:St):c 188 [.int .i64 n,.int .i64 lo,.int .i64 hi] st=some (.bool (decide (lo<=n/\n<=hi)),st):=by
 rw[CA hc 1 (r:=(.bool (decide (lo<=n/\n<=hi)),st)),aX (Plain.bool _) (cB.refl st)]
 rw[xT]
 by_cases h:lo<=n<;>simp[h]
theorem FP (hc:Sem c) (t:bO) (st:St) (hw:Wf st):c 123 [.agg t.cells] st=some (.int .i64 (ew t),st):=by
 rw[Ew hc 1 (r:=(.int .i64 (ew t),au st (.cells t.cells 0))),aX (Plain.int _ _) (iK hw)]
 rw[Ag]
 obtain ⟨name,sh,a,b,oz,fF,x,y⟩:=t
 by_cases h1:sh=1
 . subst h1
   by_cases h2:1<=a/\a<=24<;>by_cases h3:b=0<;>simp[bO.cells,AV.cells,fK hc,ew,iJ,h2,h3]
 by_cases h4:sh=2
 . subst h4
   by_cases h2:1<=a/\a<=11
   . by_cases h3:0<=b/\b<=2
     .  have w1:aY .i64 (2*a)=2*a:=wrap64 (by omega) (by omega)
        have w2:aY .i64 (2*a+b)=2*a+b:=wrap64 (by omega) (by omega)
        simp[bO.cells,AV.cells,fK hc,ew,iJ,h2,h3,w1,w2]
     .  simp[bO.cells,AV.cells,fK hc,ew,iJ,h2,h3]
   . simp[bO.cells,AV.cells,fK hc,ew,iJ,h2];omega
 by_cases h5:sh=3
 . subst h5
   by_cases h2:1<=a/\a<=8
   . by_cases h3:1<=b/\b<=8
     .  have w1:aY .i64 (2*b)=2*b:=wrap64 (by omega) (by omega)
        have w2:aY .i64 (a+2*b)=a+2*b:=wrap64 (by omega) (by omega)
        simp[bO.cells,AV.cells,fK hc,ew,iJ,h2,h3,w1,w2]
     .  simp[bO.cells,AV.cells,fK hc,ew,iJ,h2,h3]
   . simp[bO.cells,AV.cells,fK hc,ew,iJ,h2];omega
 by_cases h6:sh=4
 . subst h6
   by_cases h2:1<=a/\a<=24
   . by_cases h3:0<=b/\b<=a
     .  simp[bO.cells,AV.cells,fK hc,ew,iJ,h2,h3]
     .  simp[bO.cells,AV.cells,fK hc,ew,iJ,h2,h3]
   . simp[bO.cells,AV.cells,fK hc,ew,iJ,h2];omega
 simp[bO.cells,AV.cells,fK hc,ew,iJ,h1,h4,h5,h6]
theorem Pb (hc:Sem c) (a b:Int) (st:St):c 232 [.int .i64 a,.int .i64 b] st=some (.int .i64 (if 1<=a/\a<=24/\b=0 then a else 0),st):=by
 rw[Hq hc 1 (r:=(.int .i64 (if 1<=a/\a<=24/\b=0 then a else 0),st)),aX (Plain.int _ _) (cB.refl st)]
 rw[Dc]
 by_cases h1:a<1
 . have: ¬1<=a:=by omega
   simp[h1,this]
 . by_cases h2:24<a
   . have: ¬a<=24:=by omega
     simp[h1,h2,this]
   . have h3:1<=a:=by omega
     have h4:a<=24:=by omega
     by_cases h5:b=0<;>simp[h1,h2,h3,h4,h5]
theorem Q5 (hc:Sem c) (a b:Int) (st:St):c 237 [.int .i64 a,.int .i64 b] st=some (.int .i64 (if 1<=a/\a<=11/\0<=b/\b<=2 then 2*a+b else 0),st):=by
 rw[IA hc 1 (r:=(.int .i64 (if 1<=a/\a<=11/\0<=b/\b<=2 then 2*a+b else 0),st)),aX (Plain.int _ _) (cB.refl st)]
 rw[Ey]
 by_cases h1:a<1
 . have: ¬1<=a:=by omega
   simp[h1,this]
 by_cases h2:11<a
 . have: ¬a<=11:=by omega
   simp[h1,h2,this]
 by_cases h3:b<0
 . have: ¬0<=b:=by omega
   simp[h1,h2,h3,this]
 by_cases h4:2<b
 . have: ¬b<=2:=by omega
   simp[h1,h2,h3,h4,this]
 have h5:1<=a:=by omega
 have h6:a<=11:=by omega
 have h7:0<=b:=by omega
 have h8:b<=2:=by omega
 have w1:aY .i64 (2*a)=2*a:=wrap64 (by omega) (by omega)
 have w2:aY .i64 (2*a+b)=2*a+b:=wrap64 (by omega) (by omega)
 simp[h1,h2,h3,h4,h5,h6,h7,h8,w1,w2]
theorem Q7 (hc:Sem c) (a b:Int) (st:St):c 242 [.int .i64 a,.int .i64 b] st=some (.int .i64 (if 1<=a/\a<=8/\1<=b/\b<=8 then a+2*b else 0),st):=by
 rw[IB hc 1 (r:=(.int .i64 (if 1<=a/\a<=8/\1<=b/\b<=8 then a+2*b else 0),st)),aX (Plain.int _ _) (cB.refl st)]
 rw[Ez]
 by_cases h1:a<1
 . have: ¬1<=a:=by omega
   simp[h1,this]
 by_cases h2:8<a
 . have: ¬a<=8:=by omega
   simp[h1,h2,this]
 by_cases h3:b<1
 . have: ¬1<=b:=by omega
   simp[h1,h2,h3,this]
 by_cases h4:8<b
 . have: ¬b<=8:=by omega
   simp[h1,h2,h3,h4,this]
 have h5:1<=a:=by omega
 have h6:a<=8:=by omega
 have h7:1<=b:=by omega
 have h8:b<=8:=by omega
 have w1:aY .i64 (2*b)=2*b:=wrap64 (by omega) (by omega)
 have w2:aY .i64 (a+2*b)=a+2*b:=wrap64 (by omega) (by omega)
 simp[h1,h2,h3,h4,h5,h6,h7,h8,w1,w2]
theorem TC (hc:Sem c) (a b:Int) (st:St):c 247 [.int .i64 a,.int .i64 b] st=some (.int .i64 (if 1<=a/\a<=24/\0<=b/\b<=a then a else 0),st):=by
 rw[JB hc 1 (r:=(.int .i64 (if 1<=a/\a<=24/\0<=b/\b<=a then a else 0),st)),aX (Plain.int _ _) (cB.refl st)]
 rw[G8]
 by_cases h1:a<1
 . have: ¬1<=a:=by omega
   simp[h1,this]
 by_cases h2:24<a
 . have: ¬a<=24:=by omega
   simp[h1,h2,this]
 by_cases h3:b<0
 . have: ¬0<=b:=by omega
   simp[h1,h2,h3,this]
 by_cases h4:a<b
 . have: ¬b<=a:=by omega
   simp[h1,h2,h3,h4,this]
 have h5:1<=a:=by omega
 have h6:a<=24:=by omega
 have h7:0<=b:=by omega
 have h8:b<=a:=by omega
 simp[h1,h2,h3,h4,h5,h6,h7,h8]
def tN (sh:Int):List AV:=
 if sh=1 then [.str [114,111,117,110,100],.func 232 [] [],.func 233 [] [],.func 234 [] [],.func 235 [] [],.func 236 [] []]
 else if sh=2 then [.str [108,111,110,103],.func 237 [] [],.func 238 [] [],.func 239 [] [],.func 240 [] [],.func 241 [] []]
 else if sh=3 then [.str [104,111,114,115,101,115,104,111,101],.func 242 [] [],.func 243 [] [],.func 244 [] [],.func 245 [] [],.func 246 [] []]
 else if sh=4 then [.str [114,111,119],.func 247 [] [],.func 248 [] [],.func 249 [] [],.func 250 [] [],.func 251 [] []]
 else [.str [],.ax,.ax,.ax,.ax,.ax]
theorem plain_fn (f:Nat):Plain (.func f [] []):=Plain.func f (by simp) (by simp)
theorem XK (sh:Int): ∀v∈tN sh,Plain v:=by
 unfold tN;intro v hv
 repeat' split at hv
 all_goals
  simp only[List.mem_cons,List.not_mem_nil,or_false] at hv
  rcases hv with rfl|rfl|rfl|rfl|rfl|rfl<;>first|exact Plain.str _|exact Plain.ax|exact plain_fn _
theorem u5 (hc:Sem c) (sh:Int) (st:St) (hw:Wf st):c 202 [.int .u8 sh] st=some (.tuple [.agg (tN sh),.bool (decide (1<=sh/\sh<=4))],st):=by
 have hp:Plain (.tuple [.agg (tN sh),.bool (decide (1<=sh/\sh<=4))]):=Plain.tuple fun v hv=>by
   simp only[List.mem_cons,List.not_mem_nil,or_false] at hv
   rcases hv with rfl|rfl
   . exact Plain.agg (XK sh)
   . exact Plain.bool _
 rw[JC hc 1 (r:=(.tuple [.agg (tN sh),.bool (decide (1<=sh/\sh<=4))],au st (.cells (tN sh) 0))),aX hp (iK hw)]
 rw[G9]
 by_cases h1:sh=1
 . subst h1;simp[tN,AV.cells,cS,AV.one,fB,dY,aV,gb]
 by_cases h2:sh=2
 . subst h2;simp[tN,AV.cells,cS,AV.one,fB,dY,aV,gb]
 by_cases h3:sh=3
 . subst h3;simp[tN,AV.cells,cS,AV.one,fB,dY,aV,gb]
 by_cases h4:sh=4
 . subst h4;simp[tN,AV.cells,cS,AV.one,fB,dY,aV,gb]
 have h5:decide (1<=sh/\sh<=4)=false:=by simp;omega
 rw[h5]
 simp[tN,AV.cells,cS,AV.one,fB,dY,aV,gb,h1,h2,h3,h4]
theorem Nu (hc:Sem c) (t:bO) (st:St) (hw:Wf st):c 138 [.agg t.cells] st=some (.int .i64 (ew t),st):=by
 rw[Pc hc 1 (r:=(.int .i64 (ew t),au (au st (.cells t.cells 0)) (.cells (tN t.sh) 0))),aX (Plain.int _ _) ((iK hw).trans (iK (eB hw)))]
 rw[OC]
 obtain ⟨name,sh,a,b,oz,fF,x,y⟩:=t
 by_cases h1:sh=1
 . subst h1;simp[bO.cells,AV.cells,u5 hc,hw,ew,tN,cS,AV.one,Pb hc]
 by_cases h2:sh=2
 . subst h2;simp[bO.cells,AV.cells,u5 hc,hw,ew,tN,cS,AV.one,Q5 hc]
 by_cases h3:sh=3
 . subst h3;simp[bO.cells,AV.cells,u5 hc,hw,ew,tN,cS,AV.one,Q7 hc]
 by_cases h4:sh=4
 . subst h4;simp[bO.cells,AV.cells,u5 hc,hw,ew,tN,cS,AV.one,TC hc]
 have h5:decide (1<=sh/\sh<=4)=false:=by simp;omega
 simp[bO.cells,AV.cells,u5 hc,hw,ew,tN,cS,AV.one,h1,h2,h3,h4,h5]
end Go.Proofs.YtehbdakjkjkekaaGreatDoor
end
section
set_option maxRecDepth 100000
namespace Go.Proofs.YtehbdakjkjkekaaGreatDoor
open Go Go.Ai Go.Proofs
variable {c : ai}
def qN:Nat:=9223372036854775808
theorem DM (s:List Nat) (hs:s.length<=12) (F:Nat) (st:St) (k1 k2): ∀(m k:Nat),s.length<=k+m->k<=s.length->
  gF c F k1 k2 (m+1) [.str s,.int .i64 (k:Int)] st=if (s.drop k).all (fun c=>decide (97<=c/\c<=122))=true then k2 [] st else k1 [.bool false] st:=by
 intro m
 induction m with
 |zero=>
  intro k h1 h2
  rw[gF]
  obtain rfl:k=s.length:=by omega
  simp
 |succ m ih=>
  intro k h1 h2
  rw[gF]
  by_cases h:k<s.length
  . have e:s.drop k=s[k]::s.drop (k+1):=List.drop_eq_getElem_cons h
    have:=ih (k+1) (by omega) (by omega)
    have w:aY .i64 ((k:Int)+1)=((k+1:Nat):Int):=wrap64 (by omega) (by omega)
    rw[e,List.all_cons]
    generalize (s.drop (k+1)).all _=rest at this ⊢
    by_cases h3:(s[k]:Int)<97
    .   have h5:decide (97<=s[k]/\s[k]<=122)=false:=by simp;omega
        simp[h,h3,h5]
    .   by_cases h4:122<(s[k]:Int)
        . have h5:decide (97<=s[k]/\s[k]<=122)=false:=by simp;omega
          simp[h,h3,h4,h5]
        . have h5:decide (97<=s[k]/\s[k]<=122)=true:=by simp;omega
          rw[h5,Bool.true_and, <-this]
          simp[h,h3,h4,w]
  . obtain rfl:k=s.length:=by omega
    simp
theorem FQ (hc:Sem c) (s:List Nat) (st:St):c 223 [.str s] st=some (.bool (eU s),st):=by
 rw[EA hc (s.length+1) (r:=(.bool (eU s),st)),aX (Plain.bool _) (cB.refl st)]
 rw[uQ]
 by_cases h0:(s.length:Int)=0
 . have h1: ¬1<=s.length:=by omega
   have h2:s=[]:=List.eq_nil_of_length_eq_zero (by omega)
   subst h2
   simp[eU]
 . by_cases h1:12<(s.length:Int)
   . have h2: ¬s.length<=12:=by omega
     have h3: ¬s=[]:=by intro e;subst e;simp at h0
     simp[eU,h1,h2,h3]
   . have h2:s.length<=12:=by omega
     have h3:1<=s.length:=by omega
     have h4: ¬s=[]:=by intro e;subst e;simp at h0
     have L: ∀k1 k2,gF c (s.length+1) k1 k2 (s.length+1) [.str s,.int .i64 0] st=if (s.drop 0).all (fun c=>decide (97<=c/\c<=122))=true then k2 [] st else k1 [.bool false] st:=
        fun k1 k2=>DM (c:=c) s h2 (s.length+1) st k1 k2 s.length 0 (by omega) (by omega)
     rw[List.drop_zero] at L
     have e:eU s=s.all fun c=>decide (97<=c/\c<=122):=by simp[eU,h2,h3]
     rw[e]
     generalize (s.all _)=b at L ⊢
     simp[h1,h4,L]
     cases b<;>simp
theorem Nv (s:List Nat) (hs:s.length<=12) (F:Nat) (st:St) (k1 k2): ∀(m k:Nat),s.length<=k+m->k<=s.length->
  od c F k1 k2 (m+1) [.str s,.int .i64 (s.length:Int),.int .i64 (k:Int)] st=if (s.drop k).all (fun c=>decide (97<=c/\c<=122))=true then k2 [] st else k1 [.bool false] st:=by
 intro m
 induction m with
 |zero=>
  intro k h1 h2
  rw[od]
  obtain rfl:k=s.length:=by omega
  simp
 |succ m ih=>
  intro k h1 h2
  rw[od]
  by_cases h:k<s.length
  . have e:s.drop k=s[k]::s.drop (k+1):=List.drop_eq_getElem_cons h
    have:=ih (k+1) (by omega) (by omega)
    have w:aY .i64 ((k:Int)+1)=((k+1:Nat):Int):=wrap64 (by omega) (by omega)
    rw[e,List.all_cons]
    generalize (s.drop (k+1)).all _=rest at this ⊢
    by_cases h3:(s[k]:Int)<97
    .   have h5:decide (97<=s[k]/\s[k]<=122)=false:=by simp;omega
        simp[h,h3,h5]
    .   by_cases h4:122<(s[k]:Int)
        . have h5:decide (97<=s[k]/\s[k]<=122)=false:=by simp;omega
          simp[h,h3,h4,h5]
        . have h5:decide (97<=s[k]/\s[k]<=122)=true:=by simp;omega
          rw[h5,Bool.true_and, <-this]
          simp[h,h3,h4,w]
  . obtain rfl:k=s.length:=by omega
    simp
theorem Q8 (hc:Sem c) (s:List Nat) (st:St):c 116 [.str s] st=some (.bool (eU s),st):=by
 rw[Pd hc (s.length+1) (r:=(.bool (eU s),st)),aX (Plain.bool _) (cB.refl st)]
 rw[IC]
 by_cases h0:(s.length:Int)=0
 . have h1: ¬1<=s.length:=by omega
   have h2:s=[]:=List.eq_nil_of_length_eq_zero (by omega)
   subst h2
   simp[eU]
 . by_cases h1:12<(s.length:Int)
   . have h2: ¬s.length<=12:=by omega
     have h3: ¬s=[]:=by intro e;subst e;simp at h0
     simp[eU,h1,h2,h3]
   . have h2:s.length<=12:=by omega
     have h3:1<=s.length:=by omega
     have h4: ¬s=[]:=by intro e;subst e;simp at h0
     have L: ∀k1 k2,od c (s.length+1) k1 k2 (s.length+1) [.str s,.int .i64 (s.length:Int),.int .i64 0] st=if (s.drop 0).all (fun c=>decide (97<=c/\c<=122))=true then k2 [] st else k1 [.bool false] st:=
        fun k1 k2=>Nv (c:=c) s h2 (s.length+1) st k1 k2 s.length 0 (by omega) (by omega)
     rw[List.drop_zero] at L
     have e:eU s=s.all fun c=>decide (97<=c/\c<=122):=by simp[eU,h2,h3]
     rw[e]
     generalize (s.all _)=b at L ⊢
     simp[h1,h4,L]
     cases b<;>simp
theorem Nw (s:List Nat) (hs:s.length<qN) (F:Nat) (st:St) (k1 k2): ∀(m k:Nat),s.length<=k+m->k<=s.length->
  oe c F k1 k2 (m+1) [.str s,.int .i64 (k:Int)] st=if (s.drop k).all (fun c=>decide (97<=c/\c<=122))=true then k2 [.str s] st else k1 [.bool false] st:=by
 intro m
 induction m with
 |zero=>
  intro k h1 h2
  rw[oe]
  obtain rfl:k=s.length:=by omega
  simp
 |succ m ih=>
  intro k h1 h2
  rw[oe]
  by_cases h:k<s.length
  . have e:s.drop k=s[k]::s.drop (k+1):=List.drop_eq_getElem_cons h
    have:=ih (k+1) (by omega) (by omega)
    have w:aY .i64 ((k:Int)+1)=((k+1:Nat):Int):=wrap64 (by omega) (by unfold qN at hs;omega)
    rw[e,List.all_cons]
    generalize (s.drop (k+1)).all _=rest at this ⊢
    by_cases h3:(s[k]:Int)<97
    .   have h5:decide (97<=s[k]/\s[k]<=122)=false:=by simp;omega
        simp[h,h3,h5]
    .   by_cases h4:122<(s[k]:Int)
        . have h5:decide (97<=s[k]/\s[k]<=122)=false:=by simp;omega
          simp[h,h3,h4,h5]
        . have h5:decide (97<=s[k]/\s[k]<=122)=true:=by simp;omega
          rw[h5,Bool.true_and, <-this]
          simp[h,h3,h4,w]
  . obtain rfl:k=s.length:=by omega
    simp
theorem Q9 (hc:Sem c) (s:List Nat) (hs:s.length<qN) (st:St):c 222 [.str s] st=some (.bool (eU s),st):=by
 rw[Pe hc (s.length+1) (r:=(.bool (eU s),st)),aX (Plain.bool _) (cB.refl st)]
 rw[ID]
 have L: ∀k1 k2,oe c (s.length+1) k1 k2 (s.length+1) [.str s,.int .i64 0] st=if (s.drop 0).all (fun c=>decide (97<=c/\c<=122))=true then k2 [.str s] st else k1 [.bool false] st:=
   fun k1 k2=>Nw (c:=c) s hs (s.length+1) st k1 k2 s.length 0 (by omega) (by omega)
 rw[List.drop_zero] at L
 have e:eU s=(decide (1<=s.length)&&decide (s.length<=12)&&s.all fun c=>decide (97<=c/\c<=122)):=rfl
 rw[e]
 generalize (s.all _)=b at L ⊢
 simp[L]
 cases b
 . simp
 . by_cases h1:(1:Int)<=s.length
   . have h2:1<=s.length:=by omega
     by_cases h3:(s.length:Int)<=12
     .  have h4:s.length<=12:=by omega
        simp[h1,h2,h3,h4]
     .  have h4: ¬s.length<=12:=by omega
        simp[h1,h2,h3,h4]
   . have h2: ¬1<=s.length:=by omega
     simp[h1,h2]
def smN (s:List Nat):Bool:=decide (s=[])||eU s
end Go.Proofs.YtehbdakjkjkekaaGreatDoor
end
section
set_option maxRecDepth 100000
namespace Go.Proofs.YtehbdakjkjkekaaGreatDoor
open Go Go.Ai Go.Proofs
variable {c : ai}
def uR (n last:Int):List Int->Bool
 |[]=>true
 |k::l=>decide (last<k)&&decide (k<n)&&uR n k l
def vS (t:bO):Int:=
 if eU t.name=false then 4 else if ew t=0 then 10 else if uR (ew t) (-1) t.fF=false then 11
 else if 0<=t.x/\t.x<=1000/\0<=t.y/\t.y<=1000 then 0 else 2
structure bO.Ok (t:bO):Prop where
 name:t.name.length<qN
 fF:t.fF.length<qN
theorem Ra (l:List Int) (k:Nat) (h:k<l.length):((l.map fun i=>[AV.int .i64 i])[k]?.bind fun cs=>cs[0]?)=some (.int .i64 l[k]):=by
 simp[List.getElem?_map,List.getElem?_eq_getElem h]
theorem Mu (p:Pos) (n:Int) (z:Bool) (l:List Int) (hl:l.length<qN) (F:Nat) (st:St) (k1 k3): ∀(m k:Nat) (last:Int),l.length<=k+m->k<=l.length->
  mT c F k1 k3 (m+1) [.ptr p 0,.int .i64 n,.int .i64 last,ints z l,.int .i64 (l.length:Int),.int .i64 (k:Int)] st=if uR n last (l.drop k)=true then k3 [.ptr p 0] st else k1 [.int .i64 11] st:=by
 intro m
 induction m with
 |zero=>
  intro k last h1 h2
  rw[mT]
  obtain rfl:k=l.length:=by omega
  simp[uR]
 |succ m ih=>
  intro k last h1 h2
  rw[mT]
  by_cases h:k<l.length
  . have e:l.drop k=l[k]::l.drop (k+1):=List.drop_eq_getElem_cons h
    have:=ih (k+1) l[k] (by omega) (by omega)
    have w:aY .i64 ((k:Int)+1)=((k+1:Nat):Int):=wrap64 (by omega) (by unfold qN at hl;omega)
    have g:=Ra l k h
    rw[e,uR]
    generalize uR n l[k] (l.drop (k+1))=rest at this ⊢
    by_cases h3:l[k]<=last
    .   have h4: ¬last<l[k]:=by omega
        simp[ints,h,h3,h4,g]
    .   have h4:last<l[k]:=by omega
        by_cases h5:n<=l[k]
        . have h6: ¬l[k]<n:=by omega
          simp[ints,h,h3,h4,h5,h6,g]
        . have h6:l[k]<n:=by omega
          simp only[h4,h6,decide_true,Bool.true_and]
          rw[<-this]
          simp[ints,h,h3,h4,h5,h6,g,w]
  . obtain rfl:k=l.length:=by omega
    simp[uR]
theorem aac (hc:Sem c) (t:bO) (ht:t.Ok) (st:St) (hw:Wf st):c 177 [.agg t.cells] st=some (.int .i64 (vS t),st):=by
 rw[Nx hc (t.fF.length+1) (r:=(.int .i64 (vS t),au st (.cells t.cells 0))),aX (Plain.int _ _) (iK hw)]
 rw[FR]
 have hs:=Nu hc t (au st (.cells t.cells 0)) (eB hw)
 have hn:=Q9 hc t.name ht.name
 have hg:(au st (.cells t.cells 0)).heap.get st.next=some (.cells t.cells 0):=aR _ _
 have c0:t.cells[0]? =some (.str t.name):=rfl
 have c4:t.cells[4]? =some (ints t.oz t.fF):=rfl
 have c5:t.cells[5]? =some (.int .i64 t.x):=rfl
 have c6:t.cells[6]? =some (.int .i64 t.y):=rfl
 have cc:cut t.cells 0 7=some t.cells:=fB rfl
 have L: ∀k1 k3,mT c (t.fF.length+1) k1 k3 (t.fF.length+1) [.ptr st.next 0,.int .i64 (ew t),.int .i64 (-1),ints t.oz t.fF,.int .i64 (t.fF.length:Int),.int .i64 0] (au st (.cells t.cells 0))=
     if uR (ew t) (-1) (t.fF.drop 0)=true then k3 [.ptr st.next 0] (au st (.cells t.cells 0)) else k1 [.int .i64 11] (au st (.cells t.cells 0)):=
   fun k1 k3=>Mu st.next (ew t) t.oz t.fF ht.fF _ _ k1 k3 t.fF.length 0 (-1) (by omega) (by omega)
 rw[List.drop_zero] at L
 have lI: ∀(K:AV->St->Option (AV×St)) (s:St),af c (.lenB .l) [ints t.oz t.fF] s K=K (.int .i64 (t.fF.length:Int)) s:=fun K s=>by unfold ints;rw[tL];simp
 unfold vS
 generalize t.cells=tc at*
 generalize ew t=sz at*
 generalize uR sz (-1) t.fF=op at*
 by_cases h1:eU t.name=true
 . by_cases h2:sz=0
   . simp[AV.cells,hs,hn,hg,c0,cc,h1,h2]
   . cases op
     .  simp[AV.cells,hs,hn,hg,c0,c4,cc,h1,h2,lI,L]
     .  by_cases h3:t.x<0
        . have: ¬0<=t.x:=by omega
          simp[AV.cells,hs,hn,hg,c0,c4,c5,c6,cc,h1,h2,lI,L,h3,this]
        by_cases h4:1000<t.x
        . have: ¬t.x<=1000:=by omega
          simp[AV.cells,hs,hn,hg,c0,c4,c5,c6,cc,h1,h2,lI,L,h3,h4,this]
        by_cases h5:t.y<0
        . have: ¬0<=t.y:=by omega
          simp[AV.cells,hs,hn,hg,c0,c4,c5,c6,cc,h1,h2,lI,L,h3,h4,h5,this]
        by_cases h6:1000<t.y
        . have: ¬t.y<=1000:=by omega
          simp[AV.cells,hs,hn,hg,c0,c4,c5,c6,cc,h1,h2,lI,L,h3,h4,h5,h6,this]
        have h7:0<=t.x:=by omega
        have h8:t.x<=1000:=by omega
        have h9:0<=t.y:=by omega
        have wu:t.y<=1000:=by omega
        simp[AV.cells,hs,hn,hg,c0,c4,c5,c6,cc,h1,h2,lI,L,h3,h4,h5,h6,h7,h8,h9,wu]
 . simp[AV.cells,hs,hn,hg,c0,cc,h1]
theorem xe (t:bO):0<=ew t/\ew t<=1000:=by
 unfold ew;repeat' split
 all_goals omega
theorem Pg (hc:Sem c) (p:Pos) (t:bO) (hl:t.fF.length<qN) (n:Int) (hn:0<=n/\n<=1000) (F:Nat) (st:St) (hp:st.heap.get p=some (.cells t.cells 0)) (k1 k2): ∀(m k:Nat) (last:Int),t.fF.length<=k+m->k<=t.fF.length-> -1<=last->(∀h:0<k,∀h':k - 1<t.fF.length,t.fF[k - 1]=last)->(k=0->last= -1)->
  fQ c F k1 k2 (m+1) [.ptr p 0,.int .i64 n,.int .i64 (k:Int)] st=if uR n last (t.fF.drop k)=true then k2 [.ptr p 0] st else k1 [.int .i64 11] st:=by
 have c4:t.cells[4]? =some (ints t.oz t.fF):=rfl
 have lI: ∀(K:AV->St->Option (AV×St)) (s:St),af c (.lenB .l) [ints t.oz t.fF] s K=K (.int .i64 (t.fF.length:Int)) s:=fun K s=>by unfold ints;rw[tL];simp
 intro m
 induction m with
 |zero=>
  intro k last h1 h2 _ _ _
  rw[fQ]
  obtain rfl:k=t.fF.length:=by omega
  simp[uR,hp,c4,lI]
 |succ m ih=>
  intro k last h1 h2 hla aiq hz
  rw[fQ]
  by_cases h:k<t.fF.length
  . have e:t.fF.drop k=t.fF[k]::t.fF.drop (k+1):=List.drop_eq_getElem_cons h
    have w:aY .i64 ((k:Int)+1)=((k+1:Nat):Int):=wrap64 (by omega) (by unfold qN at hl;omega)
    have wn:aY .i64 (n - 1)=n - 1:=wrap64 (by omega) (by omega)
    have g:=Ra t.fF k h
    rw[e,uR]
    by_cases h3:0<=t.fF[k]/\t.fF[k]<=n - 1
    .   have h6:t.fF[k]<n:=by omega
        have:=ih (k+1) t.fF[k] (by omega) (by omega) (by omega) (fun _ _=>by simp) (fun h=>by omega)
        generalize uR n t.fF[k] (t.fF.drop (k+1))=rest at this ⊢
        by_cases h0:k=0
        . have h4:last<t.fF[k]:=by rw[hz h0];omega
          have hk: ¬0<k:=by omega
          simp only[h4,h6,decide_true,Bool.true_and]
          rw[<-this]
          simp[hp,c4,lI,ints,h,h3,wn,fK hc,hk,w]
        . have hk:0<k:=by omega
          have hk1:k - 1<t.fF.length:=by omega
          have oH:=aiq (by omega) hk1
          have wk:aY .i64 ((k:Int) - 1)=((k - 1:Nat):Int):=by rw[wrap64 (by omega) (by unfold qN at hl;omega)];omega
          by_cases h5:t.fF[k]<=last
          . have h4: ¬last<t.fF[k]:=by omega
            simp[hp,c4,lI,ints,h,h3,h4,h5,wn,fK hc,hk,hk1,oH,wk]
          . have h4:last<t.fF[k]:=by omega
            simp only[h4,h6,decide_true,Bool.true_and]
            rw[<-this]
            simp[hp,c4,lI,ints,h,h3,h5,wn,fK hc,hk,hk1,oH,wk,w]
    .   have h4:(decide (last<t.fF[k])&&decide (t.fF[k]<n))=false:=by simp;omega
        rw[h4,Bool.false_and]
        simp[hp,c4,lI,ints,h,h3,wn,fK hc]
  . obtain rfl:k=t.fF.length:=by omega
    simp[uR,hp,c4,lI]
theorem TD (hc:Sem c) (t:bO) (ht:t.Ok) (st:St) (hw:Wf st):c 184 [.agg t.cells] st=some (.int .i64 (vS t),st):=by
 rw[DN hc (t.fF.length+1) (r:=(.int .i64 (vS t),au st (.cells t.cells 0))),aX (Plain.int _ _) (iK hw)]
 rw[tO]
 have hs:=FP hc t (au st (.cells t.cells 0)) (eB hw)
 have hn:=FQ hc t.name
 have hg:(au st (.cells t.cells 0)).heap.get st.next=some (.cells t.cells 0):=aR _ _
 have c0:t.cells[0]? =some (.str t.name):=rfl
 have c4:t.cells[4]? =some (ints t.oz t.fF):=rfl
 have c5:t.cells[5]? =some (.int .i64 t.x):=rfl
 have c6:t.cells[6]? =some (.int .i64 t.y):=rfl
 have cc:cut t.cells 0 7=some t.cells:=fB rfl
 have hz:0<=ew t/\ew t<=1000:=xe t
 have L: ∀k1 k3,fQ c (t.fF.length+1) k1 k3 (t.fF.length+1) [.ptr st.next 0,.int .i64 (ew t),.int .i64 0] (au st (.cells t.cells 0))=
     if uR (ew t) (-1) (t.fF.drop 0)=true then k3 [.ptr st.next 0] (au st (.cells t.cells 0)) else k1 [.int .i64 11] (au st (.cells t.cells 0)):=
   fun k1 k3=>Pg hc st.next t ht.fF (ew t) hz _ _ hg k1 k3 t.fF.length 0 (-1) (by omega) (by omega) (by omega) (fun h=>by omega) (fun _=>rfl)
 rw[List.drop_zero] at L
 unfold vS
 generalize t.cells=tc at*
 generalize ew t=sz at*
 generalize uR sz (-1) t.fF=op at*
 by_cases h1:eU t.name=true
 . by_cases h2:sz=0
   . simp[AV.cells,hs,hn,hg,c0,cc,h1,h2]
   . cases op
     .  simp[AV.cells,hs,hn,hg,c0,cc,h1,h2,L]
     .  by_cases h3:0<=t.x/\t.x<=1000
        . by_cases h4:0<=t.y/\t.y<=1000
          . simp[AV.cells,hs,hn,hg,c0,c5,c6,cc,h1,h2,L,h3,h4,fK hc]
          . simp[AV.cells,hs,hn,hg,c0,c5,c6,cc,h1,h2,L,h3,h4,fK hc]
        . have h5: ¬(0<=t.x/\t.x<=1000/\0<=t.y/\t.y<=1000):=fun h=>h3 ⟨h.1,h.2.1⟩
          rw[if_neg h5]
          simp[AV.cells,hs,hn,hg,c0,c5,cc,h1,h2,L,h3,fK hc]
 . simp[AV.cells,hs,hn,hg,c0,cc,h1]
end Go.Proofs.YtehbdakjkjkekaaGreatDoor
end
section
set_option maxRecDepth 100000
namespace Go.Proofs.YtehbdakjkjkekaaGreatDoor
open Go Go.Ai Go.Proofs
variable {c : ai}
def scan (P:Nat->Bool):Nat->Nat->Int
 |0,_=> -1
 |m+1,k=>if P k=true then (k:Int) else scan P m (k+1)
theorem EB (P:Nat->Bool): ∀(m k:Nat),-1<=scan P m k/\(scan P m k<0->scan P m k= -1)
 |0,_=>by simp[scan]
 |m+1,k=>by
  unfold scan;split
  . omega
  . exact EB P m (k+1)
theorem KM {P:Nat->Bool}: ∀(m k:Nat),0<=scan P m k->k<=(scan P m k).toNat/\(scan P m k).toNat<k+m/\P (scan P m k).toNat=true
 |0,k,h=>by simp[scan] at h
 |m +1,k,h=>by
  unfold scan at h ⊢
  split
  . rename_i hp;simp;exact hp
  . rename_i hp
    rw[if_neg hp] at h
    have:=KM m (k+1) h
    exact ⟨by omega,by omega,this.2.2⟩
def tabs (z:Bool) (ts:List bO):AV:=ro 7 z (ts.map bO.cells)
@[simp] theorem bO.c0 (t:bO):t.cells[0]? =some (.str t.name):=id rfl
@[simp] theorem bO.c1 (t:bO):t.cells[1]? =some (.int .u8 t.sh):=id rfl
@[simp] theorem bO.c2 (t:bO):t.cells[2]? =some (.int .i64 t.a):=id rfl
@[simp] theorem bO.c3 (t:bO):t.cells[3]? =some (.int .i64 t.b):=id rfl
@[simp] theorem bO.c4 (t:bO):t.cells[4]? =some (ints t.oz t.fF):=id rfl
@[simp] theorem bO.c5 (t:bO):t.cells[5]? =some (.int .i64 t.x):=id rfl
@[simp] theorem bO.c6 (t:bO):t.cells[6]? =some (.int .i64 t.y):=id rfl
@[simp] theorem bO.cc (t:bO):cut t.cells 0 7=some t.cells:=fB rfl
theorem bO.len (t:bO):t.cells.length=7:=id rfl
@[simp] theorem bO.one (t:bO):cS t.cells=true:=by
  unfold bO.cells;simp only[cS,aab];rfl
@[simp] theorem ajd (l:List AV):(AV.agg l).cells=l:=id rfl
def kU (ts:List bO) (s:List Nat) (i:Nat):Bool:=decide (ts[i]?.map bO.name=some s)
def fq (ts:List bO):Nat->Nat->Int×Int
 |0,_=>(0,0)
 |  m+1,k=>match ts[k]? with
    |none=>(0,0)
    |some t=>if vS t≠0 then ((k:Int),vS t) else if 0<=scan (kU ts t.name) k 0 then ((k:Int),5) else fq ts m (k+1)
def cD (ts:List bO):Int×Int:=if 16<ts.length then (0,7) else fq ts ts.length 0
theorem FT (ts:List bO): ∀(m m' k:Nat),ts.length<=k+m->ts.length<=k+m'->fq ts m k=fq ts m' k
 |0,0,_,_,_=>rfl
 |0,m'+1,k,h,_=>by rw[fq,fq,List.getElem?_eq_none (by omega)]
 |m+1,0,k,_,h=>by rw[fq,fq,List.getElem?_eq_none (by omega)]
 |m+1,m'+1,k,h,h'=>by
  rw[fq,fq,FT ts m m' (k+1) (by omega) (by omega)]
theorem FU (ts:List bO): ∀(m k:Nat),(fq ts m k).2=0->(fq ts m k).1=0
 |0,_,_=>rfl
 |m +   1,k,h=>by
  rw[fq] at h ⊢
  split at h
  . rfl
  . split at h
    .   rename_i en;exact absurd h en
    .   split at h
        . simp at h
        . rename_i h1 h2
          rw[if_neg h1,if_neg h2];exact FU ts m (k+1) h
theorem Ny (z:Bool) (ts:List bO) (k:Nat) (hk:k<ts.length) (hl:ts.length<=16) (F:Nat) (st:St) (k1 k4): ∀(m j:Nat),k<=j+m->j<=k->
  eI c F k1 k4 (m+1) [tabs z ts,.int .i64 (k:Int),.int .i64 (j:Int)] st=if 0<=scan (kU ts ts[k].name) (k - j) j then k1 [.int .i64 (k:Int),.int .i64 5] st else k4 [tabs z ts,.int .i64 (k:Int)] st:=by
 intro m
 induction m with
 |zero=>
  intro j h1 h2
  obtain rfl:j=k:=by omega
  rw[eI]
  simp[scan]
 |succ m ih=>
  intro j h1 h2
  rw[eI]
  by_cases h:j<k
  . have hj:j<ts.length:=by omega
    have e:k - j=(k - (j+1))+1:=by omega
    have w:aY .i64 ((j:Int)+1)=((j+1:Nat):Int):=wrap64 (by omega) (by omega)
    rw[e,scan]
    by_cases h3:ts[j].name=ts[k].name
    .   have:kU ts ts[k].name j=true:=by simp[kU,hj,h3]
        rw[if_pos this]
        simp[tabs,h,hj,hk,h3]
    .   have: ¬kU ts ts[k].name j=true:=by simp[kU,hj,h3]
        rw[if_neg this, <-ih (j+1) (by omega) (by omega)]
        simp[tabs,h,hj,hk,h3,w]
  . obtain rfl:j=k:=by omega
    simp[scan]
theorem Mv (hc:Sem c) (z:Bool) (ts:List bO) (dr: ∀t∈ts,t.Ok) (hl:ts.length<=16) (st:St) (hw:Wf st) (k1 k2): ∀(m k:Nat),ts.length<=k+m->k<=ts.length->
  eJ c 20 k1 k2 (m+1) [tabs z ts,.int .i64 (k:Int)] st=if (fq ts m k).2=0 then k2 [] st else k1 [.int .i64 (fq ts m k).1,.int .i64 (fq ts m k).2] st:=by
 intro m
 induction m with
 |zero=>
  intro k h1 h2
  obtain rfl:k=ts.length:=by omega
  rw[eJ]
  simp[fq,tabs]
 |succ m ih=>
  intro k h1 h2
  rw[eJ]
  by_cases h:k<ts.length
  . have w:aY .i64 ((k:Int)+1)=((k+1:Nat):Int):=wrap64 (by omega) (by omega)
    have hch:=TD hc ts[k] (dr _ (List.getElem_mem h)) st hw
    have L: ∀k1 k4,eI c 20 k1 k4 20 [tabs z ts,.int .i64 (k:Int),.int .i64 0] st=if 0<=scan (kU ts ts[k].name) (k - 0) 0 then k1 [.int .i64 (k:Int),.int .i64 5] st else k4 [tabs z ts,.int .i64 (k:Int)] st:=
        fun k1 k4=>Ny z ts k h hl 20 st k1 k4 19 0 (by omega) (by omega)
    rw[Nat.sub_zero] at L
    rw[fq,List.getElem?_eq_getElem h]
    simp only
    by_cases h3:vS ts[k]=0
    .   by_cases h4:0<=scan (kU ts ts[k].name) k 0
        . simp[tabs,h,hch,h3,h4] at L ⊢
          rw[L];simp
        . have:=ih (k+1) (by omega) (by omega)
          simp[tabs,h,hch,h3,h4] at L this ⊢
          rw[L];simp[w,this]
    .   simp[tabs,h,hch,h3]
  . obtain rfl:k=ts.length:=by omega
    simp[fq,tabs]
theorem Nz (hc:Sem c) (z:Bool) (ts:List bO) (dr: ∀t∈ts,t.Ok) (st:St) (hw:Wf st):c 118 [tabs z ts] st=some (.tuple [.int .i64 (cD ts).1,.int .i64 (cD ts).2],st):=by
 rw[AG hc 20 (r:=(.tuple [.int .i64 (cD ts).1,.int .i64 (cD ts).2],st)),aX (Plain.tuple (by simp[Plain.int])) (cB.refl st)]
 rw[qq]
 by_cases h:16<ts.length
 . have hi:(16:Int)<ts.length:=by omega
   simp[tabs,cD,h,hi]
 . have hi: ¬(16:Int)<ts.length:=by omega
   have L: ∀k1 k2,eJ c 20 k1 k2 20 [tabs z ts,.int .i64 0] st=if (fq ts 19 0).2=0 then k2 [] st else k1 [.int .i64 (fq ts 19 0).1,.int .i64 (fq ts 19 0).2] st:=
     fun k1 k2=>Mv hc z ts dr (by omega) st hw k1 k2 19 0 (by omega) (by omega)
   have e:cD ts=fq ts 19 0:=by rw[cD,if_neg h];exact FT ts _ _ 0 (by omega) (by omega)
   rw[e]
   simp[tabs,hi] at L ⊢
   rw[L]
   by_cases h2:(fq ts 19 0).2=0
   . have:=FU ts 19 0 h2
     simp[h2,this]
   . simp[h2]
end Go.Proofs.YtehbdakjkjkekaaGreatDoor
end
section
set_option maxRecDepth 100000
namespace Go.Proofs.YtehbdakjkjkekaaGreatDoor
open Go Go.Ai Go.Proofs
variable {c : ai}
theorem Rb (hc:Sem c) (x t:bO) (p:Pos) (st:St) (hw:Wf st) (hp:st.heap.get p=some (.cells t.cells 0)):c 179 [.agg x.cells,.ptr p 0] st=some (.bool (decide (x.name=t.name)),st):=by
 rw[Hr hc 1 (r:=(.bool (decide (x.name=t.name)),au st (.cells x.cells 0))),aX (Plain.bool _) (iK hw)]
 rw[Dd]
 have:(au st (.cells x.cells 0)).heap.get p=some (.cells t.cells 0):=iK hw _ _ hp
 simp[this]
theorem aad (hc:Sem c) (x:bO) (s:List Nat) (p:Pos) (st:St) (hw:Wf st) (hp:st.heap.get p=some (.cells [.str s] 0)):c 183 [.agg x.cells,.ptr p 0] st=some (.bool (decide (x.name=s)),st):=by
 rw[Mw hc 1 (r:=(.bool (decide (x.name=s)),au st (.cells x.cells 0))),aX (Plain.bool _) (iK hw)]
 rw[Ka]
 have:(au st (.cells x.cells 0)).heap.get p=some (.cells [.str s] 0):=iK hw _ _ hp
 simp[this]
theorem XL (z:Bool) (rs:List (List AV)) (hl:rs.length<qN) (gq: ∀cs∈rs,cs.length=7) (g:Nat) (v:List AV) (P:Nat->Bool) (st:St) (F:Nat) (k1 k2)
  (hP: ∀i (h:i<rs.length),c g (.agg rs[i]::v) st=some (.bool (P i),st)): ∀(m k:Nat),rs.length<=k+m->k<=rs.length->
  bY c F k1 k2 (m+1) [ro 7 z rs,.func g [] v,.int .i64 (rs.length:Int),.int .i64 (k:Int)] st=if 0<=scan P (rs.length - k) k then k1 [.int .i64 (scan P (rs.length - k) k)] st else k2 [] st:=by
 intro m
 induction m with
 |zero=>
  intro k h1 h2
  obtain rfl:k=rs.length:=by omega
  rw[bY]
  simp[scan]
 |succ m ih=>
  intro k h1 h2
  rw[bY]
  by_cases h:k<rs.length
  . have e:rs.length - k=(rs.length - (k+1))+1:=by omega
    have w:aY .i64 ((k:Int)+1)=((k+1:Nat):Int):=wrap64 (by omega) (by unfold qN at hl;omega)
    have hcut:cut rs[k] 0 7=some rs[k]:=fB (gq _ (List.getElem_mem h))
    have hp:=hP k h
    rw[e,scan]
    cases hb:P k
    .   simp only[Bool.false_eq_true,if_false]
        rw[<-ih (k+1) (by omega) (by omega)]
        simp[h,hcut,hp,hb,w]
    .   simp[h,hcut,hp,hb]
  . obtain rfl:k=rs.length:=by omega
    simp[scan]
theorem UL (hc:Sem c) (z:Bool) (rs:List (List AV)) (hl:rs.length<qN) (gq: ∀cs∈rs,cs.length=7) (g:Nat) (v:List AV) (P:Nat->Bool) (st:St)
   (hP: ∀i (h:i<rs.length),c g (.agg rs[i]::v) st=some (.bool (P i),st)):c 182 [ro 7 z rs,.func g [] v] st=some (.int .i64 (scan P rs.length 0),st):=by
 rw[ri hc (rs.length+1) (r:=(.int .i64 (scan P rs.length 0),st)),aX (Plain.int _ _) (cB.refl st)]
 rw[iM]
 have L: ∀k1 k2,bY c (rs.length+1) k1 k2 (rs.length+1) [ro 7 z rs,.func g [] v,.int .i64 (rs.length:Int),.int .i64 0] st=if 0<=scan P (rs.length - 0) 0 then k1 [.int .i64 (scan P (rs.length - 0) 0)] st else k2 [] st:=
   fun k1 k2=>XL z rs hl gq g v P st _ k1 k2 hP rs.length 0 (by omega) (by omega)
 rw[Nat.sub_zero] at L
 by_cases h:0<=scan P rs.length 0
 . simp[L,h]
 . have:=(EB P rs.length 0).2 (by omega)
   simp[L,this]
theorem Rc (hc:Sem c) (z:Bool) (rs:List (List AV)) (hl:rs.length<qN) (gq: ∀cs∈rs,cs.length=7) (g:Nat) (v:List AV) (P:Nat->Bool) (st:St)
  (hP: ∀i (h:i<rs.length),c g (.agg rs[i]::v) st=some (.bool (P i),st)):c 178 [ro 7 z rs,.func g [] v] st=some (.bool (decide (0<=scan P rs.length 0)),st):=by
 rw[p8 hc 1 (r:=(.bool (decide (0<=scan P rs.length 0)),st)),aX (Plain.bool _) (cB.refl st)]
 rw[kV]
 simp[UL hc z rs hl gq g v P st hP]
theorem Ph (hc:Sem c) (z:Bool) (ts:List bO) (dr: ∀t∈ts,t.Ok) (hl:ts.length<=16) (F:Nat) (k1 k2): ∀(m k:Nat) (st:St),Wf st->ts.length<=k+m->k<=ts.length->
  ∃st',Grew st st'/\jT c F k1 k2 (m+1) [tabs z ts,tabs z ts,.int .i64 (ts.length:Int),.int .i64 (k:Int)] st=if (fq ts m k).2=0 then k2 [] st' else k1 [.int .i64 (fq ts m k).1,.int .i64 (fq ts m k).2] st':=by
 intro m
 induction m with
 |zero=>
  intro k st hw h1 h2
  obtain rfl:k=ts.length:=by omega
  refine ⟨st,Grew.refl hw,?_⟩
  rw[jT]
  simp[fq,tabs]
 |succ m ih=>
  intro k st hw h1 h2
  by_cases h:k<ts.length
  . have w:aY .i64 ((k:Int)+1)=((k+1:Nat):Int):=wrap64 (by omega) (by omega)
    have cH:Wf (au st (.cells ts[k].cells 0)):=eB hw
    have hg:=Grew.au hw (.cells ts[k].cells 0)
    have hch:=aac hc ts[k] (dr _ (List.getElem_mem h)) _ cH
    have XM:=Rc hc (z&&(ts.map bO.cells).isEmpty) ((ts.map bO.cells).take k) (by simp[qN];omega) (fun cs iD=>by
          have:=List.mem_of_mem_take iD
          simp only[List.mem_map] at this
          obtain ⟨t,_,rfl⟩:=this;rfl) 179 [.ptr st.next 0] (kU ts ts[k].name) (au st (.cells ts[k].cells 0)) (fun i hi=>by
          have qh:i<k:=by simp at hi;omega
          have Mx:i<ts.length:=by omega
          have:=Rb hc ts[i] ts[k] st.next (au st (.cells ts[k].cells 0)) cH (aR _ _)
          simp only[List.getElem_take,List.getElem_map]
          rw[this]
          simp[kU,Mx])
    have hlen:((ts.map bO.cells).take k).length=k:=by simp;omega
    rw[hlen] at XM
    rw[jT,fq,List.getElem?_eq_getElem h]
    simp only
    by_cases h3:vS ts[k]=0
    .   by_cases h4:0<=scan (kU ts ts[k].name) k 0
        . refine ⟨_,hg,?_⟩
          have tE:k<=ts.length:=by omega
          simp only[tabs,List.isEmpty_map] at XM ⊢
          simp[h,hch,h3,h4,tE,XM,bO.len]
        . obtain ⟨st',g1,g2⟩:=ih (k+1) _ cH (by omega) (by omega)
          refine ⟨st',hg.trans g1,?_⟩
          have tE:k<=ts.length:=by omega
          have e3: ¬vS ts[k]≠0:=by rw[h3];simp
          simp only[e3,h4,if_false]
          rw[<-g2]
          simp only[tabs,List.isEmpty_map] at XM ⊢
          simp[h,hch,h3,h4,tE,XM,w,bO.len]
    .   refine ⟨_,hg,?_⟩
        simp[tabs,h,hch,h3,bO.len]
  . obtain rfl:k=ts.length:=by omega
    refine ⟨st,Grew.refl hw,?_⟩
    rw[jT]
    simp[fq,tabs]
theorem Kb (hc:Sem c) (z:Bool) (ts:List bO) (dr: ∀t∈ts,t.Ok) (st:St) (hw:Wf st):c 112 [tabs z ts] st=some (.tuple [.int .i64 (cD ts).1,.int .i64 (cD ts).2],st):=by
 have Ia:Plain (.tuple [.int .i64 (cD ts).1,.int .i64 (cD ts).2]):=Plain.tuple (by simp[Plain.int])
 by_cases h:16<ts.length
 . rw[Ah hc 20 (r:=(.tuple [.int .i64 (cD ts).1,.int .i64 (cD ts).2],st)),aX Ia (cB.refl st)]
   rw[vz]
   have hi:(16:Int)<ts.length:=by omega
   simp[tabs,cD,h,hi]
 . have hi: ¬(16:Int)<ts.length:=by omega
   have e:cD ts=fq ts 19 0:=by rw[cD,if_neg h];exact FT ts _ _ 0 (by omega) (by omega)
   have hex:=fun k1 k2=>Ph hc z ts dr (by omega) 20 k1 k2 19 0 st hw (by omega) (by omega)
   obtain ⟨st',hg,L⟩:=hex (fun vs jN=>ay vs fun x2 vs=>ay vs fun x3 vs=>bw vs (some (.tuple [x2,x3],jN))) (fun vs kq=>bw vs (
     af c .move [(.int .i64 0)] kq fun x2 kW=>af c .move [(.int .i64 0)] kW fun x3 ku=>some (.tuple [x2,x3],ku)))
   rw[Ah hc 20 (r:=(.tuple [.int .i64 (cD ts).1,.int .i64 (cD ts).2],st')),aX Ia hg.keeps]
   rw[vz,e]
   simp only[tabs] at L
   simp[tabs,hi] at L ⊢
   rw[L]
   by_cases h2:(fq ts 19 0).2=0
   . have:=FU ts 19 0 h2
     simp[h2,this]
   . simp[h2]
def dy (ts:List bO):Int:=(ts.map ew).sum
theorem KN (ts:List bO):0<=dy ts/\dy ts<=1000*ts.length:=by
 induction ts with
 |nil=>simp[dy]
 |cons t ts ih=>
  have:=xe t
  simp only[dy,List.map_cons,List.sum_cons,List.length_cons] at ih ⊢
  omega
theorem FV (ts:List bO) (t:bO):dy (ts++[t])=dy ts+ew t:=by simp[dy]
def xg (ts:List bO) (t:Int):Int:=if t<0\/(ts.length:Int)<=t\/(cD ts).2≠0 then 0 else dy (ts.take t.toNat)
theorem KO (hc:Sem c) (z:Bool) (ts:List bO) (dr: ∀t∈ts,t.Ok) (st:St) (hw:Wf st):c 137 [tabs z ts] st=some (.bool (decide ((cD ts).2=0)),st):=by
 rw[NA hc 1 (r:=(.bool (decide ((cD ts).2=0)),st)),aX (Plain.bool _) (cB.refl st)]
 rw[My]
 simp[Kb hc z ts dr st hw]
theorem OD {ts:List bO} (h:(cD ts).2=0):ts.length<=16:=by
 unfold cD at h;split at h
 . simp at h
 . omega
theorem VS (hc:Sem c) (z:Bool) (ts:List bO) (hl:ts.length<=16) (F:Nat) (k2): ∀(m k:Nat) (st:St),Wf st->ts.length<=k+m->k<=ts.length->
  ∃st',Grew st st'/\mU c F k2 (m+1) [.int .i64 (dy (ts.take k)),tabs z ts,.int .i64 (ts.length:Int),.int .i64 (k:Int)] st=k2 [.int .i64 (dy ts)] st':=by
 intro m
 induction m with
 |zero=>
  intro k st hw h1 h2
  obtain rfl:k=ts.length:=by omega
  refine ⟨st,Grew.refl hw,?_⟩
  rw[mU]
  simp
 |succ m ih=>
  intro k st hw h1 h2
  by_cases h:k<ts.length
  . have w:aY .i64 ((k:Int)+1)=((k+1:Nat):Int):=wrap64 (by omega) (by omega)
    have cH:Wf (au st (.cells ts[k].cells 0)):=eB hw
    have hg:=Grew.au hw (.cells ts[k].cells 0)
    have hs:=Nu hc ts[k] _ cH
    have e:dy (ts.take (k+1))=dy (ts.take k)+ew ts[k]:=by
        rw[List.take_succ_eq_append_getElem h,FV]
    have b1:=KN (ts.take k)
    have b2:=xe ts[k]
    have b3:(ts.take k).length<=16:=by simp;omega
    have w2:aY .i64 (dy (ts.take k)+ew ts[k])=dy (ts.take (k+1)):=by rw[e];exact wrap64 (by omega) (by omega)
    obtain ⟨st',g1,g2⟩:=ih (k+1) _ cH (by omega) (by omega)
    refine ⟨st',hg.trans g1,?_⟩
    rw[<-g2,mU]
    simp[tabs,h,hs,w,w2,bO.len]
  . obtain rfl:k=ts.length:=by omega
    refine ⟨st,Grew.refl hw,?_⟩
    rw[mU]
    simp
theorem aae (hc:Sem c) (z:Bool) (ts:List bO) (dr: ∀t∈ts,t.Ok) (k:Int) (st:St) (hw:Wf st):c 68 [tabs z ts,.int .i64 k] st=some (.int .i64 (xg ts k),st):=by
 have lT: ∀(K:AV->St->Option (AV×St)) (s:St),af c (.lenB .l) [tabs z ts] s K=K (.int .i64 (ts.length:Int)) s:=fun K s=>by unfold tabs;rw[tL];simp
 have hv:=KO hc z ts dr st hw
 by_cases h:k<0\/(ts.length:Int)<=k\/(cD ts).2≠0
 . have e:xg ts k=0:=by rw[xg,if_pos h]
   rw[EC hc 1 (r:=(.int .i64 (xg ts k),st)),aX (Plain.int _ _) (cB.refl st)]
   rw[AH,e]
   by_cases h1:k<0
   . simp[h1]
   . by_cases h2:(ts.length:Int)<=k
     .  simp[h1,h2,lT]
     .  have h3:(cD ts).2≠0:=h.resolve_left h1 |>.resolve_left h2
        simp[h1,h2,h3,lT,hv]
 . have e:xg ts k=dy (ts.take k.toNat):=by rw[xg,if_neg h]
   have h1: ¬k<0:=fun e=>h (.inl e)
   have h2: ¬(ts.length:Int)<=k:=fun e=>h (.inr (.inl e))
   have h3:(cD ts).2=0:=Classical.byContradiction fun e=>h (.inr (.inr e))
   have hl:=OD h3
   obtain ⟨n,rfl⟩: ∃n:Nat,k=(n:Int):=⟨k.toNat,by omega⟩
   have hn:n<=ts.length:=by omega
   have hex:=fun k2=>VS hc (z&&ts.isEmpty) (ts.take n) (by simp;omega) 20 k2 19 0 st hw (by simp;omega) (by omega)
   obtain ⟨st',hg,L⟩:=hex (fun vs j8=>ay vs fun x5 vs=>bw vs (af c .move [x5] j8 fun kI j9=>af c .move [kI] j9 fun x4 jD=>some (x4,jD)))
   rw[EC hc 20 (r:=(.int .i64 (xg ts (n:Int)),st')),aX (Plain.int _ _) hg.keeps]
   rw[AH,e]
   have h4: ¬ts.length<=n:=by omega
   have hm:min n ts.length=n:=by omega
   simp[tabs,dy,hm] at L
   simp[h1,h4,h3,lT,hv]
   simp[tabs,hn,hm,dy,L]
theorem TE (hc:Sem c) (z:Bool) (ts:List bO) (hl:ts.length<=16) (st:St) (hw:Wf st):c 139 [tabs z ts] st=some (.int .i64 (if h:0<ts.length then ew (ts[ts.length - 1]'(by omega)) else 0),st):=by
 rw[JD hc 1 (r:=(.int .i64 (if h:0<ts.length then ew (ts[ts.length - 1]'(by omega)) else 0),st)),aX (Plain.int _ _) (cB.refl st)]
 rw[He]
 by_cases h:0<ts.length
 . have h1: ¬(ts.length:Int)=0:=by omega
   have h2:ts≠[]:=fun e=>by subst e;simp at h
   have w:aY .i64 ((ts.length:Int) - 1)=((ts.length - 1:Nat):Int):=by rw[wrap64 (by omega) (by omega)];omega
   have h3:ts.length - 1<ts.length:=by omega
   have hs:=Nu hc (ts[ts.length - 1]'(by omega)) st hw
   simp[tabs,h,h1,h2,w,h3,hs]
 . have h1:ts=[]:=List.eq_nil_of_length_eq_zero (by omega)
   subst h1
   simp[tabs]
theorem XN {ts:List bO} (hv:(cD ts).2=0):xg ts ((ts.length:Int) - 1)+(if h:0<ts.length then ew (ts[ts.length - 1]'(by omega)) else 0)=dy ts:=by
 by_cases h:0<ts.length
 . rw[dif_pos h,xg,if_neg (by simp[hv];omega)]
   have e:((ts.length:Int) - 1).toNat=ts.length - 1:=by omega
   rw[e, <-FV, <-List.take_succ_eq_append_getElem (by omega)]
   rw[show ts.length - 1+1=ts.length by omega,List.take_length]
 . have h1:ts=[]:=List.eq_nil_of_length_eq_zero (by omega)
   subst h1;simp[xg,dy]
theorem BE (hc:Sem c) (z:Bool) (ts:List bO) (dr: ∀t∈ts,t.Ok) (st:St) (hw:Wf st):c 69 [tabs z ts] st=some (.int .i64 (if (cD ts).2=0 then dy ts else 0),st):=by
 rw[NB hc 1 (r:=(.int .i64 (if (cD ts).2=0 then dy ts else 0),st)),aX (Plain.int _ _) (cB.refl st)]
 rw[Mz]
 have lT: ∀(K:AV->St->Option (AV×St)) (s:St),af c (.lenB .l) [tabs z ts] s K=K (.int .i64 (ts.length:Int)) s:=fun K s=>by unfold tabs;rw[tL];simp
 have hv:=KO hc z ts dr st hw
 by_cases h:(cD ts).2=0
 . have hl:=OD h
   have w:aY .i64 ((ts.length:Int) - 1)=(ts.length:Int) - 1:=wrap64 (by omega) (by omega)
   have hf:=aae hc z ts dr ((ts.length:Int) - 1) st hw
   have hla:=TE hc z ts hl st hw
   have b:=KN ts
   have e:=XN h
   rw[if_pos h, <-e]
   rw[<-e] at b
   generalize xg ts ((ts.length:Int) - 1)=x at hf b ⊢
   generalize (if h:0<ts.length then ew (ts[ts.length - 1]'(by omega)) else 0)=y at hla b ⊢
   have w2:aY .i64 (x+y)=x+y:=wrap64 (by omega) (by omega)
   simp[hv,h,lT,w,hf,hla,w2]
 . simp[hv,h]
theorem abP (hc:Sem c) (z:Bool) (ts:List bO) (dr: ∀t∈ts,t.Ok) (hl:ts.length<qN) (s:List Nat) (st:St) (hw:Wf st):c 117 [tabs z ts,.str s] st=
   some (.tuple [.int .i64 (if 0<=scan (kU ts s) ts.length 0/\(cD ts).2=0 then scan (kU ts s) ts.length 0 else 0),.bool (decide (0<=scan (kU ts s) ts.length 0/\(cD ts).2=0))],st):=by
 rw[Pj hc 1 (r:=(.tuple [.int .i64 (if 0<=scan (kU ts s) ts.length 0/\(cD ts).2=0 then scan (kU ts s) ts.length 0 else 0),.bool (decide (0<=scan (kU ts s) ts.length 0/\(cD ts).2=0))],au st (.cells [.str s] 0))),
   aX (Plain.tuple (by simp[Plain.int,Plain.bool])) (iK hw)]
 rw[OE]
 have cH:Wf (au st (.cells [.str s] 0)):=eB hw
 have hi:=UL hc z (ts.map bO.cells) (by simpa using hl) (fun cs iD=>by
     simp only[List.mem_map] at iD
     obtain ⟨t,_,rfl⟩:=iD;rfl) 183 [.ptr st.next 0] (kU ts s) (au st (.cells [.str s] 0)) (fun i hi=>by
     have Mx:i<ts.length:=by simpa using hi
     have:=aad hc ts[i] s st.next (au st (.cells [.str s] 0)) cH (aR _ _)
     simp only[List.getElem_map]
     rw[this]
     simp[kU,Mx])
 rw[List.length_map] at hi
 have hv:=KO hc z ts dr _ cH
 simp only[tabs] at hv ⊢
 have e:(AV.str s).cells=[.str s]:=rfl
 by_cases h1:0<=scan (kU ts s) ts.length 0
 . have h2: ¬scan (kU ts s) ts.length 0<0:=by omega
   by_cases h3:(cD ts).2=0
   . simp[e,hi,h1,h2,h3,hv]
   . simp[e,hi,h1,h2,h3,hv]
 . have h2:scan (kU ts s) ts.length 0<0:=by omega
   simp[e,hi,h1,h2]
end Go.Proofs.YtehbdakjkjkekaaGreatDoor
end
section
set_option maxRecDepth 100000
namespace Go.Proofs.YtehbdakjkjkekaaGreatDoor
open Go Go.Ai Go.Proofs
variable {c : ai}
structure ke where
 name:List Nat
 aaf:List Nat
 VT:List Nat
 since:Int
 side:Int
 aag:List Nat
 host:Bool
 access:Bool
 tz:Bool
 tg:List (List Nat)
def KP (z:Bool) (l:List (List Nat)):AV:=ro 1 z (l.map fun s=>[.str s])
def ke.cells (g:ke):List AV:=[.str g.name,.str g.aaf,.str g.VT,.int .i64 g.since,.int .i64 g.side,.str g.aag,.bool g.host,.bool g.access,KP g.tz g.tg]
theorem VU (z:Bool) (l:List (List Nat)):Plain (KP z l):=Plain.ro fun cs h v hv=>by
 simp only[List.mem_map] at h
 obtain ⟨i,_,rfl⟩:=h
 simp only[List.mem_singleton] at hv;subst hv;exact Plain.str _
@[simp] theorem ajl {R:Type} (c:ai) (K:AV->St->Option R) (st:St) (z:Bool) (l:List Int):af c (.lenB .l) [ints z l] st K=K (.int .i64 (l.length:Int)) st:=by unfold ints;rw[tL];simp
@[simp] theorem ke.c0 (t:ke):t.cells[0]? =some (.str t.name):=id rfl
@[simp] theorem ke.c1 (t:ke):t.cells[1]? =some (.str t.aaf):=id rfl
@[simp] theorem ke.c2 (t:ke):t.cells[2]? =some (.str t.VT):=id rfl
@[simp] theorem ke.c3 (t:ke):t.cells[3]? =some (.int .i64 t.since):=id rfl
@[simp] theorem ke.c4 (t:ke):t.cells[4]? =some (.int .i64 t.side):=id rfl
@[simp] theorem ke.c5 (t:ke):t.cells[5]? =some (.str t.aag):=id rfl
@[simp] theorem ke.c6 (t:ke):t.cells[6]? =some (.bool t.host):=id rfl
@[simp] theorem ke.c7 (t:ke):t.cells[7]? =some (.bool t.access):=id rfl
@[simp] theorem ke.c8 (t:ke):t.cells[8]? =some (KP t.tz t.tg):=id rfl
def ko (z:Bool) (gs:List ke):AV:=ro 9 z (gs.map ke.cells)
@[simp] theorem ajm {R:Type} (c:ai) (K:AV->St->Option R) (st:St) (z:Bool) (l:List ke):af c (.lenB .l) [ko z l] st K=K (.int .i64 (l.length:Int)) st:=by unfold ko;rw[tL];simp
def aft (last:Option (List Nat)) (s:List Nat):Bool:=match last with
 |none=>true
 |some p=>ey p s
@[simp] theorem ajn (s:List Nat):aft none s=true:=id rfl
@[simp] theorem ajo (p s:List Nat):aft (some p) s=ey p s:=id rfl
def tgS (last:Option (List Nat)):List (List Nat)->Bool
 |[]=>true
 |s::l=>eU s&&aft last s&&tgS (some s) l
def aa8 (g:ke):Int:=
 if (eU g.name&&smN g.aaf&&smN g.VT&&smN g.aag)=false then 4 else if ¬(0<=g.since/\g.since<=9999) then 21 else if ¬(0<=g.side/\g.side<=2) then 20
 else if 4<g.tg.length then 22 else if tgS none g.tg=false then 22 else 0
end Go.Proofs.YtehbdakjkjkekaaGreatDoor
end
section
set_option maxRecDepth 100000
namespace Go.Proofs.YtehbdakjkjkekaaGreatDoor
open Go Go.Ai Go.Proofs
variable {c : ai}
structure Ty where
 a:List Nat
 b:List Nat
 k:Int
def Ty.cells (t:Ty):List AV:=[.str t.a,.str t.b,.int .u8 t.k]
@[simp] theorem Ty.c0 (t:Ty):t.cells[0]? =some (.str t.a):=id rfl
@[simp] theorem Ty.c1 (t:Ty):t.cells[1]? =some (.str t.b):=id rfl
@[simp] theorem Ty.c2 (t:Ty):t.cells[2]? =some (.int .u8 t.k):=id rfl
theorem Ty.len (t:Ty):t.cells.length=3:=id rfl
@[simp] theorem Ty.one (t:Ty):cS t.cells=true:=id rfl
def Aj (z:Bool) (ts:List Ty):AV:=ro 3 z (ts.map Ty.cells)
def wz (gs:List ke) (s:List Nat) (i:Nat):Bool:=decide (gs[i]?.map ke.name=some s)
theorem abQ (z:Bool) (gs:List ke) (s:List Nat) (hl:gs.length<qN) (F:Nat) (st:St) (k1 k2): ∀(m k:Nat),gs.length<=k+m->k<=gs.length->
  iN c F k1 k2 (m+1) [ko z gs,.str s,.int .i64 (k:Int)] st=if 0<=scan (wz gs s) (gs.length - k) k then k1 [.int .i64 (scan (wz gs s) (gs.length - k) k)] st else k2 [] st:=by
 intro m
 induction m with
 |zero=>
  intro k h1 h2
  obtain rfl:k=gs.length:=by omega
  rw[iN]
  simp[scan]
 |succ m ih=>
  intro k h1 h2
  rw[iN]
  by_cases h:k<gs.length
  . have e:gs.length - k=(gs.length - (k+1))+1:=by omega
    have w:aY .i64 ((k:Int)+1)=((k+1:Nat):Int):=wrap64 (by omega) (by unfold qN at hl;omega)
    rw[e,scan]
    by_cases h3:gs[k].name=s
    .   have:wz gs s k=true:=by simp[wz,h,h3]
        simp only[this,if_true]
        simp[ko,h,h3]
    .   have:wz gs s k=false:=by simp[wz,h,h3]
        simp only[this,Bool.false_eq_true,if_false]
        rw[<-ih (k+1) (by omega) (by omega)]
        simp[ko,h,h3,w]
  . obtain rfl:k=gs.length:=by omega
    simp[scan]
theorem aa9 (hc:Sem c) (z:Bool) (gs:List ke) (s:List Nat) (hl:gs.length<qN) (st:St):c 121 [ko z gs,.str s] st=some (.int .i64 (scan (wz gs s) gs.length 0),st):=by
 rw[Hs hc (gs.length+1) (r:=(.int .i64 (scan (wz gs s) gs.length 0),st)),aX (Plain.int _ _) (cB.refl st)]
 rw[xj]
 have L: ∀k1 k2,iN c (gs.length+1) k1 k2 (gs.length+1) [ko z gs,.str s,.int .i64 0] st=if 0<=scan (wz gs s) (gs.length - 0) 0 then k1 [.int .i64 (scan (wz gs s) (gs.length - 0) 0)] st else k2 [] st:=
   fun k1 k2=>abQ z gs s hl _ st k1 k2 gs.length 0 (by omega) (by omega)
 rw[Nat.sub_zero] at L
 by_cases h:0<=scan (wz gs s) gs.length 0
 . simp[L,h]
 . have:=(EB (wz gs s) gs.length 0).2 (by omega)
   simp[L,this]
def befT (s t:Ty):Bool:=ey s.a t.a||(decide (s.a=t.a)&&ey s.b t.b)
end Go.Proofs.YtehbdakjkjkekaaGreatDoor
end
section
set_option maxRecDepth 100000
namespace Go.Proofs.YtehbdakjkjkekaaGreatDoor
open Go Go.Ai Go.Proofs
variable {c : ai}
def VV (gs:List ke):Nat->Nat->Int×Int
 |0,_=>(0,0)
 |  m+1,k=>match gs[k]? with
    |none=>(0,0)
    |some g=>if aa8 g≠0 then ((k:Int),aa8 g) else if 0<=scan (wz gs g.name) k 0 then ((k:Int),5) else if 64<=k then ((k:Int),7) else VV gs m (k+1)
def prvT (ts:List Ty) (k:Nat):Option Ty:=if k=0 then none else ts[k - 1]?
def knd (t:Ty):Bool:=decide (t.k=1)||decide (t.k=2)
def air (t:Ty) (p:Option Ty):Bool:= !knd t|| !ey t.a t.b||(match p with|none=>false|some p=>befT t p)
def ais (t:Ty) (p:Option Ty):Bool:=match p with|none=>false|some p=> !befT p t
def ait (gs:List ke) (t:Ty):Bool:=decide (scan (wz gs t.a) gs.length 0<0)||decide (scan (wz gs t.b) gs.length 0<0)
def aba (gs:List ke) (ts:List Ty):Nat->Nat->Int×Int
 |0,_=>(0,0)
 |  m+1,k=>match ts[k]? with
    |none=>(0,0)
    |some t=>if air t (prvT ts k)=true then ((gs.length:Int)+k,23) else if ait gs t=true then ((gs.length:Int)+k,6)
     else if ais t (prvT ts k)=true then ((gs.length:Int)+k,5) else if 256<=k then ((gs.length:Int)+k,7) else aba gs ts m (k+1)
def mK (gs:List ke) (ts:List Ty):Int×Int:=if (VV gs 101 0).2≠0 then VV gs 101 0 else aba gs ts 101 0
end Go.Proofs.YtehbdakjkjkekaaGreatDoor
end
section
set_option maxRecDepth 100000
namespace Go.Proofs.YtehbdakjkjkekaaGreatDoor
open Go Go.Ai Go.Proofs
variable {c : ai}
end Go.Proofs.YtehbdakjkjkekaaGreatDoor
end
section
set_option maxRecDepth 100000
namespace Go.Proofs.YtehbdakjkjkekaaGreatDoor
open Go Go.Ai Go.Proofs
variable {c : ai}
end Go.Proofs.YtehbdakjkjkekaaGreatDoor
end
section
set_option maxRecDepth 100000
namespace Go.Proofs.YtehbdakjkjkekaaGreatDoor
open Go Go.Ai Go.Proofs
variable {c : ai}
end Go.Proofs.YtehbdakjkjkekaaGreatDoor
end
section
set_option maxRecDepth 100000
namespace Go.Proofs.YtehbdakjkjkekaaGreatDoor
open Go Go.Ai Go.Proofs
variable {c : ai}
theorem Q2 (ts:List Ty) (i:Nat) (h:i<ts.length):cut (ts.flatMap Ty.cells) (i*3) 3=some ts[i].cells:=by
 induction ts generalizing i with
 |nil=>simp at h
 |cons t ts ih=>
  cases i with
  |zero=>rw[List.flatMap_cons];unfold cut;rw[gb,decide_eq_true (by simp[Ty.len])];simp[Ty.cells]
  |succ i=>
   have h':i<ts.length:=by simpa using h
   have:=ih i h'
   unfold cut at this ⊢
   rw[gb] at this ⊢
   split at this<;>first|(cases this;done)|skip
   rename_i hle
   simp only[decide_eq_true_eq] at hle
   rw[decide_eq_true (by rw[List.flatMap_cons,List.length_append,Ty.len];omega)]
   simp only[Option.some.injEq] at this ⊢
   rw[List.flatMap_cons,show (i+1)*3=i*3+1+1+1 by omega,List.getElem_cons_succ, <-this]
   rfl
end Go.Proofs.YtehbdakjkjkekaaGreatDoor
end
section
set_option maxRecDepth 100000
namespace Go.Proofs.YtehbdakjkjkekaaGreatDoor
open Go Go.Ai Go.Proofs
variable {c : ai}
theorem Db (b:Pos) (off n es:Nat): ¬Plain (.slice b off n none es):=fun h=>by
 have:=h (fun _=>⟨0,0,off+n*es⟩) (fun _=>⟨0,0,0⟩) (b.toNat+1) 0 (fun _=>none) _ (.slice b off n none es n ⟨0,0+off,none⟩ (Nat.le_refl _) (fun c h=>by cases h) (fun _=>⟨by omega,rfl,by simp⟩) (fun _=>by omega))
 have:=this.N4 rfl
 omega
end Go.Proofs.YtehbdakjkjkekaaGreatDoor
end
section
set_option maxRecDepth 100000
namespace Go.Proofs.YtehbdakjkjkekaaGreatDoor
open Go Go.Ai Go.Proofs
variable {c : ai}
end Go.Proofs.YtehbdakjkjkekaaGreatDoor
end
section
set_option maxRecDepth 100000
namespace Go.Proofs.YtehbdakjkjkekaaGreatDoor
open Go Go.Ai Go.Proofs
variable {c : ai}
@[simp] theorem ajp {R:Type} (K:AV->Option R) (z:Bool) (l:List ke):bg (.lenB .l) [ko z l] K=K (.int .i64 (l.length:Int)):=by unfold ko;rw[ZW];simp
end Go.Proofs.YtehbdakjkjkekaaGreatDoor
end
section
set_option maxRecDepth 100000
namespace Go.Proofs.YtehbdakjkjkekaaGreatDoor
open Go Go.Ai Go.Proofs
variable {c : ai}
structure Rl where
 k:Int
 wt:Int
 a:List Nat
 b:List Nat
 t:List Nat
 n:Int
def Rl.cells (r:Rl):List AV:=[.int .u8 r.k,.int .i64 r.wt,.str r.a,.str r.b,.str r.t,.int .i64 r.n]
@[simp] theorem Rl.c0 (t:Rl):t.cells[0]? =some (.int .u8 t.k):=id rfl
@[simp] theorem Rl.c1 (t:Rl):t.cells[1]? =some (.int .i64 t.wt):=id rfl
@[simp] theorem Rl.c2 (t:Rl):t.cells[2]? =some (.str t.a):=id rfl
@[simp] theorem Rl.c3 (t:Rl):t.cells[3]? =some (.str t.b):=id rfl
@[simp] theorem Rl.c4 (t:Rl):t.cells[4]? =some (.str t.t):=id rfl
@[simp] theorem Rl.c5 (t:Rl):t.cells[5]? =some (.int .i64 t.n):=id rfl
@[simp] theorem Rl.cc (t:Rl):cut t.cells 0 6=some t.cells:=fB rfl
@[simp] theorem Rl.one (t:Rl):cS t.cells=true:=id rfl
def eV (z:Bool) (rs:List Rl):AV:=ro 6 z (rs.map Rl.cells)
@[simp] theorem ajq {R:Type} (c:ai) (K:AV->St->Option R) (st:St) (z:Bool) (l:List Rl):af c (.lenB .l) [eV z l] st K=K (.int .i64 (l.length:Int)) st:=by unfold eV;rw[tL];simp
@[simp] theorem aiu {R:Type} (c:ai) (K:AV->St->Option R) (st:St) (z:Bool) (l:List bO):af c (.lenB .l) [tabs z l] st K=K (.int .i64 (l.length:Int)) st:=by unfold tabs;rw[tL];simp
structure fG where
 tz:Bool
 ts:List bO
 gz:Bool
 gs:List ke
 yz:Bool
 ys:List Ty
 cz:Bool
 cs:List Int
 rz:Bool
 rs:List Rl
def fG.cells (p:fG):List AV:=[tabs p.tz p.ts,ko p.gz p.gs,Aj p.yz p.ys,ints p.cz p.cs,eV p.rz p.rs]
@[simp] theorem fG.c0 (p:fG):p.cells[0]? =some (tabs p.tz p.ts):=id rfl
@[simp] theorem fG.c1 (p:fG):p.cells[1]? =some (ko p.gz p.gs):=id rfl
@[simp] theorem fG.c2 (p:fG):p.cells[2]? =some (Aj p.yz p.ys):=id rfl
@[simp] theorem fG.c3 (p:fG):p.cells[3]? =some (ints p.cz p.cs):=id rfl
@[simp] theorem fG.c4 (p:fG):p.cells[4]? =some (eV p.rz p.rs):=id rfl
@[simp] theorem fG.cc (p:fG):cut p.cells 0 5=some p.cells:=fB rfl
structure fG.sS (p:fG):Prop where
 ts:p.ts.length<=100
 gs:p.gs.length<=100
 ys:p.ys.length<=100
 cs:p.cs.length<=100
 rs:p.rs.length<=100
 ok: ∀t∈p.ts,t.Ok
def nK (l:List Int):Bool:=l.all fun c=>decide (0<=c)&&decide (c<64)
def je (p:fG):Int×Int:=
 if (cD p.ts).2≠0 then cD p.ts else if (mK p.gs p.ys).2≠0 then mK p.gs p.ys
 else if p.cs.length≠0/\p.cs.length≠p.gs.length then (0,44) else if nK p.cs=false then (0,44)
 else if dy p.ts<p.gs.length then (0,45) else (0,0)
theorem TF {p:fG} (h:(je p).2=0):(je p).1=0:=by
 unfold je at h ⊢
 by_cases h1:(cD p.ts).2≠0
 . rw[if_pos h1] at h;exact absurd h h1
 rw[if_neg h1] at h ⊢
 by_cases h2:(mK p.gs p.ys).2≠0
 . rw[if_pos h2] at h;exact absurd h h2
 rw[if_neg h2]
 repeat' split
 all_goals rfl
theorem VW (p:fG) (hp:p.sS) (q:Pos) (F:Nat) (s:St) (k1 k2): ∀(m k:Nat),p.cs.length<=k+m->k<=p.cs.length->
  mV c F k1 k2 (m+1) [.ptr q 0,ints p.cz p.cs,.int .i64 (p.cs.length:Int),.int .i64 (k:Int)] s=if nK (p.cs.drop k)=true then k2 [.ptr q 0] s else k1 [.int .i64 0,.int .i64 44] s:=by
 have hl:=hp.cs
 intro m
 induction m with
 |zero=>
  intro k h1 h2
  obtain rfl:k=p.cs.length:=by omega
  rw[mV]
  simp[nK]
 |succ m ih=>
  intro k h1 h2
  rw[mV]
  by_cases h:k<p.cs.length
  . have e:p.cs.drop k=p.cs[k]::p.cs.drop (k+1):=List.drop_eq_getElem_cons h
    have w:aY .i64 ((k:Int)+1)=((k+1:Nat):Int):=wrap64 (by omega) (by omega)
    have:=ih (k+1) (by omega) (by omega)
    have ec:nK (p.cs.drop k)=((decide (0<=p.cs[k])&&decide (p.cs[k]<64))&&nK (p.cs.drop (k+1))):=by rw[e];rfl
    rw[ec]
    generalize nK (p.cs.drop (k+1))=rest at this ⊢
    by_cases h3:p.cs[k]<0
    .   have h4:(decide (0<=p.cs[k])&&decide (p.cs[k]<64))=false:=by simp;omega
        rw[h4];simp[ints,h,h3]
    .   by_cases h5:64<=p.cs[k]
        . have h4:(decide (0<=p.cs[k])&&decide (p.cs[k]<64))=false:=by simp;omega
          rw[h4];simp[ints,h,h3,h5]
        . have h4:(decide (0<=p.cs[k])&&decide (p.cs[k]<64))=true:=by simp;omega
          rw[h4,Bool.true_and, <-this]
          simp[ints,h,h3,h5,w]
  . obtain rfl:k=p.cs.length:=by omega
    simp[nK]
theorem Pk (p:fG) (hp:p.sS) (q:Pos) (F:Nat) (s:St) (hq:s.heap.get q=some (.cells p.cells 0)) (k1 k2): ∀(m k:Nat),p.cs.length<=k+m->k<=p.cs.length->
  fR c F k1 k2 (m+1) [.ptr q 0,.int .i64 (k:Int)] s=if nK (p.cs.drop k)=true then k2 [.ptr q 0] s else k1 [.int .i64 0,.int .i64 44] s:=by
 have hl:=hp.cs
 intro m
 induction m with
 |zero=>
  intro k h1 h2
  obtain rfl:k=p.cs.length:=by omega
  rw[fR]
  simp[nK,hq]
 |succ m ih=>
  intro k h1 h2
  rw[fR]
  by_cases h:k<p.cs.length
  . have e:p.cs.drop k=p.cs[k]::p.cs.drop (k+1):=List.drop_eq_getElem_cons h
    have w:aY .i64 ((k:Int)+1)=((k+1:Nat):Int):=wrap64 (by omega) (by omega)
    have:=ih (k+1) (by omega) (by omega)
    have ec:nK (p.cs.drop k)=((decide (0<=p.cs[k])&&decide (p.cs[k]<64))&&nK (p.cs.drop (k+1))):=by rw[e];rfl
    rw[ec]
    generalize nK (p.cs.drop (k+1))=rest at this ⊢
    by_cases h3:p.cs[k]<0
    .   have h4:(decide (0<=p.cs[k])&&decide (p.cs[k]<64))=false:=by simp;omega
        rw[h4];simp[hq,ints,h,h3]
    .   by_cases h5:64<=p.cs[k]
        . have h4:(decide (0<=p.cs[k])&&decide (p.cs[k]<64))=false:=by simp;omega
          rw[h4];simp[hq,ints,h,h3,h5]
        . have h4:(decide (0<=p.cs[k])&&decide (p.cs[k]<64))=true:=by simp;omega
          rw[h4,Bool.true_and, <-this]
          simp[hq,ints,h,h3,h5,w]
  . obtain rfl:k=p.cs.length:=by omega
    simp[nK,hq]
theorem Pm (hc:Sem c) (z:Bool) (ts:List bO) (hl:ts.length<=100) (F:Nat) (s:St) (hw:Wf s) (k2): ∀(m k:Nat),ts.length<=k+m->k<=ts.length->
  fS c F k2 (m+1) [tabs z ts,.int .i64 (ts.length:Int),.int .i64 (dy (ts.take k)),.int .i64 (k:Int)] s=k2 [.int .i64 (dy ts)] s:=by
 intro m
 induction m with
 |zero=>
  intro k h1 h2
  obtain rfl:k=ts.length:=by omega
  rw[fS]
  simp
 |succ m ih=>
  intro k h1 h2
  rw[fS]
  by_cases h:k<ts.length
  . have w:aY .i64 ((k:Int)+1)=((k+1:Nat):Int):=wrap64 (by omega) (by omega)
    have hs:=FP hc ts[k] s hw
    have e:dy (ts.take (k+1))=dy (ts.take k)+ew ts[k]:=by
        rw[List.take_succ_eq_append_getElem h,FV]
    have b1:=KN (ts.take k)
    have b2:=xe ts[k]
    have b3:(ts.take k).length<=100:=by simp;omega
    have w2:aY .i64 (dy (ts.take k)+ew ts[k])=dy (ts.take (k+1)):=by rw[e];exact wrap64 (by omega) (by omega)
    rw[<-ih (k+1) (by omega) (by omega)]
    simp[tabs,h,hs,w,w2]
  . obtain rfl:k=ts.length:=by omega
    simp
theorem TG (hc:Sem c) (z:Bool) (ts:List bO) (hl:ts.length<=100) (s:St) (hw:Wf s):c 120 [tabs z ts] s=some (.int .i64 (dy ts),s):=by
 have hF:c 187 [tabs z ts,.int .i64 (ts.length:Int)] s=some (.int .i64 (dy ts),s):=by
  rw[DO hc 101 (r:=(.int .i64 (dy ts),s)),aX (Plain.int _ _) (cB.refl s)]
  rw[tP]
  have L: ∀k2,fS c 101 k2 101 [tabs z ts,.int .i64 (ts.length:Int),.int .i64 0,.int .i64 0] s=k2 [.int .i64 (dy ts)] s:=fun k2=>by
   have:=Pm hc z ts hl 101 s hw k2 100 0 (by omega) (by omega)
   simpa [dy] using this
  simp[L]
 rw[DP hc 1 (r:=(.int .i64 (dy ts),s)),aX (Plain.int _ _) (cB.refl s)]
 rw[zz]
 simp[hF]
theorem MA {d:Nat} (z:Bool) (l:List Int):dz (d+1) (ints z l):=dz.ro fun r hr v hv=>by
 simp only[List.mem_map] at hr
 obtain ⟨i,_,rfl⟩:=hr
 simp only[List.mem_singleton] at hv;subst hv;exact dz.int _ _
theorem VX {d:Nat} (z:Bool) (l:List (List Nat)):dz (d+1) (KP z l):=dz.ro fun r hr v hv=>by
 simp only[List.mem_map] at hr
 obtain ⟨i,_,rfl⟩:=hr
 simp only[List.mem_singleton] at hv;subst hv;exact dz.str _
theorem FW (z:Bool) (l:List ke):dz 3 (ko z l):=dz.ro fun r hr v hv=>by
 simp only[List.mem_map] at hr
 obtain ⟨g,_,rfl⟩:=hr
 simp only[ke.cells,List.mem_cons,List.not_mem_nil,or_false] at hv
 rcases hv with rfl|rfl|rfl|rfl|rfl|rfl|rfl|rfl|rfl<;>first|exact dz.str _|exact dz.int _ _|exact dz.bool _|exact VX _ _
theorem VY (z:Bool) (l:List bO):dz 3 (tabs z l):=dz.ro fun r hr v hv=>by
 simp only[List.mem_map] at hr
 obtain ⟨g,_,rfl⟩:=hr
 simp only[bO.cells,List.mem_cons,List.not_mem_nil,or_false] at hv
 rcases hv with rfl|rfl|rfl|rfl|rfl|rfl|rfl<;>first|exact dz.str _|exact dz.int _ _|exact dz.bool _|exact MA _ _
theorem XO (z:Bool) (l:List Rl):dz 3 (eV z l):=dz.ro fun r hr v hv=>by
 simp only[List.mem_map] at hr
 obtain ⟨g,_,rfl⟩:=hr
 simp only[Rl.cells,List.mem_cons,List.not_mem_nil,or_false] at hv
 rcases hv with rfl|rfl|rfl|rfl|rfl|rfl<;>first|exact dz.str _|exact dz.int _ _|exact dz.bool _
theorem jy (z z2:Bool) (gs:List ke) (ts:List Ty):dY [.aj,.aj] [(0,1),(1,1)] [ko z gs,Aj z2 ts]=some [ko z gs,Aj z2 ts]:=by
 have e1:(ko z gs).cells=[ko z gs]:=Q0 _ _ _
 have e2:(Aj z2 ts).cells=[Aj z2 ts]:=Q0 _ _ _
 unfold dY;rw[e1]
 show dY [ko z gs,.aj] [(1,1)] [Aj z2 ts]=_
 unfold dY;rw[e2];rfl
def ED (c:ai) (p:fG):Prop:=(∀st,Wf st->c 113 [.agg [ko p.gz p.gs,Aj p.yz p.ys]] st=some (.tuple [.int .i64 (mK p.gs p.ys).1,.int .i64 (mK p.gs p.ys).2],st))/\
 ∀st,Wf st->c 119 [.agg [ko p.gz p.gs,Aj p.yz p.ys]] st=some (.tuple [.int .i64 (mK p.gs p.ys).1,.int .i64 (mK p.gs p.ys).2],st)
theorem Rd (hc:Sem c) (p:fG) (hp:p.sS) (hR:ED c p) (st:St) (hw:Wf st):c 51 [.agg p.cells] st=some (.tuple [.int .i64 (je p).1,.int .i64 (je p).2],st):=by
 have cH:Wf (au st (.cells p.cells 0)):=eB hw
 have Ak:=Grew.au hw (.cells p.cells 0)
 have oJ:(au st (.cells p.cells 0)).heap.get st.next=some (.cells p.cells 0):=aR _ _
 have A:=Kb hc p.tz p.ts hp.ok _ cH
 have B:=hR.1 _ cH
 have D:=BE hc p.tz p.ts hp.ok _ cH
 have L: ∀k1 k2,mV c 101 k1 k2 101 [.ptr st.next 0,ints p.cz p.cs,.int .i64 (p.cs.length:Int),.int .i64 0] (au st (.cells p.cells 0))=if nK p.cs=true then k2 [.ptr st.next 0] (au st (.cells p.cells 0)) else k1 [.int .i64 0,.int .i64 44] (au st (.cells p.cells 0)):=
   fun k1 k2=>VW (c:=c) p hp st.next 101 (au st (.cells p.cells 0)) k1 k2 100 0 (by have:=hp.cs;omega) (by omega)
 have MB:=fun (K:AV->Option (AV×St))=>FL K (p:=st.next) (o:=1) (h:=(au st (.cells p.cells 0)).heap) (h2:=(au st (.cells p.cells 0)).heap) (v:=ko p.gz p.gs) (by rw[oJ];rfl) (by rw[oJ];rfl) (C9 (FW _ _))
 rw[NC hc 101 (r:=(.tuple [.int .i64 (je p).1,.int .i64 (je p).2],au st (.cells p.cells 0))),aX (Plain.tuple (by simp[Plain.int])) Ak.keeps]
 rw[FX]
 unfold je
 by_cases h1:(cD p.ts).2=0
 . by_cases h2:(mK p.gs p.ys).2=0
   . simp only[h1,if_true] at D
     by_cases h3:p.cs.length=0
     .  have h4:p.cs=[]:=by simpa using h3
        have L1:nK p.cs=true:=by rw[h4];rfl
        have e0:((p.cs.length:Nat):Int)=0:=by omega
        simp only[L1,if_true,e0] at L
        by_cases h6:dy p.ts<p.gs.length
        . simp[jy,h1,h2,h3,A,B,D,oJ,L1,L,MB,h6]
        . simp[jy,h1,h2,h3,A,B,D,oJ,L1,L,MB,h6]
     .  by_cases h4:p.cs.length=p.gs.length
        . cases h5:nK p.cs with
          | false=>
            simp only[h5,Bool.false_eq_true,if_false,h4] at L
            have h7:0<p.cs.length:=by omega
            have h8:0<p.gs.length:=by omega
            simp[jy,h1,h2,h3,h4,h5,h7,h8,A,B,oJ,L]
          | true=>
            simp only[h5,if_true,h4] at L
            have h7:0<p.cs.length:=by omega
            have h8:0<p.gs.length:=by omega
            by_cases h6:dy p.ts<p.gs.length
            . simp[jy,h1,h2,h3,h4,h5,h7,h8,A,B,D,oJ,L,MB,h6]
            . simp[jy,h1,h2,h3,h4,h5,h7,h8,A,B,D,oJ,L,MB,h6]
        . have h7:0<p.cs.length:=by omega
          have h4i: ¬((p.cs.length:Int)=(p.gs.length:Int)):=by omega
          simp[jy,h1,h2,h3,h4,h4i,h7,A,B,oJ]
   . simp[jy,h1,h2,A,B,oJ]
 . simp[h1,A,oJ]
theorem TH (hc:Sem c) (p:fG) (hp:p.sS) (hR:ED c p) (st:St) (hw:Wf st):c 53 [.agg p.cells] st=some (.tuple [.int .i64 (je p).1,.int .i64 (je p).2],st):=by
 have cH:Wf (au st (.cells p.cells 0)):=eB hw
 have Ak:=Grew.au hw (.cells p.cells 0)
 have oJ:(au st (.cells p.cells 0)).heap.get st.next=some (.cells p.cells 0):=aR _ _
 have A:=Nz hc p.tz p.ts hp.ok _ cH
 have B:=hR.2 _ cH
 have D:=TG hc p.tz p.ts hp.ts _ cH
 have L: ∀k1 k2,fR c 101 k1 k2 101 [.ptr st.next 0,.int .i64 0] (au st (.cells p.cells 0))=if nK p.cs=true then k2 [.ptr st.next 0] (au st (.cells p.cells 0)) else k1 [.int .i64 0,.int .i64 44] (au st (.cells p.cells 0)):=
   fun k1 k2=>Pk (c:=c) p hp st.next 101 (au st (.cells p.cells 0)) oJ k1 k2 100 0 (by have:=hp.cs;omega) (by omega)
 have MB:=fun (K:AV->Option (AV×St))=>FL K (p:=st.next) (o:=1) (h:=(au st (.cells p.cells 0)).heap) (h2:=(au st (.cells p.cells 0)).heap) (v:=ko p.gz p.gs) (by rw[oJ];rfl) (by rw[oJ];rfl) (C9 (FW _ _))
 rw[DQ hc 101 (r:=(.tuple [.int .i64 (je p).1,.int .i64 (je p).2],au st (.cells p.cells 0))),aX (Plain.tuple (by simp[Plain.int])) Ak.keeps]
 rw[tQ]
 unfold je
 by_cases h1:(cD p.ts).2=0
 . by_cases h2:(mK p.gs p.ys).2=0
   . by_cases h3:p.cs.length=0
     .  have h4:p.cs=[]:=by simpa using h3
        have L1:nK p.cs=true:=by rw[h4];rfl
        simp only[L1,if_true] at L
        by_cases h6:dy p.ts<p.gs.length
        . simp[jy,h1,h2,h3,A,B,D,oJ,L1,L,MB,h6]
        . simp[jy,h1,h2,h3,A,B,D,oJ,L1,L,MB,h6]
     .  by_cases h4:p.cs.length=p.gs.length
        . cases h5:nK p.cs with
          | false=>
            simp only[h5,Bool.false_eq_true,if_false] at L
            have h7:0<p.cs.length:=by omega
            have h8:0<p.gs.length:=by omega
            have h9: ¬p.gs=[]:=by intro e;rw[e] at h8;simp at h8
            have wu: ¬p.cs=[]:=by intro e;rw[e] at h7;simp at h7
            simp[jy,h1,h2,h3,h4,h5,h7,h8,h9,wu,A,B,oJ,L]
          | true=>
            simp only[h5,if_true] at L
            have h7:0<p.cs.length:=by omega
            have h8:0<p.gs.length:=by omega
            have h9: ¬p.gs=[]:=by intro e;rw[e] at h8;simp at h8
            have wu: ¬p.cs=[]:=by intro e;rw[e] at h7;simp at h7
            by_cases h6:dy p.ts<p.gs.length
            . simp[jy,h1,h2,h3,h4,h5,h7,h8,h9,wu,A,B,D,oJ,L,MB,h6]
            . simp[jy,h1,h2,h3,h4,h5,h7,h8,h9,wu,A,B,D,oJ,L,MB,h6]
        . have h7:0<p.cs.length:=by omega
          have h4i: ¬((p.cs.length:Int)=(p.gs.length:Int)):=by omega
          have wu: ¬p.cs=[]:=by intro e;rw[e] at h7;simp at h7
          simp[jy,h1,h2,h3,h4,h4i,h7,wu,A,B,oJ]
   . simp[jy,h1,h2,A,B,oJ]
 . simp[h1,A,oJ]
end Go.Proofs.YtehbdakjkjkekaaGreatDoor
end
section
set_option maxRecDepth 100000
namespace Go.Proofs.YtehbdakjkjkekaaGreatDoor
open Go Go.Ai Go.Proofs
variable {c : ai}
theorem XP (z:Bool) (rs:List (List AV)) (hl:rs.length<qN) (gq: ∀cs∈rs,cs.length=9) (g:Nat) (v:List AV) (P:Nat->Bool) (st:St) (F:Nat) (k1 k2)
  (hP: ∀i (h:i<rs.length),c g (.agg rs[i]::v) st=some (.bool (P i),st)): ∀(m k:Nat),rs.length<=k+m->k<=rs.length->
  bZ c F k1 k2 (m+1) [ro 9 z rs,.func g [] v,.int .i64 (rs.length:Int),.int .i64 (k:Int)] st=if 0<=scan P (rs.length - k) k then k1 [.int .i64 (scan P (rs.length - k) k)] st else k2 [] st:=by
 intro m
 induction m with
 |zero=>
  intro k h1 h2
  obtain rfl:k=rs.length:=by omega
  rw[bZ]
  simp[scan]
 |succ m ih=>
  intro k h1 h2
  rw[bZ]
  by_cases h:k<rs.length
  . have e:rs.length - k=(rs.length - (k+1))+1:=by omega
    have w:aY .i64 ((k:Int)+1)=((k+1:Nat):Int):=wrap64 (by omega) (by unfold qN at hl;omega)
    have hcut:cut rs[k] 0 9=some rs[k]:=fB (gq _ (List.getElem_mem h))
    have hp:=hP k h
    rw[e,scan]
    cases hb:P k
    .   simp only[Bool.false_eq_true,if_false]
        rw[<-ih (k+1) (by omega) (by omega)]
        simp[h,hcut,hp,hb,w]
    .   simp[h,hcut,hp,hb]
  . obtain rfl:k=rs.length:=by omega
    simp[scan]
theorem abR (hc:Sem c) (z:Bool) (rs:List (List AV)) (hl:rs.length<qN) (gq: ∀cs∈rs,cs.length=9) (g:Nat) (v:List AV) (P:Nat->Bool) (st:St)
   (hP: ∀i (h:i<rs.length),c g (.agg rs[i]::v) st=some (.bool (P i),st)):c 180 [ro 9 z rs,.func g [] v] st=some (.int .i64 (scan P rs.length 0),st):=by
 rw[rj hc (rs.length+1) (r:=(.int .i64 (scan P rs.length 0),st)),aX (Plain.int _ _) (cB.refl st)]
 rw[iO]
 have L: ∀k1 k2,bZ c (rs.length+1) k1 k2 (rs.length+1) [ro 9 z rs,.func g [] v,.int .i64 (rs.length:Int),.int .i64 0] st=if 0<=scan P (rs.length - 0) 0 then k1 [.int .i64 (scan P (rs.length - 0) 0)] st else k2 [] st:=
   fun k1 k2=>XP z rs hl gq g v P st _ k1 k2 hP rs.length 0 (by omega) (by omega)
 rw[Nat.sub_zero] at L
 by_cases h:0<=scan P rs.length 0
 . simp[L,h]
 . have:=(EB P rs.length 0).2 (by omega)
   simp[L,this]
theorem abS (hc:Sem c) (g:ke) (s:List Nat) (p:Pos) (st:St) (hw:Wf st) (hp:st.heap.get p=some (.cells [.str s] 0)):c 181 [.agg g.cells,.ptr p 0] st=some (.bool (decide (g.name=s)),st):=by
 rw[ND hc 1 (r:=(.bool (decide (g.name=s)),au st (.cells g.cells 0))),aX (Plain.bool _) (iK hw)]
 rw[MC]
 have:(au st (.cells g.cells 0)).heap.get p=some (.cells [.str s] 0):=iK hw _ _ hp
 simp[this]
theorem afW (hc:Sem c) (p:fG) (hp:p.sS) (s:List Nat) (st:St) (hw:Wf st):c 115 [.agg p.cells,.str s] st=some (.int .i64 (scan (wz p.gs s) p.gs.length 0),st):=by
 have cH:Wf (au st (.cells p.cells 0)):=eB hw
 have gm:=eB (b:= .cells [.str s] 0) cH
 have hg:=(Grew.au hw (.cells p.cells 0)).trans (Grew.au cH (.cells [.str s] 0))
 have oJ:(au (au st (.cells p.cells 0)) (.cells [.str s] 0)).heap.get st.next=some (.cells p.cells 0):=by
  have:=aR st (.cells p.cells 0)
  exact (Grew.au cH (.cells [.str s] 0)).get this
 have hi:=abR hc p.gz (p.gs.map ke.cells) (by have:=hp.gs;simp;unfold qN;omega) (fun cs iD=>by
   simp only[List.mem_map] at iD
   obtain ⟨t,_,rfl⟩:=iD;rfl) 181 [.ptr (au st (.cells p.cells 0)).next 0] (wz p.gs s) (au (au st (.cells p.cells 0)) (.cells [.str s] 0)) (fun i hi=>by
   have Mx:i<p.gs.length:=by simpa using hi
   have:=abS hc p.gs[i] s (au st (.cells p.cells 0)).next _ gm (aR _ _)
   simp only[List.getElem_map]
   rw[this]
   simp[wz,Mx])
 rw[List.length_map] at hi
 rw[Re hc 1 (r:=(.int .i64 (scan (wz p.gs s) p.gs.length 0),au (au st (.cells p.cells 0)) (.cells [.str s] 0))),aX (Plain.int _ _) hg.keeps]
 rw[Rf]
 have e:(AV.str s).cells=[.str s]:=rfl
 simp[e,hi,oJ,ko]
structure Kd where
 w:List Nat
 a:Int
 b:Bool
 t:Int
 n:Bool
 lo:Int
 sB:Bool
 f:AV
def Kd.cells (k:Kd):List AV:=[.str k.w,.int .u8 k.a,.bool k.b,.int .u8 k.t,.bool k.n,.int .i64 k.lo,.bool k.sB,k.f]
@[simp] theorem Kd.c0 (t:Kd):t.cells[0]? =some (.str t.w):=id rfl
@[simp] theorem Kd.c1 (t:Kd):t.cells[1]? =some (.int .u8 t.a):=id rfl
@[simp] theorem Kd.c2 (t:Kd):t.cells[2]? =some (.bool t.b):=id rfl
@[simp] theorem Kd.c3 (t:Kd):t.cells[3]? =some (.int .u8 t.t):=id rfl
@[simp] theorem Kd.c4 (t:Kd):t.cells[4]? =some (.bool t.n):=id rfl
@[simp] theorem Kd.c5 (t:Kd):t.cells[5]? =some (.int .i64 t.lo):=id rfl
@[simp] theorem Kd.c6 (t:Kd):t.cells[6]? =some (.bool t.sB):=id rfl
@[simp] theorem Kd.cc (t:Kd):cut t.cells 0 8=some t.cells:=fB rfl
def zA (k:Kd) (r:Rl):Bool:=(decide (k.a≠0)||decide (r.a=[]))&&(k.b||decide (r.b=[]))&&(decide (k.t≠0)||decide (r.t=[]))&&(k.n||decide (r.n=0))
theorem aah (hc:Sem c) (k:Kd) (r:Rl) (st:St) (hw:Wf st):c 114 [.agg k.cells,.agg r.cells] st=some (.bool (zA k r),st):=by
 have cH:Wf (au st (.cells k.cells 0)):=eB hw
 have lq:=Grew.au cH (.cells r.cells 0)
 have hg:=(Grew.au hw (.cells k.cells 0)).trans lq
 have p1:=lq.get (aR st (.cells k.cells 0))
 have p2:=aR (au st (.cells k.cells 0)) (.cells r.cells 0)
 rw[Ht hc 1 (r:=(.bool (zA k r),au (au st (.cells k.cells 0)) (.cells r.cells 0))),aX (Plain.bool _) hg.keeps]
 rw[De]
 unfold zA
 by_cases h0:k.a=0
 rotate_left
 . cases  h2:k.b with
   |true=>
    by_cases h4:k.t=0
    rotate_left
    .   cases h6:k.n with
        | true=>
          simp[h0,h2,h4,h6]
        | false=>
          by_cases h7:r.n=0
          . simp[h0,h2,h4,h6,h7]
          . simp[h0,h2,h4,h6,h7]
    by_cases h5:r.t=[]
    .   cases h6:k.n with
        | true=>
          simp[h0,h2,h4,h5,h6]
        | false=>
          by_cases h7:r.n=0
          . simp[h0,h2,h4,h5,h6,h7]
          . simp[h0,h2,h4,h5,h6,h7]
    .   simp[h0,h2,h4,h5]
   |false   =>
    by_cases h3:r.b=[]
    .   by_cases h4:k.t=0
        rotate_left
        . cases h6:k.n with
          | true=>
            simp[h0,h2,h3,h4,h6]
          | false=>
            by_cases h7:r.n=0
            . simp[h0,h2,h3,h4,h6,h7]
            . simp[h0,h2,h3,h4,h6,h7]
        by_cases h5:r.t=[]
        . cases h6:k.n with
          | true=>
            simp[h0,h2,h3,h4,h5,h6]
          | false=>
            by_cases h7:r.n=0
            . simp[h0,h2,h3,h4,h5,h6,h7]
            . simp[h0,h2,h3,h4,h5,h6,h7]
        . simp[h0,h2,h3,h4,h5]
    .   simp[h0,h2,h3]
 by_cases h1:r.a=[]
 . cases  h2:k.b with
   |true=>
    by_cases h4:k.t=0
    rotate_left
    .   cases h6:k.n with
        | true=>
          simp[h0,h1,h2,h4,h6]
        | false=>
          by_cases h7:r.n=0
          . simp[h0,h1,h2,h4,h6,h7]
          . simp[h0,h1,h2,h4,h6,h7]
    by_cases h5:r.t=[]
    .   cases h6:k.n with
        | true=>
          simp[h0,h1,h2,h4,h5,h6]
        | false=>
          by_cases h7:r.n=0
          . simp[h0,h1,h2,h4,h5,h6,h7]
          . simp[h0,h1,h2,h4,h5,h6,h7]
    .   simp[h0,h1,h2,h4,h5]
   |false   =>
    by_cases h3:r.b=[]
    .   by_cases h4:k.t=0
        rotate_left
        . cases h6:k.n with
          | true=>
            simp[h0,h1,h2,h3,h4,h6]
          | false=>
            by_cases h7:r.n=0
            . simp[h0,h1,h2,h3,h4,h6,h7]
            . simp[h0,h1,h2,h3,h4,h6,h7]
        by_cases h5:r.t=[]
        . cases h6:k.n with
          | true=>
            simp[h0,h1,h2,h3,h4,h5,h6]
          | false=>
            by_cases h7:r.n=0
            . simp[h0,h1,h2,h3,h4,h5,h6,h7]
            . simp[h0,h1,h2,h3,h4,h5,h6,h7]
        . simp[h0,h1,h2,h3,h4,h5]
    .   simp[h0,h1,h2,h3]
 . simp[h0,h1]
end Go.Proofs.YtehbdakjkjkekaaGreatDoor
end
section
set_option maxRecDepth 100000
namespace Go.Proofs.YtehbdakjkjkekaaGreatDoor
open Go Go.Ai Go.Proofs
variable {c : ai}
theorem wA {R:Type} (P:(List AV->St->Option R)->Prop) {A:(List AV->St->Option R)->Option R} {T:List AV->St->Option R} {r:Option R} (hT:P T) (hA: ∀j,P j->A j=r):lS A T=r:=hA T hT
theorem FY {R:Type} (c:ai) (K:AV->St->Option R) (st:St) (es:Nat) (z:Bool) (rs:List (List AV)) (k k':IntKind) (i j:Nat) (h:i<j) (h2:j<=rs.length):
  af c (.sliceL es true true false) [ro es z rs,.int k (i:Int),.int k' (j:Int)] st K=K (ro es false ((rs.take j).drop i)) st:=by
 have: ∀H n,aE.run H n (.sliceL es true true false) [ro es z rs,.int k (i:Int),.int k' (j:Int)]=some (.val (ro es false ((rs.take j).drop i))):=fun H n=>by
  rw[Ux (by intro e;subst e;simp at h2;omega)]
  have h3:i<=j:=by omega
  simp[aE.run,tq,bounds,pO,gb,jK,h3,h2,ro]
 exact dm c K this st
theorem OG (ts:List bO): ∀(m k:Nat),(fq ts m k).2=0-> ∀i,k<=i->i<k+m-> ∀h:i<ts.length,vS ts[i]=0
 |0,k,_,i,h1,h2,_=>by omega
 |m +   1,k,h,i,h1,h2,hi=>by
  have hk:k<ts.length:=by omega
  rw[fq,List.getElem?_eq_getElem hk] at h
  simp only at h
  by_cases h3:vS ts[k]=0
  . rw[if_neg (by simp[h3])] at h
    by_cases h4:0<=scan (kU ts ts[k].name) k 0
    .   rw[if_pos h4] at h;simp at h
    .   rw[if_neg h4] at h
        by_cases e:i=k
        . subst e;exact h3
        . exact OG ts m (k+1) h i (by omega) (by omega) hi
  . rw[if_pos h3] at h;exact absurd h h3
theorem Df {ts:List bO} (h:(cD ts).2=0) (i:Nat) (hi:i<ts.length):vS ts[i]=0:=by
 unfold cD at h
 split at h
 . simp at h
 . exact OG ts ts.length 0 h i (by omega) (by omega) hi
theorem Dg {t:bO} (h:vS t=0):(cD [t]).2=0:=by
 simp[cD,fq,h,scan]
def gi (p:fG) (s:List Nat):Int:=scan (wz p.gs s) p.gs.length 0
def ti (p:fG) (s:List Nat):Int:=scan (kU p.ts s) p.ts.length 0
def zX (p:fG) (i:Int):Int:=match p.ts[i.toNat]? with
 |some t=>ew t
 |none=>0
def vT (k:Kd) (r:Rl) (m:Int):Int:=if k.n=true/\(r.n<k.lo\/m<r.n) then 42 else 0
def PN (k:Kd) (p:fG) (r:Rl):Int:=
 if (k.t=116/\ti p r.t<0)\/(k.t=101/\r.t≠[]/\ti p r.t<0) then 6
 else vT k r (if k.sB=true then zX p (ti p r.t) - 1 else 24)
def VZ (k:Kd) (p:fG) (r:Rl):Int:=
 if k.a=100/\eU r.a=false then 4 else if k.b=true/\r.a=r.b then 5 else PN k p r
def DR (k:Kd) (p:fG) (r:Rl):Int:=
 if k.w=[] then 40 else if r.wt<0\/1000<r.wt then 41 else if zA k r=false then 43
 else if (k.a=103/\gi p r.a<0)\/(k.a=101/\r.a≠[]/\gi p r.a<0)\/(k.b=true/\gi p r.b<0) then 6
 else VZ k p r
theorem OH (hc:Sem c) (k:Kd) (hk:k.sB=true->k.t=116) (p:fG) (hp:p.sS) (hv:(cD p.ts).2=0) (r:Rl) (st:St) (hw:Wf st):
   c 52 [.agg k.cells,.agg p.cells,.agg r.cells] st=some (.int .i64 (DR k p r),st):=by
 have cH:Wf (au st (.cells k.cells 0)):=eB hw
 have gm:=eB (b:= .cells p.cells 0) cH
 have xU:=Grew.au gm (.cells r.cells 0)
 have lq:=Grew.au cH (.cells p.cells 0)
 have hg:=((Grew.au hw (.cells k.cells 0)).trans lq).trans xU
 have zf:=hg.wf
 have p1:=xU.get (lq.get (aR st (.cells k.cells 0)))
 have p2:=xU.get (aR (au st (.cells k.cells 0)) (.cells p.cells 0))
 have p3:=aR (au (au st (.cells k.cells 0)) (.cells p.cells 0)) (.cells r.cells 0)
 have A:=fun s=>afW hc p hp s _ zf
 have B:=aah hc k r _ zf
 have D:=abP hc p.tz p.ts hp.ok (by have:=hp.ts;unfold qN;omega) r.t _ zf
 have N:=Q8 hc r.a (au (au (au st (.cells k.cells 0)) (.cells p.cells 0)) (.cells r.cells 0))
 rw[Hu hc 1 (r:=(.int .i64 (DR k p r),au (au (au st (.cells k.cells 0)) (.cells p.cells 0)) (.cells r.cells 0))),aX (Plain.int _ _) hg.keeps]
 rw[Dh]
 simp only[Nn,aP,AV.cells]
 generalize au (au (au st (.cells k.cells 0)) (.cells p.cells 0)) (.cells r.cells 0)=s at*
 generalize (au (au st (.cells k.cells 0)) (.cells p.cells 0)).next=q3 at*
 generalize (au st (.cells k.cells 0)).next=q2 at*
 generalize st.next=q1 at*
 refine wA (P:=fun j=>j [.ptr q1 0,.ptr q2 0,.ptr q3 0] s=some (.int .i64 (PN k p r),s)) ?_ ?_
 . have D2  : c 117 [tabs p.tz p.ts,.str r.t] s=some (.tuple [.int .i64 (if 0<=ti p r.t then ti p r.t else 0),.bool (decide (0<=ti p r.t))],s):=by
     simp only[hv,and_true] at D;exact D
   have hit:=KM (P:=kU p.ts r.t) p.ts.length 0
   clear D A B N hg lq xU hw cH gm
   unfold PN
   by_cases ht:0<=ti p r.t
   . have IE  : ¬ ti p r.t<0:=by omega
     obtain ⟨i,hi⟩: ∃i:Nat,ti p r.t=(i:Int):=⟨(ti p r.t).toNat,by omega⟩
     have tR:i<p.ts.length:=by
        have:=(hit ht).2.1
        unfold ti at hi;rw[hi] at this;simpa using this
     simp only[ht,if_true,decide_true] at D2
     by_cases h1:k.t=116
     .  simp[ p1,p2,p3,D2,h1,IE]
        refine wA (P:=fun j=> ∀m,j [.ptr q1 0,.ptr q3 0,.int .i64 m] s=some (.int .i64 (vT k r m),s)) ?_ ?_
        . intro m
          unfold vT
          cases hn:k.n with
          |false=>simp[p1,hn]
          | true=>
            by_cases e1:r.n<k.lo
            . simp[p1,p3,hn,e1]
            . by_cases e2:m<r.n
              . simp[p1,p3,hn,e1,e2]
              . simp[p1,p3,hn,e1,e2]
        . intro j hj
          cases hs:k.sB with
          |false=>simp[p1,hs,hj]
          | true=>
            have w:aY .i64 ((i:Int)+1)=(i:Int)+1:=by have:=hp.ts;exact wrap64 (by omega) (by omega)
            have cnt:=BE hc false [p.ts[i]] (fun t ht=>by simp only[List.mem_singleton] at ht;subst ht;exact hp.ok _ (List.getElem_mem tR)) s zf
            rw[if_pos (Dg (Df hv i tR)),show dy [p.ts[i]]=ew p.ts[i] by simp[dy]] at cnt
            have b:=xe p.ts[i]
            have w2:aY .i64 (ew p.ts[i] - 1)=ew p.ts[i] - 1:=wrap64 (by omega) (by omega)
            have hcut: ∀K:AV->St->Option (AV×St),af c (.sliceL 7 true true false) [tabs p.tz p.ts,.int .i64 (i:Int),.int .i64 ((i:Int)+1)] s K=K (tabs false [p.ts[i]]) s:=fun K=>by
              unfold tabs
              have:=FY c K s 7 p.tz (p.ts.map bO.cells) .i64 .i64 i (i+1) (by omega) (by rw[List.length_map];omega)
              rw[show ((i:Int)+1)=((i+1:Nat):Int) by omega,this]
              have e:((p.ts.map bO.cells).take (i+1)).drop i=[p.ts[i]].map bO.cells:=by
                rw[List.take_succ_eq_append_getElem (by simpa using tR),List.drop_append_of_le_length (by simp;omega)]
                simp
              rw[e]
            have e3:zX p (i:Int)=ew p.ts[i]:=by simp[zX,tR]
            simp[p1,p2,hs,hi,e3,w,hcut,cnt,hj,w2]
     .  by_cases h2 :k.t=101
        . by_cases h3:r.t=[]
          . simp only[h3] at D2 IE hi
            simp[p1,p2,p3,D2,h1,h2,h3,IE]
            refine wA (P:=fun j=> ∀m,j [.ptr q1 0,.ptr q3 0,.int .i64 m] s=some (.int .i64 (vT k r m),s)) ?_ ?_
            . intro m
              unfold vT
              cases hn:k.n with
              |false=>simp[p1,hn]
              | true=>
                by_cases e1:r.n<k.lo
                . simp[p1,p3,hn,e1]
                . by_cases e2:m<r.n
                  . simp[p1,p3,hn,e1,e2]
                  . simp[p1,p3,hn,e1,e2]
            . intro j hj
              cases hs:k.sB with
              |false=>simp[p1,hs,hj]
              | true=>
                have w:aY .i64 ((i:Int)+1)=(i:Int)+1:=by have:=hp.ts;exact wrap64 (by omega) (by omega)
                have cnt:=BE hc false [p.ts[i]] (fun t ht=>by simp only[List.mem_singleton] at ht;subst ht;exact hp.ok _ (List.getElem_mem tR)) s zf
                rw[if_pos (Dg (Df hv i tR)),show dy [p.ts[i]]=ew p.ts[i] by simp[dy]] at cnt
                have b:=xe p.ts[i]
                have w2:aY .i64 (ew p.ts[i] - 1)=ew p.ts[i] - 1:=wrap64 (by omega) (by omega)
                have hcut: ∀K:AV->St->Option (AV×St),af c (.sliceL 7 true true false) [tabs p.tz p.ts,.int .i64 (i:Int),.int .i64 ((i:Int)+1)] s K=K (tabs false [p.ts[i]]) s:=fun K=>by
                  unfold tabs
                  have:=FY c K s 7 p.tz (p.ts.map bO.cells) .i64 .i64 i (i+1) (by omega) (by rw[List.length_map];omega)
                  rw[show ((i:Int)+1)=((i+1:Nat):Int) by omega,this]
                  have e:((p.ts.map bO.cells).take (i+1)).drop i=[p.ts[i]].map bO.cells:=by
                    rw[List.take_succ_eq_append_getElem (by simpa using tR),List.drop_append_of_le_length (by simp;omega)]
                    simp
                  rw[e]
                have e3:zX p (i:Int)=ew p.ts[i]:=by simp[zX,tR]
                simp[p1,p2,hs,hi,e3,w,hcut,cnt,hj,w2]
          . simp[ p1,p2,p3,D2,h1,h2,h3,IE]
            refine wA (P:=fun j=> ∀m,j [.ptr q1 0,.ptr q3 0,.int .i64 m] s=some (.int .i64 (vT k r m),s)) ?_ ?_
            . intro m
              unfold vT
              cases hn:k.n with
              |false=>simp[p1,hn]
              | true=>
                by_cases e1:r.n<k.lo
                . simp[p1,p3,hn,e1]
                . by_cases e2:m<r.n
                  . simp[p1,p3,hn,e1,e2]
                  . simp[p1,p3,hn,e1,e2]
            . intro j hj
              cases hs:k.sB with
              |false=>simp[p1,hs,hj]
              | true=>
                have w:aY .i64 ((i:Int)+1)=(i:Int)+1:=by have:=hp.ts;exact wrap64 (by omega) (by omega)
                have cnt:=BE hc false [p.ts[i]] (fun t ht=>by simp only[List.mem_singleton] at ht;subst ht;exact hp.ok _ (List.getElem_mem tR)) s zf
                rw[if_pos (Dg (Df hv i tR)),show dy [p.ts[i]]=ew p.ts[i] by simp[dy]] at cnt
                have b:=xe p.ts[i]
                have w2:aY .i64 (ew p.ts[i] - 1)=ew p.ts[i] - 1:=wrap64 (by omega) (by omega)
                have hcut: ∀K:AV->St->Option (AV×St),af c (.sliceL 7 true true false) [tabs p.tz p.ts,.int .i64 (i:Int),.int .i64 ((i:Int)+1)] s K=K (tabs false [p.ts[i]]) s:=fun K=>by
                  unfold tabs
                  have:=FY c K s 7 p.tz (p.ts.map bO.cells) .i64 .i64 i (i+1) (by omega) (by rw[List.length_map];omega)
                  rw[show ((i:Int)+1)=((i+1:Nat):Int) by omega,this]
                  have e:((p.ts.map bO.cells).take (i+1)).drop i=[p.ts[i]].map bO.cells:=by
                    rw[List.take_succ_eq_append_getElem (by simpa using tR),List.drop_append_of_le_length (by simp;omega)]
                    simp
                  rw[e]
                have e3:zX p (i:Int)=ew p.ts[i]:=by simp[zX,tR]
                simp[p1,p2,hs,hi,e3,w,hcut,cnt,hj,w2]
        . simp[ p1,p2,p3,D2,h1,h2,IE]
          refine wA (P:=fun j=> ∀m,j [.ptr q1 0,.ptr q3 0,.int .i64 m] s=some (.int .i64 (vT k r m),s)) ?_ ?_
          . intro m
            unfold vT
            cases hn:k.n with
            |false=>simp[p1,hn]
            | true=>
              by_cases e1:r.n<k.lo
              . simp[p1,p3,hn,e1]
              . by_cases e2:m<r.n
                . simp[p1,p3,hn,e1,e2]
                . simp[p1,p3,hn,e1,e2]
          . intro j hj
            cases hs:k.sB with
            |false=>simp[p1,hs,hj]
            | true=>
              have w:aY .i64 ((i:Int)+1)=(i:Int)+1:=by have:=hp.ts;exact wrap64 (by omega) (by omega)
              have cnt:=BE hc false [p.ts[i]] (fun t ht=>by simp only[List.mem_singleton] at ht;subst ht;exact hp.ok _ (List.getElem_mem tR)) s zf
              rw[if_pos (Dg (Df hv i tR)),show dy [p.ts[i]]=ew p.ts[i] by simp[dy]] at cnt
              have b:=xe p.ts[i]
              have w2:aY .i64 (ew p.ts[i] - 1)=ew p.ts[i] - 1:=wrap64 (by omega) (by omega)
              have hcut: ∀K:AV->St->Option (AV×St),af c (.sliceL 7 true true false) [tabs p.tz p.ts,.int .i64 (i:Int),.int .i64 ((i:Int)+1)] s K=K (tabs false [p.ts[i]]) s:=fun K=>by
                unfold tabs
                have:=FY c K s 7 p.tz (p.ts.map bO.cells) .i64 .i64 i (i+1) (by omega) (by rw[List.length_map];omega)
                rw[show ((i:Int)+1)=((i+1:Nat):Int) by omega,this]
                have e:((p.ts.map bO.cells).take (i+1)).drop i=[p.ts[i]].map bO.cells:=by
                  rw[List.take_succ_eq_append_getElem (by simpa using tR),List.drop_append_of_le_length (by simp;omega)]
                  simp
                rw[e]
              have e3:zX p (i:Int)=ew p.ts[i]:=by simp[zX,tR]
              simp[p1,p2,hs,hi,e3,w,hcut,cnt,hj,w2]
   . have IE  : ti p r.t<0:=by omega
     simp only[ht,if_false,decide_false] at D2
     by_cases h1:k.t=116
     .  simp[p1,p2,p3,D2,h1,IE]
     .  by_cases h2:k.t=101
        . by_cases h3:r.t=[]
          . simp only[h3] at D2 IE
            simp[p1,p2,p3,D2,h1,h2,h3,IE]
            refine wA (P:=fun j=> ∀m,j [.ptr q1 0,.ptr q3 0,.int .i64 m] s=some (.int .i64 (vT k r m),s)) ?_ ?_
            . intro m
              unfold vT
              cases hn:k.n with
              |false=>simp[p1,hn]
              | true=>
                by_cases e1:r.n<k.lo
                . simp[p1,p3,hn,e1]
                . by_cases e2:m<r.n
                  . simp[p1,p3,hn,e1,e2]
                  . simp[p1,p3,hn,e1,e2]
            . intro j hj
              have hs:k.sB=false:=by
                cases h:k.sB with
                |false=>rfl
                |true=>exact absurd (hk h) h1
              simp[p1,hs,hj]
          . simp[p1,p2,p3,D2,h1,h2,h3,IE]
        . simp[ p1,p2,p3,D2,h1,h2,IE]
          refine wA (P:=fun j=> ∀m,j [.ptr q1 0,.ptr q3 0,.int .i64 m] s=some (.int .i64 (vT k r m),s)) ?_ ?_
          . intro m
            unfold vT
            cases hn:k.n with
            |false=>simp[p1,hn]
            | true=>
              by_cases e1:r.n<k.lo
              . simp[p1,p3,hn,e1]
              . by_cases e2:m<r.n
                . simp[p1,p3,hn,e1,e2]
                . simp[p1,p3,hn,e1,e2]
          . intro j hj
            have hs:k.sB=false:=by
              cases h:k.sB with
              |false=>rfl
              |true=>exact absurd (hk h) h1
            simp[p1,hs,hj]
 . intro  j hj
   have A2: ∀nm,c 115 [.agg p.cells,.str nm] s=some (.int .i64 (gi p nm),s):=A
   have cc:cut r.cells 0 6=some r.cells:=fB rfl
   clear A D hg lq xU hw cH gm
   unfold DR
   by_cases h0:k.w=[]
   . simp[p1,h0]
   by_cases h1:r.wt<0
   . simp[p1,p3,h0,h1]
   by_cases h2:1000<r.wt
   . simp[p1,p3,h0,h1,h2]
   cases h3:zA k r with
   |false=>simp[p1,p3,h0,h1,h2,B,h3]
   |true=>
   simp[p1,p3,h0,h1,h2,B,h3]
   refine wA (P:=fun j'=> ∀b:Bool,j' [.ptr q1 0,.ptr q2 0,.ptr q3 0,.bool b] s=some (.int .i64 (if b=true then 6 else VZ k p r),s)) ?_ ?_
   . intro  b
     cases b with
     |true=>simp
     |  false =>
        unfold VZ
        by_cases a1:k.a=100
        . cases a2:eU r.a with
          |false=>simp[p1,p3,a1,a2,N]
          | true=>
            cases b1:k.b with
            |false=>simp[p1,p3,a1,a2,N,b1,hj]
            | true=>
              by_cases b2:r.a=r.b
              . rw[b2] at a2 N
                simp[p1,p3,a1,a2,N,b1,b2]
              . simp[p1,p3,a1,a2,N,b1,b2,hj]
        . cases b1:k.b with
          |false=>simp[p1,p3,a1,b1,hj]
          | true=>
            by_cases b2:r.a=r.b
            . simp[p1,p3,a1,b1,b2]
            . simp[p1,p3,a1,b1,b2,hj]
   . intro  j' Bk
     have K6:=Bk true
     have K0:=Bk false
     simp only[if_true,Bool.false_eq_true,if_false] at K6 K0
     clear Bk hj
     by_cases a1:k.a=103
     .  by_cases g1:gi p r.a<0
        . simp[p1,p2,p3,a1,A2,g1,K6]
        . cases b1:k.b with
          |false=>simp[p1,p2,p3,a1,A2,g1,b1,K0]
          | true=>
            by_cases g2:gi p r.b<0
            . simp[p1,p2,p3,a1,A2,g1,g2,b1,K6]
            . simp[p1,p2,p3,a1,A2,g1,g2,b1,K0]
     .  by_cases a2:k.a=101
        . by_cases e:r.a=[]
          . cases b1:k.b with
            |false=>simp[p1,p2,p3,a1,a2,e,A2,b1,K0]
            | true=>
              by_cases g2:gi p r.b<0
              . simp[p1,p2,p3,a1,a2,e,A2,g2,b1,K6]
              . simp[p1,p2,p3,a1,a2,e,A2,g2,b1,K0]
          . by_cases g1:gi p r.a<0
            . simp[p1,p2,p3,a1,a2,e,A2,g1,K6]
            . cases b1:k.b with
              |false=>simp[p1,p2,p3,a1,a2,e,A2,g1,b1,K0]
              | true=>
                by_cases g2:gi p r.b<0
                . simp[p1,p2,p3,a1,a2,e,A2,g1,g2,b1,K6]
                . simp[p1,p2,p3,a1,a2,e,A2,g1,g2,b1,K0]
        . cases b1:k.b with
          |false=>simp[p1,p2,p3,a1,a2,A2,b1,K0]
          | true=>
            by_cases g2:gi p r.b<0
            . simp[p1,p2,p3,a1,a2,A2,g2,b1,K6]
            . simp[p1,p2,p3,a1,a2,A2,g2,b1,K0]
end Go.Proofs.YtehbdakjkjkekaaGreatDoor
end
section
set_option maxRecDepth 100000
namespace Go.Proofs.YtehbdakjkjkekaaGreatDoor
open Go Go.Ai Go.Proofs
end Go.Proofs.YtehbdakjkjkekaaGreatDoor
end
