/- What the plain functions answer: names, seats, tables, guests, ties, rolls. -/
import Derived.Test.YthiaklapeamjlaaGreatDoorCPlainA
import Derived.Test.YthiaklapeamjlaaGreatDoorCEvalE
set_option linter.all false
set_option linter.unusedSectionVars false
set_option linter.deprecated false
namespace Go.Proofs.YthiaklapeamjlaaGreatDoor
section
set_option maxRecDepth 100000
open Go Go.Ai Go.Proofs
variable {c : ak}
def eU (s:List Nat):Bool:=decide (1<=s.length)&&decide (s.length<=12)&&s.all fun c=>decide (97<=c/\c<=122)
theorem aiR (s:List Nat) (hs:s.length<=12) (F:Nat) (st:St) (k1 k2): ∀(m k:Nat),s.length<=k+m->k<=s.length->
  iW c F k1 k2 (m+1) [.str s,.int .i64 (k:Int)] st=if (s.drop k).all (fun c=>decide (97<=c/\c<=122))=true then k2 [] st else k1 [.bool false] st:=by
 intro m
 induction m with
 |zero=>
  intro k h1 h2
  rw[zy]
  obtain rfl:k=s.length:=by omega
  simp
 |succ m ih=>
  intro k h1 h2
  rw[zy]
  by_cases h:k<s.length
  . have e:s.drop k=s[k]::s.drop (k+1):=List.drop_eq_getElem_cons h
    have:=ih (k+1) (by omega) (by omega)
    have w:ay .i64 ((k:Int)+1)=((k+1:Nat):Int):=wrap64 (by omega) (by omega)
    rw[e,List.all_cons]
    generalize (s.drop (k+1)).all _=rest at this ⊢
    by_cases h3:(s[k]:Int)<97
    .   have h5:decide (97<=s[k]/\s[k]<=122)=false:=by simp;omega
        simp[h,h3,h5]
    .   by_cases h4:122<(s[k]:Int)
        . have h5:decide (97<=s[k]/\s[k]<=122)=false:=by simp;omega
          simp[h,h3,h4,h5]
        . have h5:decide (97<=s[k]/\s[k]<=122)=true:=by simp;omega
          rw[h5,Bool.true_and, <-this]
          simp[h,h3,h4,w]
  . obtain rfl:k=s.length:=by omega
    simp
theorem Eu (hc:Sem c) (s:List Nat) (st:St):c 187 [.str s] st=some (.bool (eU s),st):=by
 rw[Np hc (s.length+1) (r:=(.bool (eU s),st)),au (Plain.bool _) (aM.refl st)]
 rw[Q4]
 by_cases h0:(s.length:Int)<1
 . have h1: ¬1<=s.length:=by omega
   simp[eU,h0,h1]
 . by_cases h1:12<(s.length:Int)
   . have h2: ¬s.length<=12:=by omega
     simp[eU,h0,h1,h2]
   . have h2:s.length<=12:=by omega
     have h3:1<=s.length:=by omega
     have L: ∀k1 k2,iW c (s.length+1) k1 k2 (s.length+1) [.str s,.int .i64 0] st=if (s.drop 0).all (fun c=>decide (97<=c/\c<=122))=true then k2 [] st else k1 [.bool false] st:=
        fun k1 k2=>aiR (c:=c) s h2 (s.length+1) st k1 k2 s.length 0 (by omega) (by omega)
     rw[List.drop_zero] at L
     have e:eU s=s.all fun c=>decide (97<=c/\c<=122):=by simp[eU,h2,h3]
     rw[e]
     generalize (s.all _)=b at L ⊢
     simp[h0,h1,L]
     cases b<;>simp
end
section
set_option maxRecDepth 100000
open Go Go.Ai Go.Proofs
variable {c : ak}
structure az where
 name:List Nat
 sh:Int
 a:Int
 b:Int
 oz:Bool
 bZ:List Int
 x:Int
 y:Int
def ints (z:Bool) (l:List Int):AV:=ro 1 z (l.map fun i=>[.int .i64 i])
def az.cells (t:az):List AV:=[.str t.name,.int .u8 t.sh,.int .i64 t.a,.int .i64 t.b,ints t.oz t.bZ,.int .i64 t.x,.int .i64 t.y]
theorem UF (z:Bool) (l:List Int):Plain (ints z l):=Plain.ro fun cs h v hv=>by
 simp only[List.mem_map] at h
 obtain ⟨i,_,rfl⟩:=h
 simp only[List.mem_singleton] at hv;subst hv;exact Plain.int _ _
@[simp] theorem aha (z:Bool) (l:List Int):(ints z l).one=true:=ae7 _ _ _
def bl (t:az):Int:=
 if t.sh=1 then (if 1<=t.a/\t.a<=24/\t.b=0 then t.a else 0)
 else if t.sh=2 then (if 1<=t.a/\t.a<=11/\0<=t.b/\t.b<=2 then 2*t.a+t.b else 0)
 else if t.sh=3 then (if 1<=t.a/\t.a<=8/\1<=t.b/\t.b<=8 then t.a+2*t.b else 0)
 else if t.sh=4 then (if 1<=t.a/\t.a<=24/\0<=t.b/\t.b<=t.a then t.a else 0)
 else 0
theorem eV (hc:Sem c) (n lo hi:Int) (st:St):c 204 [.int .i64 n,.int .i64 lo,.int .i64 hi] st=some (.bool (decide (lo<=n/\n<=hi)),st):=by
 rw[Gd hc 1 (r:=(.bool (decide (lo<=n/\n<=hi)),st)),au (Plain.bool _) (aM.refl st)]
 rw[Jw]
 by_cases h:lo<=n<;>simp[h]
theorem Lq (hc:Sem c) (t:az) (st:St) (hw:Wf st):c 120 [.agg t.cells] st=some (.int .i64 (bl t),st):=by
 rw[Jy hc 1 (r:=(.int .i64 (bl t),ai st (.cells t.cells 0))),au (Plain.int _ _) (aU hw)]
 rw[Nq]
 obtain ⟨name,sh,a,b,oz,bZ,x,y⟩:=t
 by_cases h1:sh=1
 . subst h1
   by_cases h2:1<=a/\a<=24<;>by_cases h3:b=0<;>simp[az.cells,AV.cells,eV hc,bl,cm,h2,h3]
 by_cases h4:sh=2
 . subst h4
   by_cases h2:1<=a/\a<=11
   . by_cases h3:0<=b/\b<=2
     .  have w1:ay .i64 (2*a)=2*a:=wrap64 (by omega) (by omega)
        have w2:ay .i64 (2*a+b)=2*a+b:=wrap64 (by omega) (by omega)
        simp[az.cells,AV.cells,eV hc,bl,cm,h2,h3,w1,w2]
     .  simp[az.cells,AV.cells,eV hc,bl,cm,h2,h3]
   . simp[az.cells,AV.cells,eV hc,bl,cm,h2];omega
 by_cases h5:sh=3
 . subst h5
   by_cases h2:1<=a/\a<=8
   . by_cases h3:1<=b/\b<=8
     .  have w1:ay .i64 (2*b)=2*b:=wrap64 (by omega) (by omega)
        have w2:ay .i64 (a+2*b)=a+2*b:=wrap64 (by omega) (by omega)
        simp[az.cells,AV.cells,eV hc,bl,cm,h2,h3,w1,w2]
     .  simp[az.cells,AV.cells,eV hc,bl,cm,h2,h3]
   . simp[az.cells,AV.cells,eV hc,bl,cm,h2];omega
 by_cases h6:sh=4
 . subst h6
   by_cases h2:1<=a/\a<=24
   . by_cases h3:0<=b/\b<=a
     .  simp[az.cells,AV.cells,eV hc,bl,cm,h2,h3]
     .  simp[az.cells,AV.cells,eV hc,bl,cm,h2,h3]
   . simp[az.cells,AV.cells,eV hc,bl,cm,h2];omega
 simp[az.cells,AV.cells,eV hc,bl,cm,h1,h4,h5,h6]
theorem Yc (hc:Sem c) (a b:Int) (st:St):c 283 [.int .i64 a,.int .i64 b] st=some (.int .i64 (if 1<=a/\a<=24/\b=0 then a else 0),st):=by
 rw[Nr hc 1 (r:=(.int .i64 (if 1<=a/\a<=24/\b=0 then a else 0),st)),au (Plain.int _ _) (aM.refl st)]
 rw[Q5]
 by_cases h1:a<1
 . have: ¬1<=a:=by omega
   simp[h1,this]
 . by_cases h2:24<a
   . have: ¬a<=24:=by omega
     simp[h1,h2,this]
   . have h3:1<=a:=by omega
     have h4:a<=24:=by omega
     by_cases h5:b=0<;>simp[h1,h2,h3,h4,h5]
theorem aam (hc:Sem c) (a b:Int) (st:St):c 288 [.int .i64 a,.int .i64 b] st=some (.int .i64 (if 1<=a/\a<=11/\0<=b/\b<=2 then 2*a+b else 0),st):=by
 rw[OD hc 1 (r:=(.int .i64 (if 1<=a/\a<=11/\0<=b/\b<=2 then 2*a+b else 0),st)),au (Plain.int _ _) (aM.refl st)]
 rw[Tk]
 by_cases h1:a<1
 . have: ¬1<=a:=by omega
   simp[h1,this]
 by_cases h2:11<a
 . have: ¬a<=11:=by omega
   simp[h1,h2,this]
 by_cases h3:b<0
 . have: ¬0<=b:=by omega
   simp[h1,h2,h3,this]
 by_cases h4:2<b
 . have: ¬b<=2:=by omega
   simp[h1,h2,h3,h4,this]
 have h5:1<=a:=by omega
 have h6:a<=11:=by omega
 have h7:0<=b:=by omega
 have h8:b<=2:=by omega
 have w1:ay .i64 (2*a)=2*a:=wrap64 (by omega) (by omega)
 have w2:ay .i64 (2*a+b)=2*a+b:=wrap64 (by omega) (by omega)
 simp[h1,h2,h3,h4,h5,h6,h7,h8,w1,w2]
theorem aan (hc:Sem c) (a b:Int) (st:St):c 293 [.int .i64 a,.int .i64 b] st=some (.int .i64 (if 1<=a/\a<=8/\1<=b/\b<=8 then a+2*b else 0),st):=by
 rw[OE hc 1 (r:=(.int .i64 (if 1<=a/\a<=8/\1<=b/\b<=8 then a+2*b else 0),st)),au (Plain.int _ _) (aM.refl st)]
 rw[Tl]
 by_cases h1:a<1
 . have: ¬1<=a:=by omega
   simp[h1,this]
 by_cases h2:8<a
 . have: ¬a<=8:=by omega
   simp[h1,h2,this]
 by_cases h3:b<1
 . have: ¬1<=b:=by omega
   simp[h1,h2,h3,this]
 by_cases h4:8<b
 . have: ¬b<=8:=by omega
   simp[h1,h2,h3,h4,this]
 have h5:1<=a:=by omega
 have h6:a<=8:=by omega
 have h7:1<=b:=by omega
 have h8:b<=8:=by omega
 have w1:ay .i64 (2*b)=2*b:=wrap64 (by omega) (by omega)
 have w2:ay .i64 (a+2*b)=a+2*b:=wrap64 (by omega) (by omega)
 simp[h1,h2,h3,h4,h5,h6,h7,h8,w1,w2]
theorem abS (hc:Sem c) (a b:Int) (st:St):c 298 [.int .i64 a,.int .i64 b] st=some (.int .i64 (if 1<=a/\a<=24/\0<=b/\b<=a then a else 0),st):=by
 rw[Q7 hc 1 (r:=(.int .i64 (if 1<=a/\a<=24/\0<=b/\b<=a then a else 0),st)),au (Plain.int _ _) (aM.refl st)]
 rw[UG]
 by_cases h1:a<1
 . have: ¬1<=a:=by omega
   simp[h1,this]
 by_cases h2:24<a
 . have: ¬a<=24:=by omega
   simp[h1,h2,this]
 by_cases h3:b<0
 . have: ¬0<=b:=by omega
   simp[h1,h2,h3,this]
 by_cases h4:a<b
 . have: ¬b<=a:=by omega
   simp[h1,h2,h3,h4,this]
 have h5:1<=a:=by omega
 have h6:a<=24:=by omega
 have h7:0<=b:=by omega
 have h8:b<=a:=by omega
 simp[h1,h2,h3,h4,h5,h6,h7,h8]
def fk (sh:Int):List AV:=
 if sh=1 then [.str [114,111,117,110,100],.func 283 [] [],.func 284 [] [],.func 285 [] [],.func 286 [] [],.func 287 [] []]
 else if sh=2 then [.str [108,111,110,103],.func 288 [] [],.func 289 [] [],.func 290 [] [],.func 291 [] [],.func 292 [] []]
 else if sh=3 then [.str [104,111,114,115,101,115,104,111,101],.func 293 [] [],.func 294 [] [],.func 295 [] [],.func 296 [] [],.func 297 [] []]
 else if sh=4 then [.str [114,111,119],.func 298 [] [],.func 299 [] [],.func 300 [] [],.func 301 [] [],.func 302 [] []]
 else [.str [],.js,.js,.js,.js,.js]
theorem plain_fn (f:Nat):Plain (.func f [] []):=Plain.func f (by simp) (by simp)
theorem afj (sh:Int): ∀v∈fk sh,Plain v:=by
 unfold fk;intro v hv
 repeat' split at hv
 all_goals
  simp only[List.mem_cons,List.not_mem_nil,or_false] at hv
  rcases hv with rfl|rfl|rfl|rfl|rfl|rfl<;>first|exact Plain.str _|exact Plain.js|exact plain_fn _
theorem dZ (hc:Sem c) (sh:Int) (st:St) (hw:Wf st):c 246 [.int .u8 sh] st=some (.tuple [.agg (fk sh),.bool (decide (1<=sh/\sh<=4))],st):=by
 have hp:Plain (.tuple [.agg (fk sh),.bool (decide (1<=sh/\sh<=4))]):=Plain.tuple fun v hv=>by
   simp only[List.mem_cons,List.not_mem_nil,or_false] at hv
   rcases hv with rfl|rfl
   . exact Plain.agg (afj sh)
   . exact Plain.bool _
 rw[Q8 hc 1 (r:=(.tuple [.agg (fk sh),.bool (decide (1<=sh/\sh<=4))],ai st (.cells (fk sh) 0))),au hp (aU hw)]
 rw[UH]
 by_cases h1:sh=1
 . subst h1;simp[fk,AV.cells,aK,AV.one,cD,bJ,aG,cM]
 by_cases h2:sh=2
 . subst h2;simp[fk,AV.cells,aK,AV.one,cD,bJ,aG,cM]
 by_cases h3:sh=3
 . subst h3;simp[fk,AV.cells,aK,AV.one,cD,bJ,aG,cM]
 by_cases h4:sh=4
 . subst h4;simp[fk,AV.cells,aK,AV.one,cD,bJ,aG,cM]
 have h5:decide (1<=sh/\sh<=4)=false:=by simp;omega
 rw[h5]
 simp[fk,AV.cells,aK,AV.one,cD,bJ,aG,cM,h1,h2,h3,h4]
theorem Jz (hc:Sem c) (t:az) (st:St) (hw:Wf st):c 161 [.agg t.cells] st=some (.int .i64 (bl t),st):=by
 rw[Yd hc 1 (r:=(.int .i64 (bl t),ai (ai st (.cells t.cells 0)) (.cells (fk t.sh) 0))),au (Plain.int _ _) ((aU hw).trans (aU (aQ hw)))]
 rw[abT]
 obtain ⟨name,sh,a,b,oz,bZ,x,y⟩:=t
 by_cases h1:sh=1
 . subst h1;simp[az.cells,AV.cells,dZ hc,hw,bl,fk,aK,AV.one,Yc hc]
 by_cases h2:sh=2
 . subst h2;simp[az.cells,AV.cells,dZ hc,hw,bl,fk,aK,AV.one,aam hc]
 by_cases h3:sh=3
 . subst h3;simp[az.cells,AV.cells,dZ hc,hw,bl,fk,aK,AV.one,aan hc]
 by_cases h4:sh=4
 . subst h4;simp[az.cells,AV.cells,dZ hc,hw,bl,fk,aK,AV.one,abS hc]
 have h5:decide (1<=sh/\sh<=4)=false:=by simp;omega
 simp[az.cells,AV.cells,dZ hc,hw,bl,fk,aK,AV.one,h1,h2,h3,h4,h5]
end
section
set_option maxRecDepth 100000
open Go Go.Ai Go.Proofs
variable {c : ak}
def cO:Nat:=9223372036854775808
theorem Il (s:List Nat) (hs:s.length<=12) (F:Nat) (st:St) (k1 k2): ∀(m k:Nat),s.length<=k+m->k<=s.length->
  gN c F k1 k2 (m+1) [.str s,.int .i64 (k:Int)] st=if (s.drop k).all (fun c=>decide (97<=c/\c<=122))=true then k2 [] st else k1 [.bool false] st:=by
 intro m
 induction m with
 |zero=>
  intro k h1 h2
  rw[wC]
  obtain rfl:k=s.length:=by omega
  simp
 |succ m ih=>
  intro k h1 h2
  rw[wC]
  by_cases h:k<s.length
  . have e:s.drop k=s[k]::s.drop (k+1):=List.drop_eq_getElem_cons h
    have:=ih (k+1) (by omega) (by omega)
    have w:ay .i64 ((k:Int)+1)=((k+1:Nat):Int):=wrap64 (by omega) (by omega)
    rw[e,List.all_cons]
    generalize (s.drop (k+1)).all _=rest at this ⊢
    by_cases h3:(s[k]:Int)<97
    .   have h5:decide (97<=s[k]/\s[k]<=122)=false:=by simp;omega
        simp[h,h3,h5]
    .   by_cases h4:122<(s[k]:Int)
        . have h5:decide (97<=s[k]/\s[k]<=122)=false:=by simp;omega
          simp[h,h3,h4,h5]
        . have h5:decide (97<=s[k]/\s[k]<=122)=true:=by simp;omega
          rw[h5,Bool.true_and, <-this]
          simp[h,h3,h4,w]
  . obtain rfl:k=s.length:=by omega
    simp
theorem Lr (hc:Sem c) (s:List Nat) (st:St):c 309 [.str s] st=some (.bool (eU s),st):=by
 rw[JA hc (s.length+1) (r:=(.bool (eU s),st)),au (Plain.bool _) (aM.refl st)]
 rw[Ns]
 by_cases h0:(s.length:Int)=0
 . have h1: ¬1<=s.length:=by omega
   have h2:s=[]:=List.eq_nil_of_length_eq_zero (by omega)
   subst h2
   simp[eU]
 . by_cases h1:12<(s.length:Int)
   . have h2: ¬s.length<=12:=by omega
     have h3: ¬s=[]:=by intro e;subst e;simp at h0
     simp[eU,h1,h2,h3]
   . have h2:s.length<=12:=by omega
     have h3:1<=s.length:=by omega
     have h4: ¬s=[]:=by intro e;subst e;simp at h0
     have L: ∀k1 k2,gN c (s.length+1) k1 k2 (s.length+1) [.str s,.int .i64 0] st=if (s.drop 0).all (fun c=>decide (97<=c/\c<=122))=true then k2 [] st else k1 [.bool false] st:=
        fun k1 k2=>Il (c:=c) s h2 (s.length+1) st k1 k2 s.length 0 (by omega) (by omega)
     rw[List.drop_zero] at L
     have e:eU s=s.all fun c=>decide (97<=c/\c<=122):=by simp[eU,h2,h3]
     rw[e]
     generalize (s.all _)=b at L ⊢
     simp[h1,h4,L]
     cases b<;>simp
theorem UI (s:List Nat) (hs:s.length<=12) (F:Nat) (st:St) (k1 k2): ∀(m k:Nat),s.length<=k+m->k<=s.length->
  nS c F k1 k2 (m+1) [.str s,.int .i64 (s.length:Int),.int .i64 (k:Int)] st=if (s.drop k).all (fun c=>decide (97<=c/\c<=122))=true then k2 [] st else k1 [.bool false] st:=by
 intro m
 induction m with
 |zero=>
  intro k h1 h2
  rw[Hg]
  obtain rfl:k=s.length:=by omega
  simp
 |succ m ih=>
  intro k h1 h2
  rw[Hg]
  by_cases h:k<s.length
  . have e:s.drop k=s[k]::s.drop (k+1):=List.drop_eq_getElem_cons h
    have:=ih (k+1) (by omega) (by omega)
    have w:ay .i64 ((k:Int)+1)=((k+1:Nat):Int):=wrap64 (by omega) (by omega)
    rw[e,List.all_cons]
    generalize (s.drop (k+1)).all _=rest at this ⊢
    by_cases h3:(s[k]:Int)<97
    .   have h5:decide (97<=s[k]/\s[k]<=122)=false:=by simp;omega
        simp[h,h3,h5]
    .   by_cases h4:122<(s[k]:Int)
        . have h5:decide (97<=s[k]/\s[k]<=122)=false:=by simp;omega
          simp[h,h3,h4,h5]
        . have h5:decide (97<=s[k]/\s[k]<=122)=true:=by simp;omega
          rw[h5,Bool.true_and, <-this]
          simp[h,h3,h4,w]
  . obtain rfl:k=s.length:=by omega
    simp
theorem Cz (hc:Sem c) (s:List Nat) (st:St):c 304 [.str s] st=some (.bool (eU s),st):=by
 rw[V9 hc (s.length+1) (r:=(.bool (eU s),st)),au (Plain.bool _) (aM.refl st)]
 rw[aao]
 by_cases h0:(s.length:Int)=0
 . have h1: ¬1<=s.length:=by omega
   have h2:s=[]:=List.eq_nil_of_length_eq_zero (by omega)
   subst h2
   simp[eU]
 . by_cases h1:12<(s.length:Int)
   . have h2: ¬s.length<=12:=by omega
     have h3: ¬s=[]:=by intro e;subst e;simp at h0
     simp[eU,h1,h2,h3]
   . have h2:s.length<=12:=by omega
     have h3:1<=s.length:=by omega
     have h4: ¬s=[]:=by intro e;subst e;simp at h0
     have L: ∀k1 k2,nS c (s.length+1) k1 k2 (s.length+1) [.str s,.int .i64 (s.length:Int),.int .i64 0] st=if (s.drop 0).all (fun c=>decide (97<=c/\c<=122))=true then k2 [] st else k1 [.bool false] st:=
        fun k1 k2=>UI (c:=c) s h2 (s.length+1) st k1 k2 s.length 0 (by omega) (by omega)
     rw[List.drop_zero] at L
     have e:eU s=s.all fun c=>decide (97<=c/\c<=122):=by simp[eU,h2,h3]
     rw[e]
     generalize (s.all _)=b at L ⊢
     simp[h1,h4,L]
     cases b<;>simp
theorem Wc (s:List Nat) (hs:s.length<=12) (F:Nat) (st:St) (k1 k2): ∀(m k:Nat),s.length<=k+m->k<=s.length->
  pN c F k1 k2 (m+1) [.str s,.int .i64 (s.length:Int),.int .i64 (k:Int)] st=if (s.drop k).all (fun c=>decide (97<=c/\c<=122))=true then k2 [] st else k1 [.bool false] st:=by
 intro m
 induction m with
 |zero=>
  intro k h1 h2
  rw[JB]
  obtain rfl:k=s.length:=by omega
  simp
 |succ m ih=>
  intro k h1 h2
  rw[JB]
  by_cases h:k<s.length
  . have e:s.drop k=s[k]::s.drop (k+1):=List.drop_eq_getElem_cons h
    have:=ih (k+1) (by omega) (by omega)
    have w:ay .i64 ((k:Int)+1)=((k+1:Nat):Int):=wrap64 (by omega) (by omega)
    rw[e,List.all_cons]
    generalize (s.drop (k+1)).all _=rest at this ⊢
    by_cases h3:(s[k]:Int)<97
    .   have h5:decide (97<=s[k]/\s[k]<=122)=false:=by simp;omega
        simp[h,h3,h5]
    .   by_cases h4:122<(s[k]:Int)
        . have h5:decide (97<=s[k]/\s[k]<=122)=false:=by simp;omega
          simp[h,h3,h4,h5]
        . have h5:decide (97<=s[k]/\s[k]<=122)=true:=by simp;omega
          rw[h5,Bool.true_and, <-this]
          simp[h,h3,h4,w]
  . obtain rfl:k=s.length:=by omega
    simp
theorem aap (hc:Sem c) (s:List Nat) (st:St):c 152 [.str s] st=some (.bool (eU s),st):=by
 rw[Ye hc (s.length+1) (r:=(.bool (eU s),st)),au (Plain.bool _) (aM.refl st)]
 rw[abU]
 by_cases h0:(s.length:Int)=0
 . have h1: ¬1<=s.length:=by omega
   have h2:s=[]:=List.eq_nil_of_length_eq_zero (by omega)
   subst h2
   simp[eU]
 . by_cases h1:12<(s.length:Int)
   . have h2: ¬s.length<=12:=by omega
     have h3: ¬s=[]:=by intro e;subst e;simp at h0
     simp[eU,h1,h2,h3]
   . have h2:s.length<=12:=by omega
     have h3:1<=s.length:=by omega
     have h4: ¬s=[]:=by intro e;subst e;simp at h0
     have L: ∀k1 k2,pN c (s.length+1) k1 k2 (s.length+1) [.str s,.int .i64 (s.length:Int),.int .i64 0] st=if (s.drop 0).all (fun c=>decide (97<=c/\c<=122))=true then k2 [] st else k1 [.bool false] st:=
        fun k1 k2=>Wc (c:=c) s h2 (s.length+1) st k1 k2 s.length 0 (by omega) (by omega)
     rw[List.drop_zero] at L
     have e:eU s=s.all fun c=>decide (97<=c/\c<=122):=by simp[eU,h2,h3]
     rw[e]
     generalize (s.all _)=b at L ⊢
     simp[h1,h4,L]
     cases b<;>simp
theorem Wd (s:List Nat) (hs:s.length<cO) (F:Nat) (st:St) (k1 k2): ∀(m k:Nat),s.length<=k+m->k<=s.length->
  pO c F k1 k2 (m+1) [.str s,.int .i64 (k:Int)] st=if (s.drop k).all (fun c=>decide (97<=c/\c<=122))=true then k2 [.str s] st else k1 [.bool false] st:=by
 intro m
 induction m with
 |zero=>
  intro k h1 h2
  rw[JC]
  obtain rfl:k=s.length:=by omega
  simp
 |succ m ih=>
  intro k h1 h2
  rw[JC]
  by_cases h:k<s.length
  . have e:s.drop k=s[k]::s.drop (k+1):=List.drop_eq_getElem_cons h
    have:=ih (k+1) (by omega) (by omega)
    have w:ay .i64 ((k:Int)+1)=((k+1:Nat):Int):=wrap64 (by omega) (by unfold cO at hs;omega)
    rw[e,List.all_cons]
    generalize (s.drop (k+1)).all _=rest at this ⊢
    by_cases h3:(s[k]:Int)<97
    .   have h5:decide (97<=s[k]/\s[k]<=122)=false:=by simp;omega
        simp[h,h3,h5]
    .   by_cases h4:122<(s[k]:Int)
        . have h5:decide (97<=s[k]/\s[k]<=122)=false:=by simp;omega
          simp[h,h3,h4,h5]
        . have h5:decide (97<=s[k]/\s[k]<=122)=true:=by simp;omega
          rw[h5,Bool.true_and, <-this]
          simp[h,h3,h4,w]
  . obtain rfl:k=s.length:=by omega
    simp
theorem aaq (hc:Sem c) (s:List Nat) (hs:s.length<cO) (st:St):c 282 [.str s] st=some (.bool (eU s),st):=by
 rw[Yf hc (s.length+1) (r:=(.bool (eU s),st)),au (Plain.bool _) (aM.refl st)]
 rw[abV]
 have L: ∀k1 k2,pO c (s.length+1) k1 k2 (s.length+1) [.str s,.int .i64 0] st=if (s.drop 0).all (fun c=>decide (97<=c/\c<=122))=true then k2 [.str s] st else k1 [.bool false] st:=
   fun k1 k2=>Wd (c:=c) s hs (s.length+1) st k1 k2 s.length 0 (by omega) (by omega)
 rw[List.drop_zero] at L
 have e:eU s=(decide (1<=s.length)&&decide (s.length<=12)&&s.all fun c=>decide (97<=c/\c<=122)):=rfl
 rw[e]
 generalize (s.all _)=b at L ⊢
 simp[L]
 cases b
 . simp
 . by_cases h1:(1:Int)<=s.length
   . have h2:1<=s.length:=by omega
     by_cases h3:(s.length:Int)<=12
     .  have h4:s.length<=12:=by omega
        simp[h1,h2,h3,h4]
     .  have h4: ¬s.length<=12:=by omega
        simp[h1,h2,h3,h4]
   . have h2: ¬1<=s.length:=by omega
     simp[h1,h2]
def mI (s:List Nat):Bool:=decide (s=[])||eU s
theorem CA (hc:Sem c) (s:List Nat) (st:St):c 305 [.str s] st=some (.bool (mI s),st):=by
 rw[We hc 1 (r:=(.bool (mI s),st)),au (Plain.bool _) (aM.refl st)]
 rw[aar]
 by_cases h:s=[]<;>simp[h,mI,Cz hc]
end
section
set_option maxRecDepth 100000
open Go Go.Ai Go.Proofs
variable {c : ak}
def vS (n last:Int):List Int->Bool
 |[]=>true
 |k::l=>decide (last<k)&&decide (k<n)&&vS n k l
def mJ (t:az):Int:=
 if eU t.name=false then 4 else if bl t=0 then 10 else if vS (bl t) (-1) t.bZ=false then 11
 else if 0<=t.x/\t.x<=1000/\0<=t.y/\t.y<=1000 then 0 else 2
structure az.Ok (t:az):Prop where
 name:t.name.length<cO
 bZ:t.bZ.length<cO
theorem aas (l:List Int) (k:Nat) (h:k<l.length):((l.map fun i=>[AV.int .i64 i])[k]?.bind fun cs=>cs[0]?)=some (.int .i64 l[k]):=by
 simp[List.getElem?_map,List.getElem?_eq_getElem h]
theorem UJ (p:Pos) (n:Int) (z:Bool) (l:List Int) (hl:l.length<cO) (F:Nat) (st:St) (k1 k3): ∀(m k:Nat) (last:Int),l.length<=k+m->k<=l.length->
  nT c F k1 k3 (m+1) [.ptr p 0,.int .i64 n,.int .i64 last,ints z l,.int .i64 (l.length:Int),.int .i64 (k:Int)] st=if vS n last (l.drop k)=true then k3 [.ptr p 0] st else k1 [.int .i64 11] st:=by
 intro m
 induction m with
 |zero=>
  intro k last h1 h2
  rw[Hh]
  obtain rfl:k=l.length:=by omega
  simp[vS]
 |succ m ih=>
  intro k last h1 h2
  rw[Hh]
  by_cases h:k<l.length
  . have e:l.drop k=l[k]::l.drop (k+1):=List.drop_eq_getElem_cons h
    have:=ih (k+1) l[k] (by omega) (by omega)
    have w:ay .i64 ((k:Int)+1)=((k+1:Nat):Int):=wrap64 (by omega) (by unfold cO at hl;omega)
    have g:=aas l k h
    rw[e,vS]
    generalize vS n l[k] (l.drop (k+1))=rest at this ⊢
    by_cases h3:l[k]<=last
    .   have h4: ¬last<l[k]:=by omega
        simp[ints,h,h3,h4,g]
    .   have h4:last<l[k]:=by omega
        by_cases h5:n<=l[k]
        . have h6: ¬l[k]<n:=by omega
          simp[ints,h,h3,h4,h5,h6,g]
        . have h6:l[k]<n:=by omega
          simp only[h4,h6,decide_true,Bool.true_and]
          rw[<-this]
          simp[ints,h,h3,h4,h5,h6,g,w]
  . obtain rfl:k=l.length:=by omega
    simp[vS]
theorem ahb (hc:Sem c) (t:az) (ht:t.Ok) (st:St) (hw:Wf st):c 225 [.agg t.cells] st=some (.int .i64 (mJ t),st):=by
 rw[Wg hc (t.bZ.length+1) (r:=(.int .i64 (mJ t),ai st (.cells t.cells 0))),au (Plain.int _ _) (aU hw)]
 rw[aat]
 have hs:=Jz hc t (ai st (.cells t.cells 0)) (aQ hw)
 have hn:=aaq hc t.name ht.name
 have hg:(ai st (.cells t.cells 0)).heap.get st.next=some (.cells t.cells 0):=aH _ _
 have c0:t.cells[0]? =some (.str t.name):=rfl
 have c4:t.cells[4]? =some (ints t.oz t.bZ):=rfl
 have c5:t.cells[5]? =some (.int .i64 t.x):=rfl
 have c6:t.cells[6]? =some (.int .i64 t.y):=rfl
 have cc:cut t.cells 0 7=some t.cells:=cD rfl
 have L: ∀k1 k3,nT c (t.bZ.length+1) k1 k3 (t.bZ.length+1) [.ptr st.next 0,.int .i64 (bl t),.int .i64 (-1),ints t.oz t.bZ,.int .i64 (t.bZ.length:Int),.int .i64 0] (ai st (.cells t.cells 0))=
     if vS (bl t) (-1) (t.bZ.drop 0)=true then k3 [.ptr st.next 0] (ai st (.cells t.cells 0)) else k1 [.int .i64 11] (ai st (.cells t.cells 0)):=
   fun k1 k3=>UJ st.next (bl t) t.oz t.bZ ht.bZ _ _ k1 k3 t.bZ.length 0 (-1) (by omega) (by omega)
 rw[List.drop_zero] at L
 have lI: ∀(K:AV->St->Option (AV×St)) (s:St),aj c (.lenB .l) [ints t.oz t.bZ] s K=K (.int .i64 (t.bZ.length:Int)) s:=fun K s=>by unfold ints;rw[bV];simp
 unfold mJ
 generalize t.cells=tc at*
 generalize bl t=sz at*
 generalize vS sz (-1) t.bZ=op at*
 by_cases h1:eU t.name=true
 . by_cases h2:sz=0
   . simp[AV.cells,hs,hn,hg,c0,cc,h1,h2]
   . cases op
     .  simp[AV.cells,hs,hn,hg,c0,c4,cc,h1,h2,lI,L]
     .  by_cases h3:t.x<0
        . have: ¬0<=t.x:=by omega
          simp[AV.cells,hs,hn,hg,c0,c4,c5,c6,cc,h1,h2,lI,L,h3,this]
        by_cases h4:1000<t.x
        . have: ¬t.x<=1000:=by omega
          simp[AV.cells,hs,hn,hg,c0,c4,c5,c6,cc,h1,h2,lI,L,h3,h4,this]
        by_cases h5:t.y<0
        . have: ¬0<=t.y:=by omega
          simp[AV.cells,hs,hn,hg,c0,c4,c5,c6,cc,h1,h2,lI,L,h3,h4,h5,this]
        by_cases h6:1000<t.y
        . have: ¬t.y<=1000:=by omega
          simp[AV.cells,hs,hn,hg,c0,c4,c5,c6,cc,h1,h2,lI,L,h3,h4,h5,h6,this]
        have h7:0<=t.x:=by omega
        have h8:t.x<=1000:=by omega
        have h9:0<=t.y:=by omega
        have CV:t.y<=1000:=by omega
        simp[AV.cells,hs,hn,hg,c0,c4,c5,c6,cc,h1,h2,lI,L,h3,h4,h5,h6,h7,h8,h9,CV]
 . simp[AV.cells,hs,hn,hg,c0,cc,h1]
theorem pP (t:az):0<=bl t/\bl t<=1000:=by
 unfold bl;repeat' split
 all_goals omega
theorem Yg (hc:Sem c) (p:Pos) (t:az) (hl:t.bZ.length<cO) (n:Int) (hn:0<=n/\n<=1000) (F:Nat) (st:St) (hp:st.heap.get p=some (.cells t.cells 0)) (k1 k2): ∀(m k:Nat) (last:Int),t.bZ.length<=k+m->k<=t.bZ.length-> -1<=last->(∀h:0<k,∀h':k - 1<t.bZ.length,t.bZ[k - 1]=last)->(k=0->last= -1)->
  fX c F k1 k2 (m+1) [.ptr p 0,.int .i64 n,.int .i64 (k:Int)] st=if vS n last (t.bZ.drop k)=true then k2 [.ptr p 0] st else k1 [.int .i64 11] st:=by
 have c4:t.cells[4]? =some (ints t.oz t.bZ):=rfl
 have lI: ∀(K:AV->St->Option (AV×St)) (s:St),aj c (.lenB .l) [ints t.oz t.bZ] s K=K (.int .i64 (t.bZ.length:Int)) s:=fun K s=>by unfold ints;rw[bV];simp
 intro m
 induction m with
 |zero=>
  intro k last h1 h2 _ _ _
  rw[vu]
  obtain rfl:k=t.bZ.length:=by omega
  simp[vS,hp,c4,lI]
 |succ m ih=>
  intro k last h1 h2 hla akY hz
  rw[vu]
  by_cases h:k<t.bZ.length
  . have e:t.bZ.drop k=t.bZ[k]::t.bZ.drop (k+1):=List.drop_eq_getElem_cons h
    have w:ay .i64 ((k:Int)+1)=((k+1:Nat):Int):=wrap64 (by omega) (by unfold cO at hl;omega)
    have wn:ay .i64 (n - 1)=n - 1:=wrap64 (by omega) (by omega)
    have g:=aas t.bZ k h
    rw[e,vS]
    by_cases h3:0<=t.bZ[k]/\t.bZ[k]<=n - 1
    .   have h6:t.bZ[k]<n:=by omega
        have:=ih (k+1) t.bZ[k] (by omega) (by omega) (by omega) (fun _ _=>by simp) (fun h=>by omega)
        generalize vS n t.bZ[k] (t.bZ.drop (k+1))=rest at this ⊢
        by_cases h0:k=0
        . have h4:last<t.bZ[k]:=by rw[hz h0];omega
          have hk: ¬0<k:=by omega
          simp only[h4,h6,decide_true,Bool.true_and]
          rw[<-this]
          simp[hp,c4,lI,ints,h,h3,wn,eV hc,hk,w]
        . have hk:0<k:=by omega
          have pQ:k - 1<t.bZ.length:=by omega
          have vr:=akY (by omega) pQ
          have wk:ay .i64 ((k:Int) - 1)=((k - 1:Nat):Int):=by rw[wrap64 (by omega) (by unfold cO at hl;omega)];omega
          by_cases h5:t.bZ[k]<=last
          . have h4: ¬last<t.bZ[k]:=by omega
            simp[hp,c4,lI,ints,h,h3,h4,h5,wn,eV hc,hk,pQ,vr,wk]
          . have h4:last<t.bZ[k]:=by omega
            simp only[h4,h6,decide_true,Bool.true_and]
            rw[<-this]
            simp[hp,c4,lI,ints,h,h3,h5,wn,eV hc,hk,pQ,vr,wk,w]
    .   have h4:(decide (last<t.bZ[k])&&decide (t.bZ[k]<n))=false:=by simp;omega
        rw[h4,Bool.false_and]
        simp[hp,c4,lI,ints,h,h3,wn,eV hc]
  . obtain rfl:k=t.bZ.length:=by omega
    simp[vS,hp,c4,lI]
theorem abW (hc:Sem c) (t:az) (ht:t.Ok) (st:St) (hw:Wf st):c 256 [.agg t.cells] st=some (.int .i64 (mJ t),st):=by
 rw[Im hc (t.bZ.length+1) (r:=(.int .i64 (mJ t),ai st (.cells t.cells 0))),au (Plain.int _ _) (aU hw)]
 rw[Lt]
 have hs:=Lq hc t (ai st (.cells t.cells 0)) (aQ hw)
 have hn:=Lr hc t.name
 have hg:(ai st (.cells t.cells 0)).heap.get st.next=some (.cells t.cells 0):=aH _ _
 have c0:t.cells[0]? =some (.str t.name):=rfl
 have c4:t.cells[4]? =some (ints t.oz t.bZ):=rfl
 have c5:t.cells[5]? =some (.int .i64 t.x):=rfl
 have c6:t.cells[6]? =some (.int .i64 t.y):=rfl
 have cc:cut t.cells 0 7=some t.cells:=cD rfl
 have hz:0<=bl t/\bl t<=1000:=pP t
 have L: ∀k1 k3,fX c (t.bZ.length+1) k1 k3 (t.bZ.length+1) [.ptr st.next 0,.int .i64 (bl t),.int .i64 0] (ai st (.cells t.cells 0))=
     if vS (bl t) (-1) (t.bZ.drop 0)=true then k3 [.ptr st.next 0] (ai st (.cells t.cells 0)) else k1 [.int .i64 11] (ai st (.cells t.cells 0)):=
   fun k1 k3=>Yg hc st.next t ht.bZ (bl t) hz _ _ hg k1 k3 t.bZ.length 0 (-1) (by omega) (by omega) (by omega) (fun h=>by omega) (fun _=>rfl)
 rw[List.drop_zero] at L
 unfold mJ
 generalize t.cells=tc at*
 generalize bl t=sz at*
 generalize vS sz (-1) t.bZ=op at*
 by_cases h1:eU t.name=true
 . by_cases h2:sz=0
   . simp[AV.cells,hs,hn,hg,c0,cc,h1,h2]
   . cases op
     .  simp[AV.cells,hs,hn,hg,c0,cc,h1,h2,L]
     .  by_cases h3:0<=t.x/\t.x<=1000
        . by_cases h4:0<=t.y/\t.y<=1000
          . simp[AV.cells,hs,hn,hg,c0,c5,c6,cc,h1,h2,L,h3,h4,eV hc]
          . simp[AV.cells,hs,hn,hg,c0,c5,c6,cc,h1,h2,L,h3,h4,eV hc]
        . have h5: ¬(0<=t.x/\t.x<=1000/\0<=t.y/\t.y<=1000):=fun h=>h3 ⟨h.1,h.2.1⟩
          rw[if_neg h5]
          simp[AV.cells,hs,hn,hg,c0,c5,cc,h1,h2,L,h3,eV hc]
 . simp[AV.cells,hs,hn,hg,c0,cc,h1]
end
section
set_option maxRecDepth 100000
open Go Go.Ai Go.Proofs
variable {c : ak}
def scan (P:Nat->Bool):Nat->Nat->Int
 |0,_=> -1
 |m+1,k=>if P k=true then (k:Int) else scan P m (k+1)
theorem JD (P:Nat->Bool): ∀(m k:Nat),-1<=scan P m k/\(scan P m k<0->scan P m k= -1)
 |0,_=>by simp[scan]
 |m+1,k=>by
  unfold scan;split
  . omega
  . exact JD P m (k+1)
theorem UK {P Q:Nat->Bool}: ∀(m k:Nat),(∀i,k<=i->i<k+m->P i=Q i)->scan P m k=scan Q m k
 |0,_,_=>rfl
 |m+1,k,h=>by
  unfold scan
  rw[h k (by omega) (by omega),UK m (k+1) fun i h1 h2=>h i (by omega) (by omega)]
theorem Lu {P:Nat->Bool}: ∀(m k:Nat),0<=scan P m k->k<=(scan P m k).toNat/\(scan P m k).toNat<k+m/\P (scan P m k).toNat=true
 |0,k,h=>by simp[scan] at h
 |m +1,k,h=>by
  unfold scan at h ⊢
  split
  . rename_i hp;simp;exact hp
  . rename_i hp
    rw[if_neg hp] at h
    have:=Lu m (k+1) h
    exact ⟨by omega,by omega,this.2.2⟩
def tabs (z:Bool) (ts:List az):AV:=ro 7 z (ts.map az.cells)
@[simp] theorem az.c0 (t:az):t.cells[0]? =some (.str t.name):=id rfl
@[simp] theorem az.c1 (t:az):t.cells[1]? =some (.int .u8 t.sh):=id rfl
@[simp] theorem az.c2 (t:az):t.cells[2]? =some (.int .i64 t.a):=id rfl
@[simp] theorem az.c3 (t:az):t.cells[3]? =some (.int .i64 t.b):=id rfl
@[simp] theorem az.c4 (t:az):t.cells[4]? =some (ints t.oz t.bZ):=id rfl
@[simp] theorem az.c5 (t:az):t.cells[5]? =some (.int .i64 t.x):=id rfl
@[simp] theorem az.c6 (t:az):t.cells[6]? =some (.int .i64 t.y):=id rfl
@[simp] theorem az.cc (t:az):cut t.cells 0 7=some t.cells:=cD rfl
theorem az.len (t:az):t.cells.length=7:=id rfl
@[simp] theorem az.one (t:az):aK t.cells=true:=by
  unfold az.cells;simp only[aK,aha];rfl
@[simp] theorem OG (l:List AV):(AV.agg l).cells=l:=id rfl
def iX (ts:List az) (s:List Nat) (i:Nat):Bool:=decide (ts[i]?.map az.name=some s)
def dB (ts:List az):Nat->Nat->Int×Int
 |0,_=>(0,0)
 |  m+1,k=>match ts[k]? with
    |none=>(0,0)
    |some t=>if mJ t≠0 then ((k:Int),mJ t) else if 0<=scan (iX ts t.name) k 0 then ((k:Int),5) else dB ts m (k+1)
def bh (ts:List az):Int×Int:=if 16<ts.length then (0,7) else dB ts ts.length 0
theorem Lv (ts:List az): ∀(m m' k:Nat),ts.length<=k+m->ts.length<=k+m'->dB ts m k=dB ts m' k
 |0,0,_,_,_=>rfl
 |0,m'+1,k,h,_=>by rw[dB,dB,List.getElem?_eq_none (by omega)]
 |m+1,0,k,_,h=>by rw[dB,dB,List.getElem?_eq_none (by omega)]
 |m+1,m'+1,k,h,h'=>by
  rw[dB,dB,Lv ts m m' (k+1) (by omega) (by omega)]
theorem Lw (ts:List az): ∀(m k:Nat),(dB ts m k).2=0->(dB ts m k).1=0
 |0,_,_=>rfl
 |m +   1,k,h=>by
  rw[dB] at h ⊢
  split at h
  . rfl
  . split at h
    .   rename_i bX;exact absurd h bX
    .   split at h
        . simp at h
        . rename_i h1 h2
          rw[if_neg h1,if_neg h2];exact Lw ts m (k+1) h
theorem Wh (z:Bool) (ts:List az) (k:Nat) (hk:k<ts.length) (hl:ts.length<=16) (F:Nat) (st:St) (k1 k4): ∀(m j:Nat),k<=j+m->j<=k->
  dU c F k1 k4 (m+1) [tabs z ts,.int .i64 (k:Int),.int .i64 (j:Int)] st=if 0<=scan (iX ts ts[k].name) (k - j) j then k1 [.int .i64 (k:Int),.int .i64 5] st else k4 [tabs z ts,.int .i64 (k:Int)] st:=by
 intro m
 induction m with
 |zero=>
  intro j h1 h2
  obtain rfl:j=k:=by omega
  rw[rT]
  simp[scan]
 |succ m ih=>
  intro j h1 h2
  rw[rT]
  by_cases h:j<k
  . have hj:j<ts.length:=by omega
    have e:k - j=(k - (j+1))+1:=by omega
    have w:ay .i64 ((j:Int)+1)=((j+1:Nat):Int):=wrap64 (by omega) (by omega)
    rw[e,scan]
    by_cases h3:ts[j].name=ts[k].name
    .   have:iX ts ts[k].name j=true:=by simp[iX,hj,h3]
        rw[if_pos this]
        simp[tabs,h,hj,hk,h3]
    .   have: ¬iX ts ts[k].name j=true:=by simp[iX,hj,h3]
        rw[if_neg this, <-ih (j+1) (by omega) (by omega)]
        simp[tabs,h,hj,hk,h3,w]
  . obtain rfl:j=k:=by omega
    simp[scan]
theorem UL (hc:Sem c) (z:Bool) (ts:List az) (bu: ∀t∈ts,t.Ok) (hl:ts.length<=16) (st:St) (hw:Wf st) (k1 k2): ∀(m k:Nat),ts.length<=k+m->k<=ts.length->
  e8 c 20 k1 k2 (m+1) [tabs z ts,.int .i64 (k:Int)] st=if (dB ts m k).2=0 then k2 [] st else k1 [.int .i64 (dB ts m k).1,.int .i64 (dB ts m k).2] st:=by
 intro m
 induction m with
 |zero=>
  intro k h1 h2
  obtain rfl:k=ts.length:=by omega
  rw[rU]
  simp[dB,tabs]
 |succ m ih=>
  intro k h1 h2
  rw[rU]
  by_cases h:k<ts.length
  . have w:ay .i64 ((k:Int)+1)=((k+1:Nat):Int):=wrap64 (by omega) (by omega)
    have hch:=abW hc ts[k] (bu _ (List.getElem_mem h)) st hw
    have L: ∀k1 k4,dU c 20 k1 k4 20 [tabs z ts,.int .i64 (k:Int),.int .i64 0] st=if 0<=scan (iX ts ts[k].name) (k - 0) 0 then k1 [.int .i64 (k:Int),.int .i64 5] st else k4 [tabs z ts,.int .i64 (k:Int)] st:=
        fun k1 k4=>Wh z ts k h hl 20 st k1 k4 19 0 (by omega) (by omega)
    rw[Nat.sub_zero] at L
    rw[dB,List.getElem?_eq_getElem h]
    simp only
    by_cases h3:mJ ts[k]=0
    .   by_cases h4:0<=scan (iX ts ts[k].name) k 0
        . simp[tabs,h,hch,h3,h4] at L ⊢
          rw[L];simp
        . have:=ih (k+1) (by omega) (by omega)
          simp[tabs,h,hch,h3,h4] at L this ⊢
          rw[L];simp[w,this]
    .   simp[tabs,h,hch,h3]
  . obtain rfl:k=ts.length:=by omega
    simp[dB,tabs]
theorem Wi (hc:Sem c) (z:Bool) (ts:List az) (bu: ∀t∈ts,t.Ok) (st:St) (hw:Wf st):c 178 [tabs z ts] st=some (.tuple [.int .i64 (bh ts).1,.int .i64 (bh ts).2],st):=by
 rw[D6 hc 20 (r:=(.tuple [.int .i64 (bh ts).1,.int .i64 (bh ts).2],st)),au (Plain.tuple (by simp[Plain.int])) (aM.refl st)]
 rw[Ge]
 by_cases h:16<ts.length
 . have hi:(16:Int)<ts.length:=by omega
   simp[tabs,bh,h,hi]
 . have hi: ¬(16:Int)<ts.length:=by omega
   have L: ∀k1 k2,e8 c 20 k1 k2 20 [tabs z ts,.int .i64 0] st=if (dB ts 19 0).2=0 then k2 [] st else k1 [.int .i64 (dB ts 19 0).1,.int .i64 (dB ts 19 0).2] st:=
     fun k1 k2=>UL hc z ts bu (by omega) st hw k1 k2 19 0 (by omega) (by omega)
   have e:bh ts=dB ts 19 0:=by rw[bh,if_neg h];exact Lv ts _ _ 0 (by omega) (by omega)
   rw[e]
   simp[tabs,hi] at L ⊢
   rw[L]
   by_cases h2:(dB ts 19 0).2=0
   . have:=Lw ts 19 0 h2
     simp[h2,this]
   . simp[h2]
end
section
set_option maxRecDepth 100000
open Go Go.Ai Go.Proofs
variable {c : ak}
theorem aau (hc:Sem c) (x t:az) (p:Pos) (st:St) (hw:Wf st) (hp:st.heap.get p=some (.cells t.cells 0)):c 227 [.agg x.cells,.ptr p 0] st=some (.bool (decide (x.name=t.name)),st):=by
 rw[Nt hc 1 (r:=(.bool (decide (x.name=t.name)),ai st (.cells x.cells 0))),au (Plain.bool _) (aU hw)]
 rw[Q9]
 have:(ai st (.cells x.cells 0)).heap.get p=some (.cells t.cells 0):=aU hw _ _ hp
 simp[this]
theorem ahc (hc:Sem c) (x:az) (s:List Nat) (p:Pos) (st:St) (hw:Wf st) (hp:st.heap.get p=some (.cells [.str s] 0)):c 245 [.agg x.cells,.ptr p 0] st=some (.bool (decide (x.name=s)),st):=by
 rw[UM hc 1 (r:=(.bool (decide (x.name=s)),ai st (.cells x.cells 0))),au (Plain.bool _) (aU hw)]
 rw[Yh]
 have:(ai st (.cells x.cells 0)).heap.get p=some (.cells [.str s] 0):=aU hw _ _ hp
 simp[this]
theorem afk (z:Bool) (rs:List (List AV)) (hl:rs.length<cO) (ei: ∀cs∈rs,cs.length=7) (g:Nat) (v:List AV) (P:Nat->Bool) (st:St) (F:Nat) (k1 k2)
  (hP: ∀i (h:i<rs.length),c g (.agg rs[i]::v) st=some (.bool (P i),st)): ∀(m k:Nat),rs.length<=k+m->k<=rs.length->
  bS c F k1 k2 (m+1) [ro 7 z rs,.func g [] v,.int .i64 (rs.length:Int),.int .i64 (k:Int)] st=if 0<=scan P (rs.length - k) k then k1 [.int .i64 (scan P (rs.length - k) k)] st else k2 [] st:=by
 intro m
 induction m with
 |zero=>
  intro k h1 h2
  obtain rfl:k=rs.length:=by omega
  rw[jg]
  simp[scan]
 |succ m ih=>
  intro k h1 h2
  rw[jg]
  by_cases h:k<rs.length
  . have e:rs.length - k=(rs.length - (k+1))+1:=by omega
    have w:ay .i64 ((k:Int)+1)=((k+1:Nat):Int):=wrap64 (by omega) (by unfold cO at hl;omega)
    have hcut:cut rs[k] 0 7=some rs[k]:=cD (ei _ (List.getElem_mem h))
    have hp:=hP k h
    rw[e,scan]
    cases hb:P k
    .   simp only[Bool.false_eq_true,if_false]
        rw[<-ih (k+1) (by omega) (by omega)]
        simp[h,hcut,hp,hb,w]
    .   simp[h,hcut,hp,hb]
  . obtain rfl:k=rs.length:=by omega
    simp[scan]
theorem acX (hc:Sem c) (z:Bool) (rs:List (List AV)) (hl:rs.length<cO) (ei: ∀cs∈rs,cs.length=7) (g:Nat) (v:List AV) (P:Nat->Bool) (st:St)
   (hP: ∀i (h:i<rs.length),c g (.agg rs[i]::v) st=some (.bool (P i),st)):c 244 [ro 7 z rs,.func g [] v] st=some (.int .i64 (scan P rs.length 0),st):=by
 rw[qL hc (rs.length+1) (r:=(.int .i64 (scan P rs.length 0),st)),au (Plain.int _ _) (aM.refl st)]
 rw[sJ]
 have L: ∀k1 k2,bS c (rs.length+1) k1 k2 (rs.length+1) [ro 7 z rs,.func g [] v,.int .i64 (rs.length:Int),.int .i64 0] st=if 0<=scan P (rs.length - 0) 0 then k1 [.int .i64 (scan P (rs.length - 0) 0)] st else k2 [] st:=
   fun k1 k2=>afk z rs hl ei g v P st _ k1 k2 hP rs.length 0 (by omega) (by omega)
 rw[Nat.sub_zero] at L
 by_cases h:0<=scan P rs.length 0
 . simp[L,h]
 . have:=(JD P rs.length 0).2 (by omega)
   simp[L,this]
theorem aav (hc:Sem c) (z:Bool) (rs:List (List AV)) (hl:rs.length<cO) (ei: ∀cs∈rs,cs.length=7) (g:Nat) (v:List AV) (P:Nat->Bool) (st:St)
  (hP: ∀i (h:i<rs.length),c g (.agg rs[i]::v) st=some (.bool (P i),st)):c 226 [ro 7 z rs,.func g [] v] st=some (.bool (decide (0<=scan P rs.length 0)),st):=by
 rw[pn hc 1 (r:=(.bool (decide (0<=scan P rs.length 0)),st)),au (Plain.bool _) (aM.refl st)]
 rw[qo]
 simp[acX hc z rs hl ei g v P st hP]
theorem Yi (hc:Sem c) (z:Bool) (ts:List az) (bu: ∀t∈ts,t.Ok) (hl:ts.length<=16) (F:Nat) (k1 k2): ∀(m k:Nat) (st:St),Wf st->ts.length<=k+m->k<=ts.length->
  ∃st',Grew st st'/\mK c F k1 k2 (m+1) [tabs z ts,tabs z ts,.int .i64 (ts.length:Int),.int .i64 (k:Int)] st=if (dB ts m k).2=0 then k2 [] st' else k1 [.int .i64 (dB ts m k).1,.int .i64 (dB ts m k).2] st':=by
 intro m
 induction m with
 |zero=>
  intro k st hw h1 h2
  obtain rfl:k=ts.length:=by omega
  refine ⟨st,Grew.refl hw,?_⟩
  rw[uq]
  simp[dB,tabs]
 |succ m ih=>
  intro k st hw h1 h2
  by_cases h:k<ts.length
  . have w:ay .i64 ((k:Int)+1)=((k+1:Nat):Int):=wrap64 (by omega) (by omega)
    have aX:Wf (ai st (.cells ts[k].cells 0)):=aQ hw
    have hg:=Grew.ai hw (.cells ts[k].cells 0)
    have hch:=ahb hc ts[k] (bu _ (List.getElem_mem h)) _ aX
    have hco:=aav hc (z&&(ts.map az.cells).isEmpty) ((ts.map az.cells).take k) (by simp[cO];omega) (fun cs fh=>by
          have:=List.mem_of_mem_take fh
          simp only[List.mem_map] at this
          obtain ⟨t,_,rfl⟩:=this;rfl) 227 [.ptr st.next 0] (iX ts ts[k].name) (ai st (.cells ts[k].cells 0)) (fun i hi=>by
          have kJ:i<k:=by simp at hi;omega
          have UN:i<ts.length:=by omega
          have:=aau hc ts[i] ts[k] st.next (ai st (.cells ts[k].cells 0)) aX (aH _ _)
          simp only[List.getElem_take,List.getElem_map]
          rw[this]
          simp[iX,UN])
    have hlen:((ts.map az.cells).take k).length=k:=by simp;omega
    rw[hlen] at hco
    rw[uq,dB,List.getElem?_eq_getElem h]
    simp only
    by_cases h3:mJ ts[k]=0
    .   by_cases h4:0<=scan (iX ts ts[k].name) k 0
        . refine ⟨_,hg,?_⟩
          have o9:k<=ts.length:=by omega
          simp only[tabs,List.isEmpty_map] at hco ⊢
          simp[h,hch,h3,h4,o9,hco,az.len]
        . obtain ⟨st',g1,g2⟩:=ih (k+1) _ aX (by omega) (by omega)
          refine ⟨st',hg.trans g1,?_⟩
          have o9:k<=ts.length:=by omega
          have e3: ¬mJ ts[k]≠0:=by rw[h3];simp
          simp only[e3,h4,if_false]
          rw[<-g2]
          simp only[tabs,List.isEmpty_map] at hco ⊢
          simp[h,hch,h3,h4,o9,hco,w,az.len]
    .   refine ⟨_,hg,?_⟩
        simp[tabs,h,hch,h3,az.len]
  . obtain rfl:k=ts.length:=by omega
    refine ⟨st,Grew.refl hw,?_⟩
    rw[uq]
    simp[dB,tabs]
theorem R8 (hc:Sem c) (z:Bool) (ts:List az) (bu: ∀t∈ts,t.Ok) (st:St) (hw:Wf st):c 130 [tabs z ts] st=some (.tuple [.int .i64 (bh ts).1,.int .i64 (bh ts).2],st):=by
 have pJ:Plain (.tuple [.int .i64 (bh ts).1,.int .i64 (bh ts).2]):=Plain.tuple (by simp[Plain.int])
 by_cases h:16<ts.length
 . rw[CW hc 20 (r:=(.tuple [.int .i64 (bh ts).1,.int .i64 (bh ts).2],st)),au pJ (aM.refl st)]
   rw[Hi]
   have hi:(16:Int)<ts.length:=by omega
   simp[tabs,bh,h,hi]
 . have hi: ¬(16:Int)<ts.length:=by omega
   have e:bh ts=dB ts 19 0:=by rw[bh,if_neg h];exact Lv ts _ _ 0 (by omega) (by omega)
   have hex:=fun k1 k2=>Yi hc z ts bu (by omega) 20 k1 k2 19 0 st hw (by omega) (by omega)
   obtain ⟨st',hg,L⟩:=hex (fun vs s36=>cQ vs fun x2 vs=>cQ vs fun x3 vs=>eT vs (some (.tuple [x2,x3],s36))) (fun vs s37=>eT vs (
     aj c .move [(.int .i64 0)] s37 fun x2 s38=>aj c .move [(.int .i64 0)] s38 fun x3 s39=>some (.tuple [x2,x3],s39)))
   rw[CW hc 20 (r:=(.tuple [.int .i64 (bh ts).1,.int .i64 (bh ts).2],st')),au pJ hg.keeps]
   rw[Hi,e]
   simp only[tabs] at L
   simp[tabs,hi] at L ⊢
   rw[L]
   by_cases h2:(dB ts 19 0).2=0
   . have:=Lw ts 19 0 h2
     simp[h2,this]
   . simp[h2]
def bw (ts:List az):Int:=(ts.map bl).sum
theorem EZ (ts:List az):0<=bw ts/\bw ts<=1000*ts.length:=by
 induction ts with
 |nil=>simp[bw]
 |cons t ts ih=>
  have:=pP t
  simp only[bw,List.map_cons,List.sum_cons,List.length_cons] at ih ⊢
  omega
theorem D7 (ts:List az) (t:az):bw (ts++[t])=bw ts+bl t:=by simp[bw]
def vn (ts:List az) (t:Int):Int:=if t<0\/(ts.length:Int)<=t\/(bh ts).2≠0 then 0 else bw (ts.take t.toNat)
theorem Lx (hc:Sem c) (z:Bool) (ts:List az) (bu: ∀t∈ts,t.Ok) (st:St) (hw:Wf st):c 160 [tabs z ts] st=some (.bool (decide ((bh ts).2=0)),st):=by
 rw[Wj hc 1 (r:=(.bool (decide ((bh ts).2=0)),st)),au (Plain.bool _) (aM.refl st)]
 rw[aaw]
 simp[R8 hc z ts bu st hw]
theorem Hj {ts:List az} (h:(bh ts).2=0):ts.length<=16:=by
 unfold bh at h;split at h
 . simp at h
 . omega
theorem adV (hc:Sem c) (z:Bool) (ts:List az) (hl:ts.length<=16) (F:Nat) (k2): ∀(m k:Nat) (st:St),Wf st->ts.length<=k+m->k<=ts.length->
  ∃st',Grew st st'/\rV c F k2 (m+1) [.int .i64 (bw (ts.take k)),tabs z ts,.int .i64 (ts.length:Int),.int .i64 (k:Int)] st=k2 [.int .i64 (bw ts)] st':=by
 intro m
 induction m with
 |zero=>
  intro k st hw h1 h2
  obtain rfl:k=ts.length:=by omega
  refine ⟨st,Grew.refl hw,?_⟩
  rw[zz]
  simp
 |succ m ih=>
  intro k st hw h1 h2
  by_cases h:k<ts.length
  . have w:ay .i64 ((k:Int)+1)=((k+1:Nat):Int):=wrap64 (by omega) (by omega)
    have aX:Wf (ai st (.cells ts[k].cells 0)):=aQ hw
    have hg:=Grew.ai hw (.cells ts[k].cells 0)
    have hs:=Jz hc ts[k] _ aX
    have e:bw (ts.take (k+1))=bw (ts.take k)+bl ts[k]:=by
        rw[List.take_succ_eq_append_getElem h,D7]
    have b1:=EZ (ts.take k)
    have b2:=pP ts[k]
    have b3:(ts.take k).length<=16:=by simp;omega
    have w2:ay .i64 (bw (ts.take k)+bl ts[k])=bw (ts.take (k+1)):=by rw[e];exact wrap64 (by omega) (by omega)
    obtain ⟨st',g1,g2⟩:=ih (k+1) _ aX (by omega) (by omega)
    refine ⟨st',hg.trans g1,?_⟩
    rw[<-g2,zz]
    simp[tabs,h,hs,w,w2,az.len]
  . obtain rfl:k=ts.length:=by omega
    refine ⟨st,Grew.refl hw,?_⟩
    rw[zz]
    simp
theorem aax (hc:Sem c) (z:Bool) (ts:List az) (bu: ∀t∈ts,t.Ok) (k:Int) (st:St) (hw:Wf st):c 70 [tabs z ts,.int .i64 k] st=some (.int .i64 (vn ts k),st):=by
 have lT: ∀(K:AV->St->Option (AV×St)) (s:St),aj c (.lenB .l) [tabs z ts] s K=K (.int .i64 (ts.length:Int)) s:=fun K s=>by unfold tabs;rw[bV];simp
 have hv:=Lx hc z ts bu st hw
 by_cases h:k<0\/(ts.length:Int)<=k\/(bh ts).2≠0
 . have e:vn ts k=0:=by rw[vn,if_pos h]
   rw[JE hc 1 (r:=(.int .i64 (vn ts k),st)),au (Plain.int _ _) (aM.refl st)]
   rw[OH,e]
   by_cases h1:k<0
   . simp[h1]
   . by_cases h2:(ts.length:Int)<=k
     .  simp[h1,h2,lT]
     .  have h3:(bh ts).2≠0:=h.resolve_left h1 |>.resolve_left h2
        simp[h1,h2,h3,lT,hv]
 . have e:vn ts k=bw (ts.take k.toNat):=by rw[vn,if_neg h]
   have h1: ¬k<0:=fun e=>h (.inl e)
   have h2: ¬(ts.length:Int)<=k:=fun e=>h (.inr (.inl e))
   have h3:(bh ts).2=0:=Classical.byContradiction fun e=>h (.inr (.inr e))
   have hl:=Hj h3
   obtain ⟨n,rfl⟩: ∃n:Nat,k=(n:Int):=⟨k.toNat,by omega⟩
   have hn:n<=ts.length:=by omega
   have hex:=fun k2=>adV hc (z&&ts.isEmpty) (ts.take n) (by simp;omega) 20 k2 19 0 st hw (by simp;omega) (by omega)
   obtain ⟨st',hg,L⟩:=hex (fun vs s33=>cQ vs fun x5 vs=>eT vs (aj c .move [x5] s33 fun x34 UO=>aj c .move [x34] UO fun x4 UP=>some (x4,UP)))
   rw[JE hc 20 (r:=(.int .i64 (vn ts (n:Int)),st')),au (Plain.int _ _) hg.keeps]
   rw[OH,e]
   have h4: ¬ts.length<=n:=by omega
   have hm:min n ts.length=n:=by omega
   simp[tabs,bw,hm] at L
   simp[h1,h4,h3,lT,hv]
   simp[tabs,hn,hm,bw,L]
theorem abX (hc:Sem c) (z:Bool) (ts:List az) (hl:ts.length<=16) (st:St) (hw:Wf st):c 162 [tabs z ts] st=some (.int .i64 (if h:0<ts.length then bl (ts[ts.length - 1]'(by omega)) else 0),st):=by
 rw[Ra hc 1 (r:=(.int .i64 (if h:0<ts.length then bl (ts[ts.length - 1]'(by omega)) else 0),st)),au (Plain.int _ _) (aM.refl st)]
 rw[UQ]
 by_cases h:0<ts.length
 . have h1: ¬(ts.length:Int)=0:=by omega
   have h2:ts≠[]:=fun e=>by subst e;simp at h
   have w:ay .i64 ((ts.length:Int) - 1)=((ts.length - 1:Nat):Int):=by rw[wrap64 (by omega) (by omega)];omega
   have h3:ts.length - 1<ts.length:=by omega
   have hs:=Jz hc (ts[ts.length - 1]'(by omega)) st hw
   simp[tabs,h,h1,h2,w,h3,hs]
 . have h1:ts=[]:=List.eq_nil_of_length_eq_zero (by omega)
   subst h1
   simp[tabs]
theorem afl {ts:List az} (hv:(bh ts).2=0):vn ts ((ts.length:Int) - 1)+(if h:0<ts.length then bl (ts[ts.length - 1]'(by omega)) else 0)=bw ts:=by
 by_cases h:0<ts.length
 . rw[dif_pos h,vn,if_neg (by simp[hv];omega)]
   have e:((ts.length:Int) - 1).toNat=ts.length - 1:=by omega
   rw[e, <-D7, <-List.take_succ_eq_append_getElem (by omega)]
   rw[show ts.length - 1+1=ts.length by omega,List.take_length]
 . have h1:ts=[]:=List.eq_nil_of_length_eq_zero (by omega)
   subst h1;simp[vn,bw]
theorem Bp (hc:Sem c) (z:Bool) (ts:List az) (bu: ∀t∈ts,t.Ok) (st:St) (hw:Wf st):c 71 [tabs z ts] st=some (.int .i64 (if (bh ts).2=0 then bw ts else 0),st):=by
 rw[Wk hc 1 (r:=(.int .i64 (if (bh ts).2=0 then bw ts else 0),st)),au (Plain.int _ _) (aM.refl st)]
 rw[aay]
 have lT: ∀(K:AV->St->Option (AV×St)) (s:St),aj c (.lenB .l) [tabs z ts] s K=K (.int .i64 (ts.length:Int)) s:=fun K s=>by unfold tabs;rw[bV];simp
 have hv:=Lx hc z ts bu st hw
 by_cases h:(bh ts).2=0
 . have hl:=Hj h
   have w:ay .i64 ((ts.length:Int) - 1)=(ts.length:Int) - 1:=wrap64 (by omega) (by omega)
   have hf:=aax hc z ts bu ((ts.length:Int) - 1) st hw
   have hla:=abX hc z ts hl st hw
   have b:=EZ ts
   have e:=afl h
   rw[if_pos h, <-e]
   rw[<-e] at b
   generalize vn ts ((ts.length:Int) - 1)=x at hf b ⊢
   generalize (if h:0<ts.length then bl (ts[ts.length - 1]'(by omega)) else 0)=y at hla b ⊢
   have w2:ay .i64 (x+y)=x+y:=wrap64 (by omega) (by omega)
   simp[hv,h,lT,w,hf,hla,w2]
 . simp[hv,h]
theorem aiS (hc:Sem c) (z:Bool) (ts:List az) (bu: ∀t∈ts,t.Ok) (hl:ts.length<cO) (s:List Nat) (st:St) (hw:Wf st):c 153 [tabs z ts,.str s] st=
   some (.tuple [.int .i64 (if 0<=scan (iX ts s) ts.length 0/\(bh ts).2=0 then scan (iX ts s) ts.length 0 else 0),.bool (decide (0<=scan (iX ts s) ts.length 0/\(bh ts).2=0))],st):=by
 rw[Yj hc 1 (r:=(.tuple [.int .i64 (if 0<=scan (iX ts s) ts.length 0/\(bh ts).2=0 then scan (iX ts s) ts.length 0 else 0),.bool (decide (0<=scan (iX ts s) ts.length 0/\(bh ts).2=0))],ai st (.cells [.str s] 0))),
   au (Plain.tuple (by simp[Plain.int,Plain.bool])) (aU hw)]
 rw[abY]
 have aX:Wf (ai st (.cells [.str s] 0)):=aQ hw
 have hi:=acX hc z (ts.map az.cells) (by simpa using hl) (fun cs fh=>by
     simp only[List.mem_map] at fh
     obtain ⟨t,_,rfl⟩:=fh;rfl) 245 [.ptr st.next 0] (iX ts s) (ai st (.cells [.str s] 0)) (fun i hi=>by
     have UN:i<ts.length:=by simpa using hi
     have:=ahc hc ts[i] s st.next (ai st (.cells [.str s] 0)) aX (aH _ _)
     simp only[List.getElem_map]
     rw[this]
     simp[iX,UN])
 rw[List.length_map] at hi
 have hv:=Lx hc z ts bu _ aX
 simp only[tabs] at hv ⊢
 have e:(AV.str s).cells=[.str s]:=rfl
 by_cases h1:0<=scan (iX ts s) ts.length 0
 . have h2: ¬scan (iX ts s) ts.length 0<0:=by omega
   by_cases h3:(bh ts).2=0
   . simp[e,hi,h1,h2,h3,hv]
   . simp[e,hi,h1,h2,h3,hv]
 . have h2:scan (iX ts s) ts.length 0<0:=by omega
   simp[e,hi,h1,h2]
end
section
set_option maxRecDepth 100000
open Go Go.Ai Go.Proofs
variable {c : ak}
structure aJ where
 name:List Nat
 mL:List Nat
 jy:List Nat
 since:Int
 side:Int
 mM:List Nat
 host:Bool
 access:Bool
 tz:Bool
 tg:List (List Nat)
def cR (z:Bool) (l:List (List Nat)):AV:=ro 1 z (l.map fun s=>[.str s])
def aJ.cells (g:aJ):List AV:=[.str g.name,.str g.mL,.str g.jy,.int .i64 g.since,.int .i64 g.side,.str g.mM,.bool g.host,.bool g.access,cR g.tz g.tg]
@[simp] theorem aaz (z:Bool) (l:List (List Nat)):(cR z l).one=true:=ae7 _ _ _
@[simp] theorem alQ {R:Type} (c:ak) (K:AV->St->Option R) (st:St) (z:Bool) (l:List (List Nat)):aj c (.lenB .l) [cR z l] st K=K (.int .i64 (l.length:Int)) st:=by unfold cR;rw[bV];simp
@[simp] theorem alR {R:Type} (c:ak) (K:AV->St->Option R) (st:St) (z:Bool) (l:List Int):aj c (.lenB .l) [ints z l] st K=K (.int .i64 (l.length:Int)) st:=by unfold ints;rw[bV];simp
@[simp] theorem aJ.c0 (t:aJ):t.cells[0]? =some (.str t.name):=id rfl
@[simp] theorem aJ.c1 (t:aJ):t.cells[1]? =some (.str t.mL):=id rfl
@[simp] theorem aJ.c2 (t:aJ):t.cells[2]? =some (.str t.jy):=id rfl
@[simp] theorem aJ.c3 (t:aJ):t.cells[3]? =some (.int .i64 t.since):=id rfl
@[simp] theorem aJ.c4 (t:aJ):t.cells[4]? =some (.int .i64 t.side):=id rfl
@[simp] theorem aJ.c5 (t:aJ):t.cells[5]? =some (.str t.mM):=id rfl
@[simp] theorem aJ.c6 (t:aJ):t.cells[6]? =some (.bool t.host):=id rfl
@[simp] theorem aJ.c7 (t:aJ):t.cells[7]? =some (.bool t.access):=id rfl
@[simp] theorem aJ.c8 (t:aJ):t.cells[8]? =some (cR t.tz t.tg):=id rfl
@[simp] theorem aJ.cc (t:aJ):cut t.cells 0 9=some t.cells:=cD rfl
theorem aJ.len (t:aJ):t.cells.length=9:=id rfl
@[simp] theorem aJ.one (t:aJ):aK t.cells=true:=by
  unfold aJ.cells;simp only[aK,aaz];rfl
def aT (z:Bool) (gs:List aJ):AV:=ro 9 z (gs.map aJ.cells)
@[simp] theorem ahd {R:Type} (c:ak) (K:AV->St->Option R) (st:St) (z:Bool) (l:List aJ):aj c (.lenB .l) [aT z l] st K=K (.int .i64 (l.length:Int)) st:=by unfold aT;rw[bV];simp
def aft (last:Option (List Nat)) (s:List Nat):Bool:=match last with
 |none=>true
 |some p=>aD p s
@[simp] theorem aaA (s:List Nat):aft none s=true:=id rfl
@[simp] theorem aaB (p s:List Nat):aft (some p) s=aD p s:=id rfl
def CX (last:Option (List Nat)):List (List Nat)->Bool
 |[]=>true
 |s::l=>eU s&&aft last s&&CX (some s) l
theorem aaC (last:Option (List Nat)) (s:List Nat) (l:List (List Nat)):CX last (s::l)=(eU s&&aft last s&&CX (some s) l):=rfl
def fI (g:aJ):Int:=
 if (eU g.name&&mI g.mL&&mI g.jy&&mI g.mM)=false then 4 else if ¬(0<=g.since/\g.since<=9999) then 21 else if ¬(0<=g.side/\g.side<=2) then 20
 else if 4<g.tg.length then 22 else if CX none g.tg=false then 22 else 0
theorem ur: ∀(a:List Nat),aD a a=false
 |[]=>rfl
 |x::a=>by
  unfold aD
  simp[D0,cN,ur a]
theorem Ho: ∀(a b:List Nat),aD a b=true->aD b a=false
 |[],[],h=>by simp[aD] at h
 |[],_::_,_=>rfl
 |_::_,[],h=>by simp[aD] at h
 |x ::a,y::b,h=>by
  unfold aD at h ⊢
  simp only[D0,cN] at h ⊢
  by_cases h1:x<y
  . have: ¬y<x:=by omega
    have h3: ¬y=x:=by omega
    simp[this,h3]
  . by_cases h2:x=y
    . subst h2;simp at h ⊢; exact Ho a b h
    . simp[h1,h2] at h
theorem zA: ∀(a b:List Nat),aD a b=false->aD b a=false->a=b
 |[],[],_,_=>rfl
 |[],_::_,h,_=>by simp[aD] at h
 |_::_,[],_,h=>by simp[aD] at h
 |x ::a,y::b,h,k=>by
  unfold aD at h k
  simp only[D0,cN] at h k
  by_cases h1:x<y
  . simp[h1] at h
  . by_cases h2:y<x
    .   simp[h2] at k
    .   have:x=y:=by omega
        subst this
        simp at h k
        rw[zA a b h k]
theorem Ly: ∀(a b d:List Nat),aD a b=true->aD b d=true->aD a d=true
 |_,[],[],_,h=>by simp[aD] at h
 |_,_::_,[],_,h=>by simp[aD] at h
 |[],_,_::_,_,_=>rfl
 |_::_,[],_::_,h,_=>by simp[aD] at h
 |x ::a   ,y::b,z::d,h,k=>by
  unfold aD at h k ⊢
  simp only[D0,cN] at h k ⊢
  by_cases h1:x<y
  . by_cases h2:y<z
    .   have:x<z:=by omega
        simp[this]
    .   by_cases h3:y=z
        . subst h3;simp[h1]
        . simp[h2,h3] at k
  . by_cases h2:x=y
    .   subst h2
        simp at h
        by_cases h4:x<z
        . simp[h4]
        . by_cases h5:x=z
          . subst h5;simp at k ⊢; exact Ly a b d h k
          . simp[h4,h5] at k
    .   simp[h1,h2] at h
theorem Tm (hc:Sem c) (p:Pos) (g:aJ) (hl:g.tg.length<=4) (F:Nat) (st:St) (hp:st.heap.get p=some (.cells g.cells 0)) (k1 k3): ∀(m k:Nat),g.tg.length<=k+m->k<=g.tg.length->
  mq c F k1 k3 (m+1) [.ptr p 0,cR g.tz g.tg,.int .i64 (g.tg.length:Int),.int .i64 (k:Int)] st=if CX (if k=0 then none else g.tg[k - 1]?) (g.tg.drop k)=true then k3 [] st else k1 [.int .i64 22] st:=by
 intro m
 induction m with
 |zero=>
  intro k h1 h2
  rw[E0]
  obtain rfl:k=g.tg.length:=by omega
  simp[CX]
 |succ m ih=>
  intro k h1 h2
  rw[E0]
  by_cases h:k<g.tg.length
  . have e:g.tg.drop k=g.tg[k]::g.tg.drop (k+1):=List.drop_eq_getElem_cons h
    have w:ay .i64 ((k:Int)+1)=((k+1:Nat):Int):=wrap64 (by omega) (by omega)
    have hn:=Cz hc g.tg[k] st
    have:=ih (k+1) (by omega) (by omega)
    have e2:(if k+1=0 then none else g.tg[k+1 - 1]?)=some g.tg[k]:=by rw[if_neg (by omega),Nat.add_sub_cancel,List.getElem?_eq_getElem h]
    rw[e2] at this
    rw[e,aaC]
    generalize CX (some g.tg[k]) (g.tg.drop (k+1))=rest at this ⊢
    by_cases h3:eU g.tg[k]=true
    .   by_cases h0:k=0
        . have hk: ¬0<k:=by omega
          simp only[h3,if_pos h0,Bool.true_and,aaA]
          rw[<-this]
          simp[cR,h,hn,h3,hk,w]
        . have hk:0<k:=by omega
          have pQ:k - 1<g.tg.length:=by omega
          have wk:ay .i64 ((k:Int) - 1)=((k - 1:Nat):Int):=by rw[wrap64 (by omega) (by omega)];omega
          simp only[h3,if_neg h0,List.getElem?_eq_getElem pQ,Bool.true_and,aaB]
          cases hb:aD g.tg[k - 1] g.tg[k]
          . simp[cR,h,hn,h3,hk,pQ,wk,hp,hb]
          . simp only[Bool.true_and]
            rw[<-this]
            simp[cR,h,hn,h3,hk,pQ,wk,hp,hb,w]
    .   simp[cR,h,hn,h3]
  . obtain rfl:k=g.tg.length:=by omega
    simp[CX]
theorem Wl (hc:Sem c) (g:aJ) (st:St) (hw:Wf st):c 248 [.agg g.cells] st=some (.int .i64 (fI g),st):=by
 rw[UR hc 6 (r:=(.int .i64 (fI g),ai st (.cells g.cells 0))),au (Plain.int _ _) (aU hw)]
 rw[Yk]
 have n0:=Cz hc g.name
 have n1:=CA hc g.mL
 have n2:=CA hc g.jy
 have n5:=CA hc g.mM
 by_cases hn:(eU g.name&&mI g.mL&&mI g.jy&&mI g.mM)=true
 . have MA:=hn
   simp only[Bool.and_eq_true] at MA
   obtain ⟨⟨⟨b0,b1⟩,b2⟩,b5⟩:=MA
   unfold fI
   rw[hn]
   by_cases h1:g.since<0
   . have: ¬(0<=g.since/\g.since<=9999):=by omega
     simp[n0,n1,n2,n5,b0,b1,b2,b5,h1,this]
   by_cases h2:9999<g.since
   . have: ¬(0<=g.since/\g.since<=9999):=by omega
     simp[n0,n1,n2,n5,b0,b1,b2,b5,h1,h2,this]
   have h3:0<=g.since/\g.since<=9999:=by omega
   by_cases h4:g.side<0
   . have: ¬(0<=g.side/\g.side<=2):=by omega
     simp[n0,n1,n2,n5,b0,b1,b2,b5,h1,h2,h3,h4,this]
   by_cases h5:2<g.side
   . have: ¬(0<=g.side/\g.side<=2):=by omega
     simp[n0,n1,n2,n5,b0,b1,b2,b5,h1,h2,h3,h4,h5,this]
   have h6:0<=g.side/\g.side<=2:=by omega
   by_cases h7:4<g.tg.length
   . have h8:(4:Int)<g.tg.length:=by omega
     simp[n0,n1,n2,n5,b0,b1,b2,b5,h1,h2,h3,h4,h5,h6,h7,h8]
   . have h8: ¬(4:Int)<g.tg.length:=by omega
     have L: ∀k1 k3,mq c 6 k1 k3 6 [.ptr st.next 0,cR g.tz g.tg,.int .i64 (g.tg.length:Int),.int .i64 0] (ai st (.cells g.cells 0))=if CX none (g.tg.drop 0)=true then k3 [] (ai st (.cells g.cells 0)) else k1 [.int .i64 22] (ai st (.cells g.cells 0)):=
        fun k1 k3=>Tm hc st.next g (by omega) 6 _ (aH _ _) k1 k3 5 0 (by omega) (by omega)
     rw[List.drop_zero] at L
     generalize CX none g.tg=b at L ⊢
     cases b<;>simp[n0,n1,n2,n5,b0,b1,b2,b5,h1,h2,h3,h4,h5,h6,h7,h8,L]
 . have W9:(eU g.name&&mI g.mL&&mI g.jy&&mI g.mM)=false:=by simpa using hn
   have hx:fI g=4:=by unfold fI;rw[W9];simp
   rw[hx]
   cases b0:eU g.name
   . simp[n0,b0]
   . cases b1:mI g.mL
     .  simp[n0,n1,b0,b1]
     .  cases b2:mI g.jy
        . simp[n0,n1,n2,b0,b1,b2]
        . cases b5:mI g.mM
          . simp[n0,n1,n2,n5,b0,b1,b2,b5]
          . simp[b0,b1,b2,b5] at hn
theorem Wm (hc:Sem c) (p:Pos) (g:aJ) (hl:g.tg.length<=4) (F:Nat) (st:St) (hp:st.heap.get p=some (.cells g.cells 0)) (k1 k2): ∀(m k:Nat),g.tg.length<=k+m->k<=g.tg.length->
  fY c F k1 k2 (m+1) [.ptr p 0,.int .i64 (k:Int)] st=if CX (if k=0 then none else g.tg[k - 1]?) (g.tg.drop k)=true then k2 [] st else k1 [.int .i64 22] st:=by
 intro m
 induction m with
 |zero=>
  intro k h1 h2
  rw[vw]
  obtain rfl:k=g.tg.length:=by omega
  simp[CX,hp]
 |succ m ih   =>
  intro k h1 h2
  rw[vw]
  by_cases h:k<g.tg.length
  . have e:g.tg.drop k=g.tg[k]::g.tg.drop (k+1):=List.drop_eq_getElem_cons h
    have w:ay .i64 ((k:Int)+1)=((k+1:Nat):Int):=wrap64 (by omega) (by omega)
    have hn:=Eu hc g.tg[k] st
    have:=ih (k+1) (by omega) (by omega)
    have e2:(if k+1=0 then none else g.tg[k+1 - 1]?)=some g.tg[k]:=by rw[if_neg (by omega),Nat.add_sub_cancel,List.getElem?_eq_getElem h]
    rw[e2] at this
    rw[e,aaC]
    generalize CX (some g.tg[k]) (g.tg.drop (k+1))=rest at this ⊢
    by_cases h3:eU g.tg[k]=true
    .   by_cases h0:k=0
        . have hk: ¬0<k:=by omega
          simp only[h3,if_pos h0,Bool.true_and,aaA]
          rw[<-this]
          simp[cR,hp,h,hn,h3,hk,w]
        . have hk:0<k:=by omega
          have pQ:k - 1<g.tg.length:=by omega
          have wk:ay .i64 ((k:Int) - 1)=((k - 1:Nat):Int):=by rw[wrap64 (by omega) (by omega)];omega
          simp only[h3,if_neg h0,List.getElem?_eq_getElem pQ,Bool.true_and,aaB]
          have ho:(aD g.tg[k] g.tg[k - 1]||decide (g.tg[k]=g.tg[k - 1]))= !aD g.tg[k - 1] g.tg[k]:=by
            cases h5:aD g.tg[k - 1] g.tg[k]
            . cases h6:aD g.tg[k] g.tg[k - 1]
              . simp[zA _ _ h6 h5]
              . rfl
            . rw[Ho _ _ h5]
              have:g.tg[k]≠g.tg[k - 1]:=fun e=>by rw[e,ur] at h5;cases h5
              simp[this]
          cases hb:aD g.tg[k - 1] g.tg[k]
          . rw[hb] at ho
            simp[cR,hp,h,hn,h3,hk,pQ,wk,ho]
          . rw[hb] at ho
            simp only[Bool.true_and]
            rw[<-this]
            simp[cR,hp,h,hn,h3,hk,pQ,wk,ho,w]
    .   simp[cR,hp,h,hn,h3]
  . obtain rfl:k=g.tg.length:=by omega
    simp[CX,hp]
set_option maxHeartbeats 4000000 in
theorem aaD (hc:Sem c) (g:aJ) (st:St) (hw:Wf st):c 257 [.agg g.cells] st=some (.int .i64 (fI g),st):=by
 rw[Io hc 6 (r:=(.int .i64 (fI g),ai st (.cells g.cells 0))),au (Plain.int _ _) (aU hw)]
 rw[Lz]
 have n0:=Eu hc g.name
 have n1:=Eu hc g.mL
 have n2:=Eu hc g.jy
 have n5:=Eu hc g.mM
 have en:eU []=false:=rfl
 by_cases hn:(eU g.name&&mI g.mL&&mI g.jy&&mI g.mM)=true
 . have MA:=hn
   simp only[Bool.and_eq_true,mI,Bool.or_eq_true,decide_eq_true_eq] at MA
   obtain ⟨⟨⟨b0,b1⟩,b2⟩,b5⟩:=MA
   unfold fI
   rw[hn]
   have hor: ∀r:List Nat,r=[]\/eU r=true->(r=[]\/(¬r=[]/\eU r=true)):=fun r h=>by
     by_cases e:r=[]
     .  exact .inl e
     .  exact .inr ⟨e,h.resolve_left e⟩
   have d1:=hor _ b1
   have d2:=hor _ b2
   have d5:=hor _ b5
   by_cases h1:g.since<0
   . have: ¬(0<=g.since/\g.since<=9999):=by omega
     rcases d1 with e1|⟨e1,f1⟩<;>rcases d2 with e2|⟨e2,f2⟩<;>rcases d5 with e5|⟨e5,f5⟩<;>simp[*]
   by_cases h2:9999<g.since
   . have: ¬(0<=g.since/\g.since<=9999):=by omega
     rcases d1 with e1|⟨e1,f1⟩<;>rcases d2 with e2|⟨e2,f2⟩<;>rcases d5 with e5|⟨e5,f5⟩<;>simp[*]
   have h3:0<=g.since/\g.since<=9999:=by omega
   clear b1 b2 b5 hn hor
   by_cases h6:0<=g.side/\g.side<=2
   . have h7:g.side=0\/g.side=1\/g.side=2:=by omega
     by_cases h8:4<g.tg.length
     .  have h9:(4:Int)<g.tg.length:=by omega
        rcases h7 with h7|h7|h7<;>rcases d1 with e1|⟨e1,f1⟩<;>rcases d2 with e2|⟨e2,f2⟩<;>rcases d5 with e5|⟨e5,f5⟩<;>simp[n0,n1,n2,n5,en,b0, *]
     .  have h9: ¬(4:Int)<g.tg.length:=by omega
        have L: ∀k1 k3,fY c 6 k1 k3 6 [.ptr st.next 0,.int .i64 0] (ai st (.cells g.cells 0))=if CX none (g.tg.drop 0)=true then k3 [] (ai st (.cells g.cells 0)) else k1 [.int .i64 22] (ai st (.cells g.cells 0)):=
          fun k1 k3=>Wm hc st.next g (by omega) 6 _ (aH _ _) k1 k3 5 0 (by omega) (by omega)
        rw[List.drop_zero] at L
        generalize CX none g.tg=b at L ⊢
        rcases h7 with h7|h7|h7<;>cases b<;>rcases d1 with e1|⟨e1,f1⟩<;>rcases d2 with e2|⟨e2,f2⟩<;>rcases d5 with e5|⟨e5,f5⟩<;>simp[n0,n1,n2,n5,en,b0, *]
   . have g0: ¬g.side=0:=by omega
     have g1: ¬g.side=1:=by omega
     have g2: ¬g.side=2:=by omega
     rcases d1 with e1|⟨e1,f1⟩<;>rcases d2 with e2|⟨e2,f2⟩<;>rcases d5 with e5|⟨e5,f5⟩<;>simp[n0,n1,n2,n5,en,b0, *]
 . have W9  :(eU g.name&&mI g.mL&&mI g.jy&&mI g.mM)=false:=by simpa using hn
   have hx:fI g=4:=by unfold fI;rw[W9];simp
   rw[hx]
   have hsm: ∀r:List Nat,mI r=false-> ¬r=[]/\eU r=false:=fun r h=>by simpa [mI] using h
   have tq: ∀r:List Nat,mI r=true->(r=[]\/(¬r=[]/\eU r=true)):=fun r h=>by
     by_cases e:r=[]
     .  exact .inl e
     .  right;simp[mI,e] at h;exact ⟨e,h⟩
   cases b0:eU g.name
   . simp[n0,b0]
   . cases  b1:mI g.mL
     .  obtain ⟨q1,q2⟩:=hsm _ b1
        simp[n0,n1,b0,q1,q2]
     .  have d1:=tq _ b1
        cases b2:mI g.jy
        . obtain ⟨q1,q2⟩:=hsm _ b2
          rcases d1 with e1|⟨e1,f1⟩<;>simp[n0,n1,n2,b0, *]
        . have d2:=tq _ b2
          cases b5:mI g.mM
          . obtain ⟨q1,q2⟩:=hsm _ b5
            rcases d1 with e1|⟨e1,f1⟩<;>rcases d2 with e2|⟨e2,f2⟩<;>simp[n0,n1,n2,n5,b0, *]
          . simp[b0,b1,b2,b5] at hn
end
section
set_option maxRecDepth 100000
open Go Go.Ai Go.Proofs
variable {c : ak}
structure Ty where
 a:List Nat
 b:List Nat
 k:Int
def Ty.cells (t:Ty):List AV:=[.str t.a,.str t.b,.int .u8 t.k]
@[simp] theorem Ty.c0 (t:Ty):t.cells[0]? =some (.str t.a):=id rfl
@[simp] theorem Ty.c1 (t:Ty):t.cells[1]? =some (.str t.b):=id rfl
@[simp] theorem Ty.c2 (t:Ty):t.cells[2]? =some (.int .u8 t.k):=id rfl
@[simp] theorem Ty.cc (t:Ty):cut t.cells 0 3=some t.cells:=cD rfl
theorem Ty.len (t:Ty):t.cells.length=3:=id rfl
@[simp] theorem Ty.one (t:Ty):aK t.cells=true:=id rfl
@[simp] theorem akz {R:Type} (c:ak) (K:AV->St->Option R) (st:St) (t:Ty) (x y z:AV):aj c (.store 3) [.ptr st.next 0,.agg t.cells] (ai st (.cells [x,y,z] 0)) K=K .undef (ai st (.cells t.cells 0)):=dy c K st 3 (.agg t.cells) [x,y,z] rfl rfl t.one
def bH (z:Bool) (ts:List Ty):AV:=ro 3 z (ts.map Ty.cells)
@[simp] theorem ahe {R:Type} (c:ak) (K:AV->St->Option R) (st:St) (z:Bool) (l:List Ty):aj c (.lenB .l) [bH z l] st K=K (.int .i64 (l.length:Int)) st:=by unfold bH;rw[bV];simp
def ir (gs:List aJ) (s:List Nat) (i:Nat):Bool:=decide (gs[i]?.map aJ.name=some s)
theorem aiT (z:Bool) (gs:List aJ) (s:List Nat) (hl:gs.length<cO) (F:Nat) (st:St) (k1 k2): ∀(m k:Nat),gs.length<=k+m->k<=gs.length->
  iY c F k1 k2 (m+1) [aT z gs,.str s,.int .i64 (k:Int)] st=if 0<=scan (ir gs s) (gs.length - k) k then k1 [.int .i64 (scan (ir gs s) (gs.length - k) k)] st else k2 [] st:=by
 intro m
 induction m with
 |zero=>
  intro k h1 h2
  obtain rfl:k=gs.length:=by omega
  rw[zB]
  simp[scan]
 |succ m ih=>
  intro k h1 h2
  rw[zB]
  by_cases h:k<gs.length
  . have e:gs.length - k=(gs.length - (k+1))+1:=by omega
    have w:ay .i64 ((k:Int)+1)=((k+1:Nat):Int):=wrap64 (by omega) (by unfold cO at hl;omega)
    rw[e,scan]
    by_cases h3:gs[k].name=s
    .   have:ir gs s k=true:=by simp[ir,h,h3]
        simp only[this,if_true]
        simp[aT,h,h3]
    .   have:ir gs s k=false:=by simp[ir,h,h3]
        simp only[this,Bool.false_eq_true,if_false]
        rw[<-ih (k+1) (by omega) (by omega)]
        simp[aT,h,h3,w]
  . obtain rfl:k=gs.length:=by omega
    simp[scan]
theorem US (hc:Sem c) (z:Bool) (gs:List aJ) (s:List Nat) (hl:gs.length<cO) (st:St):c 186 [aT z gs,.str s] st=some (.int .i64 (scan (ir gs s) gs.length 0),st):=by
 rw[Nu hc (gs.length+1) (r:=(.int .i64 (scan (ir gs s) gs.length 0),st)),au (Plain.int _ _) (aM.refl st)]
 rw[Rb]
 have L: ∀k1 k2,iY c (gs.length+1) k1 k2 (gs.length+1) [aT z gs,.str s,.int .i64 0] st=if 0<=scan (ir gs s) (gs.length - 0) 0 then k1 [.int .i64 (scan (ir gs s) (gs.length - 0) 0)] st else k2 [] st:=
   fun k1 k2=>aiT z gs s hl _ st k1 k2 gs.length 0 (by omega) (by omega)
 rw[Nat.sub_zero] at L
 by_cases h:0<=scan (ir gs s) gs.length 0
 . simp[L,h]
 . have:=(JD (ir gs s) gs.length 0).2 (by omega)
   simp[L,this]
def dV (s t:Ty):Bool:=aD s.a t.a||(decide (s.a=t.a)&&aD s.b t.b)
theorem Xx (hc:Sem c) (s t:Ty) (st:St) (hw:Wf st):c 258 [.agg s.cells,.agg t.cells] st=some (.bool (dV s t),st):=by
 rw[Gf hc 1 (r:=(.bool (dV s t),ai (ai st (.cells s.cells 0)) (.cells t.cells 0))),au (Plain.bool _) ((aU hw).trans (aU (aQ hw)))]
 rw[JF]
 by_cases h2:s.a=t.a
 . simp[dV,h2,ur]
 . cases h1:aD s.a t.a<;>simp[dV,h1,h2]
def zC (a b:List Nat):Int:=if aD a b=true then -1 else if aD b a=true then 1 else 0
theorem ajY (hc:Sem c) (a b:List Nat) (st:St):c 328 [.str a,.str b] st=some (.int .i64 (zC a b),st):=by
 unfold Sem at hc;subst hc
 refine Ur (s:=Bh) (by rfl) ?_
 show some (AV.int .i64 (match aD a b with|true=> .negSucc 0|false=>match aD b a with|true=> .ofNat 1|false=> .ofNat 0),st)=_
 unfold zC
 generalize aD a b=p
 generalize aD b a=q
 cases p<;>cases q<;>rfl
theorem Tn (hc:Sem c) (a b:List Nat) (st:St):c 306 [.str a,.str b] st=some (.int .i64 (zC a b),st):=by
 rw[D8 hc 1 (r:=(.int .i64 (zC a b),st)),au (Plain.int _ _) (aM.refl st)]
 rw[Gg]
 simp[ajY hc]
theorem UT (hc:Sem c) (a b:List Nat) (st:St):c 250 [.str a,.str b] st=some (.int .i64 (zC a b),st):=by
 rw[Nv hc 1 (r:=(.int .i64 (zC a b),st)),au (Plain.int _ _) (aM.refl st)]
 rw[Rc]
 simp[Tn hc]
theorem acY {a b:List Nat}:zC a b=0↔a=b:=by
 unfold zC
 cases h1:aD a b
 . cases h2:aD b a
   . simp;exact zA _ _ h1 h2
   . simp;intro e;subst e;rw[ur] at h2;cases h2
 . simp;intro e;subst e;rw[ur] at h1;cases h1
def pR (s t:Ty):Int:=if s.a=t.a then zC s.b t.b else zC s.a t.a
theorem E4 (hc:Sem c) (s t:Ty) (st:St) (hw:Wf st):c 170 [.agg s.cells,.agg t.cells] st=some (.int .i64 (pR s t),st):=by
 rw[UU hc 1 (r:=(.int .i64 (pR s t),ai (ai st (.cells s.cells 0)) (.cells t.cells 0))),au (Plain.int _ _) ((aU hw).trans (aU (aQ hw)))]
 rw[Yl]
 by_cases h:s.a=t.a
 . have:zC t.a t.a=0:=acY.2 rfl
   simp[pR,UT hc,h,this]
 . have: ¬zC s.a t.a=0:=fun e=>h (acY.1 e)
   simp[pR,UT hc,h,this]
theorem Wn {s t:Ty}:pR s t<0↔dV s t=true:=by
 unfold pR dV zC
 by_cases h:s.a=t.a
 . simp only[h,ur,if_true]
   cases aD s.b t.b<;>cases aD t.b s.b<;>simp
 . simp only[h,if_false]
   cases aD s.a t.a<;>cases aD t.a s.a<;>simp
theorem QH {s t:Ty}:0<pR s t↔dV t s=true:=by
 unfold pR dV zC
 by_cases h:s.a=t.a
 . simp only[h,ur,if_true]
   cases h1:aD s.b t.b
   . cases aD t.b s.b<;>simp
   . simp[Ho _ _ h1]
 . have h': ¬t.a=s.a:=fun e=>h e.symm
   simp only[h,h',if_false]
   cases h1:aD s.a t.a
   . cases aD t.a s.a<;>simp
   . simp[Ho _ _ h1]
theorem acZ (hc:Sem c) (a b:List Nat) (k:Int) (aP:aD a b=true) (st:St) (hw:Wf st):c 252 [.str a,.str b,.int .u8 k] st=some (.agg (Ty.cells ⟨a,b,k⟩),st):=by
 rw[JG hc 1 (r:=(.agg (Ty.cells ⟨a,b,k⟩),ai st (.cells (Ty.cells ⟨a,b,k⟩) 0))),au (Plain.agg (by simp[Ty.cells,Plain.str,Plain.int])) (aU hw)]
 rw[OI]
 have m1: ∀(K:AV->St->Option (AV×St)) (s:St),aj c .minB [.str a,.str b] s K=K (.str a) s:=fun K s=>aI c K (fun H n=>by simp[aC.run,El,aP]) s
 have m2: ∀(K:AV->St->Option (AV×St)) (s:St),aj c .maxB [.str a,.str b] s K=K (.str b) s:=fun K s=>aI c K (fun H n=>by simp[aC.run,Em,aP]) s
 simp[m1,m2,bJ,aG,cM,AV.cells,aK,AV.one,cD,Ty.cells]
end
section
set_option maxRecDepth 100000
open Go Go.Ai Go.Proofs
variable {c : ak}
def ia (gs:List aJ):Nat->Nat->Int×Int
 |0,_=>(0,0)
 |  m+1,k=>match gs[k]? with
    |none=>(0,0)
    |some g=>if fI g≠0 then ((k:Int),fI g) else if 0<=scan (ir gs g.name) k 0 then ((k:Int),5) else if 64<=k then ((k:Int),7) else ia gs m (k+1)
def mN (ts:List Ty) (k:Nat):Option Ty:=if k=0 then none else ts[k - 1]?
def Hp (t:Ty):Bool:=decide (t.k=1)||decide (t.k=2)
def Y0 (t:Ty) (p:Option Ty):Bool:= !Hp t|| !aD t.a t.b||(match p with|none=>false|some p=>dV t p)
def qM (t:Ty) (p:Option Ty):Bool:=match p with|none=>false|some p=> !dV p t
def ku (gs:List aJ) (t:Ty):Bool:=decide (scan (ir gs t.a) gs.length 0<0)||decide (scan (ir gs t.b) gs.length 0<0)
def fj (gs:List aJ) (ts:List Ty):Nat->Nat->Int×Int
 |0,_=>(0,0)
 |  m+1,k=>match ts[k]? with
    |none=>(0,0)
    |some t=>if Y0 t (mN ts k)=true then ((gs.length:Int)+k,23) else if ku gs t=true then ((gs.length:Int)+k,6)
     else if qM t (mN ts k)=true then ((gs.length:Int)+k,5) else if 256<=k then ((gs.length:Int)+k,7) else fj gs ts m (k+1)
def bI (gs:List aJ) (ts:List Ty):Int×Int:=if (ia gs 101 0).2≠0 then ia gs 101 0 else fj gs ts 101 0
theorem aaE {gs:List aJ} {s:List Nat} {k:Nat} (hk:k<=gs.length):scan (ir (gs.take k) s) k 0=scan (ir gs s) k 0:=
 UK k 0 fun i _ hi=>by simp[ir,List.getElem?_take,show i<k by omega]
theorem LA (gs:List aJ) (ts:List Ty): ∀(m k:Nat),(fj gs ts m k).2=0->(fj gs ts m k).1=0
 |0,_,_=>rfl
 |m +   1,k , h=>by
  rw[fj] at h ⊢
  split at h
  . rfl
  . split   at h
    .   simp at h
    .   split at h
        . simp at h
        . split at h
          . simp at h
          . split at h
            . simp at h
            . rename_i h1 h2 h3 h4
              rw[if_neg h1,if_neg h2,if_neg h3,if_neg h4];exact LA gs ts m (k+1) h
end
section
set_option maxRecDepth 100000
open Go Go.Ai Go.Proofs
variable {c : ak}
theorem adW (hc:Sem c) (z z2:Bool) (gs:List aJ) (ts:List Ty) (hl:gs.length<=100) (p:Pos) (st:St) (hw:Wf st) (hp:st.heap.get p=some (.cells [aT z gs,bH z2 ts] 0)) (F:Nat) (k1 k2): ∀(m k:Nat),gs.length<=k+m->k<=gs.length->
  fS c F k1 k2 (m+1) [.ptr p 0,.int .i64 (k:Int)] st=if (ia gs m k).2=0 then k2 [.ptr p 0] st else k1 [.int .i64 (ia gs m k).1,.int .i64 (ia gs m k).2] st:=by
 intro m
 induction m with
 |zero=>
  intro k h1 h2
  obtain rfl:k=gs.length:=by omega
  rw[qF]
  simp[ia,hp]
 |succ m ih=>
  intro k h1 h2
  rw[qF]
  by_cases h:k<gs.length
  . have w:ay .i64 ((k:Int)+1)=((k+1:Nat):Int):=wrap64 (by omega) (by omega)
    have hch:=aaD hc gs[k] st hw
    have o9:k<=gs.length:=by omega
    have hm:min k gs.length=k:=by omega
    have hat:=US hc (z&&gs.isEmpty) (gs.take k) gs[k].name (by unfold cO;simp;omega) st
    rw[show (gs.take k).length=k by simp;omega,aaE o9] at hat
    simp only[aT,List.map_take] at hat
    rw[ia,List.getElem?_eq_getElem h]
    simp only
    by_cases h3:fI gs[k]=0
    .   have e3: ¬fI gs[k]≠0:=by rw[h3];simp
        by_cases h4:0<=scan (ir gs gs[k].name) k 0
        . simp only[e3,h4,if_false,if_true]
          simp[aT,hp,h,o9,hch,h3,h4,hat]
        . by_cases h5:64<=k
          . have h6:(64:Int)<=k:=by omega
            simp only[e3,h4,h5,if_false,if_true]
            simp[aT,hp,h,o9,hch,h3,h4,h6,hat]
          . have h6: ¬(64:Int)<=k:=by omega
            simp only[e3,h4,h5,if_false]
            rw[<-ih (k+1) (by omega) (by omega)]
            simp[aT,hp,h,o9,hch,h3,h4,h6,hat,w]
    .   simp[aT,hp,h,hch,h3]
  . obtain rfl:k=gs.length:=by omega
    simp[ia,hp]
set_option maxHeartbeats 4000000 in
theorem adX (hc : Sem c) (z z2:Bool) (gs:List aJ) (ts:List Ty) (hl:gs.length<=100) (jF:ts.length<=100) (p:Pos) (F:Nat) (k1 k4): ∀(m k:Nat) (st:St),Wf st->st.heap.get p=some (.cells [aT z gs,bH z2 ts] 0)->ts.length<=k+m->k<=ts.length->
  ∃st',Grew st st'/\fT c F k1 k4 (m+1) [.ptr p 0,.int .i64 (k:Int)] st=if (fj gs ts m k).2=0 then k4 [] st' else k1 [.int .i64 (fj gs ts m k).1,.int .i64 (fj gs ts m k).2] st':=by
 intro m
 induction m with
 |zero=>
  intro k st hw hp h1 h2
  obtain rfl:k=ts.length:=by omega
  refine ⟨st,Grew.refl hw,?_⟩
  rw[kD]
  simp[fj,hp]
 |succ m ih   =>
  intro k st hw hp h1 h2
  by_cases h:k<ts.length
  . have w:ay     .i64 ((k:Int)+1)=((k+1:Nat):Int):=wrap64 (by omega) (by omega)
    have wg:ay .i64 ((gs.length:Int)+(k:Int))=(gs.length:Int)+k:=wrap64 (by omega) (by omega)
    have aX:Wf (ai st (.cells ts[k].cells 0)):=aQ hw
    have hg:=Grew.ai hw (.cells ts[k].cells 0)
    have dS:(ai st (.cells ts[k].cells 0)).heap.get p=some (.cells [aT z gs,bH z2 ts] 0):=hg.get hp
    have ha:=US hc z gs ts[k].a (by unfold cO;omega) (ai st (.cells ts[k].cells 0))
    have hb:=US hc z gs ts[k].b (by unfold cO;omega) (ai st (.cells ts[k].cells 0))
    have Wo: ¬256<=k:=by omega
    have LB: ¬(256:Int)<=k:=by omega
    obtain ⟨st',g1,g2⟩:=ih (k+1) _ aX dS (by omega) (by omega)
    have hkt:Hp ts[k]=true->(ts[k].k=1\/(¬ts[k].k=1/\ts[k].k=2)):=fun q=>by
        simp only[Hp,Bool.or_eq_true,decide_eq_true_eq] at q
        by_cases e:ts[k].k=1
        . exact .inl e
        . exact .inr ⟨e,q.resolve_left e⟩
    have hkf:Hp ts[k]=false->(¬ts[k].k=1/\ ¬ts[k].k=2):=fun q=>by simpa [Hp] using q
    rw[kD,fj,List.getElem?_eq_getElem h]
    simp only
    by_cases h0:k=0
    .   have hk : ¬0<k:=by omega
        have ep:mN ts k=none:=by simp[mN,h0]
        rw[ep]
        clear h0 ih
        simp only[Y0,qM,Bool.or_false,Bool.false_eq_true,if_false,Wo]
        cases q1:Hp ts[k]
        . obtain ⟨f1,f2⟩:=hkf q1
          refine ⟨_,hg,?_⟩
          simp[bH,hp,dS,h,wg,f1,f2]
        . have f:=hkt q1
          cases q2:aD ts[k].a ts[k].b
          . refine ⟨_,hg,?_⟩
            rcases f with f|⟨f,f2⟩<;>simp[bH,hp,dS,h,wg,q2, *]
          . cases q3:ku gs ts[k]
            . have q4:=q3
              simp only[ku,Bool.or_eq_false_iff,decide_eq_false_iff_not] at q4
              obtain ⟨n1,n2⟩:=q4
              refine ⟨st',hg.trans g1,?_⟩
              simp only[q1,q2,Bool.not_true,Bool.or_false,Bool.false_eq_true,if_false]
              rw[<-g2]
              rcases f with f|⟨f,f2⟩<;>simp[bH,hp,dS,h,wg,q2,ha,hb,n1,n2,hk,LB,w, *]
            . refine ⟨_,hg,?_⟩
              by_cases n1:scan (ir gs ts[k].a) gs.length 0<0
              . rcases f with f|⟨f,f2⟩<;>simp[bH,hp,dS,h,wg,q2,ha,hb,n1,hk,LB,w, *]
              . have n2:scan (ir gs ts[k].b) gs.length 0<0:=by simpa [ku,n1] using q3
                rcases f with f|⟨f,f2⟩<;>simp[bH,hp,dS,h,wg,q2,ha,hb,n1,n2,hk,LB,w, *]
    .   have hk : 0<k:=by omega
        have pQ:k - 1<ts.length:=by omega
        have wk:ay .i64 ((k:Int) - 1)=((k - 1:Nat):Int):=by rw[wrap64 (by omega) (by omega)];omega
        have ep:mN ts k=some ts[k - 1]:=by rw[mN,if_neg h0,List.getElem?_eq_getElem pQ]
        have b1:=Xx hc ts[k] ts[k - 1] (ai st (.cells ts[k].cells 0)) aX
        have b2:=Xx hc ts[k - 1] ts[k] (ai st (.cells ts[k].cells 0)) aX
        rw[ep]
        clear ih
        simp only[Y0,qM,Wo,if_false]
        cases q1:Hp ts[k]
        . obtain ⟨f1,f2⟩:=hkf q1
          refine ⟨_,hg,?_⟩
          simp[bH,hp,dS,h,wg,f1,f2]
        . have f:=hkt q1
          cases q2:aD ts[k].a ts[k].b
          . refine ⟨_,hg,?_⟩
            rcases f with f|⟨f,f2⟩<;>simp[bH,hp,dS,h,wg,q2, *]
          . cases q5:dV ts[k] ts[k - 1]
            . cases q3:ku gs ts[k]
              . have q4:=q3
                simp only[ku,Bool.or_eq_false_iff,decide_eq_false_iff_not] at q4
                obtain ⟨n1,n2⟩:=q4
                cases q6:dV ts[k - 1] ts[k]
                . refine ⟨_,hg,?_⟩
                  rcases f with f|⟨f,f2⟩<;>simp[bH,hp,dS,h,wg,q2,ha,hb,n1,n2,hk,pQ,wk,b1,b2,LB,w, *]
                . refine ⟨st',hg.trans g1,?_⟩
                  simp only[q1,q2,q5,Bool.not_true,Bool.false_eq_true,if_false,Bool.or_false]
                  rw[<-g2]
                  rcases f with f|⟨f,f2⟩<;>simp[bH,hp,dS,h,wg,q2,ha,hb,n1,n2,hk,pQ,wk,b1,b2,LB,w, *]
              . refine ⟨_,hg,?_⟩
                by_cases n1:scan (ir gs ts[k].a) gs.length 0<0
                . rcases f with f|⟨f,f2⟩<;>simp[bH,hp,dS,h,wg,q2,ha,hb,n1,hk,pQ,wk,b1,b2,LB,w, *]
                . have n2:scan (ir gs ts[k].b) gs.length 0<0:=by simpa [ku,n1] using q3
                  rcases f with f|⟨f,f2⟩<;>simp[bH,hp,dS,h,wg,q2,ha,hb,n1,n2,hk,pQ,wk,b1,b2,LB,w, *]
            . refine ⟨_,hg,?_⟩
              rcases f with f|⟨f,f2⟩<;>simp[bH,hp,dS,h,wg,q2,hk,pQ,wk,b1,b2, *]
  . obtain rfl:k=ts.length:=by omega
    refine ⟨st,Grew.refl hw,?_⟩
    rw[kD]
    simp[fj,hp]
theorem adY (hc:Sem c) (z z2:Bool) (gs:List aJ) (ts:List Ty) (hl:gs.length<=100) (jF:ts.length<=100) (st:St) (hw:Wf st):c 179 [.agg [aT z gs,bH z2 ts]] st=some (.tuple [.int .i64 (bI gs ts).1,.int .i64 (bI gs ts).2],st):=by
 have pJ:Plain (.tuple [.int .i64 (bI gs ts).1,.int .i64 (bI gs ts).2]):=Plain.tuple (by simp[Plain.int])
 have aX:Wf (ai st (.cells [aT z gs,bH z2 ts] 0)):=aQ hw
 have Hq:=Grew.ai hw (.cells [aT z gs,bH z2 ts] 0)
 have dS:(ai st (.cells [aT z gs,bH z2 ts] 0)).heap.get st.next=some (.cells [aT z gs,bH z2 ts] 0):=aH _ _
 have L0:=fun k1 k2=>adW hc z z2 gs ts hl st.next _ aX dS 102 k1 k2 101 0 (by omega) (by omega)
 by_cases h:(ia gs 101 0).2=0
 . have e:bI gs ts=fj gs ts 101 0:=by rw[bI,if_neg (by simp[h])]
   obtain ⟨st',g1,g2⟩:=adX hc z z2 gs ts hl jF st.next 102 (fun vs ahf=>cQ vs fun x2 vs=>cQ vs fun x3 vs=>eT vs (some (.tuple [x2,x3],ahf))) (fun vs ahg=>eT vs (
     aj c .move [(.int .i64 0)] ahg fun x2 ahh=>aj c .move [(.int .i64 0)] ahh fun x3 ahi=>some (.tuple [x2,x3],ahi))) 101 0 _ aX dS (by omega) (by omega)
   rw[rW hc 102 (r:=(.tuple [.int .i64 (bI gs ts).1,.int .i64 (bI gs ts).2],st')),au pJ (Hq.trans g1).keeps]
   rw[uu,e]
   simp[h] at L0 g2 ⊢
   rw[L0]
   simp[g2]
   by_cases h2:(fj gs ts 101 0).2=0
   . have:=LA gs ts 101 0 h2
     simp[h2,this]
   . simp[h2]
 . have e:bI gs ts=ia gs 101 0:=by rw[bI,if_pos h]
   rw[rW hc 102 (r:=(.tuple [.int .i64 (bI gs ts).1,.int .i64 (bI gs ts).2],ai st (.cells [aT z gs,bH z2 ts] 0))),au pJ Hq.keeps]
   rw[uu,e]
   simp[h] at L0 ⊢
   rw[L0]
   simp
end
section
set_option maxRecDepth 100000
open Go Go.Ai Go.Proofs
variable {c : ak}
abbrev lW (s:List Nat):List AV:=[.str s]
theorem Bq (l:List (List Nat)): ∀r∈l.map lW,r.length=1:=fun r hr=>by simp only[List.mem_map] at hr;obtain ⟨m,_,rfl⟩:=hr;rfl
theorem ahj {s:St} (z:Bool) (l:List (List Nat)):Src 1 s (cR z l) (l.map lW):=Src.ro z _
theorem afm (hc:Sem c) {src:AV} (l:List (List Nat)) (hl:l.length<=1000) (s:St) (hw:Wf s) (h:Src 1 s src (l.map lW)): ∃v s',c 157 [src] s=some (v,s')/\Mk 1 s s' v (l.map lW):=by
 rcases h.nil with ⟨rfl,h0⟩|hn
 . refine ⟨.ah,s,?_,by rw[h0];exact Mk.start hw (Grew.refl hw)⟩
   rw[fU hc 1 (r:=(.ah,s)),au Plain.ah (aM.refl s)]
   rw[gO]
   have e: ∀(K:AV->St->Option (AV×St)) (s:St),aj c (.bin .eql .slice) [.ah,.ah] s K=K (.bool true) s:=fun K s=>aI c K (fun H n=>rfl) s
   simp[e]
 . obtain ⟨v,s',a1,a2⟩:=Xu (c:=c) (R:=AV×St) (bytes:=16) (z:=[.str []]) (Bq l) (by decide) (by simp;omega) (by simp;omega) s hw h
   obtain ⟨dK,t1,t2⟩:=a2.tidy
   refine ⟨v,dK,?_,t2⟩
   rw[fU hc 1 (r:=(v,s')),t1]
   rw[gO]
   simp only[aY,hn,jO]
   rw[a1]
def aJ.aq (g:aJ) (v:AV):List AV:=[.str g.name,.str g.mL,.str g.jy,.int .i64 g.since,.int .i64 g.side,.str g.mM,.bool g.host,.bool g.access,v]
theorem aJ.afn (g:aJ):g.aq (cR g.tz g.tg)=g.cells:=rfl
theorem aJ.Ip (t:aJ) {v:AV} (h:aK [v]=true):aK (t.aq v)=true:=by
 simp only[aK] at h
 unfold aJ.aq
 simp only[aK,AV.one,h,Bool.and_self,Bool.and_true] at*
structure aJ.Low (g:aJ):Prop where
 name: ∀x∈g.name,x<256
 mL: ∀x∈g.mL,x<256
 jy: ∀x∈g.jy,x<256
 mM: ∀x∈g.mM,x<256
theorem Xy (hc:Sem c) (g:aJ) (hg:g.Low) (hl:g.tg.length<=1000) {src:AV} (s:St) (hw:Wf s) (h:Src 1 s src (g.tg.map lW)) (h1:src.cells=[src]) (h2:src.one=true):
  ∃v s',c 249 [.agg (g.aq src)] s=some (.agg (g.aq v),s')/\Mk 1 s s' v (g.tg.map lW):=by
 let zero:List AV:=[.str [],.str [],.str [],.int .i64 0,.int .i64 0,.str [],.bool false,.bool false,.ah]
 have eP:Wf (ai (ai s (.cells (g.aq src) 0)) (.cells zero 0)):=aQ (aQ hw)
 have yp:=(Grew.ai hw (.cells (g.aq src) 0)).trans (Grew.ai (aQ hw) (.cells zero 0))
 obtain ⟨v,s3,h3,M⟩:=afm hc g.tg hl _ eP (h.aB yp)
 have M0:=M.back hw yp
 have hx:s3.heap.get s.next=some (.cells (g.aq src) 0):=M.aB.get EX
 have hy:s3.heap.get (ai s (.cells (g.aq src) 0)).next=some (.cells zero 0):=M.aB.get (aH _ _)
 obtain ⟨hvc,hvo⟩:=M.cells
 have bX:s.next≠(ai s (.cells (g.aq src) 0)).next:=Pos.QD _
 have adZ:s.next.toNat<s3.next.toNat:=by have:=M.aB.next;rw[bG,bG,Pos.ax,Pos.ax] at this;omega
 have ag6:(ai s (.cells (g.aq src) 0)).next.toNat<s3.next.toNat:=by have:=M.aB.next;rw[bG,Pos.ax] at this;omega
 have vo:v.one=true:=aff hvo
 have tq:aG (g.aq src) 8 [v]=g.aq v:=rfl
 have RO:aK (g.aq v)=true:=g.Ip hvo
 have hro0:aK (g.aq src)=true:=g.Ip (by simp only[aK,h2])
 have new: ∀b,bf v=some b->(ai s (.cells (g.aq src) 0)).next.toNat<b.toNat:=fun b hb=>by have:=M.new b hb;rw[bG,Pos.ax] at this;omega
 have RQ:s.next.toNat<(ai s (.cells (g.aq src) 0)).next.toNat:=by rw[bG,Pos.ax];omega
 let s4:=bt s3 s.next (.cells (g.aq v) 0)
 let s5:=bt s4 (ai s (.cells (g.aq src) 0)).next (.cells (g.aq v) 0)
 have hx4:s4.heap.get s.next=some (.cells (g.aq v) 0):=dM _ _ _
 have hy4:s4.heap.get (ai s (.cells (g.aq src) 0)).next=some (.cells zero 0):=by
  show (bt s3 s.next (.cells (g.aq v) 0)).heap.get _=_
  rw[aF bX];exact hy
 have hy5:s5.heap.get (ai s (.cells (g.aq src) 0)).next=some (.cells (g.aq v) 0):=dM _ _ _
 have M4:Mk 1 s s4 v (g.tg.map lW):=M0.store (Nat.le_refl _) adZ (fun e=>by have:=new _ e;omega)
 have M5:Mk 1 s s5 v (g.tg.map lW):=M4.store (by omega) ag6 (fun e=>by have:=new _ e;omega)
 have hi: ∀u∈g.aq v,ct u:=fun u hu=>by
  simp only[aJ.aq,List.mem_cons,List.not_mem_nil,or_false] at hu
  rcases hu with rfl|rfl|rfl|rfl|rfl|rfl|rfl|rfl|rfl
  . exact ct.str hg.name
  . exact ct.str hg.mL
  . exact ct.str hg.jy
  . exact ct.int _ _
  . exact ct.int _ _
  . exact ct.str hg.mM
  . exact ct.bool _
  . exact ct.bool _
  . exact M.inst
 obtain ⟨dK,t1,_,t2⟩:=M5.Ti (l:=g.aq v) (by simp[aJ.aq]) hi
 refine ⟨v,dK,?_,t2⟩
 rw[To hc 1 (r:=(.agg (g.aq v),s5)),t1]
 rw[Wp]
 have bk:=fun (K:AV->St->Option (AV×St))=>cu c K s3 1 s.next 8 v (g.aq src) hx (by rw[hvc];rfl) (by simp[aJ.aq]) (by rw[hvc];exact hvo)
 rw[hvc,tq] at bk
 have yh:=fun (K:AV->St->Option (AV×St))=>cu c K s4 9 (ai s (.cells (g.aq src) 0)).next 0 (.agg (g.aq v)) _ hy4 rfl (by simp[zero,aJ.aq]) RO
 have hsp2:aG zero 0 (AV.agg (g.aq v)).cells=g.aq v:=rfl
 rw[hsp2] at yh
 have hcut:cut (g.aq v) 0 9=some (g.aq v):=cD rfl
 have g8:(g.aq src)[8]? =some src:=rfl
 have st2': ∀(K:AV->St->Option (AV×St)),aj c (.store 9) [.ptr (ai s (.cells (g.aq src) 0)).next 0,.agg (g.aq v)] (bt s3 s.next (.cells (g.aq v) 0)) K=K .undef s5:=fun K=>yh K
 have bx: ∀(K:AV->St->Option (AV×St)),aj c .box [.agg (g.aq src)] s K=K (.ptr s.next 0) (ai s (.cells (g.aq src) 0)):=fun K=>by rw[nR];rfl
 simp[bx,h3,g8,zero,bk,hcut]
 rw[st2']
 simp only[hy5,bR,Option.bind_some,hcut,qA]
end
section
set_option maxRecDepth 100000
open Go Go.Ai Go.Proofs
variable {c : ak}
theorem Ym (b:Pos) (off:Nat): ¬Plain (.ptr b off):=fun h=>by
 have:=h (fun _=>⟨0,0,0⟩) (fun _=>⟨0,0,0⟩) (b.toNat+1) 0 (fun _=>none) _ (.ptr b off (by omega))
 cases this with
 |ptr _ _ h=>omega
theorem ahk {s s':St} {b:Pos} {off:Nat}:tidy s (.ptr b off,s')=(.ptr b off,s'):=by
 unfold tidy;rw[if_neg];exact fun h=>Ym _ _ h.1
theorem ajZ (hc:Sem c) (s:St):c 168 [] s=some (.ptr (ai s (.map [] 0)).next 0,ai (ai s (.map [] 0)) (.cells [.ah,.ah,.map s.next] 0)):=by
 rw[Yn hc 1 (r:=(.ptr (ai s (.map [] 0)).next 0,ai (ai s (.map [] 0)) (.cells [.ah,.ah,.map s.next] 0))),ahk]
 rw[abZ]
 simp[bJ,aG,cM,AV.cells]
def iG (k:Option Pos) (n es:Nat):AV:=match k with
 |none=> .ah
 |some b=> .slice b 0 n none es
theorem LC {k:Option Pos} {n es:Nat} (h:k=none->n=0): ∀H p,aC.run H p (.lenB .l) [iG k n es]=some (.val (.int .i64 (n:Int))):=fun H p=>by
 cases k with
 |none=>rw[h rfl];rfl
 |some b=>rfl
def ad0 (s0 s:St) (bp:Pos) (gk tk:Option Pos) (g:aJ) (row:List AV):Prop:=g.Low/\g.tg.length<=4/\ ∃v,row=g.aq v/\v.cells=[v]/\v.one=true/\QS 1 s v (g.tg.map lW)/\ ∀p,bf v=some p->p≠bp/\gk≠some p/\tk≠some p/\s0.heap.get p=none
theorem afo {es:Nat} {s:St} {v:AV} {rows:List (List AV)} (h:QS es s v rows) {b:Pos} (hb:bf v=some b): ∃cs,s.heap.get b=some (.cells cs 0):=by
 rcases h with ⟨rfl,rfl⟩|⟨b',off,cap,cs,rfl,h1,_⟩|⟨b',off,rfl,rfl⟩
 . cases hb
 . obtain rfl:=om hb;exact ⟨cs,h1⟩
 . rw[iV] at hb;cases hb
theorem ad0.to {s0 s s':St} {bp:Pos} {gk tk MB JH:Option Pos} {g:aJ} {row:List AV} (h:ad0 s0 s bp gk tk g row)
   (hk: ∀p cs,p≠bp->gk≠some p->tk≠some p->s.heap.get p=some (.cells cs 0)->s'.heap.get p=some (.cells cs 0)/\MB≠some p/\JH≠some p):ad0 s0 s' bp MB JH g row:=by
 obtain ⟨h1,h2,v,h3,h4,h5,h6,h7⟩:=h
 refine ⟨h1,h2,v,h3,h4,h5,h6.mono fun b x hb hx=> ?_,fun p hp=> ?_⟩
 . obtain ⟨cs,h8⟩:=afo h6 hb
   rw[h8] at hx;cases hx
   obtain ⟨a1,a2,a3,_⟩:=h7 b hb
   exact (hk b cs a1 a2 a3 h8).1
 . obtain ⟨cs,h8⟩:=afo h6 hp
   obtain ⟨a1,a2,a3,a4⟩:=h7 p hp
   exact ⟨a1,(hk p cs a1 a2 a3 h8).2.1,(hk p cs a1 a2 a3 h8).2.2,a4⟩
structure dh (s0 s:St) (bp mp:Pos) (gs:List aJ) (ts:List Ty) (gk tk:Option Pos):Prop where
 wf:Wf s
 keeps:aM s0 s
 next:s0.next.toNat<=s.next.toNat
 book:s.heap.get bp=some (.cells [iG gk gs.length 9,iG tk ts.length 3,.map mp] 0)
 zD: ∃es cl,s.heap.get mp=some (.map es cl)/\es.map (·.1)=gs.map fun g=> .str g.name
 ov:(gk=none->gs=[])/\ ∀b,gk=some b-> ∃cs,s.heap.get b=some (.cells cs 0)/\cs.length=gs.length*9
 tB:(tk=none->ts=[])/\ ∀b,tk=some b->s.heap.get b=some (.cells (ts.flatMap Ty.cells) 0)
 dg:gk≠some bp
 dt:tk≠some bp
 R9: ∀b,gk=some b->tk≠some b
 fb:s0.heap.get bp=none
 fm:s0.heap.get mp=none
 fg: ∀b,gk=some b->s0.heap.get b=none
 ft: ∀b,tk=some b->s0.heap.get b=none
 Iq: ∀es cl,s.heap.get mp=some (.map es cl)-> ∀e∈es,∃i:Nat,e.2.1= .int .i64 (i:Int)/\i<gs.length
 rows: ∀b cs,gk=some b->s.heap.get b=some (.cells cs 0)-> ∀(i:Nat) (g:aJ),gs[i]? =some g->ad0 s0 s bp gk tk g ((cs.drop (i*9)).take 9)
theorem dh.lt {s0 s:St} {bp mp:Pos} {gs:List aJ} {ts:List Ty} {gk tk:Option Pos} (h:dh s0 s bp mp gs ts gk tk):bp.toNat<s.next.toNat/\mp.toNat<s.next.toNat:=by
 obtain ⟨es,cl,h1,_⟩:=h.zD
 exact ⟨h.wf _ _ h.book,h.wf _ _ h1⟩
theorem dh.aB {s0 s s':St} {bp mp:Pos} {gs:List aJ} {ts:List Ty} {gk tk:Option Pos} (h:dh s0 s bp mp gs ts gk tk) (g:Grew s s'):dh s0 s' bp mp gs ts gk tk where
 wf:=g.wf
 keeps:=h.keeps.trans g.keeps
 next:=Nat.le_trans h.next g.next
 book:=g.get h.book
 zD:=let ⟨es,cl,h1,h2⟩:=h.zD;⟨es,cl,g.get h1,h2⟩
 ov:=⟨h.ov.1,fun b hb=>let ⟨cs,h1,h2⟩:=h.ov.2 b hb;⟨cs,g.get h1,h2⟩⟩
 tB:=⟨h.tB.1,fun b hb=>g.get (h.tB.2 b hb)⟩
 dg:=h.dg
 dt:=h.dt
 R9:=h.R9
 fb:=h.fb
 fm:=h.fm
 fg:=h.fg
 ft:=h.ft
 Iq:=fun es cl hm=>by
  obtain ⟨es0,cl0,h1,h2⟩:=h.zD
  have:=g.get h1
  rw[hm] at this;cases this
  exact h.Iq _ _ h1
 rows:=fun b cs hb hs i u hu=>by
  obtain ⟨Sc,h1,h2⟩:=h.ov.2 b hb
  have:=g.get h1
  rw[hs] at this;cases this
  exact (h.rows b _ hb h1 i u hu).to fun p cs _ a2 a3 hx=>⟨g.get hx,a2,a3⟩
theorem qN {s0:St} {jb:Pos} {y:AB} (hj:s0.heap.get jb=some y) {q:Pos} (hq:s0.heap.get q=none):q≠jb:=fun e=>by rw[e,hj] at hq;cases hq
theorem dh.at {s0 s s':St} {bp mp:Pos} {gs:List aJ} {ts:List Ty} {gk tk:Option Pos} (h:dh s0 s bp mp gs ts gk tk) {jb:Pos} {y:AB} (hj:s0.heap.get jb=some y) (hw:Wf s') (hk: ∀q x,q≠jb->s.heap.get q=some x->s'.heap.get q=some x):
  dh { heap:= .e,next:=s'.next } s' bp mp gs ts gk tk where
 wf:=hw
 keeps:=fun b x hb=>by rw[T.cX] at hb;cases hb
 next:=Nat.le_refl _
 book:=hk _ _ (qN hj h.fb) h.book
 zD:=let ⟨es,cl,h1,h2⟩:=h.zD;⟨es,cl,hk _ _ (qN hj h.fm) h1,h2⟩
 ov:=⟨h.ov.1,fun b hb=>let ⟨cs,h1,h2⟩:=h.ov.2 b hb;⟨cs,hk _ _ (qN hj (h.fg b hb)) h1,h2⟩⟩
 tB:=⟨h.tB.1,fun b hb=>hk _ _ (qN hj (h.ft b hb)) (h.tB.2 b hb)⟩
 dg:=h.dg
 dt:=h.dt
 R9:=h.R9
 fb:=T.cX _
 fm:=T.cX _
 fg:=fun b _=>T.cX _
 ft:=fun b _=>T.cX _
 Iq:=fun es cl hm=>by
  obtain ⟨es0,cl0,h1,h2⟩:=h.zD
  have:=hk _ _ (qN hj h.fm) h1
  rw[hm] at this;cases this
  exact h.Iq _ _ h1
 rows:=fun b cs hb hs i u hu=>by
  obtain ⟨Sc,h1,h2⟩:=h.ov.2 b hb
  have:=hk _ _ (qN hj (h.fg b hb)) h1
  rw[hs] at this;cases this
  obtain ⟨k1,k2,v,k3,k4,k5,k6,k7⟩:=h.rows b _ hb h1 i u hu
  exact ⟨k1,k2,v,k3,k4,k5,k6.mono fun b x hb hx=>hk b x (qN hj (k7 b hb).2.2.2) hx,fun p hp=>⟨(k7 p hp).1,(k7 p hp).2.1,(k7 p hp).2.2.1,T.cX _⟩⟩
theorem dh.start {s:St} (hw:Wf s):dh s (ai (ai s (.map [] 0)) (.cells [.ah,.ah,.map s.next] 0)) (ai s (.map [] 0)).next s.next [] [] none none where
 wf:=aQ (aQ hw)
 keeps:=(aU hw).trans (aU (aQ hw))
 next:=by simp only[bG,Pos.ax];omega
 book:=aH _ _
 zD:=⟨[],0,EX,rfl⟩
 ov:=⟨fun _=>rfl,fun b h=>by cases h⟩
 tB:=⟨fun _=>rfl,fun b h=>by cases h⟩
 dg:=fun h=>by cases h
 dt:=fun h=>by cases h
 R9:=fun b h=>by cases h
 fb:=by
  cases h:s.heap.get (ai s (.map [] 0)).next with
  |none=>rfl
  |some x=>have:=hw _ _ h;rw[bG,Pos.ax] at this;omega
 fm:=by
  cases h:s.heap.get s.next with
  |none=>rfl
  |some x=>have:=hw _ _ h;omega
 fg:=fun b h=>by cases h
 ft:=fun b h=>by cases h
 Iq:=fun es cl hm e he=>by
  have:(ai (ai s (.map [] 0)) (.cells [.ah,.ah,.map s.next] 0)).heap.get s.next=some (.map [] 0):=EX
  rw[hm] at this;cases this;cases he
 rows:=fun b cs h=>by cases h
theorem BK (s:List Nat): ∀(gs:List aJ) (es:List (AV×AV×Nat)) (i:Nat),es.map (·.1)=gs.map (fun g=> .str g.name)->
  (s∈gs.map aJ.name/\ ∃j v,fH .s (.str s) es i=some (some (j,v)))\/(s∉gs.map aJ.name/\fH .s (.str s) es i=some none)
 |[],es,i,h=>by
  have:es=[]:=by simpa using h
  subst this;exact .inr ⟨by simp,rfl⟩
 |g::gs,[],i,h=>by simp at h
 |g ::gs,(k,v,n)::es,i,h=>by
  simp only[List.map_cons,List.cons.injEq] at h
  obtain ⟨h1,h2⟩:=h
  subst h1
  by_cases e:s=g.name
  . subst e;exact .inl ⟨by simp,i,v,by simp[fH,tU,eF]⟩
  . rcases BK s gs es (i+1) h2 with ⟨a,b⟩|⟨a,b⟩
    .   left;refine ⟨by simp at a ⊢; exact .inr a,?_⟩
        simpa [fH,tU,eF,e] using b
    .   right;refine ⟨by simp at a ⊢; exact ⟨e,a⟩,?_⟩
        simpa [fH,tU,eF,e] using b
theorem LD {gs:List aJ} {s:List Nat}:0<=scan (ir gs s) gs.length 0↔s∈gs.map aJ.name:=by
 constructor
 . intro h
   obtain ⟨_,h2,h3⟩:=Lu _ _ h
   simp only[ir,decide_eq_true_eq] at h3
   rw[List.getElem?_eq_getElem (by omega)] at h3
   simp only[Option.map_some,Option.some.injEq] at h3
   rw[<-h3];exact List.mem_map.2 ⟨_,List.getElem_mem _,rfl⟩
 . intro  h
   obtain ⟨g,hg,rfl⟩:=List.mem_map.1 h
   obtain ⟨i,hi,rfl⟩:=List.mem_iff_getElem.1 hg
   have key: ∀(m k:Nat),k<=i->i<k+m->0<=scan (ir gs gs[i].name) m k:=by
    intro m
    induction m with
    |zero=>intro k h1 h2;omega
    |   succ m ih=>
        intro k h1 h2
        unfold scan
        split
        . omega
        . rename_i bX
          by_cases e:k=i
          . subst e;simp[ir,hi] at bX
          . exact ih (k+1) (by omega) (by omega)
   exact key _ _ (by omega) (by omega)
theorem QI (hc:Sem c) (s:St) (bp mp:Pos) (x y:AV) (h:s.heap.get bp=some (.cells [x,y,.map mp] 0)):c 176 [.ptr bp 0] s=some (.bool false,s):=by
 rw[Nw hc 1 (r:=(.bool false,s)),au (Plain.bool _) (aM.refl s)]
 rw[Rd]
 have e1: ∀(K:AV->St->Option (AV×St)) (s:St),aj c (.bin .eql .ptr) [.ptr bp 0,.dP] s K=K (.bool false) s:=fun K s=>aI c K (fun H n=>rfl) s
 have e2: ∀(K:AV->St->Option (AV×St)) (s:St),aj c (.bin .eql .map) [.map mp,.mA] s K=K (.bool false) s:=fun K s=>aI c K (fun H n=>rfl) s
 simp[e1,e2,h]
end
section
set_option maxRecDepth 100000
open Go Go.Ai Go.Proofs
variable {c : ak}
theorem ad1 (z:Bool) (l:List (List Nat)):(cR z l).cells=[cR z l]:=by unfold cR ro;split<;>rfl
theorem ahl (z:Bool) (l:List (List Nat)):(cR z l).one=true:=by unfold cR ro;split<;>rfl
theorem ac0 {s:List Nat} (h:eU s=true): ∀x∈s,x<256:=fun x hx=>by
 simp only[eU,Bool.and_eq_true,List.all_eq_true,decide_eq_true_eq] at h
 have:=h.2 x hx
 omega
theorem Wq {s:List Nat} (h:mI s=true): ∀x∈s,x<256:=fun x hx=>by
 simp only[mI,Bool.or_eq_true,decide_eq_true_eq] at h
 rcases h with h|h
 . rw[h] at hx;cases hx
 . exact ac0 h x hx
theorem Xz {g:aJ} (h:fI g=0):g.Low:=by
 unfold fI at h
 split at h
 . simp at h
 . rename_i hn
   simp only[Bool.not_eq_false,Bool.and_eq_true] at hn
   exact ⟨ac0 hn.1.1.1,Wq hn.1.1.2,Wq hn.1.2,Wq hn.2⟩
theorem ac1 {s:St} (hw:Wf s) {k:Option Pos} {n es bytes:Nat} {q:Pos} {row:List AV} (hk:k=none->n=0) (fh: ∀b,k=some b-> ∃cs,s.heap.get b=some (.cells cs 0)/\cs.length=n*es) (hq:s.heap.get q=some (.cells row 0)) (hr:row.length=es)
  (h1:aK row=true) (ei:es≠0) (hb:(2*(n+1)+768)*bytes<=281474976710656) (hn:n<=1000):
  ∃ s5 je,(∀(K:AV->St->Option (AV×St)),aj c (.append es bytes) [iG k n es,.slice q 0 1 (some 1) es] s K=K (.slice s.next 0 (n+1) none es) s5)/\s5.heap.get s.next=some (.cells je 0)/\je.length=(n+1)*es/\
    (∀b cs,k=some b->s.heap.get b=some (.cells cs 0)->je=cs++row)/\(k=none->je=row)/\s5.next=s.next.succ/\Wf s5/\ ∀p,k≠some p->p.toNat<s.next.toNat->s5.heap.get p=s.heap.get p:=by
 have hx:cA es 1 (fun b=>s.heap.get b) (.slice q 0 1 (some 1) es)=some row:=by
  simp only[cA,cN,Nat.one_mul,decide_eq_false ei,hq]
  exact cD hr
 cases k with
 |none=>
  obtain rfl:=hk rfl
  refine ⟨ai s (.cells row 0),row,fun K=>Z9 c K (m:=1) rfl (by omega) (by omega) (by omega) hx,aH _ _,by omega,fun b cs h=>(by cases h),fun _=>rfl,rfl,aQ hw,fun p _ hp=>sC hp⟩
 |some b=>
  obtain ⟨cs,h2,h3⟩:=fh b rfl
  have ho:cA es n (fun b=>s.heap.get b) (.slice b 0 n none es)=some cs:=by
    by_cases h0:n=0
    .   subst h0
        have:cs=[]:=List.eq_nil_of_length_eq_zero (by omega)
        subst this;simp[cA,cN]
    .   have: ¬n*es=0:=fun e=>by rcases Nat.mul_eq_zero.1 e with e|e<;>omega
        simp only[cA,cN,decide_eq_false this,h2]
        exact cD h3
  refine ⟨dst s b (.cells (cs++row) 0),cs++row,fun K=>aiH c K (m:=1) rfl (by omega) hb (by omega) h2 ho hx h1,VM _ _ _,?_,fun b' cs2 e h=> ?_,fun h=>(by cases h),rfl,ae8 hw,fun p hp hl=>Uy (fun e=>hp (by rw[e])) hl⟩
  . rw[List.length_append,h3,hr,Nat.add_mul,Nat.one_mul]
  . cases e;rw[h2] at h;cases h;rfl
def uv (gs:List aJ) (g:aJ):Int:=if fI g≠0 then fI g else if 0<=scan (ir gs g.name) gs.length 0 then 5 else if gs.length=64 then 7 else 0
set_option maxHeartbeats 1000000 in
theorem aj0 (hc : Sem c) {s0 s:St} {bp mp:Pos} {gs:List aJ} {ts:List Ty} {gk tk:Option Pos} (BX:Wf s0) (B:dh s0 s bp mp gs ts gk tk) (hl:gs.length<=64) (g:aJ):
   ∃s',c 169 [.ptr bp 0,.agg g.cells] s=some (.int .i64 (uv gs g),s')/\(uv gs g≠0->s'=s)/\(uv gs g=0-> ∃MB,dh s0 s' bp mp (gs++[g]) ts MB tk):=by
 have aX:Wf (ai s (.cells g.cells 0)):=aQ B.wf
 have B1:=B.aB (Grew.ai B.wf (.cells g.cells 0))
 generalize CY:ai s (.cells g.cells 0)=s1 at aX B1
 have hpg:s1.heap.get s.next=some (.cells g.cells 0):=by rw[<-CY];exact aH _ _
 have mb:=QI hc s1 bp mp _ _ B1.book
 have hch:=Wl hc g s1 aX
 have lG: ∀(K:AV->St->Option (AV×St)) (s:St),aj c (.lenB .l) [iG gk gs.length 9] s K=K (.int .i64 (gs.length:Int)) s:=fun K s=>aI c K (LC fun h=>by rw[B.ov.1 h];rfl) s
 have lG2: ∀(K:AV->Option (AV×St)),fM (.lenB .l) [iG gk gs.length 9] K=K (.int .i64 (gs.length:Int)):=fun K=>cP K (LC fun h=>by rw[B.ov.1 h];rfl)
 obtain ⟨es,cl,j8,hm2⟩:=B1.zD
 have fail: ∀e:Int,e≠0->uv gs g=e->vp c 1 (.ptr bp 0) (.agg g.cells) s=some (.int .i64 e,s1)-> ∃s',c 169 [.ptr bp 0,.agg g.cells] s=some (.int .i64 (uv gs g),s')/\(uv gs g≠0->s'=s)/\(uv gs g=0-> ∃MB,dh s0 s' bp mp (gs++[g]) ts MB tk):=fun e he ha h=>by
   refine ⟨s,?_,fun _=>rfl,fun h0=>absurd (ha.symm.trans h0) he⟩
   rw[BZ hc 1 h,ha,au (Plain.int _ _) (by rw[<-CY];exact aU B.wf)]
 have eb: ∀(K:AV->St->Option (AV×St)),aj c .box [.agg g.cells] s K=K (.ptr s.next 0) s1:=fun K=>by rw[nR, <-CY];rfl
 have h64:((gs.length:Int)=64)↔gs.length=64:=by omega
 by_cases h1:fI g=0
 . rcases BK  g.name gs es 0 hm2 with ⟨qx,j,v,hf⟩|⟨qx,hf⟩
   . have hsc:=LD.2 qx
     refine fail 5 (by omega) (by simp[uv,h1,hsc]) ?_
     rw[qO]
     have lk:=fun (K:AV->Option (AV×St))=>Xo K (.int .i64 0) (h:=s1.heap) (k:= .str g.name) j8 hf
     simp[eb,mb,hch,h1,hpg,B1.book,lk]
   . have hsc: ¬0<=scan (ir gs g.name) gs.length 0:=fun h=>qx (LD.1 h)
     have lk:=fun (K:AV->Option (AV×St))=>Xo K (.int .i64 0) (h:=s1.heap) (k:= .str g.name) j8 hf
     by_cases h2:gs.length=64
     .  have h2d:decide ((gs.length:Int)=64)=true:=decide_eq_true (by omega)
        refine fail 7 (by omega) (by unfold uv;rw[if_neg (by simp[h1]),if_neg hsc,if_pos h2]) ?_
        rw[qO]
        simp[eb,mb,hch,h1,hpg,B1.book,lk,lG,h2d]
     .  have htg:g.tg.length<=4:=by
          unfold fI at h1
          split at h1
          . simp at h1
          . split at h1
            . simp at h1
            . split at h1
              . simp at h1
              . split at h1
                . simp at h1
                . omega
        have he:uv gs g=0:=by unfold uv;rw[if_neg (by simp[h1]),if_neg hsc,if_neg h2]
        have h2d:decide ((gs.length:Int)=64)=false:=decide_eq_false (by omega)
        have lt1:=B1.lt
        have pJ:s.next.toNat<s1.next.toNat:=by rw[<-CY,bG,Pos.ax];omega
        have nmb:mp≠bp:=fun e=>by rw[e,B1.book] at j8;cases j8
        have nmp:mp≠s.next:=fun e=>by rw[e,hpg] at j8;cases j8
        let N7:=es++[(AV.str g.name,AV.int .i64 (gs.length:Int),cl)]
        let s2:=bt s1 mp (.map N7 (cl+1))
        have eP:Wf s2:=ij aX lt1.2
        have b2:s2.heap.get bp=some (.cells [iG gk gs.length 9,iG tk ts.length 3,.map mp] 0):=by show (bt _ _ _).heap.get bp=_;rw[aF nmb];exact B1.book
        have p2:s2.heap.get s.next=some (.cells g.cells 0):=by show (bt _ _ _).heap.get _=_;rw[aF nmp];exact hpg
        have m2:s2.heap.get mp=some (.map N7 (cl+1)):=dM _ _ _
        obtain ⟨v,s3,q1,M⟩:=Xy hc g (Xz h1) (by omega) s2 eP (ahj g.tz g.tg) (ad1 _ _) (ahl _ _)
        rw[aJ.afn] at q1
        let row:=g.aq v
        have q2:=M.aB
        have q3:row.length=9:=rfl
        have vone:v.one=true:=aff M.cells.2
        have q4:aK row=true:=g.Ip M.cells.2
        have hw4:Wf (ai s3 (.cells row 0)):=aQ q2.wf
        have gr4:=q2.trans (Grew.ai q2.wf (.cells row 0))
        have c9: ∀p x,s2.heap.get p=some x->p.toNat<(ai s3 (.cells row 0)).next.toNat:=fun p x h=>hw4 p x (gr4.get h)
        have fh: ∀b,gk=some b-> ∃cs,(ai s3 (.cells row 0)).heap.get b=some (.cells cs 0)/\cs.length=gs.length*9:=fun b hb=>by
          obtain ⟨cs,h3,h4⟩:=B1.ov.2 b hb
          have:mp≠b:=fun e=>by rw[e,h3] at j8;cases j8
          exact ⟨cs,gr4.get (by show (bt _ _ _).heap.get b=_;rw[aF this];exact h3),h4⟩
        obtain ⟨s5,je,r1,r2,r3,ra,rb,r4,r5,r6⟩:=ac1 (c:=c) (es:=9) (bytes:=112) hw4 (k:=gk) (n:=gs.length) (fun h=>by rw[B.ov.1 h];rfl) fh (aH _ _) q3 q4 (by omega) (by omega) (by omega)
        have hs4:(ai s3 (.cells row 0)).next=s3.next.succ:=rfl
        have keep: ∀p x,s2.heap.get p=some x->gk≠some p->s5.heap.get p=some x:=fun p x h bX=>by rw[r6 p bX (c9 p x h)];exact gr4.get h
        have b5:=keep bp _ b2 B.dg
        let gv:=AV.slice (ai s3 (.cells row 0)).next 0 (gs.length+1) none 9
        let s6:=bt s5 bp (.cells [gv,iG tk ts.length 3,.map mp] 0)
        have ahm:bp.toNat<s5.next.toNat:=r5 _ _ b5
        have nb4:bp≠(ai s3 (.cells row 0)).next:=fun e=>by have:=c9 _ _ b2;rw[e] at this;omega
        have st6: ∀(K:AV->St->Option (AV×St)),aj c (.store 1) [.ptr bp 0,gv] s5 K=K .undef s6:=fun K=>cu c K s5 1 bp 0 gv _ b5 rfl (by simp) rfl
        have g6: ∀p,p≠bp->s6.heap.get p=s5.heap.get p:=fun p h=>aF (fun e=>h e.symm)
        have ad2: ∀p:Pos,s0.next.toNat<=p.toNat->s0.heap.get p=none:=fun p h=>by
          cases hx:s0.heap.get p with
          |none=>rfl
          |some x=>have:=BX _ _ hx;omega
        have nx:s0.next.toNat<=(ai s3 (.cells row 0)).next.toNat:=Nat.le_trans B1.next (Nat.le_trans (by show s1.next.toNat<=s2.next.toNat;exact Nat.le_refl _) gr4.next)
        have aaF:dh s0 s6 bp mp (gs++[g]) ts (some (ai s3 (.cells row 0)).next) tk:={
          wf:=ij r5 ahm
          keeps:=fun p x hp=>by
            have n1:p≠bp:=fun e=>by rw[e,B.fb] at hp;cases hp
            have n2:mp≠p:=fun e=>by rw[<-e,B.fm] at hp;cases hp
            have n3:gk≠some p:=fun e=>by rw[B.fg p e] at hp;cases hp
            rw[g6 p n1]
            exact keep p x (by show (bt _ _ _).heap.get p=_;rw[aF n2];exact B1.keeps p x hp) n3
          next:=by show s0.next.toNat<=s5.next.toNat;rw[r4,Pos.ax];omega
          book:=by show (bt _ _ _).heap.get bp=_;rw[dM];simp[gv,iG]
          zD:=⟨N7,cl+1,by
            rw[g6 mp nmb]
            exact keep mp _ m2 (fun e=>by obtain ⟨cs,h3,_⟩:=B1.ov.2 mp e;rw[h3] at j8;cases j8),by simp[N7,hm2]⟩
          ov:=⟨fun h=>(by cases h),fun b hb=>by
            cases hb
            refine ⟨je,?_,by rw[r3];simp⟩
            rw[g6 _ (fun e=>nb4 e.symm)];exact r2⟩
          tB:=⟨B.tB.1,fun b hb=>by
            have h3:=B1.tB.2 b hb
            have n1:b≠bp:=fun e=>B.dt (by rw[<-e];exact hb)
            have n2:mp≠b:=fun e=>by rw[e,h3] at j8;cases j8
            have n3:gk≠some b:=fun e=>B.R9 b e hb
            rw[g6 b n1]
            exact keep b _ (by show (bt _ _ _).heap.get b=_;rw[aF n2];exact h3) n3⟩
          dg:=fun e=>nb4 (by injection e with e;exact e.symm)
          dt:=B.dt
          R9:=fun b hb ht=>by
            cases hb
            have h3:=B1.tB.2 _ ht
            have n2:mp≠(ai s3 (.cells row 0)).next:=fun e=>by rw[e,h3] at j8;cases j8
            have:=c9 _ _ (show s2.heap.get (ai s3 (.cells row 0)).next=_ from (aF n2).trans h3)
            omega
          fb:=B.fb
          fm:=B.fm
          fg:=fun b hb=>by cases hb;exact ad2 _ nx
          ft:=B.ft
          Iq:=fun es' cl' hm e he=>by
            have m6:s6.heap.get mp=some (.map N7 (cl+1)):=by
              rw[g6 mp nmb]
              exact keep mp _ m2 (fun e=>by obtain ⟨cs,h3,_⟩:=B1.ov.2 mp e;rw[h3] at j8;cases j8)
            rw[hm] at m6;cases m6
            rcases List.mem_append.1 he with he|he
            . obtain ⟨i,e1,e2⟩:=B1.Iq _ _ j8 e he
              exact ⟨i,e1,by simp;omega⟩
            . simp only[List.mem_cons,List.not_mem_nil,or_false] at he
              subst he
              exact ⟨gs.length,rfl,by simp⟩
          rows:=  fun b cs hb hs i u hu=>by
            cases hb
            have r2':s6.heap.get (ai s3 (.cells row 0)).next=some (.cells je 0):=by rw[g6 _ (fun e=>nb4 e.symm)];exact r2
            rw[hs] at r2';cases r2'
            by_cases hi:i<gs.length
            . rw[List.getElem?_append_left hi] at hu
              cases UW:gk with
              |none=>rw[B.ov.1 UW] at hi;simp at hi
              | some b0=>
                obtain ⟨Sc,h3,h4⟩:=B1.ov.2 b0 UW
                have n0:mp≠b0:=fun e=>by rw[e,h3] at j8;cases j8
                have e0:=ra b0 Sc UW (gr4.get (by show (bt _ _ _).heap.get b0=_;rw[aF n0];exact h3))
                have R0:=B1.rows b0 Sc UW h3 i u hu
                rw[e0,List.drop_append_of_le_length (by omega),List.take_append_of_le_length (by simp;omega)]
                refine R0.to fun p cs a1 a2 a3 hx=> ?_
                have n1:mp≠p:=fun e=>by rw[e,hx] at j8;cases j8
                have x2:s2.heap.get p=some (.cells cs 0):=by show (bt _ _ _).heap.get p=_;rw[aF n1];exact hx
                have aP:=c9 p _ x2
                refine ⟨by rw[g6 p a1];exact keep p _ x2 a2,fun e=> ?_,a3⟩
                cases e;omega
            . have kJ:i=gs.length:=by
                have:=(List.getElem?_eq_some_iff.1 hu).1
                simp at this;omega
              subst kJ
              simp at hu;subst hu
              have er:(je.drop (gs.length*9)).take 9=row:=by
                cases UW:gk with
                | none=>
                  rw[rb UW,B.ov.1 UW]
                  exact List.take_of_length_le (by simp[q3])
                | some b0=>
                  obtain ⟨Sc,h3,h4⟩:=B1.ov.2 b0 UW
                  have n0:mp≠b0:=fun e=>by rw[e,h3] at j8;cases j8
                  rw[ra b0 Sc UW (gr4.get (by show (bt _ _ _).heap.get b0=_;rw[aF n0];exact h3)), <-h4]
                  rw[List.drop_append_of_le_length (Nat.le_refl _)]
                  simp[List.take_of_length_le (Nat.le_of_eq q3)]
              rw[er]
              have vt: ∀p x,s2.heap.get p=some x->p.toNat<s2.next.toNat:=fun p x h=>eP p x h
              refine ⟨Xz h1,htg,v,rfl,M.cells.1,vone,M.own.mono fun b x hb hx=> ?_,fun p hp=> ?_⟩
              . have cJ:=M.new b hb
                have dD:=M.own.lt M.aB.wf hb
                have nb:b≠bp:=fun e=>by have:=vt _ _ b2;rw[e] at cJ;omega
                have ng:gk≠some b:=fun e=>by
                  obtain ⟨Sc,h3,_⟩:=B1.ov.2 b e
                  have n0:mp≠b:=fun e=>by rw[e,h3] at j8;cases j8
                  have:=vt b _ (by show (bt _ _ _).heap.get b=_;rw[aF n0];exact h3)
                  omega
                rw[g6 b nb,r6 b ng (by rw[hs4,Pos.ax];omega)]
                exact (Grew.ai q2.wf (.cells row 0)).get hx
              . have cJ:=M.new p hp
                have dD:=M.own.lt M.aB.wf hp
                refine ⟨fun e=>by have:=vt _ _ b2;rw[e] at cJ;omega,fun e=> ?_,fun e=> ?_,ad2 p (by have h9:=B1.next;rw[show s2.next=s1.next from cg _ _ _] at cJ;omega)⟩
                . cases e;rw[hs4,Pos.ax] at dD;omega
                . have h3:=B1.tB.2 p e
                  have n2:mp≠p:=fun e=>by rw[e,h3] at j8;cases j8
                  have:=vt p _ (by show (bt _ _ _).heap.get p=_;rw[aF n2];exact h3)
                  omega }
        refine ⟨s6,?_,fun h=>absurd he h,fun _=>⟨_,aaF⟩⟩
        rw[he]
        rw[BZ hc 1 (r:=(.int .i64 0,s6))]
        . rw[acQ (b:=bp) B.book]
          rw[aaF.book]
          intro e
          have e:=congrArg (fun o=>match o with|some (AB.cells (v::_) _)=>dF v|_=>none) e
          simp only[iG,dF] at e
          cases gk with
          |none=>simp[dF,B.ov.1 rfl] at e
          |some b=>simp[dF] at e
        rw[qO]
        have stm:=fun (K:AV->St->Option (AV×St))=>abR c K (v:= .int .i64 (gs.length:Int)) j8 hf
        have bq:eC (iG gk gs.length 9) (iG gk gs.length 9)=true:=by cases gk;exact Lg;exact GZ _ _ _ _
        have b3:s3.heap.get bp=some (.cells [iG gk gs.length 9,iG tk ts.length 3,.map mp] 0):=q2.get b2
        have yq:=fun (K:AV->Option (AV×St))=>kT K (p:=bp) (o:=0) (h:=s3.heap) (h2:=s2.heap) (v:=iG gk gs.length 9) (by rw[b3];rfl) (by rw[b2];rfl) bq
        have vg:bJ (bC [AV.str [],AV.str [],AV.str [],.int .i64 0,.int .i64 0,.str [],.bool false,.bool false,.ah] 1) [(0,9)] [AV.agg (g.aq v)]=some row:=by
          have:(g.aq v).length=9:=q3
          show _=some (g.aq v)
          simp[bJ,bC,cN,cM,this,aG]
        simp[eb,mb,hch,h1,hpg,B1.book,lk,lG,lG2,h2d,stm]
        show Cx ((cellsOf (T.get s.next s2.heap)).bind fun cs=>cut cs 0 9) _=_
        rw[p2]
        simp only[bR,Option.bind_some,aJ.cc,qA]
        show Tg (c 249 [AV.agg g.cells] s2) _=_
        rw[q1]
        simp only[iU]
        show jT (.load none) [.ptr bp 0] s3.heap (fun v=>kL (.load none) [.ptr bp 0] v (jN [] s2.heap)) _=_
        rw[yq]
        simp only[vg,qA,r1]
        exact st6 _
 . refine fail (fI g) h1 (by simp[uv,h1]) ?_
   rw[qO]
   simp[eb,mb,hch,h1,hpg]
end
section
set_option maxRecDepth 100000
open Go Go.Ai Go.Proofs
variable {c : ak}
theorem D9 {r s t:Ty} (h:dV r s=true) (k:dV s t=true):dV r t=true:=by
 simp only[dV,Bool.or_eq_true,Bool.and_eq_true,decide_eq_true_eq] at h k ⊢
 rcases h with h|⟨h1,h2⟩<;>rcases k with k|⟨k1,k2⟩
 . exact .inl (Ly _ _ _ h k)
 . exact .inl (by rw[<-k1];exact h)
 . exact .inl (by rw[h1];exact k)
 . exact .inr ⟨h1.trans k1,Ly _ _ _ h2 k2⟩
theorem ad3 {s t:Ty} (h:dV s t=false) (k:dV t s=false):s.a=t.a/\s.b=t.b:=by
 simp only[dV,Bool.or_eq_false_iff] at h k
 have e:=zA _ _ h.1 k.1
 refine ⟨e,?_⟩
 have h2:=h.2;have k2:=k.2
 simp only[e,decide_true,Bool.true_and] at h2 k2
 exact zA _ _ h2 k2
theorem aiU {r s t:Ty} (h:dV r s=true) (k:dV t s=false):dV r t=true:=by
 cases h2:dV s t
 . obtain ⟨e1,e2⟩:=ad3 h2 k
   unfold dV at h ⊢; rw[<-e1, <-e2];exact h
 . exact D9 h h2
theorem akZ {x:Int} (h1:0<=x) (h2:x<=18446744073709551615):ay .u64 x=x:=by
 unfold ay AH hiI
 simp only
 split
 . split
   . rfl
   . contradiction
 . contradiction
theorem aaG (K:AV->St->Option (AV×St)) (st:St) (a:Nat):aj c (.bin .shr .num) [.int .u64 (a:Int),.int .u64 1] st K=K (.int .u64 ((a / 2:Nat):Int)) st:=by
 refine aI c K (fun H n=> ?_) st
 have:(a:Int).fdiv 2=((a / 2:Nat):Int):=by
  rw[Int.fdiv_eq_ediv_of_nonneg _ (by omega)];rfl
 simp only[aC.run,gP,nB,dR]
 show some (cq.val (AV.int .u64 ((a:Int).fdiv 2)))=_
 rw[this]
theorem aaH (H:Pos->Option AB) (n:Pos) (es:Nat) (b:Pos) (len:Nat) (k:IntKind) (i:Nat) (h:i<len):aC.run H n (.idxA es none) [.slice b 0 len none es,.int k (i:Int)]=some (.val (.ptr b (i*es))):=by
 simp[aC.run,pG,jw,D0,h]
theorem Bn (ts:List Ty) (i:Nat) (h:i<ts.length):cut (ts.flatMap Ty.cells) (i*3) 3=some ts[i].cells:=by
 induction ts generalizing i with
 |nil=>simp at h
 |cons t ts ih=>
  cases i with
  |zero=>rw[List.flatMap_cons];unfold cut;rw[cM,decide_eq_true (by simp[Ty.len])];simp[Ty.cells]
  |succ i=>
   have h':i<ts.length:=by simpa using h
   have:=ih i h'
   unfold cut at this ⊢
   rw[cM] at this ⊢
   split at this<;>first|(cases this;done)|skip
   rename_i hle
   simp only[decide_eq_true_eq] at hle
   rw[decide_eq_true (by rw[List.flatMap_cons,List.length_append,Ty.len];omega)]
   simp only[Option.some.injEq] at this ⊢
   rw[List.flatMap_cons,show (i+1)*3=i*3+1+1+1 by omega,List.getElem_cons_succ, <-this]
   rfl
theorem aiV (hc:Sem c) (ts:List Ty) (hl:ts.length<=1000) (t:Ty) (q:Nat) (hq:q<=ts.length) (vt: ∀h (hh:h<ts.length),h<q->dV ts[h] t=true) (hhi: ∀h (hh:h<ts.length),q<=h->dV ts[h] t=false)
  (b:Pos) (x4:Pos) (s:St) (hw:Wf s) (hb:s.heap.get b=some (.cells (ts.flatMap Ty.cells) 0)) (hx:s.heap.get x4=some (.cells t.cells 0)) (F:Nat) (k2): ∀(m i j:Nat),j<=i+m->i<=q->q<=j->j<=ts.length->
  aR c F k2 (m+1) [.slice b 0 ts.length none 3,.func 170 [] [],.ptr x4 0,.int .i64 (ts.length:Int),.int .i64 (i:Int),.int .i64 (j:Int)] s=
    k2 [.slice b 0 ts.length none 3,.func 170 [] [],.ptr x4 0,.int .i64 (ts.length:Int),.int .i64 (q:Int)] s:=by
 intro m
 induction m with
 |zero=>
  intro i j h1 h2 h3 h4
  obtain rfl:i=q:=by omega
  obtain rfl:j=i:=by omega
  rw[dz]
  simp
 |succ m ih=>
  intro i j h1 h2 h3 h4
  rw[dz]
  by_cases h:i<j
  . let d:=(i+j) / 2
    have hd1:i<=d:=by omega
    have hd2:d<j:=by omega
    have hd3:d<ts.length:=by omega
    have w1:ay .i64 ((i:Int)+(j:Int))=((i+j:Nat):Int):=by rw[wrap64 (by omega) (by omega)];omega
    have w2:ay .u64 ((i+j:Nat):Int)=((i+j:Nat):Int):=akZ (by omega) (by omega)
    have w3:ay .i64 (((i+j) / 2:Nat):Int)=((d:Nat):Int):=wrap64 (by omega) (by omega)
    have w4:ay .i64 ((d:Int)+1)=((d+1:Nat):Int):=wrap64 (by omega) (by omega)
    have ix:=fun (K:AV->Option (AV×St))=>cP K (fun H n=>aaH H n 3 b ts.length .i64 d hd3)
    have ho:=E4 hc ts[d] t s hw
    have fg:=Bn ts d hd3
    clear_value d
    by_cases hn:d<q
    .   have ad4:pR ts[d] t<0:=Wn.2 (vt d hd3 hn)
        rw[<-ih (d+1) j (by omega) (by omega) h3 h4]
        simp only[ez,fy,aY,nQ,Int.ofNat_lt,h,decide_true,kj,sx,w1,Z6,w2,aaG,w3,EV,ix,R6,hb,fg,hx,bR,Option.bind_some,Ty.cc,qA,qC,List.nil_append,List.append_nil,List.cons_append,ho,iU,acF,ad4,w4]
    .   have ad4: ¬pR ts[d] t<0:=fun e=>by have:=Wn.1 e;rw[hhi d hd3 (by omega)] at this;cases this
        rw[<-ih i d (by omega) h2 (by omega) (by omega)]
        simp only[ez,fy,aY,nQ,Int.ofNat_lt,h,decide_true,kj,sx,w1,Z6,w2,aaG,w3,EV,ix,R6,hb,fg,hx,bR,Option.bind_some,Ty.cc,qA,qC,List.nil_append,List.append_nil,List.cons_append,ho,iU,acF,ad4,decide_false,jO]
  . obtain rfl:i=q:=by omega
    obtain rfl:j=i:=by omega
    simp
end
section
set_option maxRecDepth 100000
open Go Go.Ai Go.Proofs
variable {c : ak}
def AO (ts:List Ty) (t:Ty) (q:Nat):Bool:=match ts[q]? with
 |some u=>decide (pR u t=0)
 |none=>false
theorem ahn (x4:Pos) (s:St) (F:Nat) (k2) (m:Nat):aR c F k2 (m+1) [.ah,.func 170 [] [],.ptr x4 0,.int .i64 0,.int .i64 0,.int .i64 0] s=
  k2 [.ah,.func 170 [] [],.ptr x4 0,.int .i64 0,.int .i64 0] s:=by
 rw[dz];simp
def slvT (k:Option Pos) (n:Nat):AV:=match k with
 |none=> .ah
 |some b=> .slice b (0+n*3) (n - n) none 3
theorem aii (hc:Sem c) (ts:List Ty) (hl:ts.length<=1000) (t:Ty) (q:Nat) (hq:q<=ts.length) (vt: ∀h (hh:h<ts.length),h<q->dV ts[h] t=true) (hhi: ∀h (hh:h<ts.length),q<=h->dV ts[h] t=false)
  (tk:Option Pos) (s:St) (hw:Wf s) (h0:tk=none->ts=[]) (hb: ∀b,tk=some b->s.heap.get b=some (.cells (ts.flatMap Ty.cells) 0)):
  c 255 [iG tk ts.length 3,.agg t.cells,.func 170 [] []] s=some (.tuple [.int .i64 (q:Int),.bool (AO ts t q)],s):=by
 have aX:Wf (ai s (.cells t.cells 0)):=aQ hw
 have pJ:Plain (.tuple [.int .i64 (q:Int),.bool (AO ts t q)]):=Plain.tuple (by simp[Plain.int,Plain.bool])
 rw[lg hc 1001 (r:=(.tuple [.int .i64 (q:Int),.bool (AO ts t q)],ai s (.cells t.cells 0))),au pJ (aU hw)]
 rw[mz]
 cases tk with
 |none=>
  obtain rfl:=h0 rfl
  obtain rfl:q=0:=by simpa using hq
  have l0: ∀(K:AV->St->Option (AV×St)) (s:St),aj c (.lenB .l) [.ah] s K=K (.int .i64 0) s:=fun K s=>aI c K (fun H n=>rfl) s
  have L: ∀k2,aR c 1001 k2 1001 [.ah,.func 170 [] [],.ptr s.next 0,.int .i64 0,.int .i64 0,.int .i64 0] (ai s (.cells t.cells 0))=_:=fun k2=>ahn (c:=c) s.next _ 1001 k2 1000
  simp only[iG,nR,aY,l0,OG,L,ez,fy,List.length_nil]
  simp[AO,l0,L]
 |some b=>
  have cJ:(ai s (.cells t.cells 0)).heap.get b=some (.cells (ts.flatMap Ty.cells) 0):=aU hw _ _ (hb b rfl)
  have l0: ∀(K:AV->St->Option (AV×St)) (s:St),aj c (.lenB .l) [.slice b 0 ts.length none 3] s K=K (.int .i64 (ts.length:Int)) s:=fun K s=>aI c K (fun H n=>rfl) s
  have L: ∀k2,aR c 1001 k2 1001 [.slice b 0 ts.length none 3,.func 170 [] [],.ptr s.next 0,.int .i64 (ts.length:Int),.int .i64 0,.int .i64 (ts.length:Int)] (ai s (.cells t.cells 0))=
    k2 [.slice b 0 ts.length none 3,.func 170 [] [],.ptr s.next 0,.int .i64 (ts.length:Int),.int .i64 (q:Int)] (ai s (.cells t.cells 0)):=
    fun k2=>aiV hc ts hl t q hq vt hhi b s.next _ aX cJ (aH _ _) 1001 k2 1000 0 ts.length (by omega) (by omega) (by omega) (by omega)
  simp only[iG,nR,aY,l0,OG,L,ez,fy]
  by_cases h:q<ts.length
  . have ix:=fun (K:AV->Option (AV×St))=>cP K (fun H n=>aaH H n 3 b ts.length .i64 q h)
    have ho:=E4 hc ts[q] t _ aX
    have fg:=Bn ts q h
    have ef:AO ts t q=decide (pR ts[q] t=0):=by unfold AO;rw[List.getElem?_eq_getElem h]
    simp[h,ix,cJ,fg,ho,ef,AV.cells]
  . have ef:AO ts t q=false:=by unfold AO;rw[List.getElem?_eq_none (by omega)]
    simp[h,ef,AV.cells]
def JI (ts:List Ty) (t:Ty):Nat:=match ts.getLast? with
 |none=>0
 |some u=>if dV u t=true then ts.length else ts.length - 1
def CZ (ts:List Ty):Prop:= ∀i j (hj:j<ts.length) (hij:i<j),dV (ts[i]'(by omega)) ts[j]=true
theorem aj1 {ts:List Ty} {t:Ty} (hs:CZ ts) (ht: ∀u,ts.getLast? =some u->dV t u=false):JI ts t<=ts.length/\(∀h (hh:h<ts.length),h<JI ts t->dV ts[h] t=true)/\(∀h (hh:h<ts.length),JI ts t<=h->dV ts[h] t=false)/\
  AO ts t (JI ts t)=qM t ts.getLast? :=by
 unfold JI
 cases hl:ts.getLast? with
 |none=>
  have:ts=[]:=by simpa using hl
  subst this;simp[AO,qM]
 |some u=>
  have bX:ts≠[]:=fun e=>by subst e;simp at hl
  have N4:0<ts.length:=List.length_pos_iff.2 bX
  have hu:ts[ts.length - 1]'(by omega)=u:=by
    have:=List.getLast?_eq_getElem? (l:=ts)
    rw[hl,List.getElem?_eq_getElem (by omega)] at this
    exact (Option.some.inj this).symm
  have htu:=ht u hl
  simp only
  cases hb:dV u t
  . simp only[Bool.false_eq_true,if_false]
    refine ⟨by omega,fun h hh aP=> ?_,fun h hh hle=> ?_,?_⟩
    .   have:=hs h (ts.length - 1) (by omega) aP
        rw[hu] at this
        exact aiU this htu
    .   obtain rfl:h=ts.length - 1:=by omega
        rw[hu];exact hb
    .   unfold AO
        rw[List.getElem?_eq_getElem (by omega),hu]
        have h1: ¬pR u t<0:=fun e=>by rw[Wn.1 e] at hb;cases hb
        have h2: ¬0<pR u t:=fun e=>by rw[QH.1 e] at htu;cases htu
        have:pR u t=0:=by omega
        simp[this,qM,hb]
  . simp only[if_true]
    refine ⟨by omega,fun h hh _=> ?_,fun h hh hle=>by omega,?_⟩
    .   by_cases e:h=ts.length - 1
        . subst e;rw[hu];exact hb
        . have:=hs h (ts.length - 1) (by omega) (by omega)
          rw[hu] at this
          exact D9 this hb
    .   unfold AO;rw[List.getElem?_eq_none (by omega)];simp[qM,hb]
theorem aho (hc:Sem c) {s0 s:St} {bp mp:Pos} {gs:List aJ} {ts:List Ty} {gk tk:Option Pos} (B:dh s0 s bp mp gs ts gk tk) (hl:ts.length<=1000) (t:Ty) (aP:aD t.a t.b=true) (hs:CZ ts) (ht: ∀u,ts.getLast? =some u->dV t u=false):
  c 177 [.ptr bp 0,.str t.a,.str t.b] s=some (.tuple [.int .i64 (JI ts t:Int),.bool (qM t ts.getLast?)],s):=by
 obtain ⟨p1,p2,p3,p4⟩:=aj1 hs ht
 rw[<-p4]
 have e0: ∀u:Ty,dV u ⟨t.a,t.b,0⟩=dV u t:=fun u=>rfl
 have e1:AO ts ⟨t.a,t.b,0⟩ (JI ts t)=AO ts t (JI ts t):=rfl
 have XA:=acZ hc t.a t.b 0 aP s B.wf
 have kz:=aii hc ts hl ⟨t.a,t.b,0⟩ (JI ts t) p1 (fun h hh hq=>by rw[e0];exact p2 h hh hq) (fun h hh hq=>by rw[e0];exact p3 h hh hq) tk s B.wf B.tB.1 B.tB.2
 rw[e1] at kz
 rw[zE hc 1 (r:=(.tuple [.int .i64 (JI ts t:Int),.bool (AO ts t (JI ts t))],s)),au (Plain.tuple (by simp[Plain.int,Plain.bool])) (aM.refl s)]
 rw[B4]
 have bq:eC (iG tk ts.length 3) (iG tk ts.length 3)=true:=by cases tk;exact Lg;exact GZ _ _ _ _
 have yq:=fun (K:AV->Option (AV×St))=>kT K (p:=bp) (o:=1) (h:=s.heap) (h2:=s.heap) (v:=iG tk ts.length 3) (by rw[B.book];rfl) (by rw[B.book];rfl) bq
 simp[XA,yq,kz]
theorem oo (b:Pos) (off n es:Nat): ¬Plain (.slice b off n none es):=fun h=>by
 have:=h (fun _=>⟨0,0,off+n*es⟩) (fun _=>⟨0,0,0⟩) (b.toNat+1) 0 (fun _=>none) _ (.slice b off n none es n ⟨0,0+off,none⟩ (Nat.le_refl _) (fun c h=>by cases h) (fun _=>⟨by omega,rfl,by simp⟩) (fun _=>by omega))
 have:=this.WU rfl
 omega
theorem afp (hc:Sem c) {s:St} (hw:Wf s) {tk:Option Pos} {ts:List Ty} {q:Pos} {row:List AV} (h0:tk=none->ts=[]) (hb: ∀b,tk=some b->s.heap.get b=some (.cells (ts.flatMap Ty.cells) 0)) (hq:s.heap.get q=some (.cells row 0)) (hr:row.length=3)
   (h1:aK row=true) (hl:ts.length<=1000):
   ∃ s5,c 251 [iG tk ts.length 3,.int .i64 (ts.length:Int),.slice q 0 1 (some 1) 3] s=some (.slice s.next 0 (ts.length+1) none 3,s5)/\s5.heap.get s.next=some (.cells (ts.flatMap Ty.cells++row) 0)/\
     s5.next=s.next.succ/\Wf s5/\ ∀p,tk≠some p->p.toNat<s.next.toNat->s5.heap.get p=s.heap.get p:=by
 have hlen: ∀ts:List Ty,(ts.flatMap Ty.cells).length=ts.length*3:=fun ts=>by
   induction ts with
   |nil=>rfl
   |cons t ts ih=>rw[List.flatMap_cons,List.length_append,ih,Ty.len,List.length_cons];omega
 obtain ⟨s5,je,r1,r2,r3,r4,r5,r6,r7,r8⟩:=ac1 (c:=c) (es:=3) (bytes:=40) hw (k:=tk) (n:=ts.length) (fun h=>by rw[h0 h];rfl) (fun b dD=>⟨_,hb b dD,hlen ts⟩) hq hr h1 (by omega) (by omega) (by omega)
 refine ⟨s5,?_,?_,r6,r7,r8⟩
 . rw[wD hc 1 (r:=(.slice s.next 0 (ts.length+1) none 3,s5))]
   . unfold tidy;rw[if_neg];exact fun h=>oo _ _ _ _ h.1
   rw[yS]
   have sl: ∀(K:AV->St->Option (AV×St)) (s:St),aj c (.sliceL 3 true false false) [iG tk ts.length 3,.int .i64 (ts.length:Int)] s K=K (slvT tk ts.length) s:=fun K s=>by
     refine aI c K (fun H n=> ?_) s
     cases tk with
     |none=>rw[h0 rfl];rfl
     |some b=>simp[iG,slvT,aC.run,gY,bounds,jw,cN,cM]
   have l1: ∀(K:AV->St->Option (AV×St)) (s:St),aj c (.lenB .l) [.slice q 0 1 (some 1) 3] s K=K (.int .i64 1) s:=fun K s=>aI c K (fun H n=>rfl) s
   have l2: ∀(K:AV->St->Option (AV×St)) (s:St),aj c (.lenB .l) [iG tk ts.length 3] s K=K (.int .i64 (ts.length:Int)) s:=fun K s=>aI c K (LC fun h=>by rw[h0 h];rfl) s
   simp[sl,l1,l2,r1]
 . cases tk with
   |none=>rw[r2,r5 rfl,h0 rfl];rfl
   |some b=>rw[r2,r4 b _ rfl (hb b rfl)]
end
section
set_option maxRecDepth 100000
open Go Go.Ai Go.Proofs
variable {c : ak}
def uw (gs:List aJ) (ts:List Ty) (t:Ty):Int:=if Hp t=false then 23 else if ku gs t=true then 6 else if qM t ts.getLast? =true then 5 else 0
theorem aaI (H:Pos->Option AB) (n:Pos) (es:Nat) (b:Pos) (len:Nat) (cp:Option Nat) (k:IntKind) (i:Nat) (h:i<len):aC.run H n (.idxA es none) [.slice b 0 len cp es,.int k (i:Int)]=some (.val (.ptr b (i*es))):=by
 simp[aC.run,pG,jw,D0,h]
theorem ac2 {gs:List aJ} {es:List (AV×AV×Nat)} (h:es.map (·.1)=gs.map fun g=> .str g.name) (s:List Nat):
   (¬scan (ir gs s) gs.length 0<0/\ ∃j v,fH .s (.str s) es 0=some (some (j,v)))\/(scan (ir gs s) gs.length 0<0/\fH .s (.str s) es 0=some none):=by
 rcases BK s gs es 0 h with ⟨a,b⟩|⟨a,b⟩
 . left;have:=LD.2 a;exact ⟨by omega,b⟩
 . right;refine ⟨?_,b⟩
   have: ¬0<=scan (ir gs s) gs.length 0:=fun e=>a (LD.1 e)
   omega
theorem ahp {s:St} {bp mp:Pos} {x y:AV} {es:List (AV×AV×Nat)} {cl:Nat} {gs:List aJ} (hb:s.heap.get bp=some (.cells [x,y,.map mp] 0)) (hm:s.heap.get mp=some (.map es cl)) (he:es.map (·.1)=gs.map fun g=> .str g.name)
   (t:Ty) (lb:Pos) (hlb:s.heap.get lb=some (.cells [.str t.a,.str t.b] 0)) (F:Nat) (k1 k2):
   jE c F k1 k2 3 [.ptr bp 0,.str t.a,.str t.b,.int .u8 t.k,.slice lb 0 2 (some 2) 1,.int .i64 2,.int .i64 ((0:Nat):Int)] s=if ku gs t=true then k1 [.int .i64 6] s else k2 [.ptr bp 0,.str t.a,.str t.b,.int .u8 t.k] s:=by
 have w0:ay .i64 (((0:Nat):Int)+1)=((1:Nat):Int):=rfl
 have w1:ay .i64 (((1:Nat):Int)+1)=((2:Nat):Int):=rfl
 have i0: ∀(K:AV->St->Option (AV×St)) (s:St),aj c (.idxA 1 none) [.slice lb 0 2 (some 2) 1,.int .i64 ((0:Nat):Int)] s K=K (.ptr lb 0) s:=fun K s=>aI c K (fun H n=>aaI H n 1 lb 2 (some 2) .i64 0 (by omega)) s
 have i1: ∀(K:AV->St->Option (AV×St)) (s:St),aj c (.idxA 1 none) [.slice lb 0 2 (some 2) 1,.int .i64 ((1:Nat):Int)] s K=K (.ptr lb 1) s:=fun K s=>aI c K (fun H n=>aaI H n 1 lb 2 (some 2) .i64 1 (by omega)) s
 have d0:decide (((0:Nat):Int)<2)=true:=rfl
 have d1:decide (((1:Nat):Int)<2)=true:=rfl
 have d2:decide (((2:Nat):Int)<2)=false:=rfl
 have e0:([AV.str t.a,.str t.b]:List AV)[0]? =some (.str t.a):=rfl
 have e1:([AV.str t.a,.str t.b]:List AV)[1]? =some (.str t.b):=rfl
 have e2:([x,y,AV.map mp]:List AV)[2]? =some (.map mp):=rfl
 rw[sK]
 rcases ac2 he t.a with ⟨n1,j,v,f1⟩|⟨n1,f1⟩
 . have lk1:=fun (K:AV->St->Option (AV×St))=>yo c K (.int .i64 0) (k:= .str t.a) hm f1
   simp only[ez,fy,nQ,d0,kj,i0,gM,hlb,hb,bR,Option.bind_some,e0,e2,fo,aY,mo,eY,Nat.zero_add,lk1,kq,List.getElem?_cons_zero,List.getElem?_cons_succ,QC,Bool.not_true,jO,sx,w0]
   rw[sK]
   rcases ac2 he t.b with ⟨n2,j,v,f2⟩|⟨n2,f2⟩
   . have lk2:=fun (K:AV->St->Option (AV×St))=>yo c K (.int .i64 0) (k:= .str t.b) hm f2
     simp only[ez,fy,nQ,d1,kj,i1,gM,hlb,hb,bR,Option.bind_some,e1,e2,fo,aY,mo,eY,Nat.zero_add,lk2,kq,List.getElem?_cons_zero,List.getElem?_cons_succ,QC,Bool.not_true,jO,sx,w1]
     rw[sK]
     have:ku gs t=false:=by simp[ku,n1,n2]
     rw[this]
     simp only[ez,fy,nQ,d2,jO,Bool.false_eq_true,if_false]
   . have lk2:=fun (K:AV->St->Option (AV×St))=>yo c K (.int .i64 0) (k:= .str t.b) hm f2
     have:ku gs t=true:=by simp[ku,n2]
     rw[this]
     simp only[ez,fy,nQ,d1,kj,i1,gM,hlb,hb,bR,Option.bind_some,e1,e2,fo,aY,mo,eY,Nat.zero_add,lk2,kq,List.getElem?_cons_zero,List.getElem?_cons_succ,QC,Bool.not_false,if_true]
 . have lk1:=fun (K:AV->St->Option (AV×St))=>yo c K (.int .i64 0) (k:= .str t.a) hm f1
   have:ku gs t=true:=by simp[ku,n1]
   rw[this]
   simp only[ez,fy,nQ,d0,kj,i0,gM,hlb,hb,bR,Option.bind_some,e0,e2,fo,aY,mo,eY,Nat.zero_add,lk1,kq,List.getElem?_cons_zero,List.getElem?_cons_succ,QC,Bool.not_false,if_true]
set_option maxHeartbeats 1000000 in
theorem aj2 (hc:Sem c) {s0 s:St} {bp mp:Pos} {gs:List aJ} {ts:List Ty} {gk tk:Option Pos} (BX:Wf s0) (B:dh s0 s bp mp gs ts gk tk) (hl:ts.length<=200) (t:Ty) (aP:aD t.a t.b=true) (hs:CZ ts) (ht: ∀u,ts.getLast? =some u->dV t u=false):
   ∃s',c 171 [.ptr bp 0,.str t.a,.str t.b,.int .u8 t.k] s=some (.int .i64 (uw gs ts t),s')/\(uw gs ts t≠0->s'=s)/\(uw gs ts t=0-> ∃JH,dh s0 s' bp mp gs (ts++[t]) gk JH):=by
 have bX: ¬t.a=t.b:=fun e=>by rw[e,ur] at aP;cases aP
 have mb:=QI hc s bp mp _ _ B.book
 have hkt:Hp t=true->(t.k=1\/(¬t.k=1/\t.k=2)):=fun q=>by
   simp only[Hp,Bool.or_eq_true,decide_eq_true_eq] at q
   by_cases e:t.k=1
   . exact .inl e
   . exact .inr ⟨e,q.resolve_left e⟩
 by_cases hk:Hp t=true
 . have aX  :Wf (ai s (.cells [.str t.a,.str t.b] 0)):=aQ B.wf
   have B1:=B.aB (Grew.ai B.wf (.cells [.str t.a,.str t.b] 0))
   have Hq:=Grew.ai B.wf (.cells [.str t.a,.str t.b] 0)
   have hlb:(ai s (.cells [.str t.a,.str t.b] 0)).heap.get s.next=some (.cells [.str t.a,.str t.b] 0):=aH _ _
   generalize CY:ai s (.cells [.str t.a,.str t.b] 0)=s1 at aX B1 Hq hlb
   obtain ⟨es,cl,j8,hm2⟩:=B1.zD
   have L: ∀k1 k2,jE c 3 k1 k2 3 [.ptr bp 0,.str t.a,.str t.b,.int .u8 t.k,.slice s.next 0 2 (some 2) 1,.int .i64 2,.int .i64 0] s1=if ku gs t=true then k1 [.int .i64 6] s1 else k2 [.ptr bp 0,.str t.a,.str t.b,.int .u8 t.k] s1:=fun k1 k2=>ahp (c:=c) B1.book j8 hm2 t s.next hlb 3 k1 k2
   have pJ:=aho hc B1 (by omega) t aP hs ht
   have l2: ∀(K:AV->St->Option (AV×St)) (s:St),aj c (.lenB .l) [.slice (ai s (.cells [] 0)).next 0 2 (some 2) 1] s K=K (.int .i64 2) s:=fun K s=>aI c K (fun H n=>rfl) s
   have lT: ∀(K:AV->St->Option (AV×St)) (s:St),aj c (.lenB .l) [iG tk ts.length 3] s K=K (.int .i64 (ts.length:Int)) s:=fun K s=>aI c K (LC fun h=>by rw[B.tB.1 h];rfl) s
   have bsl: ∀(K:AV->St->Option (AV×St)),aj c (.buildSlice 1 2 [(.str [])] [0,1]) [.str t.a,.str t.b] s K=K (.slice s.next 0 2 (some 2) 1) s1:=fun K=>by
     rw[cB, <-CY]
     have:bJ (bC [AV.str []] 2) ([0,1].map fun i=>(i*1,1)) [.str t.a,.str t.b]=some [.str t.a,.str t.b]:=by simp[bJ,bC,cN,cM,aG,AV.cells]
     rw[this];rfl
   have l3: ∀(K:AV->St->Option (AV×St)) (p:Pos) (s:St),aj c (.lenB .l) [.slice p 0 2 (some 2) 1] s K=K (.int .i64 2) s:=fun K p s=>aI c K (fun H n=>rfl) s
   have Wo: ¬(ts.length:Int)=256:=by omega
   have fail: ∀e:Int,e≠0->uw gs ts t=e->vq c 3 (.ptr bp 0) (.str t.a) (.str t.b) (.int .u8 t.k) s=some (.int .i64 e,s1)-> ∃s',c 171 [.ptr bp 0,.str t.a,.str t.b,.int .u8 t.k] s=some (.int .i64 (uw gs ts t),s')/\(uw gs ts t≠0->s'=s)/\(uw gs ts t=0-> ∃JH,dh s0 s' bp mp gs (ts++[t]) gk JH):=fun e he ha h=>by
     refine ⟨s,?_,fun _=>rfl,fun h0=>absurd (ha.symm.trans h0) he⟩
     rw[ux hc 3 h,ha,au (Plain.int _ _) Hq.keeps]
   cases hu:ku gs t
   . cases  hd:qM t ts.getLast?
     .  have he:uw gs ts t=0:=by simp[uw,hk,hu,hd]
        rw[hd] at pJ
        have hplc:(JI ts t:Int)=ts.length:=by
          unfold JI
          cases hq:ts.getLast? with
          |none=> have:ts=[]:=by simpa using hq
                  subst this;rfl
          | some u=>
            rw[hq] at hd
            simp only[qM,Bool.not_eq_false'] at hd
            simp only[hd,if_true]
        rw[hplc] at pJ
        have XA:=acZ hc t.a t.b t.k aP s1 aX
        let s2:=ai s1 (.cells t.cells 0)
        have g2:=Grew.ai aX (.cells t.cells 0)
        have B2:=B1.aB g2
        obtain ⟨s5,r1,r2,r3,r4,r5⟩:=afp hc (s:=s2) g2.wf (tk:=tk) (ts:=ts) (q:=s1.next) (row:=t.cells) B.tB.1 B2.tB.2 (aH _ _) rfl t.one (by omega)
        have lt2:=B2.lt
        have b5:s5.heap.get bp=some (.cells [iG gk gs.length 9,iG tk ts.length 3,.map mp] 0):=by rw[r5 bp B.dt lt2.1];exact B2.book
        let tv:=AV.slice s2.next 0 (ts.length+1) none 3
        let s6:=bt s5 bp (.cells [iG gk gs.length 9,tv,.map mp] 0)
        have ahm:bp.toNat<s5.next.toNat:=r4 _ _ b5
        have nb2:bp≠s2.next:=fun e=>absurd (show bp.toNat<s2.next.toNat from lt2.1) (by rw[e];exact Nat.lt_irrefl _)
        have st6: ∀(K:AV->St->Option (AV×St)),aj c (.store 1) [.ptr bp 1,tv] s5 K=K .undef s6:=fun K=>cu c K s5 1 bp 1 tv _ b5 rfl (by simp) rfl
        have g6: ∀p,p≠bp->s6.heap.get p=s5.heap.get p:=fun p h=>aF (fun e=>h e.symm)
        have ad2: ∀p:Pos,s0.next.toNat<=p.toNat->s0.heap.get p=none:=fun p h=>by
          cases hx:s0.heap.get p with
          |none=>rfl
          |some x=>have:=BX _ _ hx;omega
        obtain ⟨N7,cl2,hm3,hm4⟩:=B2.zD
        have nmb:mp≠bp:=fun e=>by rw[e,B2.book] at hm3;cases hm3
        have nmt:tk≠some mp:=fun e=>by rw[B2.tB.2 mp e] at hm3;cases hm3
        have aaF:dh s0 s6 bp mp gs (ts++[t]) gk (some s2.next):={
          wf:=ij r4 ahm
          keeps:=fun p x hp=>by
            have n1:p≠bp:=fun e=>by rw[e,B.fb] at hp;cases hp
            have n3:tk≠some p:=fun e=>by rw[B.ft p e] at hp;cases hp
            have h2:=B2.keeps p x hp
            rw[g6 p n1,r5 p n3 (B2.wf _ _ h2)];exact h2
          next:=by show s0.next.toNat<=s5.next.toNat;exact Nat.le_trans B2.next (by rw[r3,Pos.ax];exact Nat.le_succ _)
          book:=by show (bt _ _ _).heap.get bp=_;rw[dM];simp[tv,iG]
          zD:=⟨N7,cl2,by rw[g6 mp nmb,r5 mp nmt lt2.2];exact hm3,hm4⟩
          ov:=⟨B.ov.1,fun b hb=>by
            obtain ⟨cs,h3,h4⟩:=B2.ov.2 b hb
            refine ⟨cs,?_,h4⟩
            rw[g6 b (fun e=>B.dg (by rw[<-e];exact hb)),r5 b (B.R9 b hb) (B2.wf _ _ h3)];exact h3⟩
          tB:=⟨fun h=>(by cases h),fun b hb=>by
            cases hb
            rw[g6 _ (fun e=>nb2 e.symm),r2];simp⟩
          dg:=B.dg
          dt:=fun e=>nb2 (by injection e with e;exact e.symm)
          R9:=fun b hb h=>by
            cases h
            obtain ⟨cs,h3,h4⟩:=B2.ov.2 _ hb
            exact absurd (show s2.next.toNat<s2.next.toNat from B2.wf _ _ h3) (Nat.lt_irrefl _)
          fb:=B.fb
          fm:=B.fm
          fg:=B.fg
          ft:=fun b hb=>by cases hb;exact ad2 _ B2.next
          Iq:=fun es' cl' hm=>by
            have m6:s6.heap.get mp=s2.heap.get mp:=by rw[g6 mp nmb,r5 mp nmt lt2.2]
            rw[m6] at hm
            exact B2.Iq _ _ hm
          rows:=fun b cs hb hs i u hu=>by
            obtain ⟨Sc,h3,h4⟩:=B2.ov.2 b hb
            have x6:s6.heap.get b=s2.heap.get b:=by rw[g6 b (fun e=>B.dg (by rw[<-e];exact hb)),r5 b (B.R9 b hb) (B2.wf _ _ h3)]
            rw[x6] at hs
            refine (B2.rows b cs hb hs i u hu).to fun p cs a1 a2 a3 hx=> ?_
            have aP:p.toNat<s2.next.toNat:=B2.wf _ _ hx
            refine ⟨by rw[g6 p a1,r5 p a3 aP];exact hx,a2,fun e=> ?_⟩
            cases e;exact absurd aP (Nat.lt_irrefl _) }
        refine ⟨s6,?_,fun h=>absurd he h,fun _=>⟨_,aaF⟩⟩
        rw[he]
        rw[ux hc 3 (r:=(.int .i64 0,s6))]
        . rw[acQ (b:=bp) B.book]
          rw[aaF.book]
          intro e
          have e:=congrArg (fun o=>match o with|some (AB.cells (_::v::_) _)=>dF v|_=>none) e
          simp only[iG,dF] at e
          cases tk with
          |none=>simp[dF,B.tB.1 rfl] at e
          |some b=>simp[dF] at e
        rw[qP]
        have bq:eC (iG tk ts.length 3) (iG tk ts.length 3)=true:=by cases tk;exact Lg;exact GZ _ _ _ _
        have yq:=fun (K:AV->Option (AV×St))=>kT K (p:=bp) (o:=1) (h:=s1.heap) (h2:=s1.heap) (v:=iG tk ts.length 3) (by rw[B1.book];rfl) (by rw[B1.book];rfl) bq
        have vg:bJ (bC [AV.str [],AV.str [],.int .u8 0] 1) [(0,3)] [AV.agg t.cells]=some t.cells:=by
          simp[bJ,bC,cN,cM,Ty.cells,aG]
        have aij:decide ((ts.length:Int)=256)=false:=decide_eq_false Wo
        rw[hu] at L
        rcases hkt hk with f|⟨f,f2⟩
        . have d1:decide (t.k=1)=true:=decide_eq_true f
          simp[-cB,mb,bX,bsl,l3,d1,L,pJ,B1.book,lT,aij,XA,yq,vg]
          show Tg (c 251 [iG tk ts.length 3,.int .i64 (ts.length:Int),.slice s1.next 0 1 (some 1) 3] s2) _=_
          rw[r1]
          exact st6 _
        . have d1:decide (t.k=1)=false:=decide_eq_false f
          have d2:decide (t.k=2)=true:=decide_eq_true f2
          simp[-cB,mb,bX,bsl,l3,d1,d2,L,pJ,B1.book,lT,aij,XA,yq,vg]
          show Tg (c 251 [iG tk ts.length 3,.int .i64 (ts.length:Int),.slice s1.next 0 1 (some 1) 3] s2) _=_
          rw[r1]
          exact st6 _
     .  refine fail 5 (by omega) (by simp[uw,hk,hu,hd]) ?_
        rw[hd] at pJ
        rw[hu] at L
        rw[qP]
        rcases hkt hk with f|⟨f,f2⟩
        . have d1:decide (t.k=1)=true:=decide_eq_true f
          simp[-cB,mb,bX,bsl,l3,d1,L,pJ]
        . have d1:decide (t.k=1)=false:=decide_eq_false f
          have d2:decide (t.k=2)=true:=decide_eq_true f2
          simp[-cB,mb,bX,bsl,l3,d1,d2,L,pJ]
   . refine fail 6 (by omega) (by simp[uw,hk,hu]) ?_
     rw[hu] at L
     rw[qP]
     rcases hkt hk with f|⟨f,f2⟩
     .  have d1:decide (t.k=1)=true:=decide_eq_true f
        simp[-cB,mb,bX,bsl,l3,d1,L]
     .  have d1:decide (t.k=1)=false:=decide_eq_false f
        have d2:decide (t.k=2)=true:=decide_eq_true f2
        simp[-cB,mb,bX,bsl,l3,d1,d2,L]
 . have hkf: ¬t.k=1/\ ¬t.k=2:=by simpa [Hp] using hk
   have he:uw gs ts t=23:=by simp[uw,hk]
   refine ⟨s,?_,fun _=>rfl,fun h0=>absurd (he.symm.trans h0) (by omega)⟩
   rw[ux hc 3 (r:=(.int .i64 23,s)),he,au (Plain.int _ _) (aM.refl s)]
   rw[qP]
   simp[mb,hkf]
end
section
set_option maxRecDepth 100000
open Go Go.Ai Go.Proofs
variable {c : ak}
@[simp] theorem alS {R:Type} (K:AV->Option R) (z:Bool) (l:List aJ):fM (.lenB .l) [aT z l] K=K (.int .i64 (l.length:Int)):=by unfold aT;rw[agY];simp
theorem ahq {gs:List aJ} {k:Nat} (h:k<gs.length) (hk:k<=64):uv (gs.take k) gs[k]=if fI gs[k]≠0 then fI gs[k] else if 0<=scan (ir gs gs[k].name) k 0 then 5 else if 64<=k then 7 else 0:=by
 have hl:(gs.take k).length=k:=by simp;omega
 unfold uv
 rw[hl,aaE (by omega)]
 have:(k=64)↔64<=k:=by omega
 simp only[this]
@[simp] theorem ak0 {R:Type} (c:ak) (K:AV->St->Option R) (st:St) (t:aJ) (cs:List AV) (h:cs.length=9):aj c (.store 9) [.ptr st.next 0,.agg t.cells] (ai st (.cells cs 0)) K=K .undef (ai st (.cells t.cells 0)):=dy c K st 9 (.agg t.cells) cs rfl h.symm t.one
theorem aiW (hc:Sem c) {s0:St} (BX:Wf s0) (z:Bool) (gs:List aJ) (hl:gs.length<=100) (bp mp rp:Pos) (F:Nat) (k1 k2): ∀(m k:Nat) (s:St) (gk:Option Pos),dh s0 s bp mp (gs.take k) [] gk none->gs.length<=k+m->k<=gs.length->k<=64->
  ∃ s',aM s0 s'/\(((ia gs m k).2=0/\(∃MB,dh s0 s' bp mp gs [] MB none)/\iF c F k1 k2 (m+1) [.ptr rp 0,.ptr bp 0,aT z gs,.int .i64 (gs.length:Int),.int .i64 (k:Int)] s=k2 [.ptr rp 0,.ptr bp 0] s')\/
    ((ia gs m k).2≠0/\iF c F k1 k2 (m+1) [.ptr rp 0,.ptr bp 0,aT z gs,.int .i64 (gs.length:Int),.int .i64 (k:Int)] s=k1 [.dP,.int .i64 (ia gs m k).1,.int .i64 (ia gs m k).2] s')):=by
 intro m
 induction m with
 |zero=>
  intro k s gk B h1 h2 h3
  obtain rfl:k=gs.length:=by omega
  refine ⟨s,B.keeps,.inl ⟨rfl,⟨gk,by simpa using B⟩,?_⟩⟩
  rw[tC]
  simp
 |succ m ih   =>
  intro k s gk B h1 h2 h3
  by_cases h:k<gs.length
  . have w:ay .i64 ((k:Int)+1)=((k+1:Nat):Int):=wrap64 (by omega) (by omega)
    have B1:=B.aB (Grew.ai B.wf (.cells gs[k].cells 0))
    obtain ⟨s2,a1,a2,a3⟩:=aj0 hc BX B1 (by simp;omega) gs[k]
    have hA:=ahq h h3
    have step: ∀(K:AV->St->Option (AV×St)),(aj c (.idxA 9 none) [aT z gs,.int .i64 (k:Int)] s fun x19 s12=>aj c (.load (some 9)) [x19] s12 K)=K (.agg gs[k].cells) s:=fun K=>by
        simp[aT,h]
    by_cases he:uv (gs.take k) gs[k]=0
    .   obtain ⟨MB,B2⟩:=a3 he
        have e1:gs.take k++[gs[k]]=gs.take (k+1):=(List.take_succ_eq_append_getElem h).symm
        rw[e1] at B2
        rw[hA] at he
        have c1:fI gs[k]=0:=by
         by_cases e:fI gs[k]=0
         .  exact e
         .  rw[if_pos e] at he;exact absurd he e
        rw[if_neg (by rw[c1];simp)] at he
        have c2: ¬0<=scan (ir gs gs[k].name) k 0:=fun e=>by rw[if_pos e] at he;cases he
        rw[if_neg c2] at he
        have c3: ¬64<=k:=fun e=>by rw[if_pos e] at he;cases he
        have ec:ia gs (m+1) k=ia gs m (k+1):=by
         rw[ia,List.getElem?_eq_getElem h];simp only
         rw[if_neg (by rw[c1];simp),if_neg c2,if_neg c3]
        obtain ⟨s',g1,g2⟩:=ih (k+1) s2 MB B2 (by omega) (by omega) (by omega)
        refine ⟨s',g1,?_⟩
        rw[ec]
        have eL:iF c F k1 k2 (m+1+1) [.ptr rp 0,.ptr bp 0,aT z gs,.int .i64 (gs.length:Int),.int .i64 (k:Int)] s=iF c F k1 k2 (m+1) [.ptr rp 0,.ptr bp 0,aT z gs,.int .i64 (gs.length:Int),.int .i64 ((k+1:Nat):Int)] s2:=by
         rw[tC]
         have hz:uv (gs.take k) gs[k]=0:=by rw[hA,if_neg (by rw[c1];simp),if_neg c2,if_neg c3]
         rw[hz] at a1
         simp[aT,h,a1,w]
        rw[eL];exact g2
    .   obtain rfl:=a2 he
        have ec:ia gs (m+1) k=((k:Int),uv (gs.take k) gs[k]):=by
         rw[ia,List.getElem?_eq_getElem h];simp only
         rw[hA] at he ⊢
         by_cases c1:fI gs[k]=0
         .  have e1: ¬fI gs[k]≠0:=by rw[c1];simp
            by_cases c2:0<=scan (ir gs gs[k].name) k 0
            . simp only[e1,c2,if_false,if_true]
            . by_cases c3:64<=k
              . simp only[e1,c2,c3,if_false,if_true]
              . rw[if_neg e1,if_neg c2,if_neg c3] at he;exact absurd rfl he
         .  have e1:fI gs[k]≠0:=c1
            rw[if_pos e1,if_pos e1]
        refine ⟨_,B1.keeps,.inr ⟨by rw[ec];exact he,?_⟩⟩
        rw[ec,tC]
        simp[aT,h,a1,he]
  . obtain rfl:k=gs.length:=by omega
    have ec:ia gs (m+1) gs.length=(0,0):=by rw[ia,List.getElem?_eq_none (by omega)]
    refine ⟨s,B.keeps,.inl ⟨by rw[ec],⟨gk,by simpa using B⟩,?_⟩⟩
    rw[tC]
    simp
theorem Tp {ts:List Ty} {k:Nat} (h:k<ts.length):(ts.take k).getLast? =mN ts k:=by
 unfold mN
 by_cases h0:k=0
 . simp[h0]
 . rw[if_neg h0,List.getLast?_eq_getElem?]
   have:(ts.take k).length=k:=by simp;omega
   rw[this,List.getElem?_take,if_pos (by omega)]
theorem ahr {ts:List Ty} {k:Nat} (h:k<ts.length) (hs:CZ (ts.take k)) (hb: ∀u,mN ts k=some u->dV u ts[k]=true):CZ (ts.take (k+1)):=by
 intro i j hj hij
 have CS:j<k+1:=by simp at hj;omega
 simp only[List.getElem_take]
 by_cases e:j=k
 . subst e
   have h1:mN ts j=some (ts[j - 1]'(by omega)):=by rw[mN,if_neg (by omega),List.getElem?_eq_getElem (by omega)]
   have h2:=hb _ h1
   by_cases e2:i=j - 1
   . subst e2;exact h2
   . have h3:=hs i (j - 1) (by simp;omega) (by omega)
     simp only[List.getElem_take] at h3
     exact D9 h3 h2
 . have:=hs i j (by simp;omega) hij
   simpa only[List.getElem_take] using this
def UX (t:Ty) (p:Option Ty):Bool:=match p with|none=>false|some p=>dV t p
theorem ahs (t:Ty) (p:Option Ty):Y0 t p=(!Hp t|| !aD t.a t.b||UX t p):=by cases p<;>rfl
def okT (t:Ty) (p:Option Ty):Bool:=aD t.a t.b&& !UX t p
def eK (gs:List aJ) (ts:List Ty) (k:Nat) (t:Ty):Int:=if okT t (mN ts k)=true then uw gs (ts.take k) t else 23
set_option maxHeartbeats 1000000 in
theorem aiX (hc:Sem c) {s0:St} (BX:Wf s0) (z z2:Bool) (gs:List aJ) (ts:List Ty) (hl:gs.length<=100) (jF:ts.length<=100) (bp mp rp:Pos) (Oe:s0.heap.get rp=some (.cells [aT z gs,bH z2 ts] 0)) (gk:Option Pos) (F:Nat) (k1 k4): ∀(m k:Nat) (s:St) (tk:Option Pos),dh s0 s bp mp gs (ts.take k) gk tk->CZ (ts.take k)->ts.length<=k+m->k<=ts.length->
  ∃s',aM s0 s'/\((fj gs ts m k).2=0->(∃JH,dh s0 s' bp mp gs ts gk JH)/\CZ ts)/\jH c F k1 k4 (m+1) [.ptr rp 0,.ptr bp 0,bH z2 ts,.int .i64 (ts.length:Int),.int .i64 (k:Int)] s=if (fj gs ts m k).2=0 then k4 [.ptr bp 0] s' else k1 [.dP,.int .i64 (fj gs ts m k).1,.int .i64 (fj gs ts m k).2] s':=by
 intro m
 induction m with
 |zero=>
  intro k s tk B hs h1 h2
  obtain rfl:k=ts.length:=by omega
  refine ⟨s,B.keeps,fun _=>⟨⟨tk,by simpa using B⟩,by simpa using hs⟩,?_⟩
  rw[tD]
  simp[fj]
 |succ m ih   =>
  intro k s tk B hs h1 h2
  by_cases h:k<ts.length
  . have w:ay .i64 ((k:Int)+1)=((k+1:Nat):Int):=wrap64 (by omega) (by omega)
    have wg:ay .i64 ((gs.length:Int)+(k:Int))=(gs.length:Int)+k:=wrap64 (by omega) (by omega)
    have B1:=B.aB (Grew.ai B.wf (.cells ts[k].cells 0))
    have dS:(ai s (.cells ts[k].cells 0)).heap.get rp=some (.cells [aT z gs,bH z2 ts] 0):=B1.keeps _ _ Oe
    have aX:=B1.wf
    have Wo: ¬256<=k:=by omega
    have ec:fj gs ts (m+1) k=if eK gs ts k ts[k]≠0 then ((gs.length:Int)+k,eK gs ts k ts[k]) else fj gs ts m (k+1):=by
        rw[fj,List.getElem?_eq_getElem h]
        simp only[Wo,if_false]
        rw[ahs]
        unfold eK okT uw
        rw[Tp h]
        cases Hp ts[k]<;>cases aD ts[k].a ts[k].b<;>cases UX ts[k] (mN ts k)<;>cases ku gs ts[k]<;>cases qM ts[k] (mN ts k)<;>simp
    have S9   :okT ts[k] (mN ts k)=true-> ∃s',aM s0 s'/\(eK gs ts k ts[k]=0->(fj gs ts m (k+1)).2=0->(∃JH,dh s0 s' bp mp gs ts gk JH)/\CZ ts)/\ ∃s2,c 171 [.ptr bp 0,.str ts[k].a,.str ts[k].b,.int .u8 ts[k].k] (ai s (.cells ts[k].cells 0))=some (.int .i64 (eK gs ts k ts[k]),s2)/\s2.heap.get rp=some (.cells [aT z gs,bH z2 ts] 0)/\
          (eK gs ts k ts[k]≠0->s'=s2)/\(eK gs ts k ts[k]=0->
            jH c F k1 k4 (m+1) [.ptr rp 0,.ptr bp 0,bH z2 ts,.int .i64 (ts.length:Int),.int .i64 ((k+1:Nat):Int)] s2=if (fj gs ts m (k+1)).2=0 then k4 [.ptr bp 0] s' else k1 [.dP,.int .i64 (fj gs ts m (k+1)).1,.int .i64 (fj gs ts m (k+1)).2] s'):=fun bu=>by
        have aaJ:=bu
        simp only[okT,Bool.and_eq_true,Bool.not_eq_true'] at aaJ
        obtain ⟨b2,b3⟩:=aaJ
        have ak1: ∀u,(ts.take k).getLast? =some u->dV ts[k] u=false:=fun u hu=>by
          rw[Tp h] at hu;rw[hu] at b3;exact b3
        obtain ⟨s2,a1,a2,a3⟩:=aj2 hc BX B1 (by simp;omega) ts[k] b2 hs ak1
        have et:eK gs ts k ts[k]=uw gs (ts.take k) ts[k]:=by unfold eK;rw[if_pos bu]
        rw[<-et] at a1 a2 a3
        by_cases h0:eK gs ts k ts[k]=0
        . obtain ⟨JH,B2⟩:=a3 h0
          have e1:ts.take k++[ts[k]]=ts.take (k+1):=(List.take_succ_eq_append_getElem h).symm
          rw[e1] at B2
          have hd:qM ts[k] (mN ts k)=false:=by
            rw[et,uw,Tp h] at h0
            cases hq:qM ts[k] (mN ts k)
            . rfl
            . rw[hq] at h0
              split at h0
              . simp at h0
              . split at h0<;>simp at h0
          have CU:=ahr h hs (fun u hu2=>by rw[hu2] at hd;simpa [qM] using hd)
          obtain ⟨s',g1,gB,g2⟩:=ih (k+1) s2 JH B2 CU (by omega) (by omega)
          exact ⟨s',g1,fun _=>gB,s2,a1,B2.keeps _ _ Oe,fun e=>absurd h0 e,fun _=>g2⟩
        . obtain rfl:=a2 h0
          exact ⟨_,B1.keeps,fun e=>absurd e h0,_,a1,dS,fun _=>rfl,fun e=>absurd e h0⟩
    rw[ec]
    cases bu:okT ts[k] (mN ts k)
    ·
        have e23:eK gs ts k ts[k]=23:=by unfold eK;rw[bu];rfl
        refine ⟨_,B1.keeps,fun e=>(by rw[e23,if_pos (by decide)] at e;cases e),?_⟩
        rw[tD,e23]
        cases q1:aD ts[k].a ts[k].b
        . simp[bH,h,q1,cm,dS,wg]
        . have q2:UX ts[k] (mN ts k)=true:=by simpa [okT,q1] using bu
          have uh: ¬k=0:=fun e=>by rw[mN,if_pos e] at q2;cases q2
          have pQ:k - 1<ts.length:=by omega
          have wk:ay .i64 ((k:Int) - 1)=((k - 1:Nat):Int):=by rw[wrap64 (by omega) (by omega)];omega
          have q3:dV ts[k] ts[k - 1]=true:=by rw[mN,if_neg uh,List.getElem?_eq_getElem pQ] at q2;exact q2
          have ho:=E4 hc ts[k - 1] ts[k] _ aX
          have AI: ¬pR ts[k - 1] ts[k]<=0:=by have:=QH.2 q3;omega
          simp[bH,h,q1,cm,dS,wg,uh,pQ,wk,ho,AI]
    .   obtain ⟨s',g1,gB,s2,t1,t2,t3,t4⟩:=S9 bu
        refine ⟨s',g1,fun e=>by
          by_cases he:eK gs ts k ts[k]=0
          . exact gB he (by rw[if_neg (by simp[he])] at e;exact e)
          . rw[if_pos he] at e;exact absurd e he,?_⟩
        rw[tD]
        have aaJ:=bu
        simp only[okT,Bool.and_eq_true,Bool.not_eq_true'] at aaJ
        obtain ⟨q1,q2⟩:=aaJ
        by_cases he:eK gs ts k ts[k]=0
        . have t4:=t4 he
          rw[he] at t1
          simp only[he,ne_eq,not_true,if_false]
          rw[<-t4]
          by_cases uh:k=0
          . have dk:decide ((k:Int)=0)=true:=decide_eq_true (by omega)
            have dk':decide (k=0)=true:=decide_eq_true uh
            clear uh
            simp[bH,h,q1,cm,dS,dk,dk',t1,w]
          . have pQ:k - 1<ts.length:=by omega
            have wk:ay .i64 ((k:Int) - 1)=((k - 1:Nat):Int):=by rw[wrap64 (by omega) (by omega)];omega
            have q3:dV ts[k] ts[k - 1]=false:=by rw[mN,if_neg uh,List.getElem?_eq_getElem pQ] at q2;exact q2
            have ho:=E4 hc ts[k - 1] ts[k] _ aX
            have AI:pR ts[k - 1] ts[k]<=0:=by
              have: ¬0<pR ts[k - 1] ts[k]:=fun e=>by rw[QH.1 e] at q3;cases q3
              omega
            simp[bH,h,q1,cm,dS,uh,pQ,wk,ho,AI,t1,w]
        . obtain rfl:=t3 he
          simp only[he,ne_eq,not_false_eq_true,if_true,if_false]
          by_cases uh:k=0
          . have dk:decide ((k:Int)=0)=true:=decide_eq_true (by omega)
            have dk':decide (k=0)=true:=decide_eq_true uh
            clear uh
            simp[bH,h,q1,cm,dS,dk,dk',t1,t2,wg,he]
          . have pQ:k - 1<ts.length:=by omega
            have wk:ay .i64 ((k:Int) - 1)=((k - 1:Nat):Int):=by rw[wrap64 (by omega) (by omega)];omega
            have q3:dV ts[k] ts[k - 1]=false:=by rw[mN,if_neg uh,List.getElem?_eq_getElem pQ] at q2;exact q2
            have ho:=E4 hc ts[k - 1] ts[k] _ aX
            have AI:pR ts[k - 1] ts[k]<=0:=by
              have: ¬0<pR ts[k - 1] ts[k]:=fun e=>by rw[QH.1 e] at q3;cases q3
              omega
            simp[bH,h,q1,cm,dS,uh,pQ,wk,ho,AI,t1,t2,wg,he]
  . obtain rfl:k=ts.length:=by omega
    refine ⟨s,B.keeps,fun _=>⟨⟨tk,by simpa using B⟩,by simpa using hs⟩,?_⟩
    rw[tD]
    have ec:fj gs ts (m+1) ts.length=(0,0):=by rw[fj,List.getElem?_eq_none (by omega)]
    simp[ec]
theorem JJ (hc:Sem c) (z z2:Bool) (gs:List aJ) (ts:List Ty) (hl:gs.length<=100) (jF:ts.length<=100) (s:St) (hw:Wf s):
   ∃v s',c 80 [.agg [aT z gs,bH z2 ts]] s=some (.tuple [v,.int .i64 (bI gs ts).1,.int .i64 (bI gs ts).2],s')/\aM s s'/\((bI gs ts).2=0-> ∃bp mp gk tk,v= .ptr bp 0/\dh (ai s (.cells [aT z gs,bH z2 ts] 0)) s' bp mp gs ts gk tk/\CZ ts):=by
 let s0:=ai s (.cells [aT z gs,bH z2 ts] 0)
 have BX:Wf s0:=aQ hw
 have k0:aM s s0:=aU hw
 have Oe:s0.heap.get s.next=some (.cells [aT z gs,bH z2 ts] 0):=aH _ _
 have S7:=ajZ hc s0
 have B:=dh.start BX
 have finish: ∀{v:AV} {s':St},zF c 102 (.agg [aT z gs,bH z2 ts]) s=some (.tuple [v,.int .i64 (bI gs ts).1,.int .i64 (bI gs ts).2],s')->aM s0 s'->((bI gs ts).2=0-> ∃bp mp gk tk,v= .ptr bp 0/\dh s0 s' bp mp gs ts gk tk/\CZ ts)->
     ∃v s',c 80 [.agg [aT z gs,bH z2 ts]] s=some (.tuple [v,.int .i64 (bI gs ts).1,.int .i64 (bI gs ts).2],s')/\aM s s'/\((bI gs ts).2=0-> ∃bp mp gk tk,v= .ptr bp 0/\dh s0 s' bp mp gs ts gk tk/\CZ ts):=fun {v s'} h hk hB=>by
   have h2:=Wr hc 102 h
   unfold tidy at h2
   split at h2
   . rename_i hp
     exact ⟨v,s,h2,aM.refl s,fun e=>by
        obtain ⟨bp,mp,gk,tk,rfl,_⟩:=hB e
        exact absurd hp.1 My⟩
   . exact ⟨v,s',h2,k0.trans hk,hB⟩
 obtain ⟨s1,g1,g2⟩:=aiW hc BX z gs hl (ai s0 (.map [] 0)).next s0.next s.next 102 (fun vs s30=>cQ vs fun x2 vs=>cQ vs fun x3 vs=>cQ vs fun x4 vs=>eT vs (some (.tuple [x2,x3,x4],s30))) (fun vs s31=>cQ vs fun x1 vs=>cQ vs fun x5 vs=>eT vs (
   aj c (.fieldA 1) [x1] s31 fun x29 s32=>aj c (.load none) [x29] s32 fun MC s33=>aj c (.lenB .l) [MC] s33 fun x31 UO=>aj c .move [(.int .i64 0)] UO fun x32 UP=>
   jH c 102 (fun vs s80=>cQ vs fun x2 vs=>cQ vs fun x3 vs=>cQ vs fun x4 vs=>eT vs (some (.tuple [x2,x3,x4],s80))) (fun vs s81=>cQ vs fun x5 vs=>eT vs (
     aj c .move [x5] s81 fun x74 s82=>aj c .move [x74] s82 fun x2 s83=>aj c .move [(.int .i64 0)] s83 fun x3 s84=>aj c .move [(.int .i64 0)] s84 fun x4 s85=>some (.tuple [x2,x3,x4],s85))) 102 [x1,x5,MC,x31,x32] UP)) 101 0 _ none B (by omega) (by omega) (by omega)
 have afq: ∀r,iF c 102 (fun vs s30=>cQ vs fun x2 vs=>cQ vs fun x3 vs=>cQ vs fun x4 vs=>eT vs (some (.tuple [x2,x3,x4],s30))) (fun vs s31=>cQ vs fun x1 vs=>cQ vs fun x5 vs=>eT vs (
   aj c (.fieldA 1) [x1] s31 fun x29 s32=>aj c (.load none) [x29] s32 fun MC s33=>aj c (.lenB .l) [MC] s33 fun x31 UO=>aj c .move [(.int .i64 0)] UO fun x32 UP=>
   jH c 102 (fun vs s80=>cQ vs fun x2 vs=>cQ vs fun x3 vs=>cQ vs fun x4 vs=>eT vs (some (.tuple [x2,x3,x4],s80))) (fun vs s81=>cQ vs fun x5 vs=>eT vs (
     aj c .move [x5] s81 fun x74 s82=>aj c .move [x74] s82 fun x2 s83=>aj c .move [(.int .i64 0)] s83 fun x3 s84=>aj c .move [(.int .i64 0)] s84 fun x4 s85=>some (.tuple [x2,x3,x4],s85))) 102 [x1,x5,MC,x31,x32] UP)) 102 [.ptr s.next 0,.ptr (ai s0 (.map [] 0)).next 0,aT z gs,.int .i64 (gs.length:Int),.int .i64 ((0:Nat):Int)] (ai (ai s0 (.map [] 0)) (.cells [.ah,.ah,.map s0.next] 0))=r->zF c 102 (.agg [aT z gs,bH z2 ts]) s=r:=fun r h=>by
   rw[<-h,aaK]
   have hb:=(B.keeps _ _ Oe)
   simp only[nR,OG,aY,kB]
   show Tg (c 168 [] s0) _=_
   rw[S7]
   simp only[iU,eY,gM,hb,bR,Option.bind_some,List.getElem?_cons_zero,Nat.zero_add,fo,ahd]
   rfl
 rcases g2 with ⟨q1,⟨MB,B2⟩,q3⟩|⟨q1,q3⟩
 . have e:bI gs ts=fj gs ts 101 0:=by rw[bI,if_neg (by simp[q1])]
   obtain ⟨s2,r1,rB,r2⟩:=aiX hc BX z z2 gs ts hl jF (ai s0 (.map [] 0)).next s0.next s.next Oe MB 102 (fun vs s80=>cQ vs fun x2 vs=>cQ vs fun x3 vs=>cQ vs fun x4 vs=>eT vs (some (.tuple [x2,x3,x4],s80))) (fun vs s81=>cQ vs fun x5 vs=>eT vs (
     aj c .move [x5] s81 fun x74 s82=>aj c .move [x74] s82 fun x2 s83=>aj c .move [(.int .i64 0)] s83 fun x3 s84=>aj c .move [(.int .i64 0)] s84 fun x4 s85=>some (.tuple [x2,x3,x4],s85))) 101 0 s1 none (by simpa using B2) (by intro i j hj;simp at hj) (by omega) (by omega)
   have cJ:s1.heap.get s.next=some (.cells [aT z gs,bH z2 ts] 0):=B2.keeps _ _ Oe
   have hL:=afq _ q3
   simp only[ez,fy,eY,gM,cJ,bR,Option.bind_some,List.getElem?_cons_succ,List.getElem?_cons_zero,Nat.zero_add,fo,ahe,aY] at hL
   have r2':=r2
   rw[show (((0:Nat):Int))=0 from rfl] at r2'
   simp only[aY,Nat.reduceAdd] at r2'
   rw[r2'] at hL
   rw[e] at finish ⊢
   by_cases h2:(fj gs ts 101 0).2=0
   . have h3:=LA gs ts 101 0 h2
     rw[if_pos h2] at hL
     simp only[ez,fy] at hL
     exact finish (by rw[h2,h3];exact hL) r1 (fun e=>by
        obtain ⟨⟨JH,B3⟩,hs⟩:=rB e
        exact ⟨_,_,_,_,rfl,B3,hs⟩)
   . rw[if_neg h2] at hL
     simp only[ez,fy] at hL
     exact finish hL r1 (fun e=>absurd e h2)
 . have e:bI gs ts=ia gs 101 0:=by rw[bI,if_pos q1]
   have hL:=afq _ q3
   simp only[ez,fy] at hL
   rw[e] at finish ⊢
   exact finish hL g1 (fun e=>absurd e q1)
end
section
set_option maxRecDepth 100000
open Go Go.Ai Go.Proofs
variable {c : ak}
theorem aaL (hc:Sem c) (z z2:Bool) (gs:List aJ) (ts:List Ty) (hl:gs.length<=100) (jF:ts.length<=100) (s:St) (hw:Wf s):c 131 [.agg [aT z gs,bH z2 ts]] s=some (.tuple [.int .i64 (bI gs ts).1,.int .i64 (bI gs ts).2],s):=by
 have BX:Wf (ai s (.cells [aT z gs,bH z2 ts] 0)):=aQ hw
 obtain ⟨v,s',h1,h2,_⟩:=JJ hc z z2 gs ts hl jF _ BX
 have Zv:cut [aT z gs,bH z2 ts] 0 2=some [aT z gs,bH z2 ts]:=cD rfl
 rw[Nx hc 1 (r:=(.tuple [.int .i64 (bI gs ts).1,.int .i64 (bI gs ts).2],s')),au (Plain.tuple (by simp[Plain.int])) ((aU hw).trans h2)]
 rw[Re]
 simp[Zv,h1]
end
section
set_option maxRecDepth 100000
open Go Go.Ai Go.Proofs
variable {c : ak}
structure Rl where
 k:Int
 wt:Int
 a:List Nat
 b:List Nat
 t:List Nat
 n:Int
def Rl.cells (r:Rl):List AV:=[.int .u8 r.k,.int .i64 r.wt,.str r.a,.str r.b,.str r.t,.int .i64 r.n]
@[simp] theorem Rl.c0 (t:Rl):t.cells[0]? =some (.int .u8 t.k):=id rfl
@[simp] theorem Rl.c1 (t:Rl):t.cells[1]? =some (.int .i64 t.wt):=id rfl
@[simp] theorem Rl.c2 (t:Rl):t.cells[2]? =some (.str t.a):=id rfl
@[simp] theorem Rl.c3 (t:Rl):t.cells[3]? =some (.str t.b):=id rfl
@[simp] theorem Rl.c4 (t:Rl):t.cells[4]? =some (.str t.t):=id rfl
@[simp] theorem Rl.c5 (t:Rl):t.cells[5]? =some (.int .i64 t.n):=id rfl
@[simp] theorem Rl.cc (t:Rl):cut t.cells 0 6=some t.cells:=cD rfl
@[simp] theorem Rl.one (t:Rl):aK t.cells=true:=id rfl
def dG (z:Bool) (rs:List Rl):AV:=ro 6 z (rs.map Rl.cells)
@[simp] theorem alT {R:Type} (c:ak) (K:AV->St->Option R) (st:St) (z:Bool) (l:List Rl):aj c (.lenB .l) [dG z l] st K=K (.int .i64 (l.length:Int)) st:=by unfold dG;rw[bV];simp
@[simp] theorem ak2 {R:Type} (c:ak) (K:AV->St->Option R) (st:St) (z:Bool) (l:List az):aj c (.lenB .l) [tabs z l] st K=K (.int .i64 (l.length:Int)) st:=by unfold tabs;rw[bV];simp
structure aZ where
 tz:Bool
 ts:List az
 gz:Bool
 gs:List aJ
 yz:Bool
 ys:List Ty
 cz:Bool
 cs:List Int
 rz:Bool
 rs:List Rl
def aZ.cells (p:aZ):List AV:=[tabs p.tz p.ts,aT p.gz p.gs,bH p.yz p.ys,ints p.cz p.cs,dG p.rz p.rs]
@[simp] theorem aZ.c0 (p:aZ):p.cells[0]? =some (tabs p.tz p.ts):=id rfl
@[simp] theorem aZ.c1 (p:aZ):p.cells[1]? =some (aT p.gz p.gs):=id rfl
@[simp] theorem aZ.c2 (p:aZ):p.cells[2]? =some (bH p.yz p.ys):=id rfl
@[simp] theorem aZ.c3 (p:aZ):p.cells[3]? =some (ints p.cz p.cs):=id rfl
@[simp] theorem aZ.c4 (p:aZ):p.cells[4]? =some (dG p.rz p.rs):=id rfl
@[simp] theorem aZ.cc (p:aZ):cut p.cells 0 5=some p.cells:=cD rfl
structure aZ.lq (p:aZ):Prop where
 ts:p.ts.length<=100
 gs:p.gs.length<=100
 ys:p.ys.length<=100
 cs:p.cs.length<=100
 rs:p.rs.length<=100
 ok: ∀t∈p.ts,t.Ok
def lX (l:List Int):Bool:=l.all fun c=>decide (0<=c)&&decide (c<64)
def e9 (p:aZ):Int×Int:=
 if (bh p.ts).2≠0 then bh p.ts else if (bI p.gs p.ys).2≠0 then bI p.gs p.ys
 else if p.cs.length≠0/\p.cs.length≠p.gs.length then (0,44) else if lX p.cs=false then (0,44)
 else if bw p.ts<p.gs.length then (0,45) else (0,0)
theorem ab0 {p:aZ} (h:(e9 p).2=0):(e9 p).1=0:=by
 unfold e9 at h ⊢
 by_cases h1:(bh p.ts).2≠0
 . rw[if_pos h1] at h;exact absurd h h1
 rw[if_neg h1] at h ⊢
 by_cases h2:(bI p.gs p.ys).2≠0
 . rw[if_pos h2] at h;exact absurd h h2
 rw[if_neg h2]
 repeat' split
 all_goals rfl
theorem ad5 (p:aZ) (hp:p.lq) (q:Pos) (F:Nat) (s:St) (k1 k2): ∀(m k:Nat),p.cs.length<=k+m->k<=p.cs.length->
  nU c F k1 k2 (m+1) [.ptr q 0,ints p.cz p.cs,.int .i64 (p.cs.length:Int),.int .i64 (k:Int)] s=if lX (p.cs.drop k)=true then k2 [.ptr q 0] s else k1 [.int .i64 0,.int .i64 44] s:=by
 have hl:=hp.cs
 intro m
 induction m with
 |zero=>
  intro k h1 h2
  obtain rfl:k=p.cs.length:=by omega
  rw[Hr]
  simp[lX]
 |succ m ih=>
  intro k h1 h2
  rw[Hr]
  by_cases h:k<p.cs.length
  . have e:p.cs.drop k=p.cs[k]::p.cs.drop (k+1):=List.drop_eq_getElem_cons h
    have w:ay .i64 ((k:Int)+1)=((k+1:Nat):Int):=wrap64 (by omega) (by omega)
    have:=ih (k+1) (by omega) (by omega)
    have ec:lX (p.cs.drop k)=((decide (0<=p.cs[k])&&decide (p.cs[k]<64))&&lX (p.cs.drop (k+1))):=by rw[e];rfl
    rw[ec]
    generalize lX (p.cs.drop (k+1))=rest at this ⊢
    by_cases h3:p.cs[k]<0
    .   have h4:(decide (0<=p.cs[k])&&decide (p.cs[k]<64))=false:=by simp;omega
        rw[h4];simp[ints,h,h3]
    .   by_cases h5:64<=p.cs[k]
        . have h4:(decide (0<=p.cs[k])&&decide (p.cs[k]<64))=false:=by simp;omega
          rw[h4];simp[ints,h,h3,h5]
        . have h4:(decide (0<=p.cs[k])&&decide (p.cs[k]<64))=true:=by simp;omega
          rw[h4,Bool.true_and, <-this]
          simp[ints,h,h3,h5,w]
  . obtain rfl:k=p.cs.length:=by omega
    simp[lX]
theorem Yo (p:aZ) (hp:p.lq) (q:Pos) (F:Nat) (s:St) (hq:s.heap.get q=some (.cells p.cells 0)) (k1 k2): ∀(m k:Nat),p.cs.length<=k+m->k<=p.cs.length->
  fZ c F k1 k2 (m+1) [.ptr q 0,.int .i64 (k:Int)] s=if lX (p.cs.drop k)=true then k2 [.ptr q 0] s else k1 [.int .i64 0,.int .i64 44] s:=by
 have hl:=hp.cs
 intro m
 induction m with
 |zero=>
  intro k h1 h2
  obtain rfl:k=p.cs.length:=by omega
  rw[vz]
  simp[lX,hq]
 |succ m ih=>
  intro k h1 h2
  rw[vz]
  by_cases h:k<p.cs.length
  . have e:p.cs.drop k=p.cs[k]::p.cs.drop (k+1):=List.drop_eq_getElem_cons h
    have w:ay .i64 ((k:Int)+1)=((k+1:Nat):Int):=wrap64 (by omega) (by omega)
    have:=ih (k+1) (by omega) (by omega)
    have ec:lX (p.cs.drop k)=((decide (0<=p.cs[k])&&decide (p.cs[k]<64))&&lX (p.cs.drop (k+1))):=by rw[e];rfl
    rw[ec]
    generalize lX (p.cs.drop (k+1))=rest at this ⊢
    by_cases h3:p.cs[k]<0
    .   have h4:(decide (0<=p.cs[k])&&decide (p.cs[k]<64))=false:=by simp;omega
        rw[h4];simp[hq,ints,h,h3]
    .   by_cases h5:64<=p.cs[k]
        . have h4:(decide (0<=p.cs[k])&&decide (p.cs[k]<64))=false:=by simp;omega
          rw[h4];simp[hq,ints,h,h3,h5]
        . have h4:(decide (0<=p.cs[k])&&decide (p.cs[k]<64))=true:=by simp;omega
          rw[h4,Bool.true_and, <-this]
          simp[hq,ints,h,h3,h5,w]
  . obtain rfl:k=p.cs.length:=by omega
    simp[lX,hq]
theorem Yp (hc:Sem c) (z:Bool) (ts:List az) (hl:ts.length<=100) (F:Nat) (s:St) (hw:Wf s) (k2): ∀(m k:Nat),ts.length<=k+m->k<=ts.length->
  gh c F k2 (m+1) [tabs z ts,.int .i64 (ts.length:Int),.int .i64 (bw (ts.take k)),.int .i64 (k:Int)] s=k2 [.int .i64 (bw ts)] s:=by
 intro m
 induction m with
 |zero=>
  intro k h1 h2
  obtain rfl:k=ts.length:=by omega
  rw[vA]
  simp
 |succ m ih=>
  intro k h1 h2
  rw[vA]
  by_cases h:k<ts.length
  . have w:ay .i64 ((k:Int)+1)=((k+1:Nat):Int):=wrap64 (by omega) (by omega)
    have hs:=Lq hc ts[k] s hw
    have e:bw (ts.take (k+1))=bw (ts.take k)+bl ts[k]:=by
        rw[List.take_succ_eq_append_getElem h,D7]
    have b1:=EZ (ts.take k)
    have b2:=pP ts[k]
    have b3:(ts.take k).length<=100:=by simp;omega
    have w2:ay .i64 (bw (ts.take k)+bl ts[k])=bw (ts.take (k+1)):=by rw[e];exact wrap64 (by omega) (by omega)
    rw[<-ih (k+1) (by omega) (by omega)]
    simp[tabs,h,hs,w,w2]
  . obtain rfl:k=ts.length:=by omega
    simp
theorem ab1 (hc:Sem c) (z:Bool) (ts:List az) (hl:ts.length<=100) (s:St) (hw:Wf s):c 180 [tabs z ts] s=some (.int .i64 (bw ts),s):=by
 have hF:c 119 [tabs z ts,.int .i64 (ts.length:Int)] s=some (.int .i64 (bw ts),s):=by
  rw[Ir hc 101 (r:=(.int .i64 (bw ts),s)),au (Plain.int _ _) (aM.refl s)]
  rw[LF]
  have L: ∀k2,gh c 101 k2 101 [tabs z ts,.int .i64 (ts.length:Int),.int .i64 0,.int .i64 0] s=k2 [.int .i64 (bw ts)] s:=fun k2=>by
   have:=Yp hc z ts hl 101 s hw k2 100 0 (by omega) (by omega)
   simpa [bw] using this
  simp[L]
 rw[It hc 1 (r:=(.int .i64 (bw ts),s)),au (Plain.int _ _) (aM.refl s)]
 rw[LG]
 simp[hF]
theorem zG {d:Nat} (z:Bool) (l:List Int):cC (d+1) (ints z l):=cC.ro fun r hr v hv=>by
 simp only[List.mem_map] at hr
 obtain ⟨i,_,rfl⟩:=hr
 simp only[List.mem_singleton] at hv;subst hv;exact cC.int _ _
theorem ad6 {d:Nat} (z:Bool) (l:List (List Nat)):cC (d+1) (cR z l):=cC.ro fun r hr v hv=>by
 simp only[List.mem_map] at hr
 obtain ⟨i,_,rfl⟩:=hr
 simp only[List.mem_singleton] at hv;subst hv;exact cC.str _
theorem Ea (z:Bool) (l:List aJ):cC 3 (aT z l):=cC.ro fun r hr v hv=>by
 simp only[List.mem_map] at hr
 obtain ⟨g,_,rfl⟩:=hr
 simp only[aJ.cells,List.mem_cons,List.not_mem_nil,or_false] at hv
 rcases hv with rfl|rfl|rfl|rfl|rfl|rfl|rfl|rfl|rfl<;>first|exact cC.str _|exact cC.int _ _|exact cC.bool _|exact ad6 _ _
theorem ad7 (z:Bool) (l:List az):cC 3 (tabs z l):=cC.ro fun r hr v hv=>by
 simp only[List.mem_map] at hr
 obtain ⟨g,_,rfl⟩:=hr
 simp only[az.cells,List.mem_cons,List.not_mem_nil,or_false] at hv
 rcases hv with rfl|rfl|rfl|rfl|rfl|rfl|rfl<;>first|exact cC.str _|exact cC.int _ _|exact cC.bool _|exact zG _ _
theorem OJ (z:Bool) (l:List Rl):cC 3 (dG z l):=cC.ro fun r hr v hv=>by
 simp only[List.mem_map] at hr
 obtain ⟨g,_,rfl⟩:=hr
 simp only[Rl.cells,List.mem_cons,List.not_mem_nil,or_false] at hv
 rcases hv with rfl|rfl|rfl|rfl|rfl|rfl<;>first|exact cC.str _|exact cC.int _ _|exact cC.bool _
theorem gx (z z2:Bool) (gs:List aJ) (ts:List Ty):bJ [.ah,.ah] [(0,1),(1,1)] [aT z gs,bH z2 ts]=some [aT z gs,bH z2 ts]:=by
 have e1:(aT z gs).cells=[aT z gs]:=Z8 _ _ _
 have e2:(bH z2 ts).cells=[bH z2 ts]:=Z8 _ _ _
 unfold bJ;rw[e1]
 show bJ [aT z gs,.ah] [(1,1)] [bH z2 ts]=_
 unfold bJ;rw[e2];rfl
def E5 (c:ak) (p:aZ):Prop:=(∀st,Wf st->c 131 [.agg [aT p.gz p.gs,bH p.yz p.ys]] st=some (.tuple [.int .i64 (bI p.gs p.ys).1,.int .i64 (bI p.gs p.ys).2],st))/\
 ∀st,Wf st->c 179 [.agg [aT p.gz p.gs,bH p.yz p.ys]] st=some (.tuple [.int .i64 (bI p.gs p.ys).1,.int .i64 (bI p.gs p.ys).2],st)
theorem aht (hc:Sem c) (p:aZ) (hp:p.lq) (hR:E5 c p) (st:St) (hw:Wf st):c 66 [.agg p.cells] st=some (.tuple [.int .i64 (e9 p).1,.int .i64 (e9 p).2],st):=by
 have aX:Wf (ai st (.cells p.cells 0)):=aQ hw
 have Hq:=Grew.ai hw (.cells p.cells 0)
 have dS:(ai st (.cells p.cells 0)).heap.get st.next=some (.cells p.cells 0):=aH _ _
 have A:=R8 hc p.tz p.ts hp.ok _ aX
 have B:=hR.1 _ aX
 have D:=Bp hc p.tz p.ts hp.ok _ aX
 have L: ∀k1 k2,nU c 101 k1 k2 101 [.ptr st.next 0,ints p.cz p.cs,.int .i64 (p.cs.length:Int),.int .i64 0] (ai st (.cells p.cells 0))=if lX p.cs=true then k2 [.ptr st.next 0] (ai st (.cells p.cells 0)) else k1 [.int .i64 0,.int .i64 44] (ai st (.cells p.cells 0)):=
   fun k1 k2=>ad5 (c:=c) p hp st.next 101 (ai st (.cells p.cells 0)) k1 k2 100 0 (by have:=hp.cs;omega) (by omega)
 have yq:=fun (K:AV->Option (AV×St))=>kT K (p:=st.next) (o:=1) (h:=(ai st (.cells p.cells 0)).heap) (h2:=(ai st (.cells p.cells 0)).heap) (v:=aT p.gz p.gs) (by rw[dS];rfl) (by rw[dS];rfl) (qE (Ea _ _))
 rw[Ws hc 101 (r:=(.tuple [.int .i64 (e9 p).1,.int .i64 (e9 p).2],ai st (.cells p.cells 0))),au (Plain.tuple (by simp[Plain.int])) Hq.keeps]
 rw[aaM]
 unfold e9
 by_cases h1:(bh p.ts).2=0
 . by_cases h2:(bI p.gs p.ys).2=0
   . simp only[h1,if_true] at D
     by_cases h3:p.cs.length=0
     .  have h4:p.cs=[]:=by simpa using h3
        have L1:lX p.cs=true:=by rw[h4];rfl
        have e0:((p.cs.length:Nat):Int)=0:=by omega
        simp only[L1,if_true,e0] at L
        by_cases h6:bw p.ts<p.gs.length
        . simp[gx,h1,h2,h3,A,B,D,dS,L1,L,yq,h6]
        . simp[gx,h1,h2,h3,A,B,D,dS,L1,L,yq,h6]
     .  by_cases h4:p.cs.length=p.gs.length
        . cases h5:lX p.cs with
          | false=>
            simp only[h5,Bool.false_eq_true,if_false,h4] at L
            have h7:0<p.cs.length:=by omega
            have h8:0<p.gs.length:=by omega
            simp[gx,h1,h2,h3,h4,h5,h7,h8,A,B,dS,L]
          | true=>
            simp only[h5,if_true,h4] at L
            have h7:0<p.cs.length:=by omega
            have h8:0<p.gs.length:=by omega
            by_cases h6:bw p.ts<p.gs.length
            . simp[gx,h1,h2,h3,h4,h5,h7,h8,A,B,D,dS,L,yq,h6]
            . simp[gx,h1,h2,h3,h4,h5,h7,h8,A,B,D,dS,L,yq,h6]
        . have h7:0<p.cs.length:=by omega
          have h4i: ¬((p.cs.length:Int)=(p.gs.length:Int)):=by omega
          simp[gx,h1,h2,h3,h4,h4i,h7,A,B,dS]
   . simp[gx,h1,h2,A,B,dS]
 . simp[h1,A,dS]
theorem ab2 (hc:Sem c) (p:aZ) (hp:p.lq) (hR:E5 c p) (st:St) (hw:Wf st):c 83 [.agg p.cells] st=some (.tuple [.int .i64 (e9 p).1,.int .i64 (e9 p).2],st):=by
 have aX:Wf (ai st (.cells p.cells 0)):=aQ hw
 have Hq:=Grew.ai hw (.cells p.cells 0)
 have dS:(ai st (.cells p.cells 0)).heap.get st.next=some (.cells p.cells 0):=aH _ _
 have A:=Wi hc p.tz p.ts hp.ok _ aX
 have B:=hR.2 _ aX
 have D:=ab1 hc p.tz p.ts hp.ts _ aX
 have L: ∀k1 k2,fZ c 101 k1 k2 101 [.ptr st.next 0,.int .i64 0] (ai st (.cells p.cells 0))=if lX p.cs=true then k2 [.ptr st.next 0] (ai st (.cells p.cells 0)) else k1 [.int .i64 0,.int .i64 44] (ai st (.cells p.cells 0)):=
   fun k1 k2=>Yo (c:=c) p hp st.next 101 (ai st (.cells p.cells 0)) dS k1 k2 100 0 (by have:=hp.cs;omega) (by omega)
 have yq:=fun (K:AV->Option (AV×St))=>kT K (p:=st.next) (o:=1) (h:=(ai st (.cells p.cells 0)).heap) (h2:=(ai st (.cells p.cells 0)).heap) (v:=aT p.gz p.gs) (by rw[dS];rfl) (by rw[dS];rfl) (qE (Ea _ _))
 rw[Iu hc 101 (r:=(.tuple [.int .i64 (e9 p).1,.int .i64 (e9 p).2],ai st (.cells p.cells 0))),au (Plain.tuple (by simp[Plain.int])) Hq.keeps]
 rw[LI]
 unfold e9
 by_cases h1:(bh p.ts).2=0
 . by_cases h2:(bI p.gs p.ys).2=0
   . by_cases h3:p.cs.length=0
     .  have h4:p.cs=[]:=by simpa using h3
        have L1:lX p.cs=true:=by rw[h4];rfl
        simp only[L1,if_true] at L
        by_cases h6:bw p.ts<p.gs.length
        . simp[gx,h1,h2,h3,A,B,D,dS,L1,L,yq,h6]
        . simp[gx,h1,h2,h3,A,B,D,dS,L1,L,yq,h6]
     .  by_cases h4:p.cs.length=p.gs.length
        . cases h5:lX p.cs with
          | false=>
            simp only[h5,Bool.false_eq_true,if_false] at L
            have h7:0<p.cs.length:=by omega
            have h8:0<p.gs.length:=by omega
            have h9: ¬p.gs=[]:=by intro e;rw[e] at h8;simp at h8
            have CV: ¬p.cs=[]:=by intro e;rw[e] at h7;simp at h7
            simp[gx,h1,h2,h3,h4,h5,h7,h8,h9,CV,A,B,dS,L]
          | true=>
            simp only[h5,if_true] at L
            have h7:0<p.cs.length:=by omega
            have h8:0<p.gs.length:=by omega
            have h9: ¬p.gs=[]:=by intro e;rw[e] at h8;simp at h8
            have CV: ¬p.cs=[]:=by intro e;rw[e] at h7;simp at h7
            by_cases h6:bw p.ts<p.gs.length
            . simp[gx,h1,h2,h3,h4,h5,h7,h8,h9,CV,A,B,D,dS,L,yq,h6]
            . simp[gx,h1,h2,h3,h4,h5,h7,h8,h9,CV,A,B,D,dS,L,yq,h6]
        . have h7:0<p.cs.length:=by omega
          have h4i: ¬((p.cs.length:Int)=(p.gs.length:Int)):=by omega
          have CV: ¬p.cs=[]:=by intro e;rw[e] at h7;simp at h7
          simp[gx,h1,h2,h3,h4,h4i,h7,CV,A,B,dS]
   . simp[gx,h1,h2,A,B,dS]
 . simp[h1,A,dS]
end
section
set_option maxRecDepth 100000
open Go Go.Ai Go.Proofs
variable {c : ak}
theorem QJ (hc:Sem c) {p:aZ} (hp:p.lq):E5 c p:=⟨fun st hw=>aaL hc p.gz p.yz p.gs p.ys hp.gs hp.ys st hw,fun st hw=>adY hc p.gz p.yz p.gs p.ys hp.gs hp.ys st hw⟩
end
section
set_option maxRecDepth 100000
open Go Go.Ai Go.Proofs
variable {c : ak}
theorem afr (z:Bool) (rs:List (List AV)) (hl:rs.length<cO) (ei: ∀cs∈rs,cs.length=9) (g:Nat) (v:List AV) (P:Nat->Bool) (st:St) (F:Nat) (k1 k2)
  (hP: ∀i (h:i<rs.length),c g (.agg rs[i]::v) st=some (.bool (P i),st)): ∀(m k:Nat),rs.length<=k+m->k<=rs.length->
  bT c F k1 k2 (m+1) [ro 9 z rs,.func g [] v,.int .i64 (rs.length:Int),.int .i64 (k:Int)] st=if 0<=scan P (rs.length - k) k then k1 [.int .i64 (scan P (rs.length - k) k)] st else k2 [] st:=by
 intro m
 induction m with
 |zero=>
  intro k h1 h2
  obtain rfl:k=rs.length:=by omega
  rw[ji]
  simp[scan]
 |succ m ih=>
  intro k h1 h2
  rw[ji]
  by_cases h:k<rs.length
  . have e:rs.length - k=(rs.length - (k+1))+1:=by omega
    have w:ay .i64 ((k:Int)+1)=((k+1:Nat):Int):=wrap64 (by omega) (by unfold cO at hl;omega)
    have hcut:cut rs[k] 0 9=some rs[k]:=cD (ei _ (List.getElem_mem h))
    have hp:=hP k h
    rw[e,scan]
    cases hb:P k
    .   simp only[Bool.false_eq_true,if_false]
        rw[<-ih (k+1) (by omega) (by omega)]
        simp[h,hcut,hp,hb,w]
    .   simp[h,hcut,hp,hb]
  . obtain rfl:k=rs.length:=by omega
    simp[scan]
theorem aiY (hc:Sem c) (z:Bool) (rs:List (List AV)) (hl:rs.length<cO) (ei: ∀cs∈rs,cs.length=9) (g:Nat) (v:List AV) (P:Nat->Bool) (st:St)
   (hP: ∀i (h:i<rs.length),c g (.agg rs[i]::v) st=some (.bool (P i),st)):c 242 [ro 9 z rs,.func g [] v] st=some (.int .i64 (scan P rs.length 0),st):=by
 rw[qQ hc (rs.length+1) (r:=(.int .i64 (scan P rs.length 0),st)),au (Plain.int _ _) (aM.refl st)]
 rw[sL]
 have L: ∀k1 k2,bT c (rs.length+1) k1 k2 (rs.length+1) [ro 9 z rs,.func g [] v,.int .i64 (rs.length:Int),.int .i64 0] st=if 0<=scan P (rs.length - 0) 0 then k1 [.int .i64 (scan P (rs.length - 0) 0)] st else k2 [] st:=
   fun k1 k2=>afr z rs hl ei g v P st _ k1 k2 hP rs.length 0 (by omega) (by omega)
 rw[Nat.sub_zero] at L
 by_cases h:0<=scan P rs.length 0
 . simp[L,h]
 . have:=(JD P rs.length 0).2 (by omega)
   simp[L,this]
theorem aiZ (hc:Sem c) (g:aJ) (s:List Nat) (p:Pos) (st:St) (hw:Wf st) (hp:st.heap.get p=some (.cells [.str s] 0)):c 243 [.agg g.cells,.ptr p 0] st=some (.bool (decide (g.name=s)),st):=by
 rw[Wt hc 1 (r:=(.bool (decide (g.name=s)),ai st (.cells g.cells 0))),au (Plain.bool _) (aU hw)]
 rw[aaN]
 have:(ai st (.cells g.cells 0)).heap.get p=some (.cells [.str s] 0):=aU hw _ _ hp
 simp[this]
theorem aj3 (hc:Sem c) (p:aZ) (hp:p.lq) (s:List Nat) (st:St) (hw:Wf st):c 151 [.agg p.cells,.str s] st=some (.int .i64 (scan (ir p.gs s) p.gs.length 0),st):=by
 have aX:Wf (ai st (.cells p.cells 0)):=aQ hw
 have eP:=aQ (b:= .cells [.str s] 0) aX
 have hg:=(Grew.ai hw (.cells p.cells 0)).trans (Grew.ai aX (.cells [.str s] 0))
 have dS:(ai (ai st (.cells p.cells 0)) (.cells [.str s] 0)).heap.get st.next=some (.cells p.cells 0):=by
  have:=aH st (.cells p.cells 0)
  exact (Grew.ai aX (.cells [.str s] 0)).get this
 have hi:=aiY hc p.gz (p.gs.map aJ.cells) (by have:=hp.gs;simp;unfold cO;omega) (fun cs fh=>by
   simp only[List.mem_map] at fh
   obtain ⟨t,_,rfl⟩:=fh;rfl) 243 [.ptr (ai st (.cells p.cells 0)).next 0] (ir p.gs s) (ai (ai st (.cells p.cells 0)) (.cells [.str s] 0)) (fun i hi=>by
   have UN:i<p.gs.length:=by simpa using hi
   have:=aiZ hc p.gs[i] s (ai st (.cells p.cells 0)).next _ eP (aH _ _)
   simp only[List.getElem_map]
   rw[this]
   simp[ir,UN])
 rw[List.length_map] at hi
 rw[aaO hc 1 (r:=(.int .i64 (scan (ir p.gs s) p.gs.length 0),ai (ai st (.cells p.cells 0)) (.cells [.str s] 0))),au (Plain.int _ _) hg.keeps]
 rw[ad8]
 have e:(AV.str s).cells=[.str s]:=rfl
 simp[e,hi,dS,aT]
structure Kd where
 w:List Nat
 a:Int
 b:Bool
 t:Int
 n:Bool
 lo:Int
 sM:Bool
 f:AV
def Kd.cells (k:Kd):List AV:=[.str k.w,.int .u8 k.a,.bool k.b,.int .u8 k.t,.bool k.n,.int .i64 k.lo,.bool k.sM,k.f]
@[simp] theorem Kd.c0 (t:Kd):t.cells[0]? =some (.str t.w):=id rfl
@[simp] theorem Kd.c1 (t:Kd):t.cells[1]? =some (.int .u8 t.a):=id rfl
@[simp] theorem Kd.c2 (t:Kd):t.cells[2]? =some (.bool t.b):=id rfl
@[simp] theorem Kd.c3 (t:Kd):t.cells[3]? =some (.int .u8 t.t):=id rfl
@[simp] theorem Kd.c4 (t:Kd):t.cells[4]? =some (.bool t.n):=id rfl
@[simp] theorem Kd.c5 (t:Kd):t.cells[5]? =some (.int .i64 t.lo):=id rfl
@[simp] theorem Kd.c6 (t:Kd):t.cells[6]? =some (.bool t.sM):=id rfl
@[simp] theorem Kd.cc (t:Kd):cut t.cells 0 8=some t.cells:=cD rfl
def B5 (k:Kd) (r:Rl):Bool:=(decide (k.a≠0)||decide (r.a=[]))&&(k.b||decide (r.b=[]))&&(decide (k.t≠0)||decide (r.t=[]))&&(k.n||decide (r.n=0))
theorem ahu (hc:Sem c) (k:Kd) (r:Rl) (st:St) (hw:Wf st):c 150 [.agg k.cells,.agg r.cells] st=some (.bool (B5 k r),st):=by
 have aX:Wf (ai st (.cells k.cells 0)):=aQ hw
 have yp:=Grew.ai aX (.cells r.cells 0)
 have hg:=(Grew.ai hw (.cells k.cells 0)).trans yp
 have p1:=yp.get (aH st (.cells k.cells 0))
 have p2:=aH (ai st (.cells k.cells 0)) (.cells r.cells 0)
 rw[Ny hc 1 (r:=(.bool (B5 k r),ai (ai st (.cells k.cells 0)) (.cells r.cells 0))),au (Plain.bool _) hg.keeps]
 rw[Rf]
 unfold B5
 by_cases h0:k.a=0
 rotate_left
 . cases  h2:k.b with
   |true=>
    by_cases h4:k.t=0
    rotate_left
    .   cases h6:k.n with
        | true=>
          simp[h0,h2,h4,h6]
        | false=>
          by_cases h7:r.n=0
          . simp[h0,h2,h4,h6,h7]
          . simp[h0,h2,h4,h6,h7]
    by_cases h5:r.t=[]
    .   cases h6:k.n with
        | true=>
          simp[h0,h2,h4,h5,h6]
        | false=>
          by_cases h7:r.n=0
          . simp[h0,h2,h4,h5,h6,h7]
          . simp[h0,h2,h4,h5,h6,h7]
    .   simp[h0,h2,h4,h5]
   |false   =>
    by_cases h3:r.b=[]
    .   by_cases h4:k.t=0
        rotate_left
        . cases h6:k.n with
          | true=>
            simp[h0,h2,h3,h4,h6]
          | false=>
            by_cases h7:r.n=0
            . simp[h0,h2,h3,h4,h6,h7]
            . simp[h0,h2,h3,h4,h6,h7]
        by_cases h5:r.t=[]
        . cases h6:k.n with
          | true=>
            simp[h0,h2,h3,h4,h5,h6]
          | false=>
            by_cases h7:r.n=0
            . simp[h0,h2,h3,h4,h5,h6,h7]
            . simp[h0,h2,h3,h4,h5,h6,h7]
        . simp[h0,h2,h3,h4,h5]
    .   simp[h0,h2,h3]
 by_cases h1:r.a=[]
 . cases  h2:k.b with
   |true=>
    by_cases h4:k.t=0
    rotate_left
    .   cases h6:k.n with
        | true=>
          simp[h0,h1,h2,h4,h6]
        | false=>
          by_cases h7:r.n=0
          . simp[h0,h1,h2,h4,h6,h7]
          . simp[h0,h1,h2,h4,h6,h7]
    by_cases h5:r.t=[]
    .   cases h6:k.n with
        | true=>
          simp[h0,h1,h2,h4,h5,h6]
        | false=>
          by_cases h7:r.n=0
          . simp[h0,h1,h2,h4,h5,h6,h7]
          . simp[h0,h1,h2,h4,h5,h6,h7]
    .   simp[h0,h1,h2,h4,h5]
   |false   =>
    by_cases h3:r.b=[]
    .   by_cases h4:k.t=0
        rotate_left
        . cases h6:k.n with
          | true=>
            simp[h0,h1,h2,h3,h4,h6]
          | false=>
            by_cases h7:r.n=0
            . simp[h0,h1,h2,h3,h4,h6,h7]
            . simp[h0,h1,h2,h3,h4,h6,h7]
        by_cases h5:r.t=[]
        . cases h6:k.n with
          | true=>
            simp[h0,h1,h2,h3,h4,h5,h6]
          | false=>
            by_cases h7:r.n=0
            . simp[h0,h1,h2,h3,h4,h5,h6,h7]
            . simp[h0,h1,h2,h3,h4,h5,h6,h7]
        . simp[h0,h1,h2,h3,h4,h5]
    .   simp[h0,h1,h2,h3]
 . simp[h0,h1]
end
section
set_option maxRecDepth 100000
open Go Go.Ai Go.Proofs
variable {c : ak}
theorem yu {R:Type} (P:(List AV->St->Option R)->Prop) {A:(List AV->St->Option R)->Option R} {T:List AV->St->Option R} {r:Option R} (hT:P T) (hA: ∀j,P j->A j=r):ZV A T=r:=hA T hT
theorem LJ {R:Type} (c:ak) (K:AV->St->Option R) (st:St) (es:Nat) (z:Bool) (rs:List (List AV)) (k k':IntKind) (i j:Nat) (h:i<j) (h2:j<=rs.length):
  aj c (.sliceL es true true false) [ro es z rs,.int k (i:Int),.int k' (j:Int)] st K=K (ro es false ((rs.take j).drop i)) st:=by
 have: ∀H n,aC.run H n (.sliceL es true true false) [ro es z rs,.int k (i:Int),.int k' (j:Int)]=some (.val (ro es false ((rs.take j).drop i))):=fun H n=>by
  rw[VL (by intro e;subst e;simp at h2;omega)]
  have h3:i<=j:=by omega
  simp[aC.run,gY,bounds,jw,cM,cN,h3,h2,ro]
 exact aI c K this st
theorem XB (ts:List az): ∀(m k:Nat),(dB ts m k).2=0-> ∀i,k<=i->i<k+m-> ∀h:i<ts.length,mJ ts[i]=0
 |0,k,_,i,h1,h2,_=>by omega
 |m +   1,k,h,i,h1,h2,hi=>by
  have hk:k<ts.length:=by omega
  rw[dB,List.getElem?_eq_getElem hk] at h
  simp only at h
  by_cases h3:mJ ts[k]=0
  . rw[if_neg (by simp[h3])] at h
    by_cases h4:0<=scan (iX ts ts[k].name) k 0
    .   rw[if_pos h4] at h;simp at h
    .   rw[if_neg h4] at h
        by_cases e:i=k
        . subst e;exact h3
        . exact XB ts m (k+1) h i (by omega) (by omega) hi
  . rw[if_pos h3] at h;exact absurd h h3
theorem B6 {ts:List az} (h:(bh ts).2=0) (i:Nat) (hi:i<ts.length):mJ ts[i]=0:=by
 unfold bh at h
 split at h
 . simp at h
 . exact XB ts ts.length 0 h i (by omega) (by omega) hi
theorem B7 {t:az} (h:mJ t=0):(bh [t]).2=0:=by
 simp[bh,dB,h,scan]
def gi (p:aZ) (s:List Nat):Int:=scan (ir p.gs s) p.gs.length 0
def ti (p:aZ) (s:List Nat):Int:=scan (iX p.ts s) p.ts.length 0
def uy (p:aZ) (i:Int):Int:=match p.ts[i.toNat]? with
 |some t=>bl t
 |none=>0
def xQ (k:Kd) (r:Rl) (m:Int):Int:=if k.n=true/\(r.n<k.lo\/m<r.n) then 42 else 0
def UY (k:Kd) (p:aZ) (r:Rl):Int:=
 if (k.t=116/\ti p r.t<0)\/(k.t=101/\r.t≠[]/\ti p r.t<0) then 6
 else xQ k r (if k.sM=true then uy p (ti p r.t) - 1 else 24)
def aaP (k:Kd) (p:aZ) (r:Rl):Int:=
 if k.a=100/\eU r.a=false then 4 else if k.b=true/\r.a=r.b then 5 else UY k p r
def Iv (k:Kd) (p:aZ) (r:Rl):Int:=
 if k.w=[] then 40 else if r.wt<0\/1000<r.wt then 41 else if B5 k r=false then 43
 else if (k.a=103/\gi p r.a<0)\/(k.a=101/\r.a≠[]/\gi p r.a<0)\/(k.b=true/\gi p r.b<0) then 6
 else aaP k p r
theorem afs (hc : Sem c) (k:Kd) (hk:k.sM=true->k.t=116) (p:aZ) (hp:p.lq) (hv:(bh p.ts).2=0) (r:Rl) (st:St) (hw:Wf st):
   c 68 [.agg k.cells,.agg p.cells,.agg r.cells] st=some (.int .i64 (Iv k p r),st):=by
 have aX:Wf (ai st (.cells k.cells 0)):=aQ hw
 have eP:=aQ (b:= .cells p.cells 0) aX
 have hg3:=Grew.ai eP (.cells r.cells 0)
 have yp:=Grew.ai aX (.cells p.cells 0)
 have hg:=((Grew.ai hw (.cells k.cells 0)).trans yp).trans hg3
 have Rv:=hg.wf
 have p1:=hg3.get (yp.get (aH st (.cells k.cells 0)))
 have p2:=hg3.get (aH (ai st (.cells k.cells 0)) (.cells p.cells 0))
 have p3:=aH (ai (ai st (.cells k.cells 0)) (.cells p.cells 0)) (.cells r.cells 0)
 have A:=fun s=>aj3 hc p hp s _ Rv
 have B:=ahu hc k r _ Rv
 have D:=aiS hc p.tz p.ts hp.ok (by have:=hp.ts;unfold cO;omega) r.t _ Rv
 have N:=aap hc r.a (ai (ai (ai st (.cells k.cells 0)) (.cells p.cells 0)) (.cells r.cells 0))
 rw[Nz hc 1 (r:=(.int .i64 (Iv k p r),ai (ai (ai st (.cells k.cells 0)) (.cells p.cells 0)) (.cells r.cells 0))),au (Plain.int _ _) hg.keeps]
 rw[Rg]
 simp only[nR,aY,AV.cells]
 generalize ai (ai (ai st (.cells k.cells 0)) (.cells p.cells 0)) (.cells r.cells 0)=s at*
 generalize (ai (ai st (.cells k.cells 0)) (.cells p.cells 0)).next=q3 at*
 generalize (ai st (.cells k.cells 0)).next=q2 at*
 generalize st.next=q1 at*
 refine yu (P:=fun j=>j [.ptr q1 0,.ptr q2 0,.ptr q3 0] s=some (.int .i64 (UY k p r),s)) ?_ ?_
 . have D2  : c 153 [tabs p.tz p.ts,.str r.t] s=some (.tuple [.int .i64 (if 0<=ti p r.t then ti p r.t else 0),.bool (decide (0<=ti p r.t))],s):=by
     simp only[hv,and_true] at D;exact D
   have hit:=Lu (P:=iX p.ts r.t) p.ts.length 0
   clear D A B N hg yp hg3 hw aX eP
   unfold UY
   by_cases ht:0<=ti p r.t
   . have OK  : ¬ ti p r.t<0:=by omega
     obtain ⟨i,hi⟩: ∃i:Nat,ti p r.t=(i:Int):=⟨(ti p r.t).toNat,by omega⟩
     have kC:i<p.ts.length:=by
        have:=(hit ht).2.1
        unfold ti at hi;rw[hi] at this;simpa using this
     simp only[ht,if_true,decide_true] at D2
     by_cases h1:k.t=116
     .  simp[ p1,p2,p3,D2,h1,OK]
        refine yu (P:=fun j=> ∀m,j [.ptr q1 0,.ptr q3 0,.int .i64 m] s=some (.int .i64 (xQ k r m),s)) ?_ ?_
        . intro m
          unfold xQ
          cases hn:k.n with
          |false=>simp[p1,hn]
          | true=>
            by_cases e1:r.n<k.lo
            . simp[p1,p3,hn,e1]
            . by_cases e2:m<r.n
              . simp[p1,p3,hn,e1,e2]
              . simp[p1,p3,hn,e1,e2]
        . intro j hj
          cases hs:k.sM with
          |false=>simp[p1,hs,hj]
          | true=>
            have w:ay .i64 ((i:Int)+1)=(i:Int)+1:=by have:=hp.ts;exact wrap64 (by omega) (by omega)
            have cnt:=Bp hc false [p.ts[i]] (fun t ht=>by simp only[List.mem_singleton] at ht;subst ht;exact hp.ok _ (List.getElem_mem kC)) s Rv
            rw[if_pos (B7 (B6 hv i kC)),show bw [p.ts[i]]=bl p.ts[i] by simp[bw]] at cnt
            have b:=pP p.ts[i]
            have w2:ay .i64 (bl p.ts[i] - 1)=bl p.ts[i] - 1:=wrap64 (by omega) (by omega)
            have hcut: ∀K:AV->St->Option (AV×St),aj c (.sliceL 7 true true false) [tabs p.tz p.ts,.int .i64 (i:Int),.int .i64 ((i:Int)+1)] s K=K (tabs false [p.ts[i]]) s:=fun K=>by
              unfold tabs
              have:=LJ c K s 7 p.tz (p.ts.map az.cells) .i64 .i64 i (i+1) (by omega) (by rw[List.length_map];omega)
              rw[show ((i:Int)+1)=((i+1:Nat):Int) by omega,this]
              have e:((p.ts.map az.cells).take (i+1)).drop i=[p.ts[i]].map az.cells:=by
                rw[List.take_succ_eq_append_getElem (by simpa using kC),List.drop_append_of_le_length (by simp;omega)]
                simp
              rw[e]
            have e3:uy p (i:Int)=bl p.ts[i]:=by simp[uy,kC]
            simp[p1,p2,hs,hi,e3,w,hcut,cnt,hj,w2]
     .  by_cases h2 :k.t=101
        . by_cases h3:r.t=[]
          . simp only[h3] at D2 OK hi
            simp[p1,p2,p3,D2,h1,h2,h3,OK]
            refine yu (P:=fun j=> ∀m,j [.ptr q1 0,.ptr q3 0,.int .i64 m] s=some (.int .i64 (xQ k r m),s)) ?_ ?_
            . intro m
              unfold xQ
              cases hn:k.n with
              |false=>simp[p1,hn]
              | true=>
                by_cases e1:r.n<k.lo
                . simp[p1,p3,hn,e1]
                . by_cases e2:m<r.n
                  . simp[p1,p3,hn,e1,e2]
                  . simp[p1,p3,hn,e1,e2]
            . intro j hj
              cases hs:k.sM with
              |false=>simp[p1,hs,hj]
              | true=>
                have w:ay .i64 ((i:Int)+1)=(i:Int)+1:=by have:=hp.ts;exact wrap64 (by omega) (by omega)
                have cnt:=Bp hc false [p.ts[i]] (fun t ht=>by simp only[List.mem_singleton] at ht;subst ht;exact hp.ok _ (List.getElem_mem kC)) s Rv
                rw[if_pos (B7 (B6 hv i kC)),show bw [p.ts[i]]=bl p.ts[i] by simp[bw]] at cnt
                have b:=pP p.ts[i]
                have w2:ay .i64 (bl p.ts[i] - 1)=bl p.ts[i] - 1:=wrap64 (by omega) (by omega)
                have hcut: ∀K:AV->St->Option (AV×St),aj c (.sliceL 7 true true false) [tabs p.tz p.ts,.int .i64 (i:Int),.int .i64 ((i:Int)+1)] s K=K (tabs false [p.ts[i]]) s:=fun K=>by
                  unfold tabs
                  have:=LJ c K s 7 p.tz (p.ts.map az.cells) .i64 .i64 i (i+1) (by omega) (by rw[List.length_map];omega)
                  rw[show ((i:Int)+1)=((i+1:Nat):Int) by omega,this]
                  have e:((p.ts.map az.cells).take (i+1)).drop i=[p.ts[i]].map az.cells:=by
                    rw[List.take_succ_eq_append_getElem (by simpa using kC),List.drop_append_of_le_length (by simp;omega)]
                    simp
                  rw[e]
                have e3:uy p (i:Int)=bl p.ts[i]:=by simp[uy,kC]
                simp[p1,p2,hs,hi,e3,w,hcut,cnt,hj,w2]
          . simp[ p1,p2,p3,D2,h1,h2,h3,OK]
            refine yu (P:=fun j=> ∀m,j [.ptr q1 0,.ptr q3 0,.int .i64 m] s=some (.int .i64 (xQ k r m),s)) ?_ ?_
            . intro m
              unfold xQ
              cases hn:k.n with
              |false=>simp[p1,hn]
              | true=>
                by_cases e1:r.n<k.lo
                . simp[p1,p3,hn,e1]
                . by_cases e2:m<r.n
                  . simp[p1,p3,hn,e1,e2]
                  . simp[p1,p3,hn,e1,e2]
            . intro j hj
              cases hs:k.sM with
              |false=>simp[p1,hs,hj]
              | true=>
                have w:ay .i64 ((i:Int)+1)=(i:Int)+1:=by have:=hp.ts;exact wrap64 (by omega) (by omega)
                have cnt:=Bp hc false [p.ts[i]] (fun t ht=>by simp only[List.mem_singleton] at ht;subst ht;exact hp.ok _ (List.getElem_mem kC)) s Rv
                rw[if_pos (B7 (B6 hv i kC)),show bw [p.ts[i]]=bl p.ts[i] by simp[bw]] at cnt
                have b:=pP p.ts[i]
                have w2:ay .i64 (bl p.ts[i] - 1)=bl p.ts[i] - 1:=wrap64 (by omega) (by omega)
                have hcut: ∀K:AV->St->Option (AV×St),aj c (.sliceL 7 true true false) [tabs p.tz p.ts,.int .i64 (i:Int),.int .i64 ((i:Int)+1)] s K=K (tabs false [p.ts[i]]) s:=fun K=>by
                  unfold tabs
                  have:=LJ c K s 7 p.tz (p.ts.map az.cells) .i64 .i64 i (i+1) (by omega) (by rw[List.length_map];omega)
                  rw[show ((i:Int)+1)=((i+1:Nat):Int) by omega,this]
                  have e:((p.ts.map az.cells).take (i+1)).drop i=[p.ts[i]].map az.cells:=by
                    rw[List.take_succ_eq_append_getElem (by simpa using kC),List.drop_append_of_le_length (by simp;omega)]
                    simp
                  rw[e]
                have e3:uy p (i:Int)=bl p.ts[i]:=by simp[uy,kC]
                simp[p1,p2,hs,hi,e3,w,hcut,cnt,hj,w2]
        . simp[ p1,p2,p3,D2,h1,h2,OK]
          refine yu (P:=fun j=> ∀m,j [.ptr q1 0,.ptr q3 0,.int .i64 m] s=some (.int .i64 (xQ k r m),s)) ?_ ?_
          . intro m
            unfold xQ
            cases hn:k.n with
            |false=>simp[p1,hn]
            | true=>
              by_cases e1:r.n<k.lo
              . simp[p1,p3,hn,e1]
              . by_cases e2:m<r.n
                . simp[p1,p3,hn,e1,e2]
                . simp[p1,p3,hn,e1,e2]
          . intro j hj
            cases hs:k.sM with
            |false=>simp[p1,hs,hj]
            | true=>
              have w:ay .i64 ((i:Int)+1)=(i:Int)+1:=by have:=hp.ts;exact wrap64 (by omega) (by omega)
              have cnt:=Bp hc false [p.ts[i]] (fun t ht=>by simp only[List.mem_singleton] at ht;subst ht;exact hp.ok _ (List.getElem_mem kC)) s Rv
              rw[if_pos (B7 (B6 hv i kC)),show bw [p.ts[i]]=bl p.ts[i] by simp[bw]] at cnt
              have b:=pP p.ts[i]
              have w2:ay .i64 (bl p.ts[i] - 1)=bl p.ts[i] - 1:=wrap64 (by omega) (by omega)
              have hcut: ∀K:AV->St->Option (AV×St),aj c (.sliceL 7 true true false) [tabs p.tz p.ts,.int .i64 (i:Int),.int .i64 ((i:Int)+1)] s K=K (tabs false [p.ts[i]]) s:=fun K=>by
                unfold tabs
                have:=LJ c K s 7 p.tz (p.ts.map az.cells) .i64 .i64 i (i+1) (by omega) (by rw[List.length_map];omega)
                rw[show ((i:Int)+1)=((i+1:Nat):Int) by omega,this]
                have e:((p.ts.map az.cells).take (i+1)).drop i=[p.ts[i]].map az.cells:=by
                  rw[List.take_succ_eq_append_getElem (by simpa using kC),List.drop_append_of_le_length (by simp;omega)]
                  simp
                rw[e]
              have e3:uy p (i:Int)=bl p.ts[i]:=by simp[uy,kC]
              simp[p1,p2,hs,hi,e3,w,hcut,cnt,hj,w2]
   . have OK  : ti p r.t<0:=by omega
     simp only[ht,if_false,decide_false] at D2
     by_cases h1:k.t=116
     .  simp[p1,p2,p3,D2,h1,OK]
     .  by_cases h2:k.t=101
        . by_cases h3:r.t=[]
          . simp only[h3] at D2 OK
            simp[p1,p2,p3,D2,h1,h2,h3,OK]
            refine yu (P:=fun j=> ∀m,j [.ptr q1 0,.ptr q3 0,.int .i64 m] s=some (.int .i64 (xQ k r m),s)) ?_ ?_
            . intro m
              unfold xQ
              cases hn:k.n with
              |false=>simp[p1,hn]
              | true=>
                by_cases e1:r.n<k.lo
                . simp[p1,p3,hn,e1]
                . by_cases e2:m<r.n
                  . simp[p1,p3,hn,e1,e2]
                  . simp[p1,p3,hn,e1,e2]
            . intro j hj
              have hs:k.sM=false:=by
                cases h:k.sM with
                |false=>rfl
                |true=>exact absurd (hk h) h1
              simp[p1,hs,hj]
          . simp[p1,p2,p3,D2,h1,h2,h3,OK]
        . simp[ p1,p2,p3,D2,h1,h2,OK]
          refine yu (P:=fun j=> ∀m,j [.ptr q1 0,.ptr q3 0,.int .i64 m] s=some (.int .i64 (xQ k r m),s)) ?_ ?_
          . intro m
            unfold xQ
            cases hn:k.n with
            |false=>simp[p1,hn]
            | true=>
              by_cases e1:r.n<k.lo
              . simp[p1,p3,hn,e1]
              . by_cases e2:m<r.n
                . simp[p1,p3,hn,e1,e2]
                . simp[p1,p3,hn,e1,e2]
          . intro j hj
            have hs:k.sM=false:=by
              cases h:k.sM with
              |false=>rfl
              |true=>exact absurd (hk h) h1
            simp[p1,hs,hj]
 . intro  j hj
   have A2: ∀nm,c 151 [.agg p.cells,.str nm] s=some (.int .i64 (gi p nm),s):=A
   have cc:cut r.cells 0 6=some r.cells:=cD rfl
   clear A D hg yp hg3 hw aX eP
   unfold Iv
   by_cases h0:k.w=[]
   . simp[p1,h0]
   by_cases h1:r.wt<0
   . simp[p1,p3,h0,h1]
   by_cases h2:1000<r.wt
   . simp[p1,p3,h0,h1,h2]
   cases h3:B5 k r with
   |false=>simp[p1,p3,h0,h1,h2,B,h3]
   |true=>
   simp[p1,p3,h0,h1,h2,B,h3]
   refine yu (P:=fun j'=> ∀b:Bool,j' [.ptr q1 0,.ptr q2 0,.ptr q3 0,.bool b] s=some (.int .i64 (if b=true then 6 else aaP k p r),s)) ?_ ?_
   . intro  b
     cases b with
     |true=>simp
     |  false =>
        unfold aaP
        by_cases a1:k.a=100
        . cases a2:eU r.a with
          |false=>simp[p1,p3,a1,a2,N]
          | true=>
            cases b1:k.b with
            |false=>simp[p1,p3,a1,a2,N,b1,hj]
            | true=>
              by_cases b2:r.a=r.b
              . rw[b2] at a2 N
                simp[p1,p3,a1,a2,N,b1,b2]
              . simp[p1,p3,a1,a2,N,b1,b2,hj]
        . cases b1:k.b with
          |false=>simp[p1,p3,a1,b1,hj]
          | true=>
            by_cases b2:r.a=r.b
            . simp[p1,p3,a1,b1,b2]
            . simp[p1,p3,a1,b1,b2,hj]
   . intro  j' CS
     have K6:=CS true
     have K0:=CS false
     simp only[if_true,Bool.false_eq_true,if_false] at K6 K0
     clear CS hj
     by_cases a1:k.a=103
     .  by_cases g1:gi p r.a<0
        . simp[p1,p2,p3,a1,A2,g1,K6]
        . cases b1:k.b with
          |false=>simp[p1,p2,p3,a1,A2,g1,b1,K0]
          | true=>
            by_cases g2:gi p r.b<0
            . simp[p1,p2,p3,a1,A2,g1,g2,b1,K6]
            . simp[p1,p2,p3,a1,A2,g1,g2,b1,K0]
     .  by_cases a2:k.a=101
        . by_cases e:r.a=[]
          . cases b1:k.b with
            |false=>simp[p1,p2,p3,a1,a2,e,A2,b1,K0]
            | true=>
              by_cases g2:gi p r.b<0
              . simp[p1,p2,p3,a1,a2,e,A2,g2,b1,K6]
              . simp[p1,p2,p3,a1,a2,e,A2,g2,b1,K0]
          . by_cases g1:gi p r.a<0
            . simp[p1,p2,p3,a1,a2,e,A2,g1,K6]
            . cases b1:k.b with
              |false=>simp[p1,p2,p3,a1,a2,e,A2,g1,b1,K0]
              | true=>
                by_cases g2:gi p r.b<0
                . simp[p1,p2,p3,a1,a2,e,A2,g1,g2,b1,K6]
                . simp[p1,p2,p3,a1,a2,e,A2,g1,g2,b1,K0]
        . cases b1:k.b with
          |false=>simp[p1,p2,p3,a1,a2,A2,b1,K0]
          | true=>
            by_cases g2:gi p r.b<0
            . simp[p1,p2,p3,a1,a2,A2,g2,b1,K6]
            . simp[p1,p2,p3,a1,a2,A2,g2,b1,K0]
end
end Go.Proofs.YthiaklapeamjlaaGreatDoor
