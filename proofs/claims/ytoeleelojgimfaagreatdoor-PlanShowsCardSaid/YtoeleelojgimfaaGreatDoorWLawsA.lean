/- What the checks answer. -/
import Derived.Test.YtoeleelojgimfaaGreatDoorWPlainA
set_option linter.all false
set_option maxRecDepth 100000
set_option maxHeartbeats 1000000
namespace Go.Proofs.YtoeleelojgimfaaGreatDoor
section
open Go Go.Ai Go.Proofs
variable{c:ai}
def jS(s:List Nat):Bool:=decide (1<=s.length)&&decide (s.length<=12)&&s.all λc=>decide (97<=c/\c<=122)
structure aL where
 name:List Nat
 sh:Int
 a:Int
 b:Int
 oz:Bool
 mE:List Int
 x:Int
 y:Int
def ints(z:Bool)(l:List Int):AV:=ro 1 z (l.map λi=>[.int .i64 i])
def aL.cells(t:aL):List AV:=[.str t.name,.int .u8 t.sh,.int .i64 t.a,.int .i64 t.b,ints t.oz t.mE,.int .i64 t.x,.int .i64 t.y]
@[simp] theorem aaK(z:Bool)(l:List Int):(ints z l).one=true:=XC _ _ _
def cq(t:aL):Int:=
 if t.sh=1 then(if 1<=t.a/\t.a<=24/\t.b=0 then t.a else 0)
 else if t.sh=2 then(if 1<=t.a/\t.a<=11/\0<=t.b/\t.b<=2 then 2*t.a+t.b else 0)
 else if t.sh=3 then(if 1<=t.a/\t.a<=8/\1<=t.b/\t.b<=8 then t.a+2*t.b else 0)
 else if t.sh=4 then(if 1<=t.a/\t.a<=24/\0<=t.b/\t.b<=t.a then t.a else 0)
 else 0
theorem PA(hc:Sem c)(a b:Int)(st:St):c 108 [.int .i64 a,.int .i64 b] st=some (.int .i64 (if 1<=a/\a<=24/\b=0 then a else 0),st):=by
 rw[FW hc 1 (r:=(.int .i64 (if 1<=a/\a<=24/\b=0 then a else 0),st)),aK (Plain.int _ _) (bF.refl st)];rw[I1];by_cases h1:a<1
 .have:¬1<=a:=(by omega);simp[h1,this]
 . by_cases h2:24<a
   .have:¬a<=24:=(by omega);simp[h1,h2,this]
   .have h3:1<=a:=(by omega);have h4:a<=24:=(by omega);by_cases h5:b=0<;>simp[h1,h2,h3,h4,h5]
theorem Sb(hc:Sem c)(a b:Int)(st:St):c 113 [.int .i64 a,.int .i64 b] st=some (.int .i64 (if 1<=a/\a<=11/\0<=b/\b<=2 then 2*a+b else 0),st):=by
 rw[Hv hc 1 (r:=(.int .i64 (if 1<=a/\a<=11/\0<=b/\b<=2 then 2*a+b else 0),st)),aK (Plain.int _ _) (bF.refl st)];rw[KB];by_cases h1:a<1
 .have:¬1<=a:=(by omega);simp[h1,this]
 by_cases h2:11<a
 .have:¬a<=11:=(by omega);simp[h1,h2,this]
 by_cases h3:b<0
 .have:¬0<=b:=(by omega);simp[h1,h2,h3,this]
 by_cases h4:2<b
 .have:¬b<=2:=(by omega);simp[h1,h2,h3,h4,this]
 have h5:1<=a:=by omega
 have h6:a<=11:=by omega
 have h7:0<=b:=by omega
 have h8:b<=2:=by omega
 have w1:ax .i64 (2*a)=2*a:=wrap64 (by omega) (by omega);have w2:ax .i64 (2*a+b)=2*a+b:=wrap64 (by omega) (by omega);simp[h1,h2,h3,h4,h5,h6,h7,h8,w1,w2]
theorem Sc(hc:Sem c)(a b:Int)(st:St):c 118 [.int .i64 a,.int .i64 b] st=some (.int .i64 (if 1<=a/\a<=8/\1<=b/\b<=8 then a+2*b else 0),st):=by
 rw[Hw hc 1 (r:=(.int .i64 (if 1<=a/\a<=8/\1<=b/\b<=8 then a+2*b else 0),st)),aK (Plain.int _ _) (bF.refl st)];rw[KC];by_cases h1:a<1
 .have:¬1<=a:=(by omega);simp[h1,this]
 by_cases h2:8<a
 .have:¬a<=8:=(by omega);simp[h1,h2,this]
 by_cases h3:b<1
 .have:¬1<=b:=(by omega);simp[h1,h2,h3,this]
 by_cases h4:8<b
 .have:¬b<=8:=(by omega);simp[h1,h2,h3,h4,this]
 have h5:1<=a:=by omega
 have h6:a<=8:=by omega
 have h7:1<=b:=by omega
 have h8:b<=8:=by omega
 have w1:ax .i64 (2*b)=2*b:=wrap64 (by omega) (by omega);have w2:ax .i64 (a+2*b)=a+2*b:=wrap64 (by omega) (by omega);simp[h1,h2,h3,h4,h5,h6,h7,h8,w1,w2]
theorem Tl(hc:Sem c)(a b:Int)(st:St):c 123 [.int .i64 a,.int .i64 b] st=some (.int .i64 (if 1<=a/\a<=24/\0<=b/\b<=a then a else 0),st):=by
 rw[I2 hc 1 (r:=(.int .i64 (if 1<=a/\a<=24/\0<=b/\b<=a then a else 0),st)),aK (Plain.int _ _) (bF.refl st)];rw[Mj];by_cases h1:a<1
 .have:¬1<=a:=(by omega);simp[h1,this]
 by_cases h2:24<a
 .have:¬a<=24:=(by omega);simp[h1,h2,this]
 by_cases h3:b<0
 .have:¬0<=b:=(by omega);simp[h1,h2,h3,this]
 by_cases h4:a<b
 .have:¬b<=a:=(by omega);simp[h1,h2,h3,h4,this]
 have h5:1<=a:=by omega
 have h6:a<=24:=by omega
 have h7:0<=b:=by omega
 have h8:b<=a:=by omega
 simp[h1,h2,h3,h4,h5,h6,h7,h8]
def qE(sh:Int):List AV:=
 if sh=1 then [.str [114,111,117,110,100],.func 108 [] [],.func 109 [] [],.func 110 [] [],.func 111 [] [],.func 112 [] []]
 else if sh=2 then [.str [108,111,110,103],.func 113 [] [],.func 114 [] [],.func 115 [] [],.func 116 [] [],.func 117 [] []]
 else if sh=3 then [.str [104,111,114,115,101,115,104,111,101],.func 118 [] [],.func 119 [] [],.func 120 [] [],.func 121 [] [],.func 122 [] []]
 else if sh=4 then [.str [114,111,119],.func 123 [] [],.func 124 [] [],.func 125 [] [],.func 126 [] [],.func 127 [] []]
 else [.str [],.iI,.iI,.iI,.iI,.iI]
theorem plain_fn(f:Nat):Plain (.func f [] []):=Plain.func f (by simp) (by simp)
theorem Yn(sh:Int):∀v∈qE sh,Plain v:=by
 unfold qE;intro v hv
 repeat' split at hv
 all_goals
  simp only[Za9,Ze4,Zj0]at hv;rcases hv with rfl|rfl|rfl|rfl|rfl|rfl<;>first|exact Plain.str _|exact Plain.iI|exact plain_fn _
theorem sx(hc:Sem c)(sh:Int)(st:St)(hw:Wf st):c 76 [.int .u8 sh] st=some (.tuple [.agg (qE sh),.bool (decide (1<=sh/\sh<=4))],st):=by
 have hp:Plain (.tuple [.agg (qE sh),.bool (decide (1<=sh/\sh<=4))]):=Plain.tuple λv hv=>by
   simp only[Za9,Ze4,Zj0]at hv;rcases hv with rfl|rfl
   .exact Plain.agg (Yn sh)
   .exact Plain.bool _
 rw[I3 hc 1 (r:=(.tuple [.agg (qE sh),.bool (decide (1<=sh/\sh<=4))],af st (.cells (qE sh) 0))),aK hp (cE hw)];rw[Ml];by_cases h1:sh=1
 .subst h1;simp[qE,AV.cells,aQ,AV.one,bI,b6,aM,eV]
 by_cases h2:sh=2
 .subst h2;simp[qE,AV.cells,aQ,AV.one,bI,b6,aM,eV]
 by_cases h3:sh=3
 .subst h3;simp[qE,AV.cells,aQ,AV.one,bI,b6,aM,eV]
 by_cases h4:sh=4
 .subst h4;simp[qE,AV.cells,aQ,AV.one,bI,b6,aM,eV]
 have h5:decide (1<=sh/\sh<=4)=false:=by simp;omega
 rw[h5];simp[qE,AV.cells,aQ,AV.one,bI,b6,aM,eV,h1,h2,h3,h4]
theorem IW(hc:Sem c)(t:aL)(st:St)(hw:Wf st):c 63 [.agg t.cells] st=some (.int .i64 (cq t),st):=by
 rw[PB hc 1 (r:=(.int .i64 (cq t),af (af st (.cells t.cells 0)) (.cells (qE t.sh) 0))),aK (Plain.int _ _) ((cE hw).trans (cE (bR hw)))];rw[Tm];obtain⟨name,sh,a,b,oz,mE,x,y⟩:=t;by_cases h1:sh=1
 .subst h1;simp[aL.cells,AV.cells,sx hc,hw,cq,qE,aQ,AV.one,PA hc]
 by_cases h2:sh=2
 .subst h2;simp[aL.cells,AV.cells,sx hc,hw,cq,qE,aQ,AV.one,Sb hc]
 by_cases h3:sh=3
 .subst h3;simp[aL.cells,AV.cells,sx hc,hw,cq,qE,aQ,AV.one,Sc hc]
 by_cases h4:sh=4
 .subst h4;simp[aL.cells,AV.cells,sx hc,hw,cq,qE,aQ,AV.one,Tl hc]
 have h5:decide (1<=sh/\sh<=4)=false:=by simp;omega
 simp[aL.cells,AV.cells,sx hc,hw,cq,qE,aQ,AV.one,h1,h2,h3,h4,h5]
def sw:Nat:=9223372036854775808
theorem Mm(s:List Nat)(hs:s.length<=12)(F:Nat)(st:St)(k1 k2):∀(m k:Nat),s.length<=k+m->k<=s.length->
  mh c F k1 k2 (m+1) [.str s,.int .i64 (s.length:Int),.int .i64 (k:Int)] st=if(s.drop k).all (λc=>decide (97<=c/\c<=122))=true then k2 [] st else k1 [.bool false] st:=by
 intro m;induction m with
 |zero=>
  intro k h1 h2;rw[BL];obtain rfl:k=s.length:=by omega
  simp
 |succ m ih=>
  intro k h1 h2;rw[BL];by_cases h:k<s.length
  . have e:s.drop k=s[k]::s.drop (k+1):=Ze7 h;have:=ih (k+1) (by omega) (by omega);have w:ax .i64 ((k:Int)+1)=((k+1:Nat):Int):=wrap64 (by omega) (by omega);rw[e,List.all_cons];generalize (s.drop (k+1)).all _=rest at this ⊢;by_cases h3:(s[k]:Int)<97
    .   have h5:decide (97<=s[k]/\s[k]<=122)=false:=(by simp;omega);simp[h,h3,h5]
    .   by_cases h4:122<(s[k]:Int)
        .have h5:decide (97<=s[k]/\s[k]<=122)=false:=(by simp;omega);simp[h,h3,h4,h5]
        .have h5:decide (97<=s[k]/\s[k]<=122)=true:=(by simp;omega);rw[h5,Zf5, <-this];simp[h,h3,h4,w]
  .obtain rfl:k=s.length:=(by omega);simp
theorem ym(hc:Sem c)(s:List Nat)(st:St):c 220 [.str s] st=some (.bool (jS s),st):=by
 rw[Nt hc (s.length+1) (r:=(.bool (jS s),st)),aK (Plain.bool _) (bF.refl st)];rw[Sd];by_cases h0:(s.length:Int)=0
 .have h1:¬1<=s.length:=(by omega);have h2:s=[]:=Zb1 (by omega);subst h2;simp[jS]
 . by_cases h1:12<(s.length:Int)
   .have h2:¬s.length<=12:=(by omega);have h3:¬s=[]:=(by intro e;subst e;simp at h0);simp[jS,h1,h2,h3]
   . have h2:s.length<=12:=(by omega);have h3:1<=s.length:=(by omega);have h4:¬s=[]:=(by intro e;subst e;simp at h0);have L:∀k1 k2,mh c (s.length+1) k1 k2 (s.length+1) [.str s,.int .i64 (s.length:Int),.int .i64 0] st=if(s.drop 0).all (λc=>decide (97<=c/\c<=122))=true then k2 [] st else k1 [.bool false] st:=
        λk1 k2=>Mm (c:=c) s h2 (s.length+1) st k1 k2 s.length 0 (by omega) (by omega)
     rw[Ze3]at L;have e:jS s=s.all λc=>decide (97<=c/\c<=122):=(by simp[jS,h2,h3]);rw[e];generalize (s.all _)=b at L ⊢;simp[h1,h4,L];cases b<;>simp
theorem Nu(s:List Nat)(hs:s.length<=12)(F:Nat)(st:St)(k1 k2):∀(m k:Nat),s.length<=k+m->k<=s.length->
  nG c F k1 k2 (m+1) [.str s,.int .i64 (s.length:Int),.int .i64 (k:Int)] st=if(s.drop k).all (λc=>decide (97<=c/\c<=122))=true then k2 [] st else k1 [.bool false] st:=by
 intro m;induction m with
 |zero=>
  intro k h1 h2;rw[Dd];obtain rfl:k=s.length:=by omega
  simp
 |succ m ih=>
  intro k h1 h2;rw[Dd];by_cases h:k<s.length
  . have e:s.drop k=s[k]::s.drop (k+1):=Ze7 h;have:=ih (k+1) (by omega) (by omega);have w:ax .i64 ((k:Int)+1)=((k+1:Nat):Int):=wrap64 (by omega) (by omega);rw[e,List.all_cons];generalize (s.drop (k+1)).all _=rest at this ⊢;by_cases h3:(s[k]:Int)<97
    .   have h5:decide (97<=s[k]/\s[k]<=122)=false:=(by simp;omega);simp[h,h3,h5]
    .   by_cases h4:122<(s[k]:Int)
        .have h5:decide (97<=s[k]/\s[k]<=122)=false:=(by simp;omega);simp[h,h3,h4,h5]
        .have h5:decide (97<=s[k]/\s[k]<=122)=true:=(by simp;omega);rw[h5,Zf5, <-this];simp[h,h3,h4,w]
  .obtain rfl:k=s.length:=(by omega);simp
theorem Sf(hc:Sem c)(s:List Nat)(st:St):c 101 [.str s] st=some (.bool (jS s),st):=by
 rw[PC hc (s.length+1) (r:=(.bool (jS s),st)),aK (Plain.bool _) (bF.refl st)];rw[Tn];by_cases h0:(s.length:Int)=0
 .have h1:¬1<=s.length:=(by omega);have h2:s=[]:=Zb1 (by omega);subst h2;simp[jS]
 . by_cases h1:12<(s.length:Int)
   .have h2:¬s.length<=12:=(by omega);have h3:¬s=[]:=(by intro e;subst e;simp at h0);simp[jS,h1,h2,h3]
   . have h2:s.length<=12:=(by omega);have h3:1<=s.length:=(by omega);have h4:¬s=[]:=(by intro e;subst e;simp at h0);have L:∀k1 k2,nG c (s.length+1) k1 k2 (s.length+1) [.str s,.int .i64 (s.length:Int),.int .i64 0] st=if(s.drop 0).all (λc=>decide (97<=c/\c<=122))=true then k2 [] st else k1 [.bool false] st:=
        λk1 k2=>Nu (c:=c) s h2 (s.length+1) st k1 k2 s.length 0 (by omega) (by omega)
     rw[Ze3]at L;have e:jS s=s.all λc=>decide (97<=c/\c<=122):=(by simp[jS,h2,h3]);rw[e];generalize (s.all _)=b at L ⊢;simp[h1,h4,L];cases b<;>simp
theorem Nv(s:List Nat)(hs:s.length<sw)(F:Nat)(st:St)(k1 k2):∀(m k:Nat),s.length<=k+m->k<=s.length->
  nH c F k1 k2 (m+1) [.str s,.int .i64 (k:Int)] st=if(s.drop k).all (λc=>decide (97<=c/\c<=122))=true then k2 [.str s] st else k1 [.bool false] st:=by
 intro m;induction m with
 |zero=>
  intro k h1 h2;rw[De];obtain rfl:k=s.length:=by omega
  simp
 |succ m ih=>
  intro k h1 h2;rw[De];by_cases h:k<s.length
  . have e:s.drop k=s[k]::s.drop (k+1):=Ze7 h;have:=ih (k+1) (by omega) (by omega);have w:ax .i64 ((k:Int)+1)=((k+1:Nat):Int):=wrap64 (by omega) (by unfold sw at hs;omega);rw[e,List.all_cons];generalize (s.drop (k+1)).all _=rest at this ⊢;by_cases h3:(s[k]:Int)<97
    .   have h5:decide (97<=s[k]/\s[k]<=122)=false:=(by simp;omega);simp[h,h3,h5]
    .   by_cases h4:122<(s[k]:Int)
        .have h5:decide (97<=s[k]/\s[k]<=122)=false:=(by simp;omega);simp[h,h3,h4,h5]
        .have h5:decide (97<=s[k]/\s[k]<=122)=true:=(by simp;omega);rw[h5,Zf5, <-this];simp[h,h3,h4,w]
  .obtain rfl:k=s.length:=(by omega);simp
theorem Sg(hc:Sem c)(s:List Nat)(hs:s.length<sw)(st:St):c 77 [.str s] st=some (.bool (jS s),st):=by
 rw[PD hc (s.length+1) (r:=(.bool (jS s),st)),aK (Plain.bool _) (bF.refl st)];rw[To];have L:∀k1 k2,nH c (s.length+1) k1 k2 (s.length+1) [.str s,.int .i64 0] st=if(s.drop 0).all (λc=>decide (97<=c/\c<=122))=true then k2 [.str s] st else k1 [.bool false] st:=
   λk1 k2=>Nv (c:=c) s hs (s.length+1) st k1 k2 s.length 0 (by omega) (by omega)
 rw[Ze3]at L;have e:jS s=(decide (1<=s.length)&&decide (s.length<=12)&&s.all λc=>decide (97<=c/\c<=122)):=rfl;rw[e];generalize (s.all _)=b at L ⊢;simp[L];cases b
 .simp
 . by_cases h1:(1:Int)<=s.length
   . have h2:1<=s.length:=(by omega);by_cases h3:(s.length:Int)<=12
     .  have h4:s.length<=12:=(by omega);simp[h1,h2,h3,h4]
     .  have h4:¬s.length<=12:=(by omega);simp[h1,h2,h3,h4]
   .have h2:¬1<=s.length:=(by omega);simp[h1,h2]
def rE(s:List Nat):Bool:=decide (s=[])||jS s
theorem yo(hc:Sem c)(s:List Nat)(st:St):c 221 [.str s] st=some (.bool (rE s),st):=by
 rw[Nw hc 1 (r:=(.bool (rE s),st)),aK (Plain.bool _) (bF.refl st)];rw[Si];by_cases h:s=[]<;>simp[h,rE,ym hc]
def EJ(n last:Int):List Int->Bool
 |[]=>true
 |k::l=>decide (last<k)&&decide (k<n)&&EJ n k l
def mU(t:aL):Int:=
 if jS t.name=false then 4 else if cq t=0 then 10 else if EJ (cq t) (-1) t.mE=false then 11
 else if 0<=t.x/\t.x<=1000/\0<=t.y/\t.y<=1000 then 0 else 2
structure aL.Ok(t:aL):Prop where
 name:t.name.length<sw
 mE:t.mE.length<sw
theorem RW(l:List Int)(k:Nat)(h:k<l.length):((l.map λi=>[AV.int .i64 i])[k]?.bind λcs=>cs[0]?)=some (.int .i64 l[k]):=by
 simp[Zb7,H4 h]
theorem Mn(p:Pos)(n:Int)(z:Bool)(l:List Int)(hl:l.length<sw)(F:Nat)(st:St)(k1 k3):∀(m k:Nat)(last:Int),l.length<=k+m->k<=l.length->
  mj c F k1 k3 (m+1) [.ptr p 0,.int .i64 n,.int .i64 last,ints z l,.int .i64 (l.length:Int),.int .i64 (k:Int)] st=if EJ n last (l.drop k)=true then k3 [.ptr p 0] st else k1 [.int .i64 11] st:=by
 intro m;induction m with
 |zero=>
  intro k last h1 h2;rw[BM];obtain rfl:k=l.length:=by omega
  simp[EJ]
 |succ m ih=>
  intro k last h1 h2;rw[BM];by_cases h:k<l.length
  . have e:l.drop k=l[k]::l.drop (k+1):=Ze7 h;have:=ih (k+1) l[k] (by omega) (by omega);have w:ax .i64 ((k:Int)+1)=((k+1:Nat):Int):=wrap64 (by omega) (by unfold sw at hl;omega);have g:=RW l k h;rw[e,EJ];generalize EJ n l[k] (l.drop (k+1))=rest at this ⊢;by_cases h3:l[k]<=last
    .   have h4:¬last<l[k]:=(by omega);simp[ints,h,h3,h4,g]
    .   have h4:last<l[k]:=(by omega);by_cases h5:n<=l[k]
        .have h6:¬l[k]<n:=(by omega);simp[ints,h,h3,h4,h5,h6,g]
        .have h6:l[k]<n:=(by omega);simp only[h4,h6,Zk6,Zf5];rw[<-this];simp[ints,h,h3,h4,h5,h6,g,w]
  .obtain rfl:k=l.length:=(by omega);simp[EJ]
theorem Sj(hc:Sem c)(t:aL)(ht:t.Ok)(st:St)(hw:Wf st):c 64 [.agg t.cells] st=some (.int .i64 (mU t),st):=by
 rw[Nx hc (t.mE.length+1) (r:=(.int .i64 (mU t),af st (.cells t.cells 0))),aK (Plain.int _ _) (cE hw)];rw[Sk];have hs:=IW hc t (af st (.cells t.cells 0)) (bR hw);have hn:=Sg hc t.name ht.name;have hg:(af st (.cells t.cells 0)).heap.get st.next=some (.cells t.cells 0):=aC _ _;have c0:t.cells[0]? =some (.str t.name):=rfl;have c4:t.cells[4]? =some (ints t.oz t.mE):=rfl;have c5:t.cells[5]? =some (.int .i64 t.x):=rfl;have c6:t.cells[6]? =some (.int .i64 t.y):=rfl;have cc:cut t.cells 0 7=some t.cells:=bI rfl
 have L:∀k1 k3,mj c (t.mE.length+1) k1 k3 (t.mE.length+1) [.ptr st.next 0,.int .i64 (cq t),.int .i64 (-1),ints t.oz t.mE,.int .i64 (t.mE.length:Int),.int .i64 0] (af st (.cells t.cells 0))=
     if EJ (cq t) (-1) (t.mE.drop 0)=true then k3 [.ptr st.next 0] (af st (.cells t.cells 0))else k1 [.int .i64 11] (af st (.cells t.cells 0)):=
   λk1 k3=>Mn st.next (cq t) t.oz t.mE ht.mE _ _ k1 k3 t.mE.length 0 (-1) (by omega) (by omega)
 rw[Ze3]at L;have lI:∀(K:AV->St->Option (AV×St))(s:St),ak c (.lenB .l) [ints t.oz t.mE] s K=K (.int .i64 (t.mE.length:Int)) s:=λK s=>by unfold ints;rw[ke];simp
 unfold mU;generalize t.cells=tc at*
 generalize cq t=sz at*
 generalize EJ sz (-1) t.mE=op at*
 by_cases h1:jS t.name=true
 . by_cases h2:sz=0
   .simp[AV.cells,hs,hn,hg,c0,cc,h1,h2]
   . cases op
     .  simp[AV.cells,hs,hn,hg,c0,c4,cc,h1,h2,lI,L]
     .  by_cases h3:t.x<0
        .have:¬0<=t.x:=(by omega);simp[AV.cells,hs,hn,hg,c0,c4,c5,c6,cc,h1,h2,lI,L,h3,this]
        by_cases h4:1000<t.x
        .have:¬t.x<=1000:=(by omega);simp[AV.cells,hs,hn,hg,c0,c4,c5,c6,cc,h1,h2,lI,L,h3,h4,this]
        by_cases h5:t.y<0
        .have:¬0<=t.y:=(by omega);simp[AV.cells,hs,hn,hg,c0,c4,c5,c6,cc,h1,h2,lI,L,h3,h4,h5,this]
        by_cases h6:1000<t.y
        .have:¬t.y<=1000:=(by omega);simp[AV.cells,hs,hn,hg,c0,c4,c5,c6,cc,h1,h2,lI,L,h3,h4,h5,h6,this]
        have h7:0<=t.x:=(by omega);have h8:t.x<=1000:=(by omega);have h9:0<=t.y:=(by omega);have h10:t.y<=1000:=(by omega);simp[AV.cells,hs,hn,hg,c0,c4,c5,c6,cc,h1,h2,lI,L,h3,h4,h5,h6,h7,h8,h9,h10]
 .simp[AV.cells,hs,hn,hg,c0,cc,h1]
theorem Df(t:aL):0<=cq t/\cq t<=1000:=by
 unfold cq;repeat' split
 all_goals omega
def scan(P:Nat->Bool):Nat->Nat->Int
 |0,_=> -1
 |m+1,k=>if P k=true then(k:Int)else scan P m (k+1)
theorem Ny(P:Nat->Bool):∀(m k:Nat),-1<=scan P m k/\(scan P m k<0->scan P m k= -1)
 |0,_=>by simp[scan]
 |m+1,k=>by
  unfold scan;split
  .omega
  .exact Ny P m (k+1)
theorem Mo{P Q:Nat->Bool}:∀(m k:Nat),(∀i,k<=i->i<k+m->P i=Q i)->scan P m k=scan Q m k
 |0,_,_=>rfl
 |m+1,k,h=>by
  unfold scan;rw[h k (by omega) (by omega),Mo m (k+1) λi h1 h2=>h i (by omega) (by omega)]
theorem wO{P:Nat->Bool}:∀(m k:Nat),0<=scan P m k->k<=(scan P m k).toNat/\(scan P m k).toNat<k+m/\P (scan P m k).toNat=true
 |0,k,h=>by simp[scan]at h
 |m +1,k,h=>by
  unfold scan at h ⊢;split
  .rename_i hp;simp;exact hp
  .rename_i hp;rw[Za5 hp]at h;have:=wO m (k+1) h;exact⟨by omega,by omega,this.2.2⟩
def tabs(z:Bool)(ts:List aL):AV:=ro 7 z (ts.map aL.cells)
@[simp] theorem aL.c0(t:aL):t.cells[0]? =some (.str t.name):=id rfl
@[simp] theorem aL.c1(t:aL):t.cells[1]? =some (.int .u8 t.sh):=id rfl
@[simp] theorem aL.c2(t:aL):t.cells[2]? =some (.int .i64 t.a):=id rfl
@[simp] theorem aL.c3(t:aL):t.cells[3]? =some (.int .i64 t.b):=id rfl
@[simp] theorem aL.c4(t:aL):t.cells[4]? =some (ints t.oz t.mE):=id rfl
@[simp] theorem aL.c5(t:aL):t.cells[5]? =some (.int .i64 t.x):=id rfl
@[simp] theorem aL.c6(t:aL):t.cells[6]? =some (.int .i64 t.y):=id rfl
@[simp] theorem aL.cc(t:aL):cut t.cells 0 7=some t.cells:=bI rfl
theorem aL.len(t:aL):t.cells.length=7:=id rfl
@[simp] theorem aL.one(t:aL):aQ t.cells=true:=by unfold aL.cells;simp only[aQ,aaK];rfl
@[simp] theorem Hx(l:List AV):(AV.agg l).cells=l:=id rfl
def nI(ts:List aL)(s:List Nat)(i:Nat):Bool:=decide (ts[i]?.map aL.name=some s)
def fM(ts:List aL):Nat->Nat->Int×Int
 |0,_=>(0,0)
 |  m+1,k=>match ts[k]? with
    |none=>(0,0)
    |some t=>if mU t≠0 then((k:Int),mU t)else if 0<=scan (nI ts t.name) k 0 then((k:Int),5)else fM ts m (k+1)
def bD(ts:List aL):Int×Int:=if 16<ts.length then(0,7)else fM ts ts.length 0
theorem Mp(ts:List aL):∀(m m' k:Nat),ts.length<=k+m->ts.length<=k+m'->fM ts m k=fM ts m' k
 |0,0,_,_,_=>rfl
 |0,m'+1,k,h,_=>by rw[fM,fM,Zb5 (by omega)]
 |m+1,0,k,_,h=>by rw[fM,fM,Zb5 (by omega)]
 |m+1,m'+1,k,h,h'=>by
  rw[fM,fM,Mp ts m m' (k+1) (by omega) (by omega)]
theorem Mr(ts:List aL):∀(m k:Nat),(fM ts m k).2=0->(fM ts m k).1=0
 |0,_,_=>rfl
 |m +   1,k,h=>by
  rw[fM]at h ⊢;split at h
  .rfl
  . split at h
    .   rename_i cG;exact absurd h cG
    .   split at h
        .simp at h
        .rename_i h1 h2;rw[Za5 h1,Za5 h2];exact Mr ts m (k+1) h
theorem Sl(hc:Sem c)(x t:aL)(p:Pos)(st:St)(hw:Wf st)(hp:st.heap.get p=some (.cells t.cells 0)):c 79 [.agg x.cells,.ptr p 0] st=some (.bool (decide (x.name=t.name)),st):=by
 rw[FX hc 1 (r:=(.bool (decide (x.name=t.name)),af st (.cells x.cells 0))),aK (Plain.bool _) (cE hw)];rw[I4];have:(af st (.cells x.cells 0)).heap.get p=some (.cells t.cells 0):=cE hw _ _ hp;simp[this]
theorem aaL(hc:Sem c)(x:aL)(s:List Nat)(p:Pos)(st:St)(hw:Wf st)(hp:st.heap.get p=some (.cells [.str s] 0)):c 146 [.agg x.cells,.ptr p 0] st=some (.bool (decide (x.name=s)),st):=by
 rw[Ms hc 1 (r:=(.bool (decide (x.name=s)),af st (.cells x.cells 0))),aK (Plain.bool _) (cE hw)];rw[PE];have:(af st (.cells x.cells 0)).heap.get p=some (.cells [.str s] 0):=cE hw _ _ hp;simp[this]
theorem Yo(z:Bool)(rs:List (List AV))(hl:rs.length<sw)(dc:∀cs∈rs,cs.length=7)(g:Nat)(v:List AV)(P:Nat->Bool)(st:St)(F:Nat)(k1 k2)
  (hP:∀i (h:i<rs.length),c g (.agg rs[i]::v) st=some (.bool (P i),st)):∀(m k:Nat),rs.length<=k+m->k<=rs.length->
  bM c F k1 k2 (m+1) [ro 7 z rs,.func g [] v,.int .i64 (rs.length:Int),.int .i64 (k:Int)] st=if 0<=scan P (rs.length - k) k then k1 [.int .i64 (scan P (rs.length - k) k)] st else k2 [] st:=by
 intro m;induction m with
 |zero=>
  intro k h1 h2;obtain rfl:k=rs.length:=by omega
  rw[iB];simp[scan]
 |succ m ih=>
  intro k h1 h2;rw[iB];by_cases h:k<rs.length
  . have e:rs.length - k=(rs.length - (k+1))+1:=(by omega);have w:ax .i64 ((k:Int)+1)=((k+1:Nat):Int):=wrap64 (by omega) (by unfold sw at hl;omega);have hcut:cut rs[k] 0 7=some rs[k]:=bI (dc _ (Zb9 h));have hp:=hP k h;rw[e,scan];cases hb:P k
    .   simp only[Zg4,Zh3];rw[<-ih (k+1) (by omega) (by omega)];simp[h,hcut,hp,hb,w]
    .   simp[h,hcut,hp,hb]
  .obtain rfl:k=rs.length:=(by omega);simp[scan]
theorem UE(hc:Sem c)(z:Bool)(rs:List (List AV))(hl:rs.length<sw)(dc:∀cs∈rs,cs.length=7)(g:Nat)(v:List AV)(P:Nat->Bool)(st:St)
   (hP:∀i (h:i<rs.length),c g (.agg rs[i]::v) st=some (.bool (P i),st)):c 128 [ro 7 z rs,.func g [] v] st=some (.int .i64 (scan P rs.length 0),st):=by
 rw[oE hc (rs.length+1) (r:=(.int .i64 (scan P rs.length 0),st)),aK (Plain.int _ _) (bF.refl st)];rw[pK];have L:∀k1 k2,bM c (rs.length+1) k1 k2 (rs.length+1) [ro 7 z rs,.func g [] v,.int .i64 (rs.length:Int),.int .i64 0] st=if 0<=scan P (rs.length - 0) 0 then k1 [.int .i64 (scan P (rs.length - 0) 0)] st else k2 [] st:=
   λk1 k2=>Yo z rs hl dc g v P st _ k1 k2 hP rs.length 0 (by omega) (by omega)
 rw[Zp1]at L;by_cases h:0<=scan P rs.length 0
 .simp[L,h]
 .have:=(Ny P rs.length 0).2 (by omega);simp[L,this]
theorem Sm(hc:Sem c)(z:Bool)(rs:List (List AV))(hl:rs.length<sw)(dc:∀cs∈rs,cs.length=7)(g:Nat)(v:List AV)(P:Nat->Bool)(st:St)
  (hP:∀i (h:i<rs.length),c g (.agg rs[i]::v) st=some (.bool (P i),st)):c 78 [ro 7 z rs,.func g [] v] st=some (.bool (decide (0<=scan P rs.length 0)),st):=by
 rw[ni hc 1 (r:=(.bool (decide (0<=scan P rs.length 0)),st)),aK (Plain.bool _) (bF.refl st)];rw[nS];simp[UE hc z rs hl dc g v P st hP]
theorem PG(hc:Sem c)(z:Bool)(ts:List aL)(dH:∀t∈ts,t.Ok)(hl:ts.length<=16)(F:Nat)(k1 k2):∀(m k:Nat)(st:St),Wf st->ts.length<=k+m->k<=ts.length->
  ∃st',Grew st st'/\lA c F k1 k2 (m+1) [tabs z ts,tabs z ts,.int .i64 (ts.length:Int),.int .i64 (k:Int)] st=if(fM ts m k).2=0 then k2 [] st' else k1 [.int .i64 (fM ts m k).1,.int .i64 (fM ts m k).2] st':=by
 intro m;induction m with
 |zero=>
  intro k st hw h1 h2;obtain rfl:k=ts.length:=by omega
  refine⟨st,Grew.refl hw,?_⟩;rw[qF];simp[fM,tabs]
 |succ m ih=>
  intro k st hw h1 h2;by_cases h:k<ts.length
  . have w:ax .i64 ((k:Int)+1)=((k+1:Nat):Int):=wrap64 (by omega) (by omega);have dI:Wf (af st (.cells ts[k].cells 0)):=bR hw;have hg:=Grew.af hw (.cells ts[k].cells 0);have hch:=Sj hc ts[k] (dH _ (Zb9 h)) _ dI;have Yp:=Sm hc (z&&(ts.map aL.cells).isEmpty) ((ts.map aL.cells).take k) (by simp[sw];omega) (λcs fH=>by
          have:=List.mem_of_mem_take fH;simp only[Zf4]at this;obtain⟨t,_,rfl⟩:=this;rfl) 79 [.ptr st.next 0] (nI ts ts[k].name) (af st (.cells ts[k].cells 0)) (λi hi=>by
          have OD:i<k:=(by simp at hi;omega);have Yq:i<ts.length:=(by omega);have:=Sl hc ts[i] ts[k] st.next (af st (.cells ts[k].cells 0)) dI (aC _ _);simp only[Zl7,Zm6];rw[this];simp[nI,Yq])
    have hlen:((ts.map aL.cells).take k).length=k:=(by simp;omega);rw[hlen]at Yp;rw[qF,fM,H4 h];simp only;by_cases h3:mU ts[k]=0
    .   by_cases h4:0<=scan (nI ts ts[k].name) k 0
        .refine⟨_,hg,?_⟩;have lK:k<=ts.length:=(by omega);simp only[tabs,Zp0]at Yp ⊢;simp[h,hch,h3,h4,lK,Yp,aL.len]
        .obtain⟨st',g1,g2⟩:=ih (k+1) _ dI (by omega) (by omega);refine⟨st',hg.trans g1,?_⟩;have lK:k<=ts.length:=(by omega);have e3:¬mU ts[k]≠0:=(by rw[h3];simp);simp only[e3,h4,Zh3];rw[<-g2];simp only[tabs,Zp0]at Yp ⊢;simp[h,hch,h3,h4,lK,Yp,w,aL.len]
    .   refine⟨_,hg,?_⟩;simp[tabs,h,hch,h3,aL.len]
  .obtain rfl:k=ts.length:=(by omega);refine⟨st,Grew.refl hw,?_⟩;rw[qF];simp[fM,tabs]
theorem JG(hc:Sem c)(z:Bool)(ts:List aL)(dH:∀t∈ts,t.Ok)(st:St)(hw:Wf st):c 66 [tabs z ts] st=some (.tuple [.int .i64 (bD ts).1,.int .i64 (bD ts).2],st):=by
 have ry:Plain (.tuple [.int .i64 (bD ts).1,.int .i64 (bD ts).2]):=Plain.tuple (by simp[Plain.int]);by_cases h:16<ts.length
 .rw[yL hc 20 (r:=(.tuple [.int .i64 (bD ts).1,.int .i64 (bD ts).2],st)),aK ry (bF.refl st)];rw[BN];have hi:(16:Int)<ts.length:=(by omega);simp[tabs,bD,h,hi]
 . have hi:¬(16:Int)<ts.length:=(by omega);have e:bD ts=fM ts 19 0:=(by rw[bD,Za5 h];exact Mp ts _ _ 0 (by omega) (by omega));have hex:=λk1 k2=>PG hc z ts dH (by omega) 20 k1 k2 19 0 st hw (by omega) (by omega)
   obtain⟨st',hg,L⟩:=hex (λvs s36=>ji vs λx2 vs=>ji vs λx3 vs=>pX vs (some (.tuple [x2,x3],s36))) (λvs s37=>pX vs (
     ak c .move [(.int .i64 0)] s37 λx2 s38=>ak c .move [(.int .i64 0)] s38 λx3 s39=>some (.tuple [x2,x3],s39)))
   rw[yL hc 20 (r:=(.tuple [.int .i64 (bD ts).1,.int .i64 (bD ts).2],st')),aK ry hg.keeps];rw[BN,e];simp only[tabs]at L;simp[tabs,hi]at L ⊢;rw[L];by_cases h2:(fM ts 19 0).2=0
   .have:=Mr ts 19 0 h2;simp[h2,this]
   .simp[h2]
def aX(ts:List aL):Int:=(ts.map cq).sum
theorem k9(ts:List aL):0<=aX ts/\aX ts<=1000*ts.length:=by
 induction ts with
 |nil=>simp[aX]
 |cons t ts ih=>
  have:=Df t;simp only[aX,Zc6,List.sum_cons,Ze2]at ih ⊢;omega
theorem Mt(ts:List aL)(t:aL):aX (ts++[t])=aX ts+cq t:=by simp[aX]
def s8(ts:List aL)(t:Int):Int:=if t<0\/(ts.length:Int)<=t\/(bD ts).2≠0 then 0 else aX (ts.take t.toNat)
theorem KD(hc:Sem c)(z:Bool)(ts:List aL)(dH:∀t∈ts,t.Ok)(st:St)(hw:Wf st):c 47 [tabs z ts] st=some (.bool (decide ((bD ts).2=0)),st):=by
 rw[Nz hc 1 (r:=(.bool (decide ((bD ts).2=0)),st)),aK (Plain.bool _) (bF.refl st)];rw[Sn];simp[JG hc z ts dH st hw]
theorem O3{ts:List aL}(h:(bD ts).2=0):ts.length<=16:=by
 unfold bD at h;split at h
 .simp at h
 .omega
theorem VR(hc:Sem c)(z:Bool)(ts:List aL)(hl:ts.length<=16)(F:Nat)(k2):∀(m k:Nat)(st:St),Wf st->ts.length<=k+m->k<=ts.length->
  ∃st',Grew st st'/\pn c F k2 (m+1) [.int .i64 (aX (ts.take k)),tabs z ts,.int .i64 (ts.length:Int),.int .i64 (k:Int)] st=k2 [.int .i64 (aX ts)] st':=by
 intro m;induction m with
 |zero=>
  intro k st hw h1 h2;obtain rfl:k=ts.length:=by omega
  refine⟨st,Grew.refl hw,?_⟩;rw[uW];simp
 |succ m ih=>
  intro k st hw h1 h2;by_cases h:k<ts.length
  . have w:ax .i64 ((k:Int)+1)=((k+1:Nat):Int):=wrap64 (by omega) (by omega);have dI:Wf (af st (.cells ts[k].cells 0)):=bR hw;have hg:=Grew.af hw (.cells ts[k].cells 0);have hs:=IW hc ts[k] _ dI;have e:aX (ts.take (k+1))=aX (ts.take k)+cq ts[k]:=by
        rw[Zd1 h,Mt]
    have b1:=k9 (ts.take k);have b2:=Df ts[k];have b3:(ts.take k).length<=16:=(by simp;omega);have w2:ax .i64 (aX (ts.take k)+cq ts[k])=aX (ts.take (k+1)):=(by rw[e];exact wrap64 (by omega) (by omega));obtain⟨st',g1,g2⟩:=ih (k+1) _ dI (by omega) (by omega);refine⟨st',hg.trans g1,?_⟩;rw[<-g2,uW];simp[tabs,h,hs,w,w2,aL.len]
  .obtain rfl:k=ts.length:=(by omega);refine⟨st,Grew.refl hw,?_⟩;rw[uW];simp
theorem So(hc:Sem c)(z:Bool)(ts:List aL)(dH:∀t∈ts,t.Ok)(k:Int)(st:St)(hw:Wf st):c 41 [tabs z ts,.int .i64 k] st=some (.int .i64 (s8 ts k),st):=by
 have lT:∀(K:AV->St->Option (AV×St))(s:St),ak c (.lenB .l) [tabs z ts] s K=K (.int .i64 (ts.length:Int)) s:=λK s=>by unfold tabs;rw[ke];simp
 have hv:=KD hc z ts dH st hw;by_cases h:k<0\/(ts.length:Int)<=k\/(bD ts).2≠0
 . have e:s8 ts k=0:=(by rw[s8,Za8 h]);rw[Dg hc 1 (r:=(.int .i64 (s8 ts k),st)),aK (Plain.int _ _) (bF.refl st)];rw[Hy,e];by_cases h1:k<0
   .simp[h1]
   . by_cases h2:(ts.length:Int)<=k
     .  simp[h1,h2,lT]
     .  have h3:(bD ts).2≠0:=h.resolve_left h1 |>.resolve_left h2;simp[h1,h2,h3,lT,hv]
 . have e:s8 ts k=aX (ts.take k.toNat):=(by rw[s8,Za5 h]);have h1:¬k<0:=λe=>h (.inl e)
   have h2:¬(ts.length:Int)<=k:=λe=>h (.inr (.inl e))
   have h3:(bD ts).2=0:=Classical.byContradiction λe=>h (.inr (.inr e))
   have hl:=O3 h3;obtain⟨n,rfl⟩:∃n:Nat,k=(n:Int):=⟨k.toNat,by omega⟩
   have hn:n<=ts.length:=(by omega);have hex:=λk2=>VR hc (z&&ts.isEmpty) (ts.take n) (by simp;omega) 20 k2 19 0 st hw (by simp;omega) (by omega)
   obtain⟨st',hg,L⟩:=hex (λvs Yr=>ji vs λx5 vs=>pX vs (ak c .move [x5] Yr λx34 Ys=>ak c .move [x34] Ys λx4 Yt=>some (x4,Yt)));rw[Dg hc 20 (r:=(.int .i64 (s8 ts (n:Int)),st')),aK (Plain.int _ _) hg.keeps];rw[Hy,e];have h4:¬ts.length<=n:=(by omega);have hm:min n ts.length=n:=(by omega);simp[tabs,aX,hm]at L;simp[h1,h4,h3,lT,hv];simp[tabs,hn,hm,aX,L]
theorem Tq(hc:Sem c)(z:Bool)(ts:List aL)(hl:ts.length<=16)(st:St)(hw:Wf st):c 48 [tabs z ts] st=some (.int .i64 (if h:0<ts.length then cq (ts[ts.length - 1]'(by omega))else 0),st):=by
 rw[I5 hc 1 (r:=(.int .i64 (if h:0<ts.length then cq (ts[ts.length - 1]'(by omega))else 0),st)),aK (Plain.int _ _) (bF.refl st)];rw[Mu];by_cases h:0<ts.length
 . have h1:¬(ts.length:Int)=0:=(by omega);have h2:ts≠[]:=λe=>by subst e;simp at h
   have w:ax .i64 ((ts.length:Int) - 1)=((ts.length - 1:Nat):Int):=(by rw[wrap64 (by omega) (by omega)];omega);have h3:ts.length - 1<ts.length:=(by omega);have hs:=IW hc (ts[ts.length - 1]'(by omega)) st hw;simp[tabs,h,h1,h2,w,h3,hs]
 .have h1:ts=[]:=Zb1 (by omega);subst h1;simp[tabs]
theorem Yu{ts:List aL}(hv:(bD ts).2=0):s8 ts ((ts.length:Int) - 1)+(if h:0<ts.length then cq (ts[ts.length - 1]'(by omega))else 0)=aX ts:=by
 by_cases h:0<ts.length
 .rw[dif_pos h,s8,Za5 (by simp[hv];omega)];have e:((ts.length:Int) - 1).toNat=ts.length - 1:=(by omega);rw[e, <-Mt, <-Zd1 (by omega)];rw[show ts.length - 1+1=ts.length by omega,Zh6]
 .have h1:ts=[]:=Zb1 (by omega);subst h1;simp[s8,aX]
theorem wP(hc:Sem c)(z:Bool)(ts:List aL)(dH:∀t∈ts,t.Ok)(st:St)(hw:Wf st):c 30 [tabs z ts] st=some (.int .i64 (if(bD ts).2=0 then aX ts else 0),st):=by
 rw[NA hc 1 (r:=(.int .i64 (if(bD ts).2=0 then aX ts else 0),st)),aK (Plain.int _ _) (bF.refl st)];rw[Sp];have lT:∀(K:AV->St->Option (AV×St))(s:St),ak c (.lenB .l) [tabs z ts] s K=K (.int .i64 (ts.length:Int)) s:=λK s=>by unfold tabs;rw[ke];simp
 have hv:=KD hc z ts dH st hw;by_cases h:(bD ts).2=0
 .have hl:=O3 h;have w:ax .i64 ((ts.length:Int) - 1)=(ts.length:Int) - 1:=wrap64 (by omega) (by omega);have hf:=So hc z ts dH ((ts.length:Int) - 1) st hw;have hla:=Tq hc z ts hl st hw;have b:=k9 ts;have e:=Yu h;rw[Za8 h, <-e];rw[<-e]at b;generalize s8 ts ((ts.length:Int) - 1)=x at hf b ⊢;generalize (if h:0<ts.length then cq (ts[ts.length - 1]'(by omega))else 0)=y at hla b ⊢;have w2:ax .i64 (x+y)=x+y:=wrap64 (by omega) (by omega);simp[hv,h,lT,w,hf,hla,w2]
 .simp[hv,h]
theorem ach(hc:Sem c)(z:Bool)(ts:List aL)(dH:∀t∈ts,t.Ok)(hl:ts.length<sw)(s:List Nat)(st:St)(hw:Wf st):c 102 [tabs z ts,.str s] st=
   some (.tuple [.int .i64 (if 0<=scan (nI ts s) ts.length 0/\(bD ts).2=0 then scan (nI ts s) ts.length 0 else 0),.bool (decide (0<=scan (nI ts s) ts.length 0/\(bD ts).2=0))],st):=by
 rw[PI hc 1 (r:=(.tuple [.int .i64 (if 0<=scan (nI ts s) ts.length 0/\(bD ts).2=0 then scan (nI ts s) ts.length 0 else 0),.bool (decide (0<=scan (nI ts s) ts.length 0/\(bD ts).2=0))],af st (.cells [.str s] 0))),
   aK (Plain.tuple (by simp[Plain.int,Plain.bool])) (cE hw)]
 rw[Tr];have dI:Wf (af st (.cells [.str s] 0)):=bR hw;have hi:=UE hc z (ts.map aL.cells) (by simpa using hl) (λcs fH=>by
     simp only[Zf4]at fH;obtain⟨t,_,rfl⟩:=fH;rfl) 146 [.ptr st.next 0] (nI ts s) (af st (.cells [.str s] 0)) (λi hi=>by
     have Yq:i<ts.length:=(by simpa using hi);have:=aaL hc ts[i] s st.next (af st (.cells [.str s] 0)) dI (aC _ _);simp only[Zm6];rw[this];simp[nI,Yq])
 rw[Zb2]at hi;have hv:=KD hc z ts dH _ dI;simp only[tabs]at hv ⊢;have e:(AV.str s).cells=[.str s]:=rfl;by_cases h1:0<=scan (nI ts s) ts.length 0
 . have h2:¬scan (nI ts s) ts.length 0<0:=(by omega);by_cases h3:(bD ts).2=0
   .simp[e,hi,h1,h2,h3,hv]
   .simp[e,hi,h1,h2,h3,hv]
 .have h2:scan (nI ts s) ts.length 0<0:=(by omega);simp[e,hi,h1,h2]
structure aO where
 name:List Nat
 yp:List Nat
 s9:List Nat
 since:Int
 side:Int
 nJ:List Nat
 host:Bool
 access:Bool
 tz:Bool
 tg:List (List Nat)
def mW(z:Bool)(l:List (List Nat)):AV:=ro 1 z (l.map λs=>[.str s])
def aO.cells(g:aO):List AV:=[.str g.name,.str g.yp,.str g.s9,.int .i64 g.since,.int .i64 g.side,.str g.nJ,.bool g.host,.bool g.access,mW g.tz g.tg]
@[simp] theorem aaM(z:Bool)(l:List (List Nat)):(mW z l).one=true:=XC _ _ _
@[simp] theorem aeb{R:Type}(c:ai)(K:AV->St->Option R)(st:St)(z:Bool)(l:List (List Nat)):ak c (.lenB .l) [mW z l] st K=K (.int .i64 (l.length:Int)) st:=by unfold mW;rw[ke];simp
@[simp] theorem aec{R:Type}(c:ai)(K:AV->St->Option R)(st:St)(z:Bool)(l:List Int):ak c (.lenB .l) [ints z l] st K=K (.int .i64 (l.length:Int)) st:=by unfold ints;rw[ke];simp
@[simp] theorem aO.c0(t:aO):t.cells[0]? =some (.str t.name):=id rfl
@[simp] theorem aO.c1(t:aO):t.cells[1]? =some (.str t.yp):=id rfl
@[simp] theorem aO.c2(t:aO):t.cells[2]? =some (.str t.s9):=id rfl
@[simp] theorem aO.c3(t:aO):t.cells[3]? =some (.int .i64 t.since):=id rfl
@[simp] theorem aO.c4(t:aO):t.cells[4]? =some (.int .i64 t.side):=id rfl
@[simp] theorem aO.c5(t:aO):t.cells[5]? =some (.str t.nJ):=id rfl
@[simp] theorem aO.c6(t:aO):t.cells[6]? =some (.bool t.host):=id rfl
@[simp] theorem aO.c7(t:aO):t.cells[7]? =some (.bool t.access):=id rfl
@[simp] theorem aO.c8(t:aO):t.cells[8]? =some (mW t.tz t.tg):=id rfl
@[simp] theorem aO.cc(t:aO):cut t.cells 0 9=some t.cells:=bI rfl
@[simp] theorem aO.one(t:aO):aQ t.cells=true:=by unfold aO.cells;simp only[aQ,aaM];rfl
def eN(z:Bool)(gs:List aO):AV:=ro 9 z (gs.map aO.cells)
@[simp] theorem aaN{R:Type}(c:ai)(K:AV->St->Option R)(st:St)(z:Bool)(l:List aO):ak c (.lenB .l) [eN z l] st K=K (.int .i64 (l.length:Int)) st:=by unfold eN;rw[ke];simp
def aft(last:Option (List Nat))(s:List Nat):Bool:=match last with
 |none=>true
 |some p=>aB p s
@[simp] theorem aaO(s:List Nat):aft none s=true:=id rfl
@[simp] theorem aaP(p s:List Nat):aft (some p) s=aB p s:=id rfl
def Dh(last:Option (List Nat)):List (List Nat)->Bool
 |[]=>true
 |s::l=>jS s&&aft last s&&Dh (some s) l
theorem aaQ(last:Option (List Nat))(s:List Nat)(l:List (List Nat)):Dh last (s::l)=(jS s&&aft last s&&Dh (some s) l):=rfl
def fZ(g:aO):Int:=
 if(jS g.name&&rE g.yp&&rE g.s9&&rE g.nJ)=false then 4 else if ¬(0<=g.since/\g.since<=9999)then 21 else if ¬(0<=g.side/\g.side<=2)then 20
 else if 4<g.tg.length then 22 else if Dh none g.tg=false then 22 else 0
theorem wQ:∀(a:List Nat),aB a a=false
 |[]=>rfl
 |x::a=>by
  unfold aB;simp[zl,eu,wQ a]
theorem Hz:∀(a b:List Nat),aB a b=true->aB b a=false
 |[],[],h=>by simp[aB]at h
 |[],_::_,_=>rfl
 |_::_,[],h=>by simp[aB]at h
 |x ::a,y::b,h=>by
  unfold aB at h ⊢;simp only[zl,eu]at h ⊢;by_cases h1:x<y
  .have:¬y<x:=(by omega);have h3:¬y=x:=(by omega);simp[this,h3]
  . by_cases h2:x=y
    .subst h2;simp at h ⊢; exact Hz a b h
    .simp[h1,h2]at h
theorem zw:∀(a b:List Nat),aB a b=false->aB b a=false->a=b
 |[],[],_,_=>rfl
 |[],_::_,h,_=>by simp[aB]at h
 |_::_,[],_,h=>by simp[aB]at h
 |x ::a,y::b,h,k=>by
  unfold aB at h k;simp only[zl,eu]at h k;by_cases h1:x<y
  .simp[h1]at h
  . by_cases h2:y<x
    .   simp[h2]at k
    .   have:x=y:=(by omega);subst this;simp at h k;rw[zw a b h k]
theorem EK:∀(a b d:List Nat),aB a b=true->aB b d=true->aB a d=true
 |_,[],[],_,h=>by simp[aB]at h
 |_,_::_,[],_,h=>by simp[aB]at h
 |[],_,_::_,_,_=>rfl
 |_::_,[],_::_,h,_=>by simp[aB]at h
 |x ::a   ,y::b,z::d,h,k=>by
  unfold aB at h k ⊢;simp only[zl,eu]at h k ⊢;by_cases h1:x<y
  . by_cases h2:y<z
    .   have:x<z:=(by omega);simp[this]
    .   by_cases h3:y=z
        .subst h3;simp[h1]
        .simp[h2,h3]at k
  . by_cases h2:x=y
    .   subst h2;simp at h;by_cases h4:x<z
        .simp[h4]
        . by_cases h5:x=z
          .subst h5;simp at k ⊢; exact EK a b d h k
          .simp[h4,h5]at k
    .   simp[h1,h2]at h
theorem KE(hc:Sem c)(p:Pos)(g:aO)(hl:g.tg.length<=4)(F:Nat)(st:St)(hp:st.heap.get p=some (.cells g.cells 0))(k1 k3):∀(m k:Nat),g.tg.length<=k+m->k<=g.tg.length->
  kJ c F k1 k3 (m+1) [.ptr p 0,mW g.tz g.tg,.int .i64 (g.tg.length:Int),.int .i64 (k:Int)] st=if Dh (if k=0 then none else g.tg[k - 1]?) (g.tg.drop k)=true then k3 [] st else k1 [.int .i64 22] st:=by
 intro m;induction m with
 |zero=>
  intro k h1 h2;rw[Ay];obtain rfl:k=g.tg.length:=by omega
  simp[Dh]
 |succ m ih=>
  intro k h1 h2;rw[Ay];by_cases h:k<g.tg.length
  . have e:g.tg.drop k=g.tg[k]::g.tg.drop (k+1):=Ze7 h;have w:ax .i64 ((k:Int)+1)=((k+1:Nat):Int):=wrap64 (by omega) (by omega);have hn:=ym hc g.tg[k] st;have:=ih (k+1) (by omega) (by omega);have e2:(if k+1=0 then none else g.tg[k+1 - 1]?)=some g.tg[k]:=(by rw[Za5 (by omega),Ze9,H4 h]);rw[e2]at this;rw[e,aaQ];generalize Dh (some g.tg[k]) (g.tg.drop (k+1))=rest at this ⊢;by_cases h3:jS g.tg[k]=true
    .   by_cases h0:k=0
        .have hk:¬0<k:=(by omega);simp only[h3,Za8 h0,Zf5,aaO];rw[<-this];simp[mW,h,hn,h3,hk,w]
        . have hk:0<k:=(by omega);have sy:k - 1<g.tg.length:=(by omega);have wk:ax .i64 ((k:Int) - 1)=((k - 1:Nat):Int):=(by rw[wrap64 (by omega) (by omega)];omega);simp only[h3,Za5 h0,H4 sy,Zf5,aaP];cases hb:aB g.tg[k - 1] g.tg[k]
          .simp[mW,h,hn,h3,hk,sy,wk,hp,hb]
          .simp only[Zf5];rw[<-this];simp[mW,h,hn,h3,hk,sy,wk,hp,hb,w]
    .   simp[mW,h,hn,h3]
  .obtain rfl:k=g.tg.length:=(by omega);simp[Dh]
theorem NB(hc:Sem c)(g:aO)(st:St)(hw:Wf st):c 192 [.agg g.cells] st=some (.int .i64 (fZ g),st):=by
 rw[Mw hc 6 (r:=(.int .i64 (fZ g),af st (.cells g.cells 0))),aK (Plain.int _ _) (cE hw)];rw[PJ];have n0:=ym hc g.name;have n1:=yo hc g.yp;have n2:=yo hc g.s9;have n5:=yo hc g.nJ;by_cases hn:(jS g.name&&rE g.yp&&rE g.s9&&rE g.nJ)=true
 . have Yv:=hn;simp only[Za7]at Yv;obtain⟨⟨⟨b0,b1⟩,b2⟩,b5⟩:=Yv;unfold fZ;rw[hn];by_cases h1:g.since<0
   .have:¬(0<=g.since/\g.since<=9999):=(by omega);simp[n0,n1,n2,n5,b0,b1,b2,b5,h1,this]
   by_cases h2:9999<g.since
   .have:¬(0<=g.since/\g.since<=9999):=(by omega);simp[n0,n1,n2,n5,b0,b1,b2,b5,h1,h2,this]
   have h3:0<=g.since/\g.since<=9999:=(by omega);by_cases h4:g.side<0
   .have:¬(0<=g.side/\g.side<=2):=(by omega);simp[n0,n1,n2,n5,b0,b1,b2,b5,h1,h2,h3,h4,this]
   by_cases h5:2<g.side
   .have:¬(0<=g.side/\g.side<=2):=(by omega);simp[n0,n1,n2,n5,b0,b1,b2,b5,h1,h2,h3,h4,h5,this]
   have h6:0<=g.side/\g.side<=2:=(by omega);by_cases h7:4<g.tg.length
   .have h8:(4:Int)<g.tg.length:=(by omega);simp[n0,n1,n2,n5,b0,b1,b2,b5,h1,h2,h3,h4,h5,h6,h7,h8]
   . have h8:¬(4:Int)<g.tg.length:=(by omega);have L:∀k1 k3,kJ c 6 k1 k3 6 [.ptr st.next 0,mW g.tz g.tg,.int .i64 (g.tg.length:Int),.int .i64 0] (af st (.cells g.cells 0))=if Dh none (g.tg.drop 0)=true then k3 [] (af st (.cells g.cells 0))else k1 [.int .i64 22] (af st (.cells g.cells 0)):=
        λk1 k3=>KE hc st.next g (by omega) 6 _ (aC _ _) k1 k3 5 0 (by omega) (by omega)
     rw[Ze3]at L;generalize Dh none g.tg=b at L ⊢;cases b<;>simp[n0,n1,n2,n5,b0,b1,b2,b5,h1,h2,h3,h4,h5,h6,h7,h8,L]
 . have Q3:(jS g.name&&rE g.yp&&rE g.s9&&rE g.nJ)=false:=(by simpa using hn);have hx:fZ g=4:=(by unfold fZ;rw[Q3];simp);rw[hx];cases b0:jS g.name
   .simp[n0,b0]
   . cases b1:rE g.yp
     .  simp[n0,n1,b0,b1]
     .  cases b2:rE g.s9
        .simp[n0,n1,n2,b0,b1,b2]
        . cases b5:rE g.nJ
          .simp[n0,n1,n2,n5,b0,b1,b2,b5]
          .simp[b0,b1,b2,b5]at hn
structure Ty where
 a:List Nat
 b:List Nat
 k:Int
def Ty.cells(t:Ty):List AV:=[.str t.a,.str t.b,.int .u8 t.k]
@[simp] theorem Ty.c0(t:Ty):t.cells[0]? =some (.str t.a):=id rfl
@[simp] theorem Ty.c1(t:Ty):t.cells[1]? =some (.str t.b):=id rfl
@[simp] theorem Ty.c2(t:Ty):t.cells[2]? =some (.int .u8 t.k):=id rfl
@[simp] theorem Ty.cc(t:Ty):cut t.cells 0 3=some t.cells:=bI rfl
theorem Ty.len(t:Ty):t.cells.length=3:=id rfl
@[simp] theorem Ty.one(t:Ty):aQ t.cells=true:=id rfl
@[simp] theorem adh{R:Type}(c:ai)(K:AV->St->Option R)(st:St)(t:Ty)(x y z:AV):ak c (.store 3) [.ptr st.next 0,.agg t.cells] (af st (.cells [x,y,z] 0)) K=K .undef (af st (.cells t.cells 0)):=dx c K st 3 (.agg t.cells) [x,y,z] rfl rfl t.one
def j4(z:Bool)(ts:List Ty):AV:=ro 3 z (ts.map Ty.cells)
@[simp] theorem aaR{R:Type}(c:ai)(K:AV->St->Option R)(st:St)(z:Bool)(l:List Ty):ak c (.lenB .l) [j4 z l] st K=K (.int .i64 (l.length:Int)) st:=by unfold j4;rw[ke];simp
def jT(gs:List aO)(s:List Nat)(i:Nat):Bool:=decide (gs[i]?.map aO.name=some s)
def eF(s t:Ty):Bool:=aB s.a t.a||(decide (s.a=t.a)&&aB s.b t.b)
def uX(a b:List Nat):Int:=if aB a b=true then -1 else if aB b a=true then 1 else 0
theorem acX(hc:Sem c)(a b:List Nat)(st:St):c 238 [.str a,.str b] st=some (.int .i64 (uX a b),st):=by unfold Sem at hc;subst hc;refine LJ (s:=Gf) (by rfl) ?_;show some (AV.int .i64 (match aB a b with|true=>.negSucc 0|false=>match aB b a with|true=>.ofNat 1|false=>.ofNat 0),st)=_;unfold uX;generalize aB a b=p;generalize aB b a=q;cases p<;>cases q<;>rfl
theorem KF(hc:Sem c)(a b:List Nat)(st:St):c 223 [.str a,.str b] st=some (.int .i64 (uX a b),st):=by
 rw[zx hc 1 (r:=(.int .i64 (uX a b),st)),aK (Plain.int _ _) (bF.refl st)];rw[Bf];simp[acX hc]
theorem Mx(hc:Sem c)(a b:List Nat)(st:St):c 194 [.str a,.str b] st=some (.int .i64 (uX a b),st):=by
 rw[FY hc 1 (r:=(.int .i64 (uX a b),st)),aK (Plain.int _ _) (bF.refl st)];rw[I6];simp[KF hc]
theorem UF{a b:List Nat}:uX a b=0↔a=b:=by
 unfold uX;cases h1:aB a b
 . cases h2:aB b a
   .simp;exact zw _ _ h1 h2
   .simp;intro e;subst e;rw[wQ]at h2;cases h2
 .simp;intro e;subst e;rw[wQ]at h1;cases h1
def nK(s t:Ty):Int:=if s.a=t.a then uX s.b t.b else uX s.a t.a
theorem Az(hc:Sem c)(s t:Ty)(st:St)(hw:Wf st):c 174 [.agg s.cells,.agg t.cells] st=some (.int .i64 (nK s t),st):=by
 rw[My hc 1 (r:=(.int .i64 (nK s t),af (af st (.cells s.cells 0)) (.cells t.cells 0))),aK (Plain.int _ _) ((cE hw).trans (cE (bR hw)))];rw[PM];by_cases h:s.a=t.a
 .have:uX t.a t.a=0:=UF.2 rfl;simp[nK,Mx hc,h,this]
 . have:¬uX s.a t.a=0:=λe=>h (UF.1 e)
   simp[nK,Mx hc,h,this]
theorem NC{s t:Ty}:nK s t<0↔eF s t=true:=by
 unfold nK eF uX;by_cases h:s.a=t.a
 .simp only[h,wQ,Zg8];cases aB s.b t.b<;>cases aB t.b s.b<;>simp
 .simp only[h,Zh3];cases aB s.a t.a<;>cases aB t.a s.a<;>simp
theorem IX{s t:Ty}:0<nK s t↔eF t s=true:=by
 unfold nK eF uX;by_cases h:s.a=t.a
 . simp only[h,wQ,Zg8];cases h1:aB s.b t.b
   .cases aB t.b s.b<;>simp
   .simp[Hz _ _ h1]
 . have h':¬t.a=s.a:=λe=>h e.symm
   simp only[h,h',Zh3];cases h1:aB s.a t.a
   .cases aB t.a s.a<;>simp
   .simp[Hz _ _ h1]
theorem UG(hc:Sem c)(a b:List Nat)(k:Int)(aU:aB a b=true)(st:St)(hw:Wf st):c 197 [.str a,.str b,.int .u8 k] st=some (.agg (Ty.cells ⟨a,b,k⟩),st):=by
 rw[ND hc 1 (r:=(.agg (Ty.cells ⟨a,b,k⟩),af st (.cells (Ty.cells ⟨a,b,k⟩) 0))),aK (Plain.agg (by simp[Ty.cells,Plain.str,Plain.int])) (cE hw)];rw[Sq];have m1:∀(K:AV->St->Option (AV×St))(s:St),ak c .minB [.str a,.str b] s K=K (.str a) s:=λK s=>aW c K (λH n=>by simp[ay.run,zB,aU]) s
 have m2:∀(K:AV->St->Option (AV×St))(s:St),ak c .maxB [.str a,.str b] s K=K (.str b) s:=λK s=>aW c K (λH n=>by simp[ay.run,zC,aU]) s
 simp[m1,m2,b6,aM,eV,AV.cells,aQ,AV.one,bI,Ty.cells]
def jX(gs:List aO):Nat->Nat->Int×Int
 |0,_=>(0,0)
 |  m+1,k=>match gs[k]? with
    |none=>(0,0)
    |some g=>if fZ g≠0 then((k:Int),fZ g)else if 0<=scan (jT gs g.name) k 0 then((k:Int),5)else if 64<=k then((k:Int),7)else jX gs m (k+1)
def kf(ts:List Ty)(k:Nat):Option Ty:=if k=0 then none else ts[k - 1]?
def JH(t:Ty):Bool:=decide (t.k=1)||decide (t.k=2)
def Qi(t:Ty)(p:Option Ty):Bool:= !JH t|| !aB t.a t.b||(match p with|none=>false|some p=>eF t p)
def oF(t:Ty)(p:Option Ty):Bool:=match p with|none=>false|some p=> !eF p t
def lJ(gs:List aO)(t:Ty):Bool:=decide (scan (jT gs t.a) gs.length 0<0)||decide (scan (jT gs t.b) gs.length 0<0)
def gb(gs:List aO)(ts:List Ty):Nat->Nat->Int×Int
 |0,_=>(0,0)
 |  m+1,k=>match ts[k]? with
    |none=>(0,0)
    |some t=>if Qi t (kf ts k)=true then((gs.length:Int)+k,23)else if lJ gs t=true then((gs.length:Int)+k,6)
     else if oF t (kf ts k)=true then((gs.length:Int)+k,5)else if 256<=k then((gs.length:Int)+k,7)else gb gs ts m (k+1)
def cI(gs:List aO)(ts:List Ty):Int×Int:=if(jX gs 101 0).2≠0 then jX gs 101 0 else gb gs ts 101 0
theorem aaS{gs:List aO}{s:List Nat}{k:Nat}(hk:k<=gs.length):scan (jT (gs.take k) s) k 0=scan (jT gs s) k 0:=
 Mo k 0 λi _ hi=>by simp[jT,Zb8,show i<k by omega]
theorem Mz (gs:List aO)(ts:List Ty):∀(m k:Nat),(gb gs ts m k).2=0->(gb gs ts m k).1=0
 |0,_,_=>rfl
 |m +   1,k , h=>by
  rw[gb]at h ⊢;split at h
  .rfl
  . split   at h
    .   simp at h
    .   split at h
        .simp at h
        . split at h
          .simp at h
          . split at h
            .simp at h
            .rename_i h1 h2 h3 h4;rw[Za5 h1,Za5 h2,Za5 h3,Za5 h4];exact Mz gs ts m (k+1) h
abbrev EL(s:List Nat):List AV:=[.str s]
theorem aaT(l:List (List Nat)):∀r∈l.map EL,r.length=1:=λr hr=>by simp only[Zf4]at hr;obtain⟨m,_,rfl⟩:=hr;rfl
theorem aaU{s:St}(z:Bool)(l:List (List Nat)):Src 1 s (mW z l) (l.map EL):=Src.ro z _
theorem Yw(hc:Sem c){src:AV}(l:List (List Nat))(hl:l.length<=1000)(s:St)(hw:Wf s)(h:Src 1 s src (l.map EL)):∃v s',c 222 [src] s=some (v,s')/\Mk 1 s s' v (l.map EL):=by
 rcases h.nil with⟨rfl,h0⟩|hn
 . (refine⟨.ah,s,?_,by rw[h0];exact Mk.start hw (Grew.refl hw)⟩;rw[mG hc 1 (r:=(.ah,s)),aK Plain.ah (bF.refl s)];rw[nL];have e:∀(K:AV->St->Option (AV×St))(s:St),ak c (.bin .eql .slice) [.ah,.ah] s K=K (.bool true) s:=λK s=>aW c K (λH n=>rfl) s);simp[e]
 .obtain⟨v,s',a1,a2⟩:=XK (c:=c) (R:=AV×St) (bytes:=16) (z:=[.str []]) (aaT l) (by decide) (by simp;omega) (by simp;omega) s hw h;obtain⟨jR,t1,t2⟩:=a2.tidy;refine⟨v,jR,?_,t2⟩;rw[mG hc 1 (r:=(v,s')),t1];rw[nL];simp only[aE,hn,lF];rw[a1]
def aO.au(g:aO)(v:AV):List AV:=[.str g.name,.str g.yp,.str g.s9,.int .i64 g.since,.int .i64 g.side,.str g.nJ,.bool g.host,.bool g.access,v]
theorem aO.Yx(g:aO):g.au (mW g.tz g.tg)=g.cells:=rfl
theorem aO.KA(t:aO){v:AV}(h:aQ [v]=true):aQ (t.au v)=true:=by
 simp only[aQ]at h;unfold aO.au;simp only[aQ,AV.one,h,Zj2,Zk9]at*
structure aO.Low(g:aO):Prop where
 name:∀x∈g.name,x<256
 yp:∀x∈g.yp,x<256
 s9:∀x∈g.s9,x<256
 nJ:∀x∈g.nJ,x<256
theorem Yy(hc:Sem c)(g:aO)(hg:g.Low)(hl:g.tg.length<=1000){src:AV}(s:St)(hw:Wf s)(h:Src 1 s src (g.tg.map EL))(h1:src.cells=[src])(h2:src.one=true):
  ∃v s',c 193 [.agg (g.au src)] s=some (.agg (g.au v),s')/\Mk 1 s s' v (g.tg.map EL):=by
 let zero:List AV:=[.str [],.str [],.str [],.int .i64 0,.int .i64 0,.str [],.bool false,.bool false,.ah]
 have nu:Wf (af (af s (.cells (g.au src) 0)) (.cells zero 0)):=bR (bR hw);have xN:=(Grew.af hw (.cells (g.au src) 0)).trans (Grew.af (bR hw) (.cells zero 0));obtain⟨v,s3,h3,M⟩:=Yw hc g.tg hl _ nu (h.aA xN);have M0:=M.back hw xN;have hx:s3.heap.get s.next=some (.cells (g.au src) 0):=M.aA.get uK;have hy:s3.heap.get (af s (.cells (g.au src) 0)).next=some (.cells zero 0):=M.aA.get (aC _ _);obtain⟨Yl,hvo⟩:=M.cells;have cG:s.next≠(af s (.cells (g.au src) 0)).next:=Pos.M7 _;have VF:s.next.toNat<s3.next.toNat:=by have:=M.aA.next;rw[c9,c9,Pos.az,Pos.az]at this;omega
 have aaf:(af s (.cells (g.au src) 0)).next.toNat<s3.next.toNat:=by have:=M.aA.next;rw[c9,Pos.az]at this;omega
 have vo:v.one=true:=qx hvo;have yH:aM (g.au src) 8 [v]=g.au v:=rfl;have Oi:aQ (g.au v)=true:=g.KA hvo;have hro0:aQ (g.au src)=true:=g.KA (by simp only[aQ,h2]);have new:∀b,bg v=some b->(af s (.cells (g.au src) 0)).next.toNat<b.toNat:=λb hb=>by have:=M.new b hb;rw[c9,Pos.az]at this;omega
 have GG:s.next.toNat<(af s (.cells (g.au src) 0)).next.toNat:=by rw[c9,Pos.az];omega
 let s4:=cv s3 s.next (.cells (g.au v) 0)
 let s5:=cv s4 (af s (.cells (g.au src) 0)).next (.cells (g.au v) 0)
 have hx4:s4.heap.get s.next=some (.cells (g.au v) 0):=ej _ _ _;have hy4:s4.heap.get (af s (.cells (g.au src) 0)).next=some (.cells zero 0):=by show(cv s3 s.next (.cells (g.au v) 0)).heap.get _=_;rw[bt cG];exact hy
 have hy5:s5.heap.get (af s (.cells (g.au src) 0)).next=some (.cells (g.au v) 0):=ej _ _ _;have M4:Mk 1 s s4 v (g.tg.map EL):=M0.store (Za4 _) VF (λe=>by have:=new _ e;omega);have M5:Mk 1 s s5 v (g.tg.map EL):=M4.store (by omega) aaf (λe=>by have:=new _ e;omega);have hi:∀u∈g.au v,gJ u:=λu hu=>by
  simp only[aO.au,Za9,Ze4,Zj0]at hu;rcases hu with rfl|rfl|rfl|rfl|rfl|rfl|rfl|rfl|rfl
  .exact gJ.str hg.name
  .exact gJ.str hg.yp
  .exact gJ.str hg.s9
  .exact gJ.int _ _
  .exact gJ.int _ _
  .exact gJ.str hg.nJ
  .exact gJ.bool _
  .exact gJ.bool _
  .exact M.inst
 obtain⟨jR,t1,_,t2⟩:=M5.Ex (l:=g.au v) (by simp[aO.au]) hi;refine⟨v,jR,?_,t2⟩;rw[KG hc 1 (r:=(.agg (g.au v),s5)),t1];rw[NF];have aJ:=λ(K:AV->St->Option (AV×St))=>dU c K s3 1 s.next 8 v (g.au src) hx (by rw[Yl];rfl) (by simp[aO.au]) (by rw[Yl];exact hvo)
 rw[Yl,yH]at aJ;have jz:=λ(K:AV->St->Option (AV×St))=>dU c K s4 9 (af s (.cells (g.au src) 0)).next 0 (.agg (g.au v)) _ hy4 rfl (by simp[zero,aO.au]) Oi
 have hsp2:aM zero 0 (AV.agg (g.au v)).cells=g.au v:=rfl;rw[hsp2]at jz;have hcut:cut (g.au v) 0 9=some (g.au v):=bI rfl;have g8:(g.au src)[8]? =some src:=rfl;have st2':∀(K:AV->St->Option (AV×St)),ak c (.store 9) [.ptr (af s (.cells (g.au src) 0)).next 0,.agg (g.au v)] (cv s3 s.next (.cells (g.au v) 0)) K=K .undef s5:=λK=>jz K
 have bx:∀(K:AV->St->Option (AV×St)),ak c .box [.agg (g.au src)] s K=K (.ptr s.next 0) (af s (.cells (g.au src) 0)):=λK=>by rw[pH];rfl
 simp[bx,h3,g8,zero,aJ,hcut];rw[st2'];simp only[hy5,aS,Zd5,hcut,qv]
theorem PN(b:Pos)(off:Nat):¬Plain (.ptr b off):=λh=>by
 have:=h (λ_=>⟨0,0,0⟩) (λ_=>⟨0,0,0⟩) (b.toNat+1) 0 (λ_=>none) _ (.ptr b off (by omega));cases this with
 |ptr _ _ h=>omega
theorem aaV{s s':St}{b:Pos}{off:Nat}:tidy s (.ptr b off,s')=(.ptr b off,s'):=by unfold tidy;rw[Za5];exact λh=>PN _ _ h.1
theorem acY(hc:Sem c)(s:St):c 172 [] s=some (.ptr (af s (.map [] 0)).next 0,af (af s (.map [] 0)) (.cells [.ah,.ah,.map s.next] 0)):=by
 rw[PO hc 1 (r:=(.ptr (af s (.map [] 0)).next 0,af (af s (.map [] 0)) (.cells [.ah,.ah,.map s.next] 0))),aaV];rw[Ts];simp[b6,aM,eV,AV.cells]
def jE(k:Option Pos)(n es:Nat):AV:=match k with
 |none=>.ah
 |some b=>.slice b 0 n none es
theorem EM{k:Option Pos}{n es:Nat}(h:k=none->n=0):∀H p,ay.run H p (.lenB .l) [jE k n es]=some (.val (.int .i64 (n:Int))):=λH p=>by
 cases k with
 |none=>rw[h rfl];rfl
 |some b=>rfl
def VS(s0 s:St)(bp:Pos)(gk tk:Option Pos)(g:aO)(row:List AV):Prop:=g.Low/\g.tg.length<=4/\∃v,row=g.au v/\v.cells=[v]/\v.one=true/\QS 1 s v (g.tg.map EL)/\∀p,bg v=some p->p≠bp/\gk≠some p/\tk≠some p/\s0.heap.get p=none
theorem Yz{es:Nat}{s:St}{v:AV}{rows:List (List AV)}(h:QS es s v rows){b:Pos}(hb:bg v=some b):∃cs,s.heap.get b=some (.cells cs 0):=by
 rcases h with⟨rfl,rfl⟩|⟨b',off,cap,cs,rfl,h1,_⟩|⟨b',off,rfl,rfl⟩
 .cases hb
 .obtain rfl:=OG hb;exact⟨cs,h1⟩
 .rw[jq]at hb;cases hb
theorem VS.to{s0 s s':St}{bp:Pos}{gk tk FE nE:Option Pos}{g:aO}{row:List AV}(h:VS s0 s bp gk tk g row)
   (hk:∀p cs,p≠bp->gk≠some p->tk≠some p->s.heap.get p=some (.cells cs 0)->s'.heap.get p=some (.cells cs 0)/\FE≠some p/\nE≠some p):VS s0 s' bp FE nE g row:=by
 obtain⟨h1,h2,v,h3,h4,h5,h6,h7⟩:=h;refine⟨h1,h2,v,h3,h4,h5,h6.mono λb x hb hx=> ?_,λp hp=> ?_⟩
 .obtain⟨cs,h8⟩:=Yz h6 hb;rw[h8]at hx;cases hx;obtain⟨a1,a2,a3,_⟩:=h7 b hb;exact(hk b cs a1 a2 a3 h8).1
 .obtain⟨cs,h8⟩:=Yz h6 hp;obtain⟨a1,a2,a3,a4⟩:=h7 p hp;exact⟨a1,(hk p cs a1 a2 a3 h8).2.1,(hk p cs a1 a2 a3 h8).2.2,a4⟩
structure ff(s0 s:St)(bp mp:Pos)(gs:List aO)(ts:List Ty)(gk tk:Option Pos):Prop where
 wf:Wf s
 keeps:bF s0 s
 next:s0.next.toNat<=s.next.toNat
 book:s.heap.get bp=some (.cells [jE gk gs.length 9,jE tk ts.length 3,.map mp] 0)
 AA:∃es cl,s.heap.get mp=some (.map es cl)/\es.map (·.1)=gs.map λg=>.str g.name
 qf:(gk=none->gs=[])/\∀b,gk=some b->∃cs,s.heap.get b=some (.cells cs 0)/\cs.length=gs.length*9
 xV:(tk=none->ts=[])/\∀b,tk=some b->s.heap.get b=some (.cells (ts.flatMap Ty.cells) 0)
 dg:gk≠some bp
 dt:tk≠some bp
 O4:∀b,gk=some b->tk≠some b
 fb:s0.heap.get bp=none
 fm:s0.heap.get mp=none
 fg:∀b,gk=some b->s0.heap.get b=none
 ft:∀b,tk=some b->s0.heap.get b=none
 KH:∀es cl,s.heap.get mp=some (.map es cl)->∀e∈es,∃i:Nat,e.2.1= .int .i64 (i:Int)/\i<gs.length
 KI:∀es cl,s.heap.get mp=some (.map es cl)->es.map (λe=>e.2.1)=(List.range gs.length).map λ(i:Nat)=>AV.int .i64 (i:Int)
 rows:∀b cs,gk=some b->s.heap.get b=some (.cells cs 0)->∀(i:Nat)(g:aO),gs[i]? =some g->VS s0 s bp gk tk g ((cs.drop (i*9)).take 9)
theorem ff.lt{s0 s:St}{bp mp:Pos}{gs:List aO}{ts:List Ty}{gk tk:Option Pos}(h:ff s0 s bp mp gs ts gk tk):bp.toNat<s.next.toNat/\mp.toNat<s.next.toNat:=by
 obtain⟨es,cl,h1,_⟩:=h.AA;exact⟨h.wf _ _ h.book,h.wf _ _ h1⟩
theorem ff.aA{s0 s s':St}{bp mp:Pos}{gs:List aO}{ts:List Ty}{gk tk:Option Pos}(h:ff s0 s bp mp gs ts gk tk)(g:Grew s s'):ff s0 s' bp mp gs ts gk tk where
 wf:=g.wf
 keeps:=h.keeps.trans g.keeps
 next:=Zc4 h.next g.next
 book:=g.get h.book
 AA:=let⟨es,cl,h1,h2⟩:=h.AA;⟨es,cl,g.get h1,h2⟩
 qf:=⟨h.qf.1,λb hb=>let⟨cs,h1,h2⟩:=h.qf.2 b hb;⟨cs,g.get h1,h2⟩⟩
 xV:=⟨h.xV.1,λb hb=>g.get (h.xV.2 b hb)⟩
 dg:=h.dg
 dt:=h.dt
 O4:=h.O4
 fb:=h.fb
 fm:=h.fm
 fg:=h.fg
 ft:=h.ft
 KH:=λes cl hm=>by obtain⟨Xu,cl0,h1,h2⟩:=h.AA;have:=g.get h1;rw[hm]at this;cases this;exact h.KH _ _ h1
 KI:=λes cl hm=>by obtain⟨Xu,cl0,h1,h2⟩:=h.AA;have:=g.get h1;rw[hm]at this;cases this;exact h.KI _ _ h1
 rows:=λb cs hb hs i u hu=>by
  obtain⟨Sr,h1,h2⟩:=h.qf.2 b hb;have:=g.get h1;rw[hs]at this;cases this;exact(h.rows b _ hb h1 i u hu).to λp cs _ a2 a3 hx=>⟨g.get hx,a2,a3⟩
theorem ff.start{s:St}(hw:Wf s):ff s (af (af s (.map [] 0)) (.cells [.ah,.ah,.map s.next] 0)) (af s (.map [] 0)).next s.next [] [] none none where
 wf:=bR (bR hw)
 keeps:=(cE hw).trans (cE (bR hw))
 next:=by simp only[c9,Pos.az];omega
 book:=aC _ _
 AA:=⟨[],0,uK,rfl⟩
 qf:=⟨λ_=>rfl,λb h=>by cases h⟩
 xV:=⟨λ_=>rfl,λb h=>by cases h⟩
 dg:=λh=>by cases h
 dt:=λh=>by cases h
 O4:=λb h=>by cases h
 fb:=by
  cases h:s.heap.get (af s (.map [] 0)).next with
  |none=>rfl
  |some x=>have:=hw _ _ h;rw[c9,Pos.az]at this;omega
 fm:=by
  cases h:s.heap.get s.next with
  |none=>rfl
  |some x=>have:=hw _ _ h;omega
 fg:=λb h=>by cases h
 ft:=λb h=>by cases h
 KH:=λes cl hm e he=>by have:(af (af s (.map [] 0)) (.cells [.ah,.ah,.map s.next] 0)).heap.get s.next=some (.map [] 0):=uK;rw[hm]at this;cases this;cases he
 KI:=λes cl hm=>by have:(af (af s (.map [] 0)) (.cells [.ah,.ah,.map s.next] 0)).heap.get s.next=some (.map [] 0):=uK;rw[hm]at this;cases this;rfl
 rows:=λb cs h=>by cases h
theorem Cq(s:List Nat):∀(gs:List aO)(es:List (AV×AV×Nat))(i:Nat),es.map (·.1)=gs.map (λg=>.str g.name)->
  (s∈gs.map aO.name/\∃j v,iK .s (.str s) es i=some (some (j,v)))\/(s∉gs.map aO.name/\iK .s (.str s) es i=some none)
 |[],es,i,h=>by
  have:es=[]:=by simpa using h
  subst this;exact .inr ⟨by simp,rfl⟩
 |g::gs,[],i,h=>by simp at h
 |g ::gs,(k,v,n)::es,i,h=>by
  simp only[Zc6,Zg0]at h;obtain⟨h1,h2⟩:=h;subst h1;by_cases e:s=g.name
  .subst e;exact .inl ⟨by simp,i,v,by simp[iK,wq,fB]⟩
  . rcases Cq s gs es (i+1) h2 with⟨a,b⟩|⟨a,b⟩
    .   left;refine⟨by simp at a ⊢; exact .inr a,?_⟩;simpa [iK,wq,fB,e]using b
    .   right;refine⟨by simp at a ⊢; exact⟨e,a⟩,?_⟩;simpa [iK,wq,fB,e]using b
theorem EN{gs:List aO}{s:List Nat}:0<=scan (jT gs s) gs.length 0↔s∈gs.map aO.name:=by
 constructor
 .intro h;obtain⟨_,h2,h3⟩:=wO _ _ h;simp only[jT,Ze1]at h3;rw[H4 (by omega)]at h3;simp only[Ze5,H0]at h3;rw[<-h3];exact Zf4.2 ⟨_,Zb9 _,rfl⟩
 . intro  h;obtain⟨g,hg,rfl⟩:=Zf4.1 h;obtain⟨i,hi,rfl⟩:=Zk5.1 hg;have key:∀(m k:Nat),k<=i->i<k+m->0<=scan (jT gs gs[i].name) m k:=by
    intro m;induction m with
    |zero=>intro k h1 h2;omega
    |   succ m ih=>
        intro k h1 h2;unfold scan;split
        .omega
        . rename_i cG;by_cases e:k=i
          .subst e;simp[jT,hi]at cG
          .exact ih (k+1) (by omega) (by omega)
   exact key _ _ (by omega) (by omega)
theorem UH(hc:Sem c)(s:St)(bp mp:Pos)(x y:AV)(h:s.heap.get bp=some (.cells [x,y,.map mp] 0)):c 191 [.ptr bp 0] s=some (.bool false,s):=by
 rw[FZ hc 1 (r:=(.bool false,s)),aK (Plain.bool _) (bF.refl s)];rw[I7];have e1:∀(K:AV->St->Option (AV×St))(s:St),ak c (.bin .eql .ptr) [.ptr bp 0,.gP] s K=K (.bool false) s:=λK s=>aW c K (λH n=>rfl) s
 have e2:∀(K:AV->St->Option (AV×St))(s:St),ak c (.bin .eql .map) [.map mp,.nj] s K=K (.bool false) s:=λK s=>aW c K (λH n=>rfl) s
 simp[e1,e2,h]
theorem VT(z:Bool)(l:List (List Nat)):(mW z l).cells=[mW z l]:=by unfold mW ro;split<;>rfl
theorem aaW(z:Bool)(l:List (List Nat)):(mW z l).one=true:=by unfold mW ro;split<;>rfl
theorem UI{s:List Nat}(h:jS s=true):∀x∈s,x<256:=λx hx=>by simp only[jS,Za7,Zd0,Ze1]at h;have:=h.2 x hx;omega
theorem NG{s:List Nat}(h:rE s=true):∀x∈s,x<256:=λx hx=>by
 simp only[rE,Zi1,Ze1]at h;rcases h with h|h
 .rw[h]at hx;cases hx
 .exact UI h x hx
theorem O5{g:aO}(h:fZ g=0):g.Low:=by
 unfold fZ at h;split at h
 .simp at h
 .rename_i hn;simp only[Bool.not_eq_false,Za7]at hn;exact⟨UI hn.1.1.1,NG hn.1.1.2,NG hn.1.2,NG hn.2⟩
theorem UJ{s:St}(hw:Wf s){k:Option Pos}{n es bytes:Nat}{q:Pos}{row:List AV}(hk:k=none->n=0)(fH:∀b,k=some b->∃cs,s.heap.get b=some (.cells cs 0)/\cs.length=n*es)(hq:s.heap.get q=some (.cells row 0))(hr:row.length=es)
  (h1:aQ row=true) (dc:es≠0) (hb:(2*(n+1)+768)*bytes<=281474976710656) (hn:n<=1000):
  ∃ s5 kH,(∀(K:AV->St->Option (AV×St)),ak c (.append es bytes) [jE k n es,.slice q 0 1 (some 1) es] s K=K (.slice s.next 0 (n+1) none es) s5)/\s5.heap.get s.next=some (.cells kH 0)/\kH.length=(n+1)*es/\
    (∀b cs,k=some b->s.heap.get b=some (.cells cs 0)->kH=cs++row)/\(k=none->kH=row)/\s5.next=s.next.succ/\Wf s5/\∀p,k≠some p->p.toNat<s.next.toNat->s5.heap.get p=s.heap.get p:=by
 have hx:bX es 1 (λb=>s.heap.get b) (.slice q 0 1 (some 1) es)=some row:=by simp only[bX,eu,Zn1,Za2 dc,hq];exact bI hr
 cases k with
 |none=>
  obtain rfl:=hk rfl;refine⟨af s (.cells row 0),row,λK=>Ru c K (m:=1) rfl (by omega) (by omega) (by omega) hx,aC _ _,by omega,λb cs h=>(by cases h),λ_=>rfl,rfl,bR hw,λp _ hp=>pG hp⟩
 |some b=>
  obtain⟨cs,h2,h3⟩:=fH b rfl;have ho:bX es n (λb=>s.heap.get b) (.slice b 0 n none es)=some cs:=by
    by_cases h0:n=0
    .   subst h0;have:cs=[]:=Zb1 (by omega);subst this;simp[bX,eu]
    .   have:¬n*es=0:=λe=>by rcases Nat.mul_eq_zero.1 e with e|e<;>omega
        simp only[bX,eu,Za2 this,h2];exact bI h3
  refine⟨dst s b (.cells (cs++row) 0),cs++row,λK=>ab1 c K (m:=1) rfl (by omega) hb (by omega) h2 ho hx h1,M8 _ _ _,?_,λb' cs2 e h=> ?_,λh=>(by cases h),rfl,XD hw,λp hp hl=>LP (λe=>hp (by rw[e])) hl⟩
  .rw[Ze0,h3,hr,Zi4,Zn1]
  .cases e;rw[h2]at h;cases h;rfl
def qG(gs:List aO)(g:aO):Int:=if fZ g≠0 then fZ g else if 0<=scan (jT gs g.name) gs.length 0 then 5 else if gs.length=64 then 7 else 0
theorem acZ (hc : Sem c){s0 s:St}{bp mp:Pos}{gs:List aO}{ts:List Ty}{gk tk:Option Pos}(Di:Wf s0)(B:ff s0 s bp mp gs ts gk tk)(hl:gs.length<=64)(g:aO):
   ∃s',c 173 [.ptr bp 0,.agg g.cells] s=some (.int .i64 (qG gs g),s')/\(qG gs g≠0->s'=s)/\(qG gs g=0->∃FE,ff s0 s' bp mp (gs++[g]) ts FE tk):=by
 have dI:Wf (af s (.cells g.cells 0)):=bR B.wf;have B1:=B.aA (Grew.af B.wf (.cells g.cells 0));generalize Me:af s (.cells g.cells 0)=s1 at dI B1;have UK:s1.heap.get s.next=some (.cells g.cells 0):=by rw[<-Me];exact aC _ _
 have kq:=UH hc s1 bp mp _ _ B1.book;have hch:=NB hc g s1 dI;have lG:∀(K:AV->St->Option (AV×St))(s:St),ak c (.lenB .l) [jE gk gs.length 9] s K=K (.int .i64 (gs.length:Int)) s:=λK s=>aW c K (EM λh=>by rw[B.qf.1 h];rfl) s
 have lG2:∀(K:AV->Option (AV×St)),fJ (.lenB .l) [jE gk gs.length 9] K=K (.int .i64 (gs.length:Int)):=λK=>dP K (EM λh=>by rw[B.qf.1 h];rfl)
 obtain⟨es,cl,iX,hm2⟩:=B1.AA;have fail:∀e:Int,e≠0->qG gs g=e->q9 c 1 (.ptr bp 0) (.agg g.cells) s=some (.int .i64 e,s1)->∃s',c 173 [.ptr bp 0,.agg g.cells] s=some (.int .i64 (qG gs g),s')/\(qG gs g≠0->s'=s)/\(qG gs g=0->∃FE,ff s0 s' bp mp (gs++[g]) ts FE tk):=λe he ha h=>by
   refine⟨s,?_,λ_=>rfl,λh0=>absurd (ha.symm.trans h0) he⟩;rw[xW hc 1 h,ha,aK (Plain.int _ _) (by rw[<-Me];exact cE B.wf)]
 have eb:∀(K:AV->St->Option (AV×St)),ak c .box [.agg g.cells] s K=K (.ptr s.next 0) s1:=λK=>by rw[pH, <-Me];rfl
 have h64:((gs.length:Int)=64)↔gs.length=64:=by omega
 by_cases h1:fZ g=0
 . rcases Cq  g.name gs es 0 hm2 with⟨pT,j,v,hf⟩|⟨pT,hf⟩
   . have hsc:=EN.2 pT;refine fail 5 (by omega) (by simp[qG,h1,hsc]) ?_;rw[oG];have lk:=λ(K:AV->Option (AV×St))=>OB K (.int .i64 0) (h:=s1.heap) (k:= .str g.name) iX hf
     simp[eb,kq,hch,h1,UK,B1.book,lk]
   . have hsc: ¬0<=scan (jT gs g.name) gs.length 0:=λh=>pT (EN.1 h)
     have lk:=λ(K:AV->Option (AV×St))=>OB K (.int .i64 0) (h:=s1.heap) (k:= .str g.name) iX hf
     by_cases h2:gs.length=64
     .  have h2d:decide ((gs.length:Int)=64)=true:=H5 (by omega);refine fail 7 (by omega) (by unfold qG;rw[Za5 (by simp[h1]),Za5 hsc,Za8 h2]) ?_;rw[oG];simp[eb,kq,hch,h1,UK,B1.book,lk,lG,h2d]
     .  have htg:g.tg.length<=4:=by
          unfold fZ at h1;split at h1
          .simp at h1
          . split at h1
            .simp at h1
            . split at h1
              .simp at h1
              . split at h1
                .simp at h1
                .omega
        have he:qG gs g=0:=(by unfold qG;rw[Za5 (by simp[h1]),Za5 hsc,Za5 h2]);have h2d:decide ((gs.length:Int)=64)=false:=Za2 (by omega);have lt1:=B1.lt;have ry:s.next.toNat<s1.next.toNat:=(by rw[<-Me,c9,Pos.az];omega);have O6:mp≠bp:=λe=>by rw[e,B1.book]at iX;cases iX
        have nmp:mp≠s.next:=λe=>by rw[e,UK]at iX;cases iX
        let Ft:=es++[(AV.str g.name,AV.int .i64 (gs.length:Int),cl)]
        let s2:=cv s1 mp (.map Ft (cl+1))
        have nu:Wf s2:=C7 dI lt1.2;have b2:s2.heap.get bp=some (.cells [jE gk gs.length 9,jE tk ts.length 3,.map mp] 0):=(by show(cv _ _ _).heap.get bp=_;rw[bt O6];exact B1.book);have p2:s2.heap.get s.next=some (.cells g.cells 0):=(by show(cv _ _ _).heap.get _=_;rw[bt nmp];exact UK);have m2:s2.heap.get mp=some (.map Ft (cl+1)):=ej _ _ _;obtain⟨v,s3,q1,M⟩:=Yy hc g (O5 h1) (by omega) s2 nu (aaU g.tz g.tg) (VT _ _) (aaW _ _);rw[aO.Yx]at q1
        let row:=g.au v
        have q2:=M.aA;have q3:row.length=9:=rfl;have vone:v.one=true:=qx M.cells.2;have q4:aQ row=true:=g.KA M.cells.2;have hw4:Wf (af s3 (.cells row 0)):=bR q2.wf;have UL:=q2.trans (Grew.af q2.wf (.cells row 0));have dz:∀p x,s2.heap.get p=some x->p.toNat<(af s3 (.cells row 0)).next.toNat:=λp x h=>hw4 p x (UL.get h)
        have fH:∀b,gk=some b->∃cs,(af s3 (.cells row 0)).heap.get b=some (.cells cs 0)/\cs.length=gs.length*9:=λb hb=>by
          obtain⟨cs,h3,h4⟩:=B1.qf.2 b hb;have:mp≠b:=λe=>by rw[e,h3]at iX;cases iX
          exact⟨cs,UL.get (by show(cv _ _ _).heap.get b=_;rw[bt this];exact h3),h4⟩
        obtain⟨s5,kH,r1,r2,r3,ra,rb,r4,r5,r6⟩:=UJ (c:=c) (es:=9) (bytes:=112) hw4 (k:=gk) (n:=gs.length) (λh=>by rw[B.qf.1 h];rfl) fH (aC _ _) q3 q4 (by omega) (by omega) (by omega);have hs4:(af s3 (.cells row 0)).next=s3.next.succ:=rfl;have keep:∀p x,s2.heap.get p=some x->gk≠some p->s5.heap.get p=some x:=λp x h cG=>by rw[r6 p cG (dz p x h)];exact UL.get h
        have b5:=keep bp _ b2 B.dg
        let gv:=AV.slice (af s3 (.cells row 0)).next 0 (gs.length+1) none 9
        let s6:=cv s5 bp (.cells [gv,jE tk ts.length 3,.map mp] 0)
        have aaX:bp.toNat<s5.next.toNat:=r5 _ _ b5;have nb4:bp≠(af s3 (.cells row 0)).next:=λe=>by have:=dz _ _ b2;rw[e]at this;omega
        have st6:∀(K:AV->St->Option (AV×St)),ak c (.store 1) [.ptr bp 0,gv] s5 K=K .undef s6:=λK=>dU c K s5 1 bp 0 gv _ b5 rfl (by simp) rfl
        have g6:∀p,p≠bp->s6.heap.get p=s5.heap.get p:=λp h=>bt (λe=>h e.symm)
        have VU:∀p:Pos,s0.next.toNat<=p.toNat->s0.heap.get p=none:=λp h=>by
          cases hx:s0.heap.get p with
          |none=>rfl
          |some x=>have:=Di _ _ hx;omega
        have nx:s0.next.toNat<=(af s3 (.cells row 0)).next.toNat:=Zc4 B1.next (Zc4 (by show s1.next.toNat<=s2.next.toNat;exact Za4 _) UL.next)
        have Ss : ff s0 s6 bp mp (gs++[g]) ts (some (af s3 (.cells row 0)).next) tk:={
          wf:=C7 r5 aaX
          keeps:=λp x hp=>by
            have n1:p≠bp:=λe=>by rw[e,B.fb]at hp;cases hp
            have n2:mp≠p:=λe=>by rw[<-e,B.fm]at hp;cases hp
            have n3:gk≠some p:=λe=>by rw[B.fg p e]at hp;cases hp
            rw[g6 p n1];exact keep p x (by show(cv _ _ _).heap.get p=_;rw[bt n2];exact B1.keeps p x hp) n3
          next:=by show s0.next.toNat<=s5.next.toNat;rw[r4,Pos.az];omega
          book:=by show(cv _ _ _).heap.get bp=_;rw[ej];simp[gv,jE]
          AA:=⟨Ft,cl+1,by
            rw[g6 mp O6];exact keep mp _ m2 (λe=>by obtain⟨cs,h3,_⟩:=B1.qf.2 mp e;rw[h3]at iX;cases iX),by simp[Ft,hm2]⟩
          qf:=⟨λh=>(by cases h),λb hb=>by cases hb;refine⟨kH,?_,by rw[r3];simp⟩;rw[g6 _ (λe=>nb4 e.symm)];exact r2⟩
          xV:=⟨B.xV.1,λb hb=>by
            have h3:=B1.xV.2 b hb;have n1:b≠bp:=λe=>B.dt (by rw[<-e];exact hb)
            have n2:mp≠b:=λe=>by rw[e,h3]at iX;cases iX
            have n3:gk≠some b:=λe=>B.O4 b e hb
            rw[g6 b n1];exact keep b _ (by show(cv _ _ _).heap.get b=_;rw[bt n2];exact h3) n3⟩
          dg:=λe=>nb4 (by injection e with e;exact e.symm)
          dt:=B.dt
          O4:=λb hb ht=>by
            (cases hb;have h3:=B1.xV.2 _ ht;have n2:mp≠(af s3 (.cells row 0)).next:=λe=>by rw[e,h3]at iX;cases iX);have:=dz _ _ (show s2.heap.get (af s3 (.cells row 0)).next=_ from(bt n2).trans h3);omega
          fb:=B.fb
          fm:=B.fm
          fg:=λb hb=>by cases hb;exact VU _ nx
          ft:=B.ft
          KH:=λes' cl' hm e he=>by
            have m6:s6.heap.get mp=some (.map Ft (cl+1)):=by
              rw[g6 mp O6];exact keep mp _ m2 (λe=>by obtain⟨cs,h3,_⟩:=B1.qf.2 mp e;rw[h3]at iX;cases iX)
            rw[hm]at m6;cases m6;rcases Zd8.1 he with he|he
            .obtain⟨i,e1,e2⟩:=B1.KH _ _ iX e he;exact⟨i,e1,by simp;omega⟩
            .simp only[Za9,Ze4,Zj0]at he;subst he;exact⟨gs.length,rfl,by simp⟩
          KI:=λes' cl' hm=>by
            have m6:s6.heap.get mp=some (.map Ft (cl+1)):=by
              rw[g6 mp O6];exact keep mp _ m2 (λe=>by obtain⟨cs,h3,_⟩:=B1.qf.2 mp e;rw[h3]at iX;cases iX)
            rw[hm]at m6;cases m6;have h:=B1.KI _ _ iX;rw[Zd7,h,Ze0,List.length_singleton,Zi7,Zd7];rfl
          rows:=  λb cs hb hs i u hu=>by
            cases hb;have FD:s6.heap.get (af s3 (.cells row 0)).next=some (.cells kH 0):=(by rw[g6 _ (λe=>nb4 e.symm)];exact r2);rw[hs]at FD;cases FD;by_cases hi:i<gs.length
            . rw[Zc1 hi]at hu;cases MA:gk with
              |none=>rw[B.qf.1 MA]at hi;simp at hi
              | some b0=>
                obtain⟨Sr,h3,h4⟩:=B1.qf.2 b0 MA;have n0:mp≠b0:=λe=>by rw[e,h3]at iX;cases iX
                have e0:=ra b0 Sr MA (UL.get (by show(cv _ _ _).heap.get b0=_;rw[bt n0];exact h3));have R0:=B1.rows b0 Sr MA h3 i u hu;rw[e0,Zf6 (by omega),List.take_append_of_le_length (by simp;omega)];(refine R0.to λp cs a1 a2 a3 hx=> ?_);have n1:mp≠p:=λe=>by rw[e,hx]at iX;cases iX
                have x2:s2.heap.get p=some (.cells cs 0):=(by show(cv _ _ _).heap.get p=_;rw[bt n1];exact hx);have aU:=dz p _ x2;refine⟨by rw[g6 p a1];exact keep p _ x2 a2,λe=> ?_,a3⟩;cases e;omega
            . have OD:i=gs.length:=(by have:=(Za1.1 hu).1;simp at this;omega);subst OD;simp at hu;subst hu;have er:(kH.drop (gs.length*9)).take 9=row:=by
                cases MA:gk with
                | none=>
                  rw[rb MA,B.qf.1 MA];exact Zf9 (by simp[q3])
                | some b0=>
                  obtain⟨Sr,h3,h4⟩:=B1.qf.2 b0 MA;have n0:mp≠b0:=λe=>by rw[e,h3]at iX;cases iX
                  rw[ra b0 Sr MA (UL.get (by show(cv _ _ _).heap.get b0=_;rw[bt n0];exact h3)), <-h4];rw[Zf6 (Za4 _)];simp[Zf9 (Nat.le_of_eq q3)]
              (rw[er];have vU:∀p x,s2.heap.get p=some x->p.toNat<s2.next.toNat:=λp x h=>nu p x h);refine⟨O5 h1,htg,v,rfl,M.cells.1,vone,M.own.mono λb x hb hx=> ?_,λp hp=> ?_⟩
              . have Fu:=M.new b hb;have Ln:=M.own.lt M.aA.wf hb;have nb:b≠bp:=λe=>by have:=vU _ _ b2;rw[e]at Fu;omega
                have ng:gk≠some b:=λe=>by
                  obtain⟨Sr,h3,_⟩:=B1.qf.2 b e;have n0:mp≠b:=λe=>by rw[e,h3]at iX;cases iX
                  have:=vU b _ (by show(cv _ _ _).heap.get b=_;rw[bt n0];exact h3);omega
                rw[g6 b nb,r6 b ng (by rw[hs4,Pos.az];omega)];exact(Grew.af q2.wf (.cells row 0)).get hx
              . have Fu:=M.new p hp;have Ln:=M.own.lt M.aA.wf hp;refine⟨λe=>by have:=vU _ _ b2;rw[e]at Fu;omega,λe=> ?_,λe=> ?_,VU p (by have h9:=B1.next;rw[show s2.next=s1.next from Eu _ _ _]at Fu;omega)⟩
                .cases e;rw[hs4,Pos.az]at Ln;omega
                . have h3:=B1.xV.2 p e;have n2:mp≠p:=λe=>by rw[e,h3]at iX;cases iX
                  have:=vU p _ (by show(cv _ _ _).heap.get p=_;rw[bt n2];exact h3);omega }
        refine⟨s6,?_,λh=>absurd he h,λ_=>⟨_,Ss⟩⟩;rw[he];rw[xW hc 1 (r:=(.int .i64 0,s6))]
        . rw[M9 (b:=bp) B.book];rw[Ss.book];intro e;have e:=congrArg (λo=>match o with|some (AB.cells (v::_) _)=>cS v|_=>none) e;simp only[jE,cS]at e;cases gk with
          |none=>simp[cS,B.qf.1 rfl]at e
          |some b=>simp[cS]at e
        (rw[oG];have stm:=λ(K:AV->St->Option (AV×St))=>Th c K (v:= .int .i64 (gs.length:Int)) iX hf);have bq:eH (jE gk gs.length 9) (jE gk gs.length 9)=true:=(by cases gk;exact Kj;exact GY _ _ _ _);have b3:s3.heap.get bp=some (.cells [jE gk gs.length 9,jE tk ts.length 3,.map mp] 0):=q2.get b2;have vX:=λ(K:AV->Option (AV×St))=>wJ K (p:=bp) (o:=0) (h:=s3.heap) (h2:=s2.heap) (v:=jE gk gs.length 9) (by rw[b3];rfl) (by rw[b2];rfl) bq
        have ze:b6 (bL [AV.str [],AV.str [],AV.str [],.int .i64 0,.int .i64 0,.str [],.bool false,.bool false,.ah] 1) [(0,9)] [AV.agg (g.au v)]=some row:=by
          have:(g.au v).length=9:=q3;show _=some (g.au v);simp[b6,bL,eu,eV,this,aM]
        simp[eb,kq,hch,h1,UK,B1.book,lk,lG,lG2,h2d,stm];show yg ((cellsOf (T.get s.next s2.heap)).bind λcs=>cut cs 0 9) _=_;rw[p2];simp only[aS,Zd5,aO.cc,qv];show Kh (c 193 [AV.agg g.cells] s2) _=_;rw[q1];simp only[ic];show kW (.load none) [.ptr bp 0] s3.heap (λv=>qR (.load none) [.ptr bp 0] v (w9 [] s2.heap)) _=_;rw[vX];simp only[ze,qv,r1];exact st6 _
 .refine fail (fZ g) h1 (by simp[qG,h1]) ?_;rw[oG];simp[eb,kq,hch,h1,UK]
theorem EO{r s t:Ty}(h:eF r s=true)(k:eF s t=true):eF r t=true:=by
 simp only[eF,Zi1,Za7,Ze1]at h k ⊢;rcases h with h|⟨h1,h2⟩<;>rcases k with k|⟨k1,k2⟩
 .exact .inl (EK _ _ _ h k)
 .exact .inl (by rw[<-k1];exact h)
 .exact .inl (by rw[h1];exact k)
 .exact .inr ⟨h1.trans k1,EK _ _ _ h2 k2⟩
theorem VV{s t:Ty}(h:eF s t=false)(k:eF t s=false):s.a=t.a/\s.b=t.b:=by simp only[eF,Bool.or_eq_false_iff]at h k;have e:=zw _ _ h.1 k.1;refine⟨e,?_⟩;have h2:=h.2;have k2:=k.2;simp only[e,Zk6,Zf5]at h2 k2;exact zw _ _ h2 k2
theorem aci{r s t:Ty}(h:eF r s=true)(k:eF t s=false):eF r t=true:=by
 cases h2:eF s t
 .obtain⟨e1,e2⟩:=VV h2 k;unfold eF at h ⊢; rw[<-e1, <-e2];exact h
 .exact EO h h2
theorem abw{x:Int}(h1:0<=x)(h2:x<=18446744073709551615):ax .u64 x=x:=by
 unfold ax NS NT;simp only;split
 . split
   .rfl
   .contradiction
 .contradiction
theorem Su(K:AV->St->Option (AV×St))(st:St)(a:Nat):ak c (.bin .shr .num) [.int .u64 (a:Int),.int .u64 1] st K=K (.int .u64 ((a / 2:Nat):Int)) st:=by
 refine aW c K (λH n=> ?_) st;have:(a:Int).fdiv 2=((a / 2:Nat):Int):=by rw[Zo3 _ (by omega)];rfl
 simp only[ay.run,gy,lR,dD];show some (bV.val (AV.int .u64 ((a:Int).fdiv 2)))=_;rw[this]
theorem Sv(H:Pos->Option AB)(n:Pos)(es:Nat)(b:Pos)(len:Nat)(k:IntKind)(i:Nat)(h:i<len):ay.run H n (.idxA es none) [.slice b 0 len none es,.int k (i:Int)]=some (.val (.ptr b (i*es))):=by
 simp[ay.run,nk,iN,zl,h]
theorem Al(ts:List Ty)(i:Nat)(h:i<ts.length):cut (ts.flatMap Ty.cells) (i*3) 3=some ts[i].cells:=by
 induction ts generalizing i with
 |nil=>simp at h
 |cons t ts ih=>
  cases i with
  |zero=>rw[Zl8];unfold cut;rw[eV,H5 (by simp[Ty.len])];simp[Ty.cells]
  |succ i=>
   have h':i<ts.length:=(by simpa using h);have:=ih i h';unfold cut at this ⊢;rw[eV]at this ⊢;(split at this<;>first|(cases this;done)|skip);rename_i hle;simp only[Ze1]at hle;rw[H5 (by rw[Zl8,Ze0,Ty.len];omega)];simp only[H0]at this ⊢;rw[Zl8,show(i+1)*3=i*3+1+1+1 by omega,List.getElem_cons_succ, <-this];rfl
theorem acj(hc:Sem c)(ts:List Ty)(hl:ts.length<=1000)(t:Ty)(q:Nat)(hq:q<=ts.length)(vU:∀h (hh:h<ts.length),h<q->eF ts[h] t=true)(hhi:∀h (hh:h<ts.length),q<=h->eF ts[h] t=false)
  (b:Pos) (x4:Pos) (s:St) (hw:Wf s) (hb:s.heap.get b=some (.cells (ts.flatMap Ty.cells) 0)) (hx:s.heap.get x4=some (.cells t.cells 0)) (F:Nat) (k2):∀(m i j:Nat),j<=i+m->i<=q->q<=j->j<=ts.length->
  aN c F k2 (m+1) [.slice b 0 ts.length none 3,.func 174 [] [],.ptr x4 0,.int .i64 (ts.length:Int),.int .i64 (i:Int),.int .i64 (j:Int)] s=
    k2 [.slice b 0 ts.length none 3,.func 174 [] [],.ptr x4 0,.int .i64 (ts.length:Int),.int .i64 (q:Int)] s:=by
 intro m;induction m with
 |zero=>
  intro i j h1 h2 h3 h4;obtain rfl:i=q:=by omega
  obtain rfl:j=i:=by omega
  rw[cN];simp
 |succ m ih=>
  intro i j h1 h2 h3 h4;rw[cN];by_cases h:i<j
  . let d:=(i+j) / 2
    have hd1:i<=d:=(by omega);have Lo:d<j:=(by omega);have UM:d<ts.length:=(by omega);have w1:ax .i64 ((i:Int)+(j:Int))=((i+j:Nat):Int):=(by rw[wrap64 (by omega) (by omega)];omega);have w2:ax .u64 ((i+j:Nat):Int)=((i+j:Nat):Int):=abw (by omega) (by omega);have w3:ax .i64 (((i+j) / 2:Nat):Int)=((d:Nat):Int):=wrap64 (by omega) (by omega);have w4:ax .i64 ((d:Int)+1)=((d+1:Nat):Int):=wrap64 (by omega) (by omega);have ix:=λ(K:AV->Option (AV×St))=>dP K (λH n=>Sv H n 3 b ts.length .i64 d UM)
    have ho:=Az hc ts[d] t s hw;have fg:=Al ts d UM
    clear_value d
    by_cases hn:d<q
    .   have aaY:nK ts[d] t<0:=NC.2 (vU d UM hn);rw[<-ih (d+1) j (by omega) (by omega) h3 h4];simp only[aF,cX,aE,mg,Int.ofNat_lt,h,Zk6,iO,pF,w1,Ki,w2,Su,w3,dM,ix,Cj,hb,fg,hx,aS,Zd5,Ty.cc,qv,tV,Zf2,Ze8,Zf3,ho,ic,Ud,aaY,w4]
    .   have aaY:¬nK ts[d] t<0:=λe=>by have:=NC.1 e;rw[hhi d UM (by omega)]at this;cases this
        rw[<-ih i d (by omega) h2 (by omega) (by omega)];simp only[aF,cX,aE,mg,Int.ofNat_lt,h,Zk6,iO,pF,w1,Ki,w2,Su,w3,dM,ix,Cj,hb,fg,hx,aS,Zd5,Ty.cc,qv,tV,Zf2,Ze8,Zf3,ho,ic,Ud,aaY,decide_false,lF]
  .obtain rfl:i=q:=(by omega);obtain rfl:j=i:=(by omega);simp
def AD(ts:List Ty)(t:Ty)(q:Nat):Bool:=match ts[q]? with
 |some u=>decide (nK u t=0)
 |none=>false
theorem aaZ(x4:Pos)(s:St)(F:Nat)(k2)(m:Nat):aN c F k2 (m+1) [.ah,.func 174 [] [],.ptr x4 0,.int .i64 0,.int .i64 0,.int .i64 0] s=
  k2 [.ah,.func 174 [] [],.ptr x4 0,.int .i64 0,.int .i64 0] s:=by
 rw[cN];simp
def slvT(k:Option Pos)(n:Nat):AV:=match k with
 |none=>.ah
 |some b=>.slice b (0+n*3) (n - n) none 3
theorem adP(hc:Sem c)(ts:List Ty)(hl:ts.length<=1000)(t:Ty)(q:Nat)(hq:q<=ts.length)(vU:∀h (hh:h<ts.length),h<q->eF ts[h] t=true)(hhi:∀h (hh:h<ts.length),q<=h->eF ts[h] t=false)
  (tk:Option Pos) (s:St) (hw:Wf s) (h0:tk=none->ts=[]) (hb:∀b,tk=some b->s.heap.get b=some (.cells (ts.flatMap Ty.cells) 0)):
  c 224 [jE tk ts.length 3,.agg t.cells,.func 174 [] []] s=some (.tuple [.int .i64 (q:Int),.bool (AD ts t q)],s):=by
 have dI:Wf (af s (.cells t.cells 0)):=bR hw;have ry:Plain (.tuple [.int .i64 (q:Int),.bool (AD ts t q)]):=Plain.tuple (by simp[Plain.int,Plain.bool]);rw[kA hc 1001 (r:=(.tuple [.int .i64 (q:Int),.bool (AD ts t q)],af s (.cells t.cells 0))),aK ry (cE hw)];rw[kK];cases tk with
 |none=>
  obtain rfl:=h0 rfl;obtain rfl:q=0:=by simpa using hq
  have l0:∀(K:AV->St->Option (AV×St))(s:St),ak c (.lenB .l) [.ah] s K=K (.int .i64 0) s:=λK s=>aW c K (λH n=>rfl) s
  have L:∀k2,aN c 1001 k2 1001 [.ah,.func 174 [] [],.ptr s.next 0,.int .i64 0,.int .i64 0,.int .i64 0] (af s (.cells t.cells 0))=_:=λk2=>aaZ (c:=c) s.next _ 1001 k2 1000
  simp only[jE,pH,aE,l0,Hx,L,aF,cX,Zn3];simp[AD,l0,L]
 |some b=>
  have Fu:(af s (.cells t.cells 0)).heap.get b=some (.cells (ts.flatMap Ty.cells) 0):=cE hw _ _ (hb b rfl);have l0:∀(K:AV->St->Option (AV×St))(s:St),ak c (.lenB .l) [.slice b 0 ts.length none 3] s K=K (.int .i64 (ts.length:Int)) s:=λK s=>aW c K (λH n=>rfl) s
  have L:∀k2,aN c 1001 k2 1001 [.slice b 0 ts.length none 3,.func 174 [] [],.ptr s.next 0,.int .i64 (ts.length:Int),.int .i64 0,.int .i64 (ts.length:Int)] (af s (.cells t.cells 0))=
    k2 [.slice b 0 ts.length none 3,.func 174 [] [],.ptr s.next 0,.int .i64 (ts.length:Int),.int .i64 (q:Int)] (af s (.cells t.cells 0)):=
    λk2=>acj hc ts hl t q hq vU hhi b s.next _ dI Fu (aC _ _) 1001 k2 1000 0 ts.length (by omega) (by omega) (by omega) (by omega)
  simp only[jE,pH,aE,l0,Hx,L,aF,cX];by_cases h:q<ts.length
  . have ix:=λ(K:AV->Option (AV×St))=>dP K (λH n=>Sv H n 3 b ts.length .i64 q h)
    have ho:=Az hc ts[q] t _ dI;have fg:=Al ts q h;have ef:AD ts t q=decide (nK ts[q] t=0):=(by unfold AD;rw[H4 h]);simp[h,ix,Fu,fg,ho,ef,AV.cells]
  .have ef:AD ts t q=false:=(by unfold AD;rw[Zb5 (by omega)]);simp[h,ef,AV.cells]
def Dj(ts:List Ty)(t:Ty):Nat:=match ts.getLast? with
 |none=>0
 |some u=>if eF u t=true then ts.length else ts.length - 1
def HA(ts:List Ty):Prop:=∀i j (hj:j<ts.length)(RI:i<j),eF (ts[i]'(by omega)) ts[j]=true
theorem ac0{ts:List Ty}{t:Ty}(hs:HA ts)(ht:∀u,ts.getLast? =some u->eF t u=false):Dj ts t<=ts.length/\(∀h (hh:h<ts.length),h<Dj ts t->eF ts[h] t=true)/\(∀h (hh:h<ts.length),Dj ts t<=h->eF ts[h] t=false)/\
  AD ts t (Dj ts t)=oF t ts.getLast? :=by
 unfold Dj;cases hl:ts.getLast? with
 |none=>
  have:ts=[]:=by simpa using hl
  subst this;simp[AD,oF]
 |some u=>
  have cG:ts≠[]:=λe=>by subst e;simp at hl
  have Va:0<ts.length:=List.length_pos_iff.2 cG;have hu:ts[ts.length - 1]'(by omega)=u:=by have:=List.getLast?_eq_getElem? (l:=ts);rw[hl,H4 (by omega)]at this;exact(Zg7 this).symm
  have htu:=ht u hl;simp only;cases hb:eF u t
  . simp only[Zg4,Zh3];refine⟨by omega,λh hh aU=> ?_,λh hh hle=> ?_,?_⟩
    .   have:=hs h (ts.length - 1) (by omega) aU;rw[hu]at this;exact aci this htu
    .   obtain rfl:h=ts.length - 1:=(by omega);rw[hu];exact hb
    .   (unfold AD;rw[H4 (by omega),hu];have h1:¬nK u t<0:=λe=>by rw[NC.1 e]at hb;cases hb);have h2:¬0<nK u t:=λe=>by rw[IX.1 e]at htu;cases htu
        have:nK u t=0:=(by omega);simp[this,oF,hb]
  . simp only[Zg8];refine⟨by omega,λh hh _=> ?_,λh hh hle=>by omega,?_⟩
    .   by_cases e:h=ts.length - 1
        .subst e;rw[hu];exact hb
        .have:=hs h (ts.length - 1) (by omega) (by omega);rw[hu]at this;exact EO this hb
    .   unfold AD;rw[Zb5 (by omega)];simp[oF,hb]
theorem tE(hc:Sem c){s0 s:St}{bp mp:Pos}{gs:List aO}{ts:List Ty}{gk tk:Option Pos}(B:ff s0 s bp mp gs ts gk tk)(hl:ts.length<=1000)(t:Ty)(aU:aB t.a t.b=true)(hs:HA ts)(ht:∀u,ts.getLast? =some u->eF t u=false):
  c 195 [.ptr bp 0,.str t.a,.str t.b] s=some (.tuple [.int .i64 (Dj ts t:Int),.bool (oF t ts.getLast?)],s):=by
 obtain⟨p1,p2,p3,p4⟩:=ac0 hs ht;rw[<-p4];have e0:∀u:Ty,eF u ⟨t.a,t.b,0⟩=eF u t:=λu=>rfl
 have e1:AD ts ⟨t.a,t.b,0⟩ (Dj ts t)=AD ts t (Dj ts t):=rfl;have hpr:=UG hc t.a t.b 0 aU s B.wf;have Fo:=adP hc ts hl ⟨t.a,t.b,0⟩ (Dj ts t) p1 (λh hh hq=>by rw[e0];exact p2 h hh hq) (λh hh hq=>by rw[e0];exact p3 h hh hq) tk s B.wf B.xV.1 B.xV.2;rw[e1]at Fo;rw[EP hc 1 (r:=(.tuple [.int .i64 (Dj ts t:Int),.bool (AD ts t (Dj ts t))],s)),aK (Plain.tuple (by simp[Plain.int,Plain.bool])) (bF.refl s)];rw[HB];have bq:eH (jE tk ts.length 3) (jE tk ts.length 3)=true:=by cases tk;exact Kj;exact GY _ _ _ _
 have vX:=λ(K:AV->Option (AV×St))=>wJ K (p:=bp) (o:=1) (h:=s.heap) (h2:=s.heap) (v:=jE tk ts.length 3) (by rw[B.book];rfl) (by rw[B.book];rfl) bq
 simp[hpr,vX,Fo]
theorem uM(b:Pos)(off n es:Nat):¬Plain (.slice b off n none es):=λh=>by have:=h (λ_=>⟨0,0,off+n*es⟩) (λ_=>⟨0,0,0⟩) (b.toNat+1) 0 (λ_=>none) _ (.slice b off n none es n ⟨0,0+off,none⟩ (Za4 _) (λc h=>by cases h) (λ_=>⟨by omega,rfl,by simp⟩) (λ_=>by omega));have:=this.NY rfl;omega
theorem YA(hc:Sem c){s:St}(hw:Wf s){tk:Option Pos}{ts:List Ty}{q:Pos}{row:List AV}(h0:tk=none->ts=[])(hb:∀b,tk=some b->s.heap.get b=some (.cells (ts.flatMap Ty.cells) 0))(hq:s.heap.get q=some (.cells row 0))(hr:row.length=3)
   (h1:aQ row=true) (hl:ts.length<=1000):
   ∃ s5,c 196 [jE tk ts.length 3,.int .i64 (ts.length:Int),.slice q 0 1 (some 1) 3] s=some (.slice s.next 0 (ts.length+1) none 3,s5)/\s5.heap.get s.next=some (.cells (ts.flatMap Ty.cells++row) 0)/\
     s5.next=s.next.succ/\Wf s5/\∀p,tk≠some p->p.toNat<s.next.toNat->s5.heap.get p=s.heap.get p:=by
 have hlen:∀ts:List Ty,(ts.flatMap Ty.cells).length=ts.length*3:=λts=>by
   induction ts with
   |nil=>rfl
   |cons t ts ih=>rw[Zl8,Ze0,ih,Ty.len,Ze2];omega
 obtain⟨s5,kH,r1,r2,r3,r4,r5,r6,r7,r8⟩:=UJ (c:=c) (es:=3) (bytes:=40) hw (k:=tk) (n:=ts.length) (λh=>by rw[h0 h];rfl) (λb Ln=>⟨_,hb b Ln,hlen ts⟩) hq hr h1 (by omega) (by omega) (by omega);refine⟨s5,?_,?_,r6,r7,r8⟩
 . rw[sF hc 1 (r:=(.slice s.next 0 (ts.length+1) none 3,s5))]
   .unfold tidy;rw[Za5];exact λh=>uM _ _ _ _ h.1
   rw[ur];have sl:∀(K:AV->St->Option (AV×St))(s:St),ak c (.sliceL 3 true false false) [jE tk ts.length 3,.int .i64 (ts.length:Int)] s K=K (slvT tk ts.length) s:=λK s=>by
     refine aW c K (λH n=> ?_) s;cases tk with
     |none=>rw[h0 rfl];rfl
     |some b=>simp[jE,slvT,ay.run,nU,bounds,iN,eu,eV]
   have l1:∀(K:AV->St->Option (AV×St))(s:St),ak c (.lenB .l) [.slice q 0 1 (some 1) 3] s K=K (.int .i64 1) s:=λK s=>aW c K (λH n=>rfl) s
   have l2:∀(K:AV->St->Option (AV×St))(s:St),ak c (.lenB .l) [jE tk ts.length 3] s K=K (.int .i64 (ts.length:Int)) s:=λK s=>aW c K (EM λh=>by rw[h0 h];rfl) s
   simp[sl,l1,l2,r1]
 . cases tk with
   |none=>rw[r2,r5 rfl,h0 rfl];rfl
   |some b=>rw[r2,r4 b _ rfl (hb b rfl)]
def qH(gs:List aO)(ts:List Ty)(t:Ty):Int:=if JH t=false then 23 else if lJ gs t=true then 6 else if oF t ts.getLast? =true then 5 else 0
theorem Sw(H:Pos->Option AB)(n:Pos)(es:Nat)(b:Pos)(len:Nat)(cp:Option Nat)(k:IntKind)(i:Nat)(h:i<len):ay.run H n (.idxA es none) [.slice b 0 len cp es,.int k (i:Int)]=some (.val (.ptr b (i*es))):=by
 simp[ay.run,nk,iN,zl,h]
theorem UN{gs:List aO}{es:List (AV×AV×Nat)}(h:es.map (·.1)=gs.map λg=>.str g.name)(s:List Nat):
   (¬scan (jT gs s) gs.length 0<0/\∃j v,iK .s (.str s) es 0=some (some (j,v)))\/(scan (jT gs s) gs.length 0<0/\iK .s (.str s) es 0=some none):=by
 rcases Cq s gs es 0 h with⟨a,b⟩|⟨a,b⟩
 .left;have:=EN.2 a;exact⟨by omega,b⟩
 . (right;refine⟨?_,b⟩;have:¬0<=scan (jT gs s) gs.length 0:=λe=>a (EN.1 e));omega
theorem aa0{s:St}{bp mp:Pos}{x y:AV}{es:List (AV×AV×Nat)}{cl:Nat}{gs:List aO}(hb:s.heap.get bp=some (.cells [x,y,.map mp] 0))(hm:s.heap.get mp=some (.map es cl))(he:es.map (·.1)=gs.map λg=>.str g.name)
   (t:Ty) (lb:Pos) (Sx:s.heap.get lb=some (.cells [.str t.a,.str t.b] 0)) (F:Nat) (k1 k2):
   ja c F k1 k2 3 [.ptr bp 0,.str t.a,.str t.b,.int .u8 t.k,.slice lb 0 2 (some 2) 1,.int .i64 2,.int .i64 ((0:Nat):Int)] s=if lJ gs t=true then k1 [.int .i64 6] s else k2 [.ptr bp 0,.str t.a,.str t.b,.int .u8 t.k] s:=by
 have w0:ax .i64 (((0:Nat):Int)+1)=((1:Nat):Int):=rfl;have w1:ax .i64 (((1:Nat):Int)+1)=((2:Nat):Int):=rfl;have i0:∀(K:AV->St->Option (AV×St))(s:St),ak c (.idxA 1 none) [.slice lb 0 2 (some 2) 1,.int .i64 ((0:Nat):Int)] s K=K (.ptr lb 0) s:=λK s=>aW c K (λH n=>Sw H n 1 lb 2 (some 2) .i64 0 (by omega)) s
 have i1:∀(K:AV->St->Option (AV×St))(s:St),ak c (.idxA 1 none) [.slice lb 0 2 (some 2) 1,.int .i64 ((1:Nat):Int)] s K=K (.ptr lb 1) s:=λK s=>aW c K (λH n=>Sw H n 1 lb 2 (some 2) .i64 1 (by omega)) s
 have d0:decide (((0:Nat):Int)<2)=true:=rfl;have d1:decide (((1:Nat):Int)<2)=true:=rfl;have d2:decide (((2:Nat):Int)<2)=false:=rfl;have e0:([AV.str t.a,.str t.b]:List AV)[0]? =some (.str t.a):=rfl;have e1:([AV.str t.a,.str t.b]:List AV)[1]? =some (.str t.b):=rfl;have e2:([x,y,AV.map mp]:List AV)[2]? =some (.map mp):=rfl;rw[pL];rcases UN he t.a with⟨n1,j,v,f1⟩|⟨n1,f1⟩
 . have lk1:=λ(K:AV->St->Option (AV×St))=>BG c K (.int .i64 0) (k:= .str t.a) hm f1
   simp only[aF,cX,mg,d0,iO,i0,iP,Sx,hb,aS,Zd5,e0,e2,mC,aE,qZ,cU,Zc7,lk1,xp,Zb0,Zd9,zI,Bool.not_true,lF,pF,w0];rw[pL];rcases UN he t.b with⟨n2,j,v,f2⟩|⟨n2,f2⟩
   . have lk2:=λ(K:AV->St->Option (AV×St))=>BG c K (.int .i64 0) (k:= .str t.b) hm f2
     simp only[aF,cX,mg,d1,iO,i1,iP,Sx,hb,aS,Zd5,e1,e2,mC,aE,qZ,cU,Zc7,lk2,xp,Zb0,Zd9,zI,Bool.not_true,lF,pF,w1];rw[pL];have:lJ gs t=false:=(by simp[lJ,n1,n2]);rw[this];simp only[aF,cX,mg,d2,lF,Zg4,Zh3]
   . have lk2:=λ(K:AV->St->Option (AV×St))=>BG c K (.int .i64 0) (k:= .str t.b) hm f2
     have:lJ gs t=true:=(by simp[lJ,n2]);rw[this];simp only[aF,cX,mg,d1,iO,i1,iP,Sx,hb,aS,Zd5,e1,e2,mC,aE,qZ,cU,Zc7,lk2,xp,Zb0,Zd9,zI,Zn9,Zg8]
 . have lk1:=λ(K:AV->St->Option (AV×St))=>BG c K (.int .i64 0) (k:= .str t.a) hm f1
   have:lJ gs t=true:=(by simp[lJ,n1]);rw[this];simp only[aF,cX,mg,d0,iO,i0,iP,Sx,hb,aS,Zd5,e0,e2,mC,aE,qZ,cU,Zc7,lk1,xp,Zb0,Zd9,zI,Zn9,Zg8]
theorem ac1 (hc:Sem c){s0 s:St}{bp mp:Pos}{gs:List aO}{ts:List Ty}{gk tk:Option Pos}(Di:Wf s0)(B:ff s0 s bp mp gs ts gk tk)(hl:ts.length<=200)(t:Ty)(aU:aB t.a t.b=true)(hs:HA ts)(ht:∀u,ts.getLast? =some u->eF t u=false):
   ∃s',c 175 [.ptr bp 0,.str t.a,.str t.b,.int .u8 t.k] s=some (.int .i64 (qH gs ts t),s')/\(qH gs ts t≠0->s'=s)/\(qH gs ts t=0->∃nE,ff s0 s' bp mp gs (ts++[t]) gk nE):=by
 have cG:¬t.a=t.b:=λe=>by rw[e,wQ]at aU;cases aU
 have kq:=UH hc s bp mp _ _ B.book;have hkt:JH t=true->(t.k=1\/(¬t.k=1/\t.k=2)):=λq=>by
   simp only[JH,Zi1,Ze1]at q;by_cases e:t.k=1
   .exact .inl e
   .exact .inr ⟨e,q.resolve_left e⟩
 by_cases hk:JH t=true
 . have dI  :Wf (af s (.cells [.str t.a,.str t.b] 0)):=bR B.wf;have B1:=B.aA (Grew.af B.wf (.cells [.str t.a,.str t.b] 0));have Sy:=Grew.af B.wf (.cells [.str t.a,.str t.b] 0);have Sx:(af s (.cells [.str t.a,.str t.b] 0)).heap.get s.next=some (.cells [.str t.a,.str t.b] 0):=aC _ _;generalize Me:af s (.cells [.str t.a,.str t.b] 0)=s1 at dI B1 Sy Sx;obtain⟨es,cl,iX,hm2⟩:=B1.AA;have L:∀k1 k2,ja c 3 k1 k2 3 [.ptr bp 0,.str t.a,.str t.b,.int .u8 t.k,.slice s.next 0 2 (some 2) 1,.int .i64 2,.int .i64 0] s1=if lJ gs t=true then k1 [.int .i64 6] s1 else k2 [.ptr bp 0,.str t.a,.str t.b,.int .u8 t.k] s1:=λk1 k2=>aa0 (c:=c) B1.book iX hm2 t s.next Sx 3 k1 k2
   have ry:=tE hc B1 (by omega) t aU hs ht;have l2:∀(K:AV->St->Option (AV×St))(s:St),ak c (.lenB .l) [.slice (af s (.cells [] 0)).next 0 2 (some 2) 1] s K=K (.int .i64 2) s:=λK s=>aW c K (λH n=>rfl) s
   have lT:∀(K:AV->St->Option (AV×St))(s:St),ak c (.lenB .l) [jE tk ts.length 3] s K=K (.int .i64 (ts.length:Int)) s:=λK s=>aW c K (EM λh=>by rw[B.xV.1 h];rfl) s
   have UO:∀(K:AV->St->Option (AV×St)),ak c (.buildSlice 1 2 [(.str [])] [0,1]) [.str t.a,.str t.b] s K=K (.slice s.next 0 2 (some 2) 1) s1:=λK=>by rw[aT, <-Me];have:b6 (bL [AV.str []] 2) ([0,1].map λi=>(i*1,1)) [.str t.a,.str t.b]=some [.str t.a,.str t.b]:=(by simp[b6,bL,eu,eV,aM,AV.cells]);rw[this];rfl
   have l3:∀(K:AV->St->Option (AV×St))(p:Pos)(s:St),ak c (.lenB .l) [.slice p 0 2 (some 2) 1] s K=K (.int .i64 2) s:=λK p s=>aW c K (λH n=>rfl) s
   have aa1:¬(ts.length:Int)=256:=(by omega);have fail:∀e:Int,e≠0->qH gs ts t=e->ri c 3 (.ptr bp 0) (.str t.a) (.str t.b) (.int .u8 t.k) s=some (.int .i64 e,s1)->∃s',c 175 [.ptr bp 0,.str t.a,.str t.b,.int .u8 t.k] s=some (.int .i64 (qH gs ts t),s')/\(qH gs ts t≠0->s'=s)/\(qH gs ts t=0->∃nE,ff s0 s' bp mp gs (ts++[t]) gk nE):=λe he ha h=>by
     refine⟨s,?_,λ_=>rfl,λh0=>absurd (ha.symm.trans h0) he⟩;rw[qI hc 3 h,ha,aK (Plain.int _ _) Sy.keeps]
   cases hu:lJ gs t
   . cases  hd:oF t ts.getLast?
     .  have he:qH gs ts t=0:=(by simp[qH,hk,hu,hd]);rw[hd]at ry;have hplc:(Dj ts t:Int)=ts.length:=by
          unfold Dj;cases hq:ts.getLast? with
          |none=> have:ts=[]:=by simpa using hq
                  subst this;rfl
          | some u=>
            rw[hq]at hd;simp only[oF,Bool.not_eq_false']at hd;simp only[hd,Zg8]
        rw[hplc]at ry;have hpr:=UG hc t.a t.b t.k aU s1 dI
        let s2:=af s1 (.cells t.cells 0)
        have g2:=Grew.af dI (.cells t.cells 0);have B2:=B1.aA g2;obtain⟨s5,r1,r2,r3,r4,r5⟩:=YA hc (s:=s2) g2.wf (tk:=tk) (ts:=ts) (q:=s1.next) (row:=t.cells) B.xV.1 B2.xV.2 (aC _ _) rfl t.one (by omega);have YE:=B2.lt;have b5:s5.heap.get bp=some (.cells [jE gk gs.length 9,jE tk ts.length 3,.map mp] 0):=by rw[r5 bp B.dt YE.1];exact B2.book
        let tv:=AV.slice s2.next 0 (ts.length+1) none 3
        let s6:=cv s5 bp (.cells [jE gk gs.length 9,tv,.map mp] 0)
        have aaX:bp.toNat<s5.next.toNat:=r4 _ _ b5;have nb2:bp≠s2.next:=λe=>absurd (show bp.toNat<s2.next.toNat from YE.1) (by rw[e];exact Zm8 _)
        have st6:∀(K:AV->St->Option (AV×St)),ak c (.store 1) [.ptr bp 1,tv] s5 K=K .undef s6:=λK=>dU c K s5 1 bp 1 tv _ b5 rfl (by simp) rfl
        have g6:∀p,p≠bp->s6.heap.get p=s5.heap.get p:=λp h=>bt (λe=>h e.symm)
        have VU:∀p:Pos,s0.next.toNat<=p.toNat->s0.heap.get p=none:=λp h=>by
          cases hx:s0.heap.get p with
          |none=>rfl
          |some x=>have:=Di _ _ hx;omega
        obtain⟨Ft,cl2,YF,hm4⟩:=B2.AA;have O6:mp≠bp:=λe=>by rw[e,B2.book]at YF;cases YF
        have nmt:tk≠some mp:=λe=>by rw[B2.xV.2 mp e]at YF;cases YF
        have Ss:ff s0 s6 bp mp gs (ts++[t]) gk (some s2.next):={
          wf:=C7 r4 aaX
          keeps:=λp x hp=>by
            have n1:p≠bp:=λe=>by rw[e,B.fb]at hp;cases hp
            have n3:tk≠some p:=λe=>by rw[B.ft p e]at hp;cases hp
            have h2:=B2.keeps p x hp;rw[g6 p n1,r5 p n3 (B2.wf _ _ h2)];exact h2
          next:=by show s0.next.toNat<=s5.next.toNat;exact Zc4 B2.next (by rw[r3,Pos.az];exact Nat.le_succ _)
          book:=by show(cv _ _ _).heap.get bp=_;rw[ej];simp[tv,jE]
          AA:=⟨Ft,cl2,by rw[g6 mp O6,r5 mp nmt YE.2];exact YF,hm4⟩
          qf:=⟨B.qf.1,λb hb=>by obtain⟨cs,h3,h4⟩:=B2.qf.2 b hb;refine⟨cs,?_,h4⟩;rw[g6 b (λe=>B.dg (by rw[<-e];exact hb)),r5 b (B.O4 b hb) (B2.wf _ _ h3)];exact h3⟩
          xV:=⟨λh=>(by cases h),λb hb=>by cases hb;rw[g6 _ (λe=>nb2 e.symm),r2];simp⟩
          dg:=B.dg
          dt:=λe=>nb2 (by injection e with e;exact e.symm)
          O4:=λb hb h=>by
            cases h;obtain⟨cs,h3,h4⟩:=B2.qf.2 _ hb;exact absurd (show s2.next.toNat<s2.next.toNat from B2.wf _ _ h3) (Zm8 _)
          fb:=B.fb
          fm:=B.fm
          fg:=B.fg
          ft:=λb hb=>by cases hb;exact VU _ B2.next
          KH:=λes' cl' hm=>by have m6:s6.heap.get mp=s2.heap.get mp:=(by rw[g6 mp O6,r5 mp nmt YE.2]);rw[m6]at hm;exact B2.KH _ _ hm
          KI:=λes' cl' hm=>by have m6:s6.heap.get mp=s2.heap.get mp:=(by rw[g6 mp O6,r5 mp nmt YE.2]);rw[m6]at hm;exact B2.KI _ _ hm
          rows:=λb cs hb hs i u hu=>by
            obtain⟨Sr,h3,h4⟩:=B2.qf.2 b hb;have x6:s6.heap.get b=s2.heap.get b:=(by rw[g6 b (λe=>B.dg (by rw[<-e];exact hb)),r5 b (B.O4 b hb) (B2.wf _ _ h3)]);rw[x6]at hs;(refine(B2.rows b cs hb hs i u hu).to λp cs a1 a2 a3 hx=> ?_);have aU:p.toNat<s2.next.toNat:=B2.wf _ _ hx;refine⟨by rw[g6 p a1,r5 p a3 aU];exact hx,a2,λe=> ?_⟩;cases e;exact absurd aU (Zm8 _) }
        refine⟨s6,?_,λh=>absurd he h,λ_=>⟨_,Ss⟩⟩;rw[he];rw[qI hc 3 (r:=(.int .i64 0,s6))]
        . rw[M9 (b:=bp) B.book];rw[Ss.book];intro e;have e:=congrArg (λo=>match o with|some (AB.cells (_::v::_) _)=>cS v|_=>none) e;simp only[jE,cS]at e;cases tk with
          |none=>simp[cS,B.xV.1 rfl]at e
          |some b=>simp[cS]at e
        (rw[oH];have bq:eH (jE tk ts.length 3) (jE tk ts.length 3)=true:=(by cases tk;exact Kj;exact GY _ _ _ _);have vX:=λ(K:AV->Option (AV×St))=>wJ K (p:=bp) (o:=1) (h:=s1.heap) (h2:=s1.heap) (v:=jE tk ts.length 3) (by rw[B1.book];rfl) (by rw[B1.book];rfl) bq);have ze:b6 (bL [AV.str [],AV.str [],.int .u8 0] 1) [(0,3)] [AV.agg t.cells]=some t.cells:=by
          simp[b6,bL,eu,eV,Ty.cells,aM]
        have abC:decide ((ts.length:Int)=256)=false:=Za2 aa1;rw[hu]at L;rcases hkt hk with f|⟨f,f2⟩
        .have d1:decide (t.k=1)=true:=H5 f;simp[-aT,kq,cG,UO,l3,d1,L,ry,B1.book,lT,abC,hpr,vX,ze];show Kh (c 196 [jE tk ts.length 3,.int .i64 (ts.length:Int),.slice s1.next 0 1 (some 1) 3] s2) _=_;rw[r1];exact st6 _
        .have d1:decide (t.k=1)=false:=Za2 f;have d2:decide (t.k=2)=true:=H5 f2;simp[-aT,kq,cG,UO,l3,d1,d2,L,ry,B1.book,lT,abC,hpr,vX,ze];show Kh (c 196 [jE tk ts.length 3,.int .i64 (ts.length:Int),.slice s1.next 0 1 (some 1) 3] s2) _=_;rw[r1];exact st6 _
     .  refine fail 5 (by omega) (by simp[qH,hk,hu,hd]) ?_;rw[hd]at ry;rw[hu]at L;rw[oH];rcases hkt hk with f|⟨f,f2⟩
        .have d1:decide (t.k=1)=true:=H5 f;simp[-aT,kq,cG,UO,l3,d1,L,ry]
        .have d1:decide (t.k=1)=false:=Za2 f;have d2:decide (t.k=2)=true:=H5 f2;simp[-aT,kq,cG,UO,l3,d1,d2,L,ry]
   . refine fail 6 (by omega) (by simp[qH,hk,hu]) ?_;rw[hu]at L;rw[oH];rcases hkt hk with f|⟨f,f2⟩
     .  have d1:decide (t.k=1)=true:=H5 f;simp[-aT,kq,cG,UO,l3,d1,L]
     .  have d1:decide (t.k=1)=false:=Za2 f;have d2:decide (t.k=2)=true:=H5 f2;simp[-aT,kq,cG,UO,l3,d1,d2,L]
 .have hkf:¬t.k=1/\¬t.k=2:=(by simpa [JH]using hk);have he:qH gs ts t=23:=(by simp[qH,hk]);refine⟨s,?_,λ_=>rfl,λh0=>absurd (he.symm.trans h0) (by omega)⟩;rw[qI hc 3 (r:=(.int .i64 23,s)),he,aK (Plain.int _ _) (bF.refl s)];rw[oH];simp[kq,hkf]
@[simp] theorem aed{R:Type}(K:AV->Option R)(z:Bool)(l:List aO):fJ (.lenB .l) [eN z l] K=K (.int .i64 (l.length:Int)):=by unfold eN;rw[Ro];simp
theorem aa2{gs:List aO}{k:Nat}(h:k<gs.length)(hk:k<=64):qG (gs.take k) gs[k]=if fZ gs[k]≠0 then fZ gs[k]else if 0<=scan (jT gs gs[k].name) k 0 then 5 else if 64<=k then 7 else 0:=by
 have hl:(gs.take k).length=k:=by simp;omega
 unfold qG;rw[hl,aaS (by omega)];have:(k=64)↔64<=k:=by omega
 simp only[this]
@[simp] theorem adQ{R:Type}(c:ai)(K:AV->St->Option R)(st:St)(t:aO)(cs:List AV)(h:cs.length=9):ak c (.store 9) [.ptr st.next 0,.agg t.cells] (af st (.cells cs 0)) K=K .undef (af st (.cells t.cells 0)):=dx c K st 9 (.agg t.cells) cs rfl h.symm t.one
theorem ack (hc:Sem c){s0:St}(Di:Wf s0)(z:Bool)(gs:List aO)(hl:gs.length<=100)(bp mp rp:Pos)(F:Nat)(k1 k2):∀(m k:Nat)(s:St)(gk:Option Pos),ff s0 s bp mp (gs.take k) [] gk none->gs.length<=k+m->k<=gs.length->k<=64->
  ∃ s',bF s0 s'/\(((jX gs m k).2=0/\(∃FE,ff s0 s' bp mp gs [] FE none)/\gV c F k1 k2 (m+1) [.ptr rp 0,.ptr bp 0,eN z gs,.int .i64 (gs.length:Int),.int .i64 (k:Int)] s=k2 [.ptr rp 0,.ptr bp 0] s')\/
    ((jX gs m k).2≠0/\gV c F k1 k2 (m+1) [.ptr rp 0,.ptr bp 0,eN z gs,.int .i64 (gs.length:Int),.int .i64 (k:Int)] s=k1 [.gP,.int .i64 (jX gs m k).1,.int .i64 (jX gs m k).2] s')):=by
 intro m;induction m with
 |zero=>
  intro k s gk B h1 h2 h3;obtain rfl:k=gs.length:=by omega
  refine⟨s,B.keeps,.inl ⟨rfl,⟨gk,by simpa using B⟩,?_⟩⟩;rw[qg];simp
 |succ m ih   =>
  intro k s gk B h1 h2 h3;by_cases h:k<gs.length
  . have w:ax .i64 ((k:Int)+1)=((k+1:Nat):Int):=wrap64 (by omega) (by omega);have B1:=B.aA (Grew.af B.wf (.cells gs[k].cells 0));obtain⟨s2,a1,a2,a3⟩:=acZ hc Di B1 (by simp;omega) gs[k];have hA:=aa2 h h3;have step:∀(K:AV->St->Option (AV×St)),(ak c (.idxA 9 none) [eN z gs,.int .i64 (k:Int)] s λx19 s12=>ak c (.load (some 9)) [x19] s12 K)=K (.agg gs[k].cells) s:=λK=>by
        simp[eN,h]
    by_cases he:qG (gs.take k) gs[k]=0
    .   obtain⟨FE,B2⟩:=a3 he;have e1:gs.take k++[gs[k]]=gs.take (k+1):=(Zd1 h).symm;rw[e1]at B2;rw[hA]at he;have c1:fZ gs[k]=0:=by
         by_cases e:fZ gs[k]=0
         .  exact e
         .  rw[Za8 e]at he;exact absurd he e
        (rw[Za5 (by rw[c1];simp)]at he;have c2:¬0<=scan (jT gs gs[k].name) k 0:=λe=>by rw[Za8 e]at he;cases he);(rw[Za5 c2]at he;have c3:¬64<=k:=λe=>by rw[Za8 e]at he;cases he);have ec:jX gs (m+1) k=jX gs m (k+1):=by
         rw[jX,H4 h];simp only;rw[Za5 (by rw[c1];simp),Za5 c2,Za5 c3]
        obtain⟨s',g1,g2⟩:=ih (k+1) s2 FE B2 (by omega) (by omega) (by omega);refine⟨s',g1,?_⟩;rw[ec];have eL:gV c F k1 k2 (m+1+1) [.ptr rp 0,.ptr bp 0,eN z gs,.int .i64 (gs.length:Int),.int .i64 (k:Int)] s=gV c F k1 k2 (m+1) [.ptr rp 0,.ptr bp 0,eN z gs,.int .i64 (gs.length:Int),.int .i64 ((k+1:Nat):Int)] s2:=by
         rw[qg];have hz:qG (gs.take k) gs[k]=0:=(by rw[hA,Za5 (by rw[c1];simp),Za5 c2,Za5 c3]);rw[hz]at a1;simp[eN,h,a1,w]
        rw[eL];exact g2
    .   obtain rfl:=a2 he;have ec:jX gs (m+1) k=((k:Int),qG (gs.take k) gs[k]):=by
         rw[jX,H4 h];simp only;rw[hA]at he ⊢;by_cases c1:fZ gs[k]=0
         .  have e1:¬fZ gs[k]≠0:=(by rw[c1];simp);by_cases c2:0<=scan (jT gs gs[k].name) k 0
            .simp only[e1,c2,Zh3,Zg8]
            . by_cases c3:64<=k
              .simp only[e1,c2,c3,Zh3,Zg8]
              .rw[Za5 e1,Za5 c2,Za5 c3]at he;exact absurd rfl he
         .  have e1:fZ gs[k]≠0:=c1;rw[Za8 e1,Za8 e1]
        refine⟨_,B1.keeps,.inr ⟨by rw[ec];exact he,?_⟩⟩;rw[ec,qg];simp[eN,h,a1,he]
  .obtain rfl:k=gs.length:=(by omega);have ec:jX gs (m+1) gs.length=(0,0):=(by rw[jX,Zb5 (by omega)]);refine⟨s,B.keeps,.inl ⟨by rw[ec],⟨gk,by simpa using B⟩,?_⟩⟩;rw[qg];simp
theorem KJ{ts:List Ty}{k:Nat}(h:k<ts.length):(ts.take k).getLast? =kf ts k:=by
 unfold kf;by_cases h0:k=0
 .simp[h0]
 .rw[Za5 h0,List.getLast?_eq_getElem?];have:(ts.take k).length=k:=(by simp;omega);rw[this,Zb8,Za8 (by omega)]
theorem aa3{ts:List Ty}{k:Nat}(h:k<ts.length)(hs:HA (ts.take k))(hb:∀u,kf ts k=some u->eF u ts[k]=true):HA (ts.take (k+1)):=by
 intro i j hj RI;have xD:j<k+1:=by simp at hj;omega
 simp only[Zl7];by_cases e:j=k
 . subst e;have h1:kf ts j=some (ts[j - 1]'(by omega)):=(by rw[kf,Za5 (by omega),H4 (by omega)]);have h2:=hb _ h1;by_cases e2:i=j - 1
   .subst e2;exact h2
   .have h3:=hs i (j - 1) (by simp;omega) (by omega);simp only[Zl7]at h3;exact EO h3 h2
 .have:=hs i j (by simp;omega) RI;simpa only[Zl7]using this
def MB(t:Ty)(p:Option Ty):Bool:=match p with|none=>false|some p=>eF t p
theorem aa4(t:Ty)(p:Option Ty):Qi t p=(!JH t|| !aB t.a t.b||MB t p):=by cases p<;>rfl
def Sz(t:Ty)(p:Option Ty):Bool:=aB t.a t.b&& !MB t p
def eK(gs:List aO)(ts:List Ty)(k:Nat)(t:Ty):Int:=if Sz t (kf ts k)=true then qH gs (ts.take k) t else 23
theorem acm (hc:Sem c){s0:St}(Di:Wf s0)(z z2:Bool)(gs:List aO)(ts:List Ty)(hl:gs.length<=100)(nY:ts.length<=100)(bp mp rp:Pos)(Gz:s0.heap.get rp=some (.cells [eN z gs,j4 z2 ts] 0))(gk:Option Pos)(F:Nat)(k1 k4):∀(m k:Nat)(s:St)(tk:Option Pos),ff s0 s bp mp gs (ts.take k) gk tk->HA (ts.take k)->ts.length<=k+m->k<=ts.length->
  ∃s',bF s0 s'/\((gb gs ts m k).2=0->(∃nE,ff s0 s' bp mp gs ts gk nE)/\HA ts)/\jt c F k1 k4 (m+1) [.ptr rp 0,.ptr bp 0,j4 z2 ts,.int .i64 (ts.length:Int),.int .i64 (k:Int)] s=if(gb gs ts m k).2=0 then k4 [.ptr bp 0] s' else k1 [.gP,.int .i64 (gb gs ts m k).1,.int .i64 (gb gs ts m k).2] s':=by
 intro m;induction m with
 |zero=>
  intro k s tk B hs h1 h2;obtain rfl:k=ts.length:=by omega
  refine⟨s,B.keeps,λ_=>⟨⟨tk,by simpa using B⟩,by simpa using hs⟩,?_⟩;rw[qh];simp[gb]
 |succ m ih   =>
  intro k s tk B hs h1 h2;by_cases h:k<ts.length
  . have w:ax .i64 ((k:Int)+1)=((k+1:Nat):Int):=wrap64 (by omega) (by omega);have wg:ax .i64 ((gs.length:Int)+(k:Int))=(gs.length:Int)+k:=wrap64 (by omega) (by omega);have B1:=B.aA (Grew.af B.wf (.cells ts[k].cells 0));have gY:(af s (.cells ts[k].cells 0)).heap.get rp=some (.cells [eN z gs,j4 z2 ts] 0):=B1.keeps _ _ Gz;have dI:=B1.wf;have aa1:¬256<=k:=(by omega);have ec:gb gs ts (m+1) k=if eK gs ts k ts[k]≠0 then((gs.length:Int)+k,eK gs ts k ts[k])else gb gs ts m (k+1):=by rw[gb,H4 h];simp only[aa1,Zh3];rw[aa4];unfold eK Sz qH;rw[KJ h];cases JH ts[k]<;>cases aB ts[k].a ts[k].b<;>cases MB ts[k] (kf ts k)<;>cases lJ gs ts[k]<;>cases oF ts[k] (kf ts k)<;>simp
    have J9   :Sz ts[k] (kf ts k)=true->∃s',bF s0 s'/\(eK gs ts k ts[k]=0->(gb gs ts m (k+1)).2=0->(∃nE,ff s0 s' bp mp gs ts gk nE)/\HA ts)/\∃s2,c 175 [.ptr bp 0,.str ts[k].a,.str ts[k].b,.int .u8 ts[k].k] (af s (.cells ts[k].cells 0))=some (.int .i64 (eK gs ts k ts[k]),s2)/\s2.heap.get rp=some (.cells [eN z gs,j4 z2 ts] 0)/\
          (eK gs ts k ts[k]≠0->s'=s2)/\(eK gs ts k ts[k]=0->
            jt c F k1 k4 (m+1) [.ptr rp 0,.ptr bp 0,j4 z2 ts,.int .i64 (ts.length:Int),.int .i64 ((k+1:Nat):Int)] s2=if(gb gs ts m (k+1)).2=0 then k4 [.ptr bp 0] s' else k1 [.gP,.int .i64 (gb gs ts m (k+1)).1,.int .i64 (gb gs ts m (k+1)).2] s'):=λdH=>by
        have SA:=dH;simp only[Sz,Za7,Zh1]at SA;obtain⟨b2,b3⟩:=SA;have adR:∀u,(ts.take k).getLast? =some u->eF ts[k] u=false:=λu hu=>by rw[KJ h]at hu;rw[hu]at b3;exact b3
        obtain⟨s2,a1,a2,a3⟩:=ac1 hc Di B1 (by simp;omega) ts[k] b2 hs adR;have et:eK gs ts k ts[k]=qH gs (ts.take k) ts[k]:=(by unfold eK;rw[Za8 dH]);rw[<-et]at a1 a2 a3;by_cases h0:eK gs ts k ts[k]=0
        . obtain⟨nE,B2⟩:=a3 h0;have e1:ts.take k++[ts[k]]=ts.take (k+1):=(Zd1 h).symm;rw[e1]at B2;have hd:oF ts[k] (kf ts k)=false:=by
            rw[et,qH,KJ h]at h0;cases hq:oF ts[k] (kf ts k)
            .rfl
            . rw[hq]at h0;split at h0
              .simp at h0
              .split at h0<;>simp at h0
          have xL:=aa3 h hs (λu hu2=>by rw[hu2]at hd;simpa [oF]using hd);obtain⟨s',g1,gB,g2⟩:=ih (k+1) s2 nE B2 xL (by omega) (by omega);exact⟨s',g1,λ_=>gB,s2,a1,B2.keeps _ _ Gz,λe=>absurd h0 e,λ_=>g2⟩
        .obtain rfl:=a2 h0;exact⟨_,B1.keeps,λe=>absurd e h0,_,a1,gY,λ_=>rfl,λe=>absurd e h0⟩
    rw[ec];cases dH:Sz ts[k] (kf ts k)
    ·
        have e23:eK gs ts k ts[k]=23:=(by unfold eK;rw[dH];rfl);refine⟨_,B1.keeps,λe=>(by rw[e23,Za8 (by decide)]at e;cases e),?_⟩;rw[qh,e23];cases q1:aB ts[k].a ts[k].b
        .simp[j4,h,q1,qw,gY,wg]
        . have q2:MB ts[k] (kf ts k)=true:=(by simpa [Sz,q1]using dH);have tS:¬k=0:=λe=>by rw[kf,Za8 e]at q2;cases q2
          have sy:k - 1<ts.length:=(by omega);have wk:ax .i64 ((k:Int) - 1)=((k - 1:Nat):Int):=(by rw[wrap64 (by omega) (by omega)];omega);have q3:eF ts[k] ts[k - 1]=true:=(by rw[kf,Za5 tS,H4 sy]at q2;exact q2);have ho:=Az hc ts[k - 1] ts[k] _ dI;have vO:¬nK ts[k - 1] ts[k]<=0:=(by have:=IX.2 q3;omega);simp[j4,h,q1,qw,gY,wg,tS,sy,wk,ho,vO]
    .   obtain⟨s',g1,gB,s2,t1,t2,t3,t4⟩:=J9 dH;refine⟨s',g1,λe=>by
          by_cases he:eK gs ts k ts[k]=0
          .exact gB he (by rw[Za5 (by simp[he])]at e;exact e)
          .rw[Za8 he]at e;exact absurd e he,?_⟩
        rw[qh];have SA:=dH;simp only[Sz,Za7,Zh1]at SA;obtain⟨q1,q2⟩:=SA;by_cases he:eK gs ts k ts[k]=0
        . have t4:=t4 he;rw[he]at t1;simp only[he,ne_eq,not_true,Zh3];rw[<-t4];by_cases tS:k=0
          .have dk:decide ((k:Int)=0)=true:=H5 (by omega);have dk':decide (k=0)=true:=H5 tS;clear tS;simp[j4,h,q1,qw,gY,dk,dk',t1,w]
          . have sy:k - 1<ts.length:=(by omega);have wk:ax .i64 ((k:Int) - 1)=((k - 1:Nat):Int):=(by rw[wrap64 (by omega) (by omega)];omega);have q3:eF ts[k] ts[k - 1]=false:=(by rw[kf,Za5 tS,H4 sy]at q2;exact q2);have ho:=Az hc ts[k - 1] ts[k] _ dI;have vO:nK ts[k - 1] ts[k]<=0:=by
              have:¬0<nK ts[k - 1] ts[k]:=λe=>by rw[IX.1 e]at q3;cases q3
              omega
            simp[j4,h,q1,qw,gY,tS,sy,wk,ho,vO,t1,w]
        . obtain rfl:=t3 he;simp only[he,ne_eq,not_false_eq_true,Zg8,Zh3];by_cases tS:k=0
          .have dk:decide ((k:Int)=0)=true:=H5 (by omega);have dk':decide (k=0)=true:=H5 tS;clear tS;simp[j4,h,q1,qw,gY,dk,dk',t1,t2,wg,he]
          . have sy:k - 1<ts.length:=(by omega);have wk:ax .i64 ((k:Int) - 1)=((k - 1:Nat):Int):=(by rw[wrap64 (by omega) (by omega)];omega);have q3:eF ts[k] ts[k - 1]=false:=(by rw[kf,Za5 tS,H4 sy]at q2;exact q2);have ho:=Az hc ts[k - 1] ts[k] _ dI;have vO:nK ts[k - 1] ts[k]<=0:=by
              have:¬0<nK ts[k - 1] ts[k]:=λe=>by rw[IX.1 e]at q3;cases q3
              omega
            simp[j4,h,q1,qw,gY,tS,sy,wk,ho,vO,t1,t2,wg,he]
  .obtain rfl:k=ts.length:=(by omega);refine⟨s,B.keeps,λ_=>⟨⟨tk,by simpa using B⟩,by simpa using hs⟩,?_⟩;rw[qh];have ec:gb gs ts (m+1) ts.length=(0,0):=(by rw[gb,Zb5 (by omega)]);simp[ec]
theorem NH(hc:Sem c)(z z2:Bool)(gs:List aO)(ts:List Ty)(hl:gs.length<=100)(nY:ts.length<=100)(s:St)(hw:Wf s):
   ∃v s',c 129 [.agg [eN z gs,j4 z2 ts]] s=some (.tuple [v,.int .i64 (cI gs ts).1,.int .i64 (cI gs ts).2],s')/\bF s s'/\((cI gs ts).2=0->∃bp mp gk tk,v= .ptr bp 0/\ff (af s (.cells [eN z gs,j4 z2 ts] 0)) s' bp mp gs ts gk tk/\HA ts):=by
 let s0:=af s (.cells [eN z gs,j4 z2 ts] 0)
 have Di:Wf s0:=bR hw;have k0:bF s s0:=cE hw;have Gz:s0.heap.get s.next=some (.cells [eN z gs,j4 z2 ts] 0):=aC _ _;have QK:=acY hc s0;have B:=ff.start Di
 have finish:∀{v:AV}{s':St},uY c 102 (.agg [eN z gs,j4 z2 ts]) s=some (.tuple [v,.int .i64 (cI gs ts).1,.int .i64 (cI gs ts).2],s')->bF s0 s'->((cI gs ts).2=0->∃bp mp gk tk,v= .ptr bp 0/\ff s0 s' bp mp gs ts gk tk/\HA ts)->
     ∃v s',c 129 [.agg [eN z gs,j4 z2 ts]] s=some (.tuple [v,.int .i64 (cI gs ts).1,.int .i64 (cI gs ts).2],s')/\bF s s'/\((cI gs ts).2=0->∃bp mp gk tk,v= .ptr bp 0/\ff s0 s' bp mp gs ts gk tk/\HA ts):=λ{v s'} h hk hB=>by
   have h2:=NI hc 102 h;unfold tidy at h2;split at h2
   .rename_i hp;exact⟨v,s,h2,bF.refl s,λe=>by obtain⟨bp,mp,gk,tk,rfl,_⟩:=hB e;exact absurd hp.1 Pv⟩
   .exact⟨v,s',h2,k0.trans hk,hB⟩
 obtain⟨s1,g1,g2⟩:=ack hc Di z gs hl (af s0 (.map [] 0)).next s0.next s.next 102 (λvs s30=>ji vs λx2 vs=>ji vs λx3 vs=>ji vs λx4 vs=>pX vs (some (.tuple [x2,x3,x4],s30))) (λvs s31=>ji vs λx1 vs=>ji vs λx5 vs=>pX vs (
   ak c (.fieldA 1) [x1] s31 λUD s32=>ak c (.load none) [UD] s32 λO0 Yr=>ak c (.lenB .l) [O0] Yr λx31 Ys=>ak c .move [(.int .i64 0)] Ys λx32 Yt=>
   jt c 102 (λvs YG=>ji vs λx2 vs=>ji vs λx3 vs=>ji vs λx4 vs=>pX vs (some (.tuple [x2,x3,x4],YG))) (λvs YH=>ji vs λx5 vs=>pX vs (
     ak c .move [x5] YH λYI YJ=>ak c .move [YI] YJ λx2 YK=>ak c .move [(.int .i64 0)] YK λx3 YM=>ak c .move [(.int .i64 0)] YM λx4 YN=>some (.tuple [x2,x3,x4],YN))) 102 [x1,x5,O0,x31,x32] Yt)) 101 0 _ none B (by omega) (by omega) (by omega)
 have YO:∀r,gV c 102 (λvs s30=>ji vs λx2 vs=>ji vs λx3 vs=>ji vs λx4 vs=>pX vs (some (.tuple [x2,x3,x4],s30))) (λvs s31=>ji vs λx1 vs=>ji vs λx5 vs=>pX vs (
   ak c (.fieldA 1) [x1] s31 λUD s32=>ak c (.load none) [UD] s32 λO0 Yr=>ak c (.lenB .l) [O0] Yr λx31 Ys=>ak c .move [(.int .i64 0)] Ys λx32 Yt=>
   jt c 102 (λvs YG=>ji vs λx2 vs=>ji vs λx3 vs=>ji vs λx4 vs=>pX vs (some (.tuple [x2,x3,x4],YG))) (λvs YH=>ji vs λx5 vs=>pX vs (
     ak c .move [x5] YH λYI YJ=>ak c .move [YI] YJ λx2 YK=>ak c .move [(.int .i64 0)] YK λx3 YM=>ak c .move [(.int .i64 0)] YM λx4 YN=>some (.tuple [x2,x3,x4],YN))) 102 [x1,x5,O0,x31,x32] Yt)) 102 [.ptr s.next 0,.ptr (af s0 (.map [] 0)).next 0,eN z gs,.int .i64 (gs.length:Int),.int .i64 ((0:Nat):Int)] (af (af s0 (.map [] 0)) (.cells [.ah,.ah,.map s0.next] 0))=r->uY c 102 (.agg [eN z gs,j4 z2 ts]) s=r:=λr h=>by
   rw[<-h,SB];have hb:=(B.keeps _ _ Gz)
   simp only[pH,Hx,aE,kI];show Kh (c 172 [] s0) _=_;rw[QK];simp only[ic,cU,iP,hb,aS,Zd5,Zb0,Zc7,mC,aaN];rfl
 rcases g2 with⟨q1,⟨FE,B2⟩,q3⟩|⟨q1,q3⟩
 . have e:cI gs ts=gb gs ts 101 0:=(by rw[cI,Za5 (by simp[q1])]);obtain⟨s2,r1,rB,r2⟩:=acm hc Di z z2 gs ts hl nY (af s0 (.map [] 0)).next s0.next s.next Gz FE 102 (λvs YG=>ji vs λx2 vs=>ji vs λx3 vs=>ji vs λx4 vs=>pX vs (some (.tuple [x2,x3,x4],YG))) (λvs YH=>ji vs λx5 vs=>pX vs (
     ak c .move [x5] YH λYI YJ=>ak c .move [YI] YJ λx2 YK=>ak c .move [(.int .i64 0)] YK λx3 YM=>ak c .move [(.int .i64 0)] YM λx4 YN=>some (.tuple [x2,x3,x4],YN))) 101 0 s1 none (by simpa using B2) (by intro i j hj;simp at hj) (by omega) (by omega)
   have Fu:s1.heap.get s.next=some (.cells [eN z gs,j4 z2 ts] 0):=B2.keeps _ _ Gz;have hL:=YO _ q3;simp only[aF,cX,cU,iP,Fu,aS,Zd5,Zd9,Zb0,Zc7,mC,aaR,aE]at hL;have FD:=r2;rw[show(((0:Nat):Int))=0 from rfl]at FD;simp only[aE,Nat.reduceAdd]at FD;rw[FD]at hL;rw[e]at finish ⊢;by_cases h2:(gb gs ts 101 0).2=0
   . have h3:=Mz gs ts 101 0 h2;rw[Za8 h2]at hL;simp only[aF,cX]at hL;exact finish (by rw[h2,h3];exact hL) r1 (λe=>by
        obtain⟨⟨nE,B3⟩,hs⟩:=rB e;exact⟨_,_,_,_,rfl,B3,hs⟩)
   .rw[Za5 h2]at hL;simp only[aF,cX]at hL;exact finish hL r1 (λe=>absurd e h2)
 .have e:cI gs ts=jX gs 101 0:=(by rw[cI,Za8 q1]);have hL:=YO _ q3;simp only[aF,cX]at hL;rw[e]at finish ⊢;exact finish hL g1 (λe=>absurd e q1)
theorem SC(hc:Sem c)(z z2:Bool)(gs:List aO)(ts:List Ty)(hl:gs.length<=100)(nY:ts.length<=100)(s:St)(hw:Wf s):c 80 [.agg [eN z gs,j4 z2 ts]] s=some (.tuple [.int .i64 (cI gs ts).1,.int .i64 (cI gs ts).2],s):=by
 have Di:Wf (af s (.cells [eN z gs,j4 z2 ts] 0)):=bR hw;obtain⟨v,s',h1,h2,_⟩:=NH hc z z2 gs ts hl nY _ Di;have W9:cut [eN z gs,j4 z2 ts] 0 2=some [eN z gs,j4 z2 ts]:=bI rfl;rw[F0 hc 1 (r:=(.tuple [.int .i64 (cI gs ts).1,.int .i64 (cI gs ts).2],s')),aK (Plain.tuple (by simp[Plain.int])) ((cE hw).trans h2)];rw[I8];simp[W9,h1]
structure Rl where
 k:Int
 wt:Int
 a:List Nat
 b:List Nat
 t:List Nat
 n:Int
def Rl.cells(r:Rl):List AV:=[.int .u8 r.k,.int .i64 r.wt,.str r.a,.str r.b,.str r.t,.int .i64 r.n]
@[simp] theorem Rl.c0(t:Rl):t.cells[0]? =some (.int .u8 t.k):=id rfl
@[simp] theorem Rl.c1(t:Rl):t.cells[1]? =some (.int .i64 t.wt):=id rfl
@[simp] theorem Rl.c2(t:Rl):t.cells[2]? =some (.str t.a):=id rfl
@[simp] theorem Rl.c3(t:Rl):t.cells[3]? =some (.str t.b):=id rfl
@[simp] theorem Rl.c4(t:Rl):t.cells[4]? =some (.str t.t):=id rfl
@[simp] theorem Rl.c5(t:Rl):t.cells[5]? =some (.int .i64 t.n):=id rfl
@[simp] theorem Rl.cc(t:Rl):cut t.cells 0 6=some t.cells:=bI rfl
@[simp] theorem Rl.one(t:Rl):aQ t.cells=true:=id rfl
def Dk(z:Bool)(rs:List Rl):AV:=ro 6 z (rs.map Rl.cells)
@[simp] theorem aee{R:Type}(c:ai)(K:AV->St->Option R)(st:St)(z:Bool)(l:List Rl):ak c (.lenB .l) [Dk z l] st K=K (.int .i64 (l.length:Int)) st:=by unfold Dk;rw[ke];simp
structure bZ where
 tz:Bool
 ts:List aL
 gz:Bool
 gs:List aO
 yz:Bool
 ys:List Ty
 cz:Bool
 cs:List Int
 rz:Bool
 rs:List Rl
def bZ.cells(p:bZ):List AV:=[tabs p.tz p.ts,eN p.gz p.gs,j4 p.yz p.ys,ints p.cz p.cs,Dk p.rz p.rs]
@[simp] theorem bZ.c0(p:bZ):p.cells[0]? =some (tabs p.tz p.ts):=id rfl
@[simp] theorem bZ.c1(p:bZ):p.cells[1]? =some (eN p.gz p.gs):=id rfl
@[simp] theorem bZ.c2(p:bZ):p.cells[2]? =some (j4 p.yz p.ys):=id rfl
@[simp] theorem bZ.c3(p:bZ):p.cells[3]? =some (ints p.cz p.cs):=id rfl
@[simp] theorem bZ.c4(p:bZ):p.cells[4]? =some (Dk p.rz p.rs):=id rfl
@[simp] theorem bZ.cc(p:bZ):cut p.cells 0 5=some p.cells:=bI rfl
structure bZ.FC(p:bZ):Prop where
 ts:p.ts.length<=100
 gs:p.gs.length<=100
 ys:p.ys.length<=100
 cs:p.cs.length<=100
 rs:p.rs.length<=100
 ok:∀t∈p.ts,t.Ok
def rj(l:List Int):Bool:=l.all λc=>decide (0<=c)&&decide (c<64)
def iu(p:bZ):Int×Int:=
 if(bD p.ts).2≠0 then bD p.ts else if(cI p.gs p.ys).2≠0 then cI p.gs p.ys
 else if p.cs.length≠0/\p.cs.length≠p.gs.length then(0,44)else if rj p.cs=false then(0,44)
 else if aX p.ts<p.gs.length then(0,45)else(0,0)
theorem Tt{p:bZ}(h:(iu p).2=0):(iu p).1=0:=by
 unfold iu at h ⊢;by_cases h1:(bD p.ts).2≠0
 .rw[Za8 h1]at h;exact absurd h h1
 rw[Za5 h1]at h ⊢;by_cases h2:(cI p.gs p.ys).2≠0
 .rw[Za8 h2]at h;exact absurd h h2
 rw[Za5 h2]
 repeat' split
 all_goals rfl
theorem VW(p:bZ)(hp:p.FC)(q:Pos)(F:Nat)(s:St)(k1 k2):∀(m k:Nat),p.cs.length<=k+m->k<=p.cs.length->
  mo c F k1 k2 (m+1) [.ptr q 0,ints p.cz p.cs,.int .i64 (p.cs.length:Int),.int .i64 (k:Int)] s=if rj (p.cs.drop k)=true then k2 [.ptr q 0] s else k1 [.int .i64 0,.int .i64 44] s:=by
 have hl:=hp.cs;intro m;induction m with
 |zero=>
  intro k h1 h2;obtain rfl:k=p.cs.length:=by omega
  rw[BO];simp[rj]
 |succ m ih=>
  intro k h1 h2;rw[BO];by_cases h:k<p.cs.length
  . have e:p.cs.drop k=p.cs[k]::p.cs.drop (k+1):=Ze7 h;have w:ax .i64 ((k:Int)+1)=((k+1:Nat):Int):=wrap64 (by omega) (by omega);have:=ih (k+1) (by omega) (by omega);have ec:rj (p.cs.drop k)=((decide (0<=p.cs[k])&&decide (p.cs[k]<64))&&rj (p.cs.drop (k+1))):=(by rw[e];rfl);rw[ec];generalize rj (p.cs.drop (k+1))=rest at this ⊢;by_cases h3:p.cs[k]<0
    .   have h4:(decide (0<=p.cs[k])&&decide (p.cs[k]<64))=false:=(by simp;omega);rw[h4];simp[ints,h,h3]
    .   by_cases h5:64<=p.cs[k]
        .have h4:(decide (0<=p.cs[k])&&decide (p.cs[k]<64))=false:=(by simp;omega);rw[h4];simp[ints,h,h3,h5]
        .have h4:(decide (0<=p.cs[k])&&decide (p.cs[k]<64))=true:=(by simp;omega);rw[h4,Zf5, <-this];simp[ints,h,h3,h5,w]
  .obtain rfl:k=p.cs.length:=(by omega);simp[rj]
theorem VX{d:Nat}(z:Bool)(l:List (List Nat)):gU (d+1) (mW z l):=gU.ro λr hr v hv=>by simp only[Zf4]at hr;obtain⟨i,_,rfl⟩:=hr;simp only[Zd2]at hv;subst hv;exact gU.str _
theorem VY(z:Bool)(l:List aO):gU 3 (eN z l):=gU.ro λr hr v hv=>by simp only[Zf4]at hr;obtain⟨g,_,rfl⟩:=hr;simp only[aO.cells,Za9,Ze4,Zj0]at hv;rcases hv with rfl|rfl|rfl|rfl|rfl|rfl|rfl|rfl|rfl<;>first|exact gU.str _|exact gU.int _ _|exact gU.bool _|exact VX _ _
theorem qJ(z z2:Bool)(gs:List aO)(ts:List Ty):b6 [.ah,.ah] [(0,1),(1,1)] [eN z gs,j4 z2 ts]=some [eN z gs,j4 z2 ts]:=by have e1:(eN z gs).cells=[eN z gs]:=Rt _ _ _;have e2:(j4 z2 ts).cells=[j4 z2 ts]:=Rt _ _ _;unfold b6;rw[e1];show b6 [eN z gs,.ah] [(1,1)] [j4 z2 ts]=_;unfold b6;rw[e2];rfl
def SD(c:ai)(p:bZ):Prop:=(∀st,Wf st->c 80 [.agg [eN p.gz p.gs,j4 p.yz p.ys]] st=some (.tuple [.int .i64 (cI p.gs p.ys).1,.int .i64 (cI p.gs p.ys).2],st))
theorem aa5 (hc:Sem c)(p:bZ)(hp:p.FC)(hR:SD c p)(st:St)(hw:Wf st):c 67 [.agg p.cells] st=some (.tuple [.int .i64 (iu p).1,.int .i64 (iu p).2],st):=by
 have dI:Wf (af st (.cells p.cells 0)):=bR hw;have Sy:=Grew.af hw (.cells p.cells 0);have gY:(af st (.cells p.cells 0)).heap.get st.next=some (.cells p.cells 0):=aC _ _;have A:=JG hc p.tz p.ts hp.ok _ dI;have B:=hR _ dI;have D:=wP hc p.tz p.ts hp.ok _ dI;have L:∀k1 k2,mo c 101 k1 k2 101 [.ptr st.next 0,ints p.cz p.cs,.int .i64 (p.cs.length:Int),.int .i64 0] (af st (.cells p.cells 0))=if rj p.cs=true then k2 [.ptr st.next 0] (af st (.cells p.cells 0))else k1 [.int .i64 0,.int .i64 44] (af st (.cells p.cells 0)):=
   λk1 k2=>VW (c:=c) p hp st.next 101 (af st (.cells p.cells 0)) k1 k2 100 0 (by have:=hp.cs;omega) (by omega)
 have vX:=λ(K:AV->Option (AV×St))=>wJ K (p:=st.next) (o:=1) (h:=(af st (.cells p.cells 0)).heap) (h2:=(af st (.cells p.cells 0)).heap) (v:=eN p.gz p.gs) (by rw[gY];rfl) (by rw[gY];rfl) (XG (VY _ _))
 rw[NJ hc 101 (r:=(.tuple [.int .i64 (iu p).1,.int .i64 (iu p).2],af st (.cells p.cells 0))),aK (Plain.tuple (by simp[Plain.int])) Sy.keeps];rw[SE];unfold iu;by_cases h1:(bD p.ts).2=0
 . by_cases h2:(cI p.gs p.ys).2=0
   . simp only[h1,Zg8]at D;by_cases h3:p.cs.length=0
     .  have h4:p.cs=[]:=(by simpa using h3);have L1:rj p.cs=true:=(by rw[h4];rfl);have e0:((p.cs.length:Nat):Int)=0:=(by omega);simp only[L1,Zg8,e0]at L;by_cases h6:aX p.ts<p.gs.length
        .simp[qJ,h1,h2,h3,A,B,D,gY,L1,L,vX,h6]
        .simp[qJ,h1,h2,h3,A,B,D,gY,L1,L,vX,h6]
     .  by_cases h4:p.cs.length=p.gs.length
        . cases h5:rj p.cs with
          | false=>
            simp only[h5,Zg4,Zh3,h4]at L;have h7:0<p.cs.length:=(by omega);have h8:0<p.gs.length:=(by omega);simp[qJ,h1,h2,h3,h4,h5,h7,h8,A,B,gY,L]
          | true=>
            simp only[h5,Zg8,h4]at L;have h7:0<p.cs.length:=(by omega);have h8:0<p.gs.length:=(by omega);by_cases h6:aX p.ts<p.gs.length
            .simp[qJ,h1,h2,h3,h4,h5,h7,h8,A,B,D,gY,L,vX,h6]
            .simp[qJ,h1,h2,h3,h4,h5,h7,h8,A,B,D,gY,L,vX,h6]
        .have h7:0<p.cs.length:=(by omega);have h4i:¬((p.cs.length:Int)=(p.gs.length:Int)):=(by omega);simp[qJ,h1,h2,h3,h4,h4i,h7,A,B,gY]
   .simp[qJ,h1,h2,A,B,gY]
 .simp[h1,A,gY]
theorem acn(hc:Sem c){p:bZ}(hp:p.FC):SD c p:=λst hw=>SC hc p.gz p.yz p.gs p.ys hp.gs hp.ys st hw
theorem YP(z:Bool)(rs:List (List AV))(hl:rs.length<sw)(dc:∀cs∈rs,cs.length=9)(g:Nat)(v:List AV)(P:Nat->Bool)(st:St)(F:Nat)(k1 k2)
  (hP:∀i (h:i<rs.length),c g (.agg rs[i]::v) st=some (.bool (P i),st)):∀(m k:Nat),rs.length<=k+m->k<=rs.length->
  bN c F k1 k2 (m+1) [ro 9 z rs,.func g [] v,.int .i64 (rs.length:Int),.int .i64 (k:Int)] st=if 0<=scan P (rs.length - k) k then k1 [.int .i64 (scan P (rs.length - k) k)] st else k2 [] st:=by
 intro m;induction m with
 |zero=>
  intro k h1 h2;obtain rfl:k=rs.length:=by omega
  rw[iC];simp[scan]
 |succ m ih=>
  intro k h1 h2;rw[iC];by_cases h:k<rs.length
  . have e:rs.length - k=(rs.length - (k+1))+1:=(by omega);have w:ax .i64 ((k:Int)+1)=((k+1:Nat):Int):=wrap64 (by omega) (by unfold sw at hl;omega);have hcut:cut rs[k] 0 9=some rs[k]:=bI (dc _ (Zb9 h));have hp:=hP k h;rw[e,scan];cases hb:P k
    .   simp only[Zg4,Zh3];rw[<-ih (k+1) (by omega) (by omega)];simp[h,hcut,hp,hb,w]
    .   simp[h,hcut,hp,hb]
  .obtain rfl:k=rs.length:=(by omega);simp[scan]
theorem aco(hc:Sem c)(z:Bool)(rs:List (List AV))(hl:rs.length<sw)(dc:∀cs∈rs,cs.length=9)(g:Nat)(v:List AV)(P:Nat->Bool)(st:St)
   (hP:∀i (h:i<rs.length),c g (.agg rs[i]::v) st=some (.bool (P i),st)):c 144 [ro 9 z rs,.func g [] v] st=some (.int .i64 (scan P rs.length 0),st):=by
 rw[oI hc (rs.length+1) (r:=(.int .i64 (scan P rs.length 0),st)),aK (Plain.int _ _) (bF.refl st)];rw[pM];have L:∀k1 k2,bN c (rs.length+1) k1 k2 (rs.length+1) [ro 9 z rs,.func g [] v,.int .i64 (rs.length:Int),.int .i64 0] st=if 0<=scan P (rs.length - 0) 0 then k1 [.int .i64 (scan P (rs.length - 0) 0)] st else k2 [] st:=
   λk1 k2=>YP z rs hl dc g v P st _ k1 k2 hP rs.length 0 (by omega) (by omega)
 rw[Zp1]at L;by_cases h:0<=scan P rs.length 0
 .simp[L,h]
 .have:=(Ny P rs.length 0).2 (by omega);simp[L,this]
theorem acp(hc:Sem c)(g:aO)(s:List Nat)(p:Pos)(st:St)(hw:Wf st)(hp:st.heap.get p=some (.cells [.str s] 0)):c 145 [.agg g.cells,.ptr p 0] st=some (.bool (decide (g.name=s)),st):=by
 rw[NK hc 1 (r:=(.bool (decide (g.name=s)),af st (.cells g.cells 0))),aK (Plain.bool _) (cE hw)];rw[SG];have:(af st (.cells g.cells 0)).heap.get p=some (.cells [.str s] 0):=cE hw _ _ hp;simp[this]
theorem ac2(hc:Sem c)(p:bZ)(hp:p.FC)(s:List Nat)(st:St)(hw:Wf st):c 100 [.agg p.cells,.str s] st=some (.int .i64 (scan (jT p.gs s) p.gs.length 0),st):=by
 have dI:Wf (af st (.cells p.cells 0)):=bR hw;have nu:=bR (b:= .cells [.str s] 0) dI;have hg:=(Grew.af hw (.cells p.cells 0)).trans (Grew.af dI (.cells [.str s] 0));have gY:(af (af st (.cells p.cells 0)) (.cells [.str s] 0)).heap.get st.next=some (.cells p.cells 0):=by have:=aC st (.cells p.cells 0);exact(Grew.af dI (.cells [.str s] 0)).get this
 have hi:=aco hc p.gz (p.gs.map aO.cells) (by have:=hp.gs;simp;unfold sw;omega) (λcs fH=>by
   simp only[Zf4]at fH;obtain⟨t,_,rfl⟩:=fH;rfl) 145 [.ptr (af st (.cells p.cells 0)).next 0] (jT p.gs s) (af (af st (.cells p.cells 0)) (.cells [.str s] 0)) (λi hi=>by
   have Yq:i<p.gs.length:=(by simpa using hi);have:=acp hc p.gs[i] s (af st (.cells p.cells 0)).next _ nu (aC _ _);simp only[Zm6];rw[this];simp[jT,Yq])
 rw[Zb2]at hi;rw[SH hc 1 (r:=(.int .i64 (scan (jT p.gs s) p.gs.length 0),af (af st (.cells p.cells 0)) (.cells [.str s] 0))),aK (Plain.int _ _) hg.keeps];rw[VZ];have e:(AV.str s).cells=[.str s]:=rfl;simp[e,hi,gY,eN]
structure Kd where
 w:List Nat
 a:Int
 b:Bool
 t:Int
 n:Bool
 lo:Int
 wR:Bool
 f:AV
def Kd.cells(k:Kd):List AV:=[.str k.w,.int .u8 k.a,.bool k.b,.int .u8 k.t,.bool k.n,.int .i64 k.lo,.bool k.wR,k.f]
@[simp] theorem Kd.c0(t:Kd):t.cells[0]? =some (.str t.w):=id rfl
@[simp] theorem Kd.c1(t:Kd):t.cells[1]? =some (.int .u8 t.a):=id rfl
@[simp] theorem Kd.c2(t:Kd):t.cells[2]? =some (.bool t.b):=id rfl
@[simp] theorem Kd.c3(t:Kd):t.cells[3]? =some (.int .u8 t.t):=id rfl
@[simp] theorem Kd.c4(t:Kd):t.cells[4]? =some (.bool t.n):=id rfl
@[simp] theorem Kd.c5(t:Kd):t.cells[5]? =some (.int .i64 t.lo):=id rfl
@[simp] theorem Kd.c6(t:Kd):t.cells[6]? =some (.bool t.wR):=id rfl
@[simp] theorem Kd.cc(t:Kd):cut t.cells 0 8=some t.cells:=bI rfl
def Dl(k:Kd)(r:Rl):Bool:=(decide (k.a≠0)||decide (r.a=[]))&&(k.b||decide (r.b=[]))&&(decide (k.t≠0)||decide (r.t=[]))&&(k.n||decide (r.n=0))
theorem aa6 (hc:Sem c)(k:Kd)(r:Rl)(st:St)(hw:Wf st):c 99 [.agg k.cells,.agg r.cells] st=some (.bool (Dl k r),st):=by
 have dI:Wf (af st (.cells k.cells 0)):=bR hw;have xN:=Grew.af dI (.cells r.cells 0);have hg:=(Grew.af hw (.cells k.cells 0)).trans xN;have p1:=xN.get (aC st (.cells k.cells 0));have p2:=aC (af st (.cells k.cells 0)) (.cells r.cells 0);rw[F7 hc 1 (r:=(.bool (Dl k r),af (af st (.cells k.cells 0)) (.cells r.cells 0))),aK (Plain.bool _) hg.keeps];rw[I9];unfold Dl;by_cases h0:k.a=0;rotate_left
 . cases  h2:k.b with
   |true=>
    by_cases h4:k.t=0;rotate_left
    .   cases h6:k.n with
        | true=>
          simp[h0,h2,h4,h6]
        | false=>
          by_cases h7:r.n=0
          .simp[h0,h2,h4,h6,h7]
          .simp[h0,h2,h4,h6,h7]
    by_cases h5:r.t=[]
    .   cases h6:k.n with
        | true=>
          simp[h0,h2,h4,h5,h6]
        | false=>
          by_cases h7:r.n=0
          .simp[h0,h2,h4,h5,h6,h7]
          .simp[h0,h2,h4,h5,h6,h7]
    .   simp[h0,h2,h4,h5]
   |false   =>
    by_cases h3:r.b=[]
    .   by_cases h4:k.t=0;rotate_left
        . cases h6:k.n with
          | true=>
            simp[h0,h2,h3,h4,h6]
          | false=>
            by_cases h7:r.n=0
            .simp[h0,h2,h3,h4,h6,h7]
            .simp[h0,h2,h3,h4,h6,h7]
        by_cases h5:r.t=[]
        . cases h6:k.n with
          | true=>
            simp[h0,h2,h3,h4,h5,h6]
          | false=>
            by_cases h7:r.n=0
            .simp[h0,h2,h3,h4,h5,h6,h7]
            .simp[h0,h2,h3,h4,h5,h6,h7]
        .simp[h0,h2,h3,h4,h5]
    .   simp[h0,h2,h3]
 by_cases h1:r.a=[]
 . cases  h2:k.b with
   |true=>
    by_cases h4:k.t=0;rotate_left
    .   cases h6:k.n with
        | true=>
          simp[h0,h1,h2,h4,h6]
        | false=>
          by_cases h7:r.n=0
          .simp[h0,h1,h2,h4,h6,h7]
          .simp[h0,h1,h2,h4,h6,h7]
    by_cases h5:r.t=[]
    .   cases h6:k.n with
        | true=>
          simp[h0,h1,h2,h4,h5,h6]
        | false=>
          by_cases h7:r.n=0
          .simp[h0,h1,h2,h4,h5,h6,h7]
          .simp[h0,h1,h2,h4,h5,h6,h7]
    .   simp[h0,h1,h2,h4,h5]
   |false   =>
    by_cases h3:r.b=[]
    .   by_cases h4:k.t=0;rotate_left
        . cases h6:k.n with
          | true=>
            simp[h0,h1,h2,h3,h4,h6]
          | false=>
            by_cases h7:r.n=0
            .simp[h0,h1,h2,h3,h4,h6,h7]
            .simp[h0,h1,h2,h3,h4,h6,h7]
        by_cases h5:r.t=[]
        . cases h6:k.n with
          | true=>
            simp[h0,h1,h2,h3,h4,h5,h6]
          | false=>
            by_cases h7:r.n=0
            .simp[h0,h1,h2,h3,h4,h5,h6,h7]
            .simp[h0,h1,h2,h3,h4,h5,h6,h7]
        .simp[h0,h1,h2,h3,h4,h5]
    .   simp[h0,h1,h2,h3]
 .simp[h0,h1]
theorem ud{R:Type}(P:(List AV->St->Option R)->Prop){A:(List AV->St->Option R)->Option R}{T:List AV->St->Option R}{r:Option R}(hT:P T)(hA:∀j,P j->A j=r):fA A T=r:=hA T hT
theorem ER{R:Type}(c:ai)(K:AV->St->Option R)(st:St)(es:Nat)(z:Bool)(rs:List (List AV))(k k':IntKind)(i j:Nat)(h:i<j)(h2:j<=rs.length):
  ak c (.sliceL es true true false) [ro es z rs,.int k (i:Int),.int k' (j:Int)] st K=K (ro es false ((rs.take j).drop i)) st:=by
 have:∀H n,ay.run H n (.sliceL es true true false) [ro es z rs,.int k (i:Int),.int k' (j:Int)]=some (.val (ro es false ((rs.take j).drop i))):=λH n=>by
  rw[Ub (by intro e;subst e;simp at h2;omega)];have h3:i<=j:=by omega
  simp[ay.run,nU,bounds,iN,eV,eu,h3,h2,ro]
 exact aW c K this st
theorem O7(ts:List aL):∀(m k:Nat),(fM ts m k).2=0->∀i,k<=i->i<k+m->∀h:i<ts.length,mU ts[i]=0
 |0,k,_,i,h1,h2,_=>by omega
 |m +   1,k,h,i,h1,h2,hi=>by
  have hk:k<ts.length:=by omega
  rw[fM,H4 hk]at h;simp only at h;by_cases h3:mU ts[k]=0
  . rw[Za5 (by simp[h3])]at h;by_cases h4:0<=scan (nI ts ts[k].name) k 0
    .   rw[Za8 h4]at h;simp at h
    .   rw[Za5 h4]at h;by_cases e:i=k
        .subst e;exact h3
        .exact O7 ts m (k+1) h i (by omega) (by omega) hi
  .rw[Za8 h3]at h;exact absurd h h3
theorem BP{ts:List aL}(h:(bD ts).2=0)(i:Nat)(hi:i<ts.length):mU ts[i]=0:=by
 unfold bD at h;split at h
 .simp at h
 .exact O7 ts ts.length 0 h i (by omega) (by omega) hi
theorem BQ{t:aL}(h:mU t=0):(bD [t]).2=0:=by
 simp[bD,fM,h,scan]
def gi(p:bZ)(s:List Nat):Int:=scan (jT p.gs s) p.gs.length 0
def ti(p:bZ)(s:List Nat):Int:=scan (nI p.ts s) p.ts.length 0
def rQ(p:bZ)(i:Int):Int:=match p.ts[i.toNat]? with
 |some t=>cq t
 |none=>0
def uZ(k:Kd)(r:Rl)(m:Int):Int:=if k.n=true/\(r.n<k.lo\/m<r.n)then 42 else 0
def MC(k:Kd)(p:bZ)(r:Rl):Int:=
 if(k.t=116/\ti p r.t<0)\/(k.t=101/\r.t≠[]/\ti p r.t<0)then 6
 else uZ k r (if k.wR=true then rQ p (ti p r.t) - 1 else 24)
def SI(k:Kd)(p:bZ)(r:Rl):Int:=
 if k.a=100/\jS r.a=false then 4 else if k.b=true/\r.a=r.b then 5 else MC k p r
def KL(k:Kd)(p:bZ)(r:Rl):Int:=
 if k.w=[]then 40 else if r.wt<0\/1000<r.wt then 41 else if Dl k r=false then 43
 else if(k.a=103/\gi p r.a<0)\/(k.a=101/\r.a≠[]/\gi p r.a<0)\/(k.b=true/\gi p r.b<0)then 6
 else SI k p r
theorem YQ (hc:Sem c)(k:Kd)(hk:k.wR=true->k.t=116)(p:bZ)(hp:p.FC)(hv:(bD p.ts).2=0)(r:Rl)(st:St)(hw:Wf st):
   c 69 [.agg k.cells,.agg p.cells,.agg r.cells] st=some (.int .i64 (KL k p r),st):=by
 have dI:Wf (af st (.cells k.cells 0)):=bR hw;have nu:=bR (b:= .cells p.cells 0) dI;have YS:=Grew.af nu (.cells r.cells 0);have xN:=Grew.af dI (.cells p.cells 0);have hg:=((Grew.af hw (.cells k.cells 0)).trans xN).trans YS;have SJ:=hg.wf;have p1:=YS.get (xN.get (aC st (.cells k.cells 0)));have p2:=YS.get (aC (af st (.cells k.cells 0)) (.cells p.cells 0));have p3:=aC (af (af st (.cells k.cells 0)) (.cells p.cells 0)) (.cells r.cells 0);have A:=λs=>ac2 hc p hp s _ SJ
 have B:=aa6 hc k r _ SJ;have D:=ach hc p.tz p.ts hp.ok (by have:=hp.ts;unfold sw;omega) r.t _ SJ;have N:=Sf hc r.a (af (af (af st (.cells k.cells 0)) (.cells p.cells 0)) (.cells r.cells 0));rw[F8 hc 1 (r:=(.int .i64 (KL k p r),af (af (af st (.cells k.cells 0)) (.cells p.cells 0)) (.cells r.cells 0))),aK (Plain.int _ _) hg.keeps];rw[Ja];simp only[pH,aE,AV.cells];generalize af (af (af st (.cells k.cells 0)) (.cells p.cells 0)) (.cells r.cells 0)=s at*
 generalize (af (af st (.cells k.cells 0)) (.cells p.cells 0)).next=q3 at*
 generalize (af st (.cells k.cells 0)).next=q2 at*
 generalize st.next=q1 at*
 refine ud (P:=λj=>j [.ptr q1 0,.ptr q2 0,.ptr q3 0] s=some (.int .i64 (MC k p r),s)) ?_ ?_
 . have D2  : c 102 [tabs p.tz p.ts,.str r.t] s=some (.tuple [.int .i64 (if 0<=ti p r.t then ti p r.t else 0),.bool (decide (0<=ti p r.t))],s):=(by simp only[hv,Zl6]at D;exact D);have N4:=wO (P:=nI p.ts r.t) p.ts.length 0;clear D A B N hg xN YS hw dI nu;unfold MC;by_cases ht:0<=ti p r.t
   . have HC  : ¬ ti p r.t<0:=(by omega);obtain⟨i,hi⟩:∃i:Nat,ti p r.t=(i:Int):=⟨(ti p r.t).toNat,by omega⟩
     have js:i<p.ts.length:=(by have:=(N4 ht).2.1;unfold ti at hi;rw[hi]at this;simpa using this);simp only[ht,Zg8,Zk6]at D2;by_cases h1:k.t=116
     .  simp[ p1,p2,p3,D2,h1,HC];refine ud (P:=λj=>∀m,j [.ptr q1 0,.ptr q3 0,.int .i64 m] s=some (.int .i64 (uZ k r m),s)) ?_ ?_
        . intro m;unfold uZ;cases hn:k.n with
          |false=>simp[p1,hn]
          | true=>
            by_cases e1:r.n<k.lo
            .simp[p1,p3,hn,e1]
            . by_cases e2:m<r.n
              .simp[p1,p3,hn,e1,e2]
              .simp[p1,p3,hn,e1,e2]
        . intro j hj;cases hs:k.wR with
          |false=>simp[p1,hs,hj]
          | true=>
            have w:ax .i64 ((i:Int)+1)=(i:Int)+1:=(by have:=hp.ts;exact wrap64 (by omega) (by omega));have cnt:=wP hc false [p.ts[i]] (λt ht=>by simp only[Zd2]at ht;subst ht;exact hp.ok _ (Zb9 js)) s SJ;rw[Za8 (BQ (BP hv i js)),show aX [p.ts[i]]=cq p.ts[i]by simp[aX]]at cnt;have b:=Df p.ts[i];have w2:ax .i64 (cq p.ts[i] - 1)=cq p.ts[i] - 1:=wrap64 (by omega) (by omega);have hcut:∀K:AV->St->Option (AV×St),ak c (.sliceL 7 true true false) [tabs p.tz p.ts,.int .i64 (i:Int),.int .i64 ((i:Int)+1)] s K=K (tabs false [p.ts[i]]) s:=λK=>by
              (unfold tabs;have:=ER c K s 7 p.tz (p.ts.map aL.cells) .i64 .i64 i (i+1) (by omega) (by rw[Zb2];omega);rw[show((i:Int)+1)=((i+1:Nat):Int)by omega,this];have e:((p.ts.map aL.cells).take (i+1)).drop i=[p.ts[i]].map aL.cells:=by rw[Zd1 (by simpa using js),Zf6 (by simp;omega)];simp);rw[e]
            have e3:rQ p (i:Int)=cq p.ts[i]:=(by simp[rQ,js]);simp[p1,p2,hs,hi,e3,w,hcut,cnt,hj,w2]
     .  by_cases h2 :k.t=101
        . by_cases h3:r.t=[]
          . simp only[h3]at D2 HC hi;simp[p1,p2,p3,D2,h1,h2,h3,HC];refine ud (P:=λj=>∀m,j [.ptr q1 0,.ptr q3 0,.int .i64 m] s=some (.int .i64 (uZ k r m),s)) ?_ ?_
            . intro m;unfold uZ;cases hn:k.n with
              |false=>simp[p1,hn]
              | true=>
                by_cases e1:r.n<k.lo
                .simp[p1,p3,hn,e1]
                . by_cases e2:m<r.n
                  .simp[p1,p3,hn,e1,e2]
                  .simp[p1,p3,hn,e1,e2]
            . intro j hj;cases hs:k.wR with
              |false=>simp[p1,hs,hj]
              | true=>
                have w:ax .i64 ((i:Int)+1)=(i:Int)+1:=(by have:=hp.ts;exact wrap64 (by omega) (by omega));have cnt:=wP hc false [p.ts[i]] (λt ht=>by simp only[Zd2]at ht;subst ht;exact hp.ok _ (Zb9 js)) s SJ;rw[Za8 (BQ (BP hv i js)),show aX [p.ts[i]]=cq p.ts[i]by simp[aX]]at cnt;have b:=Df p.ts[i];have w2:ax .i64 (cq p.ts[i] - 1)=cq p.ts[i] - 1:=wrap64 (by omega) (by omega);have hcut:∀K:AV->St->Option (AV×St),ak c (.sliceL 7 true true false) [tabs p.tz p.ts,.int .i64 (i:Int),.int .i64 ((i:Int)+1)] s K=K (tabs false [p.ts[i]]) s:=λK=>by
                  (unfold tabs;have:=ER c K s 7 p.tz (p.ts.map aL.cells) .i64 .i64 i (i+1) (by omega) (by rw[Zb2];omega);rw[show((i:Int)+1)=((i+1:Nat):Int)by omega,this];have e:((p.ts.map aL.cells).take (i+1)).drop i=[p.ts[i]].map aL.cells:=by rw[Zd1 (by simpa using js),Zf6 (by simp;omega)];simp);rw[e]
                have e3:rQ p (i:Int)=cq p.ts[i]:=(by simp[rQ,js]);simp[p1,p2,hs,hi,e3,w,hcut,cnt,hj,w2]
          . simp[ p1,p2,p3,D2,h1,h2,h3,HC];refine ud (P:=λj=>∀m,j [.ptr q1 0,.ptr q3 0,.int .i64 m] s=some (.int .i64 (uZ k r m),s)) ?_ ?_
            . intro m;unfold uZ;cases hn:k.n with
              |false=>simp[p1,hn]
              | true=>
                by_cases e1:r.n<k.lo
                .simp[p1,p3,hn,e1]
                . by_cases e2:m<r.n
                  .simp[p1,p3,hn,e1,e2]
                  .simp[p1,p3,hn,e1,e2]
            . intro j hj;cases hs:k.wR with
              |false=>simp[p1,hs,hj]
              | true=>
                have w:ax .i64 ((i:Int)+1)=(i:Int)+1:=(by have:=hp.ts;exact wrap64 (by omega) (by omega));have cnt:=wP hc false [p.ts[i]] (λt ht=>by simp only[Zd2]at ht;subst ht;exact hp.ok _ (Zb9 js)) s SJ;rw[Za8 (BQ (BP hv i js)),show aX [p.ts[i]]=cq p.ts[i]by simp[aX]]at cnt;have b:=Df p.ts[i];have w2:ax .i64 (cq p.ts[i] - 1)=cq p.ts[i] - 1:=wrap64 (by omega) (by omega);have hcut:∀K:AV->St->Option (AV×St),ak c (.sliceL 7 true true false) [tabs p.tz p.ts,.int .i64 (i:Int),.int .i64 ((i:Int)+1)] s K=K (tabs false [p.ts[i]]) s:=λK=>by
                  (unfold tabs;have:=ER c K s 7 p.tz (p.ts.map aL.cells) .i64 .i64 i (i+1) (by omega) (by rw[Zb2];omega);rw[show((i:Int)+1)=((i+1:Nat):Int)by omega,this];have e:((p.ts.map aL.cells).take (i+1)).drop i=[p.ts[i]].map aL.cells:=by rw[Zd1 (by simpa using js),Zf6 (by simp;omega)];simp);rw[e]
                have e3:rQ p (i:Int)=cq p.ts[i]:=(by simp[rQ,js]);simp[p1,p2,hs,hi,e3,w,hcut,cnt,hj,w2]
        . simp[ p1,p2,p3,D2,h1,h2,HC];refine ud (P:=λj=>∀m,j [.ptr q1 0,.ptr q3 0,.int .i64 m] s=some (.int .i64 (uZ k r m),s)) ?_ ?_
          . intro m;unfold uZ;cases hn:k.n with
            |false=>simp[p1,hn]
            | true=>
              by_cases e1:r.n<k.lo
              .simp[p1,p3,hn,e1]
              . by_cases e2:m<r.n
                .simp[p1,p3,hn,e1,e2]
                .simp[p1,p3,hn,e1,e2]
          . intro j hj;cases hs:k.wR with
            |false=>simp[p1,hs,hj]
            | true=>
              have w:ax .i64 ((i:Int)+1)=(i:Int)+1:=(by have:=hp.ts;exact wrap64 (by omega) (by omega));have cnt:=wP hc false [p.ts[i]] (λt ht=>by simp only[Zd2]at ht;subst ht;exact hp.ok _ (Zb9 js)) s SJ;rw[Za8 (BQ (BP hv i js)),show aX [p.ts[i]]=cq p.ts[i]by simp[aX]]at cnt;have b:=Df p.ts[i];have w2:ax .i64 (cq p.ts[i] - 1)=cq p.ts[i] - 1:=wrap64 (by omega) (by omega);have hcut:∀K:AV->St->Option (AV×St),ak c (.sliceL 7 true true false) [tabs p.tz p.ts,.int .i64 (i:Int),.int .i64 ((i:Int)+1)] s K=K (tabs false [p.ts[i]]) s:=λK=>by
                (unfold tabs;have:=ER c K s 7 p.tz (p.ts.map aL.cells) .i64 .i64 i (i+1) (by omega) (by rw[Zb2];omega);rw[show((i:Int)+1)=((i+1:Nat):Int)by omega,this];have e:((p.ts.map aL.cells).take (i+1)).drop i=[p.ts[i]].map aL.cells:=by rw[Zd1 (by simpa using js),Zf6 (by simp;omega)];simp);rw[e]
              have e3:rQ p (i:Int)=cq p.ts[i]:=(by simp[rQ,js]);simp[p1,p2,hs,hi,e3,w,hcut,cnt,hj,w2]
   . have HC  : ti p r.t<0:=(by omega);simp only[ht,Zh3,decide_false]at D2;by_cases h1:k.t=116
     .  simp[p1,p2,p3,D2,h1,HC]
     .  by_cases h2:k.t=101
        . by_cases h3:r.t=[]
          . simp only[h3]at D2 HC;simp[p1,p2,p3,D2,h1,h2,h3,HC];refine ud (P:=λj=>∀m,j [.ptr q1 0,.ptr q3 0,.int .i64 m] s=some (.int .i64 (uZ k r m),s)) ?_ ?_
            . intro m;unfold uZ;cases hn:k.n with
              |false=>simp[p1,hn]
              | true=>
                by_cases e1:r.n<k.lo
                .simp[p1,p3,hn,e1]
                . by_cases e2:m<r.n
                  .simp[p1,p3,hn,e1,e2]
                  .simp[p1,p3,hn,e1,e2]
            . intro j hj;have hs:k.wR=false:=by
                cases h:k.wR with
                |false=>rfl
                |true=>exact absurd (hk h) h1
              simp[p1,hs,hj]
          .simp[p1,p2,p3,D2,h1,h2,h3,HC]
        . simp[ p1,p2,p3,D2,h1,h2,HC];refine ud (P:=λj=>∀m,j [.ptr q1 0,.ptr q3 0,.int .i64 m] s=some (.int .i64 (uZ k r m),s)) ?_ ?_
          . intro m;unfold uZ;cases hn:k.n with
            |false=>simp[p1,hn]
            | true=>
              by_cases e1:r.n<k.lo
              .simp[p1,p3,hn,e1]
              . by_cases e2:m<r.n
                .simp[p1,p3,hn,e1,e2]
                .simp[p1,p3,hn,e1,e2]
          . intro j hj;have hs:k.wR=false:=by
              cases h:k.wR with
              |false=>rfl
              |true=>exact absurd (hk h) h1
            simp[p1,hs,hj]
 . intro  j hj;have A2:∀nm,c 100 [.agg p.cells,.str nm] s=some (.int .i64 (gi p nm),s):=A;have cc:cut r.cells 0 6=some r.cells:=bI rfl;clear A D hg xN YS hw dI nu;unfold KL;by_cases h0:k.w=[]
   .simp[p1,h0]
   by_cases h1:r.wt<0
   .simp[p1,p3,h0,h1]
   by_cases h2:1000<r.wt
   .simp[p1,p3,h0,h1,h2]
   cases h3:Dl k r with
   |false=>simp[p1,p3,h0,h1,h2,B,h3]
   |true=>
   simp[p1,p3,h0,h1,h2,B,h3];refine ud (P:=λj'=>∀b:Bool,j' [.ptr q1 0,.ptr q2 0,.ptr q3 0,.bool b] s=some (.int .i64 (if b=true then 6 else SI k p r),s)) ?_ ?_
   . intro  b;cases b with
     |true=>simp
     |  false =>
        unfold SI;by_cases a1:k.a=100
        . cases a2:jS r.a with
          |false=>simp[p1,p3,a1,a2,N]
          | true=>
            cases b1:k.b with
            |false=>simp[p1,p3,a1,a2,N,b1,hj]
            | true=>
              by_cases b2:r.a=r.b
              .rw[b2]at a2 N;simp[p1,p3,a1,a2,N,b1,b2]
              .simp[p1,p3,a1,a2,N,b1,b2,hj]
        . cases b1:k.b with
          |false=>simp[p1,p3,a1,b1,hj]
          | true=>
            by_cases b2:r.a=r.b
            .simp[p1,p3,a1,b1,b2]
            .simp[p1,p3,a1,b1,b2,hj]
   . intro  j' xD;have K6:=xD true;have K0:=xD false;simp only[Zg8,Zg4,Zh3]at K6 K0;clear xD hj;by_cases a1:k.a=103
     .  by_cases g1:gi p r.a<0
        .simp[p1,p2,p3,a1,A2,g1,K6]
        . cases b1:k.b with
          |false=>simp[p1,p2,p3,a1,A2,g1,b1,K0]
          | true=>
            by_cases g2:gi p r.b<0
            .simp[p1,p2,p3,a1,A2,g1,g2,b1,K6]
            .simp[p1,p2,p3,a1,A2,g1,g2,b1,K0]
     .  by_cases a2:k.a=101
        . by_cases e:r.a=[]
          . cases b1:k.b with
            |false=>simp[p1,p2,p3,a1,a2,e,A2,b1,K0]
            | true=>
              by_cases g2:gi p r.b<0
              .simp[p1,p2,p3,a1,a2,e,A2,g2,b1,K6]
              .simp[p1,p2,p3,a1,a2,e,A2,g2,b1,K0]
          . by_cases g1:gi p r.a<0
            .simp[p1,p2,p3,a1,a2,e,A2,g1,K6]
            . cases b1:k.b with
              |false=>simp[p1,p2,p3,a1,a2,e,A2,g1,b1,K0]
              | true=>
                by_cases g2:gi p r.b<0
                .simp[p1,p2,p3,a1,a2,e,A2,g1,g2,b1,K6]
                .simp[p1,p2,p3,a1,a2,e,A2,g1,g2,b1,K0]
        . cases b1:k.b with
          |false=>simp[p1,p2,p3,a1,a2,A2,b1,K0]
          | true=>
            by_cases g2:gi p r.b<0
            .simp[p1,p2,p3,a1,a2,A2,g2,b1,K6]
            .simp[p1,p2,p3,a1,a2,A2,g2,b1,K0]
end
end Go.Proofs.YtoeleelojgimfaaGreatDoor
