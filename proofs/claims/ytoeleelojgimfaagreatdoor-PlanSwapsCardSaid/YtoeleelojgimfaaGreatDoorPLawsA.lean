/- What the checks answer. -/
import Derived.Test.YtoeleelojgimfaaGreatDoorPPlainA
set_option linter.all false
set_option maxRecDepth 100000
set_option maxHeartbeats 1000000
namespace Go.Proofs.YtoeleelojgimfaaGreatDoor
section
open Go Go.Ai Go.Proofs
variable{c:ai}
def jG(s:List Nat):Bool:=decide (1<=s.length)&&decide (s.length<=12)&&s.all λc=>decide (97<=c/\c<=122)
structure aR where
 name:List Nat
 sh:Int
 a:Int
 b:Int
 oz:Bool
 oM:List Int
 x:Int
 y:Int
def ints(z:Bool)(l:List Int):AV:=ro 1 z (l.map λi=>[.int .i64 i])
def aR.cells(t:aR):List AV:=[.str t.name,.int .u8 t.sh,.int .i64 t.a,.int .i64 t.b,ints t.oz t.oM,.int .i64 t.x,.int .i64 t.y]
@[simp] theorem ZY(z:Bool)(l:List Int):(ints z l).one=true:=WV _ _ _
def dN(t:aR):Int:=
 if t.sh=1 then(if 1<=t.a/\t.a<=24/\t.b=0 then t.a else 0)
 else if t.sh=2 then(if 1<=t.a/\t.a<=11/\0<=t.b/\t.b<=2 then 2*t.a+t.b else 0)
 else if t.sh=3 then(if 1<=t.a/\t.a<=8/\1<=t.b/\t.b<=8 then t.a+2*t.b else 0)
 else if t.sh=4 then(if 1<=t.a/\t.a<=24/\0<=t.b/\t.b<=t.a then t.a else 0)
 else 0
theorem OT(hc:Sem c)(a b:Int)(st:St):c 108 [.int .i64 a,.int .i64 b] st=some (.int .i64 (if 1<=a/\a<=24/\b=0 then a else 0),st):=by
 rw[Fm hc 1 (r:=(.int .i64 (if 1<=a/\a<=24/\b=0 then a else 0),st)),aL (Plain.int _ _) (bD.refl st)];rw[Ia];by_cases h1:a<1
 .have:¬1<=a:=(by omega);simp[h1,this]
 . by_cases h2:24<a
   .have:¬a<=24:=(by omega);simp[h1,h2,this]
   .have h3:1<=a:=(by omega);have h4:a<=24:=(by omega);by_cases h5:b=0<;>simp[h1,h2,h3,h4,h5]
theorem Rs(hc:Sem c)(a b:Int)(st:St):c 113 [.int .i64 a,.int .i64 b] st=some (.int .i64 (if 1<=a/\a<=11/\0<=b/\b<=2 then 2*a+b else 0),st):=by
 rw[Gz hc 1 (r:=(.int .i64 (if 1<=a/\a<=11/\0<=b/\b<=2 then 2*a+b else 0),st)),aL (Plain.int _ _) (bD.refl st)];rw[JT];by_cases h1:a<1
 .have:¬1<=a:=(by omega);simp[h1,this]
 by_cases h2:11<a
 .have:¬a<=11:=(by omega);simp[h1,h2,this]
 by_cases h3:b<0
 .have:¬0<=b:=(by omega);simp[h1,h2,h3,this]
 by_cases h4:2<b
 .have:¬b<=2:=(by omega);simp[h1,h2,h3,h4,this]
 have h5:1<=a:=by omega
 have h6:a<=11:=by omega
 have h7:0<=b:=by omega
 have h8:b<=2:=by omega
 have w1:ay .i64 (2*a)=2*a:=wrap64 (by omega) (by omega);have w2:ay .i64 (2*a+b)=2*a+b:=wrap64 (by omega) (by omega);simp[h1,h2,h3,h4,h5,h6,h7,h8,w1,w2]
theorem Rt(hc:Sem c)(a b:Int)(st:St):c 118 [.int .i64 a,.int .i64 b] st=some (.int .i64 (if 1<=a/\a<=8/\1<=b/\b<=8 then a+2*b else 0),st):=by
 rw[GF hc 1 (r:=(.int .i64 (if 1<=a/\a<=8/\1<=b/\b<=8 then a+2*b else 0),st)),aL (Plain.int _ _) (bD.refl st)];rw[JU];by_cases h1:a<1
 .have:¬1<=a:=(by omega);simp[h1,this]
 by_cases h2:8<a
 .have:¬a<=8:=(by omega);simp[h1,h2,this]
 by_cases h3:b<1
 .have:¬1<=b:=(by omega);simp[h1,h2,h3,this]
 by_cases h4:8<b
 .have:¬b<=8:=(by omega);simp[h1,h2,h3,h4,this]
 have h5:1<=a:=by omega
 have h6:a<=8:=by omega
 have h7:1<=b:=by omega
 have h8:b<=8:=by omega
 have w1:ay .i64 (2*b)=2*b:=wrap64 (by omega) (by omega);have w2:ay .i64 (a+2*b)=a+2*b:=wrap64 (by omega) (by omega);simp[h1,h2,h3,h4,h5,h6,h7,h8,w1,w2]
theorem Su(hc:Sem c)(a b:Int)(st:St):c 123 [.int .i64 a,.int .i64 b] st=some (.int .i64 (if 1<=a/\a<=24/\0<=b/\b<=a then a else 0),st):=by
 rw[Ib hc 1 (r:=(.int .i64 (if 1<=a/\a<=24/\0<=b/\b<=a then a else 0),st)),aL (Plain.int _ _) (bD.refl st)];rw[Lv];by_cases h1:a<1
 .have:¬1<=a:=(by omega);simp[h1,this]
 by_cases h2:24<a
 .have:¬a<=24:=(by omega);simp[h1,h2,this]
 by_cases h3:b<0
 .have:¬0<=b:=(by omega);simp[h1,h2,h3,this]
 by_cases h4:a<b
 .have:¬b<=a:=(by omega);simp[h1,h2,h3,h4,this]
 have h5:1<=a:=by omega
 have h6:a<=24:=by omega
 have h7:0<=b:=by omega
 have h8:b<=a:=by omega
 simp[h1,h2,h3,h4,h5,h6,h7,h8]
def qj(sh:Int):List AV:=
 if sh=1 then [.str [114,111,117,110,100],.func 108 [] [],.func 109 [] [],.func 110 [] [],.func 111 [] [],.func 112 [] []]
 else if sh=2 then [.str [108,111,110,103],.func 113 [] [],.func 114 [] [],.func 115 [] [],.func 116 [] [],.func 117 [] []]
 else if sh=3 then [.str [104,111,114,115,101,115,104,111,101],.func 118 [] [],.func 119 [] [],.func 120 [] [],.func 121 [] [],.func 122 [] []]
 else if sh=4 then [.str [114,111,119],.func 123 [] [],.func 124 [] [],.func 125 [] [],.func 126 [] [],.func 127 [] []]
 else [.str [],.iC,.iC,.iC,.iC,.iC]
theorem plain_fn(f:Nat):Plain (.func f [] []):=Plain.func f (by simp) (by simp)
theorem XE(sh:Int):∀v∈qj sh,Plain v:=by
 unfold qj;intro v hv
 repeat' split at hv
 all_goals
  simp only[Za9,Ze5,Zi9]at hv;rcases hv with rfl|rfl|rfl|rfl|rfl|rfl<;>first|exact Plain.str _|exact Plain.iC|exact plain_fn _
theorem rP(hc:Sem c)(sh:Int)(st:St)(hw:Wf st):c 76 [.int .u8 sh] st=some (.tuple [.agg (qj sh),.bool (decide (1<=sh/\sh<=4))],st):=by
 have hp:Plain (.tuple [.agg (qj sh),.bool (decide (1<=sh/\sh<=4))]):=Plain.tuple λv hv=>by
   simp only[Za9,Ze5,Zi9]at hv;rcases hv with rfl|rfl
   .exact Plain.agg (XE sh)
   .exact Plain.bool _
 rw[Ic hc 1 (r:=(.tuple [.agg (qj sh),.bool (decide (1<=sh/\sh<=4))],af st (.cells (qj sh) 0))),aL hp (cC hw)];rw[Lw];by_cases h1:sh=1
 .subst h1;simp[qj,AV.cells,aO,AV.one,bQ,bW,aG,eW]
 by_cases h2:sh=2
 .subst h2;simp[qj,AV.cells,aO,AV.one,bQ,bW,aG,eW]
 by_cases h3:sh=3
 .subst h3;simp[qj,AV.cells,aO,AV.one,bQ,bW,aG,eW]
 by_cases h4:sh=4
 .subst h4;simp[qj,AV.cells,aO,AV.one,bQ,bW,aG,eW]
 have h5:decide (1<=sh/\sh<=4)=false:=by simp;omega
 rw[h5];simp[qj,AV.cells,aO,AV.one,bQ,bW,aG,eW,h1,h2,h3,h4]
theorem MP(hc:Sem c)(t:aR)(st:St)(hw:Wf st):c 63 [.agg t.cells] st=some (.int .i64 (dN t),st):=by
 rw[OU hc 1 (r:=(.int .i64 (dN t),af (af st (.cells t.cells 0)) (.cells (qj t.sh) 0))),aL (Plain.int _ _) ((cC hw).trans (cC (bR hw)))];rw[Sv];obtain⟨name,sh,a,b,oz,oM,x,y⟩:=t;by_cases h1:sh=1
 .subst h1;simp[aR.cells,AV.cells,rP hc,hw,dN,qj,aO,AV.one,OT hc]
 by_cases h2:sh=2
 .subst h2;simp[aR.cells,AV.cells,rP hc,hw,dN,qj,aO,AV.one,Rs hc]
 by_cases h3:sh=3
 .subst h3;simp[aR.cells,AV.cells,rP hc,hw,dN,qj,aO,AV.one,Rt hc]
 by_cases h4:sh=4
 .subst h4;simp[aR.cells,AV.cells,rP hc,hw,dN,qj,aO,AV.one,Su hc]
 have h5:decide (1<=sh/\sh<=4)=false:=by simp;omega
 simp[aR.cells,AV.cells,rP hc,hw,dN,qj,aO,AV.one,h1,h2,h3,h4,h5]
def rO:Nat:=9223372036854775808
theorem Lx(s:List Nat)(hs:s.length<=12)(F:Nat)(st:St)(k1 k2):∀(m k:Nat),s.length<=k+m->k<=s.length->
  lH c F k1 k2 (m+1) [.str s,.int .i64 (s.length:Int),.int .i64 (k:Int)] st=if(s.drop k).all (λc=>decide (97<=c/\c<=122))=true then k2 [] st else k1 [.bool false] st:=by
 intro m;induction m with
 |zero=>
  intro k h1 h2;rw[Bh];obtain rfl:k=s.length:=by omega
  simp
 |succ m ih=>
  intro k h1 h2;rw[Bh];by_cases h:k<s.length
  . have e:s.drop k=s[k]::s.drop (k+1):=Zd8 h;have:=ih (k+1) (by omega) (by omega);have w:ay .i64 ((k:Int)+1)=((k+1:Nat):Int):=wrap64 (by omega) (by omega);rw[e,List.all_cons];generalize (s.drop (k+1)).all _=rest at this ⊢;by_cases h3:(s[k]:Int)<97
    .   have h5:decide (97<=s[k]/\s[k]<=122)=false:=(by simp;omega);simp[h,h3,h5]
    .   by_cases h4:122<(s[k]:Int)
        .have h5:decide (97<=s[k]/\s[k]<=122)=false:=(by simp;omega);simp[h,h3,h4,h5]
        .have h5:decide (97<=s[k]/\s[k]<=122)=true:=(by simp;omega);rw[h5,Zg6, <-this];simp[h,h3,h4,w]
  .obtain rfl:k=s.length:=(by omega);simp
theorem xT(hc:Sem c)(s:List Nat)(st:St):c 220 [.str s] st=some (.bool (jG s),st):=by
 rw[MQ hc (s.length+1) (r:=(.bool (jG s),st)),aL (Plain.bool _) (bD.refl st)];rw[Ru];by_cases h0:(s.length:Int)=0
 .have h1:¬1<=s.length:=(by omega);have h2:s=[]:=Zb0 (by omega);subst h2;simp[jG]
 . by_cases h1:12<(s.length:Int)
   .have h2:¬s.length<=12:=(by omega);have h3:¬s=[]:=(by intro e;subst e;simp at h0);simp[jG,h1,h2,h3]
   . have h2:s.length<=12:=(by omega);have h3:1<=s.length:=(by omega);have h4:¬s=[]:=(by intro e;subst e;simp at h0);have L:∀k1 k2,lH c (s.length+1) k1 k2 (s.length+1) [.str s,.int .i64 (s.length:Int),.int .i64 0] st=if(s.drop 0).all (λc=>decide (97<=c/\c<=122))=true then k2 [] st else k1 [.bool false] st:=
        λk1 k2=>Lx (c:=c) s h2 (s.length+1) st k1 k2 s.length 0 (by omega) (by omega)
     rw[Ze4]at L;have e:jG s=s.all λc=>decide (97<=c/\c<=122):=(by simp[jG,h2,h3]);rw[e];generalize (s.all _)=b at L ⊢;simp[h1,h4,L];cases b<;>simp
theorem MR(s:List Nat)(hs:s.length<=12)(F:Nat)(st:St)(k1 k2):∀(m k:Nat),s.length<=k+m->k<=s.length->
  mZ c F k1 k2 (m+1) [.str s,.int .i64 (s.length:Int),.int .i64 (k:Int)] st=if(s.drop k).all (λc=>decide (97<=c/\c<=122))=true then k2 [] st else k1 [.bool false] st:=by
 intro m;induction m with
 |zero=>
  intro k h1 h2;rw[CE];obtain rfl:k=s.length:=by omega
  simp
 |succ m ih=>
  intro k h1 h2;rw[CE];by_cases h:k<s.length
  . have e:s.drop k=s[k]::s.drop (k+1):=Zd8 h;have:=ih (k+1) (by omega) (by omega);have w:ay .i64 ((k:Int)+1)=((k+1:Nat):Int):=wrap64 (by omega) (by omega);rw[e,List.all_cons];generalize (s.drop (k+1)).all _=rest at this ⊢;by_cases h3:(s[k]:Int)<97
    .   have h5:decide (97<=s[k]/\s[k]<=122)=false:=(by simp;omega);simp[h,h3,h5]
    .   by_cases h4:122<(s[k]:Int)
        .have h5:decide (97<=s[k]/\s[k]<=122)=false:=(by simp;omega);simp[h,h3,h4,h5]
        .have h5:decide (97<=s[k]/\s[k]<=122)=true:=(by simp;omega);rw[h5,Zg6, <-this];simp[h,h3,h4,w]
  .obtain rfl:k=s.length:=(by omega);simp
theorem Rv(hc:Sem c)(s:List Nat)(st:St):c 101 [.str s] st=some (.bool (jG s),st):=by
 rw[OV hc (s.length+1) (r:=(.bool (jG s),st)),aL (Plain.bool _) (bD.refl st)];rw[Sw];by_cases h0:(s.length:Int)=0
 .have h1:¬1<=s.length:=(by omega);have h2:s=[]:=Zb0 (by omega);subst h2;simp[jG]
 . by_cases h1:12<(s.length:Int)
   .have h2:¬s.length<=12:=(by omega);have h3:¬s=[]:=(by intro e;subst e;simp at h0);simp[jG,h1,h2,h3]
   . have h2:s.length<=12:=(by omega);have h3:1<=s.length:=(by omega);have h4:¬s=[]:=(by intro e;subst e;simp at h0);have L:∀k1 k2,mZ c (s.length+1) k1 k2 (s.length+1) [.str s,.int .i64 (s.length:Int),.int .i64 0] st=if(s.drop 0).all (λc=>decide (97<=c/\c<=122))=true then k2 [] st else k1 [.bool false] st:=
        λk1 k2=>MR (c:=c) s h2 (s.length+1) st k1 k2 s.length 0 (by omega) (by omega)
     rw[Ze4]at L;have e:jG s=s.all λc=>decide (97<=c/\c<=122):=(by simp[jG,h2,h3]);rw[e];generalize (s.all _)=b at L ⊢;simp[h1,h4,L];cases b<;>simp
theorem MS(s:List Nat)(hs:s.length<rO)(F:Nat)(st:St)(k1 k2):∀(m k:Nat),s.length<=k+m->k<=s.length->
  m5 c F k1 k2 (m+1) [.str s,.int .i64 (k:Int)] st=if(s.drop k).all (λc=>decide (97<=c/\c<=122))=true then k2 [.str s] st else k1 [.bool false] st:=by
 intro m;induction m with
 |zero=>
  intro k h1 h2;rw[CG];obtain rfl:k=s.length:=by omega
  simp
 |succ m ih=>
  intro k h1 h2;rw[CG];by_cases h:k<s.length
  . have e:s.drop k=s[k]::s.drop (k+1):=Zd8 h;have:=ih (k+1) (by omega) (by omega);have w:ay .i64 ((k:Int)+1)=((k+1:Nat):Int):=wrap64 (by omega) (by unfold rO at hs;omega);rw[e,List.all_cons];generalize (s.drop (k+1)).all _=rest at this ⊢;by_cases h3:(s[k]:Int)<97
    .   have h5:decide (97<=s[k]/\s[k]<=122)=false:=(by simp;omega);simp[h,h3,h5]
    .   by_cases h4:122<(s[k]:Int)
        .have h5:decide (97<=s[k]/\s[k]<=122)=false:=(by simp;omega);simp[h,h3,h4,h5]
        .have h5:decide (97<=s[k]/\s[k]<=122)=true:=(by simp;omega);rw[h5,Zg6, <-this];simp[h,h3,h4,w]
  .obtain rfl:k=s.length:=(by omega);simp
theorem Rw(hc:Sem c)(s:List Nat)(hs:s.length<rO)(st:St):c 77 [.str s] st=some (.bool (jG s),st):=by
 rw[OW hc (s.length+1) (r:=(.bool (jG s),st)),aL (Plain.bool _) (bD.refl st)];rw[Sx];have L:∀k1 k2,m5 c (s.length+1) k1 k2 (s.length+1) [.str s,.int .i64 0] st=if(s.drop 0).all (λc=>decide (97<=c/\c<=122))=true then k2 [.str s] st else k1 [.bool false] st:=
   λk1 k2=>MS (c:=c) s hs (s.length+1) st k1 k2 s.length 0 (by omega) (by omega)
 rw[Ze4]at L;have e:jG s=(decide (1<=s.length)&&decide (s.length<=12)&&s.all λc=>decide (97<=c/\c<=122)):=rfl;rw[e];generalize (s.all _)=b at L ⊢;simp[L];cases b
 .simp
 . by_cases h1:(1:Int)<=s.length
   . have h2:1<=s.length:=(by omega);by_cases h3:(s.length:Int)<=12
     .  have h4:s.length<=12:=(by omega);simp[h1,h2,h3,h4]
     .  have h4:¬s.length<=12:=(by omega);simp[h1,h2,h3,h4]
   .have h2:¬1<=s.length:=(by omega);simp[h1,h2]
def qV(s:List Nat):Bool:=decide (s=[])||jG s
theorem xU(hc:Sem c)(s:List Nat)(st:St):c 221 [.str s] st=some (.bool (qV s),st):=by
 rw[MT hc 1 (r:=(.bool (qV s),st)),aL (Plain.bool _) (bD.refl st)];rw[Rx];by_cases h:s=[]<;>simp[h,qV,xT hc]
def D6(n last:Int):List Int->Bool
 |[]=>true
 |k::l=>decide (last<k)&&decide (k<n)&&D6 n k l
def rq(t:aR):Int:=
 if jG t.name=false then 4 else if dN t=0 then 10 else if D6 (dN t) (-1) t.oM=false then 11
 else if 0<=t.x/\t.x<=1000/\0<=t.y/\t.y<=1000 then 0 else 2
structure aR.Ok(t:aR):Prop where
 name:t.name.length<rO
 oM:t.oM.length<rO
theorem Rg(l:List Int)(k:Nat)(h:k<l.length):((l.map λi=>[AV.int .i64 i])[k]?.bind λcs=>cs[0]?)=some (.int .i64 l[k]):=by
 simp[Zc0,H4 h]
theorem Ly(p:Pos)(n:Int)(z:Bool)(l:List Int)(hl:l.length<rO)(F:Nat)(st:St)(k1 k3):∀(m k:Nat)(last:Int),l.length<=k+m->k<=l.length->
  lJ c F k1 k3 (m+1) [.ptr p 0,.int .i64 n,.int .i64 last,ints z l,.int .i64 (l.length:Int),.int .i64 (k:Int)] st=if D6 n last (l.drop k)=true then k3 [.ptr p 0] st else k1 [.int .i64 11] st:=by
 intro m;induction m with
 |zero=>
  intro k last h1 h2;rw[Bi];obtain rfl:k=l.length:=by omega
  simp[D6]
 |succ m ih=>
  intro k last h1 h2;rw[Bi];by_cases h:k<l.length
  . have e:l.drop k=l[k]::l.drop (k+1):=Zd8 h;have:=ih (k+1) l[k] (by omega) (by omega);have w:ay .i64 ((k:Int)+1)=((k+1:Nat):Int):=wrap64 (by omega) (by unfold rO at hl;omega);have g:=Rg l k h;rw[e,D6];generalize D6 n l[k] (l.drop (k+1))=rest at this ⊢;by_cases h3:l[k]<=last
    .   have h4:¬last<l[k]:=(by omega);simp[ints,h,h3,h4,g]
    .   have h4:last<l[k]:=(by omega);by_cases h5:n<=l[k]
        .have h6:¬l[k]<n:=(by omega);simp[ints,h,h3,h4,h5,h6,g]
        .have h6:l[k]<n:=(by omega);simp only[h4,h6,Zk9,Zg6];rw[<-this];simp[ints,h,h3,h4,h5,h6,g,w]
  .obtain rfl:k=l.length:=(by omega);simp[D6]
theorem ZZ(hc:Sem c)(t:aR)(ht:t.Ok)(st:St)(hw:Wf st):c 64 [.agg t.cells] st=some (.int .i64 (rq t),st):=by
 rw[MU hc (t.oM.length+1) (r:=(.int .i64 (rq t),af st (.cells t.cells 0))),aL (Plain.int _ _) (cC hw)];rw[Ry];have hs:=MP hc t (af st (.cells t.cells 0)) (bR hw);have hn:=Rw hc t.name ht.name;have hg:(af st (.cells t.cells 0)).heap.get st.next=some (.cells t.cells 0):=aD _ _;have c0:t.cells[0]? =some (.str t.name):=rfl;have c4:t.cells[4]? =some (ints t.oz t.oM):=rfl;have c5:t.cells[5]? =some (.int .i64 t.x):=rfl;have c6:t.cells[6]? =some (.int .i64 t.y):=rfl;have cc:cut t.cells 0 7=some t.cells:=bQ rfl
 have L:∀k1 k3,lJ c (t.oM.length+1) k1 k3 (t.oM.length+1) [.ptr st.next 0,.int .i64 (dN t),.int .i64 (-1),ints t.oz t.oM,.int .i64 (t.oM.length:Int),.int .i64 0] (af st (.cells t.cells 0))=
     if D6 (dN t) (-1) (t.oM.drop 0)=true then k3 [.ptr st.next 0] (af st (.cells t.cells 0))else k1 [.int .i64 11] (af st (.cells t.cells 0)):=
   λk1 k3=>Ly st.next (dN t) t.oz t.oM ht.oM _ _ k1 k3 t.oM.length 0 (-1) (by omega) (by omega)
 rw[Ze4]at L;have lI:∀(K:AV->St->Option (AV×St))(s:St),ak c (.lenB .l) [ints t.oz t.oM] s K=K (.int .i64 (t.oM.length:Int)) s:=λK s=>by unfold ints;rw[jZ];simp
 unfold rq;generalize t.cells=tc at*
 generalize dN t=sz at*
 generalize D6 sz (-1) t.oM=op at*
 by_cases h1:jG t.name=true
 . by_cases h2:sz=0
   .simp[AV.cells,hs,hn,hg,c0,cc,h1,h2]
   . cases op
     .  simp[AV.cells,hs,hn,hg,c0,c4,cc,h1,h2,lI,L]
     .  by_cases h3:t.x<0
        .have:¬0<=t.x:=(by omega);simp[AV.cells,hs,hn,hg,c0,c4,c5,c6,cc,h1,h2,lI,L,h3,this]
        by_cases h4:1000<t.x
        .have:¬t.x<=1000:=(by omega);simp[AV.cells,hs,hn,hg,c0,c4,c5,c6,cc,h1,h2,lI,L,h3,h4,this]
        by_cases h5:t.y<0
        .have:¬0<=t.y:=(by omega);simp[AV.cells,hs,hn,hg,c0,c4,c5,c6,cc,h1,h2,lI,L,h3,h4,h5,this]
        by_cases h6:1000<t.y
        .have:¬t.y<=1000:=(by omega);simp[AV.cells,hs,hn,hg,c0,c4,c5,c6,cc,h1,h2,lI,L,h3,h4,h5,h6,this]
        have h7:0<=t.x:=(by omega);have h8:t.x<=1000:=(by omega);have h9:0<=t.y:=(by omega);have h10:t.y<=1000:=(by omega);simp[AV.cells,hs,hn,hg,c0,c4,c5,c6,cc,h1,h2,lI,L,h3,h4,h5,h6,h7,h8,h9,h10]
 .simp[AV.cells,hs,hn,hg,c0,cc,h1]
theorem CH(t:aR):0<=dN t/\dN t<=1000:=by
 unfold dN;repeat' split
 all_goals omega
def scan(P:Nat->Bool):Nat->Nat->Int
 |0,_=> -1
 |m+1,k=>if P k=true then(k:Int)else scan P m (k+1)
theorem MV(P:Nat->Bool):∀(m k:Nat),-1<=scan P m k/\(scan P m k<0->scan P m k= -1)
 |0,_=>by simp[scan]
 |m+1,k=>by
  unfold scan;split
  .omega
  .exact MV P m (k+1)
theorem Lz{P Q:Nat->Bool}:∀(m k:Nat),(∀i,k<=i->i<k+m->P i=Q i)->scan P m k=scan Q m k
 |0,_,_=>rfl
 |m+1,k,h=>by
  unfold scan;rw[h k (by omega) (by omega),Lz m (k+1) λi h1 h2=>h i (by omega) (by omega)]
theorem wA{P:Nat->Bool}:∀(m k:Nat),0<=scan P m k->k<=(scan P m k).toNat/\(scan P m k).toNat<k+m/\P (scan P m k).toNat=true
 |0,k,h=>by simp[scan]at h
 |m +1,k,h=>by
  unfold scan at h ⊢;split
  .rename_i hp;simp;exact hp
  .rename_i hp;rw[Za5 hp]at h;have:=wA m (k+1) h;exact⟨by omega,by omega,this.2.2⟩
def tabs(z:Bool)(ts:List aR):AV:=ro 7 z (ts.map aR.cells)
@[simp] theorem aR.c0(t:aR):t.cells[0]? =some (.str t.name):=id rfl
@[simp] theorem aR.c1(t:aR):t.cells[1]? =some (.int .u8 t.sh):=id rfl
@[simp] theorem aR.c2(t:aR):t.cells[2]? =some (.int .i64 t.a):=id rfl
@[simp] theorem aR.c3(t:aR):t.cells[3]? =some (.int .i64 t.b):=id rfl
@[simp] theorem aR.c4(t:aR):t.cells[4]? =some (ints t.oz t.oM):=id rfl
@[simp] theorem aR.c5(t:aR):t.cells[5]? =some (.int .i64 t.x):=id rfl
@[simp] theorem aR.c6(t:aR):t.cells[6]? =some (.int .i64 t.y):=id rfl
@[simp] theorem aR.cc(t:aR):cut t.cells 0 7=some t.cells:=bQ rfl
theorem aR.len(t:aR):t.cells.length=7:=id rfl
@[simp] theorem aR.one(t:aR):aO t.cells=true:=by unfold aR.cells;simp only[aO,ZY];rfl
@[simp] theorem GG(l:List AV):(AV.agg l).cells=l:=id rfl
def m7(ts:List aR)(s:List Nat)(i:Nat):Bool:=decide (ts[i]?.map aR.name=some s)
def fG(ts:List aR):Nat->Nat->Int×Int
 |0,_=>(0,0)
 |  m+1,k=>match ts[k]? with
    |none=>(0,0)
    |some t=>if rq t≠0 then((k:Int),rq t)else if 0<=scan (m7 ts t.name) k 0 then((k:Int),5)else fG ts m (k+1)
def bG(ts:List aR):Int×Int:=if 16<ts.length then(0,7)else fG ts ts.length 0
theorem LA(ts:List aR):∀(m m' k:Nat),ts.length<=k+m->ts.length<=k+m'->fG ts m k=fG ts m' k
 |0,0,_,_,_=>rfl
 |0,m'+1,k,h,_=>by rw[fG,fG,Zb7 (by omega)]
 |m+1,0,k,_,h=>by rw[fG,fG,Zb7 (by omega)]
 |m+1,m'+1,k,h,h'=>by
  rw[fG,fG,LA ts m m' (k+1) (by omega) (by omega)]
theorem LB(ts:List aR):∀(m k:Nat),(fG ts m k).2=0->(fG ts m k).1=0
 |0,_,_=>rfl
 |m +   1,k,h=>by
  rw[fG]at h ⊢;split at h
  .rfl
  . split at h
    .   rename_i cj;exact absurd h cj
    .   split at h
        .simp at h
        .rename_i h1 h2;rw[Za5 h1,Za5 h2];exact LB ts m (k+1) h
theorem Rz(hc:Sem c)(x t:aR)(p:Pos)(st:St)(hw:Wf st)(hp:st.heap.get p=some (.cells t.cells 0)):c 79 [.agg x.cells,.ptr p 0] st=some (.bool (decide (x.name=t.name)),st):=by
 rw[Fo hc 1 (r:=(.bool (decide (x.name=t.name)),af st (.cells x.cells 0))),aL (Plain.bool _) (cC hw)];rw[Ie];have:(af st (.cells x.cells 0)).heap.get p=some (.cells t.cells 0):=cC hw _ _ hp;simp[this]
theorem Z0(hc:Sem c)(x:aR)(s:List Nat)(p:Pos)(st:St)(hw:Wf st)(hp:st.heap.get p=some (.cells [.str s] 0)):c 146 [.agg x.cells,.ptr p 0] st=some (.bool (decide (x.name=s)),st):=by
 rw[LC hc 1 (r:=(.bool (decide (x.name=s)),af st (.cells x.cells 0))),aL (Plain.bool _) (cC hw)];rw[OX];have:(af st (.cells x.cells 0)).heap.get p=some (.cells [.str s] 0):=cC hw _ _ hp;simp[this]
theorem XF(z:Bool)(rs:List (List AV))(hl:rs.length<rO)(cW:∀cs∈rs,cs.length=7)(g:Nat)(v:List AV)(P:Nat->Bool)(st:St)(F:Nat)(k1 k2)
  (hP:∀i (h:i<rs.length),c g (.agg rs[i]::v) st=some (.bool (P i),st)):∀(m k:Nat),rs.length<=k+m->k<=rs.length->
  bL c F k1 k2 (m+1) [ro 7 z rs,.func g [] v,.int .i64 (rs.length:Int),.int .i64 (k:Int)] st=if 0<=scan P (rs.length - k) k then k1 [.int .i64 (scan P (rs.length - k) k)] st else k2 [] st:=by
 intro m;induction m with
 |zero=>
  intro k h1 h2;obtain rfl:k=rs.length:=by omega
  rw[ir];simp[scan]
 |succ m ih=>
  intro k h1 h2;rw[ir];by_cases h:k<rs.length
  . have e:rs.length - k=(rs.length - (k+1))+1:=(by omega);have w:ay .i64 ((k:Int)+1)=((k+1:Nat):Int):=wrap64 (by omega) (by unfold rO at hl;omega);have hcut:cut rs[k] 0 7=some rs[k]:=bQ (cW _ (Zb9 h));have hp:=hP k h;rw[e,scan];cases hb:P k
    .   simp only[Zg3,Zh4];rw[<-ih (k+1) (by omega) (by omega)];simp[h,hcut,hp,hb,w]
    .   simp[h,hcut,hp,hb]
  .obtain rfl:k=rs.length:=(by omega);simp[scan]
theorem TO(hc:Sem c)(z:Bool)(rs:List (List AV))(hl:rs.length<rO)(cW:∀cs∈rs,cs.length=7)(g:Nat)(v:List AV)(P:Nat->Bool)(st:St)
   (hP:∀i (h:i<rs.length),c g (.agg rs[i]::v) st=some (.bool (P i),st)):c 128 [ro 7 z rs,.func g [] v] st=some (.int .i64 (scan P rs.length 0),st):=by
 rw[n9 hc (rs.length+1) (r:=(.int .i64 (scan P rs.length 0),st)),aL (Plain.int _ _) (bD.refl st)];rw[oZ];have L:∀k1 k2,bL c (rs.length+1) k1 k2 (rs.length+1) [ro 7 z rs,.func g [] v,.int .i64 (rs.length:Int),.int .i64 0] st=if 0<=scan P (rs.length - 0) 0 then k1 [.int .i64 (scan P (rs.length - 0) 0)] st else k2 [] st:=
   λk1 k2=>XF z rs hl cW g v P st _ k1 k2 hP rs.length 0 (by omega) (by omega)
 rw[Zo4]at L;by_cases h:0<=scan P rs.length 0
 .simp[L,h]
 .have:=(MV P rs.length 0).2 (by omega);simp[L,this]
theorem RA(hc:Sem c)(z:Bool)(rs:List (List AV))(hl:rs.length<rO)(cW:∀cs∈rs,cs.length=7)(g:Nat)(v:List AV)(P:Nat->Bool)(st:St)
  (hP:∀i (h:i<rs.length),c g (.agg rs[i]::v) st=some (.bool (P i),st)):c 78 [ro 7 z rs,.func g [] v] st=some (.bool (decide (0<=scan P rs.length 0)),st):=by
 rw[mP hc 1 (r:=(.bool (decide (0<=scan P rs.length 0)),st)),aL (Plain.bool _) (bD.refl st)];rw[nv];simp[TO hc z rs hl cW g v P st hP]
theorem OY(hc:Sem c)(z:Bool)(ts:List aR)(eI:∀t∈ts,t.Ok)(hl:ts.length<=16)(F:Nat)(k1 k2):∀(m k:Nat)(st:St),Wf st->ts.length<=k+m->k<=ts.length->
  ∃st',Grew st st'/\kT c F k1 k2 (m+1) [tabs z ts,tabs z ts,.int .i64 (ts.length:Int),.int .i64 (k:Int)] st=if(fG ts m k).2=0 then k2 [] st' else k1 [.int .i64 (fG ts m k).1,.int .i64 (fG ts m k).2] st':=by
 intro m;induction m with
 |zero=>
  intro k st hw h1 h2;obtain rfl:k=ts.length:=by omega
  refine⟨st,Grew.refl hw,?_⟩;rw[qk];simp[fG,tabs]
 |succ m ih=>
  intro k st hw h1 h2;by_cases h:k<ts.length
  . have w:ay .i64 ((k:Int)+1)=((k+1:Nat):Int):=wrap64 (by omega) (by omega);have dI:Wf (af st (.cells ts[k].cells 0)):=bR hw;have hg:=Grew.af hw (.cells ts[k].cells 0);have hch:=ZZ hc ts[k] (eI _ (Zb9 h)) _ dI;have XG:=RA hc (z&&(ts.map aR.cells).isEmpty) ((ts.map aR.cells).take k) (by simp[rO];omega) (λcs e9=>by
          have:=List.mem_of_mem_take e9;simp only[Zf3]at this;obtain⟨t,_,rfl⟩:=this;rfl) 79 [.ptr st.next 0] (m7 ts ts[k].name) (af st (.cells ts[k].cells 0)) (λi hi=>by
          have K7:i<k:=(by simp at hi;omega);have TP:i<ts.length:=(by omega);have:=Rz hc ts[i] ts[k] st.next (af st (.cells ts[k].cells 0)) dI (aD _ _);simp only[Zl8,Zl0];rw[this];simp[m7,TP])
    have hlen:((ts.map aR.cells).take k).length=k:=(by simp;omega);rw[hlen]at XG;rw[qk,fG,H4 h];simp only;by_cases h3:rq ts[k]=0
    .   by_cases h4:0<=scan (m7 ts ts[k].name) k 0
        .refine⟨_,hg,?_⟩;have kW:k<=ts.length:=(by omega);simp only[tabs,Zo3]at XG ⊢;simp[h,hch,h3,h4,kW,XG,aR.len]
        .obtain⟨st',g1,g2⟩:=ih (k+1) _ dI (by omega) (by omega);refine⟨st',hg.trans g1,?_⟩;have kW:k<=ts.length:=(by omega);have e3:¬rq ts[k]≠0:=(by rw[h3];simp);simp only[e3,h4,Zh4];rw[<-g2];simp only[tabs,Zo3]at XG ⊢;simp[h,hch,h3,h4,kW,XG,w,aR.len]
    .   refine⟨_,hg,?_⟩;simp[tabs,h,hch,h3,aR.len]
  .obtain rfl:k=ts.length:=(by omega);refine⟨st,Grew.refl hw,?_⟩;rw[qk];simp[fG,tabs]
theorem IW(hc:Sem c)(z:Bool)(ts:List aR)(eI:∀t∈ts,t.Ok)(st:St)(hw:Wf st):c 66 [tabs z ts] st=some (.tuple [.int .i64 (bG ts).1,.int .i64 (bG ts).2],st):=by
 have qP:Plain (.tuple [.int .i64 (bG ts).1,.int .i64 (bG ts).2]):=Plain.tuple (by simp[Plain.int]);by_cases h:16<ts.length
 .rw[yl hc 20 (r:=(.tuple [.int .i64 (bG ts).1,.int .i64 (bG ts).2],st)),aL qP (bD.refl st)];rw[Bj];have hi:(16:Int)<ts.length:=(by omega);simp[tabs,bG,h,hi]
 . have hi:¬(16:Int)<ts.length:=(by omega);have e:bG ts=fG ts 19 0:=(by rw[bG,Za5 h];exact LA ts _ _ 0 (by omega) (by omega));have hex:=λk1 k2=>OY hc z ts eI (by omega) 20 k1 k2 19 0 st hw (by omega) (by omega)
   obtain⟨st',hg,L⟩:=hex (λvs s36=>js vs λx2 vs=>js vs λx3 vs=>pZ vs (some (.tuple [x2,x3],s36))) (λvs s37=>pZ vs (
     ak c .move [(.int .i64 0)] s37 λx2 s38=>ak c .move [(.int .i64 0)] s38 λx3 s39=>some (.tuple [x2,x3],s39)))
   rw[yl hc 20 (r:=(.tuple [.int .i64 (bG ts).1,.int .i64 (bG ts).2],st')),aL qP hg.keeps];rw[Bj,e];simp only[tabs]at L;simp[tabs,hi]at L ⊢;rw[L];by_cases h2:(fG ts 19 0).2=0
   .have:=LB ts 19 0 h2;simp[h2,this]
   .simp[h2]
def bC(ts:List aR):Int:=(ts.map dN).sum
theorem sY(ts:List aR):0<=bC ts/\bC ts<=1000*ts.length:=by
 induction ts with
 |nil=>simp[bC]
 |cons t ts ih=>
  have:=CH t;simp only[bC,Zd4,List.sum_cons,Ze6]at ih ⊢;omega
theorem LD(ts:List aR)(t:aR):bC (ts++[t])=bC ts+dN t:=by simp[bC]
def uJ(ts:List aR)(t:Int):Int:=if t<0\/(ts.length:Int)<=t\/(bG ts).2≠0 then 0 else bC (ts.take t.toNat)
theorem JV(hc:Sem c)(z:Bool)(ts:List aR)(eI:∀t∈ts,t.Ok)(st:St)(hw:Wf st):c 47 [tabs z ts] st=some (.bool (decide ((bG ts).2=0)),st):=by
 rw[MW hc 1 (r:=(.bool (decide ((bG ts).2=0)),st)),aL (Plain.bool _) (bD.refl st)];rw[RB];simp[IW hc z ts eI st hw]
theorem Ot{ts:List aR}(h:(bG ts).2=0):ts.length<=16:=by
 unfold bG at h;split at h
 .simp at h
 .omega
theorem Vg(hc:Sem c)(z:Bool)(ts:List aR)(hl:ts.length<=16)(F:Nat)(k2):∀(m k:Nat)(st:St),Wf st->ts.length<=k+m->k<=ts.length->
  ∃st',Grew st st'/\oO c F k2 (m+1) [.int .i64 (bC (ts.take k)),tabs z ts,.int .i64 (ts.length:Int),.int .i64 (k:Int)] st=k2 [.int .i64 (bC ts)] st':=by
 intro m;induction m with
 |zero=>
  intro k st hw h1 h2;obtain rfl:k=ts.length:=by omega
  refine⟨st,Grew.refl hw,?_⟩;rw[uK];simp
 |succ m ih=>
  intro k st hw h1 h2;by_cases h:k<ts.length
  . have w:ay .i64 ((k:Int)+1)=((k+1:Nat):Int):=wrap64 (by omega) (by omega);have dI:Wf (af st (.cells ts[k].cells 0)):=bR hw;have hg:=Grew.af hw (.cells ts[k].cells 0);have hs:=MP hc ts[k] _ dI;have e:bC (ts.take (k+1))=bC (ts.take k)+dN ts[k]:=by
        rw[Zd0 h,LD]
    have b1:=sY (ts.take k);have b2:=CH ts[k];have b3:(ts.take k).length<=16:=(by simp;omega);have w2:ay .i64 (bC (ts.take k)+dN ts[k])=bC (ts.take (k+1)):=(by rw[e];exact wrap64 (by omega) (by omega));obtain⟨st',g1,g2⟩:=ih (k+1) _ dI (by omega) (by omega);refine⟨st',hg.trans g1,?_⟩;rw[<-g2,uK];simp[tabs,h,hs,w,w2,aR.len]
  .obtain rfl:k=ts.length:=(by omega);refine⟨st,Grew.refl hw,?_⟩;rw[uK];simp
theorem Z3(hc:Sem c)(z:Bool)(ts:List aR)(eI:∀t∈ts,t.Ok)(k:Int)(st:St)(hw:Wf st):c 41 [tabs z ts,.int .i64 k] st=some (.int .i64 (uJ ts k),st):=by
 have lT:∀(K:AV->St->Option (AV×St))(s:St),ak c (.lenB .l) [tabs z ts] s K=K (.int .i64 (ts.length:Int)) s:=λK s=>by unfold tabs;rw[jZ];simp
 have hv:=JV hc z ts eI st hw;by_cases h:k<0\/(ts.length:Int)<=k\/(bG ts).2≠0
 . have e:uJ ts k=0:=(by rw[uJ,Za7 h]);rw[CI hc 1 (r:=(.int .i64 (uJ ts k),st)),aL (Plain.int _ _) (bD.refl st)];rw[GH,e];by_cases h1:k<0
   .simp[h1]
   . by_cases h2:(ts.length:Int)<=k
     .  simp[h1,h2,lT]
     .  have h3:(bG ts).2≠0:=h.resolve_left h1 |>.resolve_left h2;simp[h1,h2,h3,lT,hv]
 . have e:uJ ts k=bC (ts.take k.toNat):=(by rw[uJ,Za5 h]);have h1:¬k<0:=λe=>h (.inl e)
   have h2:¬(ts.length:Int)<=k:=λe=>h (.inr (.inl e))
   have h3:(bG ts).2=0:=Classical.byContradiction λe=>h (.inr (.inr e))
   have hl:=Ot h3;obtain⟨n,rfl⟩:∃n:Nat,k=(n:Int):=⟨k.toNat,by omega⟩
   have hn:n<=ts.length:=(by omega);have hex:=λk2=>Vg hc (z&&ts.isEmpty) (ts.take n) (by simp;omega) 20 k2 19 0 st hw (by simp;omega) (by omega)
   obtain⟨st',hg,L⟩:=hex (λvs XH=>js vs λx5 vs=>pZ vs (ak c .move [x5] XH λx34 XI=>ak c .move [x34] XI λx4 XJ=>some (x4,XJ)));rw[CI hc 20 (r:=(.int .i64 (uJ ts (n:Int)),st')),aL (Plain.int _ _) hg.keeps];rw[GH,e];have h4:¬ts.length<=n:=(by omega);have hm:min n ts.length=n:=(by omega);simp[tabs,bC,hm]at L;simp[h1,h4,h3,lT,hv];simp[tabs,hn,hm,bC,L]
theorem Sy(hc:Sem c)(z:Bool)(ts:List aR)(hl:ts.length<=16)(st:St)(hw:Wf st):c 48 [tabs z ts] st=some (.int .i64 (if h:0<ts.length then dN (ts[ts.length - 1]'(by omega))else 0),st):=by
 rw[Ig hc 1 (r:=(.int .i64 (if h:0<ts.length then dN (ts[ts.length - 1]'(by omega))else 0),st)),aL (Plain.int _ _) (bD.refl st)];rw[LF];by_cases h:0<ts.length
 . have h1:¬(ts.length:Int)=0:=(by omega);have h2:ts≠[]:=λe=>by subst e;simp at h
   have w:ay .i64 ((ts.length:Int) - 1)=((ts.length - 1:Nat):Int):=(by rw[wrap64 (by omega) (by omega)];omega);have h3:ts.length - 1<ts.length:=(by omega);have hs:=MP hc (ts[ts.length - 1]'(by omega)) st hw;simp[tabs,h,h1,h2,w,h3,hs]
 .have h1:ts=[]:=Zb0 (by omega);subst h1;simp[tabs]
theorem XK{ts:List aR}(hv:(bG ts).2=0):uJ ts ((ts.length:Int) - 1)+(if h:0<ts.length then dN (ts[ts.length - 1]'(by omega))else 0)=bC ts:=by
 by_cases h:0<ts.length
 .rw[dif_pos h,uJ,Za5 (by simp[hv];omega)];have e:((ts.length:Int) - 1).toNat=ts.length - 1:=(by omega);rw[e, <-LD, <-Zd0 (by omega)];rw[show ts.length - 1+1=ts.length by omega,Zi8]
 .have h1:ts=[]:=Zb0 (by omega);subst h1;simp[uJ,bC]
theorem wB(hc:Sem c)(z:Bool)(ts:List aR)(eI:∀t∈ts,t.Ok)(st:St)(hw:Wf st):c 30 [tabs z ts] st=some (.int .i64 (if(bG ts).2=0 then bC ts else 0),st):=by
 rw[MX hc 1 (r:=(.int .i64 (if(bG ts).2=0 then bC ts else 0),st)),aL (Plain.int _ _) (bD.refl st)];rw[RD];have lT:∀(K:AV->St->Option (AV×St))(s:St),ak c (.lenB .l) [tabs z ts] s K=K (.int .i64 (ts.length:Int)) s:=λK s=>by unfold tabs;rw[jZ];simp
 have hv:=JV hc z ts eI st hw;by_cases h:(bG ts).2=0
 .have hl:=Ot h;have w:ay .i64 ((ts.length:Int) - 1)=(ts.length:Int) - 1:=wrap64 (by omega) (by omega);have hf:=Z3 hc z ts eI ((ts.length:Int) - 1) st hw;have hla:=Sy hc z ts hl st hw;have b:=sY ts;have e:=XK h;rw[Za7 h, <-e];rw[<-e]at b;generalize uJ ts ((ts.length:Int) - 1)=x at hf b ⊢;generalize (if h:0<ts.length then dN (ts[ts.length - 1]'(by omega))else 0)=y at hla b ⊢;have w2:ay .i64 (x+y)=x+y:=wrap64 (by omega) (by omega);simp[hv,h,lT,w,hf,hla,w2]
 .simp[hv,h]
theorem abx(hc:Sem c)(z:Bool)(ts:List aR)(eI:∀t∈ts,t.Ok)(hl:ts.length<rO)(s:List Nat)(st:St)(hw:Wf st):c 102 [tabs z ts,.str s] st=
   some (.tuple [.int .i64 (if 0<=scan (m7 ts s) ts.length 0/\(bG ts).2=0 then scan (m7 ts s) ts.length 0 else 0),.bool (decide (0<=scan (m7 ts s) ts.length 0/\(bG ts).2=0))],st):=by
 rw[OZ hc 1 (r:=(.tuple [.int .i64 (if 0<=scan (m7 ts s) ts.length 0/\(bG ts).2=0 then scan (m7 ts s) ts.length 0 else 0),.bool (decide (0<=scan (m7 ts s) ts.length 0/\(bG ts).2=0))],af st (.cells [.str s] 0))),
   aL (Plain.tuple (by simp[Plain.int,Plain.bool])) (cC hw)]
 rw[Sz];have dI:Wf (af st (.cells [.str s] 0)):=bR hw;have hi:=TO hc z (ts.map aR.cells) (by simpa using hl) (λcs e9=>by
     simp only[Zf3]at e9;obtain⟨t,_,rfl⟩:=e9;rfl) 146 [.ptr st.next 0] (m7 ts s) (af st (.cells [.str s] 0)) (λi hi=>by
     have TP:i<ts.length:=(by simpa using hi);have:=Z0 hc ts[i] s st.next (af st (.cells [.str s] 0)) dI (aD _ _);simp only[Zl0];rw[this];simp[m7,TP])
 rw[Zb3]at hi;have hv:=JV hc z ts eI _ dI;simp only[tabs]at hv ⊢;have e:(AV.str s).cells=[.str s]:=rfl;by_cases h1:0<=scan (m7 ts s) ts.length 0
 . have h2:¬scan (m7 ts s) ts.length 0<0:=(by omega);by_cases h3:(bG ts).2=0
   .simp[e,hi,h1,h2,h3,hv]
   .simp[e,hi,h1,h2,h3,hv]
 .have h2:scan (m7 ts s) ts.length 0<0:=(by omega);simp[e,hi,h1,h2]
structure aN where
 name:List Nat
 xV:List Nat
 sK:List Nat
 since:Int
 side:Int
 m8:List Nat
 host:Bool
 access:Bool
 tz:Bool
 tg:List (List Nat)
def mF(z:Bool)(l:List (List Nat)):AV:=ro 1 z (l.map λs=>[.str s])
def aN.cells(g:aN):List AV:=[.str g.name,.str g.xV,.str g.sK,.int .i64 g.since,.int .i64 g.side,.str g.m8,.bool g.host,.bool g.access,mF g.tz g.tg]
@[simp] theorem Z4(z:Bool)(l:List (List Nat)):(mF z l).one=true:=WV _ _ _
@[simp] theorem ads{R:Type}(c:ai)(K:AV->St->Option R)(st:St)(z:Bool)(l:List (List Nat)):ak c (.lenB .l) [mF z l] st K=K (.int .i64 (l.length:Int)) st:=by unfold mF;rw[jZ];simp
@[simp] theorem adt{R:Type}(c:ai)(K:AV->St->Option R)(st:St)(z:Bool)(l:List Int):ak c (.lenB .l) [ints z l] st K=K (.int .i64 (l.length:Int)) st:=by unfold ints;rw[jZ];simp
@[simp] theorem aN.c0(t:aN):t.cells[0]? =some (.str t.name):=id rfl
@[simp] theorem aN.c1(t:aN):t.cells[1]? =some (.str t.xV):=id rfl
@[simp] theorem aN.c2(t:aN):t.cells[2]? =some (.str t.sK):=id rfl
@[simp] theorem aN.c3(t:aN):t.cells[3]? =some (.int .i64 t.since):=id rfl
@[simp] theorem aN.c4(t:aN):t.cells[4]? =some (.int .i64 t.side):=id rfl
@[simp] theorem aN.c5(t:aN):t.cells[5]? =some (.str t.m8):=id rfl
@[simp] theorem aN.c6(t:aN):t.cells[6]? =some (.bool t.host):=id rfl
@[simp] theorem aN.c7(t:aN):t.cells[7]? =some (.bool t.access):=id rfl
@[simp] theorem aN.c8(t:aN):t.cells[8]? =some (mF t.tz t.tg):=id rfl
@[simp] theorem aN.cc(t:aN):cut t.cells 0 9=some t.cells:=bQ rfl
@[simp] theorem aN.one(t:aN):aO t.cells=true:=by unfold aN.cells;simp only[aO,Z4];rfl
def eN(z:Bool)(gs:List aN):AV:=ro 9 z (gs.map aN.cells)
@[simp] theorem Z5{R:Type}(c:ai)(K:AV->St->Option R)(st:St)(z:Bool)(l:List aN):ak c (.lenB .l) [eN z l] st K=K (.int .i64 (l.length:Int)) st:=by unfold eN;rw[jZ];simp
def aft(last:Option (List Nat))(s:List Nat):Bool:=match last with
 |none=>true
 |some p=>aB p s
@[simp] theorem Z6(s:List Nat):aft none s=true:=id rfl
@[simp] theorem Z7(p s:List Nat):aft (some p) s=aB p s:=id rfl
def CJ(last:Option (List Nat)):List (List Nat)->Bool
 |[]=>true
 |s::l=>jG s&&aft last s&&CJ (some s) l
theorem Z8(last:Option (List Nat))(s:List Nat)(l:List (List Nat)):CJ last (s::l)=(jG s&&aft last s&&CJ (some s) l):=rfl
def fR(g:aN):Int:=
 if(jG g.name&&qV g.xV&&qV g.sK&&qV g.m8)=false then 4 else if ¬(0<=g.since/\g.since<=9999)then 21 else if ¬(0<=g.side/\g.side<=2)then 20
 else if 4<g.tg.length then 22 else if CJ none g.tg=false then 22 else 0
theorem wC:∀(a:List Nat),aB a a=false
 |[]=>rfl
 |x::a=>by
  unfold aB;simp[yQ,eo,wC a]
theorem GJ:∀(a b:List Nat),aB a b=true->aB b a=false
 |[],[],h=>by simp[aB]at h
 |[],_::_,_=>rfl
 |_::_,[],h=>by simp[aB]at h
 |x ::a,y::b,h=>by
  unfold aB at h ⊢;simp only[yQ,eo]at h ⊢;by_cases h1:x<y
  .have:¬y<x:=(by omega);have h3:¬y=x:=(by omega);simp[this,h3]
  . by_cases h2:x=y
    .subst h2;simp at h ⊢; exact GJ a b h
    .simp[h1,h2]at h
theorem yV:∀(a b:List Nat),aB a b=false->aB b a=false->a=b
 |[],[],_,_=>rfl
 |[],_::_,h,_=>by simp[aB]at h
 |_::_,[],_,h=>by simp[aB]at h
 |x ::a,y::b,h,k=>by
  unfold aB at h k;simp only[yQ,eo]at h k;by_cases h1:x<y
  .simp[h1]at h
  . by_cases h2:y<x
    .   simp[h2]at k
    .   have:x=y:=(by omega);subst this;simp at h k;rw[yV a b h k]
theorem D7:∀(a b d:List Nat),aB a b=true->aB b d=true->aB a d=true
 |_,[],[],_,h=>by simp[aB]at h
 |_,_::_,[],_,h=>by simp[aB]at h
 |[],_,_::_,_,_=>rfl
 |_::_,[],_::_,h,_=>by simp[aB]at h
 |x ::a   ,y::b,z::d,h,k=>by
  unfold aB at h k ⊢;simp only[yQ,eo]at h k ⊢;by_cases h1:x<y
  . by_cases h2:y<z
    .   have:x<z:=(by omega);simp[this]
    .   by_cases h3:y=z
        .subst h3;simp[h1]
        .simp[h2,h3]at k
  . by_cases h2:x=y
    .   subst h2;simp at h;by_cases h4:x<z
        .simp[h4]
        . by_cases h5:x=z
          .subst h5;simp at k ⊢; exact D7 a b d h k
          .simp[h4,h5]at k
    .   simp[h1,h2]at h
theorem JW(hc:Sem c)(p:Pos)(g:aN)(hl:g.tg.length<=4)(F:Nat)(st:St)(hp:st.heap.get p=some (.cells g.cells 0))(k1 k3):∀(m k:Nat),g.tg.length<=k+m->k<=g.tg.length->
  kC c F k1 k3 (m+1) [.ptr p 0,mF g.tz g.tg,.int .i64 (g.tg.length:Int),.int .i64 (k:Int)] st=if CJ (if k=0 then none else g.tg[k - 1]?) (g.tg.drop k)=true then k3 [] st else k1 [.int .i64 22] st:=by
 intro m;induction m with
 |zero=>
  intro k h1 h2;rw[zV];obtain rfl:k=g.tg.length:=by omega
  simp[CJ]
 |succ m ih=>
  intro k h1 h2;rw[zV];by_cases h:k<g.tg.length
  . have e:g.tg.drop k=g.tg[k]::g.tg.drop (k+1):=Zd8 h;have w:ay .i64 ((k:Int)+1)=((k+1:Nat):Int):=wrap64 (by omega) (by omega);have hn:=xT hc g.tg[k] st;have:=ih (k+1) (by omega) (by omega);have e2:(if k+1=0 then none else g.tg[k+1 - 1]?)=some g.tg[k]:=(by rw[Za5 (by omega),Ze9,H4 h]);rw[e2]at this;rw[e,Z8];generalize CJ (some g.tg[k]) (g.tg.drop (k+1))=rest at this ⊢;by_cases h3:jG g.tg[k]=true
    .   by_cases h0:k=0
        .have hk:¬0<k:=(by omega);simp only[h3,Za7 h0,Zg6,Z6];rw[<-this];simp[mF,h,hn,h3,hk,w]
        . have hk:0<k:=(by omega);have rQ:k - 1<g.tg.length:=(by omega);have wk:ay .i64 ((k:Int) - 1)=((k - 1:Nat):Int):=(by rw[wrap64 (by omega) (by omega)];omega);simp only[h3,Za5 h0,H4 rQ,Zg6,Z7];cases hb:aB g.tg[k - 1] g.tg[k]
          .simp[mF,h,hn,h3,hk,rQ,wk,hp,hb]
          .simp only[Zg6];rw[<-this];simp[mF,h,hn,h3,hk,rQ,wk,hp,hb,w]
    .   simp[mF,h,hn,h3]
  .obtain rfl:k=g.tg.length:=(by omega);simp[CJ]
theorem MY(hc:Sem c)(g:aN)(st:St)(hw:Wf st):c 192 [.agg g.cells] st=some (.int .i64 (fR g),st):=by
 rw[LG hc 6 (r:=(.int .i64 (fR g),af st (.cells g.cells 0))),aL (Plain.int _ _) (cC hw)];rw[O0];have n0:=xT hc g.name;have n1:=xU hc g.xV;have n2:=xU hc g.sK;have n5:=xU hc g.m8;by_cases hn:(jG g.name&&qV g.xV&&qV g.sK&&qV g.m8)=true
 . have XL:=hn;simp only[Za8]at XL;obtain⟨⟨⟨b0,b1⟩,b2⟩,b5⟩:=XL;unfold fR;rw[hn];by_cases h1:g.since<0
   .have:¬(0<=g.since/\g.since<=9999):=(by omega);simp[n0,n1,n2,n5,b0,b1,b2,b5,h1,this]
   by_cases h2:9999<g.since
   .have:¬(0<=g.since/\g.since<=9999):=(by omega);simp[n0,n1,n2,n5,b0,b1,b2,b5,h1,h2,this]
   have h3:0<=g.since/\g.since<=9999:=(by omega);by_cases h4:g.side<0
   .have:¬(0<=g.side/\g.side<=2):=(by omega);simp[n0,n1,n2,n5,b0,b1,b2,b5,h1,h2,h3,h4,this]
   by_cases h5:2<g.side
   .have:¬(0<=g.side/\g.side<=2):=(by omega);simp[n0,n1,n2,n5,b0,b1,b2,b5,h1,h2,h3,h4,h5,this]
   have h6:0<=g.side/\g.side<=2:=(by omega);by_cases h7:4<g.tg.length
   .have h8:(4:Int)<g.tg.length:=(by omega);simp[n0,n1,n2,n5,b0,b1,b2,b5,h1,h2,h3,h4,h5,h6,h7,h8]
   . have h8:¬(4:Int)<g.tg.length:=(by omega);have L:∀k1 k3,kC c 6 k1 k3 6 [.ptr st.next 0,mF g.tz g.tg,.int .i64 (g.tg.length:Int),.int .i64 0] (af st (.cells g.cells 0))=if CJ none (g.tg.drop 0)=true then k3 [] (af st (.cells g.cells 0))else k1 [.int .i64 22] (af st (.cells g.cells 0)):=
        λk1 k3=>JW hc st.next g (by omega) 6 _ (aD _ _) k1 k3 5 0 (by omega) (by omega)
     rw[Ze4]at L;generalize CJ none g.tg=b at L ⊢;cases b<;>simp[n0,n1,n2,n5,b0,b1,b2,b5,h1,h2,h3,h4,h5,h6,h7,h8,L]
 . have Qh:(jG g.name&&qV g.xV&&qV g.sK&&qV g.m8)=false:=(by simpa using hn);have hx:fR g=4:=(by unfold fR;rw[Qh];simp);rw[hx];cases b0:jG g.name
   .simp[n0,b0]
   . cases b1:qV g.xV
     .  simp[n0,n1,b0,b1]
     .  cases b2:qV g.sK
        .simp[n0,n1,n2,b0,b1,b2]
        . cases b5:qV g.m8
          .simp[n0,n1,n2,n5,b0,b1,b2,b5]
          .simp[b0,b1,b2,b5]at hn
structure Ty where
 a:List Nat
 b:List Nat
 k:Int
def Ty.cells(t:Ty):List AV:=[.str t.a,.str t.b,.int .u8 t.k]
@[simp] theorem Ty.c0(t:Ty):t.cells[0]? =some (.str t.a):=id rfl
@[simp] theorem Ty.c1(t:Ty):t.cells[1]? =some (.str t.b):=id rfl
@[simp] theorem Ty.c2(t:Ty):t.cells[2]? =some (.int .u8 t.k):=id rfl
@[simp] theorem Ty.cc(t:Ty):cut t.cells 0 3=some t.cells:=bQ rfl
theorem Ty.len(t:Ty):t.cells.length=3:=id rfl
@[simp] theorem Ty.one(t:Ty):aO t.cells=true:=id rfl
@[simp] theorem acz{R:Type}(c:ai)(K:AV->St->Option R)(st:St)(t:Ty)(x y z:AV):ak c (.store 3) [.ptr st.next 0,.agg t.cells] (af st (.cells [x,y,z] 0)) K=K .undef (af st (.cells t.cells 0)):=dQ c K st 3 (.agg t.cells) [x,y,z] rfl rfl t.one
def jR(z:Bool)(ts:List Ty):AV:=ro 3 z (ts.map Ty.cells)
@[simp] theorem Z9{R:Type}(c:ai)(K:AV->St->Option R)(st:St)(z:Bool)(l:List Ty):ak c (.lenB .l) [jR z l] st K=K (.int .i64 (l.length:Int)) st:=by unfold jR;rw[jZ];simp
def jH(gs:List aN)(s:List Nat)(i:Nat):Bool:=decide (gs[i]?.map aN.name=some s)
def eF(s t:Ty):Bool:=aB s.a t.a||(decide (s.a=t.a)&&aB s.b t.b)
def uL(a b:List Nat):Int:=if aB a b=true then -1 else if aB b a=true then 1 else 0
theorem acd(hc:Sem c)(a b:List Nat)(st:St):c 238 [.str a,.str b] st=some (.int .i64 (uL a b),st):=by unfold Sem at hc;subst hc;refine KU (s:=Fz) (by rfl) ?_;show some (AV.int .i64 (match aB a b with|true=>.negSucc 0|false=>match aB b a with|true=>.ofNat 1|false=>.ofNat 0),st)=_;unfold uL;generalize aB a b=p;generalize aB b a=q;cases p<;>cases q<;>rfl
theorem JX(hc:Sem c)(a b:List Nat)(st:St):c 223 [.str a,.str b] st=some (.int .i64 (uL a b),st):=by
 rw[yW hc 1 (r:=(.int .i64 (uL a b),st)),aL (Plain.int _ _) (bD.refl st)];rw[AK];simp[acd hc]
theorem LH(hc:Sem c)(a b:List Nat)(st:St):c 194 [.str a,.str b] st=some (.int .i64 (uL a b),st):=by
 rw[Fp hc 1 (r:=(.int .i64 (uL a b),st)),aL (Plain.int _ _) (bD.refl st)];rw[Ih];simp[JX hc]
theorem TQ{a b:List Nat}:uL a b=0↔a=b:=by
 unfold uL;cases h1:aB a b
 . cases h2:aB b a
   .simp;exact yV _ _ h1 h2
   .simp;intro e;subst e;rw[wC]at h2;cases h2
 .simp;intro e;subst e;rw[wC]at h1;cases h1
def m9(s t:Ty):Int:=if s.a=t.a then uL s.b t.b else uL s.a t.a
theorem zW(hc:Sem c)(s t:Ty)(st:St)(hw:Wf st):c 174 [.agg s.cells,.agg t.cells] st=some (.int .i64 (m9 s t),st):=by
 rw[LJ hc 1 (r:=(.int .i64 (m9 s t),af (af st (.cells s.cells 0)) (.cells t.cells 0))),aL (Plain.int _ _) ((cC hw).trans (cC (bR hw)))];rw[O3];by_cases h:s.a=t.a
 .have:uL t.a t.a=0:=TQ.2 rfl;simp[m9,LH hc,h,this]
 . have:¬uL s.a t.a=0:=λe=>h (TQ.1 e)
   simp[m9,LH hc,h,this]
theorem MZ{s t:Ty}:m9 s t<0↔eF s t=true:=by
 unfold m9 eF uL;by_cases h:s.a=t.a
 .simp only[h,wC,Zg8];cases aB s.b t.b<;>cases aB t.b s.b<;>simp
 .simp only[h,Zh4];cases aB s.a t.a<;>cases aB t.a s.a<;>simp
theorem H6{s t:Ty}:0<m9 s t↔eF t s=true:=by
 unfold m9 eF uL;by_cases h:s.a=t.a
 . simp only[h,wC,Zg8];cases h1:aB s.b t.b
   .cases aB t.b s.b<;>simp
   .simp[GJ _ _ h1]
 . have h':¬t.a=s.a:=λe=>h e.symm
   simp only[h,h',Zh4];cases h1:aB s.a t.a
   .cases aB t.a s.a<;>simp
   .simp[GJ _ _ h1]
theorem TR(hc:Sem c)(a b:List Nat)(k:Int)(aV:aB a b=true)(st:St)(hw:Wf st):c 197 [.str a,.str b,.int .u8 k] st=some (.agg (Ty.cells ⟨a,b,k⟩),st):=by
 rw[M7 hc 1 (r:=(.agg (Ty.cells ⟨a,b,k⟩),af st (.cells (Ty.cells ⟨a,b,k⟩) 0))),aL (Plain.agg (by simp[Ty.cells,Plain.str,Plain.int])) (cC hw)];rw[RE];have m1:∀(K:AV->St->Option (AV×St))(s:St),ak c .minB [.str a,.str b] s K=K (.str a) s:=λK s=>aS c K (λH n=>by simp[av.run,yY,aV]) s
 have m2:∀(K:AV->St->Option (AV×St))(s:St),ak c .maxB [.str a,.str b] s K=K (.str b) s:=λK s=>aS c K (λH n=>by simp[av.run,yZ,aV]) s
 simp[m1,m2,bW,aG,eW,AV.cells,aO,AV.one,bQ,Ty.cells]
def jM(gs:List aN):Nat->Nat->Int×Int
 |0,_=>(0,0)
 |  m+1,k=>match gs[k]? with
    |none=>(0,0)
    |some g=>if fR g≠0 then((k:Int),fR g)else if 0<=scan (jH gs g.name) k 0 then((k:Int),5)else if 64<=k then((k:Int),7)else jM gs m (k+1)
def j0(ts:List Ty)(k:Nat):Option Ty:=if k=0 then none else ts[k - 1]?
def IX(t:Ty):Bool:=decide (t.k=1)||decide (t.k=2)
def Pq(t:Ty)(p:Option Ty):Bool:= !IX t|| !aB t.a t.b||(match p with|none=>false|some p=>eF t p)
def oa(t:Ty)(p:Option Ty):Bool:=match p with|none=>false|some p=> !eF p t
def kV(gs:List aN)(t:Ty):Bool:=decide (scan (jH gs t.a) gs.length 0<0)||decide (scan (jH gs t.b) gs.length 0<0)
def fS(gs:List aN)(ts:List Ty):Nat->Nat->Int×Int
 |0,_=>(0,0)
 |  m+1,k=>match ts[k]? with
    |none=>(0,0)
    |some t=>if Pq t (j0 ts k)=true then((gs.length:Int)+k,23)else if kV gs t=true then((gs.length:Int)+k,6)
     else if oa t (j0 ts k)=true then((gs.length:Int)+k,5)else if 256<=k then((gs.length:Int)+k,7)else fS gs ts m (k+1)
def cH(gs:List aN)(ts:List Ty):Int×Int:=if(jM gs 101 0).2≠0 then jM gs 101 0 else fS gs ts 101 0
theorem aaa{gs:List aN}{s:List Nat}{k:Nat}(hk:k<=gs.length):scan (jH (gs.take k) s) k 0=scan (jH gs s) k 0:=
 Lz k 0 λi _ hi=>by simp[jH,Zb8,show i<k by omega]
theorem LM (gs:List aN)(ts:List Ty):∀(m k:Nat),(fS gs ts m k).2=0->(fS gs ts m k).1=0
 |0,_,_=>rfl
 |m +   1,k , h=>by
  rw[fS]at h ⊢;split at h
  .rfl
  . split   at h
    .   simp at h
    .   split at h
        .simp at h
        . split at h
          .simp at h
          . split at h
            .simp at h
            .rename_i h1 h2 h3 h4;rw[Za5 h1,Za5 h2,Za5 h3,Za5 h4];exact LM gs ts m (k+1) h
abbrev D8(s:List Nat):List AV:=[.str s]
theorem aab(l:List (List Nat)):∀r∈l.map D8,r.length=1:=λr hr=>by simp only[Zf3]at hr;obtain⟨m,_,rfl⟩:=hr;rfl
theorem aac{s:St}(z:Bool)(l:List (List Nat)):Src 1 s (mF z l) (l.map D8):=Src.ro z _
theorem XM(hc:Sem c){src:AV}(l:List (List Nat))(hl:l.length<=1000)(s:St)(hw:Wf s)(h:Src 1 s src (l.map D8)):∃v s',c 222 [src] s=some (v,s')/\Mk 1 s s' v (l.map D8):=by
 rcases h.nil with⟨rfl,h0⟩|hn
 . (refine⟨.ah,s,?_,by rw[h0];exact Mk.start hw (Grew.refl hw)⟩;rw[lY hc 1 (r:=(.ah,s)),aL Plain.ah (bD.refl s)];rw[nc];have e:∀(K:AV->St->Option (AV×St))(s:St),ak c (.bin .eql .slice) [.ah,.ah] s K=K (.bool true) s:=λK s=>aS c K (λH n=>rfl) s);simp[e]
 .obtain⟨v,s',a1,a2⟩:=N7 (c:=c) (R:=AV×St) (bytes:=16) (z:=[.str []]) (aab l) (by decide) (by simp;omega) (by simp;omega) s hw h;obtain⟨gY,t1,t2⟩:=a2.tidy;refine⟨v,gY,?_,t2⟩;rw[lY hc 1 (r:=(v,s')),t1];rw[nc];simp only[aE,hn,jW];rw[a1]
def aN.az(g:aN)(v:AV):List AV:=[.str g.name,.str g.xV,.str g.sK,.int .i64 g.since,.int .i64 g.side,.str g.m8,.bool g.host,.bool g.access,v]
theorem aN.XN(g:aN):g.az (mF g.tz g.tg)=g.cells:=rfl
theorem aN.M8(t:aN){v:AV}(h:aO [v]=true):aO (t.az v)=true:=by
 simp only[aO]at h;unfold aN.az;simp only[aO,AV.one,h,Zi6,Zj9]at*
structure aN.Low(g:aN):Prop where
 name:∀x∈g.name,x<256
 xV:∀x∈g.xV,x<256
 sK:∀x∈g.sK,x<256
 m8:∀x∈g.m8,x<256
theorem XP(hc:Sem c)(g:aN)(hg:g.Low)(hl:g.tg.length<=1000){src:AV}(s:St)(hw:Wf s)(h:Src 1 s src (g.tg.map D8))(h1:src.cells=[src])(h2:src.one=true):
  ∃v s',c 193 [.agg (g.az src)] s=some (.agg (g.az v),s')/\Mk 1 s s' v (g.tg.map D8):=by
 let zero:List AV:=[.str [],.str [],.str [],.int .i64 0,.int .i64 0,.str [],.bool false,.bool false,.ah]
 have mT:Wf (af (af s (.cells (g.az src) 0)) (.cells zero 0)):=bR (bR hw);have xq:=(Grew.af hw (.cells (g.az src) 0)).trans (Grew.af (bR hw) (.cells zero 0));obtain⟨v,s3,h3,M⟩:=XM hc g.tg hl _ mT (h.aA xq);have M0:=M.back hw xq;have hx:s3.heap.get s.next=some (.cells (g.az src) 0):=M.aA.get uz;have hy:s3.heap.get (af s (.cells (g.az src) 0)).next=some (.cells zero 0):=M.aA.get (aD _ _);obtain⟨hvc,hvo⟩:=M.cells;have cj:s.next≠(af s (.cells (g.az src) 0)).next:=Pos.Mi _;have U1:s.next.toNat<s3.next.toNat:=by have:=M.aA.next;rw[c9,c9,Pos.ax,Pos.ax]at this;omega
 have Zu:(af s (.cells (g.az src) 0)).next.toNat<s3.next.toNat:=by have:=M.aA.next;rw[c9,Pos.ax]at this;omega
 have vo:v.one=true:=qa hvo;have yf:aG (g.az src) 8 [v]=g.az v:=rfl;have NH:aO (g.az v)=true:=g.M8 hvo;have hro0:aO (g.az src)=true:=g.M8 (by simp only[aO,h2]);have new:∀b,aZ v=some b->(af s (.cells (g.az src) 0)).next.toNat<b.toNat:=λb hb=>by have:=M.new b hb;rw[c9,Pos.ax]at this;omega
 have FU:s.next.toNat<(af s (.cells (g.az src) 0)).next.toNat:=by rw[c9,Pos.ax];omega
 let s4:=cm s3 s.next (.cells (g.az v) 0)
 let s5:=cm s4 (af s (.cells (g.az src) 0)).next (.cells (g.az v) 0)
 have hx4:s4.heap.get s.next=some (.cells (g.az v) 0):=dF _ _ _;have hy4:s4.heap.get (af s (.cells (g.az src) 0)).next=some (.cells zero 0):=by show(cm s3 s.next (.cells (g.az v) 0)).heap.get _=_;rw[br cj];exact hy
 have hy5:s5.heap.get (af s (.cells (g.az src) 0)).next=some (.cells (g.az v) 0):=dF _ _ _;have M4:Mk 1 s s4 v (g.tg.map D8):=M0.store (Za4 _) U1 (λe=>by have:=new _ e;omega);have M5:Mk 1 s s5 v (g.tg.map D8):=M4.store (by omega) Zu (λe=>by have:=new _ e;omega);have hi:∀u∈g.az v,gy u:=λu hu=>by
  simp only[aN.az,Za9,Ze5,Zi9]at hu;rcases hu with rfl|rfl|rfl|rfl|rfl|rfl|rfl|rfl|rfl
  .exact gy.str hg.name
  .exact gy.str hg.xV
  .exact gy.str hg.sK
  .exact gy.int _ _
  .exact gy.int _ _
  .exact gy.str hg.m8
  .exact gy.bool _
  .exact gy.bool _
  .exact M.inst
 obtain⟨gY,t1,_,t2⟩:=M5.DV (l:=g.az v) (by simp[aN.az]) hi;refine⟨v,gY,?_,t2⟩;rw[JY hc 1 (r:=(.agg (g.az v),s5)),t1];rw[M9];have aK:=λ(K:AV->St->Option (AV×St))=>dG c K s3 1 s.next 8 v (g.az src) hx (by rw[hvc];rfl) (by simp[aN.az]) (by rw[hvc];exact hvo)
 rw[hvc,yf]at aK;have ji:=λ(K:AV->St->Option (AV×St))=>dG c K s4 9 (af s (.cells (g.az src) 0)).next 0 (.agg (g.az v)) _ hy4 rfl (by simp[zero,aN.az]) NH
 have hsp2:aG zero 0 (AV.agg (g.az v)).cells=g.az v:=rfl;rw[hsp2]at ji;have hcut:cut (g.az v) 0 9=some (g.az v):=bQ rfl;have g8:(g.az src)[8]? =some src:=rfl;have st2':∀(K:AV->St->Option (AV×St)),ak c (.store 9) [.ptr (af s (.cells (g.az src) 0)).next 0,.agg (g.az v)] (cm s3 s.next (.cells (g.az v) 0)) K=K .undef s5:=λK=>ji K
 have bx:∀(K:AV->St->Option (AV×St)),ak c .box [.agg (g.az src)] s K=K (.ptr s.next 0) (af s (.cells (g.az src) 0)):=λK=>by rw[oW];rfl
 simp[bx,h3,g8,zero,aK,hcut];rw[st2'];simp only[hy5,bf,Zd1,hcut,p7]
theorem O4(b:Pos)(off:Nat):¬Plain (.ptr b off):=λh=>by
 have:=h (λ_=>⟨0,0,0⟩) (λ_=>⟨0,0,0⟩) (b.toNat+1) 0 (λ_=>none) _ (.ptr b off (by omega));cases this with
 |ptr _ _ h=>omega
theorem aad{s s':St}{b:Pos}{off:Nat}:tidy s (.ptr b off,s')=(.ptr b off,s'):=by unfold tidy;rw[Za5];exact λh=>O4 _ _ h.1
theorem ace(hc:Sem c)(s:St):c 172 [] s=some (.ptr (af s (.map [] 0)).next 0,af (af s (.map [] 0)) (.cells [.ah,.ah,.map s.next] 0)):=by
 rw[O5 hc 1 (r:=(.ptr (af s (.map [] 0)).next 0,af (af s (.map [] 0)) (.cells [.ah,.ah,.map s.next] 0))),aad];rw[SA];simp[bW,aG,eW,AV.cells]
def ju(k:Option Pos)(n es:Nat):AV:=match k with
 |none=>.ah
 |some b=>.slice b 0 n none es
theorem D9{k:Option Pos}{n es:Nat}(h:k=none->n=0):∀H p,av.run H p (.lenB .l) [ju k n es]=some (.val (.int .i64 (n:Int))):=λH p=>by
 cases k with
 |none=>rw[h rfl];rfl
 |some b=>rfl
def Vh(s0 s:St)(bp:Pos)(gk tk:Option Pos)(g:aN)(row:List AV):Prop:=g.Low/\g.tg.length<=4/\∃v,row=g.az v/\v.cells=[v]/\v.one=true/\QS 1 s v (g.tg.map D8)/\∀p,aZ v=some p->p≠bp/\gk≠some p/\tk≠some p/\s0.heap.get p=none
theorem XQ{es:Nat}{s:St}{v:AV}{rows:List (List AV)}(h:QS es s v rows){b:Pos}(hb:aZ v=some b):∃cs,s.heap.get b=some (.cells cs 0):=by
 rcases h with⟨rfl,rfl⟩|⟨b',off,cap,cs,rfl,h1,_⟩|⟨b',off,rfl,rfl⟩
 .cases hb
 .obtain rfl:=N4 hb;exact⟨cs,h1⟩
 .rw[iX]at hb;cases hb
theorem Vh.to{s0 s s':St}{bp:Pos}{gk tk EY mY:Option Pos}{g:aN}{row:List AV}(h:Vh s0 s bp gk tk g row)
   (hk:∀p cs,p≠bp->gk≠some p->tk≠some p->s.heap.get p=some (.cells cs 0)->s'.heap.get p=some (.cells cs 0)/\EY≠some p/\mY≠some p):Vh s0 s' bp EY mY g row:=by
 obtain⟨h1,h2,v,h3,h4,h5,h6,h7⟩:=h;refine⟨h1,h2,v,h3,h4,h5,h6.mono λb x hb hx=> ?_,λp hp=> ?_⟩
 .obtain⟨cs,h8⟩:=XQ h6 hb;rw[h8]at hx;cases hx;obtain⟨a1,a2,a3,_⟩:=h7 b hb;exact(hk b cs a1 a2 a3 h8).1
 .obtain⟨cs,h8⟩:=XQ h6 hp;obtain⟨a1,a2,a3,a4⟩:=h7 p hp;exact⟨a1,(hk p cs a1 a2 a3 h8).2.1,(hk p cs a1 a2 a3 h8).2.2,a4⟩
structure fe(s0 s:St)(bp mp:Pos)(gs:List aN)(ts:List Ty)(gk tk:Option Pos):Prop where
 wf:Wf s
 keeps:bD s0 s
 next:s0.next.toNat<=s.next.toNat
 book:s.heap.get bp=some (.cells [ju gk gs.length 9,ju tk ts.length 3,.map mp] 0)
 zX:∃es cl,s.heap.get mp=some (.map es cl)/\es.map (·.1)=gs.map λg=>.str g.name
 pP:(gk=none->gs=[])/\∀b,gk=some b->∃cs,s.heap.get b=some (.cells cs 0)/\cs.length=gs.length*9
 xF:(tk=none->ts=[])/\∀b,tk=some b->s.heap.get b=some (.cells (ts.flatMap Ty.cells) 0)
 dg:gk≠some bp
 dt:tk≠some bp
 Ou:∀b,gk=some b->tk≠some b
 fb:s0.heap.get bp=none
 fm:s0.heap.get mp=none
 fg:∀b,gk=some b->s0.heap.get b=none
 ft:∀b,tk=some b->s0.heap.get b=none
 JZ:∀es cl,s.heap.get mp=some (.map es cl)->∀e∈es,∃i:Nat,e.2.1= .int .i64 (i:Int)/\i<gs.length
 J0:∀es cl,s.heap.get mp=some (.map es cl)->es.map (λe=>e.2.1)=(List.range gs.length).map λ(i:Nat)=>AV.int .i64 (i:Int)
 rows:∀b cs,gk=some b->s.heap.get b=some (.cells cs 0)->∀(i:Nat)(g:aN),gs[i]? =some g->Vh s0 s bp gk tk g ((cs.drop (i*9)).take 9)
theorem fe.lt{s0 s:St}{bp mp:Pos}{gs:List aN}{ts:List Ty}{gk tk:Option Pos}(h:fe s0 s bp mp gs ts gk tk):bp.toNat<s.next.toNat/\mp.toNat<s.next.toNat:=by
 obtain⟨es,cl,h1,_⟩:=h.zX;exact⟨h.wf _ _ h.book,h.wf _ _ h1⟩
theorem fe.aA{s0 s s':St}{bp mp:Pos}{gs:List aN}{ts:List Ty}{gk tk:Option Pos}(h:fe s0 s bp mp gs ts gk tk)(g:Grew s s'):fe s0 s' bp mp gs ts gk tk where
 wf:=g.wf
 keeps:=h.keeps.trans g.keeps
 next:=Zc7 h.next g.next
 book:=g.get h.book
 zX:=let⟨es,cl,h1,h2⟩:=h.zX;⟨es,cl,g.get h1,h2⟩
 pP:=⟨h.pP.1,λb hb=>let⟨cs,h1,h2⟩:=h.pP.2 b hb;⟨cs,g.get h1,h2⟩⟩
 xF:=⟨h.xF.1,λb hb=>g.get (h.xF.2 b hb)⟩
 dg:=h.dg
 dt:=h.dt
 Ou:=h.Ou
 fb:=h.fb
 fm:=h.fm
 fg:=h.fg
 ft:=h.ft
 JZ:=λes cl hm=>by obtain⟨WJ,cl0,h1,h2⟩:=h.zX;have:=g.get h1;rw[hm]at this;cases this;exact h.JZ _ _ h1
 J0:=λes cl hm=>by obtain⟨WJ,cl0,h1,h2⟩:=h.zX;have:=g.get h1;rw[hm]at this;cases this;exact h.J0 _ _ h1
 rows:=λb cs hb hs i u hu=>by
  obtain⟨RF,h1,h2⟩:=h.pP.2 b hb;have:=g.get h1;rw[hs]at this;cases this;exact(h.rows b _ hb h1 i u hu).to λp cs _ a2 a3 hx=>⟨g.get hx,a2,a3⟩
theorem fe.start{s:St}(hw:Wf s):fe s (af (af s (.map [] 0)) (.cells [.ah,.ah,.map s.next] 0)) (af s (.map [] 0)).next s.next [] [] none none where
 wf:=bR (bR hw)
 keeps:=(cC hw).trans (cC (bR hw))
 next:=by simp only[c9,Pos.ax];omega
 book:=aD _ _
 zX:=⟨[],0,uz,rfl⟩
 pP:=⟨λ_=>rfl,λb h=>by cases h⟩
 xF:=⟨λ_=>rfl,λb h=>by cases h⟩
 dg:=λh=>by cases h
 dt:=λh=>by cases h
 Ou:=λb h=>by cases h
 fb:=by
  cases h:s.heap.get (af s (.map [] 0)).next with
  |none=>rfl
  |some x=>have:=hw _ _ h;rw[c9,Pos.ax]at this;omega
 fm:=by
  cases h:s.heap.get s.next with
  |none=>rfl
  |some x=>have:=hw _ _ h;omega
 fg:=λb h=>by cases h
 ft:=λb h=>by cases h
 JZ:=λes cl hm e he=>by have:(af (af s (.map [] 0)) (.cells [.ah,.ah,.map s.next] 0)).heap.get s.next=some (.map [] 0):=uz;rw[hm]at this;cases this;cases he
 J0:=λes cl hm=>by have:(af (af s (.map [] 0)) (.cells [.ah,.ah,.map s.next] 0)).heap.get s.next=some (.map [] 0):=uz;rw[hm]at this;cases this;rfl
 rows:=λb cs h=>by cases h
theorem BR(s:List Nat):∀(gs:List aN)(es:List (AV×AV×Nat))(i:Nat),es.map (·.1)=gs.map (λg=>.str g.name)->
  (s∈gs.map aN.name/\∃j v,iE .s (.str s) es i=some (some (j,v)))\/(s∉gs.map aN.name/\iE .s (.str s) es i=some none)
 |[],es,i,h=>by
  have:es=[]:=by simpa using h
  subst this;exact .inr ⟨by simp,rfl⟩
 |g::gs,[],i,h=>by simp at h
 |g ::gs,(k,v,n)::es,i,h=>by
  simp only[Zd4,Zf4]at h;obtain⟨h1,h2⟩:=h;subst h1;by_cases e:s=g.name
  .subst e;exact .inl ⟨by simp,i,v,by simp[iE,vQ,fq]⟩
  . rcases BR s gs es (i+1) h2 with⟨a,b⟩|⟨a,b⟩
    .   left;refine⟨by simp at a ⊢; exact .inr a,?_⟩;simpa [iE,vQ,fq,e]using b
    .   right;refine⟨by simp at a ⊢; exact⟨e,a⟩,?_⟩;simpa [iE,vQ,fq,e]using b
theorem Ec{gs:List aN}{s:List Nat}:0<=scan (jH gs s) gs.length 0↔s∈gs.map aN.name:=by
 constructor
 .intro h;obtain⟨_,h2,h3⟩:=wA _ _ h;simp only[jH,Ze1]at h3;rw[H4 (by omega)]at h3;simp only[Ze2,H0]at h3;rw[<-h3];exact Zf3.2 ⟨_,Zb9 _,rfl⟩
 . intro  h;obtain⟨g,hg,rfl⟩:=Zf3.1 h;obtain⟨i,hi,rfl⟩:=Zk7.1 hg;have key:∀(m k:Nat),k<=i->i<k+m->0<=scan (jH gs gs[i].name) m k:=by
    intro m;induction m with
    |zero=>intro k h1 h2;omega
    |   succ m ih=>
        intro k h1 h2;unfold scan;split
        .omega
        . rename_i cj;by_cases e:k=i
          .subst e;simp[jH,hi]at cj
          .exact ih (k+1) (by omega) (by omega)
   exact key _ _ (by omega) (by omega)
theorem TU(hc:Sem c)(s:St)(bp mp:Pos)(x y:AV)(h:s.heap.get bp=some (.cells [x,y,.map mp] 0)):c 191 [.ptr bp 0] s=some (.bool false,s):=by
 rw[Fq hc 1 (r:=(.bool false,s)),aL (Plain.bool _) (bD.refl s)];rw[Ii];have e1:∀(K:AV->St->Option (AV×St))(s:St),ak c (.bin .eql .ptr) [.ptr bp 0,.gH] s K=K (.bool false) s:=λK s=>aS c K (λH n=>rfl) s
 have e2:∀(K:AV->St->Option (AV×St))(s:St),ak c (.bin .eql .map) [.map mp,.mR] s K=K (.bool false) s:=λK s=>aS c K (λH n=>rfl) s
 simp[e1,e2,h]
theorem Vi(z:Bool)(l:List (List Nat)):(mF z l).cells=[mF z l]:=by unfold mF ro;split<;>rfl
theorem aae(z:Bool)(l:List (List Nat)):(mF z l).one=true:=by unfold mF ro;split<;>rfl
theorem TV{s:List Nat}(h:jG s=true):∀x∈s,x<256:=λx hx=>by simp only[jG,Za8,Zc9,Ze1]at h;have:=h.2 x hx;omega
theorem Na{s:List Nat}(h:qV s=true):∀x∈s,x<256:=λx hx=>by
 simp only[qV,Zh9,Ze1]at h;rcases h with h|h
 .rw[h]at hx;cases hx
 .exact TV h x hx
theorem Ov{g:aN}(h:fR g=0):g.Low:=by
 unfold fR at h;split at h
 .simp at h
 .rename_i hn;simp only[Bool.not_eq_false,Za8]at hn;exact⟨TV hn.1.1.1,Na hn.1.1.2,Na hn.1.2,Na hn.2⟩
theorem TW{s:St}(hw:Wf s){k:Option Pos}{n es bytes:Nat}{q:Pos}{row:List AV}(hk:k=none->n=0)(e9:∀b,k=some b->∃cs,s.heap.get b=some (.cells cs 0)/\cs.length=n*es)(hq:s.heap.get q=some (.cells row 0))(hr:row.length=es)
  (h1:aO row=true) (cW:es≠0) (hb:(2*(n+1)+768)*bytes<=281474976710656) (hn:n<=1000):
  ∃ s5 kz,(∀(K:AV->St->Option (AV×St)),ak c (.append es bytes) [ju k n es,.slice q 0 1 (some 1) es] s K=K (.slice s.next 0 (n+1) none es) s5)/\s5.heap.get s.next=some (.cells kz 0)/\kz.length=(n+1)*es/\
    (∀b cs,k=some b->s.heap.get b=some (.cells cs 0)->kz=cs++row)/\(k=none->kz=row)/\s5.next=s.next.succ/\Wf s5/\∀p,k≠some p->p.toNat<s.next.toNat->s5.heap.get p=s.heap.get p:=by
 have hx:bV es 1 (λb=>s.heap.get b) (.slice q 0 1 (some 1) es)=some row:=by simp only[bV,eo,Zm8,Za2 cW,hq];exact bQ hr
 cases k with
 |none=>
  obtain rfl:=hk rfl;refine⟨af s (.cells row 0),row,λK=>QH c K (m:=1) rfl (by omega) (by omega) (by omega) hx,aD _ _,by omega,λb cs h=>(by cases h),λ_=>rfl,rfl,bR hw,λp _ hp=>oV hp⟩
 |some b=>
  obtain⟨cs,h2,h3⟩:=e9 b rfl;have ho:bV es n (λb=>s.heap.get b) (.slice b 0 n none es)=some cs:=by
    by_cases h0:n=0
    .   subst h0;have:cs=[]:=Zb0 (by omega);subst this;simp[bV,eo]
    .   have:¬n*es=0:=λe=>by rcases Nat.mul_eq_zero.1 e with e|e<;>omega
        simp only[bV,eo,Za2 this,h2];exact bQ h3
  refine⟨dst s b (.cells (cs++row) 0),cs++row,λK=>abi c K (m:=1) rfl (by omega) hb (by omega) h2 ho hx h1,Mj _ _ _,?_,λb' cs2 e h=> ?_,λh=>(by cases h),rfl,WW hw,λp hp hl=>KZ (λe=>hp (by rw[e])) hl⟩
  .rw[Ze0,h3,hr,Zi2,Zm8]
  .cases e;rw[h2]at h;cases h;rfl
def ql(gs:List aN)(g:aN):Int:=if fR g≠0 then fR g else if 0<=scan (jH gs g.name) gs.length 0 then 5 else if gs.length=64 then 7 else 0
theorem acf (hc : Sem c){s0 s:St}{bp mp:Pos}{gs:List aN}{ts:List Ty}{gk tk:Option Pos}(CL:Wf s0)(B:fe s0 s bp mp gs ts gk tk)(hl:gs.length<=64)(g:aN):
   ∃s',c 173 [.ptr bp 0,.agg g.cells] s=some (.int .i64 (ql gs g),s')/\(ql gs g≠0->s'=s)/\(ql gs g=0->∃EY,fe s0 s' bp mp (gs++[g]) ts EY tk):=by
 have dI:Wf (af s (.cells g.cells 0)):=bR B.wf;have B1:=B.aA (Grew.af B.wf (.cells g.cells 0));generalize Ln:af s (.cells g.cells 0)=s1 at dI B1;have TX:s1.heap.get s.next=some (.cells g.cells 0):=by rw[<-Ln];exact aD _ _
 have j6:=TU hc s1 bp mp _ _ B1.book;have hch:=MY hc g s1 dI;have lG:∀(K:AV->St->Option (AV×St))(s:St),ak c (.lenB .l) [ju gk gs.length 9] s K=K (.int .i64 (gs.length:Int)) s:=λK s=>aS c K (D9 λh=>by rw[B.pP.1 h];rfl) s
 have lG2:∀(K:AV->Option (AV×St)),ey (.lenB .l) [ju gk gs.length 9] K=K (.int .i64 (gs.length:Int)):=λK=>cV K (D9 λh=>by rw[B.pP.1 h];rfl)
 obtain⟨es,cl,iN,hm2⟩:=B1.zX;have fail:∀e:Int,e≠0->ql gs g=e->qK c 1 (.ptr bp 0) (.agg g.cells) s=some (.int .i64 e,s1)->∃s',c 173 [.ptr bp 0,.agg g.cells] s=some (.int .i64 (ql gs g),s')/\(ql gs g≠0->s'=s)/\(ql gs g=0->∃EY,fe s0 s' bp mp (gs++[g]) ts EY tk):=λe he ha h=>by
   refine⟨s,?_,λ_=>rfl,λh0=>absurd (ha.symm.trans h0) he⟩;rw[xG hc 1 h,ha,aL (Plain.int _ _) (by rw[<-Ln];exact cC B.wf)]
 have eb:∀(K:AV->St->Option (AV×St)),ak c .box [.agg g.cells] s K=K (.ptr s.next 0) s1:=λK=>by rw[oW, <-Ln];rfl
 have h64:((gs.length:Int)=64)↔gs.length=64:=by omega
 by_cases h1:fR g=0
 . rcases BR  g.name gs es 0 hm2 with⟨pI,j,v,hf⟩|⟨pI,hf⟩
   . have hsc:=Ec.2 pI;refine fail 5 (by omega) (by simp[ql,h1,hsc]) ?_;rw[ob];have lk:=λ(K:AV->Option (AV×St))=>NX K (.int .i64 0) (h:=s1.heap) (k:= .str g.name) iN hf
     simp[eb,j6,hch,h1,TX,B1.book,lk]
   . have hsc: ¬0<=scan (jH gs g.name) gs.length 0:=λh=>pI (Ec.1 h)
     have lk:=λ(K:AV->Option (AV×St))=>NX K (.int .i64 0) (h:=s1.heap) (k:= .str g.name) iN hf
     by_cases h2:gs.length=64
     .  have h2d:decide ((gs.length:Int)=64)=true:=H5 (by omega);refine fail 7 (by omega) (by unfold ql;rw[Za5 (by simp[h1]),Za5 hsc,Za7 h2]) ?_;rw[ob];simp[eb,j6,hch,h1,TX,B1.book,lk,lG,h2d]
     .  have htg:g.tg.length<=4:=by
          unfold fR at h1;split at h1
          .simp at h1
          . split at h1
            .simp at h1
            . split at h1
              .simp at h1
              . split at h1
                .simp at h1
                .omega
        have he:ql gs g=0:=(by unfold ql;rw[Za5 (by simp[h1]),Za5 hsc,Za5 h2]);have h2d:decide ((gs.length:Int)=64)=false:=Za2 (by omega);have lt1:=B1.lt;have qP:s.next.toNat<s1.next.toNat:=(by rw[<-Ln,c9,Pos.ax];omega);have Ow:mp≠bp:=λe=>by rw[e,B1.book]at iN;cases iN
        have nmp:mp≠s.next:=λe=>by rw[e,TX]at iN;cases iN
        let EL:=es++[(AV.str g.name,AV.int .i64 (gs.length:Int),cl)]
        let s2:=cm s1 mp (.map EL (cl+1))
        have mT:Wf s2:=Cu dI lt1.2;have b2:s2.heap.get bp=some (.cells [ju gk gs.length 9,ju tk ts.length 3,.map mp] 0):=(by show(cm _ _ _).heap.get bp=_;rw[br Ow];exact B1.book);have p2:s2.heap.get s.next=some (.cells g.cells 0):=(by show(cm _ _ _).heap.get _=_;rw[br nmp];exact TX);have m2:s2.heap.get mp=some (.map EL (cl+1)):=dF _ _ _;obtain⟨v,s3,q1,M⟩:=XP hc g (Ov h1) (by omega) s2 mT (aac g.tz g.tg) (Vi _ _) (aae _ _);rw[aN.XN]at q1
        let row:=g.az v
        have q2:=M.aA;have q3:row.length=9:=rfl;have vone:v.one=true:=qa M.cells.2;have q4:aO row=true:=g.M8 M.cells.2;have hw4:Wf (af s3 (.cells row 0)):=bR q2.wf;have TY:=q2.trans (Grew.af q2.wf (.cells row 0));have dw:∀p x,s2.heap.get p=some x->p.toNat<(af s3 (.cells row 0)).next.toNat:=λp x h=>hw4 p x (TY.get h)
        have e9:∀b,gk=some b->∃cs,(af s3 (.cells row 0)).heap.get b=some (.cells cs 0)/\cs.length=gs.length*9:=λb hb=>by
          obtain⟨cs,h3,h4⟩:=B1.pP.2 b hb;have:mp≠b:=λe=>by rw[e,h3]at iN;cases iN
          exact⟨cs,TY.get (by show(cm _ _ _).heap.get b=_;rw[br this];exact h3),h4⟩
        obtain⟨s5,kz,r1,r2,r3,ra,rb,r4,r5,r6⟩:=TW (c:=c) (es:=9) (bytes:=112) hw4 (k:=gk) (n:=gs.length) (λh=>by rw[B.pP.1 h];rfl) e9 (aD _ _) q3 q4 (by omega) (by omega) (by omega);have hs4:(af s3 (.cells row 0)).next=s3.next.succ:=rfl;have keep:∀p x,s2.heap.get p=some x->gk≠some p->s5.heap.get p=some x:=λp x h cj=>by rw[r6 p cj (dw p x h)];exact TY.get h
        have b5:=keep bp _ b2 B.dg
        let gv:=AV.slice (af s3 (.cells row 0)).next 0 (gs.length+1) none 9
        let s6:=cm s5 bp (.cells [gv,ju tk ts.length 3,.map mp] 0)
        have aaf:bp.toNat<s5.next.toNat:=r5 _ _ b5;have nb4:bp≠(af s3 (.cells row 0)).next:=λe=>by have:=dw _ _ b2;rw[e]at this;omega
        have st6:∀(K:AV->St->Option (AV×St)),ak c (.store 1) [.ptr bp 0,gv] s5 K=K .undef s6:=λK=>dG c K s5 1 bp 0 gv _ b5 rfl (by simp) rfl
        have g6:∀p,p≠bp->s6.heap.get p=s5.heap.get p:=λp h=>br (λe=>h e.symm)
        have Vj:∀p:Pos,s0.next.toNat<=p.toNat->s0.heap.get p=none:=λp h=>by
          cases hx:s0.heap.get p with
          |none=>rfl
          |some x=>have:=CL _ _ hx;omega
        have nx:s0.next.toNat<=(af s3 (.cells row 0)).next.toNat:=Zc7 B1.next (Zc7 (by show s1.next.toNat<=s2.next.toNat;exact Za4 _) TY.next)
        have RH : fe s0 s6 bp mp (gs++[g]) ts (some (af s3 (.cells row 0)).next) tk:={
          wf:=Cu r5 aaf
          keeps:=λp x hp=>by
            have n1:p≠bp:=λe=>by rw[e,B.fb]at hp;cases hp
            have n2:mp≠p:=λe=>by rw[<-e,B.fm]at hp;cases hp
            have n3:gk≠some p:=λe=>by rw[B.fg p e]at hp;cases hp
            rw[g6 p n1];exact keep p x (by show(cm _ _ _).heap.get p=_;rw[br n2];exact B1.keeps p x hp) n3
          next:=by show s0.next.toNat<=s5.next.toNat;rw[r4,Pos.ax];omega
          book:=by show(cm _ _ _).heap.get bp=_;rw[dF];simp[gv,ju]
          zX:=⟨EL,cl+1,by
            rw[g6 mp Ow];exact keep mp _ m2 (λe=>by obtain⟨cs,h3,_⟩:=B1.pP.2 mp e;rw[h3]at iN;cases iN),by simp[EL,hm2]⟩
          pP:=⟨λh=>(by cases h),λb hb=>by cases hb;refine⟨kz,?_,by rw[r3];simp⟩;rw[g6 _ (λe=>nb4 e.symm)];exact r2⟩
          xF:=⟨B.xF.1,λb hb=>by
            have h3:=B1.xF.2 b hb;have n1:b≠bp:=λe=>B.dt (by rw[<-e];exact hb)
            have n2:mp≠b:=λe=>by rw[e,h3]at iN;cases iN
            have n3:gk≠some b:=λe=>B.Ou b e hb
            rw[g6 b n1];exact keep b _ (by show(cm _ _ _).heap.get b=_;rw[br n2];exact h3) n3⟩
          dg:=λe=>nb4 (by injection e with e;exact e.symm)
          dt:=B.dt
          Ou:=λb hb ht=>by
            (cases hb;have h3:=B1.xF.2 _ ht;have n2:mp≠(af s3 (.cells row 0)).next:=λe=>by rw[e,h3]at iN;cases iN);have:=dw _ _ (show s2.heap.get (af s3 (.cells row 0)).next=_ from(br n2).trans h3);omega
          fb:=B.fb
          fm:=B.fm
          fg:=λb hb=>by cases hb;exact Vj _ nx
          ft:=B.ft
          JZ:=λes' cl' hm e he=>by
            have m6:s6.heap.get mp=some (.map EL (cl+1)):=by
              rw[g6 mp Ow];exact keep mp _ m2 (λe=>by obtain⟨cs,h3,_⟩:=B1.pP.2 mp e;rw[h3]at iN;cases iN)
            rw[hm]at m6;cases m6;rcases Zd7.1 he with he|he
            .obtain⟨i,e1,e2⟩:=B1.JZ _ _ iN e he;exact⟨i,e1,by simp;omega⟩
            .simp only[Za9,Ze5,Zi9]at he;subst he;exact⟨gs.length,rfl,by simp⟩
          J0:=λes' cl' hm=>by
            have m6:s6.heap.get mp=some (.map EL (cl+1)):=by
              rw[g6 mp Ow];exact keep mp _ m2 (λe=>by obtain⟨cs,h3,_⟩:=B1.pP.2 mp e;rw[h3]at iN;cases iN)
            rw[hm]at m6;cases m6;have h:=B1.J0 _ _ iN;rw[Zd9,h,Ze0,List.length_singleton,Zi4,Zd9];rfl
          rows:=  λb cs hb hs i u hu=>by
            cases hb;have TZ:s6.heap.get (af s3 (.cells row 0)).next=some (.cells kz 0):=(by rw[g6 _ (λe=>nb4 e.symm)];exact r2);rw[hs]at TZ;cases TZ;by_cases hi:i<gs.length
            . rw[Zc1 hi]at hu;cases LN:gk with
              |none=>rw[B.pP.1 LN]at hi;simp at hi
              | some b0=>
                obtain⟨RF,h3,h4⟩:=B1.pP.2 b0 LN;have n0:mp≠b0:=λe=>by rw[e,h3]at iN;cases iN
                have e0:=ra b0 RF LN (TY.get (by show(cm _ _ _).heap.get b0=_;rw[br n0];exact h3));have R0:=B1.rows b0 RF LN h3 i u hu;rw[e0,Zf6 (by omega),List.take_append_of_le_length (by simp;omega)];(refine R0.to λp cs a1 a2 a3 hx=> ?_);have n1:mp≠p:=λe=>by rw[e,hx]at iN;cases iN
                have x2:s2.heap.get p=some (.cells cs 0):=(by show(cm _ _ _).heap.get p=_;rw[br n1];exact hx);have aV:=dw p _ x2;refine⟨by rw[g6 p a1];exact keep p _ x2 a2,λe=> ?_,a3⟩;cases e;omega
            . have K7:i=gs.length:=(by have:=(Za0.1 hu).1;simp at this;omega);subst K7;simp at hu;subst hu;have er:(kz.drop (gs.length*9)).take 9=row:=by
                cases LN:gk with
                | none=>
                  rw[rb LN,B.pP.1 LN];exact Zf8 (by simp[q3])
                | some b0=>
                  obtain⟨RF,h3,h4⟩:=B1.pP.2 b0 LN;have n0:mp≠b0:=λe=>by rw[e,h3]at iN;cases iN
                  rw[ra b0 RF LN (TY.get (by show(cm _ _ _).heap.get b0=_;rw[br n0];exact h3)), <-h4];rw[Zf6 (Za4 _)];simp[Zf8 (Nat.le_of_eq q3)]
              (rw[er];have vG:∀p x,s2.heap.get p=some x->p.toNat<s2.next.toNat:=λp x h=>mT p x h);refine⟨Ov h1,htg,v,rfl,M.cells.1,vone,M.own.mono λb x hb hx=> ?_,λp hp=> ?_⟩
              . have EM:=M.new b hb;have Ky:=M.own.lt M.aA.wf hb;have nb:b≠bp:=λe=>by have:=vG _ _ b2;rw[e]at EM;omega
                have ng:gk≠some b:=λe=>by
                  obtain⟨RF,h3,_⟩:=B1.pP.2 b e;have n0:mp≠b:=λe=>by rw[e,h3]at iN;cases iN
                  have:=vG b _ (by show(cm _ _ _).heap.get b=_;rw[br n0];exact h3);omega
                rw[g6 b nb,r6 b ng (by rw[hs4,Pos.ax];omega)];exact(Grew.af q2.wf (.cells row 0)).get hx
              . have EM:=M.new p hp;have Ky:=M.own.lt M.aA.wf hp;refine⟨λe=>by have:=vG _ _ b2;rw[e]at EM;omega,λe=> ?_,λe=> ?_,Vj p (by have h9:=B1.next;rw[show s2.next=s1.next from DS _ _ _]at EM;omega)⟩
                .cases e;rw[hs4,Pos.ax]at Ky;omega
                . have h3:=B1.xF.2 p e;have n2:mp≠p:=λe=>by rw[e,h3]at iN;cases iN
                  have:=vG p _ (by show(cm _ _ _).heap.get p=_;rw[br n2];exact h3);omega }
        refine⟨s6,?_,λh=>absurd he h,λ_=>⟨_,RH⟩⟩;rw[he];rw[xG hc 1 (r:=(.int .i64 0,s6))]
        . rw[Ml (b:=bp) B.book];rw[RH.book];intro e;have e:=congrArg (λo=>match o with|some (AB.cells (v::_) _)=>cQ v|_=>none) e;simp only[ju,cQ]at e;cases gk with
          |none=>simp[cQ,B.pP.1 rfl]at e
          |some b=>simp[cQ]at e
        (rw[ob];have stm:=λ(K:AV->St->Option (AV×St))=>Sq c K (v:= .int .i64 (gs.length:Int)) iN hf);have bq:dJ (ju gk gs.length 9) (ju gk gs.length 9)=true:=(by cases gk;exact JC;exact Gb _ _ _ _);have b3:s3.heap.get bp=some (.cells [ju gk gs.length 9,ju tk ts.length 3,.map mp] 0):=q2.get b2;have xB:=λ(K:AV->Option (AV×St))=>we K (p:=bp) (o:=0) (h:=s3.heap) (h2:=s2.heap) (v:=ju gk gs.length 9) (by rw[b3];rfl) (by rw[b2];rfl) bq
        have yK:bW (bK [AV.str [],AV.str [],AV.str [],.int .i64 0,.int .i64 0,.str [],.bool false,.bool false,.ah] 1) [(0,9)] [AV.agg (g.az v)]=some row:=by
          have:(g.az v).length=9:=q3;show _=some (g.az v);simp[bW,bK,eo,eW,this,aG]
        simp[eb,j6,hch,h1,TX,B1.book,lk,lG,lG2,h2d,stm];show xQ ((cellsOf (T.get s.next s2.heap)).bind λcs=>cut cs 0 9) _=_;rw[p2];simp only[bf,Zd1,aN.cc,p7];show JA (c 193 [AV.agg g.cells] s2) _=_;rw[q1];simp only[iV];show jV (.load none) [.ptr bp 0] s3.heap (λv=>kB (.load none) [.ptr bp 0] v (qy [] s2.heap)) _=_;rw[xB];simp only[yK,p7,r1];exact st6 _
 .refine fail (fR g) h1 (by simp[ql,h1]) ?_;rw[ob];simp[eb,j6,hch,h1,TX]
theorem Ed{r s t:Ty}(h:eF r s=true)(k:eF s t=true):eF r t=true:=by
 simp only[eF,Zh9,Za8,Ze1]at h k ⊢;rcases h with h|⟨h1,h2⟩<;>rcases k with k|⟨k1,k2⟩
 .exact .inl (D7 _ _ _ h k)
 .exact .inl (by rw[<-k1];exact h)
 .exact .inl (by rw[h1];exact k)
 .exact .inr ⟨h1.trans k1,D7 _ _ _ h2 k2⟩
theorem Vk{s t:Ty}(h:eF s t=false)(k:eF t s=false):s.a=t.a/\s.b=t.b:=by simp only[eF,Bool.or_eq_false_iff]at h k;have e:=yV _ _ h.1 k.1;refine⟨e,?_⟩;have h2:=h.2;have k2:=k.2;simp only[e,Zk9,Zg6]at h2 k2;exact yV _ _ h2 k2
theorem aby{r s t:Ty}(h:eF r s=true)(k:eF t s=false):eF r t=true:=by
 cases h2:eF s t
 .obtain⟨e1,e2⟩:=Vk h2 k;unfold eF at h ⊢; rw[<-e1, <-e2];exact h
 .exact Ed h h2
theorem aaQ{x:Int}(h1:0<=x)(h2:x<=18446744073709551615):ay .u64 x=x:=by
 unfold ay Nl Nm;simp only;split
 . split
   .rfl
   .contradiction
 .contradiction
theorem RI(K:AV->St->Option (AV×St))(st:St)(a:Nat):ak c (.bin .shr .num) [.int .u64 (a:Int),.int .u64 1] st K=K (.int .u64 ((a / 2:Nat):Int)) st:=by
 refine aS c K (λH n=> ?_) st;have:(a:Int).fdiv 2=((a / 2:Nat):Int):=by rw[Zn8 _ (by omega)];rfl
 simp only[av.run,fX,k9,dz];show some (bU.val (AV.int .u64 ((a:Int).fdiv 2)))=_;rw[this]
theorem RJ(H:Pos->Option AB)(n:Pos)(es:Nat)(b:Pos)(len:Nat)(k:IntKind)(i:Nat)(h:i<len):av.run H n (.idxA es none) [.slice b 0 len none es,.int k (i:Int)]=some (.val (.ptr b (i*es))):=by
 simp[av.run,lA,gO,yQ,h]
theorem wm(ts:List Ty)(i:Nat)(h:i<ts.length):cut (ts.flatMap Ty.cells) (i*3) 3=some ts[i].cells:=by
 induction ts generalizing i with
 |nil=>simp at h
 |cons t ts ih=>
  cases i with
  |zero=>rw[Zl9];unfold cut;rw[eW,H5 (by simp[Ty.len])];simp[Ty.cells]
  |succ i=>
   have h':i<ts.length:=(by simpa using h);have:=ih i h';unfold cut at this ⊢;rw[eW]at this ⊢;(split at this<;>first|(cases this;done)|skip);rename_i hle;simp only[Ze1]at hle;rw[H5 (by rw[Zl9,Ze0,Ty.len];omega)];simp only[H0]at this ⊢;rw[Zl9,show(i+1)*3=i*3+1+1+1 by omega,Zl7, <-this];rfl
theorem abz(hc:Sem c)(ts:List Ty)(hl:ts.length<=1000)(t:Ty)(q:Nat)(hq:q<=ts.length)(vG:∀h (hh:h<ts.length),h<q->eF ts[h] t=true)(hhi:∀h (hh:h<ts.length),q<=h->eF ts[h] t=false)
  (b:Pos) (x4:Pos) (s:St) (hw:Wf s) (hb:s.heap.get b=some (.cells (ts.flatMap Ty.cells) 0)) (hx:s.heap.get x4=some (.cells t.cells 0)) (F:Nat) (k2):∀(m i j:Nat),j<=i+m->i<=q->q<=j->j<=ts.length->
  aM c F k2 (m+1) [.slice b 0 ts.length none 3,.func 174 [] [],.ptr x4 0,.int .i64 (ts.length:Int),.int .i64 (i:Int),.int .i64 (j:Int)] s=
    k2 [.slice b 0 ts.length none 3,.func 174 [] [],.ptr x4 0,.int .i64 (ts.length:Int),.int .i64 (q:Int)] s:=by
 intro m;induction m with
 |zero=>
  intro i j h1 h2 h3 h4;obtain rfl:i=q:=by omega
  obtain rfl:j=i:=by omega
  rw[cM];simp
 |succ m ih=>
  intro i j h1 h2 h3 h4;rw[cM];by_cases h:i<j
  . let d:=(i+j) / 2
    have hd1:i<=d:=(by omega);have KA:d<j:=(by omega);have T3:d<ts.length:=(by omega);have w1:ay .i64 ((i:Int)+(j:Int))=((i+j:Nat):Int):=(by rw[wrap64 (by omega) (by omega)];omega);have w2:ay .u64 ((i+j:Nat):Int)=((i+j:Nat):Int):=aaQ (by omega) (by omega);have w3:ay .i64 (((i+j) / 2:Nat):Int)=((d:Nat):Int):=wrap64 (by omega) (by omega);have w4:ay .i64 ((d:Int)+1)=((d+1:Nat):Int):=wrap64 (by omega) (by omega);have ix:=λ(K:AV->Option (AV×St))=>cV K (λH n=>RJ H n 3 b ts.length .i64 d T3)
    have ho:=zW hc ts[d] t s hw;have fg:=wm ts d T3
    clear_value d
    by_cases hn:d<q
    .   have aag:m9 ts[d] t<0:=MZ.2 (vG d T3 hn);rw[<-ih (d+1) j (by omega) (by omega) h3 h4];simp only[aH,dD,aE,oR,Int.ofNat_lt,h,Zk9,jL,tK,w1,JB,w2,RI,w3,bZ,ix,BK,hb,fg,hx,bf,Zd1,Ty.cc,p7,xj,Zf9,Ze8,Zf1,ho,iV,Tf,aag,w4]
    .   have aag:¬m9 ts[d] t<0:=λe=>by have:=MZ.1 e;rw[hhi d T3 (by omega)]at this;cases this
        rw[<-ih i d (by omega) h2 (by omega) (by omega)];simp only[aH,dD,aE,oR,Int.ofNat_lt,h,Zk9,jL,tK,w1,JB,w2,RI,w3,bZ,ix,BK,hb,fg,hx,bf,Zd1,Ty.cc,p7,xj,Zf9,Ze8,Zf1,ho,iV,Tf,aag,decide_false,jW]
  .obtain rfl:i=q:=(by omega);obtain rfl:j=i:=(by omega);simp
def zY(ts:List Ty)(t:Ty)(q:Nat):Bool:=match ts[q]? with
 |some u=>decide (m9 u t=0)
 |none=>false
theorem aah(x4:Pos)(s:St)(F:Nat)(k2)(m:Nat):aM c F k2 (m+1) [.ah,.func 174 [] [],.ptr x4 0,.int .i64 0,.int .i64 0,.int .i64 0] s=
  k2 [.ah,.func 174 [] [],.ptr x4 0,.int .i64 0,.int .i64 0] s:=by
 rw[cM];simp
def slvT(k:Option Pos)(n:Nat):AV:=match k with
 |none=>.ah
 |some b=>.slice b (0+n*3) (n - n) none 3
theorem ac7(hc:Sem c)(ts:List Ty)(hl:ts.length<=1000)(t:Ty)(q:Nat)(hq:q<=ts.length)(vG:∀h (hh:h<ts.length),h<q->eF ts[h] t=true)(hhi:∀h (hh:h<ts.length),q<=h->eF ts[h] t=false)
  (tk:Option Pos) (s:St) (hw:Wf s) (h0:tk=none->ts=[]) (hb:∀b,tk=some b->s.heap.get b=some (.cells (ts.flatMap Ty.cells) 0)):
  c 224 [ju tk ts.length 3,.agg t.cells,.func 174 [] []] s=some (.tuple [.int .i64 (q:Int),.bool (zY ts t q)],s):=by
 have dI:Wf (af s (.cells t.cells 0)):=bR hw;have qP:Plain (.tuple [.int .i64 (q:Int),.bool (zY ts t q)]):=Plain.tuple (by simp[Plain.int,Plain.bool]);rw[j9 hc 1001 (r:=(.tuple [.int .i64 (q:Int),.bool (zY ts t q)],af s (.cells t.cells 0))),aL qP (cC hw)];rw[kD];cases tk with
 |none=>
  obtain rfl:=h0 rfl;obtain rfl:q=0:=by simpa using hq
  have l0:∀(K:AV->St->Option (AV×St))(s:St),ak c (.lenB .l) [.ah] s K=K (.int .i64 0) s:=λK s=>aS c K (λH n=>rfl) s
  have L:∀k2,aM c 1001 k2 1001 [.ah,.func 174 [] [],.ptr s.next 0,.int .i64 0,.int .i64 0,.int .i64 0] (af s (.cells t.cells 0))=_:=λk2=>aah (c:=c) s.next _ 1001 k2 1000
  simp only[ju,oW,aE,l0,GG,L,aH,dD,Zl2];simp[zY,l0,L]
 |some b=>
  have EM:(af s (.cells t.cells 0)).heap.get b=some (.cells (ts.flatMap Ty.cells) 0):=cC hw _ _ (hb b rfl);have l0:∀(K:AV->St->Option (AV×St))(s:St),ak c (.lenB .l) [.slice b 0 ts.length none 3] s K=K (.int .i64 (ts.length:Int)) s:=λK s=>aS c K (λH n=>rfl) s
  have L:∀k2,aM c 1001 k2 1001 [.slice b 0 ts.length none 3,.func 174 [] [],.ptr s.next 0,.int .i64 (ts.length:Int),.int .i64 0,.int .i64 (ts.length:Int)] (af s (.cells t.cells 0))=
    k2 [.slice b 0 ts.length none 3,.func 174 [] [],.ptr s.next 0,.int .i64 (ts.length:Int),.int .i64 (q:Int)] (af s (.cells t.cells 0)):=
    λk2=>abz hc ts hl t q hq vG hhi b s.next _ dI EM (aD _ _) 1001 k2 1000 0 ts.length (by omega) (by omega) (by omega) (by omega)
  simp only[ju,oW,aE,l0,GG,L,aH,dD];by_cases h:q<ts.length
  . have ix:=λ(K:AV->Option (AV×St))=>cV K (λH n=>RJ H n 3 b ts.length .i64 q h)
    have ho:=zW hc ts[q] t _ dI;have fg:=wm ts q h;have ef:zY ts t q=decide (m9 ts[q] t=0):=(by unfold zY;rw[H4 h]);simp[h,ix,EM,fg,ho,ef,AV.cells]
  .have ef:zY ts t q=false:=(by unfold zY;rw[Zb7 (by omega)]);simp[h,ef,AV.cells]
def CM(ts:List Ty)(t:Ty):Nat:=match ts.getLast? with
 |none=>0
 |some u=>if eF u t=true then ts.length else ts.length - 1
def GK(ts:List Ty):Prop:=∀i j (hj:j<ts.length)(Q3:i<j),eF (ts[i]'(by omega)) ts[j]=true
theorem acg{ts:List Ty}{t:Ty}(hs:GK ts)(ht:∀u,ts.getLast? =some u->eF t u=false):CM ts t<=ts.length/\(∀h (hh:h<ts.length),h<CM ts t->eF ts[h] t=true)/\(∀h (hh:h<ts.length),CM ts t<=h->eF ts[h] t=false)/\
  zY ts t (CM ts t)=oa t ts.getLast? :=by
 unfold CM;cases hl:ts.getLast? with
 |none=>
  have:ts=[]:=by simpa using hl
  subst this;simp[zY,oa]
 |some u=>
  have cj:ts≠[]:=λe=>by subst e;simp at hl
  have Ut:0<ts.length:=List.length_pos_iff.2 cj;have hu:ts[ts.length - 1]'(by omega)=u:=by have:=List.getLast?_eq_getElem? (l:=ts);rw[hl,H4 (by omega)]at this;exact(Zg0 this).symm
  have htu:=ht u hl;simp only;cases hb:eF u t
  . simp only[Zg3,Zh4];refine⟨by omega,λh hh aV=> ?_,λh hh hle=> ?_,?_⟩
    .   have:=hs h (ts.length - 1) (by omega) aV;rw[hu]at this;exact aby this htu
    .   obtain rfl:h=ts.length - 1:=(by omega);rw[hu];exact hb
    .   (unfold zY;rw[H4 (by omega),hu];have h1:¬m9 u t<0:=λe=>by rw[MZ.1 e]at hb;cases hb);have h2:¬0<m9 u t:=λe=>by rw[H6.1 e]at htu;cases htu
        have:m9 u t=0:=(by omega);simp[this,oa,hb]
  . simp only[Zg8];refine⟨by omega,λh hh _=> ?_,λh hh hle=>by omega,?_⟩
    .   by_cases e:h=ts.length - 1
        .subst e;rw[hu];exact hb
        .have:=hs h (ts.length - 1) (by omega) (by omega);rw[hu]at this;exact Ed this hb
    .   unfold zY;rw[Zb7 (by omega)];simp[oa,hb]
theorem sW(hc:Sem c){s0 s:St}{bp mp:Pos}{gs:List aN}{ts:List Ty}{gk tk:Option Pos}(B:fe s0 s bp mp gs ts gk tk)(hl:ts.length<=1000)(t:Ty)(aV:aB t.a t.b=true)(hs:GK ts)(ht:∀u,ts.getLast? =some u->eF t u=false):
  c 195 [.ptr bp 0,.str t.a,.str t.b] s=some (.tuple [.int .i64 (CM ts t:Int),.bool (oa t ts.getLast?)],s):=by
 obtain⟨p1,p2,p3,p4⟩:=acg hs ht;rw[<-p4];have e0:∀u:Ty,eF u ⟨t.a,t.b,0⟩=eF u t:=λu=>rfl
 have e1:zY ts ⟨t.a,t.b,0⟩ (CM ts t)=zY ts t (CM ts t):=rfl;have hpr:=TR hc t.a t.b 0 aV s B.wf;have EH:=ac7 hc ts hl ⟨t.a,t.b,0⟩ (CM ts t) p1 (λh hh hq=>by rw[e0];exact p2 h hh hq) (λh hh hq=>by rw[e0];exact p3 h hh hq) tk s B.wf B.xF.1 B.xF.2;rw[e1]at EH;rw[Ee hc 1 (r:=(.tuple [.int .i64 (CM ts t:Int),.bool (zY ts t (CM ts t))],s)),aL (Plain.tuple (by simp[Plain.int,Plain.bool])) (bD.refl s)];rw[GM];have bq:dJ (ju tk ts.length 3) (ju tk ts.length 3)=true:=by cases tk;exact JC;exact Gb _ _ _ _
 have xB:=λ(K:AV->Option (AV×St))=>we K (p:=bp) (o:=1) (h:=s.heap) (h2:=s.heap) (v:=ju tk ts.length 3) (by rw[B.book];rfl) (by rw[B.book];rfl) bq
 simp[hpr,xB,EH]
theorem pM(b:Pos)(off n es:Nat):¬Plain (.slice b off n none es):=λh=>by have:=h (λ_=>⟨0,0,off+n*es⟩) (λ_=>⟨0,0,0⟩) (b.toNat+1) 0 (λ_=>none) _ (.slice b off n none es n ⟨0,0+off,none⟩ (Za4 _) (λc h=>by cases h) (λ_=>⟨by omega,rfl,by simp⟩) (λ_=>by omega));have:=this.Ns rfl;omega
theorem XT(hc:Sem c){s:St}(hw:Wf s){tk:Option Pos}{ts:List Ty}{q:Pos}{row:List AV}(h0:tk=none->ts=[])(hb:∀b,tk=some b->s.heap.get b=some (.cells (ts.flatMap Ty.cells) 0))(hq:s.heap.get q=some (.cells row 0))(hr:row.length=3)
   (h1:aO row=true) (hl:ts.length<=1000):
   ∃ s5,c 196 [ju tk ts.length 3,.int .i64 (ts.length:Int),.slice q 0 1 (some 1) 3] s=some (.slice s.next 0 (ts.length+1) none 3,s5)/\s5.heap.get s.next=some (.cells (ts.flatMap Ty.cells++row) 0)/\
     s5.next=s.next.succ/\Wf s5/\∀p,tk≠some p->p.toNat<s.next.toNat->s5.heap.get p=s.heap.get p:=by
 have hlen:∀ts:List Ty,(ts.flatMap Ty.cells).length=ts.length*3:=λts=>by
   induction ts with
   |nil=>rfl
   |cons t ts ih=>rw[Zl9,Ze0,ih,Ty.len,Ze6];omega
 obtain⟨s5,kz,r1,r2,r3,r4,r5,r6,r7,r8⟩:=TW (c:=c) (es:=3) (bytes:=40) hw (k:=tk) (n:=ts.length) (λh=>by rw[h0 h];rfl) (λb Ky=>⟨_,hb b Ky,hlen ts⟩) hq hr h1 (by omega) (by omega) (by omega);refine⟨s5,?_,?_,r6,r7,r8⟩
 . rw[rR hc 1 (r:=(.slice s.next 0 (ts.length+1) none 3,s5))]
   .unfold tidy;rw[Za5];exact λh=>pM _ _ _ _ h.1
   rw[ua];have sl:∀(K:AV->St->Option (AV×St))(s:St),ak c (.sliceL 3 true false false) [ju tk ts.length 3,.int .i64 (ts.length:Int)] s K=K (slvT tk ts.length) s:=λK s=>by
     refine aS c K (λH n=> ?_) s;cases tk with
     |none=>rw[h0 rfl];rfl
     |some b=>simp[ju,slvT,av.run,ny,bounds,gO,eo,eW]
   have l1:∀(K:AV->St->Option (AV×St))(s:St),ak c (.lenB .l) [.slice q 0 1 (some 1) 3] s K=K (.int .i64 1) s:=λK s=>aS c K (λH n=>rfl) s
   have l2:∀(K:AV->St->Option (AV×St))(s:St),ak c (.lenB .l) [ju tk ts.length 3] s K=K (.int .i64 (ts.length:Int)) s:=λK s=>aS c K (D9 λh=>by rw[h0 h];rfl) s
   simp[sl,l1,l2,r1]
 . cases tk with
   |none=>rw[r2,r5 rfl,h0 rfl];rfl
   |some b=>rw[r2,r4 b _ rfl (hb b rfl)]
def qm(gs:List aN)(ts:List Ty)(t:Ty):Int:=if IX t=false then 23 else if kV gs t=true then 6 else if oa t ts.getLast? =true then 5 else 0
theorem RK(H:Pos->Option AB)(n:Pos)(es:Nat)(b:Pos)(len:Nat)(cp:Option Nat)(k:IntKind)(i:Nat)(h:i<len):av.run H n (.idxA es none) [.slice b 0 len cp es,.int k (i:Int)]=some (.val (.ptr b (i*es))):=by
 simp[av.run,lA,gO,yQ,h]
theorem T4{gs:List aN}{es:List (AV×AV×Nat)}(h:es.map (·.1)=gs.map λg=>.str g.name)(s:List Nat):
   (¬scan (jH gs s) gs.length 0<0/\∃j v,iE .s (.str s) es 0=some (some (j,v)))\/(scan (jH gs s) gs.length 0<0/\iE .s (.str s) es 0=some none):=by
 rcases BR s gs es 0 h with⟨a,b⟩|⟨a,b⟩
 .left;have:=Ec.2 a;exact⟨by omega,b⟩
 . (right;refine⟨?_,b⟩;have:¬0<=scan (jH gs s) gs.length 0:=λe=>a (Ec.1 e));omega
theorem aai{s:St}{bp mp:Pos}{x y:AV}{es:List (AV×AV×Nat)}{cl:Nat}{gs:List aN}(hb:s.heap.get bp=some (.cells [x,y,.map mp] 0))(hm:s.heap.get mp=some (.map es cl))(he:es.map (·.1)=gs.map λg=>.str g.name)
   (t:Ty) (lb:Pos) (RL:s.heap.get lb=some (.cells [.str t.a,.str t.b] 0)) (F:Nat) (k1 k2):
   iQ c F k1 k2 3 [.ptr bp 0,.str t.a,.str t.b,.int .u8 t.k,.slice lb 0 2 (some 2) 1,.int .i64 2,.int .i64 ((0:Nat):Int)] s=if kV gs t=true then k1 [.int .i64 6] s else k2 [.ptr bp 0,.str t.a,.str t.b,.int .u8 t.k] s:=by
 have w0:ay .i64 (((0:Nat):Int)+1)=((1:Nat):Int):=rfl;have w1:ay .i64 (((1:Nat):Int)+1)=((2:Nat):Int):=rfl;have i0:∀(K:AV->St->Option (AV×St))(s:St),ak c (.idxA 1 none) [.slice lb 0 2 (some 2) 1,.int .i64 ((0:Nat):Int)] s K=K (.ptr lb 0) s:=λK s=>aS c K (λH n=>RK H n 1 lb 2 (some 2) .i64 0 (by omega)) s
 have i1:∀(K:AV->St->Option (AV×St))(s:St),ak c (.idxA 1 none) [.slice lb 0 2 (some 2) 1,.int .i64 ((1:Nat):Int)] s K=K (.ptr lb 1) s:=λK s=>aS c K (λH n=>RK H n 1 lb 2 (some 2) .i64 1 (by omega)) s
 have d0:decide (((0:Nat):Int)<2)=true:=rfl;have d1:decide (((1:Nat):Int)<2)=true:=rfl;have d2:decide (((2:Nat):Int)<2)=false:=rfl;have e0:([AV.str t.a,.str t.b]:List AV)[0]? =some (.str t.a):=rfl;have e1:([AV.str t.a,.str t.b]:List AV)[1]? =some (.str t.b):=rfl;have e2:([x,y,AV.map mp]:List AV)[2]? =some (.map mp):=rfl;rw[o7];rcases T4 he t.a with⟨n1,j,v,f1⟩|⟨n1,f1⟩
 . have lk1:=λ(K:AV->St->Option (AV×St))=>Bc c K (.int .i64 0) (k:= .str t.a) hm f1
   simp only[aH,dD,oR,d0,jL,i0,iH,RL,hb,bf,Zd1,e0,e2,lU,aE,qG,cS,Zc3,lk1,wR,Zb1,Ze3,zd,Bool.not_true,jW,tK,w0];rw[o7];rcases T4 he t.b with⟨n2,j,v,f2⟩|⟨n2,f2⟩
   . have lk2:=λ(K:AV->St->Option (AV×St))=>Bc c K (.int .i64 0) (k:= .str t.b) hm f2
     simp only[aH,dD,oR,d1,jL,i1,iH,RL,hb,bf,Zd1,e1,e2,lU,aE,qG,cS,Zc3,lk2,wR,Zb1,Ze3,zd,Bool.not_true,jW,tK,w1];rw[o7];have:kV gs t=false:=(by simp[kV,n1,n2]);rw[this];simp only[aH,dD,oR,d2,jW,Zg3,Zh4]
   . have lk2:=λ(K:AV->St->Option (AV×St))=>Bc c K (.int .i64 0) (k:= .str t.b) hm f2
     have:kV gs t=true:=(by simp[kV,n2]);rw[this];simp only[aH,dD,oR,d1,jL,i1,iH,RL,hb,bf,Zd1,e1,e2,lU,aE,qG,cS,Zc3,lk2,wR,Zb1,Ze3,zd,Zn4,Zg8]
 . have lk1:=λ(K:AV->St->Option (AV×St))=>Bc c K (.int .i64 0) (k:= .str t.a) hm f1
   have:kV gs t=true:=(by simp[kV,n1]);rw[this];simp only[aH,dD,oR,d0,jL,i0,iH,RL,hb,bf,Zd1,e0,e2,lU,aE,qG,cS,Zc3,lk1,wR,Zb1,Ze3,zd,Zn4,Zg8]
theorem ach (hc:Sem c){s0 s:St}{bp mp:Pos}{gs:List aN}{ts:List Ty}{gk tk:Option Pos}(CL:Wf s0)(B:fe s0 s bp mp gs ts gk tk)(hl:ts.length<=200)(t:Ty)(aV:aB t.a t.b=true)(hs:GK ts)(ht:∀u,ts.getLast? =some u->eF t u=false):
   ∃s',c 175 [.ptr bp 0,.str t.a,.str t.b,.int .u8 t.k] s=some (.int .i64 (qm gs ts t),s')/\(qm gs ts t≠0->s'=s)/\(qm gs ts t=0->∃mY,fe s0 s' bp mp gs (ts++[t]) gk mY):=by
 have cj:¬t.a=t.b:=λe=>by rw[e,wC]at aV;cases aV
 have j6:=TU hc s bp mp _ _ B.book;have hkt:IX t=true->(t.k=1\/(¬t.k=1/\t.k=2)):=λq=>by
   simp only[IX,Zh9,Ze1]at q;by_cases e:t.k=1
   .exact .inl e
   .exact .inr ⟨e,q.resolve_left e⟩
 by_cases hk:IX t=true
 . have dI  :Wf (af s (.cells [.str t.a,.str t.b] 0)):=bR B.wf;have B1:=B.aA (Grew.af B.wf (.cells [.str t.a,.str t.b] 0));have RM:=Grew.af B.wf (.cells [.str t.a,.str t.b] 0);have RL:(af s (.cells [.str t.a,.str t.b] 0)).heap.get s.next=some (.cells [.str t.a,.str t.b] 0):=aD _ _;generalize Ln:af s (.cells [.str t.a,.str t.b] 0)=s1 at dI B1 RM RL;obtain⟨es,cl,iN,hm2⟩:=B1.zX;have L:∀k1 k2,iQ c 3 k1 k2 3 [.ptr bp 0,.str t.a,.str t.b,.int .u8 t.k,.slice s.next 0 2 (some 2) 1,.int .i64 2,.int .i64 0] s1=if kV gs t=true then k1 [.int .i64 6] s1 else k2 [.ptr bp 0,.str t.a,.str t.b,.int .u8 t.k] s1:=λk1 k2=>aai (c:=c) B1.book iN hm2 t s.next RL 3 k1 k2
   have qP:=sW hc B1 (by omega) t aV hs ht;have l2:∀(K:AV->St->Option (AV×St))(s:St),ak c (.lenB .l) [.slice (af s (.cells [] 0)).next 0 2 (some 2) 1] s K=K (.int .i64 2) s:=λK s=>aS c K (λH n=>rfl) s
   have lT:∀(K:AV->St->Option (AV×St))(s:St),ak c (.lenB .l) [ju tk ts.length 3] s K=K (.int .i64 (ts.length:Int)) s:=λK s=>aS c K (D9 λh=>by rw[B.xF.1 h];rfl) s
   have T6:∀(K:AV->St->Option (AV×St)),ak c (.buildSlice 1 2 [(.str [])] [0,1]) [.str t.a,.str t.b] s K=K (.slice s.next 0 2 (some 2) 1) s1:=λK=>by rw[aT, <-Ln];have:bW (bK [AV.str []] 2) ([0,1].map λi=>(i*1,1)) [.str t.a,.str t.b]=some [.str t.a,.str t.b]:=(by simp[bW,bK,eo,eW,aG,AV.cells]);rw[this];rfl
   have l3:∀(K:AV->St->Option (AV×St))(p:Pos)(s:St),ak c (.lenB .l) [.slice p 0 2 (some 2) 1] s K=K (.int .i64 2) s:=λK p s=>aS c K (λH n=>rfl) s
   have aaj:¬(ts.length:Int)=256:=(by omega);have fail:∀e:Int,e≠0->qm gs ts t=e->qL c 3 (.ptr bp 0) (.str t.a) (.str t.b) (.int .u8 t.k) s=some (.int .i64 e,s1)->∃s',c 175 [.ptr bp 0,.str t.a,.str t.b,.int .u8 t.k] s=some (.int .i64 (qm gs ts t),s')/\(qm gs ts t≠0->s'=s)/\(qm gs ts t=0->∃mY,fe s0 s' bp mp gs (ts++[t]) gk mY):=λe he ha h=>by
     refine⟨s,?_,λ_=>rfl,λh0=>absurd (ha.symm.trans h0) he⟩;rw[qo hc 3 h,ha,aL (Plain.int _ _) RM.keeps]
   cases hu:kV gs t
   . cases  hd:oa t ts.getLast?
     .  have he:qm gs ts t=0:=(by simp[qm,hk,hu,hd]);rw[hd]at qP;have hplc:(CM ts t:Int)=ts.length:=by
          unfold CM;cases hq:ts.getLast? with
          |none=> have:ts=[]:=by simpa using hq
                  subst this;rfl
          | some u=>
            rw[hq]at hd;simp only[oa,Bool.not_eq_false']at hd;simp only[hd,Zg8]
        rw[hplc]at qP;have hpr:=TR hc t.a t.b t.k aV s1 dI
        let s2:=af s1 (.cells t.cells 0)
        have g2:=Grew.af dI (.cells t.cells 0);have B2:=B1.aA g2;obtain⟨s5,r1,r2,r3,r4,r5⟩:=XT hc (s:=s2) g2.wf (tk:=tk) (ts:=ts) (q:=s1.next) (row:=t.cells) B.xF.1 B2.xF.2 (aD _ _) rfl t.one (by omega);have XU:=B2.lt;have b5:s5.heap.get bp=some (.cells [ju gk gs.length 9,ju tk ts.length 3,.map mp] 0):=by rw[r5 bp B.dt XU.1];exact B2.book
        let tv:=AV.slice s2.next 0 (ts.length+1) none 3
        let s6:=cm s5 bp (.cells [ju gk gs.length 9,tv,.map mp] 0)
        have aaf:bp.toNat<s5.next.toNat:=r4 _ _ b5;have nb2:bp≠s2.next:=λe=>absurd (show bp.toNat<s2.next.toNat from XU.1) (by rw[e];exact Zm6 _)
        have st6:∀(K:AV->St->Option (AV×St)),ak c (.store 1) [.ptr bp 1,tv] s5 K=K .undef s6:=λK=>dG c K s5 1 bp 1 tv _ b5 rfl (by simp) rfl
        have g6:∀p,p≠bp->s6.heap.get p=s5.heap.get p:=λp h=>br (λe=>h e.symm)
        have Vj:∀p:Pos,s0.next.toNat<=p.toNat->s0.heap.get p=none:=λp h=>by
          cases hx:s0.heap.get p with
          |none=>rfl
          |some x=>have:=CL _ _ hx;omega
        obtain⟨EL,cl2,XV,hm4⟩:=B2.zX;have Ow:mp≠bp:=λe=>by rw[e,B2.book]at XV;cases XV
        have nmt:tk≠some mp:=λe=>by rw[B2.xF.2 mp e]at XV;cases XV
        have RH:fe s0 s6 bp mp gs (ts++[t]) gk (some s2.next):={
          wf:=Cu r4 aaf
          keeps:=λp x hp=>by
            have n1:p≠bp:=λe=>by rw[e,B.fb]at hp;cases hp
            have n3:tk≠some p:=λe=>by rw[B.ft p e]at hp;cases hp
            have h2:=B2.keeps p x hp;rw[g6 p n1,r5 p n3 (B2.wf _ _ h2)];exact h2
          next:=by show s0.next.toNat<=s5.next.toNat;exact Zc7 B2.next (by rw[r3,Pos.ax];exact Nat.le_succ _)
          book:=by show(cm _ _ _).heap.get bp=_;rw[dF];simp[tv,ju]
          zX:=⟨EL,cl2,by rw[g6 mp Ow,r5 mp nmt XU.2];exact XV,hm4⟩
          pP:=⟨B.pP.1,λb hb=>by obtain⟨cs,h3,h4⟩:=B2.pP.2 b hb;refine⟨cs,?_,h4⟩;rw[g6 b (λe=>B.dg (by rw[<-e];exact hb)),r5 b (B.Ou b hb) (B2.wf _ _ h3)];exact h3⟩
          xF:=⟨λh=>(by cases h),λb hb=>by cases hb;rw[g6 _ (λe=>nb2 e.symm),r2];simp⟩
          dg:=B.dg
          dt:=λe=>nb2 (by injection e with e;exact e.symm)
          Ou:=λb hb h=>by
            cases h;obtain⟨cs,h3,h4⟩:=B2.pP.2 _ hb;exact absurd (show s2.next.toNat<s2.next.toNat from B2.wf _ _ h3) (Zm6 _)
          fb:=B.fb
          fm:=B.fm
          fg:=B.fg
          ft:=λb hb=>by cases hb;exact Vj _ B2.next
          JZ:=λes' cl' hm=>by have m6:s6.heap.get mp=s2.heap.get mp:=(by rw[g6 mp Ow,r5 mp nmt XU.2]);rw[m6]at hm;exact B2.JZ _ _ hm
          J0:=λes' cl' hm=>by have m6:s6.heap.get mp=s2.heap.get mp:=(by rw[g6 mp Ow,r5 mp nmt XU.2]);rw[m6]at hm;exact B2.J0 _ _ hm
          rows:=λb cs hb hs i u hu=>by
            obtain⟨RF,h3,h4⟩:=B2.pP.2 b hb;have x6:s6.heap.get b=s2.heap.get b:=(by rw[g6 b (λe=>B.dg (by rw[<-e];exact hb)),r5 b (B.Ou b hb) (B2.wf _ _ h3)]);rw[x6]at hs;(refine(B2.rows b cs hb hs i u hu).to λp cs a1 a2 a3 hx=> ?_);have aV:p.toNat<s2.next.toNat:=B2.wf _ _ hx;refine⟨by rw[g6 p a1,r5 p a3 aV];exact hx,a2,λe=> ?_⟩;cases e;exact absurd aV (Zm6 _) }
        refine⟨s6,?_,λh=>absurd he h,λ_=>⟨_,RH⟩⟩;rw[he];rw[qo hc 3 (r:=(.int .i64 0,s6))]
        . rw[Ml (b:=bp) B.book];rw[RH.book];intro e;have e:=congrArg (λo=>match o with|some (AB.cells (_::v::_) _)=>cQ v|_=>none) e;simp only[ju,cQ]at e;cases tk with
          |none=>simp[cQ,B.xF.1 rfl]at e
          |some b=>simp[cQ]at e
        (rw[oc];have bq:dJ (ju tk ts.length 3) (ju tk ts.length 3)=true:=(by cases tk;exact JC;exact Gb _ _ _ _);have xB:=λ(K:AV->Option (AV×St))=>we K (p:=bp) (o:=1) (h:=s1.heap) (h2:=s1.heap) (v:=ju tk ts.length 3) (by rw[B1.book];rfl) (by rw[B1.book];rfl) bq);have yK:bW (bK [AV.str [],AV.str [],.int .u8 0] 1) [(0,3)] [AV.agg t.cells]=some t.cells:=by
          simp[bW,bK,eo,eW,Ty.cells,aG]
        have aaU:decide ((ts.length:Int)=256)=false:=Za2 aaj;rw[hu]at L;rcases hkt hk with f|⟨f,f2⟩
        .have d1:decide (t.k=1)=true:=H5 f;simp[-aT,j6,cj,T6,l3,d1,L,qP,B1.book,lT,aaU,hpr,xB,yK];show JA (c 196 [ju tk ts.length 3,.int .i64 (ts.length:Int),.slice s1.next 0 1 (some 1) 3] s2) _=_;rw[r1];exact st6 _
        .have d1:decide (t.k=1)=false:=Za2 f;have d2:decide (t.k=2)=true:=H5 f2;simp[-aT,j6,cj,T6,l3,d1,d2,L,qP,B1.book,lT,aaU,hpr,xB,yK];show JA (c 196 [ju tk ts.length 3,.int .i64 (ts.length:Int),.slice s1.next 0 1 (some 1) 3] s2) _=_;rw[r1];exact st6 _
     .  refine fail 5 (by omega) (by simp[qm,hk,hu,hd]) ?_;rw[hd]at qP;rw[hu]at L;rw[oc];rcases hkt hk with f|⟨f,f2⟩
        .have d1:decide (t.k=1)=true:=H5 f;simp[-aT,j6,cj,T6,l3,d1,L,qP]
        .have d1:decide (t.k=1)=false:=Za2 f;have d2:decide (t.k=2)=true:=H5 f2;simp[-aT,j6,cj,T6,l3,d1,d2,L,qP]
   . refine fail 6 (by omega) (by simp[qm,hk,hu]) ?_;rw[hu]at L;rw[oc];rcases hkt hk with f|⟨f,f2⟩
     .  have d1:decide (t.k=1)=true:=H5 f;simp[-aT,j6,cj,T6,l3,d1,L]
     .  have d1:decide (t.k=1)=false:=Za2 f;have d2:decide (t.k=2)=true:=H5 f2;simp[-aT,j6,cj,T6,l3,d1,d2,L]
 .have hkf:¬t.k=1/\¬t.k=2:=(by simpa [IX]using hk);have he:qm gs ts t=23:=(by simp[qm,hk]);refine⟨s,?_,λ_=>rfl,λh0=>absurd (he.symm.trans h0) (by omega)⟩;rw[qo hc 3 (r:=(.int .i64 23,s)),he,aL (Plain.int _ _) (bD.refl s)];rw[oc];simp[j6,hkf]
@[simp] theorem adu{R:Type}(K:AV->Option R)(z:Bool)(l:List aN):ey (.lenB .l) [eN z l] K=K (.int .i64 (l.length:Int)):=by unfold eN;rw[QA];simp
theorem aak{gs:List aN}{k:Nat}(h:k<gs.length)(hk:k<=64):ql (gs.take k) gs[k]=if fR gs[k]≠0 then fR gs[k]else if 0<=scan (jH gs gs[k].name) k 0 then 5 else if 64<=k then 7 else 0:=by
 have hl:(gs.take k).length=k:=by simp;omega
 unfold ql;rw[hl,aaa (by omega)];have:(k=64)↔64<=k:=by omega
 simp only[this]
@[simp] theorem ac8{R:Type}(c:ai)(K:AV->St->Option R)(st:St)(t:aN)(cs:List AV)(h:cs.length=9):ak c (.store 9) [.ptr st.next 0,.agg t.cells] (af st (.cells cs 0)) K=K .undef (af st (.cells t.cells 0)):=dQ c K st 9 (.agg t.cells) cs rfl h.symm t.one
theorem abA (hc:Sem c){s0:St}(CL:Wf s0)(z:Bool)(gs:List aN)(hl:gs.length<=100)(bp mp rp:Pos)(F:Nat)(k1 k2):∀(m k:Nat)(s:St)(gk:Option Pos),fe s0 s bp mp (gs.take k) [] gk none->gs.length<=k+m->k<=gs.length->k<=64->
  ∃ s',bD s0 s'/\(((jM gs m k).2=0/\(∃EY,fe s0 s' bp mp gs [] EY none)/\gL c F k1 k2 (m+1) [.ptr rp 0,.ptr bp 0,eN z gs,.int .i64 (gs.length:Int),.int .i64 (k:Int)] s=k2 [.ptr rp 0,.ptr bp 0] s')\/
    ((jM gs m k).2≠0/\gL c F k1 k2 (m+1) [.ptr rp 0,.ptr bp 0,eN z gs,.int .i64 (gs.length:Int),.int .i64 (k:Int)] s=k1 [.gH,.int .i64 (jM gs m k).1,.int .i64 (jM gs m k).2] s')):=by
 intro m;induction m with
 |zero=>
  intro k s gk B h1 h2 h3;obtain rfl:k=gs.length:=by omega
  refine⟨s,B.keeps,.inl ⟨rfl,⟨gk,by simpa using B⟩,?_⟩⟩;rw[pQ];simp
 |succ m ih   =>
  intro k s gk B h1 h2 h3;by_cases h:k<gs.length
  . have w:ay .i64 ((k:Int)+1)=((k+1:Nat):Int):=wrap64 (by omega) (by omega);have B1:=B.aA (Grew.af B.wf (.cells gs[k].cells 0));obtain⟨s2,a1,a2,a3⟩:=acf hc CL B1 (by simp;omega) gs[k];have hA:=aak h h3;have step:∀(K:AV->St->Option (AV×St)),(ak c (.idxA 9 none) [eN z gs,.int .i64 (k:Int)] s λx19 s12=>ak c (.load (some 9)) [x19] s12 K)=K (.agg gs[k].cells) s:=λK=>by
        simp[eN,h]
    by_cases he:ql (gs.take k) gs[k]=0
    .   obtain⟨EY,B2⟩:=a3 he;have e1:gs.take k++[gs[k]]=gs.take (k+1):=(Zd0 h).symm;rw[e1]at B2;rw[hA]at he;have c1:fR gs[k]=0:=by
         by_cases e:fR gs[k]=0
         .  exact e
         .  rw[Za7 e]at he;exact absurd he e
        (rw[Za5 (by rw[c1];simp)]at he;have c2:¬0<=scan (jH gs gs[k].name) k 0:=λe=>by rw[Za7 e]at he;cases he);(rw[Za5 c2]at he;have c3:¬64<=k:=λe=>by rw[Za7 e]at he;cases he);have ec:jM gs (m+1) k=jM gs m (k+1):=by
         rw[jM,H4 h];simp only;rw[Za5 (by rw[c1];simp),Za5 c2,Za5 c3]
        obtain⟨s',g1,g2⟩:=ih (k+1) s2 EY B2 (by omega) (by omega) (by omega);refine⟨s',g1,?_⟩;rw[ec];have eL:gL c F k1 k2 (m+1+1) [.ptr rp 0,.ptr bp 0,eN z gs,.int .i64 (gs.length:Int),.int .i64 (k:Int)] s=gL c F k1 k2 (m+1) [.ptr rp 0,.ptr bp 0,eN z gs,.int .i64 (gs.length:Int),.int .i64 ((k+1:Nat):Int)] s2:=by
         rw[pQ];have hz:ql (gs.take k) gs[k]=0:=(by rw[hA,Za5 (by rw[c1];simp),Za5 c2,Za5 c3]);rw[hz]at a1;simp[eN,h,a1,w]
        rw[eL];exact g2
    .   obtain rfl:=a2 he;have ec:jM gs (m+1) k=((k:Int),ql (gs.take k) gs[k]):=by
         rw[jM,H4 h];simp only;rw[hA]at he ⊢;by_cases c1:fR gs[k]=0
         .  have e1:¬fR gs[k]≠0:=(by rw[c1];simp);by_cases c2:0<=scan (jH gs gs[k].name) k 0
            .simp only[e1,c2,Zh4,Zg8]
            . by_cases c3:64<=k
              .simp only[e1,c2,c3,Zh4,Zg8]
              .rw[Za5 e1,Za5 c2,Za5 c3]at he;exact absurd rfl he
         .  have e1:fR gs[k]≠0:=c1;rw[Za7 e1,Za7 e1]
        refine⟨_,B1.keeps,.inr ⟨by rw[ec];exact he,?_⟩⟩;rw[ec,pQ];simp[eN,h,a1,he]
  .obtain rfl:k=gs.length:=(by omega);have ec:jM gs (m+1) gs.length=(0,0):=(by rw[jM,Zb7 (by omega)]);refine⟨s,B.keeps,.inl ⟨by rw[ec],⟨gk,by simpa using B⟩,?_⟩⟩;rw[pQ];simp
theorem J1{ts:List Ty}{k:Nat}(h:k<ts.length):(ts.take k).getLast? =j0 ts k:=by
 unfold j0;by_cases h0:k=0
 .simp[h0]
 .rw[Za5 h0,List.getLast?_eq_getElem?];have:(ts.take k).length=k:=(by simp;omega);rw[this,Zb8,Za7 (by omega)]
theorem aal{ts:List Ty}{k:Nat}(h:k<ts.length)(hs:GK (ts.take k))(hb:∀u,j0 ts k=some u->eF u ts[k]=true):GK (ts.take (k+1)):=by
 intro i j hj Q3;have wW:j<k+1:=by simp at hj;omega
 simp only[Zl8];by_cases e:j=k
 . subst e;have h1:j0 ts j=some (ts[j - 1]'(by omega)):=(by rw[j0,Za5 (by omega),H4 (by omega)]);have h2:=hb _ h1;by_cases e2:i=j - 1
   .subst e2;exact h2
   .have h3:=hs i (j - 1) (by simp;omega) (by omega);simp only[Zl8]at h3;exact Ed h3 h2
 .have:=hs i j (by simp;omega) Q3;simpa only[Zl8]using this
def LO(t:Ty)(p:Option Ty):Bool:=match p with|none=>false|some p=>eF t p
theorem aam(t:Ty)(p:Option Ty):Pq t p=(!IX t|| !aB t.a t.b||LO t p):=by cases p<;>rfl
def RN(t:Ty)(p:Option Ty):Bool:=aB t.a t.b&& !LO t p
def eK(gs:List aN)(ts:List Ty)(k:Nat)(t:Ty):Int:=if RN t (j0 ts k)=true then qm gs (ts.take k) t else 23
theorem abB (hc:Sem c){s0:St}(CL:Wf s0)(z z2:Bool)(gs:List aN)(ts:List Ty)(hl:gs.length<=100)(nF:ts.length<=100)(bp mp rp:Pos)(FR:s0.heap.get rp=some (.cells [eN z gs,jR z2 ts] 0))(gk:Option Pos)(F:Nat)(k1 k4):∀(m k:Nat)(s:St)(tk:Option Pos),fe s0 s bp mp gs (ts.take k) gk tk->GK (ts.take k)->ts.length<=k+m->k<=ts.length->
  ∃s',bD s0 s'/\((fS gs ts m k).2=0->(∃mY,fe s0 s' bp mp gs ts gk mY)/\GK ts)/\iY c F k1 k4 (m+1) [.ptr rp 0,.ptr bp 0,jR z2 ts,.int .i64 (ts.length:Int),.int .i64 (k:Int)] s=if(fS gs ts m k).2=0 then k4 [.ptr bp 0] s' else k1 [.gH,.int .i64 (fS gs ts m k).1,.int .i64 (fS gs ts m k).2] s':=by
 intro m;induction m with
 |zero=>
  intro k s tk B hs h1 h2;obtain rfl:k=ts.length:=by omega
  refine⟨s,B.keeps,λ_=>⟨⟨tk,by simpa using B⟩,by simpa using hs⟩,?_⟩;rw[pR];simp[fS]
 |succ m ih   =>
  intro k s tk B hs h1 h2;by_cases h:k<ts.length
  . have w:ay .i64 ((k:Int)+1)=((k+1:Nat):Int):=wrap64 (by omega) (by omega);have wg:ay .i64 ((gs.length:Int)+(k:Int))=(gs.length:Int)+k:=wrap64 (by omega) (by omega);have B1:=B.aA (Grew.af B.wf (.cells ts[k].cells 0));have gR:(af s (.cells ts[k].cells 0)).heap.get rp=some (.cells [eN z gs,jR z2 ts] 0):=B1.keeps _ _ FR;have dI:=B1.wf;have aaj:¬256<=k:=(by omega);have ec:fS gs ts (m+1) k=if eK gs ts k ts[k]≠0 then((gs.length:Int)+k,eK gs ts k ts[k])else fS gs ts m (k+1):=by rw[fS,H4 h];simp only[aaj,Zh4];rw[aam];unfold eK RN qm;rw[J1 h];cases IX ts[k]<;>cases aB ts[k].a ts[k].b<;>cases LO ts[k] (j0 ts k)<;>cases kV gs ts[k]<;>cases oa ts[k] (j0 ts k)<;>simp
    have Js   :RN ts[k] (j0 ts k)=true->∃s',bD s0 s'/\(eK gs ts k ts[k]=0->(fS gs ts m (k+1)).2=0->(∃mY,fe s0 s' bp mp gs ts gk mY)/\GK ts)/\∃s2,c 175 [.ptr bp 0,.str ts[k].a,.str ts[k].b,.int .u8 ts[k].k] (af s (.cells ts[k].cells 0))=some (.int .i64 (eK gs ts k ts[k]),s2)/\s2.heap.get rp=some (.cells [eN z gs,jR z2 ts] 0)/\
          (eK gs ts k ts[k]≠0->s'=s2)/\(eK gs ts k ts[k]=0->
            iY c F k1 k4 (m+1) [.ptr rp 0,.ptr bp 0,jR z2 ts,.int .i64 (ts.length:Int),.int .i64 ((k+1:Nat):Int)] s2=if(fS gs ts m (k+1)).2=0 then k4 [.ptr bp 0] s' else k1 [.gH,.int .i64 (fS gs ts m (k+1)).1,.int .i64 (fS gs ts m (k+1)).2] s'):=λeI=>by
        have RO:=eI;simp only[RN,Za8,Zh2]at RO;obtain⟨b2,b3⟩:=RO;have ac9:∀u,(ts.take k).getLast? =some u->eF ts[k] u=false:=λu hu=>by rw[J1 h]at hu;rw[hu]at b3;exact b3
        obtain⟨s2,a1,a2,a3⟩:=ach hc CL B1 (by simp;omega) ts[k] b2 hs ac9;have et:eK gs ts k ts[k]=qm gs (ts.take k) ts[k]:=(by unfold eK;rw[Za7 eI]);rw[<-et]at a1 a2 a3;by_cases h0:eK gs ts k ts[k]=0
        . obtain⟨mY,B2⟩:=a3 h0;have e1:ts.take k++[ts[k]]=ts.take (k+1):=(Zd0 h).symm;rw[e1]at B2;have hd:oa ts[k] (j0 ts k)=false:=by
            rw[et,qm,J1 h]at h0;cases hq:oa ts[k] (j0 ts k)
            .rfl
            . rw[hq]at h0;split at h0
              .simp at h0
              .split at h0<;>simp at h0
          have xp:=aal h hs (λu hu2=>by rw[hu2]at hd;simpa [oa]using hd);obtain⟨s',g1,gB,g2⟩:=ih (k+1) s2 mY B2 xp (by omega) (by omega);exact⟨s',g1,λ_=>gB,s2,a1,B2.keeps _ _ FR,λe=>absurd h0 e,λ_=>g2⟩
        .obtain rfl:=a2 h0;exact⟨_,B1.keeps,λe=>absurd e h0,_,a1,gR,λ_=>rfl,λe=>absurd e h0⟩
    rw[ec];cases eI:RN ts[k] (j0 ts k)
    ·
        have e23:eK gs ts k ts[k]=23:=(by unfold eK;rw[eI];rfl);refine⟨_,B1.keeps,λe=>(by rw[e23,Za7 (by decide)]at e;cases e),?_⟩;rw[pR,e23];cases q1:aB ts[k].a ts[k].b
        .simp[jR,h,q1,p9,gR,wg]
        . have q2:LO ts[k] (j0 ts k)=true:=(by simpa [RN,q1]using eI);have tH:¬k=0:=λe=>by rw[j0,Za7 e]at q2;cases q2
          have rQ:k - 1<ts.length:=(by omega);have wk:ay .i64 ((k:Int) - 1)=((k - 1:Nat):Int):=(by rw[wrap64 (by omega) (by omega)];omega);have q3:eF ts[k] ts[k - 1]=true:=(by rw[j0,Za5 tH,H4 rQ]at q2;exact q2);have ho:=zW hc ts[k - 1] ts[k] _ dI;have vz:¬m9 ts[k - 1] ts[k]<=0:=(by have:=H6.2 q3;omega);simp[jR,h,q1,p9,gR,wg,tH,rQ,wk,ho,vz]
    .   obtain⟨s',g1,gB,s2,t1,t2,t3,t4⟩:=Js eI;refine⟨s',g1,λe=>by
          by_cases he:eK gs ts k ts[k]=0
          .exact gB he (by rw[Za5 (by simp[he])]at e;exact e)
          .rw[Za7 he]at e;exact absurd e he,?_⟩
        rw[pR];have RO:=eI;simp only[RN,Za8,Zh2]at RO;obtain⟨q1,q2⟩:=RO;by_cases he:eK gs ts k ts[k]=0
        . have t4:=t4 he;rw[he]at t1;simp only[he,ne_eq,not_true,Zh4];rw[<-t4];by_cases tH:k=0
          .have dk:decide ((k:Int)=0)=true:=H5 (by omega);have dk':decide (k=0)=true:=H5 tH;clear tH;simp[jR,h,q1,p9,gR,dk,dk',t1,w]
          . have rQ:k - 1<ts.length:=(by omega);have wk:ay .i64 ((k:Int) - 1)=((k - 1:Nat):Int):=(by rw[wrap64 (by omega) (by omega)];omega);have q3:eF ts[k] ts[k - 1]=false:=(by rw[j0,Za5 tH,H4 rQ]at q2;exact q2);have ho:=zW hc ts[k - 1] ts[k] _ dI;have vz:m9 ts[k - 1] ts[k]<=0:=by
              have:¬0<m9 ts[k - 1] ts[k]:=λe=>by rw[H6.1 e]at q3;cases q3
              omega
            simp[jR,h,q1,p9,gR,tH,rQ,wk,ho,vz,t1,w]
        . obtain rfl:=t3 he;simp only[he,ne_eq,not_false_eq_true,Zg8,Zh4];by_cases tH:k=0
          .have dk:decide ((k:Int)=0)=true:=H5 (by omega);have dk':decide (k=0)=true:=H5 tH;clear tH;simp[jR,h,q1,p9,gR,dk,dk',t1,t2,wg,he]
          . have rQ:k - 1<ts.length:=(by omega);have wk:ay .i64 ((k:Int) - 1)=((k - 1:Nat):Int):=(by rw[wrap64 (by omega) (by omega)];omega);have q3:eF ts[k] ts[k - 1]=false:=(by rw[j0,Za5 tH,H4 rQ]at q2;exact q2);have ho:=zW hc ts[k - 1] ts[k] _ dI;have vz:m9 ts[k - 1] ts[k]<=0:=by
              have:¬0<m9 ts[k - 1] ts[k]:=λe=>by rw[H6.1 e]at q3;cases q3
              omega
            simp[jR,h,q1,p9,gR,tH,rQ,wk,ho,vz,t1,t2,wg,he]
  .obtain rfl:k=ts.length:=(by omega);refine⟨s,B.keeps,λ_=>⟨⟨tk,by simpa using B⟩,by simpa using hs⟩,?_⟩;rw[pR];have ec:fS gs ts (m+1) ts.length=(0,0):=(by rw[fS,Zb7 (by omega)]);simp[ec]
theorem Nb(hc:Sem c)(z z2:Bool)(gs:List aN)(ts:List Ty)(hl:gs.length<=100)(nF:ts.length<=100)(s:St)(hw:Wf s):
   ∃v s',c 129 [.agg [eN z gs,jR z2 ts]] s=some (.tuple [v,.int .i64 (cH gs ts).1,.int .i64 (cH gs ts).2],s')/\bD s s'/\((cH gs ts).2=0->∃bp mp gk tk,v= .ptr bp 0/\fe (af s (.cells [eN z gs,jR z2 ts] 0)) s' bp mp gs ts gk tk/\GK ts):=by
 let s0:=af s (.cells [eN z gs,jR z2 ts] 0)
 have CL:Wf s0:=bR hw;have k0:bD s s0:=cC hw;have FR:s0.heap.get s.next=some (.cells [eN z gs,jR z2 ts] 0):=aD _ _;have Jp:=ace hc s0;have B:=fe.start CL
 have finish:∀{v:AV}{s':St},uM c 102 (.agg [eN z gs,jR z2 ts]) s=some (.tuple [v,.int .i64 (cH gs ts).1,.int .i64 (cH gs ts).2],s')->bD s0 s'->((cH gs ts).2=0->∃bp mp gk tk,v= .ptr bp 0/\fe s0 s' bp mp gs ts gk tk/\GK ts)->
     ∃v s',c 129 [.agg [eN z gs,jR z2 ts]] s=some (.tuple [v,.int .i64 (cH gs ts).1,.int .i64 (cH gs ts).2],s')/\bD s s'/\((cH gs ts).2=0->∃bp mp gk tk,v= .ptr bp 0/\fe s0 s' bp mp gs ts gk tk/\GK ts):=λ{v s'} h hk hB=>by
   have h2:=Nc hc 102 h;unfold tidy at h2;split at h2
   .rename_i hp;exact⟨v,s,h2,bD.refl s,λe=>by obtain⟨bp,mp,gk,tk,rfl,_⟩:=hB e;exact absurd hp.1 OQ⟩
   .exact⟨v,s',h2,k0.trans hk,hB⟩
 obtain⟨s1,g1,g2⟩:=abA hc CL z gs hl (af s0 (.map [] 0)).next s0.next s.next 102 (λvs s30=>js vs λx2 vs=>js vs λx3 vs=>js vs λx4 vs=>pZ vs (some (.tuple [x2,x3,x4],s30))) (λvs s31=>js vs λx1 vs=>js vs λx5 vs=>pZ vs (
   ak c (.fieldA 1) [x1] s31 λx29 s32=>ak c (.load none) [x29] s32 λXW XH=>ak c (.lenB .l) [XW] XH λx31 XI=>ak c .move [(.int .i64 0)] XI λx32 XJ=>
   iY c 102 (λvs XX=>js vs λx2 vs=>js vs λx3 vs=>js vs λx4 vs=>pZ vs (some (.tuple [x2,x3,x4],XX))) (λvs XY=>js vs λx5 vs=>pZ vs (
     ak c .move [x5] XY λXZ X0=>ak c .move [XZ] X0 λx2 X4=>ak c .move [(.int .i64 0)] X4 λx3 X5=>ak c .move [(.int .i64 0)] X5 λx4 X6=>some (.tuple [x2,x3,x4],X6))) 102 [x1,x5,XW,x31,x32] XJ)) 101 0 _ none B (by omega) (by omega) (by omega)
 have X7:∀r,gL c 102 (λvs s30=>js vs λx2 vs=>js vs λx3 vs=>js vs λx4 vs=>pZ vs (some (.tuple [x2,x3,x4],s30))) (λvs s31=>js vs λx1 vs=>js vs λx5 vs=>pZ vs (
   ak c (.fieldA 1) [x1] s31 λx29 s32=>ak c (.load none) [x29] s32 λXW XH=>ak c (.lenB .l) [XW] XH λx31 XI=>ak c .move [(.int .i64 0)] XI λx32 XJ=>
   iY c 102 (λvs XX=>js vs λx2 vs=>js vs λx3 vs=>js vs λx4 vs=>pZ vs (some (.tuple [x2,x3,x4],XX))) (λvs XY=>js vs λx5 vs=>pZ vs (
     ak c .move [x5] XY λXZ X0=>ak c .move [XZ] X0 λx2 X4=>ak c .move [(.int .i64 0)] X4 λx3 X5=>ak c .move [(.int .i64 0)] X5 λx4 X6=>some (.tuple [x2,x3,x4],X6))) 102 [x1,x5,XW,x31,x32] XJ)) 102 [.ptr s.next 0,.ptr (af s0 (.map [] 0)).next 0,eN z gs,.int .i64 (gs.length:Int),.int .i64 ((0:Nat):Int)] (af (af s0 (.map [] 0)) (.cells [.ah,.ah,.map s0.next] 0))=r->uM c 102 (.agg [eN z gs,jR z2 ts]) s=r:=λr h=>by
   rw[<-h,RP];have hb:=(B.keeps _ _ FR)
   simp only[oW,GG,aE,kA];show JA (c 172 [] s0) _=_;rw[Jp];simp only[iV,cS,iH,hb,bf,Zd1,Zb1,Zc3,lU,Z5];rfl
 rcases g2 with⟨q1,⟨EY,B2⟩,q3⟩|⟨q1,q3⟩
 . have e:cH gs ts=fS gs ts 101 0:=(by rw[cH,Za5 (by simp[q1])]);obtain⟨s2,r1,rB,r2⟩:=abB hc CL z z2 gs ts hl nF (af s0 (.map [] 0)).next s0.next s.next FR EY 102 (λvs XX=>js vs λx2 vs=>js vs λx3 vs=>js vs λx4 vs=>pZ vs (some (.tuple [x2,x3,x4],XX))) (λvs XY=>js vs λx5 vs=>pZ vs (
     ak c .move [x5] XY λXZ X0=>ak c .move [XZ] X0 λx2 X4=>ak c .move [(.int .i64 0)] X4 λx3 X5=>ak c .move [(.int .i64 0)] X5 λx4 X6=>some (.tuple [x2,x3,x4],X6))) 101 0 s1 none (by simpa using B2) (by intro i j hj;simp at hj) (by omega) (by omega)
   have EM:s1.heap.get s.next=some (.cells [eN z gs,jR z2 ts] 0):=B2.keeps _ _ FR;have hL:=X7 _ q3;simp only[aH,dD,cS,iH,EM,bf,Zd1,Ze3,Zb1,Zc3,lU,Z9,aE]at hL;have TZ:=r2;rw[show(((0:Nat):Int))=0 from rfl]at TZ;simp only[aE,Nat.reduceAdd]at TZ;rw[TZ]at hL;rw[e]at finish ⊢;by_cases h2:(fS gs ts 101 0).2=0
   . have h3:=LM gs ts 101 0 h2;rw[Za7 h2]at hL;simp only[aH,dD]at hL;exact finish (by rw[h2,h3];exact hL) r1 (λe=>by
        obtain⟨⟨mY,B3⟩,hs⟩:=rB e;exact⟨_,_,_,_,rfl,B3,hs⟩)
   .rw[Za5 h2]at hL;simp only[aH,dD]at hL;exact finish hL r1 (λe=>absurd e h2)
 .have e:cH gs ts=jM gs 101 0:=(by rw[cH,Za7 q1]);have hL:=X7 _ q3;simp only[aH,dD]at hL;rw[e]at finish ⊢;exact finish hL g1 (λe=>absurd e q1)
theorem RQ(hc:Sem c)(z z2:Bool)(gs:List aN)(ts:List Ty)(hl:gs.length<=100)(nF:ts.length<=100)(s:St)(hw:Wf s):c 80 [.agg [eN z gs,jR z2 ts]] s=some (.tuple [.int .i64 (cH gs ts).1,.int .i64 (cH gs ts).2],s):=by
 have CL:Wf (af s (.cells [eN z gs,jR z2 ts] 0)):=bR hw;obtain⟨v,s',h1,h2,_⟩:=Nb hc z z2 gs ts hl nF _ CL;have Wk:cut [eN z gs,jR z2 ts] 0 2=some [eN z gs,jR z2 ts]:=bQ rfl;rw[Fs hc 1 (r:=(.tuple [.int .i64 (cH gs ts).1,.int .i64 (cH gs ts).2],s')),aL (Plain.tuple (by simp[Plain.int])) ((cC hw).trans h2)];rw[Ij];simp[Wk,h1]
structure Rl where
 k:Int
 wt:Int
 a:List Nat
 b:List Nat
 t:List Nat
 n:Int
def Rl.cells(r:Rl):List AV:=[.int .u8 r.k,.int .i64 r.wt,.str r.a,.str r.b,.str r.t,.int .i64 r.n]
@[simp] theorem Rl.c0(t:Rl):t.cells[0]? =some (.int .u8 t.k):=id rfl
@[simp] theorem Rl.c1(t:Rl):t.cells[1]? =some (.int .i64 t.wt):=id rfl
@[simp] theorem Rl.c2(t:Rl):t.cells[2]? =some (.str t.a):=id rfl
@[simp] theorem Rl.c3(t:Rl):t.cells[3]? =some (.str t.b):=id rfl
@[simp] theorem Rl.c4(t:Rl):t.cells[4]? =some (.str t.t):=id rfl
@[simp] theorem Rl.c5(t:Rl):t.cells[5]? =some (.int .i64 t.n):=id rfl
@[simp] theorem Rl.cc(t:Rl):cut t.cells 0 6=some t.cells:=bQ rfl
@[simp] theorem Rl.one(t:Rl):aO t.cells=true:=id rfl
def CN(z:Bool)(rs:List Rl):AV:=ro 6 z (rs.map Rl.cells)
@[simp] theorem adv{R:Type}(c:ai)(K:AV->St->Option R)(st:St)(z:Bool)(l:List Rl):ak c (.lenB .l) [CN z l] st K=K (.int .i64 (l.length:Int)) st:=by unfold CN;rw[jZ];simp
structure bX where
 tz:Bool
 ts:List aR
 gz:Bool
 gs:List aN
 yz:Bool
 ys:List Ty
 cz:Bool
 cs:List Int
 rz:Bool
 rs:List Rl
def bX.cells(p:bX):List AV:=[tabs p.tz p.ts,eN p.gz p.gs,jR p.yz p.ys,ints p.cz p.cs,CN p.rz p.rs]
@[simp] theorem bX.c0(p:bX):p.cells[0]? =some (tabs p.tz p.ts):=id rfl
@[simp] theorem bX.c1(p:bX):p.cells[1]? =some (eN p.gz p.gs):=id rfl
@[simp] theorem bX.c2(p:bX):p.cells[2]? =some (jR p.yz p.ys):=id rfl
@[simp] theorem bX.c3(p:bX):p.cells[3]? =some (ints p.cz p.cs):=id rfl
@[simp] theorem bX.c4(p:bX):p.cells[4]? =some (CN p.rz p.rs):=id rfl
@[simp] theorem bX.cc(p:bX):cut p.cells 0 5=some p.cells:=bQ rfl
structure bX.EW(p:bX):Prop where
 ts:p.ts.length<=100
 gs:p.gs.length<=100
 ys:p.ys.length<=100
 cs:p.cs.length<=100
 rs:p.rs.length<=100
 ok:∀t∈p.ts,t.Ok
def qM(l:List Int):Bool:=l.all λc=>decide (0<=c)&&decide (c<64)
def ia(p:bX):Int×Int:=
 if(bG p.ts).2≠0 then bG p.ts else if(cH p.gs p.ys).2≠0 then cH p.gs p.ys
 else if p.cs.length≠0/\p.cs.length≠p.gs.length then(0,44)else if qM p.cs=false then(0,44)
 else if bC p.ts<p.gs.length then(0,45)else(0,0)
theorem SB{p:bX}(h:(ia p).2=0):(ia p).1=0:=by
 unfold ia at h ⊢;by_cases h1:(bG p.ts).2≠0
 .rw[Za7 h1]at h;exact absurd h h1
 rw[Za5 h1]at h ⊢;by_cases h2:(cH p.gs p.ys).2≠0
 .rw[Za7 h2]at h;exact absurd h h2
 rw[Za5 h2]
 repeat' split
 all_goals rfl
theorem Vl(p:bX)(hp:p.EW)(q:Pos)(F:Nat)(s:St)(k1 k2):∀(m k:Nat),p.cs.length<=k+m->k<=p.cs.length->
  lK c F k1 k2 (m+1) [.ptr q 0,ints p.cz p.cs,.int .i64 (p.cs.length:Int),.int .i64 (k:Int)] s=if qM (p.cs.drop k)=true then k2 [.ptr q 0] s else k1 [.int .i64 0,.int .i64 44] s:=by
 have hl:=hp.cs;intro m;induction m with
 |zero=>
  intro k h1 h2;obtain rfl:k=p.cs.length:=by omega
  rw[Bk];simp[qM]
 |succ m ih=>
  intro k h1 h2;rw[Bk];by_cases h:k<p.cs.length
  . have e:p.cs.drop k=p.cs[k]::p.cs.drop (k+1):=Zd8 h;have w:ay .i64 ((k:Int)+1)=((k+1:Nat):Int):=wrap64 (by omega) (by omega);have:=ih (k+1) (by omega) (by omega);have ec:qM (p.cs.drop k)=((decide (0<=p.cs[k])&&decide (p.cs[k]<64))&&qM (p.cs.drop (k+1))):=(by rw[e];rfl);rw[ec];generalize qM (p.cs.drop (k+1))=rest at this ⊢;by_cases h3:p.cs[k]<0
    .   have h4:(decide (0<=p.cs[k])&&decide (p.cs[k]<64))=false:=(by simp;omega);rw[h4];simp[ints,h,h3]
    .   by_cases h5:64<=p.cs[k]
        .have h4:(decide (0<=p.cs[k])&&decide (p.cs[k]<64))=false:=(by simp;omega);rw[h4];simp[ints,h,h3,h5]
        .have h4:(decide (0<=p.cs[k])&&decide (p.cs[k]<64))=true:=(by simp;omega);rw[h4,Zg6, <-this];simp[ints,h,h3,h5,w]
  .obtain rfl:k=p.cs.length:=(by omega);simp[qM]
theorem Vm{d:Nat}(z:Bool)(l:List (List Nat)):gK (d+1) (mF z l):=gK.ro λr hr v hv=>by simp only[Zf3]at hr;obtain⟨i,_,rfl⟩:=hr;simp only[Zd2]at hv;subst hv;exact gK.str _
theorem Vn(z:Bool)(l:List aN):gK 3 (eN z l):=gK.ro λr hr v hv=>by simp only[Zf3]at hr;obtain⟨g,_,rfl⟩:=hr;simp only[aN.cells,Za9,Ze5,Zi9]at hv;rcases hv with rfl|rfl|rfl|rfl|rfl|rfl|rfl|rfl|rfl<;>first|exact gK.str _|exact gK.int _ _|exact gK.bool _|exact Vm _ _
theorem qp(z z2:Bool)(gs:List aN)(ts:List Ty):bW [.ah,.ah] [(0,1),(1,1)] [eN z gs,jR z2 ts]=some [eN z gs,jR z2 ts]:=by have e1:(eN z gs).cells=[eN z gs]:=QG _ _ _;have e2:(jR z2 ts).cells=[jR z2 ts]:=QG _ _ _;unfold bW;rw[e1];show bW [eN z gs,.ah] [(1,1)] [jR z2 ts]=_;unfold bW;rw[e2];rfl
def RR(c:ai)(p:bX):Prop:=(∀st,Wf st->c 80 [.agg [eN p.gz p.gs,jR p.yz p.ys]] st=some (.tuple [.int .i64 (cH p.gs p.ys).1,.int .i64 (cH p.gs p.ys).2],st))
theorem aan (hc:Sem c)(p:bX)(hp:p.EW)(hR:RR c p)(st:St)(hw:Wf st):c 67 [.agg p.cells] st=some (.tuple [.int .i64 (ia p).1,.int .i64 (ia p).2],st):=by
 have dI:Wf (af st (.cells p.cells 0)):=bR hw;have RM:=Grew.af hw (.cells p.cells 0);have gR:(af st (.cells p.cells 0)).heap.get st.next=some (.cells p.cells 0):=aD _ _;have A:=IW hc p.tz p.ts hp.ok _ dI;have B:=hR _ dI;have D:=wB hc p.tz p.ts hp.ok _ dI;have L:∀k1 k2,lK c 101 k1 k2 101 [.ptr st.next 0,ints p.cz p.cs,.int .i64 (p.cs.length:Int),.int .i64 0] (af st (.cells p.cells 0))=if qM p.cs=true then k2 [.ptr st.next 0] (af st (.cells p.cells 0))else k1 [.int .i64 0,.int .i64 44] (af st (.cells p.cells 0)):=
   λk1 k2=>Vl (c:=c) p hp st.next 101 (af st (.cells p.cells 0)) k1 k2 100 0 (by have:=hp.cs;omega) (by omega)
 have xB:=λ(K:AV->Option (AV×St))=>we K (p:=st.next) (o:=1) (h:=(af st (.cells p.cells 0)).heap) (h2:=(af st (.cells p.cells 0)).heap) (v:=eN p.gz p.gs) (by rw[gR];rfl) (by rw[gR];rfl) (W0 (Vn _ _))
 rw[Nd hc 101 (r:=(.tuple [.int .i64 (ia p).1,.int .i64 (ia p).2],af st (.cells p.cells 0))),aL (Plain.tuple (by simp[Plain.int])) RM.keeps];rw[RT];unfold ia;by_cases h1:(bG p.ts).2=0
 . by_cases h2:(cH p.gs p.ys).2=0
   . simp only[h1,Zg8]at D;by_cases h3:p.cs.length=0
     .  have h4:p.cs=[]:=(by simpa using h3);have L1:qM p.cs=true:=(by rw[h4];rfl);have e0:((p.cs.length:Nat):Int)=0:=(by omega);simp only[L1,Zg8,e0]at L;by_cases h6:bC p.ts<p.gs.length
        .simp[qp,h1,h2,h3,A,B,D,gR,L1,L,xB,h6]
        .simp[qp,h1,h2,h3,A,B,D,gR,L1,L,xB,h6]
     .  by_cases h4:p.cs.length=p.gs.length
        . cases h5:qM p.cs with
          | false=>
            simp only[h5,Zg3,Zh4,h4]at L;have h7:0<p.cs.length:=(by omega);have h8:0<p.gs.length:=(by omega);simp[qp,h1,h2,h3,h4,h5,h7,h8,A,B,gR,L]
          | true=>
            simp only[h5,Zg8,h4]at L;have h7:0<p.cs.length:=(by omega);have h8:0<p.gs.length:=(by omega);by_cases h6:bC p.ts<p.gs.length
            .simp[qp,h1,h2,h3,h4,h5,h7,h8,A,B,D,gR,L,xB,h6]
            .simp[qp,h1,h2,h3,h4,h5,h7,h8,A,B,D,gR,L,xB,h6]
        .have h7:0<p.cs.length:=(by omega);have h4i:¬((p.cs.length:Int)=(p.gs.length:Int)):=(by omega);simp[qp,h1,h2,h3,h4,h4i,h7,A,B,gR]
   .simp[qp,h1,h2,A,B,gR]
 .simp[h1,A,gR]
theorem abC(hc:Sem c){p:bX}(hp:p.EW):RR c p:=λst hw=>RQ hc p.gz p.yz p.gs p.ys hp.gs hp.ys st hw
theorem X9(z:Bool)(rs:List (List AV))(hl:rs.length<rO)(cW:∀cs∈rs,cs.length=9)(g:Nat)(v:List AV)(P:Nat->Bool)(st:St)(F:Nat)(k1 k2)
  (hP:∀i (h:i<rs.length),c g (.agg rs[i]::v) st=some (.bool (P i),st)):∀(m k:Nat),rs.length<=k+m->k<=rs.length->
  bM c F k1 k2 (m+1) [ro 9 z rs,.func g [] v,.int .i64 (rs.length:Int),.int .i64 (k:Int)] st=if 0<=scan P (rs.length - k) k then k1 [.int .i64 (scan P (rs.length - k) k)] st else k2 [] st:=by
 intro m;induction m with
 |zero=>
  intro k h1 h2;obtain rfl:k=rs.length:=by omega
  rw[iu];simp[scan]
 |succ m ih=>
  intro k h1 h2;rw[iu];by_cases h:k<rs.length
  . have e:rs.length - k=(rs.length - (k+1))+1:=(by omega);have w:ay .i64 ((k:Int)+1)=((k+1:Nat):Int):=wrap64 (by omega) (by unfold rO at hl;omega);have hcut:cut rs[k] 0 9=some rs[k]:=bQ (cW _ (Zb9 h));have hp:=hP k h;rw[e,scan];cases hb:P k
    .   simp only[Zg3,Zh4];rw[<-ih (k+1) (by omega) (by omega)];simp[h,hcut,hp,hb,w]
    .   simp[h,hcut,hp,hb]
  .obtain rfl:k=rs.length:=(by omega);simp[scan]
theorem abD(hc:Sem c)(z:Bool)(rs:List (List AV))(hl:rs.length<rO)(cW:∀cs∈rs,cs.length=9)(g:Nat)(v:List AV)(P:Nat->Bool)(st:St)
   (hP:∀i (h:i<rs.length),c g (.agg rs[i]::v) st=some (.bool (P i),st)):c 144 [ro 9 z rs,.func g [] v] st=some (.int .i64 (scan P rs.length 0),st):=by
 rw[od hc (rs.length+1) (r:=(.int .i64 (scan P rs.length 0),st)),aL (Plain.int _ _) (bD.refl st)];rw[o8];have L:∀k1 k2,bM c (rs.length+1) k1 k2 (rs.length+1) [ro 9 z rs,.func g [] v,.int .i64 (rs.length:Int),.int .i64 0] st=if 0<=scan P (rs.length - 0) 0 then k1 [.int .i64 (scan P (rs.length - 0) 0)] st else k2 [] st:=
   λk1 k2=>X9 z rs hl cW g v P st _ k1 k2 hP rs.length 0 (by omega) (by omega)
 rw[Zo4]at L;by_cases h:0<=scan P rs.length 0
 .simp[L,h]
 .have:=(MV P rs.length 0).2 (by omega);simp[L,this]
theorem abE(hc:Sem c)(g:aN)(s:List Nat)(p:Pos)(st:St)(hw:Wf st)(hp:st.heap.get p=some (.cells [.str s] 0)):c 145 [.agg g.cells,.ptr p 0] st=some (.bool (decide (g.name=s)),st):=by
 rw[Nf hc 1 (r:=(.bool (decide (g.name=s)),af st (.cells g.cells 0))),aL (Plain.bool _) (cC hw)];rw[RU];have:(af st (.cells g.cells 0)).heap.get p=some (.cells [.str s] 0):=cC hw _ _ hp;simp[this]
theorem aci(hc:Sem c)(p:bX)(hp:p.EW)(s:List Nat)(st:St)(hw:Wf st):c 100 [.agg p.cells,.str s] st=some (.int .i64 (scan (jH p.gs s) p.gs.length 0),st):=by
 have dI:Wf (af st (.cells p.cells 0)):=bR hw;have mT:=bR (b:= .cells [.str s] 0) dI;have hg:=(Grew.af hw (.cells p.cells 0)).trans (Grew.af dI (.cells [.str s] 0));have gR:(af (af st (.cells p.cells 0)) (.cells [.str s] 0)).heap.get st.next=some (.cells p.cells 0):=by have:=aD st (.cells p.cells 0);exact(Grew.af dI (.cells [.str s] 0)).get this
 have hi:=abD hc p.gz (p.gs.map aN.cells) (by have:=hp.gs;simp;unfold rO;omega) (λcs e9=>by
   simp only[Zf3]at e9;obtain⟨t,_,rfl⟩:=e9;rfl) 145 [.ptr (af st (.cells p.cells 0)).next 0] (jH p.gs s) (af (af st (.cells p.cells 0)) (.cells [.str s] 0)) (λi hi=>by
   have TP:i<p.gs.length:=(by simpa using hi);have:=abE hc p.gs[i] s (af st (.cells p.cells 0)).next _ mT (aD _ _);simp only[Zl0];rw[this];simp[jH,TP])
 rw[Zb3]at hi;rw[RV hc 1 (r:=(.int .i64 (scan (jH p.gs s) p.gs.length 0),af (af st (.cells p.cells 0)) (.cells [.str s] 0))),aL (Plain.int _ _) hg.keeps];rw[Vo];have e:(AV.str s).cells=[.str s]:=rfl;simp[e,hi,gR,eN]
structure Kd where
 w:List Nat
 a:Int
 b:Bool
 t:Int
 n:Bool
 lo:Int
 wD:Bool
 f:AV
def Kd.cells(k:Kd):List AV:=[.str k.w,.int .u8 k.a,.bool k.b,.int .u8 k.t,.bool k.n,.int .i64 k.lo,.bool k.wD,k.f]
@[simp] theorem Kd.c0(t:Kd):t.cells[0]? =some (.str t.w):=id rfl
@[simp] theorem Kd.c1(t:Kd):t.cells[1]? =some (.int .u8 t.a):=id rfl
@[simp] theorem Kd.c2(t:Kd):t.cells[2]? =some (.bool t.b):=id rfl
@[simp] theorem Kd.c3(t:Kd):t.cells[3]? =some (.int .u8 t.t):=id rfl
@[simp] theorem Kd.c4(t:Kd):t.cells[4]? =some (.bool t.n):=id rfl
@[simp] theorem Kd.c5(t:Kd):t.cells[5]? =some (.int .i64 t.lo):=id rfl
@[simp] theorem Kd.c6(t:Kd):t.cells[6]? =some (.bool t.wD):=id rfl
@[simp] theorem Kd.cc(t:Kd):cut t.cells 0 8=some t.cells:=bQ rfl
def CO(k:Kd)(r:Rl):Bool:=(decide (k.a≠0)||decide (r.a=[]))&&(k.b||decide (r.b=[]))&&(decide (k.t≠0)||decide (r.t=[]))&&(k.n||decide (r.n=0))
theorem aao (hc:Sem c)(k:Kd)(r:Rl)(st:St)(hw:Wf st):c 99 [.agg k.cells,.agg r.cells] st=some (.bool (CO k r),st):=by
 have dI:Wf (af st (.cells k.cells 0)):=bR hw;have xq:=Grew.af dI (.cells r.cells 0);have hg:=(Grew.af hw (.cells k.cells 0)).trans xq;have p1:=xq.get (aD st (.cells k.cells 0));have p2:=aD (af st (.cells k.cells 0)) (.cells r.cells 0);rw[Ft hc 1 (r:=(.bool (CO k r),af (af st (.cells k.cells 0)) (.cells r.cells 0))),aL (Plain.bool _) hg.keeps];rw[Ik];unfold CO;by_cases h0:k.a=0;rotate_left
 . cases  h2:k.b with
   |true=>
    by_cases h4:k.t=0;rotate_left
    .   cases h6:k.n with
        | true=>
          simp[h0,h2,h4,h6]
        | false=>
          by_cases h7:r.n=0
          .simp[h0,h2,h4,h6,h7]
          .simp[h0,h2,h4,h6,h7]
    by_cases h5:r.t=[]
    .   cases h6:k.n with
        | true=>
          simp[h0,h2,h4,h5,h6]
        | false=>
          by_cases h7:r.n=0
          .simp[h0,h2,h4,h5,h6,h7]
          .simp[h0,h2,h4,h5,h6,h7]
    .   simp[h0,h2,h4,h5]
   |false   =>
    by_cases h3:r.b=[]
    .   by_cases h4:k.t=0;rotate_left
        . cases h6:k.n with
          | true=>
            simp[h0,h2,h3,h4,h6]
          | false=>
            by_cases h7:r.n=0
            .simp[h0,h2,h3,h4,h6,h7]
            .simp[h0,h2,h3,h4,h6,h7]
        by_cases h5:r.t=[]
        . cases h6:k.n with
          | true=>
            simp[h0,h2,h3,h4,h5,h6]
          | false=>
            by_cases h7:r.n=0
            .simp[h0,h2,h3,h4,h5,h6,h7]
            .simp[h0,h2,h3,h4,h5,h6,h7]
        .simp[h0,h2,h3,h4,h5]
    .   simp[h0,h2,h3]
 by_cases h1:r.a=[]
 . cases  h2:k.b with
   |true=>
    by_cases h4:k.t=0;rotate_left
    .   cases h6:k.n with
        | true=>
          simp[h0,h1,h2,h4,h6]
        | false=>
          by_cases h7:r.n=0
          .simp[h0,h1,h2,h4,h6,h7]
          .simp[h0,h1,h2,h4,h6,h7]
    by_cases h5:r.t=[]
    .   cases h6:k.n with
        | true=>
          simp[h0,h1,h2,h4,h5,h6]
        | false=>
          by_cases h7:r.n=0
          .simp[h0,h1,h2,h4,h5,h6,h7]
          .simp[h0,h1,h2,h4,h5,h6,h7]
    .   simp[h0,h1,h2,h4,h5]
   |false   =>
    by_cases h3:r.b=[]
    .   by_cases h4:k.t=0;rotate_left
        . cases h6:k.n with
          | true=>
            simp[h0,h1,h2,h3,h4,h6]
          | false=>
            by_cases h7:r.n=0
            .simp[h0,h1,h2,h3,h4,h6,h7]
            .simp[h0,h1,h2,h3,h4,h6,h7]
        by_cases h5:r.t=[]
        . cases h6:k.n with
          | true=>
            simp[h0,h1,h2,h3,h4,h5,h6]
          | false=>
            by_cases h7:r.n=0
            .simp[h0,h1,h2,h3,h4,h5,h6,h7]
            .simp[h0,h1,h2,h3,h4,h5,h6,h7]
        .simp[h0,h1,h2,h3,h4,h5]
    .   simp[h0,h1,h2,h3]
 .simp[h0,h1]
theorem tR{R:Type}(P:(List AV->St->Option R)->Prop){A:(List AV->St->Option R)->Option R}{T:List AV->St->Option R}{r:Option R}(hT:P T)(hA:∀j,P j->A j=r):fY A T=r:=hA T hT
theorem Ef{R:Type}(c:ai)(K:AV->St->Option R)(st:St)(es:Nat)(z:Bool)(rs:List (List AV))(k k':IntKind)(i j:Nat)(h:i<j)(h2:j<=rs.length):
  ak c (.sliceL es true true false) [ro es z rs,.int k (i:Int),.int k' (j:Int)] st K=K (ro es false ((rs.take j).drop i)) st:=by
 have:∀H n,av.run H n (.sliceL es true true false) [ro es z rs,.int k (i:Int),.int k' (j:Int)]=some (.val (ro es false ((rs.take j).drop i))):=λH n=>by
  rw[Td (by intro e;subst e;simp at h2;omega)];have h3:i<=j:=by omega
  simp[av.run,ny,bounds,gO,eW,eo,h3,h2,ro]
 exact aS c K this st
theorem Ox(ts:List aR):∀(m k:Nat),(fG ts m k).2=0->∀i,k<=i->i<k+m->∀h:i<ts.length,rq ts[i]=0
 |0,k,_,i,h1,h2,_=>by omega
 |m +   1,k,h,i,h1,h2,hi=>by
  have hk:k<ts.length:=by omega
  rw[fG,H4 hk]at h;simp only at h;by_cases h3:rq ts[k]=0
  . rw[Za5 (by simp[h3])]at h;by_cases h4:0<=scan (m7 ts ts[k].name) k 0
    .   rw[Za7 h4]at h;simp at h
    .   rw[Za5 h4]at h;by_cases e:i=k
        .subst e;exact h3
        .exact Ox ts m (k+1) h i (by omega) (by omega) hi
  .rw[Za7 h3]at h;exact absurd h h3
theorem Bl{ts:List aR}(h:(bG ts).2=0)(i:Nat)(hi:i<ts.length):rq ts[i]=0:=by
 unfold bG at h;split at h
 .simp at h
 .exact Ox ts ts.length 0 h i (by omega) (by omega) hi
theorem Bm{t:aR}(h:rq t=0):(bG [t]).2=0:=by
 simp[bG,fG,h,scan]
def gi(p:bX)(s:List Nat):Int:=scan (jH p.gs s) p.gs.length 0
def ti(p:bX)(s:List Nat):Int:=scan (m7 p.ts s) p.ts.length 0
def ru(p:bX)(i:Int):Int:=match p.ts[i.toNat]? with
 |some t=>dN t
 |none=>0
def uN(k:Kd)(r:Rl)(m:Int):Int:=if k.n=true/\(r.n<k.lo\/m<r.n)then 42 else 0
def LP(k:Kd)(p:bX)(r:Rl):Int:=
 if(k.t=116/\ti p r.t<0)\/(k.t=101/\r.t≠[]/\ti p r.t<0)then 6
 else uN k r (if k.wD=true then ru p (ti p r.t) - 1 else 24)
def RW(k:Kd)(p:bX)(r:Rl):Int:=
 if k.a=100/\jG r.a=false then 4 else if k.b=true/\r.a=r.b then 5 else LP k p r
def J2(k:Kd)(p:bX)(r:Rl):Int:=
 if k.w=[]then 40 else if r.wt<0\/1000<r.wt then 41 else if CO k r=false then 43
 else if(k.a=103/\gi p r.a<0)\/(k.a=101/\r.a≠[]/\gi p r.a<0)\/(k.b=true/\gi p r.b<0)then 6
 else RW k p r
theorem Ya (hc:Sem c)(k:Kd)(hk:k.wD=true->k.t=116)(p:bX)(hp:p.EW)(hv:(bG p.ts).2=0)(r:Rl)(st:St)(hw:Wf st):
   c 69 [.agg k.cells,.agg p.cells,.agg r.cells] st=some (.int .i64 (J2 k p r),st):=by
 have dI:Wf (af st (.cells k.cells 0)):=bR hw;have mT:=bR (b:= .cells p.cells 0) dI;have Yb:=Grew.af mT (.cells r.cells 0);have xq:=Grew.af dI (.cells p.cells 0);have hg:=((Grew.af hw (.cells k.cells 0)).trans xq).trans Yb;have RX:=hg.wf;have p1:=Yb.get (xq.get (aD st (.cells k.cells 0)));have p2:=Yb.get (aD (af st (.cells k.cells 0)) (.cells p.cells 0));have p3:=aD (af (af st (.cells k.cells 0)) (.cells p.cells 0)) (.cells r.cells 0);have A:=λs=>aci hc p hp s _ RX
 have B:=aao hc k r _ RX;have D:=abx hc p.tz p.ts hp.ok (by have:=hp.ts;unfold rO;omega) r.t _ RX;have N:=Rv hc r.a (af (af (af st (.cells k.cells 0)) (.cells p.cells 0)) (.cells r.cells 0));rw[Fu hc 1 (r:=(.int .i64 (J2 k p r),af (af (af st (.cells k.cells 0)) (.cells p.cells 0)) (.cells r.cells 0))),aL (Plain.int _ _) hg.keeps];rw[Il];simp only[oW,aE,AV.cells];generalize af (af (af st (.cells k.cells 0)) (.cells p.cells 0)) (.cells r.cells 0)=s at*
 generalize (af (af st (.cells k.cells 0)) (.cells p.cells 0)).next=q3 at*
 generalize (af st (.cells k.cells 0)).next=q2 at*
 generalize st.next=q1 at*
 refine tR (P:=λj=>j [.ptr q1 0,.ptr q2 0,.ptr q3 0] s=some (.int .i64 (LP k p r),s)) ?_ ?_
 . have D2  : c 102 [tabs p.tz p.ts,.str r.t] s=some (.tuple [.int .i64 (if 0<=ti p r.t then ti p r.t else 0),.bool (decide (0<=ti p r.t))],s):=(by simp only[hv,Zk6]at D;exact D);have Nu:=wA (P:=m7 p.ts r.t) p.ts.length 0;clear D A B N hg xq Yb hw dI mT;unfold LP;by_cases ht:0<=ti p r.t
   . have GN  : ¬ ti p r.t<0:=(by omega);obtain⟨i,hi⟩:∃i:Nat,ti p r.t=(i:Int):=⟨(ti p r.t).toNat,by omega⟩
     have jt:i<p.ts.length:=(by have:=(Nu ht).2.1;unfold ti at hi;rw[hi]at this;simpa using this);simp only[ht,Zg8,Zk9]at D2;by_cases h1:k.t=116
     .  simp[ p1,p2,p3,D2,h1,GN];refine tR (P:=λj=>∀m,j [.ptr q1 0,.ptr q3 0,.int .i64 m] s=some (.int .i64 (uN k r m),s)) ?_ ?_
        . intro m;unfold uN;cases hn:k.n with
          |false=>simp[p1,hn]
          | true=>
            by_cases e1:r.n<k.lo
            .simp[p1,p3,hn,e1]
            . by_cases e2:m<r.n
              .simp[p1,p3,hn,e1,e2]
              .simp[p1,p3,hn,e1,e2]
        . intro j hj;cases hs:k.wD with
          |false=>simp[p1,hs,hj]
          | true=>
            have w:ay .i64 ((i:Int)+1)=(i:Int)+1:=(by have:=hp.ts;exact wrap64 (by omega) (by omega));have cnt:=wB hc false [p.ts[i]] (λt ht=>by simp only[Zd2]at ht;subst ht;exact hp.ok _ (Zb9 jt)) s RX;rw[Za7 (Bm (Bl hv i jt)),show bC [p.ts[i]]=dN p.ts[i]by simp[bC]]at cnt;have b:=CH p.ts[i];have w2:ay .i64 (dN p.ts[i] - 1)=dN p.ts[i] - 1:=wrap64 (by omega) (by omega);have hcut:∀K:AV->St->Option (AV×St),ak c (.sliceL 7 true true false) [tabs p.tz p.ts,.int .i64 (i:Int),.int .i64 ((i:Int)+1)] s K=K (tabs false [p.ts[i]]) s:=λK=>by
              (unfold tabs;have:=Ef c K s 7 p.tz (p.ts.map aR.cells) .i64 .i64 i (i+1) (by omega) (by rw[Zb3];omega);rw[show((i:Int)+1)=((i+1:Nat):Int)by omega,this];have e:((p.ts.map aR.cells).take (i+1)).drop i=[p.ts[i]].map aR.cells:=by rw[Zd0 (by simpa using jt),Zf6 (by simp;omega)];simp);rw[e]
            have e3:ru p (i:Int)=dN p.ts[i]:=(by simp[ru,jt]);simp[p1,p2,hs,hi,e3,w,hcut,cnt,hj,w2]
     .  by_cases h2 :k.t=101
        . by_cases h3:r.t=[]
          . simp only[h3]at D2 GN hi;simp[p1,p2,p3,D2,h1,h2,h3,GN];refine tR (P:=λj=>∀m,j [.ptr q1 0,.ptr q3 0,.int .i64 m] s=some (.int .i64 (uN k r m),s)) ?_ ?_
            . intro m;unfold uN;cases hn:k.n with
              |false=>simp[p1,hn]
              | true=>
                by_cases e1:r.n<k.lo
                .simp[p1,p3,hn,e1]
                . by_cases e2:m<r.n
                  .simp[p1,p3,hn,e1,e2]
                  .simp[p1,p3,hn,e1,e2]
            . intro j hj;cases hs:k.wD with
              |false=>simp[p1,hs,hj]
              | true=>
                have w:ay .i64 ((i:Int)+1)=(i:Int)+1:=(by have:=hp.ts;exact wrap64 (by omega) (by omega));have cnt:=wB hc false [p.ts[i]] (λt ht=>by simp only[Zd2]at ht;subst ht;exact hp.ok _ (Zb9 jt)) s RX;rw[Za7 (Bm (Bl hv i jt)),show bC [p.ts[i]]=dN p.ts[i]by simp[bC]]at cnt;have b:=CH p.ts[i];have w2:ay .i64 (dN p.ts[i] - 1)=dN p.ts[i] - 1:=wrap64 (by omega) (by omega);have hcut:∀K:AV->St->Option (AV×St),ak c (.sliceL 7 true true false) [tabs p.tz p.ts,.int .i64 (i:Int),.int .i64 ((i:Int)+1)] s K=K (tabs false [p.ts[i]]) s:=λK=>by
                  (unfold tabs;have:=Ef c K s 7 p.tz (p.ts.map aR.cells) .i64 .i64 i (i+1) (by omega) (by rw[Zb3];omega);rw[show((i:Int)+1)=((i+1:Nat):Int)by omega,this];have e:((p.ts.map aR.cells).take (i+1)).drop i=[p.ts[i]].map aR.cells:=by rw[Zd0 (by simpa using jt),Zf6 (by simp;omega)];simp);rw[e]
                have e3:ru p (i:Int)=dN p.ts[i]:=(by simp[ru,jt]);simp[p1,p2,hs,hi,e3,w,hcut,cnt,hj,w2]
          . simp[ p1,p2,p3,D2,h1,h2,h3,GN];refine tR (P:=λj=>∀m,j [.ptr q1 0,.ptr q3 0,.int .i64 m] s=some (.int .i64 (uN k r m),s)) ?_ ?_
            . intro m;unfold uN;cases hn:k.n with
              |false=>simp[p1,hn]
              | true=>
                by_cases e1:r.n<k.lo
                .simp[p1,p3,hn,e1]
                . by_cases e2:m<r.n
                  .simp[p1,p3,hn,e1,e2]
                  .simp[p1,p3,hn,e1,e2]
            . intro j hj;cases hs:k.wD with
              |false=>simp[p1,hs,hj]
              | true=>
                have w:ay .i64 ((i:Int)+1)=(i:Int)+1:=(by have:=hp.ts;exact wrap64 (by omega) (by omega));have cnt:=wB hc false [p.ts[i]] (λt ht=>by simp only[Zd2]at ht;subst ht;exact hp.ok _ (Zb9 jt)) s RX;rw[Za7 (Bm (Bl hv i jt)),show bC [p.ts[i]]=dN p.ts[i]by simp[bC]]at cnt;have b:=CH p.ts[i];have w2:ay .i64 (dN p.ts[i] - 1)=dN p.ts[i] - 1:=wrap64 (by omega) (by omega);have hcut:∀K:AV->St->Option (AV×St),ak c (.sliceL 7 true true false) [tabs p.tz p.ts,.int .i64 (i:Int),.int .i64 ((i:Int)+1)] s K=K (tabs false [p.ts[i]]) s:=λK=>by
                  (unfold tabs;have:=Ef c K s 7 p.tz (p.ts.map aR.cells) .i64 .i64 i (i+1) (by omega) (by rw[Zb3];omega);rw[show((i:Int)+1)=((i+1:Nat):Int)by omega,this];have e:((p.ts.map aR.cells).take (i+1)).drop i=[p.ts[i]].map aR.cells:=by rw[Zd0 (by simpa using jt),Zf6 (by simp;omega)];simp);rw[e]
                have e3:ru p (i:Int)=dN p.ts[i]:=(by simp[ru,jt]);simp[p1,p2,hs,hi,e3,w,hcut,cnt,hj,w2]
        . simp[ p1,p2,p3,D2,h1,h2,GN];refine tR (P:=λj=>∀m,j [.ptr q1 0,.ptr q3 0,.int .i64 m] s=some (.int .i64 (uN k r m),s)) ?_ ?_
          . intro m;unfold uN;cases hn:k.n with
            |false=>simp[p1,hn]
            | true=>
              by_cases e1:r.n<k.lo
              .simp[p1,p3,hn,e1]
              . by_cases e2:m<r.n
                .simp[p1,p3,hn,e1,e2]
                .simp[p1,p3,hn,e1,e2]
          . intro j hj;cases hs:k.wD with
            |false=>simp[p1,hs,hj]
            | true=>
              have w:ay .i64 ((i:Int)+1)=(i:Int)+1:=(by have:=hp.ts;exact wrap64 (by omega) (by omega));have cnt:=wB hc false [p.ts[i]] (λt ht=>by simp only[Zd2]at ht;subst ht;exact hp.ok _ (Zb9 jt)) s RX;rw[Za7 (Bm (Bl hv i jt)),show bC [p.ts[i]]=dN p.ts[i]by simp[bC]]at cnt;have b:=CH p.ts[i];have w2:ay .i64 (dN p.ts[i] - 1)=dN p.ts[i] - 1:=wrap64 (by omega) (by omega);have hcut:∀K:AV->St->Option (AV×St),ak c (.sliceL 7 true true false) [tabs p.tz p.ts,.int .i64 (i:Int),.int .i64 ((i:Int)+1)] s K=K (tabs false [p.ts[i]]) s:=λK=>by
                (unfold tabs;have:=Ef c K s 7 p.tz (p.ts.map aR.cells) .i64 .i64 i (i+1) (by omega) (by rw[Zb3];omega);rw[show((i:Int)+1)=((i+1:Nat):Int)by omega,this];have e:((p.ts.map aR.cells).take (i+1)).drop i=[p.ts[i]].map aR.cells:=by rw[Zd0 (by simpa using jt),Zf6 (by simp;omega)];simp);rw[e]
              have e3:ru p (i:Int)=dN p.ts[i]:=(by simp[ru,jt]);simp[p1,p2,hs,hi,e3,w,hcut,cnt,hj,w2]
   . have GN  : ti p r.t<0:=(by omega);simp only[ht,Zh4,decide_false]at D2;by_cases h1:k.t=116
     .  simp[p1,p2,p3,D2,h1,GN]
     .  by_cases h2:k.t=101
        . by_cases h3:r.t=[]
          . simp only[h3]at D2 GN;simp[p1,p2,p3,D2,h1,h2,h3,GN];refine tR (P:=λj=>∀m,j [.ptr q1 0,.ptr q3 0,.int .i64 m] s=some (.int .i64 (uN k r m),s)) ?_ ?_
            . intro m;unfold uN;cases hn:k.n with
              |false=>simp[p1,hn]
              | true=>
                by_cases e1:r.n<k.lo
                .simp[p1,p3,hn,e1]
                . by_cases e2:m<r.n
                  .simp[p1,p3,hn,e1,e2]
                  .simp[p1,p3,hn,e1,e2]
            . intro j hj;have hs:k.wD=false:=by
                cases h:k.wD with
                |false=>rfl
                |true=>exact absurd (hk h) h1
              simp[p1,hs,hj]
          .simp[p1,p2,p3,D2,h1,h2,h3,GN]
        . simp[ p1,p2,p3,D2,h1,h2,GN];refine tR (P:=λj=>∀m,j [.ptr q1 0,.ptr q3 0,.int .i64 m] s=some (.int .i64 (uN k r m),s)) ?_ ?_
          . intro m;unfold uN;cases hn:k.n with
            |false=>simp[p1,hn]
            | true=>
              by_cases e1:r.n<k.lo
              .simp[p1,p3,hn,e1]
              . by_cases e2:m<r.n
                .simp[p1,p3,hn,e1,e2]
                .simp[p1,p3,hn,e1,e2]
          . intro j hj;have hs:k.wD=false:=by
              cases h:k.wD with
              |false=>rfl
              |true=>exact absurd (hk h) h1
            simp[p1,hs,hj]
 . intro  j hj;have A2:∀nm,c 100 [.agg p.cells,.str nm] s=some (.int .i64 (gi p nm),s):=A;have cc:cut r.cells 0 6=some r.cells:=bQ rfl;clear A D hg xq Yb hw dI mT;unfold J2;by_cases h0:k.w=[]
   .simp[p1,h0]
   by_cases h1:r.wt<0
   .simp[p1,p3,h0,h1]
   by_cases h2:1000<r.wt
   .simp[p1,p3,h0,h1,h2]
   cases h3:CO k r with
   |false=>simp[p1,p3,h0,h1,h2,B,h3]
   |true=>
   simp[p1,p3,h0,h1,h2,B,h3];refine tR (P:=λj'=>∀b:Bool,j' [.ptr q1 0,.ptr q2 0,.ptr q3 0,.bool b] s=some (.int .i64 (if b=true then 6 else RW k p r),s)) ?_ ?_
   . intro  b;cases b with
     |true=>simp
     |  false =>
        unfold RW;by_cases a1:k.a=100
        . cases a2:jG r.a with
          |false=>simp[p1,p3,a1,a2,N]
          | true=>
            cases b1:k.b with
            |false=>simp[p1,p3,a1,a2,N,b1,hj]
            | true=>
              by_cases b2:r.a=r.b
              .rw[b2]at a2 N;simp[p1,p3,a1,a2,N,b1,b2]
              .simp[p1,p3,a1,a2,N,b1,b2,hj]
        . cases b1:k.b with
          |false=>simp[p1,p3,a1,b1,hj]
          | true=>
            by_cases b2:r.a=r.b
            .simp[p1,p3,a1,b1,b2]
            .simp[p1,p3,a1,b1,b2,hj]
   . intro  j' wW;have K6:=wW true;have K0:=wW false;simp only[Zg8,Zg3,Zh4]at K6 K0;clear wW hj;by_cases a1:k.a=103
     .  by_cases g1:gi p r.a<0
        .simp[p1,p2,p3,a1,A2,g1,K6]
        . cases b1:k.b with
          |false=>simp[p1,p2,p3,a1,A2,g1,b1,K0]
          | true=>
            by_cases g2:gi p r.b<0
            .simp[p1,p2,p3,a1,A2,g1,g2,b1,K6]
            .simp[p1,p2,p3,a1,A2,g1,g2,b1,K0]
     .  by_cases a2:k.a=101
        . by_cases e:r.a=[]
          . cases b1:k.b with
            |false=>simp[p1,p2,p3,a1,a2,e,A2,b1,K0]
            | true=>
              by_cases g2:gi p r.b<0
              .simp[p1,p2,p3,a1,a2,e,A2,g2,b1,K6]
              .simp[p1,p2,p3,a1,a2,e,A2,g2,b1,K0]
          . by_cases g1:gi p r.a<0
            .simp[p1,p2,p3,a1,a2,e,A2,g1,K6]
            . cases b1:k.b with
              |false=>simp[p1,p2,p3,a1,a2,e,A2,g1,b1,K0]
              | true=>
                by_cases g2:gi p r.b<0
                .simp[p1,p2,p3,a1,a2,e,A2,g1,g2,b1,K6]
                .simp[p1,p2,p3,a1,a2,e,A2,g1,g2,b1,K0]
        . cases b1:k.b with
          |false=>simp[p1,p2,p3,a1,a2,A2,b1,K0]
          | true=>
            by_cases g2:gi p r.b<0
            .simp[p1,p2,p3,a1,a2,A2,g2,b1,K6]
            .simp[p1,p2,p3,a1,a2,A2,g2,b1,K0]
end
end Go.Proofs.YtoeleelojgimfaaGreatDoor
