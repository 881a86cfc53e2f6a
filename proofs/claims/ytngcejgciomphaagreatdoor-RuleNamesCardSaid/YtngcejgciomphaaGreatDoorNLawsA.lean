/- What the checks answer. -/
import Derived.Test.YtngcejgciomphaaGreatDoorNPlainA
set_option linter.all false
set_option maxRecDepth 100000
set_option maxHeartbeats 4000000
namespace Go.Proofs.YtngcejgciomphaaGreatDoor
section
open Go Go.Ai Go.Proofs
variable{c:aq}
def eX(s:List Nat):Bool:=decide (1<=s.length)&&decide (s.length<=12)&&s.all λc=>decide (97<=c/\c<=122)
theorem alh(s:List Nat)(hs:s.length<=12)(F:Nat)(st:St)(k1 k2):∀(m k:Nat),s.length<=k+m->k<=s.length->
  kT c F k1 k2 (m+1) [.str s,.int .i64 (k:Int)] st=if(s.drop k).all (λc=>decide (97<=c/\c<=122))=true then k2 [] st else k1 [.bool false] st:=by
 intro m;induction m with
 |zero=>
  intro k h1 h2;rw[CQ];obtain rfl:k=s.length:=by omega
  simp
 |succ m ih=>
  intro k h1 h2;rw[CQ];by_cases h:k<s.length
  . have e:s.drop k=s[k]::s.drop (k+1):=Zd2 h;have:=ih (k+1) (by omega) (by omega);have w:az .i64 ((k:Int)+1)=((k+1:Nat):Int):=wrap64 (by omega) (by omega);rw[e,Zo7];generalize (s.drop (k+1)).all _=rest at this ⊢;by_cases h3:(s[k]:Int)<97
    .   have h5:decide (97<=s[k]/\s[k]<=122)=false:=(by simp;omega);simp[h,h3,h5]
    .   by_cases h4:122<(s[k]:Int)
        .have h5:decide (97<=s[k]/\s[k]<=122)=false:=(by simp;omega);simp[h,h3,h4,h5]
        .have h5:decide (97<=s[k]/\s[k]<=122)=true:=(by simp;omega);rw[h5,Zf7, <-this];simp[h,h3,h4,w]
  .obtain rfl:k=s.length:=(by omega);simp
theorem HQ(hc:Sem c)(s:List Nat)(st:St):c 148 [.str s] st=some (.bool (eX s),st):=by
 rw[QK hc (s.length+1) (r:=(.bool (eX s),st)),aB (Plain.bool _) (bf.refl st)];rw[Ug];by_cases h0:(s.length:Int)<1
 .have h1:¬1<=s.length:=(by omega);simp[eX,h0,h1]
 . by_cases h1:12<(s.length:Int)
   .have h2:¬s.length<=12:=(by omega);simp[eX,h0,h1,h2]
   . have h2:s.length<=12:=(by omega);have h3:1<=s.length:=(by omega);have L:∀k1 k2,kT c (s.length+1) k1 k2 (s.length+1) [.str s,.int .i64 0] st=if(s.drop 0).all (λc=>decide (97<=c/\c<=122))=true then k2 [] st else k1 [.bool false] st:=
        λk1 k2=>alh (c:=c) s h2 (s.length+1) st k1 k2 s.length 0 (by omega) (by omega)
     rw[Zf4]at L;have e:eX s=s.all λc=>decide (97<=c/\c<=122):=(by simp[eX,h2,h3]);rw[e];generalize (s.all _)=b at L ⊢;simp[h0,h1,L];cases b<;>simp
structure aH where
 name:List Nat
 sh:Int
 a:Int
 b:Int
 oz:Bool
 cD:List Int
 x:Int
 y:Int
def ints(z:Bool)(l:List Int):AV:=ro 1 z (l.map λi=>[.int .i64 i])
def aH.cells(t:aH):List AV:=[.str t.name,.int .u8 t.sh,.int .i64 t.a,.int .i64 t.b,ints t.oz t.cD,.int .i64 t.x,.int .i64 t.y]
@[simp] theorem aji(z:Bool)(l:List Int):(ints z l).one=true:=agY _ _ _
def aY(t:aH):Int:=
 if t.sh=1 then(if 1<=t.a/\t.a<=24/\t.b=0 then t.a else 0)
 else if t.sh=2 then(if 1<=t.a/\t.a<=11/\0<=t.b/\t.b<=2 then 2*t.a+t.b else 0)
 else if t.sh=3 then(if 1<=t.a/\t.a<=8/\1<=t.b/\t.b<=8 then t.a+2*t.b else 0)
 else if t.sh=4 then(if 1<=t.a/\t.a<=24/\0<=t.b/\t.b<=t.a then t.a else 0)
 else 0
theorem gp(hc:Sem c)(n lo hi:Int)(st:St):c 95 [.int .i64 n,.int .i64 lo,.int .i64 hi] st=some (.bool (decide (lo<=n/\n<=hi)),st):=by
 rw[JI hc 1 (r:=(.bool (decide (lo<=n/\n<=hi)),st)),aB (Plain.bool _) (bf.refl st)];rw[MT];by_cases h:lo<=n<;>simp[h]
theorem uD(hc:Sem c)(t:aH)(st:St)(hw:Wf st):c 50 [.agg t.cells] st=some (.int .i64 (aY t),st):=by
 rw[MU hc 1 (r:=(.int .i64 (aY t),ah st (.cells t.cells 0))),aB (Plain.int _ _) (bE hw)];rw[QL];obtain⟨name,sh,a,b,oz,cD,x,y⟩:=t;by_cases h1:sh=1
 .subst h1;by_cases h2:1<=a/\a<=24<;>by_cases h3:b=0<;>simp[aH.cells,AV.cells,gp hc,aY,bO,h2,h3]
 by_cases h4:sh=2
 . subst h4;by_cases h2:1<=a/\a<=11
   . by_cases h3:0<=b/\b<=2
     .  have w1:az .i64 (2*a)=2*a:=wrap64 (by omega) (by omega);have w2:az .i64 (2*a+b)=2*a+b:=wrap64 (by omega) (by omega);simp[aH.cells,AV.cells,gp hc,aY,bO,h2,h3,w1,w2]
     .  simp[aH.cells,AV.cells,gp hc,aY,bO,h2,h3]
   .simp[aH.cells,AV.cells,gp hc,aY,bO,h2];omega
 by_cases h5:sh=3
 . subst h5;by_cases h2:1<=a/\a<=8
   . by_cases h3:1<=b/\b<=8
     .  have w1:az .i64 (2*b)=2*b:=wrap64 (by omega) (by omega);have w2:az .i64 (a+2*b)=a+2*b:=wrap64 (by omega) (by omega);simp[aH.cells,AV.cells,gp hc,aY,bO,h2,h3,w1,w2]
     .  simp[aH.cells,AV.cells,gp hc,aY,bO,h2,h3]
   .simp[aH.cells,AV.cells,gp hc,aY,bO,h2];omega
 by_cases h6:sh=4
 . subst h6;by_cases h2:1<=a/\a<=24
   . by_cases h3:0<=b/\b<=a
     .  simp[aH.cells,AV.cells,gp hc,aY,bO,h2,h3]
     .  simp[aH.cells,AV.cells,gp hc,aY,bO,h2,h3]
   .simp[aH.cells,AV.cells,gp hc,aY,bO,h2];omega
 simp[aH.cells,AV.cells,gp hc,aY,bO,h1,h4,h5,h6]
theorem aaC(hc:Sem c)(a b:Int)(st:St):c 211 [.int .i64 a,.int .i64 b] st=some (.int .i64 (if 1<=a/\a<=24/\b=0 then a else 0),st):=by
 rw[QM hc 1 (r:=(.int .i64 (if 1<=a/\a<=24/\b=0 then a else 0),st)),aB (Plain.int _ _) (bf.refl st)];rw[Uh];by_cases h1:a<1
 .have:¬1<=a:=(by omega);simp[h1,this]
 . by_cases h2:24<a
   .have:¬a<=24:=(by omega);simp[h1,h2,this]
   .have h3:1<=a:=(by omega);have h4:a<=24:=(by omega);by_cases h5:b=0<;>simp[h1,h2,h3,h4,h5]
theorem acv(hc:Sem c)(a b:Int)(st:St):c 216 [.int .i64 a,.int .i64 b] st=some (.int .i64 (if 1<=a/\a<=11/\0<=b/\b<=2 then 2*a+b else 0),st):=by
 rw[Sg hc 1 (r:=(.int .i64 (if 1<=a/\a<=11/\0<=b/\b<=2 then 2*a+b else 0),st)),aB (Plain.int _ _) (bf.refl st)];rw[V6];by_cases h1:a<1
 .have:¬1<=a:=(by omega);simp[h1,this]
 by_cases h2:11<a
 .have:¬a<=11:=(by omega);simp[h1,h2,this]
 by_cases h3:b<0
 .have:¬0<=b:=(by omega);simp[h1,h2,h3,this]
 by_cases h4:2<b
 .have:¬b<=2:=(by omega);simp[h1,h2,h3,h4,this]
 have h5:1<=a:=by omega
 have h6:a<=11:=by omega
 have h7:0<=b:=by omega
 have h8:b<=2:=by omega
 have w1:az .i64 (2*a)=2*a:=wrap64 (by omega) (by omega);have w2:az .i64 (2*a+b)=2*a+b:=wrap64 (by omega) (by omega);simp[h1,h2,h3,h4,h5,h6,h7,h8,w1,w2]
theorem acw(hc:Sem c)(a b:Int)(st:St):c 221 [.int .i64 a,.int .i64 b] st=some (.int .i64 (if 1<=a/\a<=8/\1<=b/\b<=8 then a+2*b else 0),st):=by
 rw[Si hc 1 (r:=(.int .i64 (if 1<=a/\a<=8/\1<=b/\b<=8 then a+2*b else 0),st)),aB (Plain.int _ _) (bf.refl st)];rw[V7];by_cases h1:a<1
 .have:¬1<=a:=(by omega);simp[h1,this]
 by_cases h2:8<a
 .have:¬a<=8:=(by omega);simp[h1,h2,this]
 by_cases h3:b<1
 .have:¬1<=b:=(by omega);simp[h1,h2,h3,this]
 by_cases h4:8<b
 .have:¬b<=8:=(by omega);simp[h1,h2,h3,h4,this]
 have h5:1<=a:=by omega
 have h6:a<=8:=by omega
 have h7:1<=b:=by omega
 have h8:b<=8:=by omega
 have w1:az .i64 (2*b)=2*b:=wrap64 (by omega) (by omega);have w2:az .i64 (a+2*b)=a+2*b:=wrap64 (by omega) (by omega);simp[h1,h2,h3,h4,h5,h6,h7,h8,w1,w2]
theorem adS(hc:Sem c)(a b:Int)(st:St):c 226 [.int .i64 a,.int .i64 b] st=some (.int .i64 (if 1<=a/\a<=24/\0<=b/\b<=a then a else 0),st):=by
 rw[Ui hc 1 (r:=(.int .i64 (if 1<=a/\a<=24/\0<=b/\b<=a then a else 0),st)),aB (Plain.int _ _) (bf.refl st)];rw[XK];by_cases h1:a<1
 .have:¬1<=a:=(by omega);simp[h1,this]
 by_cases h2:24<a
 .have:¬a<=24:=(by omega);simp[h1,h2,this]
 by_cases h3:b<0
 .have:¬0<=b:=(by omega);simp[h1,h2,h3,this]
 by_cases h4:a<b
 .have:¬b<=a:=(by omega);simp[h1,h2,h3,h4,this]
 have h5:1<=a:=by omega
 have h6:a<=24:=by omega
 have h7:0<=b:=by omega
 have h8:b<=a:=by omega
 simp[h1,h2,h3,h4,h5,h6,h7,h8]
def gQ(sh:Int):List AV:=
 if sh=1 then [.str [114,111,117,110,100],.func 211 [] [],.func 212 [] [],.func 213 [] [],.func 214 [] [],.func 215 [] []]
 else if sh=2 then [.str [108,111,110,103],.func 216 [] [],.func 217 [] [],.func 218 [] [],.func 219 [] [],.func 220 [] []]
 else if sh=3 then [.str [104,111,114,115,101,115,104,111,101],.func 221 [] [],.func 222 [] [],.func 223 [] [],.func 224 [] [],.func 225 [] []]
 else if sh=4 then [.str [114,111,119],.func 226 [] [],.func 227 [] [],.func 228 [] [],.func 229 [] [],.func 230 [] []]
 else [.str [],.lf,.lf,.lf,.lf,.lf]
theorem plain_fn(f:Nat):Plain (.func f [] []):=Plain.func f (by simp) (by simp)
theorem ahi(sh:Int):∀v∈gQ sh,Plain v:=by
 unfold gQ;intro v hv
 repeat' split at hv
 all_goals
  simp only[Zb4,Zc8,Zg9]at hv;rcases hv with rfl|rfl|rfl|rfl|rfl|rfl<;>first|exact Plain.str _|exact Plain.lf|exact plain_fn _
theorem fy(hc:Sem c)(sh:Int)(st:St)(hw:Wf st):c 156 [.int .u8 sh] st=some (.tuple [.agg (gQ sh),.bool (decide (1<=sh/\sh<=4))],st):=by
 have hp:Plain (.tuple [.agg (gQ sh),.bool (decide (1<=sh/\sh<=4))]):=Plain.tuple λv hv=>by
   simp only[Zb4,Zc8,Zg9]at hv;rcases hv with rfl|rfl
   .exact Plain.agg (ahi sh)
   .exact Plain.bool _
 rw[Uj hc 1 (r:=(.tuple [.agg (gQ sh),.bool (decide (1<=sh/\sh<=4))],ah st (.cells (gQ sh) 0))),aB hp (bE hw)];rw[XL];by_cases h1:sh=1
 .subst h1;simp[gQ,AV.cells,aV,AV.one,bP,cH,aZ,eZ]
 by_cases h2:sh=2
 .subst h2;simp[gQ,AV.cells,aV,AV.one,bP,cH,aZ,eZ]
 by_cases h3:sh=3
 .subst h3;simp[gQ,AV.cells,aV,AV.one,bP,cH,aZ,eZ]
 by_cases h4:sh=4
 .subst h4;simp[gQ,AV.cells,aV,AV.one,bP,cH,aZ,eZ]
 have h5:decide (1<=sh/\sh<=4)=false:=by simp;omega
 rw[h5];simp[gQ,AV.cells,aV,AV.one,bP,cH,aZ,eZ,h1,h2,h3,h4]
theorem TY(hc:Sem c)(t:aH)(st:St)(hw:Wf st):c 78 [.agg t.cells] st=some (.int .i64 (aY t),st):=by
 rw[aaD hc 1 (r:=(.int .i64 (aY t),ah (ah st (.cells t.cells 0)) (.cells (gQ t.sh) 0))),aB (Plain.int _ _) ((bE hw).trans (bE (bL hw)))];rw[adT];obtain⟨name,sh,a,b,oz,cD,x,y⟩:=t;by_cases h1:sh=1
 .subst h1;simp[aH.cells,AV.cells,fy hc,hw,aY,gQ,aV,AV.one,aaC hc]
 by_cases h2:sh=2
 .subst h2;simp[aH.cells,AV.cells,fy hc,hw,aY,gQ,aV,AV.one,acv hc]
 by_cases h3:sh=3
 .subst h3;simp[aH.cells,AV.cells,fy hc,hw,aY,gQ,aV,AV.one,acw hc]
 by_cases h4:sh=4
 .subst h4;simp[aH.cells,AV.cells,fy hc,hw,aY,gQ,aV,AV.one,adS hc]
 have h5:decide (1<=sh/\sh<=4)=false:=by simp;omega
 simp[aH.cells,AV.cells,fy hc,hw,aY,gQ,aV,AV.one,h1,h2,h3,h4,h5]
def cC:Nat:=9223372036854775808
theorem Lw(s:List Nat)(hs:s.length<=12)(F:Nat)(st:St)(k1 k2):∀(m k:Nat),s.length<=k+m->k<=s.length->
  jC c F k1 k2 (m+1) [.str s,.int .i64 (k:Int)] st=if(s.drop k).all (λc=>decide (97<=c/\c<=122))=true then k2 [] st else k1 [.bool false] st:=by
 intro m;induction m with
 |zero=>
  intro k h1 h2;rw[Ab];obtain rfl:k=s.length:=by omega
  simp
 |succ m ih=>
  intro k h1 h2;rw[Ab];by_cases h:k<s.length
  . have e:s.drop k=s[k]::s.drop (k+1):=Zd2 h;have:=ih (k+1) (by omega) (by omega);have w:az .i64 ((k:Int)+1)=((k+1:Nat):Int):=wrap64 (by omega) (by omega);rw[e,Zo7];generalize (s.drop (k+1)).all _=rest at this ⊢;by_cases h3:(s[k]:Int)<97
    .   have h5:decide (97<=s[k]/\s[k]<=122)=false:=(by simp;omega);simp[h,h3,h5]
    .   by_cases h4:122<(s[k]:Int)
        .have h5:decide (97<=s[k]/\s[k]<=122)=false:=(by simp;omega);simp[h,h3,h4,h5]
        .have h5:decide (97<=s[k]/\s[k]<=122)=true:=(by simp;omega);rw[h5,Zf7, <-this];simp[h,h3,h4,w]
  .obtain rfl:k=s.length:=(by omega);simp
theorem OS(hc:Sem c)(s:List Nat)(st:St):c 252 [.str s] st=some (.bool (eX s),st):=by
 rw[MV hc (s.length+1) (r:=(.bool (eX s),st)),aB (Plain.bool _) (bf.refl st)];rw[QN];by_cases h0:(s.length:Int)=0
 .have h1:¬1<=s.length:=(by omega);have h2:s=[]:=Zc1 (by omega);subst h2;simp[eX]
 . by_cases h1:12<(s.length:Int)
   .have h2:¬s.length<=12:=(by omega);have h3:¬s=[]:=(by intro e;subst e;simp at h0);simp[eX,h1,h2,h3]
   . have h2:s.length<=12:=(by omega);have h3:1<=s.length:=(by omega);have h4:¬s=[]:=(by intro e;subst e;simp at h0);have L:∀k1 k2,jC c (s.length+1) k1 k2 (s.length+1) [.str s,.int .i64 0] st=if(s.drop 0).all (λc=>decide (97<=c/\c<=122))=true then k2 [] st else k1 [.bool false] st:=
        λk1 k2=>Lw (c:=c) s h2 (s.length+1) st k1 k2 s.length 0 (by omega) (by omega)
     rw[Zf4]at L;have e:eX s=s.all λc=>decide (97<=c/\c<=122):=(by simp[eX,h2,h3]);rw[e];generalize (s.all _)=b at L ⊢;simp[h1,h4,L];cases b<;>simp
theorem XM(s:List Nat)(hs:s.length<=12)(F:Nat)(st:St)(k1 k2):∀(m k:Nat),s.length<=k+m->k<=s.length->
  qD c F k1 k2 (m+1) [.str s,.int .i64 (s.length:Int),.int .i64 (k:Int)] st=if(s.drop k).all (λc=>decide (97<=c/\c<=122))=true then k2 [] st else k1 [.bool false] st:=by
 intro m;induction m with
 |zero=>
  intro k h1 h2;rw[KH];obtain rfl:k=s.length:=by omega
  simp
 |succ m ih=>
  intro k h1 h2;rw[KH];by_cases h:k<s.length
  . have e:s.drop k=s[k]::s.drop (k+1):=Zd2 h;have:=ih (k+1) (by omega) (by omega);have w:az .i64 ((k:Int)+1)=((k+1:Nat):Int):=wrap64 (by omega) (by omega);rw[e,Zo7];generalize (s.drop (k+1)).all _=rest at this ⊢;by_cases h3:(s[k]:Int)<97
    .   have h5:decide (97<=s[k]/\s[k]<=122)=false:=(by simp;omega);simp[h,h3,h5]
    .   by_cases h4:122<(s[k]:Int)
        .have h5:decide (97<=s[k]/\s[k]<=122)=false:=(by simp;omega);simp[h,h3,h4,h5]
        .have h5:decide (97<=s[k]/\s[k]<=122)=true:=(by simp;omega);rw[h5,Zf7, <-this];simp[h,h3,h4,w]
  .obtain rfl:k=s.length:=(by omega);simp
theorem FJ(hc:Sem c)(s:List Nat)(st:St):c 240 [.str s] st=some (.bool (eX s),st):=by
 rw[YU hc (s.length+1) (r:=(.bool (eX s),st)),aB (Plain.bool _) (bf.refl st)];rw[acy];by_cases h0:(s.length:Int)=0
 .have h1:¬1<=s.length:=(by omega);have h2:s=[]:=Zc1 (by omega);subst h2;simp[eX]
 . by_cases h1:12<(s.length:Int)
   .have h2:¬s.length<=12:=(by omega);have h3:¬s=[]:=(by intro e;subst e;simp at h0);simp[eX,h1,h2,h3]
   . have h2:s.length<=12:=(by omega);have h3:1<=s.length:=(by omega);have h4:¬s=[]:=(by intro e;subst e;simp at h0);have L:∀k1 k2,qD c (s.length+1) k1 k2 (s.length+1) [.str s,.int .i64 (s.length:Int),.int .i64 0] st=if(s.drop 0).all (λc=>decide (97<=c/\c<=122))=true then k2 [] st else k1 [.bool false] st:=
        λk1 k2=>XM (c:=c) s h2 (s.length+1) st k1 k2 s.length 0 (by omega) (by omega)
     rw[Zf4]at L;have e:eX s=s.all λc=>decide (97<=c/\c<=122):=(by simp[eX,h2,h3]);rw[e];generalize (s.all _)=b at L ⊢;simp[h1,h4,L];cases b<;>simp
theorem YV(s:List Nat)(hs:s.length<=12)(F:Nat)(st:St)(k1 k2):∀(m k:Nat),s.length<=k+m->k<=s.length->
  sO c F k1 k2 (m+1) [.str s,.int .i64 (s.length:Int),.int .i64 (k:Int)] st=if(s.drop k).all (λc=>decide (97<=c/\c<=122))=true then k2 [] st else k1 [.bool false] st:=by
 intro m;induction m with
 |zero=>
  intro k h1 h2;rw[MW];obtain rfl:k=s.length:=by omega
  simp
 |succ m ih=>
  intro k h1 h2;rw[MW];by_cases h:k<s.length
  . have e:s.drop k=s[k]::s.drop (k+1):=Zd2 h;have:=ih (k+1) (by omega) (by omega);have w:az .i64 ((k:Int)+1)=((k+1:Nat):Int):=wrap64 (by omega) (by omega);rw[e,Zo7];generalize (s.drop (k+1)).all _=rest at this ⊢;by_cases h3:(s[k]:Int)<97
    .   have h5:decide (97<=s[k]/\s[k]<=122)=false:=(by simp;omega);simp[h,h3,h5]
    .   by_cases h4:122<(s[k]:Int)
        .have h5:decide (97<=s[k]/\s[k]<=122)=false:=(by simp;omega);simp[h,h3,h4,h5]
        .have h5:decide (97<=s[k]/\s[k]<=122)=true:=(by simp;omega);rw[h5,Zf7, <-this];simp[h,h3,h4,w]
  .obtain rfl:k=s.length:=(by omega);simp
theorem acz(hc:Sem c)(s:List Nat)(st:St):c 154 [.str s] st=some (.bool (eX s),st):=by
 rw[aaE hc (s.length+1) (r:=(.bool (eX s),st)),aB (Plain.bool _) (bf.refl st)];rw[adU];by_cases h0:(s.length:Int)=0
 .have h1:¬1<=s.length:=(by omega);have h2:s=[]:=Zc1 (by omega);subst h2;simp[eX]
 . by_cases h1:12<(s.length:Int)
   .have h2:¬s.length<=12:=(by omega);have h3:¬s=[]:=(by intro e;subst e;simp at h0);simp[eX,h1,h2,h3]
   . have h2:s.length<=12:=(by omega);have h3:1<=s.length:=(by omega);have h4:¬s=[]:=(by intro e;subst e;simp at h0);have L:∀k1 k2,sO c (s.length+1) k1 k2 (s.length+1) [.str s,.int .i64 (s.length:Int),.int .i64 0] st=if(s.drop 0).all (λc=>decide (97<=c/\c<=122))=true then k2 [] st else k1 [.bool false] st:=
        λk1 k2=>YV (c:=c) s h2 (s.length+1) st k1 k2 s.length 0 (by omega) (by omega)
     rw[Zf4]at L;have e:eX s=s.all λc=>decide (97<=c/\c<=122):=(by simp[eX,h2,h3]);rw[e];generalize (s.all _)=b at L ⊢;simp[h1,h4,L];cases b<;>simp
theorem YW(s:List Nat)(hs:s.length<cC)(F:Nat)(st:St)(k1 k2):∀(m k:Nat),s.length<=k+m->k<=s.length->
  sP c F k1 k2 (m+1) [.str s,.int .i64 (k:Int)] st=if(s.drop k).all (λc=>decide (97<=c/\c<=122))=true then k2 [.str s] st else k1 [.bool false] st:=by
 intro m;induction m with
 |zero=>
  intro k h1 h2;rw[MX];obtain rfl:k=s.length:=by omega
  simp
 |succ m ih=>
  intro k h1 h2;rw[MX];by_cases h:k<s.length
  . have e:s.drop k=s[k]::s.drop (k+1):=Zd2 h;have:=ih (k+1) (by omega) (by omega);have w:az .i64 ((k:Int)+1)=((k+1:Nat):Int):=wrap64 (by omega) (by unfold cC at hs;omega);rw[e,Zo7];generalize (s.drop (k+1)).all _=rest at this ⊢;by_cases h3:(s[k]:Int)<97
    .   have h5:decide (97<=s[k]/\s[k]<=122)=false:=(by simp;omega);simp[h,h3,h5]
    .   by_cases h4:122<(s[k]:Int)
        .have h5:decide (97<=s[k]/\s[k]<=122)=false:=(by simp;omega);simp[h,h3,h4,h5]
        .have h5:decide (97<=s[k]/\s[k]<=122)=true:=(by simp;omega);rw[h5,Zf7, <-this];simp[h,h3,h4,w]
  .obtain rfl:k=s.length:=(by omega);simp
theorem acA(hc:Sem c)(s:List Nat)(hs:s.length<cC)(st:St):c 253 [.str s] st=some (.bool (eX s),st):=by
 rw[aaF hc (s.length+1) (r:=(.bool (eX s),st)),aB (Plain.bool _) (bf.refl st)];rw[adV];have L:∀k1 k2,sP c (s.length+1) k1 k2 (s.length+1) [.str s,.int .i64 0] st=if(s.drop 0).all (λc=>decide (97<=c/\c<=122))=true then k2 [.str s] st else k1 [.bool false] st:=
   λk1 k2=>YW (c:=c) s hs (s.length+1) st k1 k2 s.length 0 (by omega) (by omega)
 rw[Zf4]at L;have e:eX s=(decide (1<=s.length)&&decide (s.length<=12)&&s.all λc=>decide (97<=c/\c<=122)):=rfl;rw[e];generalize (s.all _)=b at L ⊢;simp[L];cases b
 .simp
 . by_cases h1:(1:Int)<=s.length
   . have h2:1<=s.length:=(by omega);by_cases h3:(s.length:Int)<=12
     .  have h4:s.length<=12:=(by omega);simp[h1,h2,h3,h4]
     .  have h4:¬s.length<=12:=(by omega);simp[h1,h2,h3,h4]
   .have h2:¬1<=s.length:=(by omega);simp[h1,h2]
def mU(s:List Nat):Bool:=decide (s=[])||eX s
theorem FK(hc:Sem c)(s:List Nat)(st:St):c 241 [.str s] st=some (.bool (mU s),st):=by
 rw[YX hc 1 (r:=(.bool (mU s),st)),aB (Plain.bool _) (bf.refl st)];rw[acB];by_cases h:s=[]<;>simp[h,mU,FJ hc]
def uE(n last:Int):List Int->Bool
 |[]=>true
 |k::l=>decide (last<k)&&decide (k<n)&&uE n k l
def mP(t:aH):Int:=
 if eX t.name=false then 4 else if aY t=0 then 10 else if uE (aY t) (-1) t.cD=false then 11
 else if 0<=t.x/\t.x<=1000/\0<=t.y/\t.y<=1000 then 0 else 2
structure aH.Ok(t:aH):Prop where
 name:t.name.length<cC
 cD:t.cD.length<cC
theorem V8(l:List Int)(k:Nat)(h:k<l.length):((l.map λi=>[AV.int .i64 i])[k]?.bind λcs=>cs[0]?)=some (.int .i64 l[k]):=by
 simp[Zc3,Za0 h]
theorem XN(p:Pos)(n:Int)(z:Bool)(l:List Int)(hl:l.length<cC)(F:Nat)(st:St)(k1 k3):∀(m k:Nat)(last:Int),l.length<=k+m->k<=l.length->
  qE c F k1 k3 (m+1) [.ptr p 0,.int .i64 n,.int .i64 last,ints z l,.int .i64 (l.length:Int),.int .i64 (k:Int)] st=if uE n last (l.drop k)=true then k3 [.ptr p 0] st else k1 [.int .i64 11] st:=by
 intro m;induction m with
 |zero=>
  intro k last h1 h2;rw[KI];obtain rfl:k=l.length:=by omega
  simp[uE]
 |succ m ih=>
  intro k last h1 h2;rw[KI];by_cases h:k<l.length
  . have e:l.drop k=l[k]::l.drop (k+1):=Zd2 h;have:=ih (k+1) l[k] (by omega) (by omega);have w:az .i64 ((k:Int)+1)=((k+1:Nat):Int):=wrap64 (by omega) (by unfold cC at hl;omega);have g:=V8 l k h;rw[e,uE];generalize uE n l[k] (l.drop (k+1))=rest at this ⊢;by_cases h3:l[k]<=last
    .   have h4:¬last<l[k]:=(by omega);simp[ints,h,h3,h4,g]
    .   have h4:last<l[k]:=(by omega);by_cases h5:n<=l[k]
        .have h6:¬l[k]<n:=(by omega);simp[ints,h,h3,h4,h5,h6,g]
        .have h6:l[k]<n:=(by omega);simp only[h4,h6,Zh8,Zf7];rw[<-this];simp[ints,h,h3,h4,h5,h6,g,w]
  .obtain rfl:k=l.length:=(by omega);simp[uE]
theorem ajj(hc:Sem c)(t:aH)(ht:t.Ok)(st:St)(hw:Wf st):c 204 [.agg t.cells] st=some (.int .i64 (mP t),st):=by
 rw[YY hc (t.cD.length+1) (r:=(.int .i64 (mP t),ah st (.cells t.cells 0))),aB (Plain.int _ _) (bE hw)];rw[acC];have hs:=TY hc t (ah st (.cells t.cells 0)) (bL hw);have hn:=acA hc t.name ht.name;have hg:(ah st (.cells t.cells 0)).heap.get st.next=some (.cells t.cells 0):=aF _ _;have c0:t.cells[0]? =some (.str t.name):=rfl;have c4:t.cells[4]? =some (ints t.oz t.cD):=rfl;have c5:t.cells[5]? =some (.int .i64 t.x):=rfl;have c6:t.cells[6]? =some (.int .i64 t.y):=rfl;have cc:cut t.cells 0 7=some t.cells:=bP rfl
 have L:∀k1 k3,qE c (t.cD.length+1) k1 k3 (t.cD.length+1) [.ptr st.next 0,.int .i64 (aY t),.int .i64 (-1),ints t.oz t.cD,.int .i64 (t.cD.length:Int),.int .i64 0] (ah st (.cells t.cells 0))=
     if uE (aY t) (-1) (t.cD.drop 0)=true then k3 [.ptr st.next 0] (ah st (.cells t.cells 0))else k1 [.int .i64 11] (ah st (.cells t.cells 0)):=
   λk1 k3=>XN st.next (aY t) t.oz t.cD ht.cD _ _ k1 k3 t.cD.length 0 (-1) (by omega) (by omega)
 rw[Zf4]at L;have lI:∀(K:AV->St->Option (AV×St))(s:St),aj c (.lenB .l) [ints t.oz t.cD] s K=K (.int .i64 (t.cD.length:Int)) s:=λK s=>by unfold ints;rw[dh];simp
 unfold mP;generalize t.cells=tc at*
 generalize aY t=sz at*
 generalize uE sz (-1) t.cD=op at*
 by_cases h1:eX t.name=true
 . by_cases h2:sz=0
   .simp[AV.cells,hs,hn,hg,c0,cc,h1,h2]
   . cases op
     .  simp[AV.cells,hs,hn,hg,c0,c4,cc,h1,h2,lI,L]
     .  by_cases h3:t.x<0
        .have:¬0<=t.x:=(by omega);simp[AV.cells,hs,hn,hg,c0,c4,c5,c6,cc,h1,h2,lI,L,h3,this]
        by_cases h4:1000<t.x
        .have:¬t.x<=1000:=(by omega);simp[AV.cells,hs,hn,hg,c0,c4,c5,c6,cc,h1,h2,lI,L,h3,h4,this]
        by_cases h5:t.y<0
        .have:¬0<=t.y:=(by omega);simp[AV.cells,hs,hn,hg,c0,c4,c5,c6,cc,h1,h2,lI,L,h3,h4,h5,this]
        by_cases h6:1000<t.y
        .have:¬t.y<=1000:=(by omega);simp[AV.cells,hs,hn,hg,c0,c4,c5,c6,cc,h1,h2,lI,L,h3,h4,h5,h6,this]
        have h7:0<=t.x:=(by omega);have h8:t.x<=1000:=(by omega);have h9:0<=t.y:=(by omega);have Qb:t.y<=1000:=(by omega);simp[AV.cells,hs,hn,hg,c0,c4,c5,c6,cc,h1,h2,lI,L,h3,h4,h5,h6,h7,h8,h9,Qb]
 .simp[AV.cells,hs,hn,hg,c0,cc,h1]
theorem jJ(t:aH):0<=aY t/\aY t<=1000:=by
 unfold aY;repeat' split
 all_goals omega
theorem aaG(hc:Sem c)(p:Pos)(t:aH)(hl:t.cD.length<cC)(n:Int)(hn:0<=n/\n<=1000)(F:Nat)(st:St)(hp:st.heap.get p=some (.cells t.cells 0))(k1 k2):∀(m k:Nat)(last:Int),t.cD.length<=k+m->k<=t.cD.length-> -1<=last->(∀h:0<k,∀h':k - 1<t.cD.length,t.cD[k - 1]=last)->(k=0->last= -1)->
  iX c F k1 k2 (m+1) [.ptr p 0,.int .i64 n,.int .i64 (k:Int)] st=if uE n last (t.cD.drop k)=true then k2 [.ptr p 0] st else k1 [.int .i64 11] st:=by
 have c4:t.cells[4]? =some (ints t.oz t.cD):=rfl;have lI:∀(K:AV->St->Option (AV×St))(s:St),aj c (.lenB .l) [ints t.oz t.cD] s K=K (.int .i64 (t.cD.length:Int)) s:=λK s=>by unfold ints;rw[dh];simp
 intro m;induction m with
 |zero=>
  intro k last h1 h2 _ _ _;rw[zf];obtain rfl:k=t.cD.length:=by omega
  simp[uE,hp,c4,lI]
 |succ m ih=>
  intro k last h1 h2 hla ans hz;rw[zf];by_cases h:k<t.cD.length
  . have e:t.cD.drop k=t.cD[k]::t.cD.drop (k+1):=Zd2 h;have w:az .i64 ((k:Int)+1)=((k+1:Nat):Int):=wrap64 (by omega) (by unfold cC at hl;omega);have wn:az .i64 (n - 1)=n - 1:=wrap64 (by omega) (by omega);have g:=V8 t.cD k h;rw[e,uE];by_cases h3:0<=t.cD[k]/\t.cD[k]<=n - 1
    .   have h6:t.cD[k]<n:=(by omega);have:=ih (k+1) t.cD[k] (by omega) (by omega) (by omega) (λ_ _=>by simp) (λh=>by omega);generalize uE n t.cD[k] (t.cD.drop (k+1))=rest at this ⊢;by_cases h0:k=0
        .have h4:last<t.cD[k]:=(by rw[hz h0];omega);have hk:¬0<k:=(by omega);simp only[h4,h6,Zh8,Zf7];rw[<-this];simp[hp,c4,lI,ints,h,h3,wn,gp hc,hk,w]
        . have hk:0<k:=(by omega);have sQ:k - 1<t.cD.length:=(by omega);have Rz:=ans (by omega) sQ;have wk:az .i64 ((k:Int) - 1)=((k - 1:Nat):Int):=(by rw[wrap64 (by omega) (by unfold cC at hl;omega)];omega);by_cases h5:t.cD[k]<=last
          .have h4:¬last<t.cD[k]:=(by omega);simp[hp,c4,lI,ints,h,h3,h4,h5,wn,gp hc,hk,sQ,Rz,wk]
          .have h4:last<t.cD[k]:=(by omega);simp only[h4,h6,Zh8,Zf7];rw[<-this];simp[hp,c4,lI,ints,h,h3,h5,wn,gp hc,hk,sQ,Rz,wk,w]
    .   have h4:(decide (last<t.cD[k])&&decide (t.cD[k]<n))=false:=(by simp;omega);rw[h4,Bool.false_and];simp[hp,c4,lI,ints,h,h3,wn,gp hc]
  .obtain rfl:k=t.cD.length:=(by omega);simp[uE,hp,c4,lI]
theorem adW(hc:Sem c)(t:aH)(ht:t.Ok)(st:St)(hw:Wf st):c 201 [.agg t.cells] st=some (.int .i64 (mP t),st):=by
 rw[Lx hc (t.cD.length+1) (r:=(.int .i64 (mP t),ah st (.cells t.cells 0))),aB (Plain.int _ _) (bE hw)];rw[OT];have hs:=uD hc t (ah st (.cells t.cells 0)) (bL hw);have hn:=OS hc t.name;have hg:(ah st (.cells t.cells 0)).heap.get st.next=some (.cells t.cells 0):=aF _ _;have c0:t.cells[0]? =some (.str t.name):=rfl;have c4:t.cells[4]? =some (ints t.oz t.cD):=rfl;have c5:t.cells[5]? =some (.int .i64 t.x):=rfl;have c6:t.cells[6]? =some (.int .i64 t.y):=rfl;have cc:cut t.cells 0 7=some t.cells:=bP rfl;have hz:0<=aY t/\aY t<=1000:=jJ t
 have L:∀k1 k3,iX c (t.cD.length+1) k1 k3 (t.cD.length+1) [.ptr st.next 0,.int .i64 (aY t),.int .i64 0] (ah st (.cells t.cells 0))=
     if uE (aY t) (-1) (t.cD.drop 0)=true then k3 [.ptr st.next 0] (ah st (.cells t.cells 0))else k1 [.int .i64 11] (ah st (.cells t.cells 0)):=
   λk1 k3=>aaG hc st.next t ht.cD (aY t) hz _ _ hg k1 k3 t.cD.length 0 (-1) (by omega) (by omega) (by omega) (λh=>by omega) (λ_=>rfl)
 rw[Zf4]at L;unfold mP;generalize t.cells=tc at*
 generalize aY t=sz at*
 generalize uE sz (-1) t.cD=op at*
 by_cases h1:eX t.name=true
 . by_cases h2:sz=0
   .simp[AV.cells,hs,hn,hg,c0,cc,h1,h2]
   . cases op
     .  simp[AV.cells,hs,hn,hg,c0,cc,h1,h2,L]
     .  by_cases h3:0<=t.x/\t.x<=1000
        . by_cases h4:0<=t.y/\t.y<=1000
          .simp[AV.cells,hs,hn,hg,c0,c5,c6,cc,h1,h2,L,h3,h4,gp hc]
          .simp[AV.cells,hs,hn,hg,c0,c5,c6,cc,h1,h2,L,h3,h4,gp hc]
        . have h5:¬(0<=t.x/\t.x<=1000/\0<=t.y/\t.y<=1000):=λh=>h3 ⟨h.1,h.2.1⟩
          rw[Zb2 h5];simp[AV.cells,hs,hn,hg,c0,c5,cc,h1,h2,L,h3,gp hc]
 .simp[AV.cells,hs,hn,hg,c0,cc,h1]
def scan(P:Nat->Bool):Nat->Nat->Int
 |0,_=> -1
 |m+1,k=>if P k=true then(k:Int)else scan P m (k+1)
theorem HR(P:Nat->Bool):∀(m k:Nat),-1<=scan P m k/\(scan P m k<0->scan P m k= -1)
 |0,_=>by simp[scan]
 |m+1,k=>by
  unfold scan;split
  .omega
  .exact HR P m (k+1)
theorem XO{P Q:Nat->Bool}:∀(m k:Nat),(∀i,k<=i->i<k+m->P i=Q i)->scan P m k=scan Q m k
 |0,_,_=>rfl
 |m+1,k,h=>by
  unfold scan;rw[h k (by omega) (by omega),XO m (k+1) λi h1 h2=>h i (by omega) (by omega)]
theorem Iw{P:Nat->Bool}:∀(m k:Nat),0<=scan P m k->k<=(scan P m k).toNat/\(scan P m k).toNat<k+m/\P (scan P m k).toNat=true
 |0,k,h=>by simp[scan]at h
 |m +1,k,h=>by
  unfold scan at h ⊢;split
  .rename_i hp;simp;exact hp
  .rename_i hp;rw[Zb2 hp]at h;have:=Iw m (k+1) h;exact⟨by omega,by omega,this.2.2⟩
def tabs(z:Bool)(ts:List aH):AV:=ro 7 z (ts.map aH.cells)
@[simp] theorem aH.c0(t:aH):t.cells[0]? =some (.str t.name):=id rfl
@[simp] theorem aH.c1(t:aH):t.cells[1]? =some (.int .u8 t.sh):=id rfl
@[simp] theorem aH.c2(t:aH):t.cells[2]? =some (.int .i64 t.a):=id rfl
@[simp] theorem aH.c3(t:aH):t.cells[3]? =some (.int .i64 t.b):=id rfl
@[simp] theorem aH.c4(t:aH):t.cells[4]? =some (ints t.oz t.cD):=id rfl
@[simp] theorem aH.c5(t:aH):t.cells[5]? =some (.int .i64 t.x):=id rfl
@[simp] theorem aH.c6(t:aH):t.cells[6]? =some (.int .i64 t.y):=id rfl
@[simp] theorem aH.cc(t:aH):cut t.cells 0 7=some t.cells:=bP rfl
theorem aH.len(t:aH):t.cells.length=7:=id rfl
@[simp] theorem aH.one(t:aH):aV t.cells=true:=by unfold aH.cells;simp only[aV,aji];rfl
@[simp] theorem Sj(l:List AV):(AV.agg l).cells=l:=id rfl
def iP(ts:List aH)(s:List Nat)(i:Nat):Bool:=decide (ts[i]?.map aH.name=some s)
def dW(ts:List aH):Nat->Nat->Int×Int
 |0,_=>(0,0)
 |  m+1,k=>match ts[k]? with
    |none=>(0,0)
    |some t=>if mP t≠0 then((k:Int),mP t)else if 0<=scan (iP ts t.name) k 0 then((k:Int),5)else dW ts m (k+1)
def bJ(ts:List aH):Int×Int:=if 16<ts.length then(0,7)else dW ts ts.length 0
theorem OU(ts:List aH):∀(m m' k:Nat),ts.length<=k+m->ts.length<=k+m'->dW ts m k=dW ts m' k
 |0,0,_,_,_=>rfl
 |0,m'+1,k,h,_=>by rw[dW,dW,Zc6 (by omega)]
 |m+1,0,k,_,h=>by rw[dW,dW,Zc6 (by omega)]
 |m+1,m'+1,k,h,h'=>by
  rw[dW,dW,OU ts m m' (k+1) (by omega) (by omega)]
theorem OW(ts:List aH):∀(m k:Nat),(dW ts m k).2=0->(dW ts m k).1=0
 |0,_,_=>rfl
 |m +   1,k,h=>by
  rw[dW]at h ⊢;split at h
  .rfl
  . split at h
    .   rename_i cA;exact absurd h cA
    .   split at h
        .simp at h
        .rename_i h1 h2;rw[Zb2 h1,Zb2 h2];exact OW ts m (k+1) h
theorem YZ(z:Bool)(ts:List aH)(k:Nat)(hk:k<ts.length)(hl:ts.length<=16)(F:Nat)(st:St)(k1 k4):∀(m j:Nat),k<=j+m->j<=k->
  eY c F k1 k4 (m+1) [tabs z ts,.int .i64 (k:Int),.int .i64 (j:Int)] st=if 0<=scan (iP ts ts[k].name) (k - j) j then k1 [.int .i64 (k:Int),.int .i64 5] st else k4 [tabs z ts,.int .i64 (k:Int)] st:=by
 intro m;induction m with
 |zero=>
  intro j h1 h2;obtain rfl:j=k:=by omega
  rw[vA];simp[scan]
 |succ m ih=>
  intro j h1 h2;rw[vA];by_cases h:j<k
  . have hj:j<ts.length:=(by omega);have e:k - j=(k - (j+1))+1:=(by omega);have w:az .i64 ((j:Int)+1)=((j+1:Nat):Int):=wrap64 (by omega) (by omega);rw[e,scan];by_cases h3:ts[j].name=ts[k].name
    .   have:iP ts ts[k].name j=true:=(by simp[iP,hj,h3]);rw[Zb5 this];simp[tabs,h,hj,hk,h3]
    .   have:¬iP ts ts[k].name j=true:=(by simp[iP,hj,h3]);rw[Zb2 this, <-ih (j+1) (by omega) (by omega)];simp[tabs,h,hj,hk,h3,w]
  .obtain rfl:j=k:=(by omega);simp[scan]
theorem XP(hc:Sem c)(z:Bool)(ts:List aH)(cR:∀t∈ts,t.Ok)(hl:ts.length<=16)(st:St)(hw:Wf st)(k1 k2):∀(m k:Nat),ts.length<=k+m->k<=ts.length->
  gH c 20 k1 k2 (m+1) [tabs z ts,.int .i64 (k:Int)] st=if(dW ts m k).2=0 then k2 [] st else k1 [.int .i64 (dW ts m k).1,.int .i64 (dW ts m k).2] st:=by
 intro m;induction m with
 |zero=>
  intro k h1 h2;obtain rfl:k=ts.length:=by omega
  rw[vB];simp[dW,tabs]
 |succ m ih=>
  intro k h1 h2;rw[vB];by_cases h:k<ts.length
  . have w:az .i64 ((k:Int)+1)=((k+1:Nat):Int):=wrap64 (by omega) (by omega);have hch:=adW hc ts[k] (cR _ (Zc0 h)) st hw;have L:∀k1 k4,eY c 20 k1 k4 20 [tabs z ts,.int .i64 (k:Int),.int .i64 0] st=if 0<=scan (iP ts ts[k].name) (k - 0) 0 then k1 [.int .i64 (k:Int),.int .i64 5] st else k4 [tabs z ts,.int .i64 (k:Int)] st:=
        λk1 k4=>YZ z ts k h hl 20 st k1 k4 19 0 (by omega) (by omega)
    rw[Zm0]at L;rw[dW,Za0 h];simp only;by_cases h3:mP ts[k]=0
    .   by_cases h4:0<=scan (iP ts ts[k].name) k 0
        .simp[tabs,h,hch,h3,h4]at L ⊢;rw[L];simp
        .have:=ih (k+1) (by omega) (by omega);simp[tabs,h,hch,h3,h4]at L this ⊢;rw[L];simp[w,this]
    .   simp[tabs,h,hch,h3]
  .obtain rfl:k=ts.length:=(by omega);simp[dW,tabs]
theorem Y0(hc:Sem c)(z:Bool)(ts:List aH)(cR:∀t∈ts,t.Ok)(st:St)(hw:Wf st):c 139 [tabs z ts] st=some (.tuple [.int .i64 (bJ ts).1,.int .i64 (bJ ts).2],st):=by
 rw[Hj hc 20 (r:=(.tuple [.int .i64 (bJ ts).1,.int .i64 (bJ ts).2],st)),aB (Plain.tuple (by simp[Plain.int])) (bf.refl st)];rw[JJ];by_cases h:16<ts.length
 .have hi:(16:Int)<ts.length:=(by omega);simp[tabs,bJ,h,hi]
 . have hi:¬(16:Int)<ts.length:=(by omega);have L:∀k1 k2,gH c 20 k1 k2 20 [tabs z ts,.int .i64 0] st=if(dW ts 19 0).2=0 then k2 [] st else k1 [.int .i64 (dW ts 19 0).1,.int .i64 (dW ts 19 0).2] st:=
     λk1 k2=>XP hc z ts cR (by omega) st hw k1 k2 19 0 (by omega) (by omega)
   have e:bJ ts=dW ts 19 0:=(by rw[bJ,Zb2 h];exact OU ts _ _ 0 (by omega) (by omega));rw[e];simp[tabs,hi]at L ⊢;rw[L];by_cases h2:(dW ts 19 0).2=0
   .have:=OW ts 19 0 h2;simp[h2,this]
   .simp[h2]
theorem acD(hc:Sem c)(x t:aH)(p:Pos)(st:St)(hw:Wf st)(hp:st.heap.get p=some (.cells t.cells 0)):c 206 [.agg x.cells,.ptr p 0] st=some (.bool (decide (x.name=t.name)),st):=by
 rw[QO hc 1 (r:=(.bool (decide (x.name=t.name)),ah st (.cells x.cells 0))),aB (Plain.bool _) (bE hw)];rw[Uk];have:(ah st (.cells x.cells 0)).heap.get p=some (.cells t.cells 0):=bE hw _ _ hp;simp[this]
theorem ajk(hc:Sem c)(x:aH)(s:List Nat)(p:Pos)(st:St)(hw:Wf st)(hp:st.heap.get p=some (.cells [.str s] 0)):c 210 [.agg x.cells,.ptr p 0] st=some (.bool (decide (x.name=s)),st):=by
 rw[XQ hc 1 (r:=(.bool (decide (x.name=s)),ah st (.cells x.cells 0))),aB (Plain.bool _) (bE hw)];rw[aaH];have:(ah st (.cells x.cells 0)).heap.get p=some (.cells [.str s] 0):=bE hw _ _ hp;simp[this]
theorem ahj(z:Bool)(rs:List (List AV))(hl:rs.length<cC)(dB:∀cs∈rs,cs.length=7)(g:Nat)(v:List AV)(P:Nat->Bool)(st:St)(F:Nat)(k1 k2)
  (hP:∀i (h:i<rs.length),c g (.agg rs[i]::v) st=some (.bool (P i),st)):∀(m k:Nat),rs.length<=k+m->k<=rs.length->
  cE c F k1 k2 (m+1) [ro 7 z rs,.func g [] v,.int .i64 (rs.length:Int),.int .i64 (k:Int)] st=if 0<=scan P (rs.length - k) k then k1 [.int .i64 (scan P (rs.length - k) k)] st else k2 [] st:=by
 intro m;induction m with
 |zero=>
  intro k h1 h2;obtain rfl:k=rs.length:=by omega
  rw[lz];simp[scan]
 |succ m ih=>
  intro k h1 h2;rw[lz];by_cases h:k<rs.length
  . have e:rs.length - k=(rs.length - (k+1))+1:=(by omega);have w:az .i64 ((k:Int)+1)=((k+1:Nat):Int):=wrap64 (by omega) (by unfold cC at hl;omega);have hcut:cut rs[k] 0 7=some rs[k]:=bP (dB _ (Zc0 h));have hp:=hP k h;rw[e,scan];cases hb:P k
    .   simp only[Zd3,Ze8];rw[<-ih (k+1) (by omega) (by omega)];simp[h,hcut,hp,hb,w]
    .   simp[h,hcut,hp,hb]
  .obtain rfl:k=rs.length:=(by omega);simp[scan]
theorem aeF(hc:Sem c)(z:Bool)(rs:List (List AV))(hl:rs.length<cC)(dB:∀cs∈rs,cs.length=7)(g:Nat)(v:List AV)(P:Nat->Bool)(st:St)
   (hP:∀i (h:i<rs.length),c g (.agg rs[i]::v) st=some (.bool (P i),st)):c 209 [ro 7 z rs,.func g [] v] st=some (.int .i64 (scan P rs.length 0),st):=by
 rw[uF hc (rs.length+1) (r:=(.int .i64 (scan P rs.length 0),st)),aB (Plain.int _ _) (bf.refl st)];rw[vW];have L:∀k1 k2,cE c (rs.length+1) k1 k2 (rs.length+1) [ro 7 z rs,.func g [] v,.int .i64 (rs.length:Int),.int .i64 0] st=if 0<=scan P (rs.length - 0) 0 then k1 [.int .i64 (scan P (rs.length - 0) 0)] st else k2 [] st:=
   λk1 k2=>ahj z rs hl dB g v P st _ k1 k2 hP rs.length 0 (by omega) (by omega)
 rw[Zm0]at L;by_cases h:0<=scan P rs.length 0
 .simp[L,h]
 .have:=(HR P rs.length 0).2 (by omega);simp[L,this]
theorem acE(hc:Sem c)(z:Bool)(rs:List (List AV))(hl:rs.length<cC)(dB:∀cs∈rs,cs.length=7)(g:Nat)(v:List AV)(P:Nat->Bool)(st:St)
  (hP:∀i (h:i<rs.length),c g (.agg rs[i]::v) st=some (.bool (P i),st)):c 205 [ro 7 z rs,.func g [] v] st=some (.bool (decide (0<=scan P rs.length 0)),st):=by
 rw[si hc 1 (r:=(.bool (decide (0<=scan P rs.length 0)),st)),aB (Plain.bool _) (bf.refl st)];rw[tP];simp[aeF hc z rs hl dB g v P st hP]
theorem aaI(hc:Sem c)(z:Bool)(ts:List aH)(cR:∀t∈ts,t.Ok)(hl:ts.length<=16)(F:Nat)(k1 k2):∀(m k:Nat)(st:St),Wf st->ts.length<=k+m->k<=ts.length->
  ∃st',Grew st st'/\pQ c F k1 k2 (m+1) [tabs z ts,tabs z ts,.int .i64 (ts.length:Int),.int .i64 (k:Int)] st=if(dW ts m k).2=0 then k2 [] st' else k1 [.int .i64 (dW ts m k).1,.int .i64 (dW ts m k).2] st':=by
 intro m;induction m with
 |zero=>
  intro k st hw h1 h2;obtain rfl:k=ts.length:=by omega
  refine⟨st,Grew.refl hw,?_⟩;rw[yd];simp[dW,tabs]
 |succ m ih=>
  intro k st hw h1 h2;by_cases h:k<ts.length
  . have w:az .i64 ((k:Int)+1)=((k+1:Nat):Int):=wrap64 (by omega) (by omega);have bX:Wf (ah st (.cells ts[k].cells 0)):=bL hw;have hg:=Grew.ah hw (.cells ts[k].cells 0);have hch:=ajj hc ts[k] (cR _ (Zc0 h)) _ bX;have Vb:=acE hc (z&&(ts.map aH.cells).isEmpty) ((ts.map aH.cells).take k) (by simp[cC];omega) (λcs gM=>by
          have:=List.mem_of_mem_take gM;simp only[Zd0]at this;obtain⟨t,_,rfl⟩:=this;rfl) 206 [.ptr st.next 0] (iP ts ts[k].name) (ah st (.cells ts[k].cells 0)) (λi hi=>by
          have Iq:i<k:=(by simp at hi;omega);have XS:i<ts.length:=(by omega);have:=acD hc ts[i] ts[k] st.next (ah st (.cells ts[k].cells 0)) bX (aF _ _);simp only[Zn6,Zm1];rw[this];simp[iP,XS])
    have hlen:((ts.map aH.cells).take k).length=k:=(by simp;omega);rw[hlen]at Vb;rw[yd,dW,Za0 h];simp only;by_cases h3:mP ts[k]=0
    .   by_cases h4:0<=scan (iP ts ts[k].name) k 0
        .refine⟨_,hg,?_⟩;have rU:k<=ts.length:=(by omega);simp only[tabs,List.isEmpty_map]at Vb ⊢;simp[h,hch,h3,h4,rU,Vb,aH.len]
        .obtain⟨st',g1,g2⟩:=ih (k+1) _ bX (by omega) (by omega);refine⟨st',hg.trans g1,?_⟩;have rU:k<=ts.length:=(by omega);have e3:¬mP ts[k]≠0:=(by rw[h3];simp);simp only[e3,h4,Ze8];rw[<-g2];simp only[tabs,List.isEmpty_map]at Vb ⊢;simp[h,hch,h3,h4,rU,Vb,w,aH.len]
    .   refine⟨_,hg,?_⟩;simp[tabs,h,hch,h3,aH.len]
  .obtain rfl:k=ts.length:=(by omega);refine⟨st,Grew.refl hw,?_⟩;rw[yd];simp[dW,tabs]
theorem Vc(hc:Sem c)(z:Bool)(ts:List aH)(cR:∀t∈ts,t.Ok)(st:St)(hw:Wf st):c 150 [tabs z ts] st=some (.tuple [.int .i64 (bJ ts).1,.int .i64 (bJ ts).2],st):=by
 have oZ:Plain (.tuple [.int .i64 (bJ ts).1,.int .i64 (bJ ts).2]):=Plain.tuple (by simp[Plain.int]);by_cases h:16<ts.length
 .rw[Gi hc 20 (r:=(.tuple [.int .i64 (bJ ts).1,.int .i64 (bJ ts).2],st)),aB oZ (bf.refl st)];rw[KJ];have hi:(16:Int)<ts.length:=(by omega);simp[tabs,bJ,h,hi]
 . have hi:¬(16:Int)<ts.length:=(by omega);have e:bJ ts=dW ts 19 0:=(by rw[bJ,Zb2 h];exact OU ts _ _ 0 (by omega) (by omega));have hex:=λk1 k2=>aaI hc z ts cR (by omega) 20 k1 k2 19 0 st hw (by omega) (by omega)
   obtain⟨st',hg,L⟩:=hex (λvs s36=>eP vs λx2 vs=>eP vs λx3 vs=>iD vs (some (.tuple [x2,x3],s36))) (λvs s37=>iD vs (
     aj c .move [(.int .i64 0)] s37 λx2 s38=>aj c .move [(.int .i64 0)] s38 λx3 s39=>some (.tuple [x2,x3],s39)))
   rw[Gi hc 20 (r:=(.tuple [.int .i64 (bJ ts).1,.int .i64 (bJ ts).2],st')),aB oZ hg.keeps];rw[KJ,e];simp only[tabs]at L;simp[tabs,hi]at L ⊢;rw[L];by_cases h2:(dW ts 19 0).2=0
   .have:=OW ts 19 0 h2;simp[h2,this]
   .simp[h2]
def cm(ts:List aH):Int:=(ts.map aY).sum
theorem A4(ts:List aH):0<=cm ts/\cm ts<=1000*ts.length:=by
 induction ts with
 |nil=>simp[cm]
 |cons t ts ih=>
  have:=jJ t;simp only[cm,Zb1,List.sum_cons,Zc2]at ih ⊢;omega
theorem Hl(ts:List aH)(t:aH):cm (ts++[t])=cm ts+aY t:=by simp[cm]
def ey(ts:List aH)(t:Int):Int:=if t<0\/(ts.length:Int)<=t\/(bJ ts).2≠0 then 0 else cm (ts.take t.toNat)
theorem OX(hc:Sem c)(z:Bool)(ts:List aH)(cR:∀t∈ts,t.Ok)(st:St)(hw:Wf st):c 77 [tabs z ts] st=some (.bool (decide ((bJ ts).2=0)),st):=by
 rw[Y3 hc 1 (r:=(.bool (decide ((bJ ts).2=0)),st)),aB (Plain.bool _) (bf.refl st)];rw[acF];simp[Vc hc z ts cR st hw]
theorem aab{ts:List aH}(h:(bJ ts).2=0):ts.length<=16:=by
 unfold bJ at h;split at h
 .simp at h
 .omega
theorem afN(hc:Sem c)(z:Bool)(ts:List aH)(hl:ts.length<=16)(F:Nat)(k2):∀(m k:Nat)(st:St),Wf st->ts.length<=k+m->k<=ts.length->
  ∃st',Grew st st'/\vC c F k2 (m+1) [.int .i64 (cm (ts.take k)),tabs z ts,.int .i64 (ts.length:Int),.int .i64 (k:Int)] st=k2 [.int .i64 (cm ts)] st':=by
 intro m;induction m with
 |zero=>
  intro k st hw h1 h2;obtain rfl:k=ts.length:=by omega
  refine⟨st,Grew.refl hw,?_⟩;rw[CR];simp
 |succ m ih=>
  intro k st hw h1 h2;by_cases h:k<ts.length
  . have w:az .i64 ((k:Int)+1)=((k+1:Nat):Int):=wrap64 (by omega) (by omega);have bX:Wf (ah st (.cells ts[k].cells 0)):=bL hw;have hg:=Grew.ah hw (.cells ts[k].cells 0);have hs:=TY hc ts[k] _ bX;have e:cm (ts.take (k+1))=cm (ts.take k)+aY ts[k]:=by
        rw[Zb8 h,Hl]
    have b1:=A4 (ts.take k);have b2:=jJ ts[k];have b3:(ts.take k).length<=16:=(by simp;omega);have w2:az .i64 (cm (ts.take k)+aY ts[k])=cm (ts.take (k+1)):=(by rw[e];exact wrap64 (by omega) (by omega));obtain⟨st',g1,g2⟩:=ih (k+1) _ bX (by omega) (by omega);refine⟨st',hg.trans g1,?_⟩;rw[<-g2,CR];simp[tabs,h,hs,w,w2,aH.len]
  .obtain rfl:k=ts.length:=(by omega);refine⟨st,Grew.refl hw,?_⟩;rw[CR];simp
theorem V9(hc:Sem c)(z:Bool)(ts:List aH)(cR:∀t∈ts,t.Ok)(k:Int)(st:St)(hw:Wf st):c 35 [tabs z ts,.int .i64 k] st=some (.int .i64 (ey ts k),st):=by
 have lT:∀(K:AV->St->Option (AV×St))(s:St),aj c (.lenB .l) [tabs z ts] s K=K (.int .i64 (ts.length:Int)) s:=λK s=>by unfold tabs;rw[dh];simp
 have hv:=OX hc z ts cR st hw;by_cases h:k<0\/(ts.length:Int)<=k\/(bJ ts).2≠0
 . have e:ey ts k=0:=(by rw[ey,Zb5 h]);rw[MY hc 1 (r:=(.int .i64 (ey ts k),st)),aB (Plain.int _ _) (bf.refl st)];rw[Sk,e];by_cases h1:k<0
   .simp[h1]
   . by_cases h2:(ts.length:Int)<=k
     .  simp[h1,h2,lT]
     .  have h3:(bJ ts).2≠0:=h.resolve_left h1 |>.resolve_left h2;simp[h1,h2,h3,lT,hv]
 . have e:ey ts k=cm (ts.take k.toNat):=(by rw[ey,Zb2 h]);have h1:¬k<0:=λe=>h (.inl e)
   have h2:¬(ts.length:Int)<=k:=λe=>h (.inr (.inl e))
   have h3:(bJ ts).2=0:=Zk5 λe=>h (.inr (.inr e))
   have hl:=aab h3;obtain⟨n,rfl⟩:∃n:Nat,k=(n:Int):=⟨k.toNat,by omega⟩
   have hn:n<=ts.length:=(by omega);have hex:=λk2=>afN hc (z&&ts.isEmpty) (ts.take n) (by simp;omega) 20 k2 19 0 st hw (by simp;omega) (by omega)
   obtain⟨st',hg,L⟩:=hex (λvs s33=>eP vs λx5 vs=>iD vs (aj c .move [x5] s33 λx34 XT=>aj c .move [x34] XT λx4 XU=>some (x4,XU)));rw[MY hc 20 (r:=(.int .i64 (ey ts (n:Int)),st')),aB (Plain.int _ _) hg.keeps];rw[Sk,e];have h4:¬ts.length<=n:=(by omega);have hm:min n ts.length=n:=(by omega);simp[tabs,cm,hm]at L;simp[h1,h4,h3,lT,hv];simp[tabs,hn,hm,cm,L]
theorem adX(hc:Sem c)(z:Bool)(ts:List aH)(hl:ts.length<=16)(st:St)(hw:Wf st):c 115 [tabs z ts] st=some (.int .i64 (if h:0<ts.length then aY (ts[ts.length - 1]'(by omega))else 0),st):=by
 rw[Ul hc 1 (r:=(.int .i64 (if h:0<ts.length then aY (ts[ts.length - 1]'(by omega))else 0),st)),aB (Plain.int _ _) (bf.refl st)];rw[XV];by_cases h:0<ts.length
 . have h1:¬(ts.length:Int)=0:=(by omega);have h2:ts≠[]:=λe=>by subst e;simp at h
   have w:az .i64 ((ts.length:Int) - 1)=((ts.length - 1:Nat):Int):=(by rw[wrap64 (by omega) (by omega)];omega);have h3:ts.length - 1<ts.length:=(by omega);have hs:=TY hc (ts[ts.length - 1]'(by omega)) st hw;simp[tabs,h,h1,h2,w,h3,hs]
 .have h1:ts=[]:=Zc1 (by omega);subst h1;simp[tabs]
theorem ahk{ts:List aH}(hv:(bJ ts).2=0):ey ts ((ts.length:Int) - 1)+(if h:0<ts.length then aY (ts[ts.length - 1]'(by omega))else 0)=cm ts:=by
 by_cases h:0<ts.length
 .rw[dif_pos h,ey,Zb2 (by simp[hv];omega)];have e:((ts.length:Int) - 1).toNat=ts.length - 1:=(by omega);rw[e, <-Hl, <-Zb8 (by omega)];rw[show ts.length - 1+1=ts.length by omega,Zh6]
 .have h1:ts=[]:=Zc1 (by omega);subst h1;simp[ey,cm]
theorem Iy(hc:Sem c)(z:Bool)(ts:List aH)(cR:∀t∈ts,t.Ok)(st:St)(hw:Wf st):c 53 [tabs z ts] st=some (.int .i64 (if(bJ ts).2=0 then cm ts else 0),st):=by
 rw[Y4 hc 1 (r:=(.int .i64 (if(bJ ts).2=0 then cm ts else 0),st)),aB (Plain.int _ _) (bf.refl st)];rw[acG];have lT:∀(K:AV->St->Option (AV×St))(s:St),aj c (.lenB .l) [tabs z ts] s K=K (.int .i64 (ts.length:Int)) s:=λK s=>by unfold tabs;rw[dh];simp
 have hv:=OX hc z ts cR st hw;by_cases h:(bJ ts).2=0
 .have hl:=aab h;have w:az .i64 ((ts.length:Int) - 1)=(ts.length:Int) - 1:=wrap64 (by omega) (by omega);have hf:=V9 hc z ts cR ((ts.length:Int) - 1) st hw;have hla:=adX hc z ts hl st hw;have b:=A4 ts;have e:=ahk h;rw[Zb5 h, <-e];rw[<-e]at b;generalize ey ts ((ts.length:Int) - 1)=x at hf b ⊢;generalize (if h:0<ts.length then aY (ts[ts.length - 1]'(by omega))else 0)=y at hla b ⊢;have w2:az .i64 (x+y)=x+y:=wrap64 (by omega) (by omega);simp[hv,h,lT,w,hf,hla,w2]
 .simp[hv,h]
theorem ali(hc:Sem c)(z:Bool)(ts:List aH)(cR:∀t∈ts,t.Ok)(hl:ts.length<cC)(s:List Nat)(st:St)(hw:Wf st):c 155 [tabs z ts,.str s] st=
   some (.tuple [.int .i64 (if 0<=scan (iP ts s) ts.length 0/\(bJ ts).2=0 then scan (iP ts s) ts.length 0 else 0),.bool (decide (0<=scan (iP ts s) ts.length 0/\(bJ ts).2=0))],st):=by
 rw[aaJ hc 1 (r:=(.tuple [.int .i64 (if 0<=scan (iP ts s) ts.length 0/\(bJ ts).2=0 then scan (iP ts s) ts.length 0 else 0),.bool (decide (0<=scan (iP ts s) ts.length 0/\(bJ ts).2=0))],ah st (.cells [.str s] 0))),
   aB (Plain.tuple (by simp[Plain.int,Plain.bool])) (bE hw)]
 rw[adY];have bX:Wf (ah st (.cells [.str s] 0)):=bL hw;have hi:=aeF hc z (ts.map aH.cells) (by simpa using hl) (λcs gM=>by
     simp only[Zd0]at gM;obtain⟨t,_,rfl⟩:=gM;rfl) 210 [.ptr st.next 0] (iP ts s) (ah st (.cells [.str s] 0)) (λi hi=>by
     have XS:i<ts.length:=(by simpa using hi);have:=ajk hc ts[i] s st.next (ah st (.cells [.str s] 0)) bX (aF _ _);simp only[Zm1];rw[this];simp[iP,XS])
 rw[Zb9]at hi;have hv:=OX hc z ts cR _ bX;simp only[tabs]at hv ⊢;have e:(AV.str s).cells=[.str s]:=rfl;by_cases h1:0<=scan (iP ts s) ts.length 0
 . have h2:¬scan (iP ts s) ts.length 0<0:=(by omega);by_cases h3:(bJ ts).2=0
   .simp[e,hi,h1,h2,h3,hv]
   .simp[e,hi,h1,h2,h3,hv]
 .have h2:scan (iP ts s) ts.length 0<0:=(by omega);simp[e,hi,h1,h2]
structure aS where
 name:List Nat
 oQ:List Nat
 jW:List Nat
 since:Int
 side:Int
 nv:List Nat
 host:Bool
 access:Bool
 tz:Bool
 tg:List (List Nat)
def dY(z:Bool)(l:List (List Nat)):AV:=ro 1 z (l.map λs=>[.str s])
def aS.cells(g:aS):List AV:=[.str g.name,.str g.oQ,.str g.jW,.int .i64 g.since,.int .i64 g.side,.str g.nv,.bool g.host,.bool g.access,dY g.tz g.tg]
@[simp] theorem ajl(z:Bool)(l:List (List Nat)):(dY z l).one=true:=agY _ _ _
@[simp] theorem aof{R:Type}(c:aq)(K:AV->St->Option R)(st:St)(z:Bool)(l:List (List Nat)):aj c (.lenB .l) [dY z l] st K=K (.int .i64 (l.length:Int)) st:=by unfold dY;rw[dh];simp
@[simp] theorem aog{R:Type}(c:aq)(K:AV->St->Option R)(st:St)(z:Bool)(l:List Int):aj c (.lenB .l) [ints z l] st K=K (.int .i64 (l.length:Int)) st:=by unfold ints;rw[dh];simp
@[simp] theorem aS.c0(t:aS):t.cells[0]? =some (.str t.name):=id rfl
@[simp] theorem aS.c1(t:aS):t.cells[1]? =some (.str t.oQ):=id rfl
@[simp] theorem aS.c2(t:aS):t.cells[2]? =some (.str t.jW):=id rfl
@[simp] theorem aS.c3(t:aS):t.cells[3]? =some (.int .i64 t.since):=id rfl
@[simp] theorem aS.c4(t:aS):t.cells[4]? =some (.int .i64 t.side):=id rfl
@[simp] theorem aS.c5(t:aS):t.cells[5]? =some (.str t.nv):=id rfl
@[simp] theorem aS.c6(t:aS):t.cells[6]? =some (.bool t.host):=id rfl
@[simp] theorem aS.c7(t:aS):t.cells[7]? =some (.bool t.access):=id rfl
@[simp] theorem aS.c8(t:aS):t.cells[8]? =some (dY t.tz t.tg):=id rfl
@[simp] theorem aS.cc(t:aS):cut t.cells 0 9=some t.cells:=bP rfl
theorem aS.len(t:aS):t.cells.length=9:=id rfl
@[simp] theorem aS.one(t:aS):aV t.cells=true:=by unfold aS.cells;simp only[aV,ajl];rfl
def bD(z:Bool)(gs:List aS):AV:=ro 9 z (gs.map aS.cells)
@[simp] theorem acH{R:Type}(c:aq)(K:AV->St->Option R)(st:St)(z:Bool)(l:List aS):aj c (.lenB .l) [bD z l] st K=K (.int .i64 (l.length:Int)) st:=by unfold bD;rw[dh];simp
def aft(last:Option (List Nat))(s:List Nat):Bool:=match last with
 |none=>true
 |some p=>aL p s
@[simp] theorem acI(s:List Nat):aft none s=true:=id rfl
@[simp] theorem acJ(p s:List Nat):aft (some p) s=aL p s:=id rfl
def Gj(last:Option (List Nat)):List (List Nat)->Bool
 |[]=>true
 |s::l=>eX s&&aft last s&&Gj (some s) l
theorem acK(last:Option (List Nat))(s:List Nat)(l:List (List Nat)):Gj last (s::l)=(eX s&&aft last s&&Gj (some s) l):=rfl
def fe(g:aS):Int:=
 if(eX g.name&&mU g.oQ&&mU g.jW&&mU g.nv)=false then 4 else if ¬(0<=g.since/\g.since<=9999)then 21 else if ¬(0<=g.side/\g.side<=2)then 20
 else if 4<g.tg.length then 22 else if Gj none g.tg=false then 22 else 0
theorem ye:∀(a:List Nat),aL a a=false
 |[]=>rfl
 |x::a=>by
  unfold aL;simp[Hg,eD,ye a]
theorem KL:∀(a b:List Nat),aL a b=true->aL b a=false
 |[],[],h=>by simp[aL]at h
 |[],_::_,_=>rfl
 |_::_,[],h=>by simp[aL]at h
 |x ::a,y::b,h=>by
  unfold aL at h ⊢;simp only[Hg,eD]at h ⊢;by_cases h1:x<y
  .have:¬y<x:=(by omega);have h3:¬y=x:=(by omega);simp[this,h3]
  . by_cases h2:x=y
    .subst h2;simp at h ⊢; exact KL a b h
    .simp[h1,h2]at h
theorem CS:∀(a b:List Nat),aL a b=false->aL b a=false->a=b
 |[],[],_,_=>rfl
 |[],_::_,h,_=>by simp[aL]at h
 |_::_,[],_,h=>by simp[aL]at h
 |x ::a,y::b,h,k=>by
  unfold aL at h k;simp only[Hg,eD]at h k;by_cases h1:x<y
  .simp[h1]at h
  . by_cases h2:y<x
    .   simp[h2]at k
    .   have:x=y:=(by omega);subst this;simp at h k;rw[CS a b h k]
theorem OY:∀(a b d:List Nat),aL a b=true->aL b d=true->aL a d=true
 |_,[],[],_,h=>by simp[aL]at h
 |_,_::_,[],_,h=>by simp[aL]at h
 |[],_,_::_,_,_=>rfl
 |_::_,[],_::_,h,_=>by simp[aL]at h
 |x ::a   ,y::b,z::d,h,k=>by
  unfold aL at h k ⊢;simp only[Hg,eD]at h k ⊢;by_cases h1:x<y
  . by_cases h2:y<z
    .   have:x<z:=(by omega);simp[this]
    .   by_cases h3:y=z
        .subst h3;simp[h1]
        .simp[h2,h3]at k
  . by_cases h2:x=y
    .   subst h2;simp at h;by_cases h4:x<z
        .simp[h4]
        . by_cases h5:x=z
          .subst h5;simp at k ⊢; exact OY a b d h k
          .simp[h4,h5]at k
    .   simp[h1,h2]at h
theorem Wa(hc:Sem c)(p:Pos)(g:aS)(hl:g.tg.length<=4)(F:Nat)(st:St)(hp:st.heap.get p=some (.cells g.cells 0))(k1 k3):∀(m k:Nat),g.tg.length<=k+m->k<=g.tg.length->
  pg c F k1 k3 (m+1) [.ptr p 0,dY g.tz g.tg,.int .i64 (g.tg.length:Int),.int .i64 (k:Int)] st=if Gj (if k=0 then none else g.tg[k - 1]?) (g.tg.drop k)=true then k3 [] st else k1 [.int .i64 22] st:=by
 intro m;induction m with
 |zero=>
  intro k h1 h2;rw[Iz];obtain rfl:k=g.tg.length:=by omega
  simp[Gj]
 |succ m ih=>
  intro k h1 h2;rw[Iz];by_cases h:k<g.tg.length
  . have e:g.tg.drop k=g.tg[k]::g.tg.drop (k+1):=Zd2 h;have w:az .i64 ((k:Int)+1)=((k+1:Nat):Int):=wrap64 (by omega) (by omega);have hn:=FJ hc g.tg[k] st;have:=ih (k+1) (by omega) (by omega);have e2:(if k+1=0 then none else g.tg[k+1 - 1]?)=some g.tg[k]:=(by rw[Zb2 (by omega),Zg6,Za0 h]);rw[e2]at this;rw[e,acK];generalize Gj (some g.tg[k]) (g.tg.drop (k+1))=rest at this ⊢;by_cases h3:eX g.tg[k]=true
    .   by_cases h0:k=0
        .have hk:¬0<k:=(by omega);simp only[h3,Zb5 h0,Zf7,acI];rw[<-this];simp[dY,h,hn,h3,hk,w]
        . have hk:0<k:=(by omega);have sQ:k - 1<g.tg.length:=(by omega);have wk:az .i64 ((k:Int) - 1)=((k - 1:Nat):Int):=(by rw[wrap64 (by omega) (by omega)];omega);simp only[h3,Zb2 h0,Za0 sQ,Zf7,acJ];cases hb:aL g.tg[k - 1] g.tg[k]
          .simp[dY,h,hn,h3,hk,sQ,wk,hp,hb]
          .simp only[Zf7];rw[<-this];simp[dY,h,hn,h3,hk,sQ,wk,hp,hb,w]
    .   simp[dY,h,hn,h3]
  .obtain rfl:k=g.tg.length:=(by omega);simp[Gj]
theorem Y5(hc:Sem c)(g:aS)(st:St)(hw:Wf st):c 187 [.agg g.cells] st=some (.int .i64 (fe g),st):=by
 rw[XW hc 6 (r:=(.int .i64 (fe g),ah st (.cells g.cells 0))),aB (Plain.int _ _) (bE hw)];rw[aaK];have n0:=FJ hc g.name;have n1:=FK hc g.oQ;have n2:=FK hc g.jW;have n5:=FK hc g.nv;by_cases hn:(eX g.name&&mU g.oQ&&mU g.jW&&mU g.nv)=true
 . have Sn:=hn;simp only[Zb6]at Sn;obtain⟨⟨⟨b0,b1⟩,b2⟩,b5⟩:=Sn;unfold fe;rw[hn];by_cases h1:g.since<0
   .have:¬(0<=g.since/\g.since<=9999):=(by omega);simp[n0,n1,n2,n5,b0,b1,b2,b5,h1,this]
   by_cases h2:9999<g.since
   .have:¬(0<=g.since/\g.since<=9999):=(by omega);simp[n0,n1,n2,n5,b0,b1,b2,b5,h1,h2,this]
   have h3:0<=g.since/\g.since<=9999:=(by omega);by_cases h4:g.side<0
   .have:¬(0<=g.side/\g.side<=2):=(by omega);simp[n0,n1,n2,n5,b0,b1,b2,b5,h1,h2,h3,h4,this]
   by_cases h5:2<g.side
   .have:¬(0<=g.side/\g.side<=2):=(by omega);simp[n0,n1,n2,n5,b0,b1,b2,b5,h1,h2,h3,h4,h5,this]
   have h6:0<=g.side/\g.side<=2:=(by omega);by_cases h7:4<g.tg.length
   .have h8:(4:Int)<g.tg.length:=(by omega);simp[n0,n1,n2,n5,b0,b1,b2,b5,h1,h2,h3,h4,h5,h6,h7,h8]
   . have h8:¬(4:Int)<g.tg.length:=(by omega);have L:∀k1 k3,pg c 6 k1 k3 6 [.ptr st.next 0,dY g.tz g.tg,.int .i64 (g.tg.length:Int),.int .i64 0] (ah st (.cells g.cells 0))=if Gj none (g.tg.drop 0)=true then k3 [] (ah st (.cells g.cells 0))else k1 [.int .i64 22] (ah st (.cells g.cells 0)):=
        λk1 k3=>Wa hc st.next g (by omega) 6 _ (aF _ _) k1 k3 5 0 (by omega) (by omega)
     rw[Zf4]at L;generalize Gj none g.tg=b at L ⊢;cases b<;>simp[n0,n1,n2,n5,b0,b1,b2,b5,h1,h2,h3,h4,h5,h6,h7,h8,L]
 . have hn':(eX g.name&&mU g.oQ&&mU g.jW&&mU g.nv)=false:=(by simpa using hn);have hx:fe g=4:=(by unfold fe;rw[hn'];simp);rw[hx];cases b0:eX g.name
   .simp[n0,b0]
   . cases b1:mU g.oQ
     .  simp[n0,n1,b0,b1]
     .  cases b2:mU g.jW
        .simp[n0,n1,n2,b0,b1,b2]
        . cases b5:mU g.nv
          .simp[n0,n1,n2,n5,b0,b1,b2,b5]
          .simp[b0,b1,b2,b5]at hn
theorem Y6 (hc:Sem c)(p:Pos)(g:aS)(hl:g.tg.length<=4)(F:Nat)(st:St)(hp:st.heap.get p=some (.cells g.cells 0))(k1 k2):∀(m k:Nat),g.tg.length<=k+m->k<=g.tg.length->
  iY c F k1 k2 (m+1) [.ptr p 0,.int .i64 (k:Int)] st=if Gj (if k=0 then none else g.tg[k - 1]?) (g.tg.drop k)=true then k2 [] st else k1 [.int .i64 22] st:=by
 intro m;induction m with
 |zero=>
  intro k h1 h2;rw[zg];obtain rfl:k=g.tg.length:=by omega
  simp[Gj,hp]
 |succ m ih   =>
  intro k h1 h2;rw[zg];by_cases h:k<g.tg.length
  . have e:g.tg.drop k=g.tg[k]::g.tg.drop (k+1):=Zd2 h;have w:az .i64 ((k:Int)+1)=((k+1:Nat):Int):=wrap64 (by omega) (by omega);have hn:=HQ hc g.tg[k] st;have:=ih (k+1) (by omega) (by omega);have e2:(if k+1=0 then none else g.tg[k+1 - 1]?)=some g.tg[k]:=(by rw[Zb2 (by omega),Zg6,Za0 h]);rw[e2]at this;rw[e,acK];generalize Gj (some g.tg[k]) (g.tg.drop (k+1))=rest at this ⊢;by_cases h3:eX g.tg[k]=true
    .   by_cases h0:k=0
        .have hk:¬0<k:=(by omega);simp only[h3,Zb5 h0,Zf7,acI];rw[<-this];simp[dY,hp,h,hn,h3,hk,w]
        . have hk:0<k:=(by omega);have sQ:k - 1<g.tg.length:=(by omega);have wk:az .i64 ((k:Int) - 1)=((k - 1:Nat):Int):=(by rw[wrap64 (by omega) (by omega)];omega);simp only[h3,Zb2 h0,Za0 sQ,Zf7,acJ];have ho:(aL g.tg[k] g.tg[k - 1]||decide (g.tg[k]=g.tg[k - 1]))= !aL g.tg[k - 1] g.tg[k]:=by
            cases h5:aL g.tg[k - 1] g.tg[k]
            . cases h6:aL g.tg[k] g.tg[k - 1]
              .simp[CS _ _ h6 h5]
              .rfl
            . (rw[KL _ _ h5];have:g.tg[k]≠g.tg[k - 1]:=λe=>by rw[e,ye]at h5;cases h5);simp[this]
          cases hb:aL g.tg[k - 1] g.tg[k]
          .rw[hb]at ho;simp[dY,hp,h,hn,h3,hk,sQ,wk,ho]
          .rw[hb]at ho;simp only[Zf7];rw[<-this];simp[dY,hp,h,hn,h3,hk,sQ,wk,ho,w]
    .   simp[dY,hp,h,hn,h3]
  .obtain rfl:k=g.tg.length:=(by omega);simp[Gj,hp]
theorem acL(hc:Sem c)(g:aS)(st:St)(hw:Wf st):c 202 [.agg g.cells] st=some (.int .i64 (fe g),st):=by
 rw[Lz hc 6 (r:=(.int .i64 (fe g),ah st (.cells g.cells 0))),aB (Plain.int _ _) (bE hw)];rw[OZ];have n0:=HQ hc g.name;have n1:=HQ hc g.oQ;have n2:=HQ hc g.jW;have n5:=HQ hc g.nv;have en:eX []=false:=rfl;by_cases hn:(eX g.name&&mU g.oQ&&mU g.jW&&mU g.nv)=true
 . have Sn:=hn;simp only[Zb6,mU,Zg5,Zd1]at Sn;obtain⟨⟨⟨b0,b1⟩,b2⟩,b5⟩:=Sn;unfold fe;rw[hn];have hor:∀r:List Nat,r=[]\/eX r=true->(r=[]\/(¬r=[]/\eX r=true)):=λr h=>by
     by_cases e:r=[]
     .  exact .inl e
     .  exact .inr ⟨e,h.resolve_left e⟩
   have d1:=hor _ b1;have d2:=hor _ b2;have d5:=hor _ b5;by_cases h1:g.since<0
   .have:¬(0<=g.since/\g.since<=9999):=(by omega);rcases d1 with e1|⟨e1,f1⟩<;>rcases d2 with e2|⟨e2,f2⟩<;>rcases d5 with e5|⟨e5,f5⟩<;>simp[*]
   by_cases h2:9999<g.since
   .have:¬(0<=g.since/\g.since<=9999):=(by omega);rcases d1 with e1|⟨e1,f1⟩<;>rcases d2 with e2|⟨e2,f2⟩<;>rcases d5 with e5|⟨e5,f5⟩<;>simp[*]
   have h3:0<=g.since/\g.since<=9999:=(by omega);clear b1 b2 b5 hn hor;by_cases h6:0<=g.side/\g.side<=2
   . have h7:g.side=0\/g.side=1\/g.side=2:=(by omega);by_cases h8:4<g.tg.length
     .  have h9:(4:Int)<g.tg.length:=(by omega);rcases h7 with h7|h7|h7<;>rcases d1 with e1|⟨e1,f1⟩<;>rcases d2 with e2|⟨e2,f2⟩<;>rcases d5 with e5|⟨e5,f5⟩<;>simp[n0,n1,n2,n5,en,b0, *]
     .  have h9:¬(4:Int)<g.tg.length:=(by omega);have L:∀k1 k3,iY c 6 k1 k3 6 [.ptr st.next 0,.int .i64 0] (ah st (.cells g.cells 0))=if Gj none (g.tg.drop 0)=true then k3 [] (ah st (.cells g.cells 0))else k1 [.int .i64 22] (ah st (.cells g.cells 0)):=
          λk1 k3=>Y6 hc st.next g (by omega) 6 _ (aF _ _) k1 k3 5 0 (by omega) (by omega)
        rw[Zf4]at L;generalize Gj none g.tg=b at L ⊢;rcases h7 with h7|h7|h7<;>cases b<;>rcases d1 with e1|⟨e1,f1⟩<;>rcases d2 with e2|⟨e2,f2⟩<;>rcases d5 with e5|⟨e5,f5⟩<;>simp[n0,n1,n2,n5,en,b0, *]
   .have g0:¬g.side=0:=(by omega);have g1:¬g.side=1:=(by omega);have g2:¬g.side=2:=(by omega);rcases d1 with e1|⟨e1,f1⟩<;>rcases d2 with e2|⟨e2,f2⟩<;>rcases d5 with e5|⟨e5,f5⟩<;>simp[n0,n1,n2,n5,en,b0, *]
 . have hn':(eX g.name&&mU g.oQ&&mU g.jW&&mU g.nv)=false:=(by simpa using hn);have hx:fe g=4:=(by unfold fe;rw[hn'];simp);rw[hx];have hsm:∀r:List Nat,mU r=false->¬r=[]/\eX r=false:=λr h=>by simpa [mU]using h
   have zc:∀r:List Nat,mU r=true->(r=[]\/(¬r=[]/\eX r=true)):=λr h=>by
     by_cases e:r=[]
     .  exact .inl e
     .  right;simp[mU,e]at h;exact⟨e,h⟩
   cases b0:eX g.name
   .simp[n0,b0]
   . cases  b1:mU g.oQ
     .  obtain⟨q1,q2⟩:=hsm _ b1;simp[n0,n1,b0,q1,q2]
     .  have d1:=zc _ b1;cases b2:mU g.jW
        .obtain⟨q1,q2⟩:=hsm _ b2;rcases d1 with e1|⟨e1,f1⟩<;>simp[n0,n1,n2,b0, *]
        . have d2:=zc _ b2;cases b5:mU g.nv
          .obtain⟨q1,q2⟩:=hsm _ b5;rcases d1 with e1|⟨e1,f1⟩<;>rcases d2 with e2|⟨e2,f2⟩<;>simp[n0,n1,n2,n5,b0, *]
          .simp[b0,b1,b2,b5]at hn
structure Ty where
 a:List Nat
 b:List Nat
 k:Int
def Ty.cells(t:Ty):List AV:=[.str t.a,.str t.b,.int .u8 t.k]
@[simp] theorem Ty.c0(t:Ty):t.cells[0]? =some (.str t.a):=id rfl
@[simp] theorem Ty.c1(t:Ty):t.cells[1]? =some (.str t.b):=id rfl
@[simp] theorem Ty.c2(t:Ty):t.cells[2]? =some (.int .u8 t.k):=id rfl
@[simp] theorem Ty.cc(t:Ty):cut t.cells 0 3=some t.cells:=bP rfl
theorem Ty.len(t:Ty):t.cells.length=3:=id rfl
@[simp] theorem Ty.one(t:Ty):aV t.cells=true:=id rfl
@[simp] theorem am1{R:Type}(c:aq)(K:AV->St->Option R)(st:St)(t:Ty)(x y z:AV):aj c (.store 3) [.ptr st.next 0,.agg t.cells] (ah st (.cells [x,y,z] 0)) K=K .undef (ah st (.cells t.cells 0)):=cV c K st 3 (.agg t.cells) [x,y,z] rfl rfl t.one
def cj(z:Bool)(ts:List Ty):AV:=ro 3 z (ts.map Ty.cells)
@[simp] theorem ajm{R:Type}(c:aq)(K:AV->St->Option R)(st:St)(z:Bool)(l:List Ty):aj c (.lenB .l) [cj z l] st K=K (.int .i64 (l.length:Int)) st:=by unfold cj;rw[dh];simp
def jX(gs:List aS)(s:List Nat)(i:Nat):Bool:=decide (gs[i]?.map aS.name=some s)
theorem alj(z:Bool)(gs:List aS)(s:List Nat)(hl:gs.length<cC)(F:Nat)(st:St)(k1 k2):∀(m k:Nat),gs.length<=k+m->k<=gs.length->
  kV c F k1 k2 (m+1) [bD z gs,.str s,.int .i64 (k:Int)] st=if 0<=scan (jX gs s) (gs.length - k) k then k1 [.int .i64 (scan (jX gs s) (gs.length - k) k)] st else k2 [] st:=by
 intro m;induction m with
 |zero=>
  intro k h1 h2;obtain rfl:k=gs.length:=by omega
  rw[CU];simp[scan]
 |succ m ih=>
  intro k h1 h2;rw[CU];by_cases h:k<gs.length
  . have e:gs.length - k=(gs.length - (k+1))+1:=(by omega);have w:az .i64 ((k:Int)+1)=((k+1:Nat):Int):=wrap64 (by omega) (by unfold cC at hl;omega);rw[e,scan];by_cases h3:gs[k].name=s
    .   have:jX gs s k=true:=(by simp[jX,h,h3]);simp only[this,Zg7];simp[bD,h,h3]
    .   have:jX gs s k=false:=(by simp[jX,h,h3]);simp only[this,Zd3,Ze8];rw[<-ih (k+1) (by omega) (by omega)];simp[bD,h,h3,w]
  .obtain rfl:k=gs.length:=(by omega);simp[scan]
theorem XX(hc:Sem c)(z:Bool)(gs:List aS)(s:List Nat)(hl:gs.length<cC)(st:St):c 147 [bD z gs,.str s] st=some (.int .i64 (scan (jX gs s) gs.length 0),st):=by
 rw[QT hc (gs.length+1) (r:=(.int .i64 (scan (jX gs s) gs.length 0),st)),aB (Plain.int _ _) (bf.refl st)];rw[Um];have L:∀k1 k2,kV c (gs.length+1) k1 k2 (gs.length+1) [bD z gs,.str s,.int .i64 0] st=if 0<=scan (jX gs s) (gs.length - 0) 0 then k1 [.int .i64 (scan (jX gs s) (gs.length - 0) 0)] st else k2 [] st:=
   λk1 k2=>alj z gs s hl _ st k1 k2 gs.length 0 (by omega) (by omega)
 rw[Zm0]at L;by_cases h:0<=scan (jX gs s) gs.length 0
 .simp[L,h]
 .have:=(HR (jX gs s) gs.length 0).2 (by omega);simp[L,this]
def fI(s t:Ty):Bool:=aL s.a t.a||(decide (s.a=t.a)&&aL s.b t.b)
theorem aac(hc:Sem c)(s t:Ty)(st:St)(hw:Wf st):c 203 [.agg s.cells,.agg t.cells] st=some (.bool (fI s t),st):=by
 rw[JK hc 1 (r:=(.bool (fI s t),ah (ah st (.cells s.cells 0)) (.cells t.cells 0))),aB (Plain.bool _) ((bE hw).trans (bE (bL hw)))];rw[MZ];by_cases h2:s.a=t.a
 .simp[fI,h2,ye]
 .cases h1:aL s.a t.a<;>simp[fI,h1,h2]
def CV(a b:List Nat):Int:=if aL a b=true then -1 else if aL b a=true then 1 else 0
theorem amt(hc:Sem c)(a b:List Nat)(st:St):c 266 [.str a,.str b] st=some (.int .i64 (CV a b),st):=by unfold Sem at hc;subst hc;refine Hf (s:=Eo) (by rfl) ?_;show some (AV.int .i64 (match aL a b with|true=>.negSucc 0|false=>match aL b a with|true=>.ofNat 1|false=>.ofNat 0),st)=_;unfold CV;generalize aL a b=p;generalize aL b a=q;cases p<;>cases q<;>rfl
theorem Wb(hc:Sem c)(a b:List Nat)(st:St):c 242 [.str a,.str b] st=some (.int .i64 (CV a b),st):=by
 rw[Ho hc 1 (r:=(.int .i64 (CV a b),st)),aB (Plain.int _ _) (bf.refl st)];rw[JL];simp[amt hc]
theorem XY(hc:Sem c)(a b:List Nat)(st:St):c 189 [.str a,.str b] st=some (.int .i64 (CV a b),st):=by
 rw[QU hc 1 (r:=(.int .i64 (CV a b),st)),aB (Plain.int _ _) (bf.refl st)];rw[Uo];simp[Wb hc]
theorem aeG{a b:List Nat}:CV a b=0↔a=b:=by
 unfold CV;cases h1:aL a b
 . cases h2:aL b a
   .simp;exact CS _ _ h1 h2
   .simp;intro e;subst e;rw[ye]at h2;cases h2
 .simp;intro e;subst e;rw[ye]at h1;cases h1
def sR(s t:Ty):Int:=if s.a=t.a then CV s.b t.b else CV s.a t.a
theorem IA(hc:Sem c)(s t:Ty)(st:St)(hw:Wf st):c 122 [.agg s.cells,.agg t.cells] st=some (.int .i64 (sR s t),st):=by
 rw[XZ hc 1 (r:=(.int .i64 (sR s t),ah (ah st (.cells s.cells 0)) (.cells t.cells 0))),aB (Plain.int _ _) ((bE hw).trans (bE (bL hw)))];rw[aaL];by_cases h:s.a=t.a
 .have:CV t.a t.a=0:=aeG.2 rfl;simp[sR,XY hc,h,this]
 . have:¬CV s.a t.a=0:=λe=>h (aeG.1 e)
   simp[sR,XY hc,h,this]
theorem Y7{s t:Ty}:sR s t<0↔fI s t=true:=by
 unfold sR fI CV;by_cases h:s.a=t.a
 .simp only[h,ye,Zg7];cases aL s.b t.b<;>cases aL t.b s.b<;>simp
 .simp only[h,Ze8];cases aL s.a t.a<;>cases aL t.a s.a<;>simp
theorem TZ{s t:Ty}:0<sR s t↔fI t s=true:=by
 unfold sR fI CV;by_cases h:s.a=t.a
 . simp only[h,ye,Zg7];cases h1:aL s.b t.b
   .cases aL t.b s.b<;>simp
   .simp[KL _ _ h1]
 . have h':¬t.a=s.a:=λe=>h e.symm
   simp only[h,h',Ze8];cases h1:aL s.a t.a
   .cases aL t.a s.a<;>simp
   .simp[KL _ _ h1]
theorem aeH(hc:Sem c)(a b:List Nat)(k:Int)(aW:aL a b=true)(st:St)(hw:Wf st):c 191 [.str a,.str b,.int .u8 k] st=some (.agg (Ty.cells ⟨a,b,k⟩),st):=by
 rw[Y8 hc 1 (r:=(.agg (Ty.cells ⟨a,b,k⟩),ah st (.cells (Ty.cells ⟨a,b,k⟩) 0))),aB (Plain.agg (by simp[Ty.cells,Plain.str,Plain.int])) (bE hw)];rw[acM];have m1:∀(K:AV->St->Option (AV×St))(s:St),aj c .minB [.str a,.str b] s K=K (.str a) s:=λK s=>bC c K (λH n=>by simp[aJ.run,HA,aW]) s
 have m2:∀(K:AV->St->Option (AV×St))(s:St),aj c .maxB [.str a,.str b] s K=K (.str b) s:=λK s=>bC c K (λH n=>by simp[aJ.run,HC,aW]) s
 simp[m1,m2,cH,aZ,eZ,AV.cells,aV,AV.one,bP,Ty.cells]
def iq(gs:List aS):Nat->Nat->Int×Int
 |0,_=>(0,0)
 |  m+1,k=>match gs[k]? with
    |none=>(0,0)
    |some g=>if fe g≠0 then((k:Int),fe g)else if 0<=scan (jX gs g.name) k 0 then((k:Int),5)else if 64<=k then((k:Int),7)else iq gs m (k+1)
def nW(ts:List Ty)(k:Nat):Option Ty:=if k=0 then none else ts[k - 1]?
def Fg(t:Ty):Bool:=decide (t.k=1)||decide (t.k=2)
def T6(t:Ty)(p:Option Ty):Bool:= !Fg t|| !aL t.a t.b||(match p with|none=>false|some p=>fI t p)
def sw(t:Ty)(p:Option Ty):Bool:=match p with|none=>false|some p=> !fI p t
def mD(gs:List aS)(t:Ty):Bool:=decide (scan (jX gs t.a) gs.length 0<0)||decide (scan (jX gs t.b) gs.length 0<0)
def fT(gs:List aS)(ts:List Ty):Nat->Nat->Int×Int
 |0,_=>(0,0)
 |  m+1,k=>match ts[k]? with
    |none=>(0,0)
    |some t=>if T6 t (nW ts k)=true then((gs.length:Int)+k,23)else if mD gs t=true then((gs.length:Int)+k,6)
     else if sw t (nW ts k)=true then((gs.length:Int)+k,5)else if 256<=k then((gs.length:Int)+k,7)else fT gs ts m (k+1)
def bW(gs:List aS)(ts:List Ty):Int×Int:=if(iq gs 101 0).2≠0 then iq gs 101 0 else fT gs ts 101 0
theorem acN{gs:List aS}{s:List Nat}{k:Nat}(hk:k<=gs.length):scan (jX (gs.take k) s) k 0=scan (jX gs s) k 0:=
 XO k 0 λi _ hi=>by simp[jX,Zd7,show i<k by omega]
theorem O0 (gs:List aS)(ts:List Ty):∀(m k:Nat),(fT gs ts m k).2=0->(fT gs ts m k).1=0
 |0,_,_=>rfl
 |m +   1,k , h=>by
  rw[fT]at h ⊢;split at h
  .rfl
  . split   at h
    .   simp at h
    .   split at h
        .simp at h
        . split at h
          .simp at h
          . split at h
            .simp at h
            .rename_i h1 h2 h3 h4;rw[Zb2 h1,Zb2 h2,Zb2 h3,Zb2 h4];exact O0 gs ts m (k+1) h
abbrev O3(s:List Nat):List AV:=[.str s]
theorem ajn(l:List (List Nat)):∀r∈l.map O3,r.length=1:=λr hr=>by simp only[Zd0]at hr;obtain⟨m,_,rfl⟩:=hr;rfl
theorem ajo{s:St}(z:Bool)(l:List (List Nat)):Src 1 s (dY z l) (l.map O3):=Src.ro z _
theorem ahl(hc:Sem c){src:AV}(l:List (List Nat))(hl:l.length<=1000)(s:St)(hw:Wf s)(h:Src 1 s src (l.map O3)):∃v s',c 89 [src] s=some (v,s')/\Mk 1 s s' v (l.map O3):=by
 rcases h.nil with⟨rfl,h0⟩|hn
 . (refine⟨.af,s,?_,by rw[h0];exact Mk.start hw (Grew.refl hw)⟩;rw[iQ hc 1 (r:=(.af,s)),aB Plain.af (bf.refl s)];rw[jD];have e:∀(K:AV->St->Option (AV×St))(s:St),aj c (.bin .eql .slice) [.af,.af] s K=K (.bool true) s:=λK s=>bC c K (λH n=>rfl) s);simp[e]
 .obtain⟨v,s',a1,a2⟩:=Z5 (c:=c) (R:=AV×St) (bytes:=16) (z:=[.str []]) (ajn l) (by decide) (by simp;omega) (by simp;omega) s hw h;obtain⟨cP,t1,t2⟩:=a2.tidy;refine⟨v,cP,?_,t2⟩;rw[iQ hc 1 (r:=(v,s')),t1];rw[jD];simp only[ai,hn,aX];rw[a1]
def aS.aM(g:aS)(v:AV):List AV:=[.str g.name,.str g.oQ,.str g.jW,.int .i64 g.since,.int .i64 g.side,.str g.nv,.bool g.host,.bool g.access,v]
theorem aS.ahm(g:aS):g.aM (dY g.tz g.tg)=g.cells:=rfl
theorem aS.Y9(t:aS){v:AV}(h:aV [v]=true):aV (t.aM v)=true:=by
 simp only[aV]at h;unfold aS.aM;simp only[aV,AV.one,h,Ze5,Zg8]at*
structure aS.Low(g:aS):Prop where
 name:∀x∈g.name,x<256
 oQ:∀x∈g.oQ,x<256
 jW:∀x∈g.jW,x<256
 nv:∀x∈g.nv,x<256
theorem ahn(hc:Sem c)(g:aS)(hg:g.Low)(hl:g.tg.length<=1000){src:AV}(s:St)(hw:Wf s)(h:Src 1 s src (g.tg.map O3))(h1:src.cells=[src])(h2:src.one=true):
  ∃v s',c 188 [.agg (g.aM src)] s=some (.agg (g.aM v),s')/\Mk 1 s s' v (g.tg.map O3):=by
 let zero:List AV:=[.str [],.str [],.str [],.int .i64 0,.int .i64 0,.str [],.bool false,.bool false,.af]
 have gS:Wf (ah (ah s (.cells (g.aM src) 0)) (.cells zero 0)):=bL (bL hw);have ze:=(Grew.ah hw (.cells (g.aM src) 0)).trans (Grew.ah (bL hw) (.cells zero 0));obtain⟨v,s3,h3,M⟩:=ahl hc g.tg hl _ gS (h.aA ze);have M0:=M.back hw ze;have hx:s3.heap.get s.next=some (.cells (g.aM src) 0):=M.aA.get CJ;have hy:s3.heap.get (ah s (.cells (g.aM src) 0)).next=some (.cells zero 0):=M.aA.get (aF _ _);obtain⟨hvc,hvo⟩:=M.cells;have cA:s.next≠(ah s (.cells (g.aM src) 0)).next:=Pos.TR _;have hlt1:s.next.toNat<s3.next.toNat:=by have:=M.aA.next;rw[cO,cO,Pos.aK,Pos.aK]at this;omega
 have ai4:(ah s (.cells (g.aM src) 0)).next.toNat<s3.next.toNat:=by have:=M.aA.next;rw[cO,Pos.aK]at this;omega
 have vo:v.one=true:=Xx hvo;have zc:aZ (g.aM src) 8 [v]=g.aM v:=rfl;have UP:aV (g.aM v)=true:=g.Y9 hvo;have hro0:aV (g.aM src)=true:=g.Y9 (by simp only[aV,h2]);have new:∀b,bN v=some b->(ah s (.cells (g.aM src) 0)).next.toNat<b.toNat:=λb hb=>by have:=M.new b hb;rw[cO,Pos.aK]at this;omega
 have RJ:s.next.toNat<(ah s (.cells (g.aM src) 0)).next.toNat:=by rw[cO,Pos.aK];omega
 let s4:=bI s3 s.next (.cells (g.aM v) 0)
 let s5:=bI s4 (ah s (.cells (g.aM src) 0)).next (.cells (g.aM v) 0)
 have hx4:s4.heap.get s.next=some (.cells (g.aM v) 0):=cW _ _ _;have hy4:s4.heap.get (ah s (.cells (g.aM src) 0)).next=some (.cells zero 0):=by show(bI s3 s.next (.cells (g.aM v) 0)).heap.get _=_;rw[aO cA];exact hy
 have hy5:s5.heap.get (ah s (.cells (g.aM src) 0)).next=some (.cells (g.aM v) 0):=cW _ _ _;have M4:Mk 1 s s4 v (g.tg.map O3):=M0.store (Za6 _) hlt1 (λe=>by have:=new _ e;omega);have M5:Mk 1 s s5 v (g.tg.map O3):=M4.store (by omega) ai4 (λe=>by have:=new _ e;omega);have hi:∀u∈g.aM v,gP u:=λu hu=>by
  simp only[aS.aM,Zb4,Zc8,Zg9]at hu;rcases hu with rfl|rfl|rfl|rfl|rfl|rfl|rfl|rfl|rfl
  .exact gP.str hg.name
  .exact gP.str hg.oQ
  .exact gP.str hg.jW
  .exact gP.int _ _
  .exact gP.int _ _
  .exact gP.str hg.nv
  .exact gP.bool _
  .exact gP.bool _
  .exact M.inst
 obtain⟨cP,t1,_,t2⟩:=M5.VZ (l:=g.aM v) (by simp[aS.aM]) hi;refine⟨v,cP,?_,t2⟩;rw[Wc hc 1 (r:=(.agg (g.aM v),s5)),t1];rw[Za];have bQ:=λ(K:AV->St->Option (AV×St))=>dz c K s3 1 s.next 8 v (g.aM src) hx (by rw[hvc];rfl) (by simp[aS.aM]) (by rw[hvc];exact hvo)
 rw[hvc,zc]at bQ;have zZ:=λ(K:AV->St->Option (AV×St))=>dz c K s4 9 (ah s (.cells (g.aM src) 0)).next 0 (.agg (g.aM v)) _ hy4 rfl (by simp[zero,aS.aM]) UP
 have hsp2:aZ zero 0 (AV.agg (g.aM v)).cells=g.aM v:=rfl;rw[hsp2]at zZ;have hcut:cut (g.aM v) 0 9=some (g.aM v):=bP rfl;have g8:(g.aM src)[8]? =some src:=rfl;have st2':∀(K:AV->St->Option (AV×St)),aj c (.store 9) [.ptr (ah s (.cells (g.aM src) 0)).next 0,.agg (g.aM v)] (bI s3 s.next (.cells (g.aM v) 0)) K=K .undef s5:=λK=>zZ K
 have bx:∀(K:AV->St->Option (AV×St)),aj c .box [.agg (g.aM src)] s K=K (.ptr s.next 0) (ah s (.cells (g.aM src) 0)):=λK=>by rw[dw];rfl
 simp[bx,h3,g8,zero,bQ,hcut];rw[st2'];simp only[hy5,ak,Za2,hcut,cT]
theorem aaM(b:Pos)(off:Nat):¬Plain (.ptr b off):=λh=>by
 have:=h (λ_=>⟨0,0,0⟩) (λ_=>⟨0,0,0⟩) (b.toNat+1) 0 (λ_=>none) _ (.ptr b off (by omega));cases this with
 |ptr _ _ h=>omega
theorem ajp{s s':St}{b:Pos}{off:Nat}:tidy s (.ptr b off,s')=(.ptr b off,s'):=by unfold tidy;rw[Zb2];exact λh=>aaM _ _ h.1
theorem amu(hc:Sem c)(s:St):c 120 [] s=some (.ptr (ah s (.map [] 0)).next 0,ah (ah s (.map [] 0)) (.cells [.af,.af,.map s.next] 0)):=by
 rw[aaN hc 1 (r:=(.ptr (ah s (.map [] 0)).next 0,ah (ah s (.map [] 0)) (.cells [.af,.af,.map s.next] 0))),ajp];rw[adZ];simp[cH,aZ,eZ,AV.cells]
def mH(k:Option Pos)(n es:Nat):AV:=match k with
 |none=>.af
 |some b=>.slice b 0 n none es
theorem O4{k:Option Pos}{n es:Nat}(h:k=none->n=0):∀H p,aJ.run H p (.lenB .l) [mH k n es]=some (.val (.int .i64 (n:Int))):=λH p=>by
 cases k with
 |none=>rw[h rfl];rfl
 |some b=>rfl
def afO(s0 s:St)(bp:Pos)(gk tk:Option Pos)(g:aS)(row:List AV):Prop:=g.Low/\g.tg.length<=4/\∃v,row=g.aM v/\v.cells=[v]/\v.one=true/\QS 1 s v (g.tg.map O3)/\∀p,bN v=some p->p≠bp/\gk≠some p/\tk≠some p/\s0.heap.get p=none
theorem aho{es:Nat}{s:St}{v:AV}{rows:List (List AV)}(h:QS es s v rows){b:Pos}(hb:bN v=some b):∃cs,s.heap.get b=some (.cells cs 0):=by
 rcases h with⟨rfl,rfl⟩|⟨b',off,cap,cs,rfl,h1,_⟩|⟨b',off,rfl,rfl⟩
 .cases hb
 .obtain rfl:=Bu hb;exact⟨cs,h1⟩
 .rw[l9]at hb;cases hb
theorem afO.to{s0 s s':St}{bp:Pos}{gk tk Qc M9:Option Pos}{g:aS}{row:List AV}(h:afO s0 s bp gk tk g row)
   (hk:∀p cs,p≠bp->gk≠some p->tk≠some p->s.heap.get p=some (.cells cs 0)->s'.heap.get p=some (.cells cs 0)/\Qc≠some p/\M9≠some p):afO s0 s' bp Qc M9 g row:=by
 obtain⟨h1,h2,v,h3,h4,h5,h6,h7⟩:=h;refine⟨h1,h2,v,h3,h4,h5,h6.mono λb x hb hx=> ?_,λp hp=> ?_⟩
 .obtain⟨cs,h8⟩:=aho h6 hb;rw[h8]at hx;cases hx;obtain⟨a1,a2,a3,_⟩:=h7 b hb;exact(hk b cs a1 a2 a3 h8).1
 .obtain⟨cs,h8⟩:=aho h6 hp;obtain⟨a1,a2,a3,a4⟩:=h7 p hp;exact⟨a1,(hk p cs a1 a2 a3 h8).2.1,(hk p cs a1 a2 a3 h8).2.2,a4⟩
structure ic(s0 s:St)(bp mp:Pos)(gs:List aS)(ts:List Ty)(gk tk:Option Pos):Prop where
 wf:Wf s
 keeps:bf s0 s
 next:s0.next.toNat<=s.next.toNat
 book:s.heap.get bp=some (.cells [mH gk gs.length 9,mH tk ts.length 3,.map mp] 0)
 IB:∃es cl,s.heap.get mp=some (.map es cl)/\es.map (·.1)=gs.map λg=>.str g.name
 xk:(gk=none->gs=[])/\∀b,gk=some b->∃cs,s.heap.get b=some (.cells cs 0)/\cs.length=gs.length*9
 Fh:(tk=none->ts=[])/\∀b,tk=some b->s.heap.get b=some (.cells (ts.flatMap Ty.cells) 0)
 dg:gk≠some bp
 dt:tk≠some bp
 dgt:∀b,gk=some b->tk≠some b
 fb:s0.heap.get bp=none
 fm:s0.heap.get mp=none
 fg:∀b,gk=some b->s0.heap.get b=none
 ft:∀b,tk=some b->s0.heap.get b=none
 Wd:∀es cl,s.heap.get mp=some (.map es cl)->∀e∈es,∃i:Nat,e.2.1= .int .i64 (i:Int)/\i<gs.length
 We:∀es cl,s.heap.get mp=some (.map es cl)->es.map (λe=>e.2.1)=(List.range gs.length).map λ(i:Nat)=>AV.int .i64 (i:Int)
 rows:∀b cs,gk=some b->s.heap.get b=some (.cells cs 0)->∀(i:Nat)(g:aS),gs[i]? =some g->afO s0 s bp gk tk g ((cs.drop (i*9)).take 9)
theorem ic.lt{s0 s:St}{bp mp:Pos}{gs:List aS}{ts:List Ty}{gk tk:Option Pos}(h:ic s0 s bp mp gs ts gk tk):bp.toNat<s.next.toNat/\mp.toNat<s.next.toNat:=by
 obtain⟨es,cl,h1,_⟩:=h.IB;exact⟨h.wf _ _ h.book,h.wf _ _ h1⟩
theorem ic.aA{s0 s s':St}{bp mp:Pos}{gs:List aS}{ts:List Ty}{gk tk:Option Pos}(h:ic s0 s bp mp gs ts gk tk)(g:Grew s s'):ic s0 s' bp mp gs ts gk tk where
 wf:=g.wf
 keeps:=h.keeps.trans g.keeps
 next:=Zb7 h.next g.next
 book:=g.get h.book
 IB:=let⟨es,cl,h1,h2⟩:=h.IB;⟨es,cl,g.get h1,h2⟩
 xk:=⟨h.xk.1,λb hb=>let⟨cs,h1,h2⟩:=h.xk.2 b hb;⟨cs,g.get h1,h2⟩⟩
 Fh:=⟨h.Fh.1,λb hb=>g.get (h.Fh.2 b hb)⟩
 dg:=h.dg
 dt:=h.dt
 dgt:=h.dgt
 fb:=h.fb
 fm:=h.fm
 fg:=h.fg
 ft:=h.ft
 Wd:=λes cl hm=>by obtain⟨es0,cl0,h1,h2⟩:=h.IB;have:=g.get h1;rw[hm]at this;cases this;exact h.Wd _ _ h1
 We:=λes cl hm=>by obtain⟨es0,cl0,h1,h2⟩:=h.IB;have:=g.get h1;rw[hm]at this;cases this;exact h.We _ _ h1
 rows:=λb cs hb hs i u hu=>by
  obtain⟨cs0,h1,h2⟩:=h.xk.2 b hb;have:=g.get h1;rw[hs]at this;cases this;exact(h.rows b _ hb h1 i u hu).to λp cs _ a2 a3 hx=>⟨g.get hx,a2,a3⟩
theorem ic.start{s:St}(hw:Wf s):ic s (ah (ah s (.map [] 0)) (.cells [.af,.af,.map s.next] 0)) (ah s (.map [] 0)).next s.next [] [] none none where
 wf:=bL (bL hw)
 keeps:=(bE hw).trans (bE (bL hw))
 next:=by simp only[cO,Pos.aK];omega
 book:=aF _ _
 IB:=⟨[],0,CJ,rfl⟩
 xk:=⟨λ_=>rfl,λb h=>by cases h⟩
 Fh:=⟨λ_=>rfl,λb h=>by cases h⟩
 dg:=λh=>by cases h
 dt:=λh=>by cases h
 dgt:=λb h=>by cases h
 fb:=by
  cases h:s.heap.get (ah s (.map [] 0)).next with
  |none=>rfl
  |some x=>have:=hw _ _ h;rw[cO,Pos.aK]at this;omega
 fm:=by
  cases h:s.heap.get s.next with
  |none=>rfl
  |some x=>have:=hw _ _ h;omega
 fg:=λb h=>by cases h
 ft:=λb h=>by cases h
 Wd:=λes cl hm e he=>by have:(ah (ah s (.map [] 0)) (.cells [.af,.af,.map s.next] 0)).heap.get s.next=some (.map [] 0):=CJ;rw[hm]at this;cases this;cases he
 We:=λes cl hm=>by have:(ah (ah s (.map [] 0)) (.cells [.af,.af,.map s.next] 0)).heap.get s.next=some (.map [] 0):=CJ;rw[hm]at this;cases this;rfl
 rows:=λb cs h=>by cases h
theorem LA(s:List Nat):∀(gs:List aS)(es:List (AV×AV×Nat))(i:Nat),es.map (·.1)=gs.map (λg=>.str g.name)->
  (s∈gs.map aS.name/\∃j v,lJ .s (.str s) es i=some (some (j,v)))\/(s∉gs.map aS.name/\lJ .s (.str s) es i=some none)
 |[],es,i,h=>by
  have:es=[]:=by simpa using h
  subst this;exact .inr ⟨by simp,rfl⟩
 |g::gs,[],i,h=>by simp at h
 |g ::gs,(k,v,n)::es,i,h=>by
  simp only[Zb1,Zh1]at h;obtain⟨h1,h2⟩:=h;subst h1;by_cases e:s=g.name
  .subst e;exact .inl ⟨by simp,i,v,by simp[lJ,zG,fG]⟩
  . rcases LA s gs es (i+1) h2 with⟨a,b⟩|⟨a,b⟩
    .   left;refine⟨by simp at a ⊢; exact .inr a,?_⟩;simpa [lJ,zG,fG,e]using b
    .   right;refine⟨by simp at a ⊢; exact⟨e,a⟩,?_⟩;simpa [lJ,zG,fG,e]using b
theorem O5{gs:List aS}{s:List Nat}:0<=scan (jX gs s) gs.length 0↔s∈gs.map aS.name:=by
 constructor
 .intro h;obtain⟨_,h2,h3⟩:=Iw _ _ h;simp only[jX,Zd1]at h3;rw[Za0 (by omega)]at h3;simp only[Zd8,H0]at h3;rw[<-h3];exact Zd0.2 ⟨_,Zc0 _,rfl⟩
 . intro  h;obtain⟨g,hg,rfl⟩:=Zd0.1 h;obtain⟨i,hi,rfl⟩:=Zf0.1 hg;have key:∀(m k:Nat),k<=i->i<k+m->0<=scan (jX gs gs[i].name) m k:=by
    intro m;induction m with
    |zero=>intro k h1 h2;omega
    |   succ m ih=>
        intro k h1 h2;unfold scan;split
        .omega
        . rename_i cA;by_cases e:k=i
          .subst e;simp[jX,hi]at cA
          .exact ih (k+1) (by omega) (by omega)
   exact key _ _ (by omega) (by omega)
theorem aeI(hc:Sem c)(s:St)(bp mp:Pos)(x y:AV)(h:s.heap.get bp=some (.cells [x,y,.map mp] 0)):c 128 [.ptr bp 0] s=some (.bool false,s):=by
 rw[QV hc 1 (r:=(.bool false,s)),aB (Plain.bool _) (bf.refl s)];rw[Up];have e1:∀(K:AV->St->Option (AV×St))(s:St),aj c (.bin .eql .ptr) [.ptr bp 0,.pz] s K=K (.bool false) s:=λK s=>bC c K (λH n=>rfl) s
 have e2:∀(K:AV->St->Option (AV×St))(s:St),aj c (.bin .eql .map) [.map mp,.sF] s K=K (.bool false) s:=λK s=>bC c K (λH n=>rfl) s
 simp[e1,e2,h]
theorem afP(z:Bool)(l:List (List Nat)):(dY z l).cells=[dY z l]:=by unfold dY ro;split<;>rfl
theorem ajq(z:Bool)(l:List (List Nat)):(dY z l).one=true:=by unfold dY ro;split<;>rfl
theorem aeJ{s:List Nat}(h:eX s=true):∀x∈s,x<256:=λx hx=>by simp only[eX,Zb6,Zj3,Zd1]at h;have:=h.2 x hx;omega
theorem Zb{s:List Nat}(h:mU s=true):∀x∈s,x<256:=λx hx=>by
 simp only[mU,Zg5,Zd1]at h;rcases h with h|h
 .rw[h]at hx;cases hx
 .exact aeJ h x hx
theorem aad{g:aS}(h:fe g=0):g.Low:=by
 unfold fe at h;split at h
 .simp at h
 .rename_i hn;simp only[Bool.not_eq_false,Zb6]at hn;exact⟨aeJ hn.1.1.1,Zb hn.1.1.2,Zb hn.1.2,Zb hn.2⟩
theorem aeK{s:St}(hw:Wf s){k:Option Pos}{n es bytes:Nat}{q:Pos}{row:List AV}(hk:k=none->n=0)(gM:∀b,k=some b->∃cs,s.heap.get b=some (.cells cs 0)/\cs.length=n*es)(hq:s.heap.get q=some (.cells row 0))(hr:row.length=es)
  (h1:aV row=true) (dB:es≠0) (hb:(2*(n+1)+768)*bytes<=281474976710656) (hn:n<=1000):
  ∃ s5 cs',(∀(K:AV->St->Option (AV×St)),aj c (.append es bytes) [mH k n es,.slice q 0 1 (some 1) es] s K=K (.slice s.next 0 (n+1) none es) s5)/\s5.heap.get s.next=some (.cells cs' 0)/\cs'.length=(n+1)*es/\
    (∀b cs,k=some b->s.heap.get b=some (.cells cs 0)->cs'=cs++row)/\(k=none->cs'=row)/\s5.next=s.next.succ/\Wf s5/\∀p,k≠some p->p.toNat<s.next.toNat->s5.heap.get p=s.heap.get p:=by
 have hx:cZ es 1 (λb=>s.heap.get b) (.slice q 0 1 (some 1) es)=some row:=by simp only[cZ,eD,Zm7,Za3 dB,hq];exact bP hr
 cases k with
 |none=>
  obtain rfl:=hk rfl;refine⟨ah s (.cells row 0),row,λK=>acf c K (m:=1) rfl (by omega) (by omega) (by omega) hx,aF _ _,by omega,λb cs h=>(by cases h),λ_=>rfl,rfl,bL hw,λp _ hp=>ru hp⟩
 |some b=>
  obtain⟨cs,h2,h3⟩:=gM b rfl;have ho:cZ es n (λb=>s.heap.get b) (.slice b 0 n none es)=some cs:=by
    by_cases h0:n=0
    .   subst h0;have:cs=[]:=Zc1 (by omega);subst this;simp[cZ,eD]
    .   have:¬n*es=0:=λe=>by rcases Nat.mul_eq_zero.1 e with e|e<;>omega
        simp only[cZ,eD,Za3 this,h2];exact bP h3
  refine⟨dst s b (.cells (cs++row) 0),cs++row,λK=>akZ c K (m:=1) rfl (by omega) hb (by omega) h2 ho hx h1,TU _ _ _,?_,λb' cs2 e h=> ?_,λh=>(by cases h),rfl,ace hw,λp hp hl=>OH (λe=>hp (by rw[e])) hl⟩
  .rw[Zc9,h3,hr,Zj0,Zm7]
  .cases e;rw[h2]at h;cases h;rfl
def yf(gs:List aS)(g:aS):Int:=if fe g≠0 then fe g else if 0<=scan (jX gs g.name) gs.length 0 then 5 else if gs.length=64 then 7 else 0
theorem amv (hc : Sem c){s0 s:St}{bp mp:Pos}{gs:List aS}{ts:List Ty}{gk tk:Option Pos}(DY:Wf s0)(B:ic s0 s bp mp gs ts gk tk)(hl:gs.length<=64)(g:aS):
   ∃s',c 121 [.ptr bp 0,.agg g.cells] s=some (.int .i64 (yf gs g),s')/\(yf gs g≠0->s'=s)/\(yf gs g=0->∃Qc,ic s0 s' bp mp (gs++[g]) ts Qc tk):=by
 have bX:Wf (ah s (.cells g.cells 0)):=bL B.wf;have B1:=B.aA (Grew.ah B.wf (.cells g.cells 0));generalize hs1:ah s (.cells g.cells 0)=s1 at bX B1;have hpg:s1.heap.get s.next=some (.cells g.cells 0):=by rw[<-hs1];exact aF _ _
 have oY:=aeI hc s1 bp mp _ _ B1.book;have hch:=Y5 hc g s1 bX;have lG:∀(K:AV->St->Option (AV×St))(s:St),aj c (.lenB .l) [mH gk gs.length 9] s K=K (.int .i64 (gs.length:Int)) s:=λK s=>bC c K (O4 λh=>by rw[B.xk.1 h];rfl) s
 have lG2:∀(K:AV->Option (AV×St)),gU (.lenB .l) [mH gk gs.length 9] K=K (.int .i64 (gs.length:Int)):=λK=>dJ K (O4 λh=>by rw[B.xk.1 h];rfl)
 obtain⟨es,cl,lU,hm2⟩:=B1.IB;have fail:∀e:Int,e≠0->yf gs g=e->y9 c 1 (.ptr bp 0) (.agg g.cells) s=some (.int .i64 e,s1)->∃s',c 121 [.ptr bp 0,.agg g.cells] s=some (.int .i64 (yf gs g),s')/\(yf gs g≠0->s'=s)/\(yf gs g=0->∃Qc,ic s0 s' bp mp (gs++[g]) ts Qc tk):=λe he ha h=>by
   refine⟨s,?_,λ_=>rfl,λh0=>absurd (ha.symm.trans h0) he⟩;rw[Fi hc 1 h,ha,aB (Plain.int _ _) (by rw[<-hs1];exact bE B.wf)]
 have eb:∀(K:AV->St->Option (AV×St)),aj c .box [.agg g.cells] s K=K (.ptr s.next 0) s1:=λK=>by rw[dw, <-hs1];rfl
 have h64:((gs.length:Int)=64)↔gs.length=64:=by omega
 by_cases h1:fe g=0
 . rcases LA  g.name gs es 0 hm2 with⟨rV,j,v,hf⟩|⟨rV,hf⟩
   . have hsc:=O5.2 rV;refine fail 5 (by omega) (by simp[yf,h1,hsc]) ?_;rw[uG];have lk:=λ(K:AV->Option (AV×St))=>ZY K (.int .i64 0) (h:=s1.heap) (k:= .str g.name) lU hf
     simp[eb,oY,hch,h1,hpg,B1.book,lk]
   . have hsc: ¬0<=scan (jX gs g.name) gs.length 0:=λh=>rV (O5.1 h)
     have lk:=λ(K:AV->Option (AV×St))=>ZY K (.int .i64 0) (h:=s1.heap) (k:= .str g.name) lU hf
     by_cases h2:gs.length=64
     .  have h2d:decide ((gs.length:Int)=64)=true:=Za1 (by omega);refine fail 7 (by omega) (by unfold yf;rw[Zb2 (by simp[h1]),Zb2 hsc,Zb5 h2]) ?_;rw[uG];simp[eb,oY,hch,h1,hpg,B1.book,lk,lG,h2d]
     .  have htg:g.tg.length<=4:=by
          unfold fe at h1;split at h1
          .simp at h1
          . split at h1
            .simp at h1
            . split at h1
              .simp at h1
              . split at h1
                .simp at h1
                .omega
        have he:yf gs g=0:=(by unfold yf;rw[Zb2 (by simp[h1]),Zb2 hsc,Zb2 h2]);have h2d:decide ((gs.length:Int)=64)=false:=Za3 (by omega);have lt1:=B1.lt;have oZ:s.next.toNat<s1.next.toNat:=(by rw[<-hs1,cO,Pos.aK];omega);have nmb:mp≠bp:=λe=>by rw[e,B1.book]at lU;cases lU
        have nmp:mp≠s.next:=λe=>by rw[e,hpg]at lU;cases lU
        let PU:=es++[(AV.str g.name,AV.int .i64 (gs.length:Int),cl)]
        let s2:=bI s1 mp (.map PU (cl+1))
        have gS:Wf s2:=jI bX lt1.2;have b2:s2.heap.get bp=some (.cells [mH gk gs.length 9,mH tk ts.length 3,.map mp] 0):=(by show(bI _ _ _).heap.get bp=_;rw[aO nmb];exact B1.book);have p2:s2.heap.get s.next=some (.cells g.cells 0):=(by show(bI _ _ _).heap.get _=_;rw[aO nmp];exact hpg);have m2:s2.heap.get mp=some (.map PU (cl+1)):=cW _ _ _;obtain⟨v,s3,q1,M⟩:=ahn hc g (aad h1) (by omega) s2 gS (ajo g.tz g.tg) (afP _ _) (ajq _ _);rw[aS.ahm]at q1
        let row:=g.aM v
        have q2:=M.aA;have q3:row.length=9:=rfl;have vone:v.one=true:=Xx M.cells.2;have q4:aV row=true:=g.Y9 M.cells.2;have hw4:Wf (ah s3 (.cells row 0)):=bL q2.wf;have gr4:=q2.trans (Grew.ah q2.wf (.cells row 0));have iA:∀p x,s2.heap.get p=some x->p.toNat<(ah s3 (.cells row 0)).next.toNat:=λp x h=>hw4 p x (gr4.get h)
        have gM:∀b,gk=some b->∃cs,(ah s3 (.cells row 0)).heap.get b=some (.cells cs 0)/\cs.length=gs.length*9:=λb hb=>by
          obtain⟨cs,h3,h4⟩:=B1.xk.2 b hb;have:mp≠b:=λe=>by rw[e,h3]at lU;cases lU
          exact⟨cs,gr4.get (by show(bI _ _ _).heap.get b=_;rw[aO this];exact h3),h4⟩
        obtain⟨s5,cs',r1,r2,r3,ra,rb,r4,r5,r6⟩:=aeK (c:=c) (es:=9) (bytes:=112) hw4 (k:=gk) (n:=gs.length) (λh=>by rw[B.xk.1 h];rfl) gM (aF _ _) q3 q4 (by omega) (by omega) (by omega);have XG:(ah s3 (.cells row 0)).next=s3.next.succ:=rfl;have keep:∀p x,s2.heap.get p=some x->gk≠some p->s5.heap.get p=some x:=λp x h cA=>by rw[r6 p cA (iA p x h)];exact gr4.get h
        have b5:=keep bp _ b2 B.dg
        let gv:=AV.slice (ah s3 (.cells row 0)).next 0 (gs.length+1) none 9
        let s6:=bI s5 bp (.cells [gv,mH tk ts.length 3,.map mp] 0)
        have ajr:bp.toNat<s5.next.toNat:=r5 _ _ b5;have nb4:bp≠(ah s3 (.cells row 0)).next:=λe=>by have:=iA _ _ b2;rw[e]at this;omega
        have KD:∀(K:AV->St->Option (AV×St)),aj c (.store 1) [.ptr bp 0,gv] s5 K=K .undef s6:=λK=>dz c K s5 1 bp 0 gv _ b5 rfl (by simp) rfl
        have g6:∀p,p≠bp->s6.heap.get p=s5.heap.get p:=λp h=>aO (λe=>h e.symm)
        have afQ:∀p:Pos,s0.next.toNat<=p.toNat->s0.heap.get p=none:=λp h=>by
          cases hx:s0.heap.get p with
          |none=>rfl
          |some x=>have:=DY _ _ hx;omega
        have nx:s0.next.toNat<=(ah s3 (.cells row 0)).next.toNat:=Zb7 B1.next (Zb7 (by show s1.next.toNat<=s2.next.toNat;exact Za6 _) gr4.next)
        have acO:ic s0 s6 bp mp (gs++[g]) ts (some (ah s3 (.cells row 0)).next) tk:={
          wf:=jI r5 ajr
          keeps:=λp x hp=>by
            have n1:p≠bp:=λe=>by rw[e,B.fb]at hp;cases hp
            have n2:mp≠p:=λe=>by rw[<-e,B.fm]at hp;cases hp
            have n3:gk≠some p:=λe=>by rw[B.fg p e]at hp;cases hp
            rw[g6 p n1];exact keep p x (by show(bI _ _ _).heap.get p=_;rw[aO n2];exact B1.keeps p x hp) n3
          next:=by show s0.next.toNat<=s5.next.toNat;rw[r4,Pos.aK];omega
          book:=by show(bI _ _ _).heap.get bp=_;rw[cW];simp[gv,mH]
          IB:=⟨PU,cl+1,by
            rw[g6 mp nmb];exact keep mp _ m2 (λe=>by obtain⟨cs,h3,_⟩:=B1.xk.2 mp e;rw[h3]at lU;cases lU),by simp[PU,hm2]⟩
          xk:=⟨λh=>(by cases h),λb hb=>by cases hb;refine⟨cs',?_,by rw[r3];simp⟩;rw[g6 _ (λe=>nb4 e.symm)];exact r2⟩
          Fh:=⟨B.Fh.1,λb hb=>by
            have h3:=B1.Fh.2 b hb;have n1:b≠bp:=λe=>B.dt (by rw[<-e];exact hb)
            have n2:mp≠b:=λe=>by rw[e,h3]at lU;cases lU
            have n3:gk≠some b:=λe=>B.dgt b e hb
            rw[g6 b n1];exact keep b _ (by show(bI _ _ _).heap.get b=_;rw[aO n2];exact h3) n3⟩
          dg:=λe=>nb4 (by injection e with e;exact e.symm)
          dt:=B.dt
          dgt:=λb hb ht=>by
            (cases hb;have h3:=B1.Fh.2 _ ht;have n2:mp≠(ah s3 (.cells row 0)).next:=λe=>by rw[e,h3]at lU;cases lU);have:=iA _ _ (show s2.heap.get (ah s3 (.cells row 0)).next=_ from(aO n2).trans h3);omega
          fb:=B.fb
          fm:=B.fm
          fg:=λb hb=>by cases hb;exact afQ _ nx
          ft:=B.ft
          Wd:=λes' cl' hm e he=>by
            have m6:s6.heap.get mp=some (.map PU (cl+1)):=by
              rw[g6 mp nmb];exact keep mp _ m2 (λe=>by obtain⟨cs,h3,_⟩:=B1.xk.2 mp e;rw[h3]at lU;cases lU)
            rw[hm]at m6;cases m6;rcases Ze7.1 he with he|he
            .obtain⟨i,e1,e2⟩:=B1.Wd _ _ lU e he;exact⟨i,e1,by simp;omega⟩
            .simp only[Zb4,Zc8,Zg9]at he;subst he;exact⟨gs.length,rfl,by simp⟩
          We:=λes' cl' hm=>by
            have m6:s6.heap.get mp=some (.map PU (cl+1)):=by
              rw[g6 mp nmb];exact keep mp _ m2 (λe=>by obtain⟨cs,h3,_⟩:=B1.xk.2 mp e;rw[h3]at lU;cases lU)
            rw[hm]at m6;cases m6;have h:=B1.We _ _ lU;rw[Ze2,h,Zc9,Zo0,Zp5,Ze2];rfl
          rows:=  λb cs hb hs i u hu=>by
            cases hb;have r2':s6.heap.get (ah s3 (.cells row 0)).next=some (.cells cs' 0):=(by rw[g6 _ (λe=>nb4 e.symm)];exact r2);rw[hs]at r2';cases r2';by_cases hi:i<gs.length
            . rw[Zd9 hi]at hu;cases X0:gk with
              |none=>rw[B.xk.1 X0]at hi;simp at hi
              | some b0=>
                obtain⟨cs0,h3,h4⟩:=B1.xk.2 b0 X0;have n0:mp≠b0:=λe=>by rw[e,h3]at lU;cases lU
                have e0:=ra b0 cs0 X0 (gr4.get (by show(bI _ _ _).heap.get b0=_;rw[aO n0];exact h3));have R0:=B1.rows b0 cs0 X0 h3 i u hu;rw[e0,Zh4 (by omega),Zp2 (by simp;omega)];(refine R0.to λp cs a1 a2 a3 hx=> ?_);have n1:mp≠p:=λe=>by rw[e,hx]at lU;cases lU
                have x2:s2.heap.get p=some (.cells cs 0):=(by show(bI _ _ _).heap.get p=_;rw[aO n1];exact hx);have aW:=iA p _ x2;refine⟨by rw[g6 p a1];exact keep p _ x2 a2,λe=> ?_,a3⟩;cases e;omega
            . have Iq:i=gs.length:=(by have:=(Za4.1 hu).1;simp at this;omega);subst Iq;simp at hu;subst hu;have er:(cs'.drop (gs.length*9)).take 9=row:=by
                cases X0:gk with
                | none=>
                  rw[rb X0,B.xk.1 X0];exact Zg0 (by simp[q3])
                | some b0=>
                  obtain⟨cs0,h3,h4⟩:=B1.xk.2 b0 X0;have n0:mp≠b0:=λe=>by rw[e,h3]at lU;cases lU
                  rw[ra b0 cs0 X0 (gr4.get (by show(bI _ _ _).heap.get b0=_;rw[aO n0];exact h3)), <-h4];rw[Zh4 (Za6 _)];simp[Zg0 (Nat.le_of_eq q3)]
              (rw[er];have Cv:∀p x,s2.heap.get p=some x->p.toNat<s2.next.toNat:=λp x h=>gS p x h);refine⟨aad h1,htg,v,rfl,M.cells.1,vone,M.own.mono λb x hb hx=> ?_,λp hp=> ?_⟩
              . have ji:=M.new b hb;have Kt:=M.own.lt M.aA.wf hb;have nb:b≠bp:=λe=>by have:=Cv _ _ b2;rw[e]at ji;omega
                have ng:gk≠some b:=λe=>by
                  obtain⟨cs0,h3,_⟩:=B1.xk.2 b e;have n0:mp≠b:=λe=>by rw[e,h3]at lU;cases lU
                  have:=Cv b _ (by show(bI _ _ _).heap.get b=_;rw[aO n0];exact h3);omega
                rw[g6 b nb,r6 b ng (by rw[XG,Pos.aK];omega)];exact(Grew.ah q2.wf (.cells row 0)).get hx
              . have ji:=M.new p hp;have Kt:=M.own.lt M.aA.wf hp;refine⟨λe=>by have:=Cv _ _ b2;rw[e]at ji;omega,λe=> ?_,λe=> ?_,afQ p (by have h9:=B1.next;rw[show s2.next=s1.next from eB _ _ _]at ji;omega)⟩
                .cases e;rw[XG,Pos.aK]at Kt;omega
                . have h3:=B1.Fh.2 p e;have n2:mp≠p:=λe=>by rw[e,h3]at lU;cases lU
                  have:=Cv p _ (by show(bI _ _ _).heap.get p=_;rw[aO n2];exact h3);omega }
        refine⟨s6,?_,λh=>absurd he h,λ_=>⟨_,acO⟩⟩;rw[he];rw[Fi hc 1 (r:=(.int .i64 0,s6))]
        . rw[aez (b:=bp) B.book];rw[acO.book];intro e;have e:=congrArg (λo=>match o with|some (AB.cells (v::_) _)=>dX v|_=>none) e;simp only[mH,dX]at e;cases gk with
          |none=>simp[dX,B.xk.1 rfl]at e
          |some b=>simp[dX]at e
        (rw[uG];have stm:=λ(K:AV->St->Option (AV×St))=>adL c K (v:= .int .i64 (gs.length:Int)) lU hf);have bq:dO (mH gk gs.length 9) (mH gk gs.length 9)=true:=(by cases gk;exact VX;exact R6 _ _ _ _);have b3:s3.heap.get bp=some (.cells [mH gk gs.length 9,mH tk ts.length 3,.map mp] 0):=q2.get b2;have DZ:=λ(K:AV->Option (AV×St))=>Ip K (p:=bp) (o:=0) (h:=s3.heap) (h2:=s2.heap) (v:=mH gk gs.length 9) (by rw[b3];rfl) (by rw[b2];rfl) bq
        have Ct:cH (cv [AV.str [],AV.str [],AV.str [],.int .i64 0,.int .i64 0,.str [],.bool false,.bool false,.af] 1) [(0,9)] [AV.agg (g.aM v)]=some row:=by
          have:(g.aM v).length=9:=q3;show _=some (g.aM v);simp[cH,cv,eD,eZ,this,aZ]
        simp[eb,oY,hch,h1,hpg,B1.book,lk,lG,lG2,h2d,stm];show Er ((cellsOf (T.get s.next s2.heap)).bind λcs=>cut cs 0 9) _=_;rw[p2];simp only[ak,Za2,aS.cc,cT];show VV (c 188 [AV.agg g.cells] s2) _=_;rw[q1];simp only[aR];show kB (.load none) [.ptr bp 0] s3.heap (λv=>jA (.load none) [.ptr bp 0] v (jU [] s2.heap)) _=_;rw[DZ];simp only[Ct,cT,r1];exact KD _
 .refine fail (fe g) h1 (by simp[yf,h1]) ?_;rw[uG];simp[eb,oY,hch,h1,hpg]
theorem O6{r s t:Ty}(h:fI r s=true)(k:fI s t=true):fI r t=true:=by
 simp only[fI,Zg5,Zb6,Zd1]at h k ⊢;rcases h with h|⟨h1,h2⟩<;>rcases k with k|⟨k1,k2⟩
 .exact .inl (OY _ _ _ h k)
 .exact .inl (by rw[<-k1];exact h)
 .exact .inl (by rw[h1];exact k)
 .exact .inr ⟨h1.trans k1,OY _ _ _ h2 k2⟩
theorem afR{s t:Ty}(h:fI s t=false)(k:fI t s=false):s.a=t.a/\s.b=t.b:=by simp only[fI,Zp3]at h k;have e:=CS _ _ h.1 k.1;refine⟨e,?_⟩;have h2:=h.2;have k2:=k.2;simp only[e,Zh8,Zf7]at h2 k2;exact CS _ _ h2 k2
theorem alk{r s t:Ty}(h:fI r s=true)(k:fI t s=false):fI r t=true:=by
 cases h2:fI s t
 .obtain⟨e1,e2⟩:=afR h2 k;unfold fI at h ⊢; rw[<-e1, <-e2];exact h
 .exact O6 h h2
theorem afF{x:Int}(h1:0<=x)(h2:x<=18446744073709551615):az .u64 x=x:=by
 unfold az loI hiI;simp only;split
 . split
   .rfl
   .contradiction
 .contradiction
theorem Wg(K:AV->St->Option (AV×St))(st:St)(a:Nat):aj c (.bin .shr .num) [.int .u64 (a:Int),.int .u64 1] st K=K (.int .u64 ((a / 2:Nat):Int)) st:=by
 refine bC c K (λH n=> ?_) st;have:(a:Int).fdiv 2=((a / 2:Nat):Int):=by rw[Int.fdiv_eq_ediv_of_nonneg _ (by omega)];rfl
 simp only[aJ.run,jg,pE,eW];show some (eH.val (AV.int .u64 ((a:Int).fdiv 2)))=_;rw[this]
theorem acP(H:Pos->Option AB)(n:Pos)(es:Nat)(b:Pos)(len:Nat)(k:IntKind)(i:Nat)(h:i<len):aJ.run H n (.idxA es none) [.slice b 0 len none es,.int k (i:Int)]=some (.val (.ptr b (i*es))):=by
 simp[aJ.run,qC,kF,Hg,h]
theorem Ir(ts:List Ty)(i:Nat)(h:i<ts.length):cut (ts.flatMap Ty.cells) (i*3) 3=some ts[i].cells:=by
 induction ts generalizing i with
 |nil=>simp at h
 |cons t ts ih=>
  cases i with
  |zero=>rw[Zl6];unfold cut;rw[eZ,Za1 (by simp[Ty.len])];simp[Ty.cells]
  |succ i=>
   have h':i<ts.length:=(by simpa using h);have:=ih i h';unfold cut at this ⊢;rw[eZ]at this ⊢;(split at this<;>first|(cases this;done)|skip);rename_i hle;simp only[Zd1]at hle;rw[Za1 (by rw[Zl6,Zc9,Ty.len];omega)];simp only[H0]at this ⊢;rw[Zl6,show(i+1)*3=i*3+1+1+1 by omega,Zn4, <-this];rfl
theorem alm(hc:Sem c)(ts:List Ty)(hl:ts.length<=1000)(t:Ty)(q:Nat)(hq:q<=ts.length)(Cv:∀h (hh:h<ts.length),h<q->fI ts[h] t=true)(hhi:∀h (hh:h<ts.length),q<=h->fI ts[h] t=false)
  (b:Pos) (x4:Pos) (s:St) (hw:Wf s) (hb:s.heap.get b=some (.cells (ts.flatMap Ty.cells) 0)) (hx:s.heap.get x4=some (.cells t.cells 0)) (F:Nat) (k2):∀(m i j:Nat),j<=i+m->i<=q->q<=j->j<=ts.length->
  bu c F k2 (m+1) [.slice b 0 ts.length none 3,.func 122 [] [],.ptr x4 0,.int .i64 (ts.length:Int),.int .i64 (i:Int),.int .i64 (j:Int)] s=
    k2 [.slice b 0 ts.length none 3,.func 122 [] [],.ptr x4 0,.int .i64 (ts.length:Int),.int .i64 (q:Int)] s:=by
 intro m;induction m with
 |zero=>
  intro i j h1 h2 h3 h4;obtain rfl:i=q:=by omega
  obtain rfl:j=i:=by omega
  rw[eC];simp
 |succ m ih=>
  intro i j h1 h2 h3 h4;rw[eC];by_cases h:i<j
  . let d:=(i+j) / 2
    have hd1:i<=d:=(by omega);have hd2:d<j:=(by omega);have hd3:d<ts.length:=(by omega);have w1:az .i64 ((i:Int)+(j:Int))=((i+j:Nat):Int):=(by rw[wrap64 (by omega) (by omega)];omega);have w2:az .u64 ((i+j:Nat):Int)=((i+j:Nat):Int):=afF (by omega) (by omega);have w3:az .i64 (((i+j) / 2:Nat):Int)=((d:Nat):Int):=wrap64 (by omega) (by omega);have w4:az .i64 ((d:Int)+1)=((d+1:Nat):Int):=wrap64 (by omega) (by omega);have ix:=λ(K:AV->Option (AV×St))=>dJ K (λH n=>acP H n 3 b ts.length .i64 d hd3)
    have ho:=IA hc ts[d] t s hw;have fg:=Ir ts d hd3
    clear_value d
    by_cases hn:d<q
    .   have afS:sR ts[d] t<0:=Y7.2 (Cv d hd3 hn);rw[<-ih (d+1) j (by omega) (by omega) h3 h4];simp only[au,ay,ai,aE,Int.ofNat_lt,h,Zh8,bk,bw,w1,VW,w2,Wg,w3,bH,ix,ES,hb,fg,hx,ak,Za2,Ty.cc,cT,kR,Zg3,Zd4,Ze3,ho,aR,vQ,afS,w4]
    .   have afS:¬sR ts[d] t<0:=λe=>by have:=Y7.1 e;rw[hhi d hd3 (by omega)]at this;cases this
        rw[<-ih i d (by omega) h2 (by omega) (by omega)];simp only[au,ay,ai,aE,Int.ofNat_lt,h,Zh8,bk,bw,w1,VW,w2,Wg,w3,bH,ix,ES,hb,fg,hx,ak,Za2,Ty.cc,cT,kR,Zg3,Zd4,Ze3,ho,aR,vQ,afS,Zf6,aX]
  .obtain rfl:i=q:=(by omega);obtain rfl:j=i:=(by omega);simp
def IC(ts:List Ty)(t:Ty)(q:Nat):Bool:=match ts[q]? with
 |some u=>decide (sR u t=0)
 |none=>false
theorem ajs(x4:Pos)(s:St)(F:Nat)(k2)(m:Nat):bu c F k2 (m+1) [.af,.func 122 [] [],.ptr x4 0,.int .i64 0,.int .i64 0,.int .i64 0] s=
  k2 [.af,.func 122 [] [],.ptr x4 0,.int .i64 0,.int .i64 0] s:=by
 rw[eC];simp
def slvT(k:Option Pos)(n:Nat):AV:=match k with
 |none=>.af
 |some b=>.slice b (0+n*3) (n - n) none 3
theorem ant(hc:Sem c)(ts:List Ty)(hl:ts.length<=1000)(t:Ty)(q:Nat)(hq:q<=ts.length)(Cv:∀h (hh:h<ts.length),h<q->fI ts[h] t=true)(hhi:∀h (hh:h<ts.length),q<=h->fI ts[h] t=false)
  (tk:Option Pos) (s:St) (hw:Wf s) (h0:tk=none->ts=[]) (hb:∀b,tk=some b->s.heap.get b=some (.cells (ts.flatMap Ty.cells) 0)):
  c 194 [mH tk ts.length 3,.agg t.cells,.func 122 [] []] s=some (.tuple [.int .i64 (q:Int),.bool (IC ts t q)],s):=by
 have bX:Wf (ah s (.cells t.cells 0)):=bL hw;have oZ:Plain (.tuple [.int .i64 (q:Int),.bool (IC ts t q)]):=Plain.tuple (by simp[Plain.int,Plain.bool]);rw[ow hc 1001 (r:=(.tuple [.int .i64 (q:Int),.bool (IC ts t q)],ah s (.cells t.cells 0))),aB oZ (bE hw)];rw[pn];cases tk with
 |none=>
  obtain rfl:=h0 rfl;obtain rfl:q=0:=by simpa using hq
  have l0:∀(K:AV->St->Option (AV×St))(s:St),aj c (.lenB .l) [.af] s K=K (.int .i64 0) s:=λK s=>bC c K (λH n=>rfl) s
  have L:∀k2,bu c 1001 k2 1001 [.af,.func 122 [] [],.ptr s.next 0,.int .i64 0,.int .i64 0,.int .i64 0] (ah s (.cells t.cells 0))=_:=λk2=>ajs (c:=c) s.next _ 1001 k2 1000
  simp only[mH,dw,ai,l0,Sj,L,au,ay,Zi6];simp[IC,l0,L]
 |some b=>
  have ji:(ah s (.cells t.cells 0)).heap.get b=some (.cells (ts.flatMap Ty.cells) 0):=bE hw _ _ (hb b rfl);have l0:∀(K:AV->St->Option (AV×St))(s:St),aj c (.lenB .l) [.slice b 0 ts.length none 3] s K=K (.int .i64 (ts.length:Int)) s:=λK s=>bC c K (λH n=>rfl) s
  have L:∀k2,bu c 1001 k2 1001 [.slice b 0 ts.length none 3,.func 122 [] [],.ptr s.next 0,.int .i64 (ts.length:Int),.int .i64 0,.int .i64 (ts.length:Int)] (ah s (.cells t.cells 0))=
    k2 [.slice b 0 ts.length none 3,.func 122 [] [],.ptr s.next 0,.int .i64 (ts.length:Int),.int .i64 (q:Int)] (ah s (.cells t.cells 0)):=
    λk2=>alm hc ts hl t q hq Cv hhi b s.next _ bX ji (aF _ _) 1001 k2 1000 0 ts.length (by omega) (by omega) (by omega) (by omega)
  simp only[mH,dw,ai,l0,Sj,L,au,ay];by_cases h:q<ts.length
  . have ix:=λ(K:AV->Option (AV×St))=>dJ K (λH n=>acP H n 3 b ts.length .i64 q h)
    have ho:=IA hc ts[q] t _ bX;have fg:=Ir ts q h;have ef:IC ts t q=decide (sR ts[q] t=0):=(by unfold IC;rw[Za0 h]);simp[h,ix,ji,fg,ho,ef,AV.cells]
  .have ef:IC ts t q=false:=(by unfold IC;rw[Zc6 (by omega)]);simp[h,ef,AV.cells]
def Na(ts:List Ty)(t:Ty):Nat:=match ts.getLast? with
 |none=>0
 |some u=>if fI u t=true then ts.length else ts.length - 1
def Sq(ts:List Ty):Prop:=∀i j (hj:j<ts.length)(Z7:i<j),fI (ts[i]'(by omega)) ts[j]=true
theorem amw{ts:List Ty}{t:Ty}(hs:Sq ts)(ht:∀u,ts.getLast? =some u->fI t u=false):Na ts t<=ts.length/\(∀h (hh:h<ts.length),h<Na ts t->fI ts[h] t=true)/\(∀h (hh:h<ts.length),Na ts t<=h->fI ts[h] t=false)/\
  IC ts t (Na ts t)=sw t ts.getLast? :=by
 unfold Na;cases hl:ts.getLast? with
 |none=>
  have:ts=[]:=by simpa using hl
  subst this;simp[IC,sw]
 |some u=>
  have cA:ts≠[]:=λe=>by subst e;simp at hl
  have Yz:0<ts.length:=Zp8.2 cA;have hu:ts[ts.length - 1]'(by omega)=u:=by have:=List.getLast?_eq_getElem? (l:=ts);rw[hl,Za0 (by omega)]at this;exact(Zh2 this).symm
  have htu:=ht u hl;simp only;cases hb:fI u t
  . simp only[Zd3,Ze8];refine⟨by omega,λh hh aW=> ?_,λh hh hle=> ?_,?_⟩
    .   have:=hs h (ts.length - 1) (by omega) aW;rw[hu]at this;exact alk this htu
    .   obtain rfl:h=ts.length - 1:=(by omega);rw[hu];exact hb
    .   (unfold IC;rw[Za0 (by omega),hu];have h1:¬sR u t<0:=λe=>by rw[Y7.1 e]at hb;cases hb);have h2:¬0<sR u t:=λe=>by rw[TZ.1 e]at htu;cases htu
        have:sR u t=0:=(by omega);simp[this,sw,hb]
  . simp only[Zg7];refine⟨by omega,λh hh _=> ?_,λh hh hle=>by omega,?_⟩
    .   by_cases e:h=ts.length - 1
        .subst e;rw[hu];exact hb
        .have:=hs h (ts.length - 1) (by omega) (by omega);rw[hu]at this;exact O6 this hb
    .   unfold IC;rw[Zc6 (by omega)];simp[sw,hb]
theorem ack(hc:Sem c){s0 s:St}{bp mp:Pos}{gs:List aS}{ts:List Ty}{gk tk:Option Pos}(B:ic s0 s bp mp gs ts gk tk)(hl:ts.length<=1000)(t:Ty)(aW:aL t.a t.b=true)(hs:Sq ts)(ht:∀u,ts.getLast? =some u->fI t u=false):
  c 129 [.ptr bp 0,.str t.a,.str t.b] s=some (.tuple [.int .i64 (Na ts t:Int),.bool (sw t ts.getLast?)],s):=by
 obtain⟨p1,p2,p3,p4⟩:=amw hs ht;rw[<-p4];have e0:∀u:Ty,fI u ⟨t.a,t.b,0⟩=fI u t:=λu=>rfl
 have e1:IC ts ⟨t.a,t.b,0⟩ (Na ts t)=IC ts t (Na ts t):=rfl;have hpr:=aeH hc t.a t.b 0 aW s B.wf;have Ia:=ant hc ts hl ⟨t.a,t.b,0⟩ (Na ts t) p1 (λh hh hq=>by rw[e0];exact p2 h hh hq) (λh hh hq=>by rw[e0];exact p3 h hh hq) tk s B.wf B.Fh.1 B.Fh.2;rw[e1]at Ia;rw[O7 hc 1 (r:=(.tuple [.int .i64 (Na ts t:Int),.bool (IC ts t (Na ts t))],s)),aB (Plain.tuple (by simp[Plain.int,Plain.bool])) (bf.refl s)];rw[Sr];have bq:dO (mH tk ts.length 3) (mH tk ts.length 3)=true:=by cases tk;exact VX;exact R6 _ _ _ _
 have DZ:=λ(K:AV->Option (AV×St))=>Ip K (p:=bp) (o:=1) (h:=s.heap) (h2:=s.heap) (v:=mH tk ts.length 3) (by rw[B.book];rfl) (by rw[B.book];rfl) bq
 simp[hpr,DZ,Ia]
theorem nN(b:Pos)(off n es:Nat):¬Plain (.slice b off n none es):=λh=>by have:=h (λ_=>⟨0,0,off+n*es⟩) (λ_=>⟨0,0,0⟩) (b.toNat+1) 0 (λ_=>none) _ (.slice b off n none es n ⟨0,0+off,none⟩ (Za6 _) (λc h=>by cases h) (λ_=>⟨by omega,rfl,by simp⟩) (λ_=>by omega));have:=this.Rr rfl;omega
theorem ahp(hc:Sem c){s:St}(hw:Wf s){tk:Option Pos}{ts:List Ty}{q:Pos}{row:List AV}(h0:tk=none->ts=[])(hb:∀b,tk=some b->s.heap.get b=some (.cells (ts.flatMap Ty.cells) 0))(hq:s.heap.get q=some (.cells row 0))(hr:row.length=3)
   (h1:aV row=true) (hl:ts.length<=1000):
   ∃ s5,c 190 [mH tk ts.length 3,.int .i64 (ts.length:Int),.slice q 0 1 (some 1) 3] s=some (.slice s.next 0 (ts.length+1) none 3,s5)/\s5.heap.get s.next=some (.cells (ts.flatMap Ty.cells++row) 0)/\
     s5.next=s.next.succ/\Wf s5/\∀p,tk≠some p->p.toNat<s.next.toNat->s5.heap.get p=s.heap.get p:=by
 have hlen:∀ts:List Ty,(ts.flatMap Ty.cells).length=ts.length*3:=λts=>by
   induction ts with
   |nil=>rfl
   |cons t ts ih=>rw[Zl6,Zc9,ih,Ty.len,Zc2];omega
 obtain⟨s5,cs',r1,r2,r3,r4,r5,r6,r7,r8⟩:=aeK (c:=c) (es:=3) (bytes:=40) hw (k:=tk) (n:=ts.length) (λh=>by rw[h0 h];rfl) (λb Kt=>⟨_,hb b Kt,hlen ts⟩) hq hr h1 (by omega) (by omega) (by omega);refine⟨s5,?_,?_,r6,r7,r8⟩
 . rw[Ac hc 1 (r:=(.slice s.next 0 (ts.length+1) none 3,s5))]
   .unfold tidy;rw[Zb2];exact λh=>nN _ _ _ _ h.1
   rw[Ci];have sl:∀(K:AV->St->Option (AV×St))(s:St),aj c (.sliceL 3 true false false) [mH tk ts.length 3,.int .i64 (ts.length:Int)] s K=K (slvT tk ts.length) s:=λK s=>by
     refine bC c K (λH n=> ?_) s;cases tk with
     |none=>rw[h0 rfl];rfl
     |some b=>simp[mH,slvT,aJ.run,qI,bounds,kF,eD,eZ]
   have l1:∀(K:AV->St->Option (AV×St))(s:St),aj c (.lenB .l) [.slice q 0 1 (some 1) 3] s K=K (.int .i64 1) s:=λK s=>bC c K (λH n=>rfl) s
   have l2:∀(K:AV->St->Option (AV×St))(s:St),aj c (.lenB .l) [mH tk ts.length 3] s K=K (.int .i64 (ts.length:Int)) s:=λK s=>bC c K (O4 λh=>by rw[h0 h];rfl) s
   simp[sl,l1,l2,r1]
 . cases tk with
   |none=>rw[r2,r5 rfl,h0 rfl];rfl
   |some b=>rw[r2,r4 b _ rfl (hb b rfl)]
def yg(gs:List aS)(ts:List Ty)(t:Ty):Int:=if Fg t=false then 23 else if mD gs t=true then 6 else if sw t ts.getLast? =true then 5 else 0
theorem acQ(H:Pos->Option AB)(n:Pos)(es:Nat)(b:Pos)(len:Nat)(cp:Option Nat)(k:IntKind)(i:Nat)(h:i<len):aJ.run H n (.idxA es none) [.slice b 0 len cp es,.int k (i:Int)]=some (.val (.ptr b (i*es))):=by
 simp[aJ.run,qC,kF,Hg,h]
theorem aeL{gs:List aS}{es:List (AV×AV×Nat)}(h:es.map (·.1)=gs.map λg=>.str g.name)(s:List Nat):
   (¬scan (jX gs s) gs.length 0<0/\∃j v,lJ .s (.str s) es 0=some (some (j,v)))\/(scan (jX gs s) gs.length 0<0/\lJ .s (.str s) es 0=some none):=by
 rcases LA s gs es 0 h with⟨a,b⟩|⟨a,b⟩
 .left;have:=O5.2 a;exact⟨by omega,b⟩
 . (right;refine⟨?_,b⟩;have:¬0<=scan (jX gs s) gs.length 0:=λe=>a (O5.1 e));omega
theorem ajt{s:St}{bp mp:Pos}{x y:AV}{es:List (AV×AV×Nat)}{cl:Nat}{gs:List aS}(hb:s.heap.get bp=some (.cells [x,y,.map mp] 0))(hm:s.heap.get mp=some (.map es cl))(he:es.map (·.1)=gs.map λg=>.str g.name)
   (t:Ty) (lb:Pos) (MR:s.heap.get lb=some (.cells [.str t.a,.str t.b] 0)) (F:Nat) (k1 k2):
   l8 c F k1 k2 3 [.ptr bp 0,.str t.a,.str t.b,.int .u8 t.k,.slice lb 0 2 (some 2) 1,.int .i64 2,.int .i64 ((0:Nat):Int)] s=if mD gs t=true then k1 [.int .i64 6] s else k2 [.ptr bp 0,.str t.a,.str t.b,.int .u8 t.k] s:=by
 have w0:az .i64 (((0:Nat):Int)+1)=((1:Nat):Int):=rfl;have w1:az .i64 (((1:Nat):Int)+1)=((2:Nat):Int):=rfl;have i0:∀(K:AV->St->Option (AV×St))(s:St),aj c (.idxA 1 none) [.slice lb 0 2 (some 2) 1,.int .i64 ((0:Nat):Int)] s K=K (.ptr lb 0) s:=λK s=>bC c K (λH n=>acQ H n 1 lb 2 (some 2) .i64 0 (by omega)) s
 have i1:∀(K:AV->St->Option (AV×St))(s:St),aj c (.idxA 1 none) [.slice lb 0 2 (some 2) 1,.int .i64 ((1:Nat):Int)] s K=K (.ptr lb 1) s:=λK s=>bC c K (λH n=>acQ H n 1 lb 2 (some 2) .i64 1 (by omega)) s
 have d0:decide (((0:Nat):Int)<2)=true:=rfl;have d1:decide (((1:Nat):Int)<2)=true:=rfl;have d2:decide (((2:Nat):Int)<2)=false:=rfl;have e0:([AV.str t.a,.str t.b]:List AV)[0]? =some (.str t.a):=rfl;have e1:([AV.str t.a,.str t.b]:List AV)[1]? =some (.str t.b):=rfl;have e2:([x,y,AV.map mp]:List AV)[2]? =some (.map mp):=rfl;rw[vX];rcases aeL he t.a with⟨n1,j,v,f1⟩|⟨n1,f1⟩
 . have lk1:=λ(K:AV->St->Option (AV×St))=>Kr c K (.int .i64 0) (k:= .str t.a) hm f1
   simp only[au,ay,aE,d0,bk,i0,aN,MR,hb,ak,Za2,e0,e2,aD,ai,y7,aG,Za5,lk1,fq,Zb0,Zb3,Es,Zf8,aX,bw,w0];rw[vX];rcases aeL he t.b with⟨n2,j,v,f2⟩|⟨n2,f2⟩
   . have lk2:=λ(K:AV->St->Option (AV×St))=>Kr c K (.int .i64 0) (k:= .str t.b) hm f2
     simp only[au,ay,aE,d1,bk,i1,aN,MR,hb,ak,Za2,e1,e2,aD,ai,y7,aG,Za5,lk2,fq,Zb0,Zb3,Es,Zf8,aX,bw,w1];rw[vX];have:mD gs t=false:=(by simp[mD,n1,n2]);rw[this];simp only[au,ay,aE,d2,aX,Zd3,Ze8]
   . have lk2:=λ(K:AV->St->Option (AV×St))=>Kr c K (.int .i64 0) (k:= .str t.b) hm f2
     have:mD gs t=true:=(by simp[mD,n2]);rw[this];simp only[au,ay,aE,d1,bk,i1,aN,MR,hb,ak,Za2,e1,e2,aD,ai,y7,aG,Za5,lk2,fq,Zb0,Zb3,Es,Zi4,Zg7]
 . have lk1:=λ(K:AV->St->Option (AV×St))=>Kr c K (.int .i64 0) (k:= .str t.a) hm f1
   have:mD gs t=true:=(by simp[mD,n1]);rw[this];simp only[au,ay,aE,d0,bk,i0,aN,MR,hb,ak,Za2,e0,e2,aD,ai,y7,aG,Za5,lk1,fq,Zb0,Zb3,Es,Zi4,Zg7]
theorem amx (hc:Sem c){s0 s:St}{bp mp:Pos}{gs:List aS}{ts:List Ty}{gk tk:Option Pos}(DY:Wf s0)(B:ic s0 s bp mp gs ts gk tk)(hl:ts.length<=200)(t:Ty)(aW:aL t.a t.b=true)(hs:Sq ts)(ht:∀u,ts.getLast? =some u->fI t u=false):
   ∃s',c 123 [.ptr bp 0,.str t.a,.str t.b,.int .u8 t.k] s=some (.int .i64 (yg gs ts t),s')/\(yg gs ts t≠0->s'=s)/\(yg gs ts t=0->∃M9,ic s0 s' bp mp gs (ts++[t]) gk M9):=by
 have cA:¬t.a=t.b:=λe=>by rw[e,ye]at aW;cases aW
 have oY:=aeI hc s bp mp _ _ B.book;have hkt:Fg t=true->(t.k=1\/(¬t.k=1/\t.k=2)):=λq=>by
   simp only[Fg,Zg5,Zd1]at q;by_cases e:t.k=1
   .exact .inl e
   .exact .inr ⟨e,q.resolve_left e⟩
 by_cases hk:Fg t=true
 . have bX  :Wf (ah s (.cells [.str t.a,.str t.b] 0)):=bL B.wf;have B1:=B.aA (Grew.ah B.wf (.cells [.str t.a,.str t.b] 0));have KM:=Grew.ah B.wf (.cells [.str t.a,.str t.b] 0);have MR:(ah s (.cells [.str t.a,.str t.b] 0)).heap.get s.next=some (.cells [.str t.a,.str t.b] 0):=aF _ _;generalize hs1:ah s (.cells [.str t.a,.str t.b] 0)=s1 at bX B1 KM MR;obtain⟨es,cl,lU,hm2⟩:=B1.IB;have L:∀k1 k2,l8 c 3 k1 k2 3 [.ptr bp 0,.str t.a,.str t.b,.int .u8 t.k,.slice s.next 0 2 (some 2) 1,.int .i64 2,.int .i64 0] s1=if mD gs t=true then k1 [.int .i64 6] s1 else k2 [.ptr bp 0,.str t.a,.str t.b,.int .u8 t.k] s1:=λk1 k2=>ajt (c:=c) B1.book lU hm2 t s.next MR 3 k1 k2
   have oZ:=ack hc B1 (by omega) t aW hs ht;have l2:∀(K:AV->St->Option (AV×St))(s:St),aj c (.lenB .l) [.slice (ah s (.cells [] 0)).next 0 2 (some 2) 1] s K=K (.int .i64 2) s:=λK s=>bC c K (λH n=>rfl) s
   have lT:∀(K:AV->St->Option (AV×St))(s:St),aj c (.lenB .l) [mH tk ts.length 3] s K=K (.int .i64 (ts.length:Int)) s:=λK s=>bC c K (O4 λh=>by rw[B.Fh.1 h];rfl) s
   have bsl:∀(K:AV->St->Option (AV×St)),aj c (.buildSlice 1 2 [(.str [])] [0,1]) [.str t.a,.str t.b] s K=K (.slice s.next 0 2 (some 2) 1) s1:=λK=>by rw[eo, <-hs1];have:cH (cv [AV.str []] 2) ([0,1].map λi=>(i*1,1)) [.str t.a,.str t.b]=some [.str t.a,.str t.b]:=(by simp[cH,cv,eD,eZ,aZ,AV.cells]);rw[this];rfl
   have l3:∀(K:AV->St->Option (AV×St))(p:Pos)(s:St),aj c (.lenB .l) [.slice p 0 2 (some 2) 1] s K=K (.int .i64 2) s:=λK p s=>bC c K (λH n=>rfl) s
   have Zc:¬(ts.length:Int)=256:=(by omega);have fail:∀e:Int,e≠0->yg gs ts t=e->za c 3 (.ptr bp 0) (.str t.a) (.str t.b) (.int .u8 t.k) s=some (.int .i64 e,s1)->∃s',c 123 [.ptr bp 0,.str t.a,.str t.b,.int .u8 t.k] s=some (.int .i64 (yg gs ts t),s')/\(yg gs ts t≠0->s'=s)/\(yg gs ts t=0->∃M9,ic s0 s' bp mp gs (ts++[t]) gk M9):=λe he ha h=>by
     refine⟨s,?_,λ_=>rfl,λh0=>absurd (ha.symm.trans h0) he⟩;rw[yh hc 3 h,ha,aB (Plain.int _ _) KM.keeps]
   cases hu:mD gs t
   . cases  hd:sw t ts.getLast?
     .  have he:yg gs ts t=0:=(by simp[yg,hk,hu,hd]);rw[hd]at oZ;have hplc:(Na ts t:Int)=ts.length:=by
          unfold Na;cases hq:ts.getLast? with
          |none=> have:ts=[]:=by simpa using hq
                  subst this;rfl
          | some u=>
            rw[hq]at hd;simp only[sw,Bool.not_eq_false']at hd;simp only[hd,Zg7]
        rw[hplc]at oZ;have hpr:=aeH hc t.a t.b t.k aW s1 bX
        let s2:=ah s1 (.cells t.cells 0)
        have g2:=Grew.ah bX (.cells t.cells 0);have B2:=B1.aA g2;obtain⟨s5,r1,r2,r3,r4,r5⟩:=ahp hc (s:=s2) g2.wf (tk:=tk) (ts:=ts) (q:=s1.next) (row:=t.cells) B.Fh.1 B2.Fh.2 (aF _ _) rfl t.one (by omega);have lt2:=B2.lt;have b5:s5.heap.get bp=some (.cells [mH gk gs.length 9,mH tk ts.length 3,.map mp] 0):=by rw[r5 bp B.dt lt2.1];exact B2.book
        let tv:=AV.slice s2.next 0 (ts.length+1) none 3
        let s6:=bI s5 bp (.cells [mH gk gs.length 9,tv,.map mp] 0)
        have ajr:bp.toNat<s5.next.toNat:=r4 _ _ b5;have nb2:bp≠s2.next:=λe=>absurd (show bp.toNat<s2.next.toNat from lt2.1) (by rw[e];exact Zo5 _)
        have KD:∀(K:AV->St->Option (AV×St)),aj c (.store 1) [.ptr bp 1,tv] s5 K=K .undef s6:=λK=>dz c K s5 1 bp 1 tv _ b5 rfl (by simp) rfl
        have g6:∀p,p≠bp->s6.heap.get p=s5.heap.get p:=λp h=>aO (λe=>h e.symm)
        have afQ:∀p:Pos,s0.next.toNat<=p.toNat->s0.heap.get p=none:=λp h=>by
          cases hx:s0.heap.get p with
          |none=>rfl
          |some x=>have:=DY _ _ hx;omega
        obtain⟨PU,cl2,hm3,hm4⟩:=B2.IB;have nmb:mp≠bp:=λe=>by rw[e,B2.book]at hm3;cases hm3
        have nmt:tk≠some mp:=λe=>by rw[B2.Fh.2 mp e]at hm3;cases hm3
        have acO:ic s0 s6 bp mp gs (ts++[t]) gk (some s2.next):={
          wf:=jI r4 ajr
          keeps:=λp x hp=>by
            have n1:p≠bp:=λe=>by rw[e,B.fb]at hp;cases hp
            have n3:tk≠some p:=λe=>by rw[B.ft p e]at hp;cases hp
            have h2:=B2.keeps p x hp;rw[g6 p n1,r5 p n3 (B2.wf _ _ h2)];exact h2
          next:=by show s0.next.toNat<=s5.next.toNat;exact Zb7 B2.next (by rw[r3,Pos.aK];exact Nat.le_succ _)
          book:=by show(bI _ _ _).heap.get bp=_;rw[cW];simp[tv,mH]
          IB:=⟨PU,cl2,by rw[g6 mp nmb,r5 mp nmt lt2.2];exact hm3,hm4⟩
          xk:=⟨B.xk.1,λb hb=>by obtain⟨cs,h3,h4⟩:=B2.xk.2 b hb;refine⟨cs,?_,h4⟩;rw[g6 b (λe=>B.dg (by rw[<-e];exact hb)),r5 b (B.dgt b hb) (B2.wf _ _ h3)];exact h3⟩
          Fh:=⟨λh=>(by cases h),λb hb=>by cases hb;rw[g6 _ (λe=>nb2 e.symm),r2];simp⟩
          dg:=B.dg
          dt:=λe=>nb2 (by injection e with e;exact e.symm)
          dgt:=λb hb h=>by
            cases h;obtain⟨cs,h3,h4⟩:=B2.xk.2 _ hb;exact absurd (show s2.next.toNat<s2.next.toNat from B2.wf _ _ h3) (Zo5 _)
          fb:=B.fb
          fm:=B.fm
          fg:=B.fg
          ft:=λb hb=>by cases hb;exact afQ _ B2.next
          Wd:=λes' cl' hm=>by have m6:s6.heap.get mp=s2.heap.get mp:=(by rw[g6 mp nmb,r5 mp nmt lt2.2]);rw[m6]at hm;exact B2.Wd _ _ hm
          We:=λes' cl' hm=>by have m6:s6.heap.get mp=s2.heap.get mp:=(by rw[g6 mp nmb,r5 mp nmt lt2.2]);rw[m6]at hm;exact B2.We _ _ hm
          rows:=λb cs hb hs i u hu=>by
            obtain⟨cs0,h3,h4⟩:=B2.xk.2 b hb;have x6:s6.heap.get b=s2.heap.get b:=(by rw[g6 b (λe=>B.dg (by rw[<-e];exact hb)),r5 b (B.dgt b hb) (B2.wf _ _ h3)]);rw[x6]at hs;(refine(B2.rows b cs hb hs i u hu).to λp cs a1 a2 a3 hx=> ?_);have aW:p.toNat<s2.next.toNat:=B2.wf _ _ hx;refine⟨by rw[g6 p a1,r5 p a3 aW];exact hx,a2,λe=> ?_⟩;cases e;exact absurd aW (Zo5 _) }
        refine⟨s6,?_,λh=>absurd he h,λ_=>⟨_,acO⟩⟩;rw[he];rw[yh hc 3 (r:=(.int .i64 0,s6))]
        . rw[aez (b:=bp) B.book];rw[acO.book];intro e;have e:=congrArg (λo=>match o with|some (AB.cells (_::v::_) _)=>dX v|_=>none) e;simp only[mH,dX]at e;cases tk with
          |none=>simp[dX,B.Fh.1 rfl]at e
          |some b=>simp[dX]at e
        (rw[uH];have bq:dO (mH tk ts.length 3) (mH tk ts.length 3)=true:=(by cases tk;exact VX;exact R6 _ _ _ _);have DZ:=λ(K:AV->Option (AV×St))=>Ip K (p:=bp) (o:=1) (h:=s1.heap) (h2:=s1.heap) (v:=mH tk ts.length 3) (by rw[B1.book];rfl) (by rw[B1.book];rfl) bq);have Ct:cH (cv [AV.str [],AV.str [],.int .u8 0] 1) [(0,3)] [AV.agg t.cells]=some t.cells:=by
          simp[cH,cv,eD,eZ,Ty.cells,aZ]
        have akE:decide ((ts.length:Int)=256)=false:=Za3 Zc;rw[hu]at L;rcases hkt hk with f|⟨f,f2⟩
        .have d1:decide (t.k=1)=true:=Za1 f;simp[-eo,oY,cA,bsl,l3,d1,L,oZ,B1.book,lT,akE,hpr,DZ,Ct];show VV (c 190 [mH tk ts.length 3,.int .i64 (ts.length:Int),.slice s1.next 0 1 (some 1) 3] s2) _=_;rw[r1];exact KD _
        .have d1:decide (t.k=1)=false:=Za3 f;have d2:decide (t.k=2)=true:=Za1 f2;simp[-eo,oY,cA,bsl,l3,d1,d2,L,oZ,B1.book,lT,akE,hpr,DZ,Ct];show VV (c 190 [mH tk ts.length 3,.int .i64 (ts.length:Int),.slice s1.next 0 1 (some 1) 3] s2) _=_;rw[r1];exact KD _
     .  refine fail 5 (by omega) (by simp[yg,hk,hu,hd]) ?_;rw[hd]at oZ;rw[hu]at L;rw[uH];rcases hkt hk with f|⟨f,f2⟩
        .have d1:decide (t.k=1)=true:=Za1 f;simp[-eo,oY,cA,bsl,l3,d1,L,oZ]
        .have d1:decide (t.k=1)=false:=Za3 f;have d2:decide (t.k=2)=true:=Za1 f2;simp[-eo,oY,cA,bsl,l3,d1,d2,L,oZ]
   . refine fail 6 (by omega) (by simp[yg,hk,hu]) ?_;rw[hu]at L;rw[uH];rcases hkt hk with f|⟨f,f2⟩
     .  have d1:decide (t.k=1)=true:=Za1 f;simp[-eo,oY,cA,bsl,l3,d1,L]
     .  have d1:decide (t.k=1)=false:=Za3 f;have d2:decide (t.k=2)=true:=Za1 f2;simp[-eo,oY,cA,bsl,l3,d1,d2,L]
 .have hkf:¬t.k=1/\¬t.k=2:=(by simpa [Fg]using hk);have he:yg gs ts t=23:=(by simp[yg,hk]);refine⟨s,?_,λ_=>rfl,λh0=>absurd (he.symm.trans h0) (by omega)⟩;rw[yh hc 3 (r:=(.int .i64 23,s)),he,aB (Plain.int _ _) (bf.refl s)];rw[uH];simp[oY,hkf]
@[simp] theorem aoh{R:Type}(K:AV->Option R)(z:Bool)(l:List aS):gU (.lenB .l) [bD z l] K=K (.int .i64 (l.length:Int)):=by unfold bD;rw[aiX];simp
theorem aju{gs:List aS}{k:Nat}(h:k<gs.length)(hk:k<=64):yf (gs.take k) gs[k]=if fe gs[k]≠0 then fe gs[k]else if 0<=scan (jX gs gs[k].name) k 0 then 5 else if 64<=k then 7 else 0:=by
 have hl:(gs.take k).length=k:=by simp;omega
 unfold yf;rw[hl,acN (by omega)];have:(k=64)↔64<=k:=by omega
 simp only[this]
@[simp] theorem anu{R:Type}(c:aq)(K:AV->St->Option R)(st:St)(t:aS)(cs:List AV)(h:cs.length=9):aj c (.store 9) [.ptr st.next 0,.agg t.cells] (ah st (.cells cs 0)) K=K .undef (ah st (.cells t.cells 0)):=cV c K st 9 (.agg t.cells) cs rfl h.symm t.one
theorem aln (hc:Sem c){s0:St}(DY:Wf s0)(z:Bool)(gs:List aS)(hl:gs.length<=100)(bp mp rp:Pos)(F:Nat)(k1 k2):∀(m k:Nat)(s:St)(gk:Option Pos),ic s0 s bp mp (gs.take k) [] gk none->gs.length<=k+m->k<=gs.length->k<=64->
  ∃ s',bf s0 s'/\(((iq gs m k).2=0/\(∃Qc,ic s0 s' bp mp gs [] Qc none)/\kA c F k1 k2 (m+1) [.ptr rp 0,.ptr bp 0,bD z gs,.int .i64 (gs.length:Int),.int .i64 (k:Int)] s=k2 [.ptr rp 0,.ptr bp 0] s')\/
    ((iq gs m k).2≠0/\kA c F k1 k2 (m+1) [.ptr rp 0,.ptr bp 0,bD z gs,.int .i64 (gs.length:Int),.int .i64 (k:Int)] s=k1 [.pz,.int .i64 (iq gs m k).1,.int .i64 (iq gs m k).2] s')):=by
 intro m;induction m with
 |zero=>
  intro k s gk B h1 h2 h3;obtain rfl:k=gs.length:=by omega
  refine⟨s,B.keeps,.inl ⟨rfl,⟨gk,by simpa using B⟩,?_⟩⟩;rw[xw];simp
 |succ m ih   =>
  intro k s gk B h1 h2 h3;by_cases h:k<gs.length
  . have w:az .i64 ((k:Int)+1)=((k+1:Nat):Int):=wrap64 (by omega) (by omega);have B1:=B.aA (Grew.ah B.wf (.cells gs[k].cells 0));obtain⟨s2,a1,a2,a3⟩:=amv hc DY B1 (by simp;omega) gs[k];have hA:=aju h h3;have step:∀(K:AV->St->Option (AV×St)),(aj c (.idxA 9 none) [bD z gs,.int .i64 (k:Int)] s λx19 s12=>aj c (.load (some 9)) [x19] s12 K)=K (.agg gs[k].cells) s:=λK=>by
        simp[bD,h]
    by_cases he:yf (gs.take k) gs[k]=0
    .   obtain⟨Qc,B2⟩:=a3 he;have e1:gs.take k++[gs[k]]=gs.take (k+1):=(Zb8 h).symm;rw[e1]at B2;rw[hA]at he;have c1:fe gs[k]=0:=by
         by_cases e:fe gs[k]=0
         .  exact e
         .  rw[Zb5 e]at he;exact absurd he e
        (rw[Zb2 (by rw[c1];simp)]at he;have c2:¬0<=scan (jX gs gs[k].name) k 0:=λe=>by rw[Zb5 e]at he;cases he);(rw[Zb2 c2]at he;have c3:¬64<=k:=λe=>by rw[Zb5 e]at he;cases he);have ec:iq gs (m+1) k=iq gs m (k+1):=by
         rw[iq,Za0 h];simp only;rw[Zb2 (by rw[c1];simp),Zb2 c2,Zb2 c3]
        obtain⟨s',g1,g2⟩:=ih (k+1) s2 Qc B2 (by omega) (by omega) (by omega);refine⟨s',g1,?_⟩;rw[ec];have eL:kA c F k1 k2 (m+1+1) [.ptr rp 0,.ptr bp 0,bD z gs,.int .i64 (gs.length:Int),.int .i64 (k:Int)] s=kA c F k1 k2 (m+1) [.ptr rp 0,.ptr bp 0,bD z gs,.int .i64 (gs.length:Int),.int .i64 ((k+1:Nat):Int)] s2:=by
         rw[xw];have hz:yf (gs.take k) gs[k]=0:=(by rw[hA,Zb2 (by rw[c1];simp),Zb2 c2,Zb2 c3]);rw[hz]at a1;simp[bD,h,a1,w]
        rw[eL];exact g2
    .   obtain rfl:=a2 he;have ec:iq gs (m+1) k=((k:Int),yf (gs.take k) gs[k]):=by
         rw[iq,Za0 h];simp only;rw[hA]at he ⊢;by_cases c1:fe gs[k]=0
         .  have e1:¬fe gs[k]≠0:=(by rw[c1];simp);by_cases c2:0<=scan (jX gs gs[k].name) k 0
            .simp only[e1,c2,Ze8,Zg7]
            . by_cases c3:64<=k
              .simp only[e1,c2,c3,Ze8,Zg7]
              .rw[Zb2 e1,Zb2 c2,Zb2 c3]at he;exact absurd rfl he
         .  have e1:fe gs[k]≠0:=c1;rw[Zb5 e1,Zb5 e1]
        refine⟨_,B1.keeps,.inr ⟨by rw[ec];exact he,?_⟩⟩;rw[ec,xw];simp[bD,h,a1,he]
  .obtain rfl:k=gs.length:=(by omega);have ec:iq gs (m+1) gs.length=(0,0):=(by rw[iq,Zc6 (by omega)]);refine⟨s,B.keeps,.inl ⟨by rw[ec],⟨gk,by simpa using B⟩,?_⟩⟩;rw[xw];simp
theorem Wh{ts:List Ty}{k:Nat}(h:k<ts.length):(ts.take k).getLast? =nW ts k:=by
 unfold nW;by_cases h0:k=0
 .simp[h0]
 .rw[Zb2 h0,List.getLast?_eq_getElem?];have:(ts.take k).length=k:=(by simp;omega);rw[this,Zd7,Zb5 (by omega)]
theorem ajv{ts:List Ty}{k:Nat}(h:k<ts.length)(hs:Sq (ts.take k))(hb:∀u,nW ts k=some u->fI u ts[k]=true):Sq (ts.take (k+1)):=by
 intro i j hj Z7;have J8:j<k+1:=by simp at hj;omega
 simp only[Zn6];by_cases e:j=k
 . subst e;have h1:nW ts j=some (ts[j - 1]'(by omega)):=(by rw[nW,Zb2 (by omega),Za0 (by omega)]);have h2:=hb _ h1;by_cases e2:i=j - 1
   .subst e2;exact h2
   .have h3:=hs i (j - 1) (by simp;omega) (by omega);simp only[Zn6]at h3;exact O6 h3 h2
 .have:=hs i j (by simp;omega) Z7;simpa only[Zn6]using this
def X1(t:Ty)(p:Option Ty):Bool:=match p with|none=>false|some p=>fI t p
theorem ajw(t:Ty)(p:Option Ty):T6 t p=(!Fg t|| !aL t.a t.b||X1 t p):=by cases p<;>rfl
def okT(t:Ty)(p:Option Ty):Bool:=aL t.a t.b&& !X1 t p
def eK(gs:List aS)(ts:List Ty)(k:Nat)(t:Ty):Int:=if okT t (nW ts k)=true then yg gs (ts.take k) t else 23
theorem alo (hc:Sem c){s0:St}(DY:Wf s0)(z z2:Bool)(gs:List aS)(ts:List Ty)(hl:gs.length<=100)(gx:ts.length<=100)(bp mp rp:Pos)(RH:s0.heap.get rp=some (.cells [bD z gs,cj z2 ts] 0))(gk:Option Pos)(F:Nat)(k1 k4):∀(m k:Nat)(s:St)(tk:Option Pos),ic s0 s bp mp gs (ts.take k) gk tk->Sq (ts.take k)->ts.length<=k+m->k<=ts.length->
  ∃s',bf s0 s'/\((fT gs ts m k).2=0->(∃M9,ic s0 s' bp mp gs ts gk M9)/\Sq ts)/\mb c F k1 k4 (m+1) [.ptr rp 0,.ptr bp 0,cj z2 ts,.int .i64 (ts.length:Int),.int .i64 (k:Int)] s=if(fT gs ts m k).2=0 then k4 [.ptr bp 0] s' else k1 [.pz,.int .i64 (fT gs ts m k).1,.int .i64 (fT gs ts m k).2] s':=by
 intro m;induction m with
 |zero=>
  intro k s tk B hs h1 h2;obtain rfl:k=ts.length:=by omega
  refine⟨s,B.keeps,λ_=>⟨⟨tk,by simpa using B⟩,by simpa using hs⟩,?_⟩;rw[xx];simp[fT]
 |succ m ih   =>
  intro k s tk B hs h1 h2;by_cases h:k<ts.length
  . have w:az .i64 ((k:Int)+1)=((k+1:Nat):Int):=wrap64 (by omega) (by omega);have wg:az .i64 ((gs.length:Int)+(k:Int))=(gs.length:Int)+k:=wrap64 (by omega) (by omega);have B1:=B.aA (Grew.ah B.wf (.cells ts[k].cells 0));have fD:(ah s (.cells ts[k].cells 0)).heap.get rp=some (.cells [bD z gs,cj z2 ts] 0):=B1.keeps _ _ RH;have bX:=B1.wf;have Zc:¬256<=k:=(by omega);have ec:fT gs ts (m+1) k=if eK gs ts k ts[k]≠0 then((gs.length:Int)+k,eK gs ts k ts[k])else fT gs ts m (k+1):=by rw[fT,Za0 h];simp only[Zc,Ze8];rw[ajw];unfold eK okT yg;rw[Wh h];cases Fg ts[k]<;>cases aL ts[k].a ts[k].b<;>cases X1 ts[k] (nW ts k)<;>cases mD gs ts[k]<;>cases sw ts[k] (nW ts k)<;>simp
    have VO   :okT ts[k] (nW ts k)=true->∃s',bf s0 s'/\(eK gs ts k ts[k]=0->(fT gs ts m (k+1)).2=0->(∃M9,ic s0 s' bp mp gs ts gk M9)/\Sq ts)/\∃s2,c 123 [.ptr bp 0,.str ts[k].a,.str ts[k].b,.int .u8 ts[k].k] (ah s (.cells ts[k].cells 0))=some (.int .i64 (eK gs ts k ts[k]),s2)/\s2.heap.get rp=some (.cells [bD z gs,cj z2 ts] 0)/\
          (eK gs ts k ts[k]≠0->s'=s2)/\(eK gs ts k ts[k]=0->
            mb c F k1 k4 (m+1) [.ptr rp 0,.ptr bp 0,cj z2 ts,.int .i64 (ts.length:Int),.int .i64 ((k+1:Nat):Int)] s2=if(fT gs ts m (k+1)).2=0 then k4 [.ptr bp 0] s' else k1 [.pz,.int .i64 (fT gs ts m (k+1)).1,.int .i64 (fT gs ts m (k+1)).2] s'):=λcR=>by
        have acR:=cR;simp only[okT,Zb6,Zk1]at acR;obtain⟨b2,b3⟩:=acR;have anv:∀u,(ts.take k).getLast? =some u->fI ts[k] u=false:=λu hu=>by rw[Wh h]at hu;rw[hu]at b3;exact b3
        obtain⟨s2,a1,a2,a3⟩:=amx hc DY B1 (by simp;omega) ts[k] b2 hs anv;have et:eK gs ts k ts[k]=yg gs (ts.take k) ts[k]:=(by unfold eK;rw[Zb5 cR]);rw[<-et]at a1 a2 a3;by_cases h0:eK gs ts k ts[k]=0
        . obtain⟨M9,B2⟩:=a3 h0;have e1:ts.take k++[ts[k]]=ts.take (k+1):=(Zb8 h).symm;rw[e1]at B2;have hd:sw ts[k] (nW ts k)=false:=by
            rw[et,yg,Wh h]at h0;cases hq:sw ts[k] (nW ts k)
            .rfl
            . rw[hq]at h0;split at h0
              .simp at h0
              .split at h0<;>simp at h0
          have wR:=ajv h hs (λu hu2=>by rw[hu2]at hd;simpa [sw]using hd);obtain⟨s',g1,gB,g2⟩:=ih (k+1) s2 M9 B2 wR (by omega) (by omega);exact⟨s',g1,λ_=>gB,s2,a1,B2.keeps _ _ RH,λe=>absurd h0 e,λ_=>g2⟩
        .obtain rfl:=a2 h0;exact⟨_,B1.keeps,λe=>absurd e h0,_,a1,fD,λ_=>rfl,λe=>absurd e h0⟩
    rw[ec];cases cR:okT ts[k] (nW ts k)
    ·
        have e23:eK gs ts k ts[k]=23:=(by unfold eK;rw[cR];rfl);refine⟨_,B1.keeps,λe=>(by rw[e23,Zb5 (by decide)]at e;cases e),?_⟩;rw[xx,e23];cases q1:aL ts[k].a ts[k].b
        .simp[cj,h,q1,bO,fD,wg]
        . have q2:X1 ts[k] (nW ts k)=true:=(by simpa [okT,q1]using cR);have tX:¬k=0:=λe=>by rw[nW,Zb5 e]at q2;cases q2
          have sQ:k - 1<ts.length:=(by omega);have wk:az .i64 ((k:Int) - 1)=((k - 1:Nat):Int):=(by rw[wrap64 (by omega) (by omega)];omega);have q3:fI ts[k] ts[k - 1]=true:=(by rw[nW,Zb2 tX,Za0 sQ]at q2;exact q2);have ho:=IA hc ts[k - 1] ts[k] _ bX;have DS:¬sR ts[k - 1] ts[k]<=0:=(by have:=TZ.2 q3;omega);simp[cj,h,q1,bO,fD,wg,tX,sQ,wk,ho,DS]
    .   obtain⟨s',g1,gB,s2,t1,t2,t3,t4⟩:=VO cR;refine⟨s',g1,λe=>by
          by_cases he:eK gs ts k ts[k]=0
          .exact gB he (by rw[Zb2 (by simp[he])]at e;exact e)
          .rw[Zb5 he]at e;exact absurd e he,?_⟩
        rw[xx];have acR:=cR;simp only[okT,Zb6,Zk1]at acR;obtain⟨q1,q2⟩:=acR;by_cases he:eK gs ts k ts[k]=0
        . have t4:=t4 he;rw[he]at t1;simp only[he,ne_eq,not_true,Ze8];rw[<-t4];by_cases tX:k=0
          .have dk:decide ((k:Int)=0)=true:=Za1 (by omega);have dk':decide (k=0)=true:=Za1 tX;clear tX;simp[cj,h,q1,bO,fD,dk,dk',t1,w]
          . have sQ:k - 1<ts.length:=(by omega);have wk:az .i64 ((k:Int) - 1)=((k - 1:Nat):Int):=(by rw[wrap64 (by omega) (by omega)];omega);have q3:fI ts[k] ts[k - 1]=false:=(by rw[nW,Zb2 tX,Za0 sQ]at q2;exact q2);have ho:=IA hc ts[k - 1] ts[k] _ bX;have DS:sR ts[k - 1] ts[k]<=0:=by
              have:¬0<sR ts[k - 1] ts[k]:=λe=>by rw[TZ.1 e]at q3;cases q3
              omega
            simp[cj,h,q1,bO,fD,tX,sQ,wk,ho,DS,t1,w]
        . obtain rfl:=t3 he;simp only[he,ne_eq,Zm9,Zg7,Ze8];by_cases tX:k=0
          .have dk:decide ((k:Int)=0)=true:=Za1 (by omega);have dk':decide (k=0)=true:=Za1 tX;clear tX;simp[cj,h,q1,bO,fD,dk,dk',t1,t2,wg,he]
          . have sQ:k - 1<ts.length:=(by omega);have wk:az .i64 ((k:Int) - 1)=((k - 1:Nat):Int):=(by rw[wrap64 (by omega) (by omega)];omega);have q3:fI ts[k] ts[k - 1]=false:=(by rw[nW,Zb2 tX,Za0 sQ]at q2;exact q2);have ho:=IA hc ts[k - 1] ts[k] _ bX;have DS:sR ts[k - 1] ts[k]<=0:=by
              have:¬0<sR ts[k - 1] ts[k]:=λe=>by rw[TZ.1 e]at q3;cases q3
              omega
            simp[cj,h,q1,bO,fD,tX,sQ,wk,ho,DS,t1,t2,wg,he]
  .obtain rfl:k=ts.length:=(by omega);refine⟨s,B.keeps,λ_=>⟨⟨tk,by simpa using B⟩,by simpa using hs⟩,?_⟩;rw[xx];have ec:fT gs ts (m+1) ts.length=(0,0):=(by rw[fT,Zc6 (by omega)]);simp[ec]
theorem Zd(hc:Sem c)(z z2:Bool)(gs:List aS)(ts:List Ty)(hl:gs.length<=100)(gx:ts.length<=100)(s:St)(hw:Wf s):
   ∃v s',c 62 [.agg [bD z gs,cj z2 ts]] s=some (.tuple [v,.int .i64 (bW gs ts).1,.int .i64 (bW gs ts).2],s')/\bf s s'/\((bW gs ts).2=0->∃bp mp gk tk,v= .ptr bp 0/\ic (ah s (.cells [bD z gs,cj z2 ts] 0)) s' bp mp gs ts gk tk/\Sq ts):=by
 let s0:=ah s (.cells [bD z gs,cj z2 ts] 0)
 have DY:Wf s0:=bL hw;have k0:bf s s0:=bE hw;have RH:s0.heap.get s.next=some (.cells [bD z gs,cj z2 ts] 0):=aF _ _;have abG:=amu hc s0;have B:=ic.start DY
 have finish:∀{v:AV}{s':St},CW c 102 (.agg [bD z gs,cj z2 ts]) s=some (.tuple [v,.int .i64 (bW gs ts).1,.int .i64 (bW gs ts).2],s')->bf s0 s'->((bW gs ts).2=0->∃bp mp gk tk,v= .ptr bp 0/\ic s0 s' bp mp gs ts gk tk/\Sq ts)->
     ∃v s',c 62 [.agg [bD z gs,cj z2 ts]] s=some (.tuple [v,.int .i64 (bW gs ts).1,.int .i64 (bW gs ts).2],s')/\bf s s'/\((bW gs ts).2=0->∃bp mp gk tk,v= .ptr bp 0/\ic s0 s' bp mp gs ts gk tk/\Sq ts):=λ{v s'} h hk hB=>by
   have h2:=Ze hc 102 h;unfold tidy at h2;split at h2
   .rename_i hp;exact⟨v,s,h2,bf.refl s,λe=>by obtain⟨bp,mp,gk,tk,rfl,_⟩:=hB e;exact absurd hp.1 aaA⟩
   .exact⟨v,s',h2,k0.trans hk,hB⟩
 obtain⟨s1,g1,g2⟩:=aln hc DY z gs hl (ah s0 (.map [] 0)).next s0.next s.next 102 (λvs s30=>eP vs λx2 vs=>eP vs λx3 vs=>eP vs λx4 vs=>iD vs (some (.tuple [x2,x3,x4],s30))) (λvs s31=>eP vs λx1 vs=>eP vs λx5 vs=>iD vs (
   aj c (.fieldA 1) [x1] s31 λx29 s32=>aj c (.load none) [x29] s32 λVd s33=>aj c (.lenB .l) [Vd] s33 λx31 XT=>aj c .move [(.int .i64 0)] XT λx32 XU=>
   mb c 102 (λvs s80=>eP vs λx2 vs=>eP vs λx3 vs=>eP vs λx4 vs=>iD vs (some (.tuple [x2,x3,x4],s80))) (λvs s81=>eP vs λx5 vs=>iD vs (
     aj c .move [x5] s81 λx74 s82=>aj c .move [x74] s82 λx2 s83=>aj c .move [(.int .i64 0)] s83 λx3 s84=>aj c .move [(.int .i64 0)] s84 λx4 s85=>some (.tuple [x2,x3,x4],s85))) 102 [x1,x5,Vd,x31,x32] XU)) 101 0 _ none B (by omega) (by omega) (by omega)
 have ahq:∀r,kA c 102 (λvs s30=>eP vs λx2 vs=>eP vs λx3 vs=>eP vs λx4 vs=>iD vs (some (.tuple [x2,x3,x4],s30))) (λvs s31=>eP vs λx1 vs=>eP vs λx5 vs=>iD vs (
   aj c (.fieldA 1) [x1] s31 λx29 s32=>aj c (.load none) [x29] s32 λVd s33=>aj c (.lenB .l) [Vd] s33 λx31 XT=>aj c .move [(.int .i64 0)] XT λx32 XU=>
   mb c 102 (λvs s80=>eP vs λx2 vs=>eP vs λx3 vs=>eP vs λx4 vs=>iD vs (some (.tuple [x2,x3,x4],s80))) (λvs s81=>eP vs λx5 vs=>iD vs (
     aj c .move [x5] s81 λx74 s82=>aj c .move [x74] s82 λx2 s83=>aj c .move [(.int .i64 0)] s83 λx3 s84=>aj c .move [(.int .i64 0)] s84 λx4 s85=>some (.tuple [x2,x3,x4],s85))) 102 [x1,x5,Vd,x31,x32] XU)) 102 [.ptr s.next 0,.ptr (ah s0 (.map [] 0)).next 0,bD z gs,.int .i64 (gs.length:Int),.int .i64 ((0:Nat):Int)] (ah (ah s0 (.map [] 0)) (.cells [.af,.af,.map s0.next] 0))=r->CW c 102 (.agg [bD z gs,cj z2 ts]) s=r:=λr h=>by
   rw[<-h,acS];have hb:=(B.keeps _ _ RH)
   simp only[dw,Sj,ai,aT];show VV (c 120 [] s0) _=_;rw[abG];simp only[aR,aG,aN,hb,ak,Za2,Zb0,Za5,aD,acH];rfl
 rcases g2 with⟨q1,⟨Qc,B2⟩,q3⟩|⟨q1,q3⟩
 . have e:bW gs ts=fT gs ts 101 0:=(by rw[bW,Zb2 (by simp[q1])]);obtain⟨s2,r1,rB,r2⟩:=alo hc DY z z2 gs ts hl gx (ah s0 (.map [] 0)).next s0.next s.next RH Qc 102 (λvs s80=>eP vs λx2 vs=>eP vs λx3 vs=>eP vs λx4 vs=>iD vs (some (.tuple [x2,x3,x4],s80))) (λvs s81=>eP vs λx5 vs=>iD vs (
     aj c .move [x5] s81 λx74 s82=>aj c .move [x74] s82 λx2 s83=>aj c .move [(.int .i64 0)] s83 λx3 s84=>aj c .move [(.int .i64 0)] s84 λx4 s85=>some (.tuple [x2,x3,x4],s85))) 101 0 s1 none (by simpa using B2) (by intro i j hj;simp at hj) (by omega) (by omega)
   have ji:s1.heap.get s.next=some (.cells [bD z gs,cj z2 ts] 0):=B2.keeps _ _ RH;have hL:=ahq _ q3;simp only[au,ay,aG,aN,ji,ak,Za2,Zb3,Zb0,Za5,aD,ajm,ai]at hL;have r2':=r2;rw[show(((0:Nat):Int))=0 from rfl]at r2';simp only[ai,Nat.reduceAdd]at r2';rw[r2']at hL;rw[e]at finish ⊢;by_cases h2:(fT gs ts 101 0).2=0
   . have h3:=O0 gs ts 101 0 h2;rw[Zb5 h2]at hL;simp only[au,ay]at hL;exact finish (by rw[h2,h3];exact hL) r1 (λe=>by
        obtain⟨⟨M9,B3⟩,hs⟩:=rB e;exact⟨_,_,_,_,rfl,B3,hs⟩)
   .rw[Zb2 h2]at hL;simp only[au,ay]at hL;exact finish hL r1 (λe=>absurd e h2)
 .have e:bW gs ts=iq gs 101 0:=(by rw[bW,Zb5 q1]);have hL:=ahq _ q3;simp only[au,ay]at hL;rw[e]at finish ⊢;exact finish hL g1 (λe=>absurd e q1)
structure Rl where
 k:Int
 wt:Int
 a:List Nat
 b:List Nat
 t:List Nat
 n:Int
def Rl.cells(r:Rl):List AV:=[.int .u8 r.k,.int .i64 r.wt,.str r.a,.str r.b,.str r.t,.int .i64 r.n]
@[simp] theorem Rl.c0(t:Rl):t.cells[0]? =some (.int .u8 t.k):=id rfl
@[simp] theorem Rl.c1(t:Rl):t.cells[1]? =some (.int .i64 t.wt):=id rfl
@[simp] theorem Rl.c2(t:Rl):t.cells[2]? =some (.str t.a):=id rfl
@[simp] theorem Rl.c3(t:Rl):t.cells[3]? =some (.str t.b):=id rfl
@[simp] theorem Rl.c4(t:Rl):t.cells[4]? =some (.str t.t):=id rfl
@[simp] theorem Rl.c5(t:Rl):t.cells[5]? =some (.int .i64 t.n):=id rfl
@[simp] theorem Rl.cc(t:Rl):cut t.cells 0 6=some t.cells:=bP rfl
@[simp] theorem Rl.one(t:Rl):aV t.cells=true:=id rfl
def dm(z:Bool)(rs:List Rl):AV:=ro 6 z (rs.map Rl.cells)
@[simp] theorem ID{R:Type}(c:aq)(K:AV->St->Option R)(st:St)(z:Bool)(l:List Rl):aj c (.lenB .l) [dm z l] st K=K (.int .i64 (l.length:Int)) st:=by unfold dm;rw[dh];simp
@[simp] theorem anw{R:Type}(c:aq)(K:AV->St->Option R)(st:St)(z:Bool)(l:List aH):aj c (.lenB .l) [tabs z l] st K=K (.int .i64 (l.length:Int)) st:=by unfold tabs;rw[dh];simp
structure aP where
 tz:Bool
 ts:List aH
 gz:Bool
 gs:List aS
 yz:Bool
 ys:List Ty
 cz:Bool
 cs:List Int
 rz:Bool
 rs:List Rl
def aP.cells(p:aP):List AV:=[tabs p.tz p.ts,bD p.gz p.gs,cj p.yz p.ys,ints p.cz p.cs,dm p.rz p.rs]
@[simp] theorem aP.c0(p:aP):p.cells[0]? =some (tabs p.tz p.ts):=id rfl
@[simp] theorem aP.c1(p:aP):p.cells[1]? =some (bD p.gz p.gs):=id rfl
@[simp] theorem aP.c2(p:aP):p.cells[2]? =some (cj p.yz p.ys):=id rfl
@[simp] theorem aP.c3(p:aP):p.cells[3]? =some (ints p.cz p.cs):=id rfl
@[simp] theorem aP.c4(p:aP):p.cells[4]? =some (dm p.rz p.rs):=id rfl
@[simp] theorem aP.cc(p:aP):cut p.cells 0 5=some p.cells:=bP rfl
structure aP.ew(p:aP):Prop where
 ts:p.ts.length<=100
 gs:p.gs.length<=100
 ys:p.ys.length<=100
 cs:p.cs.length<=100
 rs:p.rs.length<=100
 ok:∀t∈p.ts,t.Ok
def oU(l:List Int):Bool:=l.all λc=>decide (0<=c)&&decide (c<64)
def fU(p:aP):Int×Int:=
 if(bJ p.ts).2≠0 then bJ p.ts else if(bW p.gs p.ys).2≠0 then bW p.gs p.ys
 else if p.cs.length≠0/\p.cs.length≠p.gs.length then(0,44)else if oU p.cs=false then(0,44)
 else if cm p.ts<p.gs.length then(0,45)else(0,0)
theorem ad0{p:aP}(h:(fU p).2=0):(fU p).1=0:=by
 unfold fU at h ⊢;by_cases h1:(bJ p.ts).2≠0
 .rw[Zb5 h1]at h;exact absurd h h1
 rw[Zb2 h1]at h ⊢;by_cases h2:(bW p.gs p.ys).2≠0
 .rw[Zb5 h2]at h;exact absurd h h2
 rw[Zb2 h2]
 repeat' split
 all_goals rfl
theorem afT(p:aP)(hp:p.ew)(q:Pos)(F:Nat)(s:St)(k1 k2):∀(m k:Nat),p.cs.length<=k+m->k<=p.cs.length->
  qF c F k1 k2 (m+1) [.ptr q 0,ints p.cz p.cs,.int .i64 (p.cs.length:Int),.int .i64 (k:Int)] s=if oU (p.cs.drop k)=true then k2 [.ptr q 0] s else k1 [.int .i64 0,.int .i64 44] s:=by
 have hl:=hp.cs;intro m;induction m with
 |zero=>
  intro k h1 h2;obtain rfl:k=p.cs.length:=by omega
  rw[KN];simp[oU]
 |succ m ih=>
  intro k h1 h2;rw[KN];by_cases h:k<p.cs.length
  . have e:p.cs.drop k=p.cs[k]::p.cs.drop (k+1):=Zd2 h;have w:az .i64 ((k:Int)+1)=((k+1:Nat):Int):=wrap64 (by omega) (by omega);have:=ih (k+1) (by omega) (by omega);have ec:oU (p.cs.drop k)=((decide (0<=p.cs[k])&&decide (p.cs[k]<64))&&oU (p.cs.drop (k+1))):=(by rw[e];rfl);rw[ec];generalize oU (p.cs.drop (k+1))=rest at this ⊢;by_cases h3:p.cs[k]<0
    .   have h4:(decide (0<=p.cs[k])&&decide (p.cs[k]<64))=false:=(by simp;omega);rw[h4];simp[ints,h,h3]
    .   by_cases h5:64<=p.cs[k]
        .have h4:(decide (0<=p.cs[k])&&decide (p.cs[k]<64))=false:=(by simp;omega);rw[h4];simp[ints,h,h3,h5]
        .have h4:(decide (0<=p.cs[k])&&decide (p.cs[k]<64))=true:=(by simp;omega);rw[h4,Zf7, <-this];simp[ints,h,h3,h5,w]
  .obtain rfl:k=p.cs.length:=(by omega);simp[oU]
theorem aaO(p:aP)(hp:p.ew)(q:Pos)(F:Nat)(s:St)(hq:s.heap.get q=some (.cells p.cells 0))(k1 k2):∀(m k:Nat),p.cs.length<=k+m->k<=p.cs.length->
  iZ c F k1 k2 (m+1) [.ptr q 0,.int .i64 (k:Int)] s=if oU (p.cs.drop k)=true then k2 [.ptr q 0] s else k1 [.int .i64 0,.int .i64 44] s:=by
 have hl:=hp.cs;intro m;induction m with
 |zero=>
  intro k h1 h2;obtain rfl:k=p.cs.length:=by omega
  rw[zh];simp[oU,hq]
 |succ m ih=>
  intro k h1 h2;rw[zh];by_cases h:k<p.cs.length
  . have e:p.cs.drop k=p.cs[k]::p.cs.drop (k+1):=Zd2 h;have w:az .i64 ((k:Int)+1)=((k+1:Nat):Int):=wrap64 (by omega) (by omega);have:=ih (k+1) (by omega) (by omega);have ec:oU (p.cs.drop k)=((decide (0<=p.cs[k])&&decide (p.cs[k]<64))&&oU (p.cs.drop (k+1))):=(by rw[e];rfl);rw[ec];generalize oU (p.cs.drop (k+1))=rest at this ⊢;by_cases h3:p.cs[k]<0
    .   have h4:(decide (0<=p.cs[k])&&decide (p.cs[k]<64))=false:=(by simp;omega);rw[h4];simp[hq,ints,h,h3]
    .   by_cases h5:64<=p.cs[k]
        .have h4:(decide (0<=p.cs[k])&&decide (p.cs[k]<64))=false:=(by simp;omega);rw[h4];simp[hq,ints,h,h3,h5]
        .have h4:(decide (0<=p.cs[k])&&decide (p.cs[k]<64))=true:=(by simp;omega);rw[h4,Zf7, <-this];simp[hq,ints,h,h3,h5,w]
  .obtain rfl:k=p.cs.length:=(by omega);simp[oU,hq]
theorem aaP(hc:Sem c)(z:Bool)(ts:List aH)(hl:ts.length<=100)(F:Nat)(s:St)(hw:Wf s)(k2):∀(m k:Nat),ts.length<=k+m->k<=ts.length->
  fk c F k2 (m+1) [tabs z ts,.int .i64 (ts.length:Int),.int .i64 (cm (ts.take k)),.int .i64 (k:Int)] s=k2 [.int .i64 (cm ts)] s:=by
 intro m;induction m with
 |zero=>
  intro k h1 h2;obtain rfl:k=ts.length:=by omega
  rw[mE];simp
 |succ m ih=>
  intro k h1 h2;rw[mE];by_cases h:k<ts.length
  . have w:az .i64 ((k:Int)+1)=((k+1:Nat):Int):=wrap64 (by omega) (by omega);have hs:=uD hc ts[k] s hw;have e:cm (ts.take (k+1))=cm (ts.take k)+aY ts[k]:=by
        rw[Zb8 h,Hl]
    have b1:=A4 (ts.take k);have b2:=jJ ts[k];have b3:(ts.take k).length<=100:=(by simp;omega);have w2:az .i64 (cm (ts.take k)+aY ts[k])=cm (ts.take (k+1)):=(by rw[e];exact wrap64 (by omega) (by omega));rw[<-ih (k+1) (by omega) (by omega)];simp[tabs,h,hs,w,w2]
  .obtain rfl:k=ts.length:=(by omega);simp
theorem ad1(hc:Sem c)(z:Bool)(ts:List aH)(hl:ts.length<=100)(s:St)(hw:Wf s):c 141 [tabs z ts] s=some (.int .i64 (cm ts),s):=by
 have hF:c 49 [tabs z ts,.int .i64 (ts.length:Int)] s=some (.int .i64 (cm ts),s):=by
  rw[Ad hc 101 (r:=(.int .i64 (cm ts),s)),aB (Plain.int _ _) (bf.refl s)];rw[CX];have L:∀k2,fk c 101 k2 101 [tabs z ts,.int .i64 (ts.length:Int),.int .i64 0,.int .i64 0] s=k2 [.int .i64 (cm ts)] s:=λk2=>by have:=aaP hc z ts hl 101 s hw k2 100 0 (by omega) (by omega);simpa [cm]using this
  simp[L]
 rw[LB hc 1 (r:=(.int .i64 (cm ts),s)),aB (Plain.int _ _) (bf.refl s)];rw[O8];simp[hF]
theorem CO{d:Nat}(z:Bool)(l:List Int):cU (d+1) (ints z l):=cU.ro λr hr v hv=>by simp only[Zd0]at hr;obtain⟨i,_,rfl⟩:=hr;simp only[Zf1]at hv;subst hv;exact cU.int _ _
theorem afU{d:Nat}(z:Bool)(l:List (List Nat)):cU (d+1) (dY z l):=cU.ro λr hr v hv=>by simp only[Zd0]at hr;obtain⟨i,_,rfl⟩:=hr;simp only[Zf1]at hv;subst hv;exact cU.str _
theorem Hi(z:Bool)(l:List aS):cU 3 (bD z l):=cU.ro λr hr v hv=>by simp only[Zd0]at hr;obtain⟨g,_,rfl⟩:=hr;simp only[aS.cells,Zb4,Zc8,Zg9]at hv;rcases hv with rfl|rfl|rfl|rfl|rfl|rfl|rfl|rfl|rfl<;>first|exact cU.str _|exact cU.int _ _|exact cU.bool _|exact afU _ _
theorem XF(z:Bool)(l:List aH):cU 3 (tabs z l):=cU.ro λr hr v hv=>by simp only[Zd0]at hr;obtain⟨g,_,rfl⟩:=hr;simp only[aH.cells,Zb4,Zc8,Zg9]at hv;rcases hv with rfl|rfl|rfl|rfl|rfl|rfl|rfl<;>first|exact cU.str _|exact cU.int _ _|exact cU.bool _|exact CO _ _
theorem Kz(z:Bool)(l:List Rl):cU 3 (dm z l):=cU.ro λr hr v hv=>by simp only[Zd0]at hr;obtain⟨g,_,rfl⟩:=hr;simp only[Rl.cells,Zb4,Zc8,Zg9]at hv;rcases hv with rfl|rfl|rfl|rfl|rfl|rfl<;>first|exact cU.str _|exact cU.int _ _|exact cU.bool _
theorem jY(z z2:Bool)(gs:List aS)(ts:List Ty):cH [.af,.af] [(0,1),(1,1)] [bD z gs,cj z2 ts]=some [bD z gs,cj z2 ts]:=by have e1:(bD z gs).cells=[bD z gs]:=acd _ _ _;have e2:(cj z2 ts).cells=[cj z2 ts]:=acd _ _ _;unfold cH;rw[e1];show cH [bD z gs,.af] [(1,1)] [cj z2 ts]=_;unfold cH;rw[e2];rfl
def mI(c:aq)(p:aP):Prop:=(∀st,Wf st->c 151 [.agg [bD p.gz p.gs,cj p.yz p.ys]] st=some (.tuple [.int .i64 (bW p.gs p.ys).1,.int .i64 (bW p.gs p.ys).2],st))/\
 ∀st,Wf st->c 140 [.agg [bD p.gz p.gs,cj p.yz p.ys]] st=some (.tuple [.int .i64 (bW p.gs p.ys).1,.int .i64 (bW p.gs p.ys).2],st)
theorem ajx (hc:Sem c)(p:aP)(hp:p.ew)(hR:mI c p)(st:St)(hw:Wf st):c 74 [.agg p.cells] st=some (.tuple [.int .i64 (fU p).1,.int .i64 (fU p).2],st):=by
 have bX:Wf (ah st (.cells p.cells 0)):=bL hw;have KM:=Grew.ah hw (.cells p.cells 0);have fD:(ah st (.cells p.cells 0)).heap.get st.next=some (.cells p.cells 0):=aF _ _;have A:=Vc hc p.tz p.ts hp.ok _ bX;have B:=hR.1 _ bX;have D:=Iy hc p.tz p.ts hp.ok _ bX;have L:∀k1 k2,qF c 101 k1 k2 101 [.ptr st.next 0,ints p.cz p.cs,.int .i64 (p.cs.length:Int),.int .i64 0] (ah st (.cells p.cells 0))=if oU p.cs=true then k2 [.ptr st.next 0] (ah st (.cells p.cells 0))else k1 [.int .i64 0,.int .i64 44] (ah st (.cells p.cells 0)):=
   λk1 k2=>afT (c:=c) p hp st.next 101 (ah st (.cells p.cells 0)) k1 k2 100 0 (by have:=hp.cs;omega) (by omega)
 have DZ:=λ(K:AV->Option (AV×St))=>Ip K (p:=st.next) (o:=1) (h:=(ah st (.cells p.cells 0)).heap) (h2:=(ah st (.cells p.cells 0)).heap) (v:=bD p.gz p.gs) (by rw[fD];rfl) (by rw[fD];rfl) (qQ (Hi _ _))
 rw[Zf hc 101 (r:=(.tuple [.int .i64 (fU p).1,.int .i64 (fU p).2],ah st (.cells p.cells 0))),aB (Plain.tuple (by simp[Plain.int])) KM.keeps];rw[acT];unfold fU;by_cases h1:(bJ p.ts).2=0
 . by_cases h2:(bW p.gs p.ys).2=0
   . simp only[h1,Zg7]at D;by_cases h3:p.cs.length=0
     .  have h4:p.cs=[]:=(by simpa using h3);have L1:oU p.cs=true:=(by rw[h4];rfl);have e0:((p.cs.length:Nat):Int)=0:=(by omega);simp only[L1,Zg7,e0]at L;by_cases h6:cm p.ts<p.gs.length
        .simp[jY,h1,h2,h3,A,B,D,fD,L1,L,DZ,h6]
        .simp[jY,h1,h2,h3,A,B,D,fD,L1,L,DZ,h6]
     .  by_cases h4:p.cs.length=p.gs.length
        . cases h5:oU p.cs with
          | false=>
            simp only[h5,Zd3,Ze8,h4]at L;have h7:0<p.cs.length:=(by omega);have h8:0<p.gs.length:=(by omega);simp[jY,h1,h2,h3,h4,h5,h7,h8,A,B,fD,L]
          | true=>
            simp only[h5,Zg7,h4]at L;have h7:0<p.cs.length:=(by omega);have h8:0<p.gs.length:=(by omega);by_cases h6:cm p.ts<p.gs.length
            .simp[jY,h1,h2,h3,h4,h5,h7,h8,A,B,D,fD,L,DZ,h6]
            .simp[jY,h1,h2,h3,h4,h5,h7,h8,A,B,D,fD,L,DZ,h6]
        .have h7:0<p.cs.length:=(by omega);have h4i:¬((p.cs.length:Int)=(p.gs.length:Int)):=(by omega);simp[jY,h1,h2,h3,h4,h4i,h7,A,B,fD]
   .simp[jY,h1,h2,A,B,fD]
 .simp[h1,A,fD]
theorem ad2 (hc:Sem c)(p:aP)(hp:p.ew)(hR:mI c p)(st:St)(hw:Wf st):c 72 [.agg p.cells] st=some (.tuple [.int .i64 (fU p).1,.int .i64 (fU p).2],st):=by
 have bX:Wf (ah st (.cells p.cells 0)):=bL hw;have KM:=Grew.ah hw (.cells p.cells 0);have fD:(ah st (.cells p.cells 0)).heap.get st.next=some (.cells p.cells 0):=aF _ _;have A:=Y0 hc p.tz p.ts hp.ok _ bX;have B:=hR.2 _ bX;have D:=ad1 hc p.tz p.ts hp.ts _ bX;have L:∀k1 k2,iZ c 101 k1 k2 101 [.ptr st.next 0,.int .i64 0] (ah st (.cells p.cells 0))=if oU p.cs=true then k2 [.ptr st.next 0] (ah st (.cells p.cells 0))else k1 [.int .i64 0,.int .i64 44] (ah st (.cells p.cells 0)):=
   λk1 k2=>aaO (c:=c) p hp st.next 101 (ah st (.cells p.cells 0)) fD k1 k2 100 0 (by have:=hp.cs;omega) (by omega)
 have DZ:=λ(K:AV->Option (AV×St))=>Ip K (p:=st.next) (o:=1) (h:=(ah st (.cells p.cells 0)).heap) (h2:=(ah st (.cells p.cells 0)).heap) (v:=bD p.gz p.gs) (by rw[fD];rfl) (by rw[fD];rfl) (qQ (Hi _ _))
 rw[LC hc 101 (r:=(.tuple [.int .i64 (fU p).1,.int .i64 (fU p).2],ah st (.cells p.cells 0))),aB (Plain.tuple (by simp[Plain.int])) KM.keeps];rw[O9];unfold fU;by_cases h1:(bJ p.ts).2=0
 . by_cases h2:(bW p.gs p.ys).2=0
   . by_cases h3:p.cs.length=0
     .  have h4:p.cs=[]:=(by simpa using h3);have L1:oU p.cs=true:=(by rw[h4];rfl);simp only[L1,Zg7]at L;by_cases h6:cm p.ts<p.gs.length
        .simp[jY,h1,h2,h3,A,B,D,fD,L1,L,DZ,h6]
        .simp[jY,h1,h2,h3,A,B,D,fD,L1,L,DZ,h6]
     .  by_cases h4:p.cs.length=p.gs.length
        . cases h5:oU p.cs with
          | false=>
            simp only[h5,Zd3,Ze8]at L;have h7:0<p.cs.length:=(by omega);have h8:0<p.gs.length:=(by omega);have h9:¬p.gs=[]:=(by intro e;rw[e]at h8;simp at h8);have Qb:¬p.cs=[]:=(by intro e;rw[e]at h7;simp at h7);simp[jY,h1,h2,h3,h4,h5,h7,h8,h9,Qb,A,B,fD,L]
          | true=>
            simp only[h5,Zg7]at L;have h7:0<p.cs.length:=(by omega);have h8:0<p.gs.length:=(by omega);have h9:¬p.gs=[]:=(by intro e;rw[e]at h8;simp at h8);have Qb:¬p.cs=[]:=(by intro e;rw[e]at h7;simp at h7);by_cases h6:cm p.ts<p.gs.length
            .simp[jY,h1,h2,h3,h4,h5,h7,h8,h9,Qb,A,B,D,fD,L,DZ,h6]
            .simp[jY,h1,h2,h3,h4,h5,h7,h8,h9,Qb,A,B,D,fD,L,DZ,h6]
        .have h7:0<p.cs.length:=(by omega);have h4i:¬((p.cs.length:Int)=(p.gs.length:Int)):=(by omega);have Qb:¬p.cs=[]:=(by intro e;rw[e]at h7;simp at h7);simp[jY,h1,h2,h3,h4,h4i,h7,Qb,A,B,fD]
   .simp[jY,h1,h2,A,B,fD]
 .simp[h1,A,fD]
theorem ahr(z:Bool)(rs:List (List AV))(hl:rs.length<cC)(dB:∀cs∈rs,cs.length=9)(g:Nat)(v:List AV)(P:Nat->Bool)(st:St)(F:Nat)(k1 k2)
  (hP:∀i (h:i<rs.length),c g (.agg rs[i]::v) st=some (.bool (P i),st)):∀(m k:Nat),rs.length<=k+m->k<=rs.length->
  cF c F k1 k2 (m+1) [ro 9 z rs,.func g [] v,.int .i64 (rs.length:Int),.int .i64 (k:Int)] st=if 0<=scan P (rs.length - k) k then k1 [.int .i64 (scan P (rs.length - k) k)] st else k2 [] st:=by
 intro m;induction m with
 |zero=>
  intro k h1 h2;obtain rfl:k=rs.length:=by omega
  rw[lB];simp[scan]
 |succ m ih=>
  intro k h1 h2;rw[lB];by_cases h:k<rs.length
  . have e:rs.length - k=(rs.length - (k+1))+1:=(by omega);have w:az .i64 ((k:Int)+1)=((k+1:Nat):Int):=wrap64 (by omega) (by unfold cC at hl;omega);have hcut:cut rs[k] 0 9=some rs[k]:=bP (dB _ (Zc0 h));have hp:=hP k h;rw[e,scan];cases hb:P k
    .   simp only[Zd3,Ze8];rw[<-ih (k+1) (by omega) (by omega)];simp[h,hcut,hp,hb,w]
    .   simp[h,hcut,hp,hb]
  .obtain rfl:k=rs.length:=(by omega);simp[scan]
theorem alp(hc:Sem c)(z:Bool)(rs:List (List AV))(hl:rs.length<cC)(dB:∀cs∈rs,cs.length=9)(g:Nat)(v:List AV)(P:Nat->Bool)(st:St)
   (hP:∀i (h:i<rs.length),c g (.agg rs[i]::v) st=some (.bool (P i),st)):c 207 [ro 9 z rs,.func g [] v] st=some (.int .i64 (scan P rs.length 0),st):=by
 rw[uI hc (rs.length+1) (r:=(.int .i64 (scan P rs.length 0),st)),aB (Plain.int _ _) (bf.refl st)];rw[vY];have L:∀k1 k2,cF c (rs.length+1) k1 k2 (rs.length+1) [ro 9 z rs,.func g [] v,.int .i64 (rs.length:Int),.int .i64 0] st=if 0<=scan P (rs.length - 0) 0 then k1 [.int .i64 (scan P (rs.length - 0) 0)] st else k2 [] st:=
   λk1 k2=>ahr z rs hl dB g v P st _ k1 k2 hP rs.length 0 (by omega) (by omega)
 rw[Zm0]at L;by_cases h:0<=scan P rs.length 0
 .simp[L,h]
 .have:=(HR P rs.length 0).2 (by omega);simp[L,this]
theorem alq(hc:Sem c)(g:aS)(s:List Nat)(p:Pos)(st:St)(hw:Wf st)(hp:st.heap.get p=some (.cells [.str s] 0)):c 208 [.agg g.cells,.ptr p 0] st=some (.bool (decide (g.name=s)),st):=by
 rw[Zg hc 1 (r:=(.bool (decide (g.name=s)),ah st (.cells g.cells 0))),aB (Plain.bool _) (bE hw)];rw[acU];have:(ah st (.cells g.cells 0)).heap.get p=some (.cells [.str s] 0):=bE hw _ _ hp;simp[this]
theorem amy(hc:Sem c)(p:aP)(hp:p.ew)(s:List Nat)(st:St)(hw:Wf st):c 153 [.agg p.cells,.str s] st=some (.int .i64 (scan (jX p.gs s) p.gs.length 0),st):=by
 have bX:Wf (ah st (.cells p.cells 0)):=bL hw;have gS:=bL (b:= .cells [.str s] 0) bX;have hg:=(Grew.ah hw (.cells p.cells 0)).trans (Grew.ah bX (.cells [.str s] 0));have fD:(ah (ah st (.cells p.cells 0)) (.cells [.str s] 0)).heap.get st.next=some (.cells p.cells 0):=by have:=aF st (.cells p.cells 0);exact(Grew.ah bX (.cells [.str s] 0)).get this
 have hi:=alp hc p.gz (p.gs.map aS.cells) (by have:=hp.gs;simp;unfold cC;omega) (λcs gM=>by
   simp only[Zd0]at gM;obtain⟨t,_,rfl⟩:=gM;rfl) 208 [.ptr (ah st (.cells p.cells 0)).next 0] (jX p.gs s) (ah (ah st (.cells p.cells 0)) (.cells [.str s] 0)) (λi hi=>by
   have XS:i<p.gs.length:=(by simpa using hi);have:=alq hc p.gs[i] s (ah st (.cells p.cells 0)).next _ gS (aF _ _);simp only[Zm1];rw[this];simp[jX,XS])
 rw[Zb9]at hi;rw[acV hc 1 (r:=(.int .i64 (scan (jX p.gs s) p.gs.length 0),ah (ah st (.cells p.cells 0)) (.cells [.str s] 0))),aB (Plain.int _ _) hg.keeps];rw[afV];have e:(AV.str s).cells=[.str s]:=rfl;simp[e,hi,fD,bD]
structure Kd where
 w:List Nat
 a:Int
 b:Bool
 t:Int
 n:Bool
 lo:Int
 uJ:Bool
 f:AV
def Kd.cells(k:Kd):List AV:=[.str k.w,.int .u8 k.a,.bool k.b,.int .u8 k.t,.bool k.n,.int .i64 k.lo,.bool k.uJ,k.f]
@[simp] theorem Kd.c0(t:Kd):t.cells[0]? =some (.str t.w):=id rfl
@[simp] theorem Kd.c1(t:Kd):t.cells[1]? =some (.int .u8 t.a):=id rfl
@[simp] theorem Kd.c2(t:Kd):t.cells[2]? =some (.bool t.b):=id rfl
@[simp] theorem Kd.c3(t:Kd):t.cells[3]? =some (.int .u8 t.t):=id rfl
@[simp] theorem Kd.c4(t:Kd):t.cells[4]? =some (.bool t.n):=id rfl
@[simp] theorem Kd.c5(t:Kd):t.cells[5]? =some (.int .i64 t.lo):=id rfl
@[simp] theorem Kd.c6(t:Kd):t.cells[6]? =some (.bool t.uJ):=id rfl
@[simp] theorem Kd.cc(t:Kd):cut t.cells 0 8=some t.cells:=bP rfl
def yj(k:Kd)(r:Rl):Bool:=(decide (k.a≠0)||decide (r.a=[]))&&(k.b||decide (r.b=[]))&&(decide (k.t≠0)||decide (r.t=[]))&&(k.n||decide (r.n=0))
theorem ajy (hc:Sem c)(k:Kd)(r:Rl)(st:St)(hw:Wf st):c 152 [.agg k.cells,.agg r.cells] st=some (.bool (yj k r),st):=by
 have bX:Wf (ah st (.cells k.cells 0)):=bL hw;have ze:=Grew.ah bX (.cells r.cells 0);have hg:=(Grew.ah hw (.cells k.cells 0)).trans ze;have p1:=ze.get (aF st (.cells k.cells 0));have p2:=aF (ah st (.cells k.cells 0)) (.cells r.cells 0);rw[QW hc 1 (r:=(.bool (yj k r),ah (ah st (.cells k.cells 0)) (.cells r.cells 0))),aB (Plain.bool _) hg.keeps];rw[Uq];unfold yj;by_cases h0:k.a=0;rotate_left
 . cases  h2:k.b with
   |true=>
    by_cases h4:k.t=0;rotate_left
    .   cases h6:k.n with
        | true=>
          simp[h0,h2,h4,h6]
        | false=>
          by_cases h7:r.n=0
          .simp[h0,h2,h4,h6,h7]
          .simp[h0,h2,h4,h6,h7]
    by_cases h5:r.t=[]
    .   cases h6:k.n with
        | true=>
          simp[h0,h2,h4,h5,h6]
        | false=>
          by_cases h7:r.n=0
          .simp[h0,h2,h4,h5,h6,h7]
          .simp[h0,h2,h4,h5,h6,h7]
    .   simp[h0,h2,h4,h5]
   |false   =>
    by_cases h3:r.b=[]
    .   by_cases h4:k.t=0;rotate_left
        . cases h6:k.n with
          | true=>
            simp[h0,h2,h3,h4,h6]
          | false=>
            by_cases h7:r.n=0
            .simp[h0,h2,h3,h4,h6,h7]
            .simp[h0,h2,h3,h4,h6,h7]
        by_cases h5:r.t=[]
        . cases h6:k.n with
          | true=>
            simp[h0,h2,h3,h4,h5,h6]
          | false=>
            by_cases h7:r.n=0
            .simp[h0,h2,h3,h4,h5,h6,h7]
            .simp[h0,h2,h3,h4,h5,h6,h7]
        .simp[h0,h2,h3,h4,h5]
    .   simp[h0,h2,h3]
 by_cases h1:r.a=[]
 . cases  h2:k.b with
   |true=>
    by_cases h4:k.t=0;rotate_left
    .   cases h6:k.n with
        | true=>
          simp[h0,h1,h2,h4,h6]
        | false=>
          by_cases h7:r.n=0
          .simp[h0,h1,h2,h4,h6,h7]
          .simp[h0,h1,h2,h4,h6,h7]
    by_cases h5:r.t=[]
    .   cases h6:k.n with
        | true=>
          simp[h0,h1,h2,h4,h5,h6]
        | false=>
          by_cases h7:r.n=0
          .simp[h0,h1,h2,h4,h5,h6,h7]
          .simp[h0,h1,h2,h4,h5,h6,h7]
    .   simp[h0,h1,h2,h4,h5]
   |false   =>
    by_cases h3:r.b=[]
    .   by_cases h4:k.t=0;rotate_left
        . cases h6:k.n with
          | true=>
            simp[h0,h1,h2,h3,h4,h6]
          | false=>
            by_cases h7:r.n=0
            .simp[h0,h1,h2,h3,h4,h6,h7]
            .simp[h0,h1,h2,h3,h4,h6,h7]
        by_cases h5:r.t=[]
        . cases h6:k.n with
          | true=>
            simp[h0,h1,h2,h3,h4,h5,h6]
          | false=>
            by_cases h7:r.n=0
            .simp[h0,h1,h2,h3,h4,h5,h6,h7]
            .simp[h0,h1,h2,h3,h4,h5,h6,h7]
        .simp[h0,h1,h2,h3,h4,h5]
    .   simp[h0,h1,h2,h3]
 .simp[h0,h1]
theorem BJ{R:Type}(P:(List AV->St->Option R)->Prop){A:(List AV->St->Option R)->Option R}{T:List AV->St->Option R}{r:Option R}(hT:P T)(hA:∀j,P j->A j=r):fB A T=r:=hA T hT
theorem Pa{R:Type}(c:aq)(K:AV->St->Option R)(st:St)(es:Nat)(z:Bool)(rs:List (List AV))(k k':IntKind)(i j:Nat)(h:i<j)(h2:j<=rs.length):
  aj c (.sliceL es true true false) [ro es z rs,.int k (i:Int),.int k' (j:Int)] st K=K (ro es false ((rs.take j).drop i)) st:=by
 have:∀H n,aJ.run H n (.sliceL es true true false) [ro es z rs,.int k (i:Int),.int k' (j:Int)]=some (.val (ro es false ((rs.take j).drop i))):=λH n=>by
  rw[aeo (by intro e;subst e;simp at h2;omega)];have h3:i<=j:=by omega
  simp[aJ.run,qI,bounds,kF,eZ,eD,h3,h2,ro]
 exact bC c K this st
theorem aae(ts:List aH):∀(m k:Nat),(dW ts m k).2=0->∀i,k<=i->i<k+m->∀h:i<ts.length,mP ts[i]=0
 |0,k,_,i,h1,h2,_=>by omega
 |m +   1,k,h,i,h1,h2,hi=>by
  have hk:k<ts.length:=by omega
  rw[dW,Za0 hk]at h;simp only at h;by_cases h3:mP ts[k]=0
  . rw[Zb2 (by simp[h3])]at h;by_cases h4:0<=scan (iP ts ts[k].name) k 0
    .   rw[Zb5 h4]at h;simp at h
    .   rw[Zb2 h4]at h;by_cases e:i=k
        .subst e;exact h3
        .exact aae ts m (k+1) h i (by omega) (by omega) hi
  .rw[Zb5 h3]at h;exact absurd h h3
theorem KO{ts:List aH}(h:(bJ ts).2=0)(i:Nat)(hi:i<ts.length):mP ts[i]=0:=by
 unfold bJ at h;split at h
 .simp at h
 .exact aae ts ts.length 0 h i (by omega) (by omega) hi
theorem KP{t:aH}(h:mP t=0):(bJ [t]).2=0:=by
 simp[bJ,dW,h,scan]
def gi(p:aP)(s:List Nat):Int:=scan (jX p.gs s) p.gs.length 0
def ti(p:aP)(s:List Nat):Int:=scan (iP p.ts s) p.ts.length 0
def uK(p:aP)(i:Int):Int:=match p.ts[i.toNat]? with
 |some t=>aY t
 |none=>0
def zL(k:Kd)(r:Rl)(m:Int):Int:=if k.n=true/\(r.n<k.lo\/m<r.n)then 42 else 0
def T7(k:Kd)(p:aP)(r:Rl):Int:=
 if(k.t=116/\ti p r.t<0)\/(k.t=101/\r.t≠[]/\ti p r.t<0)then 6
 else zL k r (if k.uJ=true then uK p (ti p r.t) - 1 else 24)
def Wi(k:Kd)(p:aP)(r:Rl):Int:=
 if k.a=100/\eX r.a=false then 4 else if k.b=true/\r.a=r.b then 5 else T7 k p r
def IE(k:Kd)(p:aP)(r:Rl):Int:=
 if k.w=[]then 40 else if r.wt<0\/1000<r.wt then 41 else if yj k r=false then 43
 else if(k.a=103/\gi p r.a<0)\/(k.a=101/\r.a≠[]/\gi p r.a<0)\/(k.b=true/\gi p r.b<0)then 6
 else Wi k p r
theorem ahs (hc : Sem c)(k:Kd)(hk:k.uJ=true->k.t=116)(p:aP)(hp:p.ew)(hv:(bJ p.ts).2=0)(r:Rl)(st:St)(hw:Wf st):
   c 75 [.agg k.cells,.agg p.cells,.agg r.cells] st=some (.int .i64 (IE k p r),st):=by
 have bX:Wf (ah st (.cells k.cells 0)):=bL hw;have gS:=bL (b:= .cells p.cells 0) bX;have hg3:=Grew.ah gS (.cells r.cells 0);have ze:=Grew.ah bX (.cells p.cells 0);have hg:=((Grew.ah hw (.cells k.cells 0)).trans ze).trans hg3;have hw3:=hg.wf;have p1:=hg3.get (ze.get (aF st (.cells k.cells 0)));have p2:=hg3.get (aF (ah st (.cells k.cells 0)) (.cells p.cells 0));have p3:=aF (ah (ah st (.cells k.cells 0)) (.cells p.cells 0)) (.cells r.cells 0);have A:=λs=>amy hc p hp s _ hw3
 have B:=ajy hc k r _ hw3;have D:=ali hc p.tz p.ts hp.ok (by have:=hp.ts;unfold cC;omega) r.t _ hw3;have N:=acz hc r.a (ah (ah (ah st (.cells k.cells 0)) (.cells p.cells 0)) (.cells r.cells 0));rw[QX hc 1 (r:=(.int .i64 (IE k p r),ah (ah (ah st (.cells k.cells 0)) (.cells p.cells 0)) (.cells r.cells 0))),aB (Plain.int _ _) hg.keeps];rw[Ur];simp only[dw,ai,AV.cells];generalize ah (ah (ah st (.cells k.cells 0)) (.cells p.cells 0)) (.cells r.cells 0)=s at*
 generalize (ah (ah st (.cells k.cells 0)) (.cells p.cells 0)).next=q3 at*
 generalize (ah st (.cells k.cells 0)).next=q2 at*
 generalize st.next=q1 at*
 refine BJ (P:=λj=>j [.ptr q1 0,.ptr q2 0,.ptr q3 0] s=some (.int .i64 (T7 k p r),s)) ?_ ?_
 . have D2  : c 155 [tabs p.tz p.ts,.str r.t] s=some (.tuple [.int .i64 (if 0<=ti p r.t then ti p r.t else 0),.bool (decide (0<=ti p r.t))],s):=(by simp only[hv,Zm4]at D;exact D);have hit:=Iw (P:=iP p.ts r.t) p.ts.length 0;clear D A B N hg ze hg3 hw bX gS;unfold T7;by_cases ht:0<=ti p r.t
   . have IF  : ¬ ti p r.t<0:=(by omega);obtain⟨i,hi⟩:∃i:Nat,ti p r.t=(i:Int):=⟨(ti p r.t).toNat,by omega⟩
     have fN:i<p.ts.length:=(by have:=(hit ht).2.1;unfold ti at hi;rw[hi]at this;simpa using this);simp only[ht,Zg7,Zh8]at D2;by_cases h1:k.t=116
     .  simp[ p1,p2,p3,D2,h1,IF];refine BJ (P:=λj=>∀m,j [.ptr q1 0,.ptr q3 0,.int .i64 m] s=some (.int .i64 (zL k r m),s)) ?_ ?_
        . intro m;unfold zL;cases hn:k.n with
          |false=>simp[p1,hn]
          | true=>
            by_cases e1:r.n<k.lo
            .simp[p1,p3,hn,e1]
            . by_cases e2:m<r.n
              .simp[p1,p3,hn,e1,e2]
              .simp[p1,p3,hn,e1,e2]
        . intro j hj;cases hs:k.uJ with
          |false=>simp[p1,hs,hj]
          | true=>
            have w:az .i64 ((i:Int)+1)=(i:Int)+1:=(by have:=hp.ts;exact wrap64 (by omega) (by omega));have cnt:=Iy hc false [p.ts[i]] (λt ht=>by simp only[Zf1]at ht;subst ht;exact hp.ok _ (Zc0 fN)) s hw3;rw[Zb5 (KP (KO hv i fN)),show cm [p.ts[i]]=aY p.ts[i]by simp[cm]]at cnt;have b:=jJ p.ts[i];have w2:az .i64 (aY p.ts[i] - 1)=aY p.ts[i] - 1:=wrap64 (by omega) (by omega);have hcut:∀K:AV->St->Option (AV×St),aj c (.sliceL 7 true true false) [tabs p.tz p.ts,.int .i64 (i:Int),.int .i64 ((i:Int)+1)] s K=K (tabs false [p.ts[i]]) s:=λK=>by
              (unfold tabs;have:=Pa c K s 7 p.tz (p.ts.map aH.cells) .i64 .i64 i (i+1) (by omega) (by rw[Zb9];omega);rw[show((i:Int)+1)=((i+1:Nat):Int)by omega,this];have e:((p.ts.map aH.cells).take (i+1)).drop i=[p.ts[i]].map aH.cells:=by rw[Zb8 (by simpa using fN),Zh4 (by simp;omega)];simp);rw[e]
            have e3:uK p (i:Int)=aY p.ts[i]:=(by simp[uK,fN]);simp[p1,p2,hs,hi,e3,w,hcut,cnt,hj,w2]
     .  by_cases h2 :k.t=101
        . by_cases h3:r.t=[]
          . simp only[h3]at D2 IF hi;simp[p1,p2,p3,D2,h1,h2,h3,IF];refine BJ (P:=λj=>∀m,j [.ptr q1 0,.ptr q3 0,.int .i64 m] s=some (.int .i64 (zL k r m),s)) ?_ ?_
            . intro m;unfold zL;cases hn:k.n with
              |false=>simp[p1,hn]
              | true=>
                by_cases e1:r.n<k.lo
                .simp[p1,p3,hn,e1]
                . by_cases e2:m<r.n
                  .simp[p1,p3,hn,e1,e2]
                  .simp[p1,p3,hn,e1,e2]
            . intro j hj;cases hs:k.uJ with
              |false=>simp[p1,hs,hj]
              | true=>
                have w:az .i64 ((i:Int)+1)=(i:Int)+1:=(by have:=hp.ts;exact wrap64 (by omega) (by omega));have cnt:=Iy hc false [p.ts[i]] (λt ht=>by simp only[Zf1]at ht;subst ht;exact hp.ok _ (Zc0 fN)) s hw3;rw[Zb5 (KP (KO hv i fN)),show cm [p.ts[i]]=aY p.ts[i]by simp[cm]]at cnt;have b:=jJ p.ts[i];have w2:az .i64 (aY p.ts[i] - 1)=aY p.ts[i] - 1:=wrap64 (by omega) (by omega);have hcut:∀K:AV->St->Option (AV×St),aj c (.sliceL 7 true true false) [tabs p.tz p.ts,.int .i64 (i:Int),.int .i64 ((i:Int)+1)] s K=K (tabs false [p.ts[i]]) s:=λK=>by
                  (unfold tabs;have:=Pa c K s 7 p.tz (p.ts.map aH.cells) .i64 .i64 i (i+1) (by omega) (by rw[Zb9];omega);rw[show((i:Int)+1)=((i+1:Nat):Int)by omega,this];have e:((p.ts.map aH.cells).take (i+1)).drop i=[p.ts[i]].map aH.cells:=by rw[Zb8 (by simpa using fN),Zh4 (by simp;omega)];simp);rw[e]
                have e3:uK p (i:Int)=aY p.ts[i]:=(by simp[uK,fN]);simp[p1,p2,hs,hi,e3,w,hcut,cnt,hj,w2]
          . simp[ p1,p2,p3,D2,h1,h2,h3,IF];refine BJ (P:=λj=>∀m,j [.ptr q1 0,.ptr q3 0,.int .i64 m] s=some (.int .i64 (zL k r m),s)) ?_ ?_
            . intro m;unfold zL;cases hn:k.n with
              |false=>simp[p1,hn]
              | true=>
                by_cases e1:r.n<k.lo
                .simp[p1,p3,hn,e1]
                . by_cases e2:m<r.n
                  .simp[p1,p3,hn,e1,e2]
                  .simp[p1,p3,hn,e1,e2]
            . intro j hj;cases hs:k.uJ with
              |false=>simp[p1,hs,hj]
              | true=>
                have w:az .i64 ((i:Int)+1)=(i:Int)+1:=(by have:=hp.ts;exact wrap64 (by omega) (by omega));have cnt:=Iy hc false [p.ts[i]] (λt ht=>by simp only[Zf1]at ht;subst ht;exact hp.ok _ (Zc0 fN)) s hw3;rw[Zb5 (KP (KO hv i fN)),show cm [p.ts[i]]=aY p.ts[i]by simp[cm]]at cnt;have b:=jJ p.ts[i];have w2:az .i64 (aY p.ts[i] - 1)=aY p.ts[i] - 1:=wrap64 (by omega) (by omega);have hcut:∀K:AV->St->Option (AV×St),aj c (.sliceL 7 true true false) [tabs p.tz p.ts,.int .i64 (i:Int),.int .i64 ((i:Int)+1)] s K=K (tabs false [p.ts[i]]) s:=λK=>by
                  (unfold tabs;have:=Pa c K s 7 p.tz (p.ts.map aH.cells) .i64 .i64 i (i+1) (by omega) (by rw[Zb9];omega);rw[show((i:Int)+1)=((i+1:Nat):Int)by omega,this];have e:((p.ts.map aH.cells).take (i+1)).drop i=[p.ts[i]].map aH.cells:=by rw[Zb8 (by simpa using fN),Zh4 (by simp;omega)];simp);rw[e]
                have e3:uK p (i:Int)=aY p.ts[i]:=(by simp[uK,fN]);simp[p1,p2,hs,hi,e3,w,hcut,cnt,hj,w2]
        . simp[ p1,p2,p3,D2,h1,h2,IF];refine BJ (P:=λj=>∀m,j [.ptr q1 0,.ptr q3 0,.int .i64 m] s=some (.int .i64 (zL k r m),s)) ?_ ?_
          . intro m;unfold zL;cases hn:k.n with
            |false=>simp[p1,hn]
            | true=>
              by_cases e1:r.n<k.lo
              .simp[p1,p3,hn,e1]
              . by_cases e2:m<r.n
                .simp[p1,p3,hn,e1,e2]
                .simp[p1,p3,hn,e1,e2]
          . intro j hj;cases hs:k.uJ with
            |false=>simp[p1,hs,hj]
            | true=>
              have w:az .i64 ((i:Int)+1)=(i:Int)+1:=(by have:=hp.ts;exact wrap64 (by omega) (by omega));have cnt:=Iy hc false [p.ts[i]] (λt ht=>by simp only[Zf1]at ht;subst ht;exact hp.ok _ (Zc0 fN)) s hw3;rw[Zb5 (KP (KO hv i fN)),show cm [p.ts[i]]=aY p.ts[i]by simp[cm]]at cnt;have b:=jJ p.ts[i];have w2:az .i64 (aY p.ts[i] - 1)=aY p.ts[i] - 1:=wrap64 (by omega) (by omega);have hcut:∀K:AV->St->Option (AV×St),aj c (.sliceL 7 true true false) [tabs p.tz p.ts,.int .i64 (i:Int),.int .i64 ((i:Int)+1)] s K=K (tabs false [p.ts[i]]) s:=λK=>by
                (unfold tabs;have:=Pa c K s 7 p.tz (p.ts.map aH.cells) .i64 .i64 i (i+1) (by omega) (by rw[Zb9];omega);rw[show((i:Int)+1)=((i+1:Nat):Int)by omega,this];have e:((p.ts.map aH.cells).take (i+1)).drop i=[p.ts[i]].map aH.cells:=by rw[Zb8 (by simpa using fN),Zh4 (by simp;omega)];simp);rw[e]
              have e3:uK p (i:Int)=aY p.ts[i]:=(by simp[uK,fN]);simp[p1,p2,hs,hi,e3,w,hcut,cnt,hj,w2]
   . have IF  : ti p r.t<0:=(by omega);simp only[ht,Ze8,Zf6]at D2;by_cases h1:k.t=116
     .  simp[p1,p2,p3,D2,h1,IF]
     .  by_cases h2:k.t=101
        . by_cases h3:r.t=[]
          . simp only[h3]at D2 IF;simp[p1,p2,p3,D2,h1,h2,h3,IF];refine BJ (P:=λj=>∀m,j [.ptr q1 0,.ptr q3 0,.int .i64 m] s=some (.int .i64 (zL k r m),s)) ?_ ?_
            . intro m;unfold zL;cases hn:k.n with
              |false=>simp[p1,hn]
              | true=>
                by_cases e1:r.n<k.lo
                .simp[p1,p3,hn,e1]
                . by_cases e2:m<r.n
                  .simp[p1,p3,hn,e1,e2]
                  .simp[p1,p3,hn,e1,e2]
            . intro j hj;have hs:k.uJ=false:=by
                cases h:k.uJ with
                |false=>rfl
                |true=>exact absurd (hk h) h1
              simp[p1,hs,hj]
          .simp[p1,p2,p3,D2,h1,h2,h3,IF]
        . simp[ p1,p2,p3,D2,h1,h2,IF];refine BJ (P:=λj=>∀m,j [.ptr q1 0,.ptr q3 0,.int .i64 m] s=some (.int .i64 (zL k r m),s)) ?_ ?_
          . intro m;unfold zL;cases hn:k.n with
            |false=>simp[p1,hn]
            | true=>
              by_cases e1:r.n<k.lo
              .simp[p1,p3,hn,e1]
              . by_cases e2:m<r.n
                .simp[p1,p3,hn,e1,e2]
                .simp[p1,p3,hn,e1,e2]
          . intro j hj;have hs:k.uJ=false:=by
              cases h:k.uJ with
              |false=>rfl
              |true=>exact absurd (hk h) h1
            simp[p1,hs,hj]
 . intro  j hj;have A2:∀nm,c 153 [.agg p.cells,.str nm] s=some (.int .i64 (gi p nm),s):=A;have cc:cut r.cells 0 6=some r.cells:=bP rfl;clear A D hg ze hg3 hw bX gS;unfold IE;by_cases h0:k.w=[]
   .simp[p1,h0]
   by_cases h1:r.wt<0
   .simp[p1,p3,h0,h1]
   by_cases h2:1000<r.wt
   .simp[p1,p3,h0,h1,h2]
   cases h3:yj k r with
   |false=>simp[p1,p3,h0,h1,h2,B,h3]
   |true=>
   simp[p1,p3,h0,h1,h2,B,h3];refine BJ (P:=λj'=>∀b:Bool,j' [.ptr q1 0,.ptr q2 0,.ptr q3 0,.bool b] s=some (.int .i64 (if b=true then 6 else Wi k p r),s)) ?_ ?_
   . intro  b;cases b with
     |true=>simp
     |  false =>
        unfold Wi;by_cases a1:k.a=100
        . cases a2:eX r.a with
          |false=>simp[p1,p3,a1,a2,N]
          | true=>
            cases b1:k.b with
            |false=>simp[p1,p3,a1,a2,N,b1,hj]
            | true=>
              by_cases b2:r.a=r.b
              .rw[b2]at a2 N;simp[p1,p3,a1,a2,N,b1,b2]
              .simp[p1,p3,a1,a2,N,b1,b2,hj]
        . cases b1:k.b with
          |false=>simp[p1,p3,a1,b1,hj]
          | true=>
            by_cases b2:r.a=r.b
            .simp[p1,p3,a1,b1,b2]
            .simp[p1,p3,a1,b1,b2,hj]
   . intro  j' J8;have K6:=J8 true;have K0:=J8 false;simp only[Zg7,Zd3,Ze8]at K6 K0;clear J8 hj;by_cases a1:k.a=103
     .  by_cases g1:gi p r.a<0
        .simp[p1,p2,p3,a1,A2,g1,K6]
        . cases b1:k.b with
          |false=>simp[p1,p2,p3,a1,A2,g1,b1,K0]
          | true=>
            by_cases g2:gi p r.b<0
            .simp[p1,p2,p3,a1,A2,g1,g2,b1,K6]
            .simp[p1,p2,p3,a1,A2,g1,g2,b1,K0]
     .  by_cases a2:k.a=101
        . by_cases e:r.a=[]
          . cases b1:k.b with
            |false=>simp[p1,p2,p3,a1,a2,e,A2,b1,K0]
            | true=>
              by_cases g2:gi p r.b<0
              .simp[p1,p2,p3,a1,a2,e,A2,g2,b1,K6]
              .simp[p1,p2,p3,a1,a2,e,A2,g2,b1,K0]
          . by_cases g1:gi p r.a<0
            .simp[p1,p2,p3,a1,a2,e,A2,g1,K6]
            . cases b1:k.b with
              |false=>simp[p1,p2,p3,a1,a2,e,A2,g1,b1,K0]
              | true=>
                by_cases g2:gi p r.b<0
                .simp[p1,p2,p3,a1,a2,e,A2,g1,g2,b1,K6]
                .simp[p1,p2,p3,a1,a2,e,A2,g1,g2,b1,K0]
        . cases b1:k.b with
          |false=>simp[p1,p2,p3,a1,a2,A2,b1,K0]
          | true=>
            by_cases g2:gi p r.b<0
            .simp[p1,p2,p3,a1,a2,A2,g2,b1,K6]
            .simp[p1,p2,p3,a1,a2,A2,g2,b1,K0]
theorem afW(hc:Sem c)(z z2:Bool)(gs:List aS)(ts:List Ty)(hl:gs.length<=100)(p:Pos)(st:St)(hw:Wf st)(hp:st.heap.get p=some (.cells [bD z gs,cj z2 ts] 0))(F:Nat)(k1 k2):∀(m k:Nat),gs.length<=k+m->k<=gs.length->
  iR c F k1 k2 (m+1) [.ptr p 0,.int .i64 (k:Int)] st=if(iq gs m k).2=0 then k2 [.ptr p 0] st else k1 [.int .i64 (iq gs m k).1,.int .i64 (iq gs m k).2] st:=by
 intro m;induction m with
 |zero=>
  intro k h1 h2;obtain rfl:k=gs.length:=by omega
  rw[uj];simp[iq,hp]
 |succ m ih=>
  intro k h1 h2;rw[uj];by_cases h:k<gs.length
  . have w:az .i64 ((k:Int)+1)=((k+1:Nat):Int):=wrap64 (by omega) (by omega);have hch:=acL hc gs[k] st hw;have rU:k<=gs.length:=(by omega);have hm:min k gs.length=k:=(by omega);have UW:=XX hc (z&&gs.isEmpty) (gs.take k) gs[k].name (by unfold cC;simp;omega) st;rw[show(gs.take k).length=k by simp;omega,acN rU]at UW;simp only[bD,Zo6]at UW;rw[iq,Za0 h];simp only;by_cases h3:fe gs[k]=0
    .   have e3:¬fe gs[k]≠0:=(by rw[h3];simp);by_cases h4:0<=scan (jX gs gs[k].name) k 0
        .simp only[e3,h4,Ze8,Zg7];simp[bD,hp,h,rU,hch,h3,h4,UW]
        . by_cases h5:64<=k
          .have h6:(64:Int)<=k:=(by omega);simp only[e3,h4,h5,Ze8,Zg7];simp[bD,hp,h,rU,hch,h3,h4,h6,UW]
          .have h6:¬(64:Int)<=k:=(by omega);simp only[e3,h4,h5,Ze8];rw[<-ih (k+1) (by omega) (by omega)];simp[bD,hp,h,rU,hch,h3,h4,h6,UW,w]
    .   simp[bD,hp,h,hch,h3]
  .obtain rfl:k=gs.length:=(by omega);simp[iq,hp]
theorem afX (hc : Sem c)(z z2:Bool)(gs:List aS)(ts:List Ty)(hl:gs.length<=100)(gx:ts.length<=100)(p:Pos)(F:Nat)(k1 k4):∀(m k:Nat)(st:St),Wf st->st.heap.get p=some (.cells [bD z gs,cj z2 ts] 0)->ts.length<=k+m->k<=ts.length->
  ∃st',Grew st st'/\iT c F k1 k4 (m+1) [.ptr p 0,.int .i64 (k:Int)] st=if(fT gs ts m k).2=0 then k4 [] st' else k1 [.int .i64 (fT gs ts m k).1,.int .i64 (fT gs ts m k).2] st':=by
 intro m;induction m with
 |zero=>
  intro k st hw hp h1 h2;obtain rfl:k=ts.length:=by omega
  refine⟨st,Grew.refl hw,?_⟩;rw[ny];simp[fT,hp]
 |succ m ih   =>
  intro k st hw hp h1 h2;by_cases h:k<ts.length
  . have w:az     .i64 ((k:Int)+1)=((k+1:Nat):Int):=wrap64 (by omega) (by omega);have wg:az .i64 ((gs.length:Int)+(k:Int))=(gs.length:Int)+k:=wrap64 (by omega) (by omega);have bX:Wf (ah st (.cells ts[k].cells 0)):=bL hw;have hg:=Grew.ah hw (.cells ts[k].cells 0);have fD:(ah st (.cells ts[k].cells 0)).heap.get p=some (.cells [bD z gs,cj z2 ts] 0):=hg.get hp;have ha:=XX hc z gs ts[k].a (by unfold cC;omega) (ah st (.cells ts[k].cells 0));have hb:=XX hc z gs ts[k].b (by unfold cC;omega) (ah st (.cells ts[k].cells 0));have Zc:¬256<=k:=(by omega);have Pb:¬(256:Int)<=k:=(by omega);obtain⟨st',g1,g2⟩:=ih (k+1) _ bX fD (by omega) (by omega);have hkt:Fg ts[k]=true->(ts[k].k=1\/(¬ts[k].k=1/\ts[k].k=2)):=λq=>by
        simp only[Fg,Zg5,Zd1]at q;by_cases e:ts[k].k=1
        .exact .inl e
        .exact .inr ⟨e,q.resolve_left e⟩
    have hkf:Fg ts[k]=false->(¬ts[k].k=1/\¬ts[k].k=2):=λq=>by simpa [Fg]using q
    rw[ny,fT,Za0 h];simp only;by_cases h0:k=0
    .   have hk :¬0<k:=(by omega);have ep:nW ts k=none:=(by simp[nW,h0]);rw[ep];clear h0 ih;simp only[T6,sw,Zh0,Zd3,Ze8,Zc];cases q1:Fg ts[k]
        .obtain⟨f1,f2⟩:=hkf q1;refine⟨_,hg,?_⟩;simp[cj,hp,fD,h,wg,f1,f2]
        . have f:=hkt q1;cases q2:aL ts[k].a ts[k].b
          .refine⟨_,hg,?_⟩;rcases f with f|⟨f,f2⟩<;>simp[cj,hp,fD,h,wg,q2, *]
          . cases q3:mD gs ts[k]
            .have q4:=q3;simp only[mD,Zp3,Zi2]at q4;obtain⟨n1,n2⟩:=q4;refine⟨st',hg.trans g1,?_⟩;simp only[q1,q2,Zf8,Zh0,Zd3,Ze8];rw[<-g2];rcases f with f|⟨f,f2⟩<;>simp[cj,hp,fD,h,wg,q2,ha,hb,n1,n2,hk,Pb,w, *]
            . refine⟨_,hg,?_⟩;by_cases n1:scan (jX gs ts[k].a) gs.length 0<0
              .rcases f with f|⟨f,f2⟩<;>simp[cj,hp,fD,h,wg,q2,ha,hb,n1,hk,Pb,w, *]
              .have n2:scan (jX gs ts[k].b) gs.length 0<0:=(by simpa [mD,n1]using q3);rcases f with f|⟨f,f2⟩<;>simp[cj,hp,fD,h,wg,q2,ha,hb,n1,n2,hk,Pb,w, *]
    .   have hk : 0<k:=(by omega);have sQ:k - 1<ts.length:=(by omega);have wk:az .i64 ((k:Int) - 1)=((k - 1:Nat):Int):=(by rw[wrap64 (by omega) (by omega)];omega);have ep:nW ts k=some ts[k - 1]:=(by rw[nW,Zb2 h0,Za0 sQ]);have b1:=aac hc ts[k] ts[k - 1] (ah st (.cells ts[k].cells 0)) bX;have b2:=aac hc ts[k - 1] ts[k] (ah st (.cells ts[k].cells 0)) bX;rw[ep];clear ih;simp only[T6,sw,Zc,Ze8];cases q1:Fg ts[k]
        .obtain⟨f1,f2⟩:=hkf q1;refine⟨_,hg,?_⟩;simp[cj,hp,fD,h,wg,f1,f2]
        . have f:=hkt q1;cases q2:aL ts[k].a ts[k].b
          .refine⟨_,hg,?_⟩;rcases f with f|⟨f,f2⟩<;>simp[cj,hp,fD,h,wg,q2, *]
          . cases q5:fI ts[k] ts[k - 1]
            . cases q3:mD gs ts[k]
              . have q4:=q3;simp only[mD,Zp3,Zi2]at q4;obtain⟨n1,n2⟩:=q4;cases q6:fI ts[k - 1] ts[k]
                .refine⟨_,hg,?_⟩;rcases f with f|⟨f,f2⟩<;>simp[cj,hp,fD,h,wg,q2,ha,hb,n1,n2,hk,sQ,wk,b1,b2,Pb,w, *]
                .refine⟨st',hg.trans g1,?_⟩;simp only[q1,q2,q5,Zf8,Zd3,Ze8,Zh0];rw[<-g2];rcases f with f|⟨f,f2⟩<;>simp[cj,hp,fD,h,wg,q2,ha,hb,n1,n2,hk,sQ,wk,b1,b2,Pb,w, *]
              . refine⟨_,hg,?_⟩;by_cases n1:scan (jX gs ts[k].a) gs.length 0<0
                .rcases f with f|⟨f,f2⟩<;>simp[cj,hp,fD,h,wg,q2,ha,hb,n1,hk,sQ,wk,b1,b2,Pb,w, *]
                .have n2:scan (jX gs ts[k].b) gs.length 0<0:=(by simpa [mD,n1]using q3);rcases f with f|⟨f,f2⟩<;>simp[cj,hp,fD,h,wg,q2,ha,hb,n1,n2,hk,sQ,wk,b1,b2,Pb,w, *]
            .refine⟨_,hg,?_⟩;rcases f with f|⟨f,f2⟩<;>simp[cj,hp,fD,h,wg,q2,hk,sQ,wk,b1,b2, *]
  .obtain rfl:k=ts.length:=(by omega);refine⟨st,Grew.refl hw,?_⟩;rw[ny];simp[fT,hp]
theorem afY(hc:Sem c)(z z2:Bool)(gs:List aS)(ts:List Ty)(hl:gs.length<=100)(gx:ts.length<=100)(st:St)(hw:Wf st):c 140 [.agg [bD z gs,cj z2 ts]] st=some (.tuple [.int .i64 (bW gs ts).1,.int .i64 (bW gs ts).2],st):=by
 have oZ:Plain (.tuple [.int .i64 (bW gs ts).1,.int .i64 (bW gs ts).2]):=Plain.tuple (by simp[Plain.int]);have bX:Wf (ah st (.cells [bD z gs,cj z2 ts] 0)):=bL hw;have KM:=Grew.ah hw (.cells [bD z gs,cj z2 ts] 0);have fD:(ah st (.cells [bD z gs,cj z2 ts] 0)).heap.get st.next=some (.cells [bD z gs,cj z2 ts] 0):=aF _ _;have L0:=λk1 k2=>afW hc z z2 gs ts hl st.next _ bX fD 102 k1 k2 101 0 (by omega) (by omega)
 by_cases h:(iq gs 101 0).2=0
 . have e:bW gs ts=fT gs ts 101 0:=(by rw[bW,Zb2 (by simp[h])]);obtain⟨st',g1,g2⟩:=afX hc z z2 gs ts hl gx st.next 102 (λvs ajz=>eP vs λx2 vs=>eP vs λx3 vs=>iD vs (some (.tuple [x2,x3],ajz))) (λvs ajA=>iD vs (
     aj c .move [(.int .i64 0)] ajA λx2 ajB=>aj c .move [(.int .i64 0)] ajB λx3 ajC=>some (.tuple [x2,x3],ajC))) 101 0 _ bX fD (by omega) (by omega)
   rw[vD hc 102 (r:=(.tuple [.int .i64 (bW gs ts).1,.int .i64 (bW gs ts).2],st')),aB oZ (KM.trans g1).keeps];rw[yl,e];simp[h]at L0 g2 ⊢;rw[L0];simp[g2];by_cases h2:(fT gs ts 101 0).2=0
   .have:=O0 gs ts 101 0 h2;simp[h2,this]
   .simp[h2]
 .have e:bW gs ts=iq gs 101 0:=(by rw[bW,Zb5 h]);rw[vD hc 102 (r:=(.tuple [.int .i64 (bW gs ts).1,.int .i64 (bW gs ts).2],ah st (.cells [bD z gs,cj z2 ts] 0))),aB oZ KM.keeps];rw[yl,e];simp[h]at L0 ⊢;rw[L0];simp
theorem acW(hc:Sem c)(z z2:Bool)(gs:List aS)(ts:List Ty)(hl:gs.length<=100)(gx:ts.length<=100)(s:St)(hw:Wf s):c 151 [.agg [bD z gs,cj z2 ts]] s=some (.tuple [.int .i64 (bW gs ts).1,.int .i64 (bW gs ts).2],s):=by
 have DY:Wf (ah s (.cells [bD z gs,cj z2 ts] 0)):=bL hw;obtain⟨v,s',h1,h2,_⟩:=Zd hc z z2 gs ts hl gx _ DY;have hcc:cut [bD z gs,cj z2 ts] 0 2=some [bD z gs,cj z2 ts]:=bP rfl;rw[QY hc 1 (r:=(.tuple [.int .i64 (bW gs ts).1,.int .i64 (bW gs ts).2],s')),aB (Plain.tuple (by simp[Plain.int])) ((bE hw).trans h2)];rw[Ut];simp[hcc,h1]
theorem pq(hc:Sem c){p:aP}(hp:p.ew):mI c p:=⟨λst hw=>acW hc p.gz p.yz p.gs p.ys hp.gs hp.ys st hw,λst hw=>afY hc p.gz p.yz p.gs p.ys hp.gs hp.ys st hw⟩
end
end Go.Proofs.YtngcejgciomphaaGreatDoor
