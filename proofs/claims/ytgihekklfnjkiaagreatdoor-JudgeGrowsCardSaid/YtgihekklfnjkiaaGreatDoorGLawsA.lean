/- What the checks answer. -/
import Derived.Test.YtgihekklfnjkiaaGreatDoorGPlainA
set_option linter.all false
set_option linter.unusedSectionVars false
set_option linter.deprecated false
namespace Go.Proofs.YtgihekklfnjkiaaGreatDoor
section
set_option maxRecDepth 100000
open Go Go.Ai Go.Proofs
variable{c : aj}
def oF(s:List Nat):Bool:=decide (1<=s.length)&&decide (s.length<=12)&&s.all λc=>decide (97<=c/\c<=122)
structure aD where
 name:List Nat
 sh:Int
 a:Int
 b:Int
 oz:Bool
 kA:List Int
 x:Int
 y:Int
def ints(z:Bool)(l:List Int):AV:=ro 1 z (l.map λi=>[.int .i64 i])
def aD.cells(t:aD):List AV:=[.str t.name,.int .u8 t.sh,.int .i64 t.a,.int .i64 t.b,ints t.oz t.kA,.int .i64 t.x,.int .i64 t.y]
theorem acv(z:Bool)(l:List Int):Plain (ints z l):=Plain.ro λcs h v hv=>by simp only[Zd0]at h;obtain⟨i,_,rfl⟩:=h;simp only[Zh9]at hv;subst hv;exact Plain.int _ _
@[simp] theorem ap4(z:Bool)(l:List Int):(ints z l).one=true:=amU _ _ _
def bI(t:aD):Int:=
 if t.sh=1 then(if 1<=t.a/\t.a<=24/\t.b=0 then t.a else 0)
 else if t.sh=2 then(if 1<=t.a/\t.a<=11/\0<=t.b/\t.b<=2 then 2*t.a+t.b else 0)
 else if t.sh=3 then(if 1<=t.a/\t.a<=8/\1<=t.b/\t.b<=8 then t.a+2*t.b else 0)
 else if t.sh=4 then(if 1<=t.a/\t.a<=24/\0<=t.b/\t.b<=t.a then t.a else 0)
 else 0
theorem afx(hc:Sem c)(a b:Int)(st:St):c 204 [.int .i64 a,.int .i64 b] st=some (.int .i64 (if 1<=a/\a<=24/\b=0 then a else 0),st):=by
 rw[UP hc 1 (r:=(.int .i64 (if 1<=a/\a<=24/\b=0 then a else 0),st)),aE (Plain.int _ _) (aW.refl st)];rw[Y6];by_cases h1:a<1
 . have:¬1<=a:=(by omega);simp[h1,this]
 . by_cases h2:24<a
   . have:¬a<=24:=(by omega);simp[h1,h2,this]
   . have h3:1<=a:=(by omega);have h4:a<=24:=(by omega);by_cases h5:b=0<;>simp[h1,h2,h3,h4,h5]
theorem ahM(hc:Sem c)(a b:Int)(st:St):c 209 [.int .i64 a,.int .i64 b] st=some (.int .i64 (if 1<=a/\a<=11/\0<=b/\b<=2 then 2*a+b else 0),st):=by
 rw[WW hc 1 (r:=(.int .i64 (if 1<=a/\a<=11/\0<=b/\b<=2 then 2*a+b else 0),st)),aE (Plain.int _ _) (aW.refl st)];rw[abb];by_cases h1:a<1
 . have:¬1<=a:=(by omega);simp[h1,this]
 by_cases h2:11<a
 . have:¬a<=11:=(by omega);simp[h1,h2,this]
 by_cases h3:b<0
 . have:¬0<=b:=(by omega);simp[h1,h2,h3,this]
 by_cases h4:2<b
 . have:¬b<=2:=(by omega);simp[h1,h2,h3,h4,this]
 have h5:1<=a:=by omega
 have h6:a<=11:=by omega
 have h7:0<=b:=by omega
 have h8:b<=2:=by omega
 have w1:av .i64 (2*a)=2*a:=wrap64 (by omega) (by omega);have w2:av .i64 (2*a+b)=2*a+b:=wrap64 (by omega) (by omega);simp[h1,h2,h3,h4,h5,h6,h7,h8,w1,w2]
theorem ahN(hc:Sem c)(a b:Int)(st:St):c 214 [.int .i64 a,.int .i64 b] st=some (.int .i64 (if 1<=a/\a<=8/\1<=b/\b<=8 then a+2*b else 0),st):=by
 rw[WY hc 1 (r:=(.int .i64 (if 1<=a/\a<=8/\1<=b/\b<=8 then a+2*b else 0),st)),aE (Plain.int _ _) (aW.refl st)];rw[abc];by_cases h1:a<1
 . have:¬1<=a:=(by omega);simp[h1,this]
 by_cases h2:8<a
 . have:¬a<=8:=(by omega);simp[h1,h2,this]
 by_cases h3:b<1
 . have:¬1<=b:=(by omega);simp[h1,h2,h3,this]
 by_cases h4:8<b
 . have:¬b<=8:=(by omega);simp[h1,h2,h3,h4,this]
 have h5:1<=a:=by omega
 have h6:a<=8:=by omega
 have h7:1<=b:=by omega
 have h8:b<=8:=by omega
 have w1:av .i64 (2*b)=2*b:=wrap64 (by omega) (by omega);have w2:av .i64 (a+2*b)=a+2*b:=wrap64 (by omega) (by omega);simp[h1,h2,h3,h4,h5,h6,h7,h8,w1,w2]
theorem ai8(hc:Sem c)(a b:Int)(st:St):c 219 [.int .i64 a,.int .i64 b] st=some (.int .i64 (if 1<=a/\a<=24/\0<=b/\b<=a then a else 0),st):=by
 rw[Y7 hc 1 (r:=(.int .i64 (if 1<=a/\a<=24/\0<=b/\b<=a then a else 0),st)),aE (Plain.int _ _) (aW.refl st)];rw[acw];by_cases h1:a<1
 . have:¬1<=a:=(by omega);simp[h1,this]
 by_cases h2:24<a
 . have:¬a<=24:=(by omega);simp[h1,h2,this]
 by_cases h3:b<0
 . have:¬0<=b:=(by omega);simp[h1,h2,h3,this]
 by_cases h4:a<b
 . have:¬b<=a:=(by omega);simp[h1,h2,h3,h4,this]
 have h5:1<=a:=by omega
 have h6:a<=24:=by omega
 have h7:0<=b:=by omega
 have h8:b<=a:=by omega
 simp[h1,h2,h3,h4,h5,h6,h7,h8]
def ij(sh:Int):List AV:=
 if sh=1 then [.str [114,111,117,110,100],.func 204 [] [],.func 205 [] [],.func 206 [] [],.func 207 [] [],.func 208 [] []]
 else if sh=2 then [.str [108,111,110,103],.func 209 [] [],.func 210 [] [],.func 211 [] [],.func 212 [] [],.func 213 [] []]
 else if sh=3 then [.str [104,111,114,115,101,115,104,111,101],.func 214 [] [],.func 215 [] [],.func 216 [] [],.func 217 [] [],.func 218 [] []]
 else if sh=4 then [.str [114,111,119],.func 219 [] [],.func 220 [] [],.func 221 [] [],.func 222 [] [],.func 223 [] []]
 else [.str [],.jO,.jO,.jO,.jO,.jO]
theorem plain_fn(f:Nat):Plain (.func f [] []):=Plain.func f (by simp) (by simp)
theorem anB(sh:Int):∀v∈ij sh,Plain v:=by
 unfold ij;intro v hv
 repeat' split at hv
 all_goals
  simp only[Zb0,Zc5,Zf2]at hv;rcases hv with rfl|rfl|rfl|rfl|rfl|rfl<;>first|exact Plain.str _|exact Plain.jO|exact plain_fn _
theorem fM(hc:Sem c)(sh:Int)(st:St)(hw:Wf st):c 180 [.int .u8 sh] st=some (.tuple [.agg (ij sh),.bool (decide (1<=sh/\sh<=4))],st):=by
 have hp:Plain (.tuple [.agg (ij sh),.bool (decide (1<=sh/\sh<=4))]):=Plain.tuple λv hv=>by
   simp only[Zb0,Zc5,Zf2]at hv;rcases hv with rfl|rfl
   . exact Plain.agg (anB sh)
   . exact Plain.bool _
 rw[Y8 hc 1 (r:=(.tuple [.agg (ij sh),.bool (decide (1<=sh/\sh<=4))],ah st (.cells (ij sh) 0))),aE hp (b9 hw)];rw[acy];by_cases h1:sh=1
 . subst h1;simp[ij,AV.cells,aQ,AV.one,cQ,cE,aX,cZ]
 by_cases h2:sh=2
 . subst h2;simp[ij,AV.cells,aQ,AV.one,cQ,cE,aX,cZ]
 by_cases h3:sh=3
 . subst h3;simp[ij,AV.cells,aQ,AV.one,cQ,cE,aX,cZ]
 by_cases h4:sh=4
 . subst h4;simp[ij,AV.cells,aQ,AV.one,cQ,cE,aX,cZ]
 have h5:decide (1<=sh/\sh<=4)=false:=by simp;omega
 rw[h5];simp[ij,AV.cells,aQ,AV.one,cQ,cE,aX,cZ,h1,h2,h3,h4]
theorem P8(hc:Sem c)(t:aD)(st:St)(hw:Wf st):c 121 [.agg t.cells] st=some (.int .i64 (bI t),st):=by
 rw[afy hc 1 (r:=(.int .i64 (bI t),ah (ah st (.cells t.cells 0)) (.cells (ij t.sh) 0))),aE (Plain.int _ _) ((b9 hw).trans (b9 (bF hw)))];rw[ai9];obtain⟨name,sh,a,b,oz,kA,x,y⟩:=t;by_cases h1:sh=1
 . subst h1;simp[aD.cells,AV.cells,fM hc,hw,bI,ij,aQ,AV.one,afx hc]
 by_cases h2:sh=2
 . subst h2;simp[aD.cells,AV.cells,fM hc,hw,bI,ij,aQ,AV.one,ahM hc]
 by_cases h3:sh=3
 . subst h3;simp[aD.cells,AV.cells,fM hc,hw,bI,ij,aQ,AV.one,ahN hc]
 by_cases h4:sh=4
 . subst h4;simp[aD.cells,AV.cells,fM hc,hw,bI,ij,aQ,AV.one,ai8 hc]
 have h5:decide (1<=sh/\sh<=4)=false:=by simp;omega
 simp[aD.cells,AV.cells,fM hc,hw,bI,ij,aQ,AV.one,h1,h2,h3,h4,h5]
def wE:Nat:=9223372036854775808
theorem acz(s:List Nat)(hs:s.length<=12)(F:Nat)(st:St)(k1 k2):∀(m k:Nat),s.length<=k+m->k<=s.length->
  sx c F k1 k2 (m+1) [.str s,.int .i64 (s.length:Int),.int .i64 (k:Int)] st=if(s.drop k).all (λc=>decide (97<=c/\c<=122))=true then k2 [] st else k1 [.bool false] st:=by
 intro m;induction m with
 |zero=>
  intro k h1 h2;rw[Nq];obtain rfl:k=s.length:=by omega
  simp
 |succ m ih=>
  intro k h1 h2;rw[Nq];by_cases h:k<s.length
  . have e:s.drop k=s[k]::s.drop (k+1):=Zd6 h;have:=ih (k+1) (by omega) (by omega);have w:av .i64 ((k:Int)+1)=((k+1:Nat):Int):=wrap64 (by omega) (by omega);rw[e,List.all_cons];generalize (s.drop (k+1)).all _=rest at this ⊢;by_cases h3:(s[k]:Int)<97
    .   have h5:decide (97<=s[k]/\s[k]<=122)=false:=(by simp;omega);simp[h,h3,h5]
    .   by_cases h4:122<(s[k]:Int)
        . have h5:decide (97<=s[k]/\s[k]<=122)=false:=(by simp;omega);simp[h,h3,h4,h5]
        . have h5:decide (97<=s[k]/\s[k]<=122)=true:=(by simp;omega);rw[h5,Zg6, <-this];simp[h,h3,h4,w]
  . obtain rfl:k=s.length:=(by omega);simp
theorem Ip(hc:Sem c)(s:List Nat)(st:St):c 225 [.str s] st=some (.bool (oF s),st):=by
 rw[adO hc (s.length+1) (r:=(.bool (oF s),st)),aE (Plain.bool _) (aW.refl st)];rw[ahO];by_cases h0:(s.length:Int)=0
 . have h1:¬1<=s.length:=(by omega);have h2:s=[]:=Zc4 (by omega);subst h2;simp[oF]
 . by_cases h1:12<(s.length:Int)
   . have h2:¬s.length<=12:=(by omega);have h3:¬s=[]:=(by intro e;subst e;simp at h0);simp[oF,h1,h2,h3]
   . have h2:s.length<=12:=(by omega);have h3:1<=s.length:=(by omega);have h4:¬s=[]:=(by intro e;subst e;simp at h0);have L:∀k1 k2,sx c (s.length+1) k1 k2 (s.length+1) [.str s,.int .i64 (s.length:Int),.int .i64 0] st=if(s.drop 0).all (λc=>decide (97<=c/\c<=122))=true then k2 [] st else k1 [.bool false] st:=
        λk1 k2=>acz (c:=c) s h2 (s.length+1) st k1 k2 s.length 0 (by omega) (by omega)
     rw[Ze6]at L;have e:oF s=s.all λc=>decide (97<=c/\c<=122):=(by simp[oF,h2,h3]);rw[e];generalize (s.all _)=b at L ⊢;simp[h1,h4,L];cases b<;>simp
theorem adP(s:List Nat)(hs:s.length<=12)(F:Nat)(st:St)(k1 k2):∀(m k:Nat),s.length<=k+m->k<=s.length->
  uG c F k1 k2 (m+1) [.str s,.int .i64 (s.length:Int),.int .i64 (k:Int)] st=if(s.drop k).all (λc=>decide (97<=c/\c<=122))=true then k2 [] st else k1 [.bool false] st:=by
 intro m;induction m with
 |zero=>
  intro k h1 h2;rw[P9];obtain rfl:k=s.length:=by omega
  simp
 |succ m ih=>
  intro k h1 h2;rw[P9];by_cases h:k<s.length
  . have e:s.drop k=s[k]::s.drop (k+1):=Zd6 h;have:=ih (k+1) (by omega) (by omega);have w:av .i64 ((k:Int)+1)=((k+1:Nat):Int):=wrap64 (by omega) (by omega);rw[e,List.all_cons];generalize (s.drop (k+1)).all _=rest at this ⊢;by_cases h3:(s[k]:Int)<97
    .   have h5:decide (97<=s[k]/\s[k]<=122)=false:=(by simp;omega);simp[h,h3,h5]
    .   by_cases h4:122<(s[k]:Int)
        . have h5:decide (97<=s[k]/\s[k]<=122)=false:=(by simp;omega);simp[h,h3,h4,h5]
        . have h5:decide (97<=s[k]/\s[k]<=122)=true:=(by simp;omega);rw[h5,Zg6, <-this];simp[h,h3,h4,w]
  . obtain rfl:k=s.length:=(by omega);simp
theorem ahP(hc:Sem c)(s:List Nat)(st:St):c 110 [.str s] st=some (.bool (oF s),st):=by
 rw[afz hc (s.length+1) (r:=(.bool (oF s),st)),aE (Plain.bool _) (aW.refl st)];rw[aja];by_cases h0:(s.length:Int)=0
 . have h1:¬1<=s.length:=(by omega);have h2:s=[]:=Zc4 (by omega);subst h2;simp[oF]
 . by_cases h1:12<(s.length:Int)
   . have h2:¬s.length<=12:=(by omega);have h3:¬s=[]:=(by intro e;subst e;simp at h0);simp[oF,h1,h2,h3]
   . have h2:s.length<=12:=(by omega);have h3:1<=s.length:=(by omega);have h4:¬s=[]:=(by intro e;subst e;simp at h0);have L:∀k1 k2,uG c (s.length+1) k1 k2 (s.length+1) [.str s,.int .i64 (s.length:Int),.int .i64 0] st=if(s.drop 0).all (λc=>decide (97<=c/\c<=122))=true then k2 [] st else k1 [.bool false] st:=
        λk1 k2=>adP (c:=c) s h2 (s.length+1) st k1 k2 s.length 0 (by omega) (by omega)
     rw[Ze6]at L;have e:oF s=s.all λc=>decide (97<=c/\c<=122):=(by simp[oF,h2,h3]);rw[e];generalize (s.all _)=b at L ⊢;simp[h1,h4,L];cases b<;>simp
theorem adQ(s:List Nat)(hs:s.length<wE)(F:Nat)(st:St)(k1 k2):∀(m k:Nat),s.length<=k+m->k<=s.length->
  uH c F k1 k2 (m+1) [.str s,.int .i64 (k:Int)] st=if(s.drop k).all (λc=>decide (97<=c/\c<=122))=true then k2 [.str s] st else k1 [.bool false] st:=by
 intro m;induction m with
 |zero=>
  intro k h1 h2;rw[Qa];obtain rfl:k=s.length:=by omega
  simp
 |succ m ih=>
  intro k h1 h2;rw[Qa];by_cases h:k<s.length
  . have e:s.drop k=s[k]::s.drop (k+1):=Zd6 h;have:=ih (k+1) (by omega) (by omega);have w:av .i64 ((k:Int)+1)=((k+1:Nat):Int):=wrap64 (by omega) (by unfold wE at hs;omega);rw[e,List.all_cons];generalize (s.drop (k+1)).all _=rest at this ⊢;by_cases h3:(s[k]:Int)<97
    .   have h5:decide (97<=s[k]/\s[k]<=122)=false:=(by simp;omega);simp[h,h3,h5]
    .   by_cases h4:122<(s[k]:Int)
        . have h5:decide (97<=s[k]/\s[k]<=122)=false:=(by simp;omega);simp[h,h3,h4,h5]
        . have h5:decide (97<=s[k]/\s[k]<=122)=true:=(by simp;omega);rw[h5,Zg6, <-this];simp[h,h3,h4,w]
  . obtain rfl:k=s.length:=(by omega);simp
theorem ahQ(hc:Sem c)(s:List Nat)(hs:s.length<wE)(st:St):c 203 [.str s] st=some (.bool (oF s),st):=by
 rw[afA hc (s.length+1) (r:=(.bool (oF s),st)),aE (Plain.bool _) (aW.refl st)];rw[ajb];have L:∀k1 k2,uH c (s.length+1) k1 k2 (s.length+1) [.str s,.int .i64 0] st=if(s.drop 0).all (λc=>decide (97<=c/\c<=122))=true then k2 [.str s] st else k1 [.bool false] st:=
   λk1 k2=>adQ (c:=c) s hs (s.length+1) st k1 k2 s.length 0 (by omega) (by omega)
 rw[Ze6]at L;have e:oF s=(decide (1<=s.length)&&decide (s.length<=12)&&s.all λc=>decide (97<=c/\c<=122)):=rfl;rw[e];generalize (s.all _)=b at L ⊢;simp[L];cases b
 . simp
 . by_cases h1:(1:Int)<=s.length
   . have h2:1<=s.length:=(by omega);by_cases h3:(s.length:Int)<=12
     .  have h4:s.length<=12:=(by omega);simp[h1,h2,h3,h4]
     .  have h4:¬s.length<=12:=(by omega);simp[h1,h2,h3,h4]
   . have h2:¬1<=s.length:=(by omega);simp[h1,h2]
def zJ(s:List Nat):Bool:=decide (s=[])||oF s
theorem Iq(hc:Sem c)(s:List Nat)(st:St):c 226 [.str s] st=some (.bool (zJ s),st):=by
 rw[adR hc 1 (r:=(.bool (zJ s),st)),aE (Plain.bool _) (aW.refl st)];rw[ahR];by_cases h:s=[]<;>simp[h,zJ,Ip hc]
def Sy(n last:Int):List Int->Bool
 |[]=>true
 |k::l=>decide (last<k)&&decide (k<n)&&Sy n k l
def rZ(t:aD):Int:=
 if oF t.name=false then 4 else if bI t=0 then 10 else if Sy (bI t) (-1) t.kA=false then 11
 else if 0<=t.x/\t.x<=1000/\0<=t.y/\t.y<=1000 then 0 else 2
structure aD.Ok(t:aD):Prop where
 name:t.name.length<wE
 kA:t.kA.length<wE
theorem So(l:List Int)(k:Nat)(h:k<l.length):((l.map λi=>[AV.int .i64 i])[k]?.bind λcs=>cs[0]?)=some (.int .i64 l[k]):=by
 simp[Zb7,H0 h]
theorem acA(p:Pos)(n:Int)(z:Bool)(l:List Int)(hl:l.length<wE)(F:Nat)(st:St)(k1 k3):∀(m k:Nat)(last:Int),l.length<=k+m->k<=l.length->
  sy c F k1 k3 (m+1) [.ptr p 0,.int .i64 n,.int .i64 last,ints z l,.int .i64 (l.length:Int),.int .i64 (k:Int)] st=if Sy n last (l.drop k)=true then k3 [.ptr p 0] st else k1 [.int .i64 11] st:=by
 intro m;induction m with
 |zero=>
  intro k last h1 h2;rw[Nr];obtain rfl:k=l.length:=by omega
  simp[Sy]
 |succ m ih=>
  intro k last h1 h2;rw[Nr];by_cases h:k<l.length
  . have e:l.drop k=l[k]::l.drop (k+1):=Zd6 h;have:=ih (k+1) l[k] (by omega) (by omega);have w:av .i64 ((k:Int)+1)=((k+1:Nat):Int):=wrap64 (by omega) (by unfold wE at hl;omega);have g:=So l k h;rw[e,Sy];generalize Sy n l[k] (l.drop (k+1))=rest at this ⊢;by_cases h3:l[k]<=last
    .   have h4:¬last<l[k]:=(by omega);simp[ints,h,h3,h4,g]
    .   have h4:last<l[k]:=(by omega);by_cases h5:n<=l[k]
        . have h6:¬l[k]<n:=(by omega);simp[ints,h,h3,h4,h5,h6,g]
        . have h6:l[k]<n:=(by omega);simp only[h4,h6,Zg1,Zg6];rw[<-this];simp[ints,h,h3,h4,h5,h6,g,w]
  . obtain rfl:k=l.length:=(by omega);simp[Sy]
theorem ap5(hc:Sem c)(t:aD)(ht:t.Ok)(st:St)(hw:Wf st):c 158 [.agg t.cells] st=some (.int .i64 (rZ t),st):=by
 rw[adS hc (t.kA.length+1) (r:=(.int .i64 (rZ t),ah st (.cells t.cells 0))),aE (Plain.int _ _) (b9 hw)];rw[ahS];have hs:=P8 hc t (ah st (.cells t.cells 0)) (bF hw);have hn:=ahQ hc t.name ht.name;have hg:(ah st (.cells t.cells 0)).heap.get st.next=some (.cells t.cells 0):=aA _ _;have c0:t.cells[0]? =some (.str t.name):=rfl;have c4:t.cells[4]? =some (ints t.oz t.kA):=rfl;have c5:t.cells[5]? =some (.int .i64 t.x):=rfl;have c6:t.cells[6]? =some (.int .i64 t.y):=rfl;have cc:cut t.cells 0 7=some t.cells:=cQ rfl
 have L:∀k1 k3,sy c (t.kA.length+1) k1 k3 (t.kA.length+1) [.ptr st.next 0,.int .i64 (bI t),.int .i64 (-1),ints t.oz t.kA,.int .i64 (t.kA.length:Int),.int .i64 0] (ah st (.cells t.cells 0))=
     if Sy (bI t) (-1) (t.kA.drop 0)=true then k3 [.ptr st.next 0] (ah st (.cells t.cells 0))else k1 [.int .i64 11] (ah st (.cells t.cells 0)):=
   λk1 k3=>acA st.next (bI t) t.oz t.kA ht.kA _ _ k1 k3 t.kA.length 0 (-1) (by omega) (by omega)
 rw[Ze6]at L;have lI:∀(K:AV->St->Option (AV×St))(s:St),aq c (.lenB .l) [ints t.oz t.kA] s K=K (.int .i64 (t.kA.length:Int)) s:=λK s=>by unfold ints;rw[iy];simp
 unfold rZ;generalize t.cells=tc at*
 generalize bI t=sz at*
 generalize Sy sz (-1) t.kA=op at*
 by_cases h1:oF t.name=true
 . by_cases h2:sz=0
   . simp[AV.cells,hs,hn,hg,c0,cc,h1,h2]
   . cases op
     .  simp[AV.cells,hs,hn,hg,c0,c4,cc,h1,h2,lI,L]
     .  by_cases h3:t.x<0
        . have:¬0<=t.x:=(by omega);simp[AV.cells,hs,hn,hg,c0,c4,c5,c6,cc,h1,h2,lI,L,h3,this]
        by_cases h4:1000<t.x
        . have:¬t.x<=1000:=(by omega);simp[AV.cells,hs,hn,hg,c0,c4,c5,c6,cc,h1,h2,lI,L,h3,h4,this]
        by_cases h5:t.y<0
        . have:¬0<=t.y:=(by omega);simp[AV.cells,hs,hn,hg,c0,c4,c5,c6,cc,h1,h2,lI,L,h3,h4,h5,this]
        by_cases h6:1000<t.y
        . have:¬t.y<=1000:=(by omega);simp[AV.cells,hs,hn,hg,c0,c4,c5,c6,cc,h1,h2,lI,L,h3,h4,h5,h6,this]
        have h7:0<=t.x:=(by omega);have h8:t.x<=1000:=(by omega);have h9:0<=t.y:=(by omega);have h10:t.y<=1000:=(by omega);simp[AV.cells,hs,hn,hg,c0,c4,c5,c6,cc,h1,h2,lI,L,h3,h4,h5,h6,h7,h8,h9,h10]
 . simp[AV.cells,hs,hn,hg,c0,cc,h1]
theorem AH(t:aD):0<=bI t/\bI t<=1000:=by
 unfold bI;repeat' split
 all_goals omega
def scan(P:Nat->Bool):Nat->Nat->Int
 |0,_=> -1
 |m+1,k=>if P k=true then(k:Int)else scan P m (k+1)
theorem adT(P:Nat->Bool):∀(m k:Nat),-1<=scan P m k/\(scan P m k<0->scan P m k= -1)
 |0,_=>by simp[scan]
 |m+1,k=>by
  unfold scan;split
  . omega
  . exact adT P m (k+1)
theorem acB{P Q:Nat->Bool}:∀(m k:Nat),(∀i,k<=i->i<k+m->P i=Q i)->scan P m k=scan Q m k
 |0,_,_=>rfl
 |m+1,k,h=>by
  unfold scan;rw[h k (by omega) (by omega),acB m (k+1) λi h1 h2=>h i (by omega) (by omega)]
theorem Bv{P:Nat->Bool}:∀(m k:Nat),0<=scan P m k->k<=(scan P m k).toNat/\(scan P m k).toNat<k+m/\P (scan P m k).toNat=true
 |0,k,h=>by simp[scan]at h
 |m +1,k,h=>by
  unfold scan at h ⊢;split
  . rename_i hp;simp;exact hp
  . rename_i hp;rw[Za7 hp]at h;have:=Bv m (k+1) h;exact⟨by omega,by omega,this.2.2⟩
def tabs(z:Bool)(ts:List aD):AV:=ro 7 z (ts.map aD.cells)
@[simp] theorem aD.c0(t:aD):t.cells[0]? =some (.str t.name):=id rfl
@[simp] theorem aD.c1(t:aD):t.cells[1]? =some (.int .u8 t.sh):=id rfl
@[simp] theorem aD.c2(t:aD):t.cells[2]? =some (.int .i64 t.a):=id rfl
@[simp] theorem aD.c3(t:aD):t.cells[3]? =some (.int .i64 t.b):=id rfl
@[simp] theorem aD.c4(t:aD):t.cells[4]? =some (ints t.oz t.kA):=id rfl
@[simp] theorem aD.c5(t:aD):t.cells[5]? =some (.int .i64 t.x):=id rfl
@[simp] theorem aD.c6(t:aD):t.cells[6]? =some (.int .i64 t.y):=id rfl
@[simp] theorem aD.cc(t:aD):cut t.cells 0 7=some t.cells:=cQ rfl
theorem aD.len(t:aD):t.cells.length=7:=id rfl
@[simp] theorem aD.one(t:aD):aQ t.cells=true:=by unfold aD.cells;simp only[aQ,ap4];rfl
@[simp] theorem WZ(l:List AV):(AV.agg l).cells=l:=id rfl
def uI(ts:List aD)(s:List Nat)(i:Nat):Bool:=decide (ts[i]?.map aD.name=some s)
def iE(ts:List aD):Nat->Nat->Int×Int
 |0,_=>(0,0)
 |  m+1,k=>match ts[k]? with
    |none=>(0,0)
    |some t=>if rZ t≠0 then((k:Int),rZ t)else if 0<=scan (uI ts t.name) k 0 then((k:Int),5)else iE ts m (k+1)
def bP(ts:List aD):Int×Int:=if 16<ts.length then(0,7)else iE ts ts.length 0
theorem acC(ts:List aD):∀(m m' k:Nat),ts.length<=k+m->ts.length<=k+m'->iE ts m k=iE ts m' k
 |0,0,_,_,_=>rfl
 |0,m'+1,k,h,_=>by rw[iE,iE,Zc1 (by omega)]
 |m+1,0,k,_,h=>by rw[iE,iE,Zc1 (by omega)]
 |m+1,m'+1,k,h,h'=>by
  rw[iE,iE,acC ts m m' (k+1) (by omega) (by omega)]
theorem acD(ts:List aD):∀(m k:Nat),(iE ts m k).2=0->(iE ts m k).1=0
 |0,_,_=>rfl
 |m +   1,k,h=>by
  rw[iE]at h ⊢;split at h
  . rfl
  . split at h
    .   rename_i dJ;exact absurd h dJ
    .   split at h
        . simp at h
        . rename_i h1 h2;rw[Za7 h1,Za7 h2];exact acD ts m (k+1) h
theorem ahT(hc:Sem c)(x t:aD)(p:Pos)(st:St)(hw:Wf st)(hp:st.heap.get p=some (.cells t.cells 0)):c 160 [.agg x.cells,.ptr p 0] st=some (.bool (decide (x.name=t.name)),st):=by
 rw[UQ hc 1 (r:=(.bool (decide (x.name=t.name)),ah st (.cells x.cells 0))),aE (Plain.bool _) (b9 hw)];rw[Y9];have:(ah st (.cells x.cells 0)).heap.get p=some (.cells t.cells 0):=b9 hw _ _ hp;simp[this]
theorem ap6(hc:Sem c)(x:aD)(s:List Nat)(p:Pos)(st:St)(hw:Wf st)(hp:st.heap.get p=some (.cells [.str s] 0)):c 178 [.agg x.cells,.ptr p 0] st=some (.bool (decide (x.name=s)),st):=by
 rw[acE hc 1 (r:=(.bool (decide (x.name=s)),ah st (.cells x.cells 0))),aE (Plain.bool _) (b9 hw)];rw[afB];have:(ah st (.cells x.cells 0)).heap.get p=some (.cells [.str s] 0):=b9 hw _ _ hp;simp[this]
theorem anC(z:Bool)(rs:List (List AV))(hl:rs.length<wE)(dV:∀cs∈rs,cs.length=7)(g:Nat)(v:List AV)(P:Nat->Bool)(st:St)(F:Nat)(k1 k2)
  (hP:∀i (h:i<rs.length),c g (.agg rs[i]::v) st=some (.bool (P i),st)):∀(m k:Nat),rs.length<=k+m->k<=rs.length->
  cS c F k1 k2 (m+1) [ro 7 z rs,.func g [] v,.int .i64 (rs.length:Int),.int .i64 (k:Int)] st=if 0<=scan P (rs.length - k) k then k1 [.int .i64 (scan P (rs.length - k) k)] st else k2 [] st:=by
 intro m;induction m with
 |zero=>
  intro k h1 h2;obtain rfl:k=rs.length:=by omega
  rw[mB];simp[scan]
 |succ m ih=>
  intro k h1 h2;rw[mB];by_cases h:k<rs.length
  . have e:rs.length - k=(rs.length - (k+1))+1:=(by omega);have w:av .i64 ((k:Int)+1)=((k+1:Nat):Int):=wrap64 (by omega) (by unfold wE at hl;omega);have hcut:cut rs[k] 0 7=some rs[k]:=cQ (dV _ (Zb8 h));have hp:=hP k h;rw[e,scan];cases hb:P k
    .   simp only[Zf5,Zh2];rw[<-ih (k+1) (by omega) (by omega)];simp[h,hcut,hp,hb,w]
    .   simp[h,hcut,hp,hb]
  . obtain rfl:k=rs.length:=(by omega);simp[scan]
theorem aj7(hc:Sem c)(z:Bool)(rs:List (List AV))(hl:rs.length<wE)(dV:∀cs∈rs,cs.length=7)(g:Nat)(v:List AV)(P:Nat->Bool)(st:St)
   (hP:∀i (h:i<rs.length),c g (.agg rs[i]::v) st=some (.bool (P i),st)):c 177 [ro 7 z rs,.func g [] v] st=some (.int .i64 (scan P rs.length 0),st):=by
 rw[vG hc (rs.length+1) (r:=(.int .i64 (scan P rs.length 0),st)),aE (Plain.int _ _) (aW.refl st)];rw[xj];have L:∀k1 k2,cS c (rs.length+1) k1 k2 (rs.length+1) [ro 7 z rs,.func g [] v,.int .i64 (rs.length:Int),.int .i64 0] st=if 0<=scan P (rs.length - 0) 0 then k1 [.int .i64 (scan P (rs.length - 0) 0)] st else k2 [] st:=
   λk1 k2=>anC z rs hl dV g v P st _ k1 k2 hP rs.length 0 (by omega) (by omega)
 rw[Zr0]at L;by_cases h:0<=scan P rs.length 0
 . simp[L,h]
 . have:=(adT P rs.length 0).2 (by omega);simp[L,this]
theorem ahU(hc:Sem c)(z:Bool)(rs:List (List AV))(hl:rs.length<wE)(dV:∀cs∈rs,cs.length=7)(g:Nat)(v:List AV)(P:Nat->Bool)(st:St)
  (hP:∀i (h:i<rs.length),c g (.agg rs[i]::v) st=some (.bool (P i),st)):c 159 [ro 7 z rs,.func g [] v] st=some (.bool (decide (0<=scan P rs.length 0)),st):=by
 rw[uk hc 1 (r:=(.bool (decide (0<=scan P rs.length 0)),st)),aE (Plain.bool _) (aW.refl st)];rw[uW];simp[aj7 hc z rs hl dV g v P st hP]
theorem afC(hc:Sem c)(z:Bool)(ts:List aD)(cG:∀t∈ts,t.Ok)(hl:ts.length<=16)(F:Nat)(k1 k2):∀(m k:Nat)(st:St),Wf st->ts.length<=k+m->k<=ts.length->
  ∃st',Grew st st'/\qN c F k1 k2 (m+1) [tabs z ts,tabs z ts,.int .i64 (ts.length:Int),.int .i64 (k:Int)] st=if(iE ts m k).2=0 then k2 [] st' else k1 [.int .i64 (iE ts m k).1,.int .i64 (iE ts m k).2] st':=by
 intro m;induction m with
 |zero=>
  intro k st hw h1 h2;obtain rfl:k=ts.length:=by omega
  refine⟨st,Grew.refl hw,?_⟩;rw[yM];simp[iE,tabs]
 |succ m ih=>
  intro k st hw h1 h2;by_cases h:k<ts.length
  . have w:av .i64 ((k:Int)+1)=((k+1:Nat):Int):=wrap64 (by omega) (by omega);have cN:Wf (ah st (.cells ts[k].cells 0)):=bF hw;have hg:=Grew.ah hw (.cells ts[k].cells 0);have hch:=ap5 hc ts[k] (cG _ (Zb8 h)) _ cN;have hco:=ahU hc (z&&(ts.map aD.cells).isEmpty) ((ts.map aD.cells).take k) (by simp[wE];omega) (λcs eX=>by
          have:=Zp2 eX;simp only[Zd0]at this;obtain⟨t,_,rfl⟩:=this;rfl) 160 [.ptr st.next 0] (uI ts ts[k].name) (ah st (.cells ts[k].cells 0)) (λi hi=>by
          have GF:i<k:=(by simp at hi;omega);have hi3:i<ts.length:=(by omega);have:=ahT hc ts[i] ts[k] st.next (ah st (.cells ts[k].cells 0)) cN (aA _ _);simp only[Zo1,Zo5];rw[this];simp[uI,hi3])
    have hlen:((ts.map aD.cells).take k).length=k:=(by simp;omega);rw[hlen]at hco;rw[yM,iE,H0 h];simp only;by_cases h3:rZ ts[k]=0
    .   by_cases h4:0<=scan (uI ts ts[k].name) k 0
        . refine⟨_,hg,?_⟩;have ug:k<=ts.length:=(by omega);simp only[tabs,Zq8]at hco ⊢;simp[h,hch,h3,h4,ug,hco,aD.len]
        . obtain⟨st',g1,g2⟩:=ih (k+1) _ cN (by omega) (by omega);refine⟨st',hg.trans g1,?_⟩;have ug:k<=ts.length:=(by omega);have e3:¬rZ ts[k]≠0:=(by rw[h3];simp);simp only[e3,h4,Zh2];rw[<-g2];simp only[tabs,Zq8]at hco ⊢;simp[h,hch,h3,h4,ug,hco,w,aD.len]
    .   refine⟨_,hg,?_⟩;simp[tabs,h,hch,h3,aD.len]
  . obtain rfl:k=ts.length:=(by omega);refine⟨st,Grew.refl hw,?_⟩;rw[yM];simp[iE,tabs]
theorem ZT(hc:Sem c)(z:Bool)(ts:List aD)(cG:∀t∈ts,t.Ok)(st:St)(hw:Wf st):c 88 [tabs z ts] st=some (.tuple [.int .i64 (bP ts).1,.int .i64 (bP ts).2],st):=by
 have zB:Plain (.tuple [.int .i64 (bP ts).1,.int .i64 (bP ts).2]):=Plain.tuple (by simp[Plain.int]);by_cases h:16<ts.length
 . rw[IJ hc 20 (r:=(.tuple [.int .i64 (bP ts).1,.int .i64 (bP ts).2],st)),aE zB (aW.refl st)];rw[Ns];have hi:(16:Int)<ts.length:=(by omega);simp[tabs,bP,h,hi]
 . have hi:¬(16:Int)<ts.length:=(by omega);have e:bP ts=iE ts 19 0:=(by rw[bP,Za7 h];exact acC ts _ _ 0 (by omega) (by omega));have hex:=λk1 k2=>afC hc z ts cG (by omega) 20 k1 k2 19 0 st hw (by omega) (by omega)
   obtain⟨st',hg,L⟩:=hex (λvs s36=>gY vs λx2 vs=>gY vs λx3 vs=>mz vs (some (.tuple [x2,x3],s36))) (λvs s37=>mz vs (
     aq c .move [(.int .i64 0)] s37 λx2 s38=>aq c .move [(.int .i64 0)] s38 λx3 s39=>some (.tuple [x2,x3],s39)))
   rw[IJ hc 20 (r:=(.tuple [.int .i64 (bP ts).1,.int .i64 (bP ts).2],st')),aE zB hg.keeps];rw[Ns,e];simp only[tabs]at L;simp[tabs,hi]at L ⊢;rw[L];by_cases h2:(iE ts 19 0).2=0
   . have:=acD ts 19 0 h2;simp[h2,this]
   . simp[h2]
def aZ(ts:List aD):Int:=(ts.map bI).sum
theorem pH(ts:List aD):0<=aZ ts/\aZ ts<=1000*ts.length:=by
 induction ts with
 |nil=>simp[aZ]
 |cons t ts ih=>
  have:=AH t;simp only[aZ,Zd5,Zo8,Zc6]at ih ⊢;omega
theorem Sz(ts:List aD)(t:aD):aZ (ts++[t])=aZ ts+bI t:=by simp[aZ]
def zq(ts:List aD)(t:Int):Int:=if t<0\/(ts.length:Int)<=t\/(bP ts).2≠0 then 0 else aZ (ts.take t.toNat)
theorem SA(hc:Sem c)(z:Bool)(ts:List aD)(cG:∀t∈ts,t.Ok)(st:St)(hw:Wf st):c 120 [tabs z ts] st=some (.bool (decide ((bP ts).2=0)),st):=by
 rw[adU hc 1 (r:=(.bool (decide ((bP ts).2=0)),st)),aE (Plain.bool _) (aW.refl st)];rw[ahV];simp[ZT hc z ts cG st hw]
theorem Nt{ts:List aD}(h:(bP ts).2=0):ts.length<=16:=by
 unfold bP at h;split at h
 . simp at h
 . omega
theorem alu(hc:Sem c)(z:Bool)(ts:List aD)(hl:ts.length<=16)(F:Nat)(k2):∀(m k:Nat)(st:St),Wf st->ts.length<=k+m->k<=ts.length->
  ∃st',Grew st st'/\wL c F k2 (m+1) [.int .i64 (aZ (ts.take k)),tabs z ts,.int .i64 (ts.length:Int),.int .i64 (k:Int)] st=k2 [.int .i64 (aZ ts)] st':=by
 intro m;induction m with
 |zero=>
  intro k st hw h1 h2;obtain rfl:k=ts.length:=by omega
  refine⟨st,Grew.refl hw,?_⟩;rw[Di];simp
 |succ m ih=>
  intro k st hw h1 h2;by_cases h:k<ts.length
  . have w:av .i64 ((k:Int)+1)=((k+1:Nat):Int):=wrap64 (by omega) (by omega);have cN:Wf (ah st (.cells ts[k].cells 0)):=bF hw;have hg:=Grew.ah hw (.cells ts[k].cells 0);have hs:=P8 hc ts[k] _ cN;have e:aZ (ts.take (k+1))=aZ (ts.take k)+bI ts[k]:=by
        rw[Zd4 h,Sz]
    have b1:=pH (ts.take k);have b2:=AH ts[k];have b3:(ts.take k).length<=16:=(by simp;omega);have w2:av .i64 (aZ (ts.take k)+bI ts[k])=aZ (ts.take (k+1)):=(by rw[e];exact wrap64 (by omega) (by omega));obtain⟨st',g1,g2⟩:=ih (k+1) _ cN (by omega) (by omega);refine⟨st',hg.trans g1,?_⟩;rw[<-g2,Di];simp[tabs,h,hs,w,w2,aD.len]
  . obtain rfl:k=ts.length:=(by omega);refine⟨st,Grew.refl hw,?_⟩;rw[Di];simp
theorem ahW(hc:Sem c)(z:Bool)(ts:List aD)(cG:∀t∈ts,t.Ok)(k:Int)(st:St)(hw:Wf st):c 58 [tabs z ts,.int .i64 k] st=some (.int .i64 (zq ts k),st):=by
 have lT:∀(K:AV->St->Option (AV×St))(s:St),aq c (.lenB .l) [tabs z ts] s K=K (.int .i64 (ts.length:Int)) s:=λK s=>by unfold tabs;rw[iy];simp
 have hv:=SA hc z ts cG st hw;by_cases h:k<0\/(ts.length:Int)<=k\/(bP ts).2≠0
 . have e:zq ts k=0:=(by rw[zq,Zb3 h]);rw[Qb hc 1 (r:=(.int .i64 (zq ts k),st)),aE (Plain.int _ _) (aW.refl st)];rw[W4,e];by_cases h1:k<0
   . simp[h1]
   . by_cases h2:(ts.length:Int)<=k
     .  simp[h1,h2,lT]
     .  have h3:(bP ts).2≠0:=h.resolve_left h1 |>.resolve_left h2;simp[h1,h2,h3,lT,hv]
 . have e:zq ts k=aZ (ts.take k.toNat):=(by rw[zq,Za7 h]);have h1:¬k<0:=λe=>h (.inl e)
   have h2:¬(ts.length:Int)<=k:=λe=>h (.inr (.inl e))
   have h3:(bP ts).2=0:=Zl2 λe=>h (.inr (.inr e))
   have hl:=Nt h3;obtain⟨n,rfl⟩:∃n:Nat,k=(n:Int):=⟨k.toNat,by omega⟩
   have hn:n<=ts.length:=(by omega);have hex:=λk2=>alu hc (z&&ts.isEmpty) (ts.take n) (by simp;omega) 20 k2 19 0 st hw (by simp;omega) (by omega)
   obtain⟨st',hg,L⟩:=hex (λvs s33=>gY vs λx5 vs=>mz vs (aq c .move [x5] s33 λx34 s34=>aq c .move [x34] s34 λx4 s35=>some (x4,s35)));rw[Qb hc 20 (r:=(.int .i64 (zq ts (n:Int)),st')),aE (Plain.int _ _) hg.keeps];rw[W4,e];have h4:¬ts.length<=n:=(by omega);have hm:min n ts.length=n:=(by omega);simp[tabs,aZ,hm]at L;simp[h1,h4,h3,lT,hv];simp[tabs,hn,hm,aZ,L]
theorem ajc(hc:Sem c)(z:Bool)(ts:List aD)(hl:ts.length<=16)(st:St)(hw:Wf st):c 122 [tabs z ts] st=some (.int .i64 (if h:0<ts.length then bI (ts[ts.length - 1]'(by omega))else 0),st):=by
 rw[Za hc 1 (r:=(.int .i64 (if h:0<ts.length then bI (ts[ts.length - 1]'(by omega))else 0),st)),aE (Plain.int _ _) (aW.refl st)];rw[acF];by_cases h:0<ts.length
 . have h1:¬(ts.length:Int)=0:=(by omega);have h2:ts≠[]:=λe=>by subst e;simp at h
   have w:av .i64 ((ts.length:Int) - 1)=((ts.length - 1:Nat):Int):=(by rw[wrap64 (by omega) (by omega)];omega);have h3:ts.length - 1<ts.length:=(by omega);have hs:=P8 hc (ts[ts.length - 1]'(by omega)) st hw;simp[tabs,h,h1,h2,w,h3,hs]
 . have h1:ts=[]:=Zc4 (by omega);subst h1;simp[tabs]
theorem anD{ts:List aD}(hv:(bP ts).2=0):zq ts ((ts.length:Int) - 1)+(if h:0<ts.length then bI (ts[ts.length - 1]'(by omega))else 0)=aZ ts:=by
 by_cases h:0<ts.length
 . rw[dif_pos h,zq,Za7 (by simp[hv];omega)];have e:((ts.length:Int) - 1).toNat=ts.length - 1:=(by omega);rw[e, <-Sz, <-Zd4 (by omega)];rw[show ts.length - 1+1=ts.length by omega,Zk1]
 . have h1:ts=[]:=Zc4 (by omega);subst h1;simp[zq,aZ]
theorem FO(hc:Sem c)(z:Bool)(ts:List aD)(cG:∀t∈ts,t.Ok)(st:St)(hw:Wf st):c 59 [tabs z ts] st=some (.int .i64 (if(bP ts).2=0 then aZ ts else 0),st):=by
 rw[adV hc 1 (r:=(.int .i64 (if(bP ts).2=0 then aZ ts else 0),st)),aE (Plain.int _ _) (aW.refl st)];rw[ahX];have lT:∀(K:AV->St->Option (AV×St))(s:St),aq c (.lenB .l) [tabs z ts] s K=K (.int .i64 (ts.length:Int)) s:=λK s=>by unfold tabs;rw[iy];simp
 have hv:=SA hc z ts cG st hw;by_cases h:(bP ts).2=0
 . have hl:=Nt h;have w:av .i64 ((ts.length:Int) - 1)=(ts.length:Int) - 1:=wrap64 (by omega) (by omega);have hf:=ahW hc z ts cG ((ts.length:Int) - 1) st hw;have hla:=ajc hc z ts hl st hw;have b:=pH ts;have e:=anD h;rw[Zb3 h, <-e];rw[<-e]at b;generalize zq ts ((ts.length:Int) - 1)=x at hf b ⊢;generalize (if h:0<ts.length then bI (ts[ts.length - 1]'(by omega))else 0)=y at hla b ⊢;have w2:av .i64 (x+y)=x+y:=wrap64 (by omega) (by omega);simp[hv,h,lT,w,hf,hla,w2]
 . simp[hv,h]
theorem asu(hc:Sem c)(z:Bool)(ts:List aD)(cG:∀t∈ts,t.Ok)(hl:ts.length<wE)(s:List Nat)(st:St)(hw:Wf st):c 111 [tabs z ts,.str s] st=
   some (.tuple [.int .i64 (if 0<=scan (uI ts s) ts.length 0/\(bP ts).2=0 then scan (uI ts s) ts.length 0 else 0),.bool (decide (0<=scan (uI ts s) ts.length 0/\(bP ts).2=0))],st):=by
 rw[afD hc 1 (r:=(.tuple [.int .i64 (if 0<=scan (uI ts s) ts.length 0/\(bP ts).2=0 then scan (uI ts s) ts.length 0 else 0),.bool (decide (0<=scan (uI ts s) ts.length 0/\(bP ts).2=0))],ah st (.cells [.str s] 0))),
   aE (Plain.tuple (by simp[Plain.int,Plain.bool])) (b9 hw)]
 rw[ajd];have cN:Wf (ah st (.cells [.str s] 0)):=bF hw;have hi:=aj7 hc z (ts.map aD.cells) (by simpa using hl) (λcs eX=>by
     simp only[Zd0]at eX;obtain⟨t,_,rfl⟩:=eX;rfl) 178 [.ptr st.next 0] (uI ts s) (ah st (.cells [.str s] 0)) (λi hi=>by
     have hi3:i<ts.length:=(by simpa using hi);have:=ap6 hc ts[i] s st.next (ah st (.cells [.str s] 0)) cN (aA _ _);simp only[Zo5];rw[this];simp[uI,hi3])
 rw[Za4]at hi;have hv:=SA hc z ts cG _ cN;simp only[tabs]at hv ⊢;have e:(AV.str s).cells=[.str s]:=rfl;by_cases h1:0<=scan (uI ts s) ts.length 0
 . have h2:¬scan (uI ts s) ts.length 0<0:=(by omega);by_cases h3:(bP ts).2=0
   . simp[e,hi,h1,h2,h3,hv]
   . simp[e,hi,h1,h2,h3,hv]
 . have h2:scan (uI ts s) ts.length 0<0:=(by omega);simp[e,hi,h1,h2]
structure aT where
 name:List Nat
 zX:List Nat
 kq:List Nat
 since:Int
 side:Int
 nH:List Nat
 host:Bool
 access:Bool
 tz:Bool
 tg:List (List Nat)
def lq(z:Bool)(l:List (List Nat)):AV:=ro 1 z (l.map λs=>[.str s])
def aT.cells(g:aT):List AV:=[.str g.name,.str g.zX,.str g.kq,.int .i64 g.since,.int .i64 g.side,.str g.nH,.bool g.host,.bool g.access,lq g.tz g.tg]
@[simp] theorem ahY(z:Bool)(l:List (List Nat)):(lq z l).one=true:=amU _ _ _
@[simp] theorem ave{R:Type}(c:aj)(K:AV->St->Option R)(st:St)(z:Bool)(l:List (List Nat)):aq c (.lenB .l) [lq z l] st K=K (.int .i64 (l.length:Int)) st:=by unfold lq;rw[iy];simp
@[simp] theorem avf{R:Type}(c:aj)(K:AV->St->Option R)(st:St)(z:Bool)(l:List Int):aq c (.lenB .l) [ints z l] st K=K (.int .i64 (l.length:Int)) st:=by unfold ints;rw[iy];simp
@[simp] theorem aT.c0(t:aT):t.cells[0]? =some (.str t.name):=id rfl
@[simp] theorem aT.c1(t:aT):t.cells[1]? =some (.str t.zX):=id rfl
@[simp] theorem aT.c2(t:aT):t.cells[2]? =some (.str t.kq):=id rfl
@[simp] theorem aT.c3(t:aT):t.cells[3]? =some (.int .i64 t.since):=id rfl
@[simp] theorem aT.c4(t:aT):t.cells[4]? =some (.int .i64 t.side):=id rfl
@[simp] theorem aT.c5(t:aT):t.cells[5]? =some (.str t.nH):=id rfl
@[simp] theorem aT.c6(t:aT):t.cells[6]? =some (.bool t.host):=id rfl
@[simp] theorem aT.c7(t:aT):t.cells[7]? =some (.bool t.access):=id rfl
@[simp] theorem aT.c8(t:aT):t.cells[8]? =some (lq t.tz t.tg):=id rfl
@[simp] theorem aT.cc(t:aT):cut t.cells 0 9=some t.cells:=cQ rfl
@[simp] theorem aT.one(t:aT):aQ t.cells=true:=by unfold aT.cells;simp only[aQ,ahY];rfl
def dB(z:Bool)(gs:List aT):AV:=ro 9 z (gs.map aT.cells)
@[simp] theorem ap7{R:Type}(c:aj)(K:AV->St->Option R)(st:St)(z:Bool)(l:List aT):aq c (.lenB .l) [dB z l] st K=K (.int .i64 (l.length:Int)) st:=by unfold dB;rw[iy];simp
def aft(last:Option (List Nat))(s:List Nat):Bool:=match last with
 |none=>true
 |some p=>aN p s
@[simp] theorem ap8(s:List Nat):aft none s=true:=id rfl
@[simp] theorem ap9(p s:List Nat):aft (some p) s=aN p s:=id rfl
def Qc(last:Option (List Nat)):List (List Nat)->Bool
 |[]=>true
 |s::l=>oF s&&aft last s&&Qc (some s) l
theorem aqa(last:Option (List Nat))(s:List Nat)(l:List (List Nat)):Qc last (s::l)=(oF s&&aft last s&&Qc (some s) l):=rfl
def jP(g:aT):Int:=
 if(oF g.name&&zJ g.zX&&zJ g.kq&&zJ g.nH)=false then 4 else if ¬(0<=g.since/\g.since<=9999)then 21 else if ¬(0<=g.side/\g.side<=2)then 20
 else if 4<g.tg.length then 22 else if Qc none g.tg=false then 22 else 0
theorem FP:∀(a:List Nat),aN a a=false
 |[]=>rfl
 |x::a=>by
  unfold aN;simp[Kh,dc,FP a]
theorem W6:∀(a b:List Nat),aN a b=true->aN b a=false
 |[],[],h=>by simp[aN]at h
 |[],_::_,_=>rfl
 |_::_,[],h=>by simp[aN]at h
 |x ::a,y::b,h=>by
  unfold aN at h ⊢;simp only[Kh,dc]at h ⊢;by_cases h1:x<y
  . have:¬y<x:=(by omega);have h3:¬y=x:=(by omega);simp[this,h3]
  . by_cases h2:x=y
    . subst h2;simp at h ⊢; exact W6 a b h
    . simp[h1,h2]at h
theorem Kn:∀(a b:List Nat),aN a b=false->aN b a=false->a=b
 |[],[],_,_=>rfl
 |[],_::_,h,_=>by simp[aN]at h
 |_::_,[],_,h=>by simp[aN]at h
 |x ::a,y::b,h,k=>by
  unfold aN at h k;simp only[Kh,dc]at h k;by_cases h1:x<y
  . simp[h1]at h
  . by_cases h2:y<x
    .   simp[h2]at k
    .   have:x=y:=(by omega);subst this;simp at h k;rw[Kn a b h k]
theorem SB:∀(a b d:List Nat),aN a b=true->aN b d=true->aN a d=true
 |_,[],[],_,h=>by simp[aN]at h
 |_,_::_,[],_,h=>by simp[aN]at h
 |[],_,_::_,_,_=>rfl
 |_::_,[],_::_,h,_=>by simp[aN]at h
 |x ::a   ,y::b,z::d,h,k=>by
  unfold aN at h k ⊢;simp only[Kh,dc]at h k ⊢;by_cases h1:x<y
  . by_cases h2:y<z
    .   have:x<z:=(by omega);simp[this]
    .   by_cases h3:y=z
        . subst h3;simp[h1]
        . simp[h2,h3]at k
  . by_cases h2:x=y
    .   subst h2;simp at h;by_cases h4:x<z
        . simp[h4]
        . by_cases h5:x=z
          . subst h5;simp at k ⊢; exact SB a b d h k
          . simp[h4,h5]at k
    .   simp[h1,h2]at h
theorem abd(hc:Sem c)(p:Pos)(g:aT)(hl:g.tg.length<=4)(F:Nat)(st:St)(hp:st.heap.get p=some (.cells g.cells 0))(k1 k3):∀(m k:Nat),g.tg.length<=k+m->k<=g.tg.length->
  qD c F k1 k3 (m+1) [.ptr p 0,lq g.tz g.tg,.int .i64 (g.tg.length:Int),.int .i64 (k:Int)] st=if Qc (if k=0 then none else g.tg[k - 1]?) (g.tg.drop k)=true then k3 [] st else k1 [.int .i64 22] st:=by
 intro m;induction m with
 |zero=>
  intro k h1 h2;rw[Lv];obtain rfl:k=g.tg.length:=by omega
  simp[Qc]
 |succ m ih=>
  intro k h1 h2;rw[Lv];by_cases h:k<g.tg.length
  . have e:g.tg.drop k=g.tg[k]::g.tg.drop (k+1):=Zd6 h;have w:av .i64 ((k:Int)+1)=((k+1:Nat):Int):=wrap64 (by omega) (by omega);have hn:=Ip hc g.tg[k] st;have:=ih (k+1) (by omega) (by omega);have e2:(if k+1=0 then none else g.tg[k+1 - 1]?)=some g.tg[k]:=(by rw[Za7 (by omega),Zh4,H0 h]);rw[e2]at this;rw[e,aqa];generalize Qc (some g.tg[k]) (g.tg.drop (k+1))=rest at this ⊢;by_cases h3:oF g.tg[k]=true
    .   by_cases h0:k=0
        . have hk:¬0<k:=(by omega);simp only[h3,Zb3 h0,Zg6,ap8];rw[<-this];simp[lq,h,hn,h3,hk,w]
        . have hk:0<k:=(by omega);have AI:k - 1<g.tg.length:=(by omega);have wk:av .i64 ((k:Int) - 1)=((k - 1:Nat):Int):=(by rw[wrap64 (by omega) (by omega)];omega);simp only[h3,Za7 h0,H0 AI,Zg6,ap9];cases hb:aN g.tg[k - 1] g.tg[k]
          . simp[lq,h,hn,h3,hk,AI,wk,hp,hb]
          . simp only[Zg6];rw[<-this];simp[lq,h,hn,h3,hk,AI,wk,hp,hb,w]
    .   simp[lq,h,hn,h3]
  . obtain rfl:k=g.tg.length:=(by omega);simp[Qc]
theorem adW(hc:Sem c)(g:aT)(st:St)(hw:Wf st):c 182 [.agg g.cells] st=some (.int .i64 (jP g),st):=by
 rw[acG hc 6 (r:=(.int .i64 (jP g),ah st (.cells g.cells 0))),aE (Plain.int _ _) (b9 hw)];rw[afE];have n0:=Ip hc g.name;have n1:=Iq hc g.zX;have n2:=Iq hc g.kq;have n5:=Iq hc g.nH;by_cases hn:(oF g.name&&zJ g.zX&&zJ g.kq&&zJ g.nH)=true
 . have GP:=hn;simp only[Zb5]at GP;obtain⟨⟨⟨b0,b1⟩,b2⟩,b5⟩:=GP;unfold jP;rw[hn];by_cases h1:g.since<0
   . have:¬(0<=g.since/\g.since<=9999):=(by omega);simp[n0,n1,n2,n5,b0,b1,b2,b5,h1,this]
   by_cases h2:9999<g.since
   . have:¬(0<=g.since/\g.since<=9999):=(by omega);simp[n0,n1,n2,n5,b0,b1,b2,b5,h1,h2,this]
   have h3:0<=g.since/\g.since<=9999:=(by omega);by_cases h4:g.side<0
   . have:¬(0<=g.side/\g.side<=2):=(by omega);simp[n0,n1,n2,n5,b0,b1,b2,b5,h1,h2,h3,h4,this]
   by_cases h5:2<g.side
   . have:¬(0<=g.side/\g.side<=2):=(by omega);simp[n0,n1,n2,n5,b0,b1,b2,b5,h1,h2,h3,h4,h5,this]
   have h6:0<=g.side/\g.side<=2:=(by omega);by_cases h7:4<g.tg.length
   . have h8:(4:Int)<g.tg.length:=(by omega);simp[n0,n1,n2,n5,b0,b1,b2,b5,h1,h2,h3,h4,h5,h6,h7,h8]
   . have h8:¬(4:Int)<g.tg.length:=(by omega);have L:∀k1 k3,qD c 6 k1 k3 6 [.ptr st.next 0,lq g.tz g.tg,.int .i64 (g.tg.length:Int),.int .i64 0] (ah st (.cells g.cells 0))=if Qc none (g.tg.drop 0)=true then k3 [] (ah st (.cells g.cells 0))else k1 [.int .i64 22] (ah st (.cells g.cells 0)):=
        λk1 k3=>abd hc st.next g (by omega) 6 _ (aA _ _) k1 k3 5 0 (by omega) (by omega)
     rw[Ze6]at L;generalize Qc none g.tg=b at L ⊢;cases b<;>simp[n0,n1,n2,n5,b0,b1,b2,b5,h1,h2,h3,h4,h5,h6,h7,h8,L]
 . have hn':(oF g.name&&zJ g.zX&&zJ g.kq&&zJ g.nH)=false:=(by simpa using hn);have hx:jP g=4:=(by unfold jP;rw[hn'];simp);rw[hx];cases b0:oF g.name
   . simp[n0,b0]
   . cases b1:zJ g.zX
     .  simp[n0,n1,b0,b1]
     .  cases b2:zJ g.kq
        . simp[n0,n1,n2,b0,b1,b2]
        . cases b5:zJ g.nH
          . simp[n0,n1,n2,n5,b0,b1,b2,b5]
          . simp[b0,b1,b2,b5]at hn
structure Ty where
 a:List Nat
 b:List Nat
 k:Int
def Ty.cells(t:Ty):List AV:=[.str t.a,.str t.b,.int .u8 t.k]
@[simp] theorem Ty.c0(t:Ty):t.cells[0]? =some (.str t.a):=id rfl
@[simp] theorem Ty.c1(t:Ty):t.cells[1]? =some (.str t.b):=id rfl
@[simp] theorem Ty.c2(t:Ty):t.cells[2]? =some (.int .u8 t.k):=id rfl
@[simp] theorem Ty.cc(t:Ty):cut t.cells 0 3=some t.cells:=cQ rfl
theorem Ty.len(t:Ty):t.cells.length=3:=id rfl
@[simp] theorem Ty.one(t:Ty):aQ t.cells=true:=id rfl
@[simp] theorem aui{R:Type}(c:aj)(K:AV->St->Option R)(st:St)(t:Ty)(x y z:AV):aq c (.store 3) [.ptr st.next 0,.agg t.cells] (ah st (.cells [x,y,z] 0)) K=K .undef (ah st (.cells t.cells 0)):=cw c K st 3 (.agg t.cells) [x,y,z] rfl rfl t.one
def gM(z:Bool)(ts:List Ty):AV:=ro 3 z (ts.map Ty.cells)
@[simp] theorem aqb{R:Type}(c:aj)(K:AV->St->Option R)(st:St)(z:Bool)(l:List Ty):aq c (.lenB .l) [gM z l] st K=K (.int .i64 (l.length:Int)) st:=by unfold gM;rw[iy];simp
def nW(gs:List aT)(s:List Nat)(i:Nat):Bool:=decide (gs[i]?.map aT.name=some s)
def gu(s t:Ty):Bool:=aN s.a t.a||(decide (s.a=t.a)&&aN s.b t.b)
def Dj(a b:List Nat):Int:=if aN a b=true then -1 else if aN b a=true then 1 else 0
theorem atI(hc:Sem c)(a b:List Nat)(st:St):c 246 [.str a,.str b] st=some (.int .i64 (Dj a b),st):=by unfold Sem at hc;subst hc;refine abX (s:=FC) (by rfl) ?_;show some (AV.int .i64 (match aN a b with|true=> .negSucc 0|false=>match aN b a with|true=> .ofNat 1|false=> .ofNat 0),st)=_;unfold Dj;generalize aN a b=p;generalize aN b a=q;cases p<;>cases q<;>rfl
theorem abe(hc:Sem c)(a b:List Nat)(st:St):c 227 [.str a,.str b] st=some (.int .i64 (Dj a b),st):=by
 rw[Ko hc 1 (r:=(.int .i64 (Dj a b),st)),aE (Plain.int _ _) (aW.refl st)];rw[ME];simp[atI hc]
theorem acH(hc:Sem c)(a b:List Nat)(st:St):c 184 [.str a,.str b] st=some (.int .i64 (Dj a b),st):=by
 rw[UR hc 1 (r:=(.int .i64 (Dj a b),st)),aE (Plain.int _ _) (aW.refl st)];rw[Zb];simp[abe hc]
theorem aj8{a b:List Nat}:Dj a b=0↔a=b:=by
 unfold Dj;cases h1:aN a b
 . cases h2:aN b a
   . simp;exact Kn _ _ h1 h2
   . simp;intro e;subst e;rw[FP]at h2;cases h2
 . simp;intro e;subst e;rw[FP]at h1;cases h1
def uJ(s t:Ty):Int:=if s.a=t.a then Dj s.b t.b else Dj s.a t.a
theorem Lw(hc:Sem c)(s t:Ty)(st:St)(hw:Wf st):c 130 [.agg s.cells,.agg t.cells] st=some (.int .i64 (uJ s t),st):=by
 rw[acI hc 1 (r:=(.int .i64 (uJ s t),ah (ah st (.cells s.cells 0)) (.cells t.cells 0))),aE (Plain.int _ _) ((b9 hw).trans (b9 (bF hw)))];rw[afF];by_cases h:s.a=t.a
 . have:Dj t.a t.a=0:=aj8.2 rfl;simp[uJ,acH hc,h,this]
 . have:¬Dj s.a t.a=0:=λe=>h (aj8.1 e)
   simp[uJ,acH hc,h,this]
theorem adX{s t:Ty}:uJ s t<0↔gu s t=true:=by
 unfold uJ gu Dj;by_cases h:s.a=t.a
 . simp only[h,FP,Zh5];cases aN s.b t.b<;>cases aN t.b s.b<;>simp
 . simp only[h,Zh2];cases aN s.a t.a<;>cases aN t.a s.a<;>simp
theorem Yy{s t:Ty}:0<uJ s t↔gu t s=true:=by
 unfold uJ gu Dj;by_cases h:s.a=t.a
 . simp only[h,FP,Zh5];cases h1:aN s.b t.b
   . cases aN t.b s.b<;>simp
   . simp[W6 _ _ h1]
 . have h':¬t.a=s.a:=λe=>h e.symm
   simp only[h,h',Zh2];cases h1:aN s.a t.a
   . cases aN t.a s.a<;>simp
   . simp[W6 _ _ h1]
theorem aj9(hc:Sem c)(a b:List Nat)(k:Int)(aS:aN a b=true)(st:St)(hw:Wf st):c 186 [.str a,.str b,.int .u8 k] st=some (.agg (Ty.cells ⟨a,b,k⟩),st):=by
 rw[Qd hc 1 (r:=(.agg (Ty.cells ⟨a,b,k⟩),ah st (.cells (Ty.cells ⟨a,b,k⟩) 0))),aE (Plain.agg (by simp[Ty.cells,Plain.str,Plain.int])) (b9 hw)];rw[W7];have m1:∀(K:AV->St->Option (AV×St))(s:St),aq c .minB [.str a,.str b] s K=K (.str a) s:=λK s=>aR c K (λH n=>by simp[aG.run,Ku,aS]) s
 have m2:∀(K:AV->St->Option (AV×St))(s:St),aq c .maxB [.str a,.str b] s K=K (.str b) s:=λK s=>aR c K (λH n=>by simp[aG.run,Kv,aS]) s
 simp[m1,m2,cE,aX,cZ,AV.cells,aQ,AV.one,cQ,Ty.cells]
def oN(gs:List aT):Nat->Nat->Int×Int
 |0,_=>(0,0)
 |  m+1,k=>match gs[k]? with
    |none=>(0,0)
    |some g=>if jP g≠0 then((k:Int),jP g)else if 0<=scan (nW gs g.name) k 0 then((k:Int),5)else if 64<=k then((k:Int),7)else oN gs m (k+1)
def pI(ts:List Ty)(k:Nat):Option Ty:=if k=0 then none else ts[k - 1]?
def ZU(t:Ty):Bool:=decide (t.k=1)||decide (t.k=2)
def aga(t:Ty)(p:Option Ty):Bool:= !ZU t|| !aN t.a t.b||(match p with|none=>false|some p=>gu t p)
def vH(t:Ty)(p:Option Ty):Bool:=match p with|none=>false|some p=> !gu p t
def ry(gs:List aT)(t:Ty):Bool:=decide (scan (nW gs t.a) gs.length 0<0)||decide (scan (nW gs t.b) gs.length 0<0)
def jQ(gs:List aT)(ts:List Ty):Nat->Nat->Int×Int
 |0,_=>(0,0)
 |  m+1,k=>match ts[k]? with
    |none=>(0,0)
    |some t=>if aga t (pI ts k)=true then((gs.length:Int)+k,23)else if ry gs t=true then((gs.length:Int)+k,6)
     else if vH t (pI ts k)=true then((gs.length:Int)+k,5)else if 256<=k then((gs.length:Int)+k,7)else jQ gs ts m (k+1)
def dS(gs:List aT)(ts:List Ty):Int×Int:=if(oN gs 101 0).2≠0 then oN gs 101 0 else jQ gs ts 101 0
theorem aqc{gs:List aT}{s:List Nat}{k:Nat}(hk:k<=gs.length):scan (nW (gs.take k) s) k 0=scan (nW gs s) k 0:=
 acB k 0 λi _ hi=>by simp[nW,Ze1,show i<k by omega]
theorem acJ (gs:List aT)(ts:List Ty):∀(m k:Nat),(jQ gs ts m k).2=0->(jQ gs ts m k).1=0
 |0,_,_=>rfl
 |m +   1,k , h=>by
  rw[jQ]at h ⊢;split at h
  . rfl
  . split   at h
    .   simp at h
    .   split at h
        . simp at h
        . split at h
          . simp at h
          . split at h
            . simp at h
            . rename_i h1 h2 h3 h4;rw[Za7 h1,Za7 h2,Za7 h3,Za7 h4];exact acJ gs ts m (k+1) h
abbrev qj(s:List Nat):List AV:=[.str s]
theorem FQ(l:List (List Nat)):∀r∈l.map qj,r.length=1:=λr hr=>by simp only[Zd0]at hr;obtain⟨m,_,rfl⟩:=hr;rfl
theorem aqd{s:St}(z:Bool)(l:List (List Nat)):Src 1 s (lq z l) (l.map qj):=Src.ro z _
theorem anE(hc:Sem c){src:AV}(l:List (List Nat))(hl:l.length<=1000)(s:St)(hw:Wf s)(h:Src 1 s src (l.map qj)):∃v s',c 117 [src] s=some (v,s')/\Mk 1 s s' v (l.map qj):=by
 rcases h.nil with⟨rfl,h0⟩|hn
 . (refine⟨.af,s,?_,by rw[h0];exact Mk.start hw (Grew.refl hw)⟩;rw[je hc 1 (r:=(.af,s)),aE Plain.af (aW.refl s)];rw[jR];have e:∀(K:AV->St->Option (AV×St))(s:St),aq c (.bin .eql .slice) [.af,.af] s K=K (.bool true) s:=λK s=>aR c K (λH n=>rfl) s);simp[e]
 . obtain⟨v,s',a1,a2⟩:=aeH (c:=c) (R:=AV×St) (bytes:=16) (z:=[.str []]) (FQ l) (by decide) (by simp;omega) (by simp;omega) s hw h;obtain⟨fN,t1,t2⟩:=a2.tidy;refine⟨v,fN,?_,t2⟩;rw[je hc 1 (r:=(v,s')),t1];rw[jR];simp only[az,hn,di];rw[a1]
def aT.ax(g:aT)(v:AV):List AV:=[.str g.name,.str g.zX,.str g.kq,.int .i64 g.since,.int .i64 g.side,.str g.nH,.bool g.host,.bool g.access,v]
theorem aT.anF(g:aT):g.ax (lq g.tz g.tg)=g.cells:=rfl
theorem aT.Ln(t:aT){v:AV}(h:aQ [v]=true):aQ (t.ax v)=true:=by
 simp only[aQ]at h;unfold aT.ax;simp only[aQ,AV.one,h,Zk2,Zi3]at*
structure aT.Low(g:aT):Prop where
 name:∀x∈g.name,x<256
 zX:∀x∈g.zX,x<256
 kq:∀x∈g.kq,x<256
 nH:∀x∈g.nH,x<256
theorem aeZ(hc:Sem c)(g:aT)(hg:g.Low)(hl:g.tg.length<=1000){src:AV}(s:St)(hw:Wf s)(h:Src 1 s src (g.tg.map qj))(h1:src.cells=[src])(h2:src.one=true):
  ∃v s',c 183 [.agg (g.ax src)] s=some (.agg (g.ax v),s')/\Mk 1 s s' v (g.tg.map qj):=by
 let zero:List AV:=[.str [],.str [],.str [],.int .i64 0,.int .i64 0,.str [],.bool false,.bool false,.af]
 have sQ:Wf (ah (ah s (.cells (g.ax src) 0)) (.cells zero 0)):=bF (bF hw);have CR:=(Grew.ah hw (.cells (g.ax src) 0)).trans (Grew.ah (bF hw) (.cells zero 0));obtain⟨v,s3,h3,M⟩:=anE hc g.tg hl _ sQ (h.ai CR);have M0:=M.back hw CR;have hx:s3.heap.get s.next=some (.cells (g.ax src) 0):=M.ai.get Ld;have hy:s3.heap.get (ah s (.cells (g.ax src) 0)).next=some (.cells zero 0):=M.ai.get (aA _ _);obtain⟨hvc,hvo⟩:=M.cells;have dJ:s.next≠(ah s (.cells (g.ax src) 0)).next:=Pos.Yq _;have alv:s.next.toNat<s3.next.toNat:=by have:=M.ai.next;rw[bM,bM,Pos.aF,Pos.aF]at this;omega
 have apu:(ah s (.cells (g.ax src) 0)).next.toNat<s3.next.toNat:=by have:=M.ai.next;rw[bM,Pos.aF]at this;omega
 have vo:v.one=true:=yD hvo;have Aw:aX (g.ax src) 8 [v]=g.ax v:=rfl;have ZC:aQ (g.ax v)=true:=g.Ln hvo;have hro0:aQ (g.ax src)=true:=g.Ln (by simp only[aQ,h2]);have new:∀b,aL v=some b->(ah s (.cells (g.ax src) 0)).next.toNat<b.toNat:=λb hb=>by have:=M.new b hb;rw[bM,Pos.aF]at this;omega
 have VF:s.next.toNat<(ah s (.cells (g.ax src) 0)).next.toNat:=by rw[bM,Pos.aF];omega
 let s4:=bg s3 s.next (.cells (g.ax v) 0)
 let s5:=bg s4 (ah s (.cells (g.ax src) 0)).next (.cells (g.ax v) 0)
 have hx4:s4.heap.get s.next=some (.cells (g.ax v) 0):=bG _ _ _;have hy4:s4.heap.get (ah s (.cells (g.ax src) 0)).next=some (.cells zero 0):=by show(bg s3 s.next (.cells (g.ax v) 0)).heap.get _=_;rw[aJ dJ];exact hy
 have hy5:s5.heap.get (ah s (.cells (g.ax src) 0)).next=some (.cells (g.ax v) 0):=bG _ _ _;have M4:Mk 1 s s4 v (g.tg.map qj):=M0.store (Za3 _) alv (λe=>by have:=new _ e;omega);have M5:Mk 1 s s5 v (g.tg.map qj):=M4.store (by omega) apu (λe=>by have:=new _ e;omega);have hi:∀u∈g.ax v,dQ u:=λu hu=>by
  simp only[aT.ax,Zb0,Zc5,Zf2]at hu;rcases hu with rfl|rfl|rfl|rfl|rfl|rfl|rfl|rfl|rfl
  . exact dQ.str hg.name
  . exact dQ.str hg.zX
  . exact dQ.str hg.kq
  . exact dQ.int _ _
  . exact dQ.int _ _
  . exact dQ.str hg.nH
  . exact dQ.bool _
  . exact dQ.bool _
  . exact M.inst
 obtain⟨fN,t1,_,t2⟩:=M5.RJ (l:=g.ax v) (by simp[aT.ax]) hi;refine⟨v,fN,?_,t2⟩;rw[abf hc 1 (r:=(.agg (g.ax v),s5)),t1];rw[adY];have bD:=λ(K:AV->St->Option (AV×St))=>cg c K s3 1 s.next 8 v (g.ax src) hx (by rw[hvc];rfl) (by simp[aT.ax]) (by rw[hvc];exact hvo)
 rw[hvc,Aw]at bD;have Av:=λ(K:AV->St->Option (AV×St))=>cg c K s4 9 (ah s (.cells (g.ax src) 0)).next 0 (.agg (g.ax v)) _ hy4 rfl (by simp[zero,aT.ax]) ZC
 have hsp2:aX zero 0 (AV.agg (g.ax v)).cells=g.ax v:=rfl;rw[hsp2]at Av;have hcut:cut (g.ax v) 0 9=some (g.ax v):=cQ rfl;have g8:(g.ax src)[8]? =some src:=rfl;have st2':∀(K:AV->St->Option (AV×St)),aq c (.store 9) [.ptr (ah s (.cells (g.ax src) 0)).next 0,.agg (g.ax v)] (bg s3 s.next (.cells (g.ax v) 0)) K=K .undef s5:=λK=>Av K
 have bx:∀(K:AV->St->Option (AV×St)),aq c .box [.agg (g.ax src)] s K=K (.ptr s.next 0) (ah s (.cells (g.ax src) 0)):=λK=>by rw[dm];rfl
 simp[bx,h3,g8,zero,bD,hcut];rw[st2'];simp only[hy5,aB,Za8,hcut,eO]
theorem TM(b:Pos)(off:Nat):¬Plain (.ptr b off):=λh=>by
 have:=h (λ_=>⟨0,0,0⟩) (λ_=>⟨0,0,0⟩) (b.toNat+1) 0 (λ_=>none) _ (.ptr b off (by omega));cases this with
 |ptr _ _ h=>omega
theorem aqe{s s':St}{b:Pos}{off:Nat}:tidy s (.ptr b off,s')=(.ptr b off,s'):=by unfold tidy;rw[Za7];exact λh=>TM _ _ h.1
theorem atJ(hc:Sem c)(s:St):c 128 [] s=some (.ptr (ah s (.map [] 0)).next 0,ah (ah s (.map [] 0)) (.cells [.af,.af,.map s.next] 0)):=by
 rw[afG hc 1 (r:=(.ptr (ah s (.map [] 0)).next 0,ah (ah s (.map [] 0)) (.cells [.af,.af,.map s.next] 0))),aqe];rw[aje];simp[cE,aX,cZ,AV.cells]
def kT(k:Option Pos)(n es:Nat):AV:=match k with
 |none=> .af
 |some b=> .slice b 0 n none es
theorem SC{k:Option Pos}{n es:Nat}(h:k=none->n=0):∀H p,aG.run H p (.lenB .l) [kT k n es]=some (.val (.int .i64 (n:Int))):=λH p=>by
 cases k with
 |none=>rw[h rfl];rfl
 |some b=>rfl
def alw(s0 s:St)(bp:Pos)(gk tk:Option Pos)(g:aT)(row:List AV):Prop:=g.Low/\g.tg.length<=4/\∃v,row=g.ax v/\v.cells=[v]/\v.one=true/\QS 1 s v (g.tg.map qj)/\∀p,aL v=some p->p≠bp/\gk≠some p/\tk≠some p/\s0.heap.get p=none
theorem anG{es:Nat}{s:St}{v:AV}{rows:List (List AV)}(h:QS es s v rows){b:Pos}(hb:aL v=some b):∃cs,s.heap.get b=some (.cells cs 0):=by
 rcases h with⟨rfl,rfl⟩|⟨b',off,cap,cs,rfl,h1,_⟩|⟨b',off,rfl,rfl⟩
 . cases hb
 . obtain rfl:=sY hb;exact⟨cs,h1⟩
 . rw[lV]at hb;cases hb
theorem alw.to{s0 s s':St}{bp:Pos}{gk tk TO oR:Option Pos}{g:aT}{row:List AV}(h:alw s0 s bp gk tk g row)
   (hk:∀p cs,p≠bp->gk≠some p->tk≠some p->s.heap.get p=some (.cells cs 0)->s'.heap.get p=some (.cells cs 0)/\TO≠some p/\oR≠some p):alw s0 s' bp TO oR g row:=by
 obtain⟨h1,h2,v,h3,h4,h5,h6,h7⟩:=h;refine⟨h1,h2,v,h3,h4,h5,h6.mono λb x hb hx=> ?_,λp hp=> ?_⟩
 . obtain⟨cs,h8⟩:=anG h6 hb;rw[h8]at hx;cases hx;obtain⟨a1,a2,a3,_⟩:=h7 b hb;exact(hk b cs a1 a2 a3 h8).1
 . obtain⟨cs,h8⟩:=anG h6 hp;obtain⟨a1,a2,a3,a4⟩:=h7 p hp;exact⟨a1,(hk p cs a1 a2 a3 h8).2.1,(hk p cs a1 a2 a3 h8).2.2,a4⟩
structure eD(s0 s:St)(bp mp:Pos)(gs:List aT)(ts:List Ty)(gk tk:Option Pos):Prop where
 wf:Wf s
 keeps:aW s0 s
 next:s0.next.toNat<=s.next.toNat
 book:s.heap.get bp=some (.cells [kT gk gs.length 9,kT tk ts.length 3,.map mp] 0)
 Dk:∃es cl,s.heap.get mp=some (.map es cl)/\es.map (·.1)=gs.map λg=> .str g.name
 tr:(gk=none->gs=[])/\∀b,gk=some b->∃cs,s.heap.get b=some (.cells cs 0)/\cs.length=gs.length*9
 xW:(tk=none->ts=[])/\∀b,tk=some b->s.heap.get b=some (.cells (ts.flatMap Ty.cells) 0)
 dg:gk≠some bp
 dt:tk≠some bp
 ZV:∀b,gk=some b->tk≠some b
 fb:s0.heap.get bp=none
 fm:s0.heap.get mp=none
 fg:∀b,gk=some b->s0.heap.get b=none
 ft:∀b,tk=some b->s0.heap.get b=none
 Oi:∀es cl,s.heap.get mp=some (.map es cl)->∀e∈es,∃i:Nat,e.2.1= .int .i64 (i:Int)/\i<gs.length
 rows:∀b cs,gk=some b->s.heap.get b=some (.cells cs 0)->∀(i:Nat)(g:aT),gs[i]? =some g->alw s0 s bp gk tk g ((cs.drop (i*9)).take 9)
theorem eD.lt{s0 s:St}{bp mp:Pos}{gs:List aT}{ts:List Ty}{gk tk:Option Pos}(h:eD s0 s bp mp gs ts gk tk):bp.toNat<s.next.toNat/\mp.toNat<s.next.toNat:=by
 obtain⟨es,cl,h1,_⟩:=h.Dk;exact⟨h.wf _ _ h.book,h.wf _ _ h1⟩
theorem eD.ai{s0 s s':St}{bp mp:Pos}{gs:List aT}{ts:List Ty}{gk tk:Option Pos}(h:eD s0 s bp mp gs ts gk tk)(g:Grew s s'):eD s0 s' bp mp gs ts gk tk where
 wf:=g.wf
 keeps:=h.keeps.trans g.keeps
 next:=Zb2 h.next g.next
 book:=g.get h.book
 Dk:=let⟨es,cl,h1,h2⟩:=h.Dk;⟨es,cl,g.get h1,h2⟩
 tr:=⟨h.tr.1,λb hb=>let⟨cs,h1,h2⟩:=h.tr.2 b hb;⟨cs,g.get h1,h2⟩⟩
 xW:=⟨h.xW.1,λb hb=>g.get (h.xW.2 b hb)⟩
 dg:=h.dg
 dt:=h.dt
 ZV:=h.ZV
 fb:=h.fb
 fm:=h.fm
 fg:=h.fg
 ft:=h.ft
 Oi:=λes cl hm=>by obtain⟨es0,cl0,h1,h2⟩:=h.Dk;have:=g.get h1;rw[hm]at this;cases this;exact h.Oi _ _ h1
 rows:=λb cs hb hs i u hu=>by
  obtain⟨ZW,h1,h2⟩:=h.tr.2 b hb;have:=g.get h1;rw[hs]at this;cases this;exact(h.rows b _ hb h1 i u hu).to λp cs _ a2 a3 hx=>⟨g.get hx,a2,a3⟩
theorem vI{s0:St}{jb:Pos}{y:AB}(hj:s0.heap.get jb=some y){q:Pos}(hq:s0.heap.get q=none):q≠jb:=λe=>by rw[e,hj]at hq;cases hq
theorem eD.at{s0 s s':St}{bp mp:Pos}{gs:List aT}{ts:List Ty}{gk tk:Option Pos}(h:eD s0 s bp mp gs ts gk tk){jb:Pos}{y:AB}(hj:s0.heap.get jb=some y)(hw:Wf s')(hk:∀q x,q≠jb->s.heap.get q=some x->s'.heap.get q=some x):
  eD { heap:= .e,next:=s'.next } s' bp mp gs ts gk tk where
 wf:=hw
 keeps:=λb x hb=>by rw[T.dO]at hb;cases hb
 next:=Za3 _
 book:=hk _ _ (vI hj h.fb) h.book
 Dk:=let⟨es,cl,h1,h2⟩:=h.Dk;⟨es,cl,hk _ _ (vI hj h.fm) h1,h2⟩
 tr:=⟨h.tr.1,λb hb=>let⟨cs,h1,h2⟩:=h.tr.2 b hb;⟨cs,hk _ _ (vI hj (h.fg b hb)) h1,h2⟩⟩
 xW:=⟨h.xW.1,λb hb=>hk _ _ (vI hj (h.ft b hb)) (h.xW.2 b hb)⟩
 dg:=h.dg
 dt:=h.dt
 ZV:=h.ZV
 fb:=T.dO _
 fm:=T.dO _
 fg:=λb _=>T.dO _
 ft:=λb _=>T.dO _
 Oi:=λes cl hm=>by obtain⟨es0,cl0,h1,h2⟩:=h.Dk;have:=hk _ _ (vI hj h.fm) h1;rw[hm]at this;cases this;exact h.Oi _ _ h1
 rows:=λb cs hb hs i u hu=>by
  obtain⟨ZW,h1,h2⟩:=h.tr.2 b hb;have:=hk _ _ (vI hj (h.fg b hb)) h1;rw[hs]at this;cases this;obtain⟨k1,k2,v,k3,k4,k5,k6,k7⟩:=h.rows b _ hb h1 i u hu;exact⟨k1,k2,v,k3,k4,k5,k6.mono λb x hb hx=>hk b x (vI hj (k7 b hb).2.2.2) hx,λp hp=>⟨(k7 p hp).1,(k7 p hp).2.1,(k7 p hp).2.2.1,T.dO _⟩⟩
theorem eD.start{s:St}(hw:Wf s):eD s (ah (ah s (.map [] 0)) (.cells [.af,.af,.map s.next] 0)) (ah s (.map [] 0)).next s.next [] [] none none where
 wf:=bF (bF hw)
 keeps:=(b9 hw).trans (b9 (bF hw))
 next:=by simp only[bM,Pos.aF];omega
 book:=aA _ _
 Dk:=⟨[],0,Ld,rfl⟩
 tr:=⟨λ_=>rfl,λb h=>by cases h⟩
 xW:=⟨λ_=>rfl,λb h=>by cases h⟩
 dg:=λh=>by cases h
 dt:=λh=>by cases h
 ZV:=λb h=>by cases h
 fb:=by
  cases h:s.heap.get (ah s (.map [] 0)).next with
  |none=>rfl
  |some x=>have:=hw _ _ h;rw[bM,Pos.aF]at this;omega
 fm:=by
  cases h:s.heap.get s.next with
  |none=>rfl
  |some x=>have:=hw _ _ h;omega
 fg:=λb h=>by cases h
 ft:=λb h=>by cases h
 Oi:=λes cl hm e he=>by have:(ah (ah s (.map [] 0)) (.cells [.af,.af,.map s.next] 0)).heap.get s.next=some (.map [] 0):=Ld;rw[hm]at this;cases this;cases he
 rows:=λb cs h=>by cases h
theorem Gl(s:List Nat):∀(gs:List aT)(es:List (AV×AV×Nat))(i:Nat),es.map (·.1)=gs.map (λg=> .str g.name)->
  (s∈gs.map aT.name/\∃j v,iu .s (.str s) es i=some (some (j,v)))\/(s∉gs.map aT.name/\iu .s (.str s) es i=some none)
 |[],es,i,h=>by
  have:es=[]:=by simpa using h
  subst this;exact .inr ⟨by simp,rfl⟩
 |g::gs,[],i,h=>by simp at h
 |g ::gs,(k,v,n)::es,i,h=>by
  simp only[Zd5,Zg2]at h;obtain⟨h1,h2⟩:=h;subst h1;by_cases e:s=g.name
  . subst e;exact .inl ⟨by simp,i,v,by simp[iu,Bp,iT]⟩
  . rcases Gl s gs es (i+1) h2 with⟨a,b⟩|⟨a,b⟩
    .   left;refine⟨by simp at a ⊢; exact .inr a,?_⟩;simpa [iu,Bp,iT,e]using b
    .   right;refine⟨by simp at a ⊢; exact⟨e,a⟩,?_⟩;simpa [iu,Bp,iT,e]using b
theorem SD{gs:List aT}{s:List Nat}:0<=scan (nW gs s) gs.length 0↔s∈gs.map aT.name:=by
 constructor
 . intro h;obtain⟨_,h2,h3⟩:=Bv _ _ h;simp only[nW,Ze4]at h3;rw[H0 (by omega)]at h3;simp only[Ze5,H5]at h3;rw[<-h3];exact Zd0.2 ⟨_,Zb8 _,rfl⟩
 . intro  h;obtain⟨g,hg,rfl⟩:=Zd0.1 h;obtain⟨i,hi,rfl⟩:=Zg0.1 hg;have key:∀(m k:Nat),k<=i->i<k+m->0<=scan (nW gs gs[i].name) m k:=by
    intro m;induction m with
    |zero=>intro k h1 h2;omega
    |   succ m ih=>
        intro k h1 h2;unfold scan;split
        . omega
        . rename_i dJ;by_cases e:k=i
          . subst e;simp[nW,hi]at dJ
          . exact ih (k+1) (by omega) (by omega)
   exact key _ _ (by omega) (by omega)
theorem Yz(hc:Sem c)(s:St)(bp mp:Pos)(x y:AV)(h:s.heap.get bp=some (.cells [x,y,.map mp] 0)):c 136 [.ptr bp 0] s=some (.bool false,s):=by
 rw[US hc 1 (r:=(.bool false,s)),aE (Plain.bool _) (aW.refl s)];rw[Zc];have e1:∀(K:AV->St->Option (AV×St))(s:St),aq c (.bin .eql .ptr) [.ptr bp 0,.jg] s K=K (.bool false) s:=λK s=>aR c K (λH n=>rfl) s
 have e2:∀(K:AV->St->Option (AV×St))(s:St),aq c (.bin .eql .map) [.map mp,.qG] s K=K (.bool false) s:=λK s=>aR c K (λH n=>rfl) s
 simp[e1,e2,h]
theorem alx(z:Bool)(l:List (List Nat)):(lq z l).cells=[lq z l]:=by unfold lq ro;split<;>rfl
theorem aqf(z:Bool)(l:List (List Nat)):(lq z l).one=true:=by unfold lq ro;split<;>rfl
theorem aka{s:List Nat}(h:oF s=true):∀x∈s,x<256:=λx hx=>by simp only[oF,Zb5,Zg9,Ze4]at h;have:=h.2 x hx;omega
theorem adZ{s:List Nat}(h:zJ s=true):∀x∈s,x<256:=λx hx=>by
 simp only[zJ,Zj4,Ze4]at h;rcases h with h|h
 . rw[h]at hx;cases hx
 . exact aka h x hx
theorem ae0{g:aT}(h:jP g=0):g.Low:=by
 unfold jP at h;split at h
 . simp at h
 . rename_i hn;simp only[Bool.not_eq_false,Zb5]at hn;exact⟨aka hn.1.1.1,adZ hn.1.1.2,adZ hn.1.2,adZ hn.2⟩
theorem akb{s:St}(hw:Wf s){k:Option Pos}{n es bytes:Nat}{q:Pos}{row:List AV}(hk:k=none->n=0)(eX:∀b,k=some b->∃cs,s.heap.get b=some (.cells cs 0)/\cs.length=n*es)(hq:s.heap.get q=some (.cells row 0))(hr:row.length=es)
  (h1:aQ row=true) (dV:es≠0) (hb:(2*(n+1)+768)*bytes<=281474976710656) (hn:n<=1000):
  ∃ s5 nv,(∀(K:AV->St->Option (AV×St)),aq c (.append es bytes) [kT k n es,.slice q 0 1 (some 1) es] s K=K (.slice s.next 0 (n+1) none es) s5)/\s5.heap.get s.next=some (.cells nv 0)/\nv.length=(n+1)*es/\
    (∀b cs,k=some b->s.heap.get b=some (.cells cs 0)->nv=cs++row)/\(k=none->nv=row)/\s5.next=s.next.succ/\Wf s5/\∀p,k≠some p->p.toNat<s.next.toNat->s5.heap.get p=s.heap.get p:=by
 have hx:dF es 1 (λb=>s.heap.get b) (.slice q 0 1 (some 1) es)=some row:=by simp only[dF,dc,Zp0,Za1 dV,hq];exact cQ hr
 cases k with
 |none=>
  obtain rfl:=hk rfl;refine⟨ah s (.cells row 0),row,λK=>ag4 c K (m:=1) rfl (by omega) (by omega) (by omega) hx,aA _ _,by omega,λb cs h=>(by cases h),λ_=>rfl,rfl,bF hw,λp _ hp=>wT hp⟩
 |some b=>
  obtain⟨cs,h2,h3⟩:=eX b rfl;have ho:dF es n (λb=>s.heap.get b) (.slice b 0 n none es)=some cs:=by
    by_cases h0:n=0
    .   subst h0;have:cs=[]:=Zc4 (by omega);subst this;simp[dF,dc]
    .   have:¬n*es=0:=λe=>by rcases Nat.mul_eq_zero.1 e with e|e<;>omega
        simp only[dF,dc,Za1 this,h2];exact cQ h3
  refine⟨dst s b (.cells (cs++row) 0),cs++row,λK=>arS c K (m:=1) rfl (by omega) hb (by omega) h2 ho hx h1,adx _ _ _,?_,λb' cs2 e h=> ?_,λh=>(by cases h),rfl,amV hw,λp hp hl=>ab0 (λe=>hp (by rw[e])) hl⟩
  . rw[Ze8,h3,hr,Zj3,Zp0]
  . cases e;rw[h2]at h;cases h;rfl
def yN(gs:List aT)(g:aT):Int:=if jP g≠0 then jP g else if 0<=scan (nW gs g.name) gs.length 0 then 5 else if gs.length=64 then 7 else 0
set_option maxHeartbeats 1000000 in
theorem atK (hc : Sem c){s0 s:St}{bp mp:Pos}{gs:List aT}{ts:List Ty}{gk tk:Option Pos}(GZ:Wf s0)(B:eD s0 s bp mp gs ts gk tk)(hl:gs.length<=64)(g:aT):
   ∃s',c 129 [.ptr bp 0,.agg g.cells] s=some (.int .i64 (yN gs g),s')/\(yN gs g≠0->s'=s)/\(yN gs g=0->∃TO,eD s0 s' bp mp (gs++[g]) ts TO tk):=by
 have cN:Wf (ah s (.cells g.cells 0)):=bF B.wf;have B1:=B.ai (Grew.ah B.wf (.cells g.cells 0));generalize hs1:ah s (.cells g.cells 0)=s1 at cN B1;have hpg:s1.heap.get s.next=some (.cells g.cells 0):=by rw[<-hs1];exact aA _ _
 have nQ:=Yz hc s1 bp mp _ _ B1.book;have hch:=adW hc g s1 cN;have lG:∀(K:AV->St->Option (AV×St))(s:St),aq c (.lenB .l) [kT gk gs.length 9] s K=K (.int .i64 (gs.length:Int)) s:=λK s=>aR c K (SC λh=>by rw[B.tr.1 h];rfl) s
 have lG2:∀(K:AV->Option (AV×St)),fh (.lenB .l) [kT gk gs.length 9] K=K (.int .i64 (gs.length:Int)):=λK=>cX K (SC λh=>by rw[B.tr.1 h];rfl)
 obtain⟨es,cl,oG,hm2⟩:=B1.Dk;have fail:∀e:Int,e≠0->yN gs g=e->zu c 1 (.ptr bp 0) (.agg g.cells) s=some (.int .i64 e,s1)->∃s',c 129 [.ptr bp 0,.agg g.cells] s=some (.int .i64 (yN gs g),s')/\(yN gs g≠0->s'=s)/\(yN gs g=0->∃TO,eD s0 s' bp mp (gs++[g]) ts TO tk):=λe he ha h=>by
   refine⟨s,?_,λ_=>rfl,λh0=>absurd (ha.symm.trans h0) he⟩;rw[G8 hc 1 h,ha,aE (Plain.int _ _) (by rw[<-hs1];exact b9 B.wf)]
 have eb:∀(K:AV->St->Option (AV×St)),aq c .box [.agg g.cells] s K=K (.ptr s.next 0) s1:=λK=>by rw[dm, <-hs1];rfl
 have h64:((gs.length:Int)=64)↔gs.length=64:=by omega
 by_cases h1:jP g=0
 . rcases Gl  g.name gs es 0 hm2 with⟨zD,j,v,hf⟩|⟨zD,hf⟩
   . have hsc:=SD.2 zD;refine fail 5 (by omega) (by simp[yN,h1,hsc]) ?_;rw[vJ];have lk:=λ(K:AV->Option (AV×St))=>aeB K (.int .i64 0) (h:=s1.heap) (k:= .str g.name) oG hf
     simp[eb,nQ,hch,h1,hpg,B1.book,lk]
   . have hsc: ¬0<=scan (nW gs g.name) gs.length 0:=λh=>zD (SD.1 h)
     have lk:=λ(K:AV->Option (AV×St))=>aeB K (.int .i64 0) (h:=s1.heap) (k:= .str g.name) oG hf
     by_cases h2:gs.length=64
     .  have h2d:decide ((gs.length:Int)=64)=true:=Za0 (by omega);refine fail 7 (by omega) (by unfold yN;rw[Za7 (by simp[h1]),Za7 hsc,Zb3 h2]) ?_;rw[vJ];simp[eb,nQ,hch,h1,hpg,B1.book,lk,lG,h2d]
     .  have htg:g.tg.length<=4:=by
          unfold jP at h1;split at h1
          . simp at h1
          . split at h1
            . simp at h1
            . split at h1
              . simp at h1
              . split at h1
                . simp at h1
                . omega
        have he:yN gs g=0:=(by unfold yN;rw[Za7 (by simp[h1]),Za7 hsc,Za7 h2]);have h2d:decide ((gs.length:Int)=64)=false:=Za1 (by omega);have lt1:=B1.lt;have zB:s.next.toNat<s1.next.toNat:=(by rw[<-hs1,bM,Pos.aF];omega);have nmb:mp≠bp:=λe=>by rw[e,B1.book]at oG;cases oG
        have nmp:mp≠s.next:=λe=>by rw[e,hpg]at oG;cases oG
        let Vt:=es++[(AV.str g.name,AV.int .i64 (gs.length:Int),cl)]
        let s2:=bg s1 mp (.map Vt (cl+1))
        have sQ:Wf s2:=jY cN lt1.2;have b2:s2.heap.get bp=some (.cells [kT gk gs.length 9,kT tk ts.length 3,.map mp] 0):=(by show(bg _ _ _).heap.get bp=_;rw[aJ nmb];exact B1.book);have p2:s2.heap.get s.next=some (.cells g.cells 0):=(by show(bg _ _ _).heap.get _=_;rw[aJ nmp];exact hpg);have m2:s2.heap.get mp=some (.map Vt (cl+1)):=bG _ _ _;obtain⟨v,s3,q1,M⟩:=aeZ hc g (ae0 h1) (by omega) s2 sQ (aqd g.tz g.tg) (alx _ _) (aqf _ _);rw[aT.anF]at q1
        let row:=g.ax v
        have q2:=M.ai;have q3:row.length=9:=rfl;have vone:v.one=true:=yD M.cells.2;have q4:aQ row=true:=g.Ln M.cells.2;have hw4:Wf (ah s3 (.cells row 0)):=bF q2.wf;have gr4:=q2.trans (Grew.ah q2.wf (.cells row 0));have gK:∀p x,s2.heap.get p=some x->p.toNat<(ah s3 (.cells row 0)).next.toNat:=λp x h=>hw4 p x (gr4.get h)
        have eX:∀b,gk=some b->∃cs,(ah s3 (.cells row 0)).heap.get b=some (.cells cs 0)/\cs.length=gs.length*9:=λb hb=>by
          obtain⟨cs,h3,h4⟩:=B1.tr.2 b hb;have:mp≠b:=λe=>by rw[e,h3]at oG;cases oG
          exact⟨cs,gr4.get (by show(bg _ _ _).heap.get b=_;rw[aJ this];exact h3),h4⟩
        obtain⟨s5,nv,r1,r2,r3,ra,rb,r4,r5,r6⟩:=akb (c:=c) (es:=9) (bytes:=112) hw4 (k:=gk) (n:=gs.length) (λh=>by rw[B.tr.1 h];rfl) eX (aA _ _) q3 q4 (by omega) (by omega) (by omega);have ZS:(ah s3 (.cells row 0)).next=s3.next.succ:=rfl;have keep:∀p x,s2.heap.get p=some x->gk≠some p->s5.heap.get p=some x:=λp x h dJ=>by rw[r6 p dJ (gK p x h)];exact gr4.get h
        have b5:=keep bp _ b2 B.dg
        let gv:=AV.slice (ah s3 (.cells row 0)).next 0 (gs.length+1) none 9
        let s6:=bg s5 bp (.cells [gv,kT tk ts.length 3,.map mp] 0)
        have ahH:bp.toNat<s5.next.toNat:=r5 _ _ b5;have nb4:bp≠(ah s3 (.cells row 0)).next:=λe=>by have:=gK _ _ b2;rw[e]at this;omega
        have st6:∀(K:AV->St->Option (AV×St)),aq c (.store 1) [.ptr bp 0,gv] s5 K=K .undef s6:=λK=>cg c K s5 1 bp 0 gv _ b5 rfl (by simp) rfl
        have g6:∀p,p≠bp->s6.heap.get p=s5.heap.get p:=λp h=>aJ (λe=>h e.symm)
        have aly:∀p:Pos,s0.next.toNat<=p.toNat->s0.heap.get p=none:=λp h=>by
          cases hx:s0.heap.get p with
          |none=>rfl
          |some x=>have:=GZ _ _ hx;omega
        have nx:s0.next.toNat<=(ah s3 (.cells row 0)).next.toNat:=Zb2 B1.next (Zb2 (by show s1.next.toNat<=s2.next.toNat;exact Za3 _) gr4.next)
        have ahZ:eD s0 s6 bp mp (gs++[g]) ts (some (ah s3 (.cells row 0)).next) tk:={
          wf:=jY r5 ahH
          keeps:=λp x hp=>by
            have n1:p≠bp:=λe=>by rw[e,B.fb]at hp;cases hp
            have n2:mp≠p:=λe=>by rw[<-e,B.fm]at hp;cases hp
            have n3:gk≠some p:=λe=>by rw[B.fg p e]at hp;cases hp
            rw[g6 p n1];exact keep p x (by show(bg _ _ _).heap.get p=_;rw[aJ n2];exact B1.keeps p x hp) n3
          next:=by show s0.next.toNat<=s5.next.toNat;rw[r4,Pos.aF];omega
          book:=by show(bg _ _ _).heap.get bp=_;rw[bG];simp[gv,kT]
          Dk:=⟨Vt,cl+1,by
            rw[g6 mp nmb];exact keep mp _ m2 (λe=>by obtain⟨cs,h3,_⟩:=B1.tr.2 mp e;rw[h3]at oG;cases oG),by simp[Vt,hm2]⟩
          tr:=⟨λh=>(by cases h),λb hb=>by cases hb;refine⟨nv,?_,by rw[r3];simp⟩;rw[g6 _ (λe=>nb4 e.symm)];exact r2⟩
          xW:=⟨B.xW.1,λb hb=>by
            have h3:=B1.xW.2 b hb;have n1:b≠bp:=λe=>B.dt (by rw[<-e];exact hb)
            have n2:mp≠b:=λe=>by rw[e,h3]at oG;cases oG
            have n3:gk≠some b:=λe=>B.ZV b e hb
            rw[g6 b n1];exact keep b _ (by show(bg _ _ _).heap.get b=_;rw[aJ n2];exact h3) n3⟩
          dg:=λe=>nb4 (by injection e with e;exact e.symm)
          dt:=B.dt
          ZV:=λb hb ht=>by
            (cases hb;have h3:=B1.xW.2 _ ht;have n2:mp≠(ah s3 (.cells row 0)).next:=λe=>by rw[e,h3]at oG;cases oG);have:=gK _ _ (show s2.heap.get (ah s3 (.cells row 0)).next=_ from(aJ n2).trans h3);omega
          fb:=B.fb
          fm:=B.fm
          fg:=λb hb=>by cases hb;exact aly _ nx
          ft:=B.ft
          Oi:=λes' cl' hm e he=>by
            have m6:s6.heap.get mp=some (.map Vt (cl+1)):=by
              rw[g6 mp nmb];exact keep mp _ m2 (λe=>by obtain⟨cs,h3,_⟩:=B1.tr.2 mp e;rw[h3]at oG;cases oG)
            rw[hm]at m6;cases m6;rcases Zd8.1 he with he|he
            . obtain⟨i,e1,e2⟩:=B1.Oi _ _ oG e he;exact⟨i,e1,by simp;omega⟩
            . simp only[Zb0,Zc5,Zf2]at he;subst he;exact⟨gs.length,rfl,by simp⟩
          rows:=  λb cs hb hs i u hu=>by
            cases hb;have r2':s6.heap.get (ah s3 (.cells row 0)).next=some (.cells nv 0):=(by rw[g6 _ (λe=>nb4 e.symm)];exact r2);rw[hs]at r2';cases r2';by_cases hi:i<gs.length
            . rw[Zc3 hi]at hu;cases hgk:gk with
              |none=>rw[B.tr.1 hgk]at hi;simp at hi
              | some b0=>
                obtain⟨ZW,h3,h4⟩:=B1.tr.2 b0 hgk;have n0:mp≠b0:=λe=>by rw[e,h3]at oG;cases oG
                have e0:=ra b0 ZW hgk (gr4.get (by show(bg _ _ _).heap.get b0=_;rw[aJ n0];exact h3));have R0:=B1.rows b0 ZW hgk h3 i u hu;rw[e0,Zg5 (by omega),Zl8 (by simp;omega)];(refine R0.to λp cs a1 a2 a3 hx=> ?_);have n1:mp≠p:=λe=>by rw[e,hx]at oG;cases oG
                have x2:s2.heap.get p=some (.cells cs 0):=(by show(bg _ _ _).heap.get p=_;rw[aJ n1];exact hx);have aS:=gK p _ x2;refine⟨by rw[g6 p a1];exact keep p _ x2 a2,λe=> ?_,a3⟩;cases e;omega
            . have GF:i=gs.length:=(by have:=(Za2.1 hu).1;simp at this;omega);subst GF;simp at hu;subst hu;have er:(nv.drop (gs.length*9)).take 9=row:=by
                cases hgk:gk with
                | none=>
                  rw[rb hgk,B.tr.1 hgk];exact Zf7 (by simp[q3])
                | some b0=>
                  obtain⟨ZW,h3,h4⟩:=B1.tr.2 b0 hgk;have n0:mp≠b0:=λe=>by rw[e,h3]at oG;cases oG
                  rw[ra b0 ZW hgk (gr4.get (by show(bg _ _ _).heap.get b0=_;rw[aJ n0];exact h3)), <-h4];rw[Zg5 (Za3 _)];simp[Zf7 (Zr2 q3)]
              (rw[er];have MR:∀p x,s2.heap.get p=some x->p.toNat<s2.next.toNat:=λp x h=>sQ p x h);refine⟨ae0 h1,htg,v,rfl,M.cells.1,vone,M.own.mono λb x hb hx=> ?_,λp hp=> ?_⟩
              . have lU:=M.new b hb;have xN:=M.own.lt M.ai.wf hb;have nb:b≠bp:=λe=>by have:=MR _ _ b2;rw[e]at lU;omega
                have ng:gk≠some b:=λe=>by
                  obtain⟨ZW,h3,_⟩:=B1.tr.2 b e;have n0:mp≠b:=λe=>by rw[e,h3]at oG;cases oG
                  have:=MR b _ (by show(bg _ _ _).heap.get b=_;rw[aJ n0];exact h3);omega
                rw[g6 b nb,r6 b ng (by rw[ZS,Pos.aF];omega)];exact(Grew.ah q2.wf (.cells row 0)).get hx
              . have lU:=M.new p hp;have xN:=M.own.lt M.ai.wf hp;refine⟨λe=>by have:=MR _ _ b2;rw[e]at lU;omega,λe=> ?_,λe=> ?_,aly p (by have h9:=B1.next;rw[show s2.next=s1.next from dK _ _ _]at lU;omega)⟩
                . cases e;rw[ZS,Pos.aF]at xN;omega
                . have h3:=B1.xW.2 p e;have n2:mp≠p:=λe=>by rw[e,h3]at oG;cases oG
                  have:=MR p _ (by show(bg _ _ _).heap.get p=_;rw[aJ n2];exact h3);omega }
        refine⟨s6,?_,λh=>absurd he h,λ_=>⟨_,ahZ⟩⟩;rw[he];rw[G8 hc 1 (r:=(.int .i64 0,s6))]
        . rw[ady (b:=bp) B.book];rw[ahZ.book];intro e;have e:=congrArg (λo=>match o with|some (AB.cells (v::_) _)=>eH v|_=>none) e;simp only[kT,eH]at e;cases gk with
          |none=>simp[eH,B.tr.1 rfl]at e
          |some b=>simp[eH]at e
        (rw[vJ];have stm:=λ(K:AV->St->Option (AV×St))=>ai3 c K (v:= .int .i64 (gs.length:Int)) oG hf);have bq:ey (kT gk gs.length 9) (kT gk gs.length 9)=true:=(by cases gk;exact RE;exact Na _ _ _ _);have b3:s3.heap.get bp=some (.cells [kT gk gs.length 9,kT tk ts.length 3,.map mp] 0):=q2.get b2;have Lx:=λ(K:AV->Option (AV×St))=>kY K (p:=bp) (o:=0) (h:=s3.heap) (h2:=s2.heap) (v:=kT gk gs.length 9) (by rw[b3];rfl) (by rw[b2];rfl) bq
        have CE:cE (bR [AV.str [],AV.str [],AV.str [],.int .i64 0,.int .i64 0,.str [],.bool false,.bool false,.af] 1) [(0,9)] [AV.agg (g.ax v)]=some row:=by
          have:(g.ax v).length=9:=q3;show _=some (g.ax v);simp[cE,bR,dc,cZ,this,aX]
        simp[eb,nQ,hch,h1,hpg,B1.book,lk,lG,lG2,h2d,stm];show Il ((cellsOf (T.get s.next s2.heap)).bind λcs=>cut cs 0 9) _=_;rw[p2];simp only[aB,Za8,aT.cc,eO];show aaI (c 183 [AV.agg g.cells] s2) _=_;rw[q1];simp only[bS];show jx (.load none) [.ptr bp 0] s3.heap (λv=>oY (.load none) [.ptr bp 0] v (nK [] s2.heap)) _=_;rw[Lx];simp only[CE,eO,r1];exact st6 _
 . refine fail (jP g) h1 (by simp[yN,h1]) ?_;rw[vJ];simp[eb,nQ,hch,h1,hpg]
theorem Kq{r s t:Ty}(h:gu r s=true)(k:gu s t=true):gu r t=true:=by
 simp only[gu,Zj4,Zb5,Ze4]at h k ⊢;rcases h with h|⟨h1,h2⟩<;>rcases k with k|⟨k1,k2⟩
 . exact .inl (SB _ _ _ h k)
 . exact .inl (by rw[<-k1];exact h)
 . exact .inl (by rw[h1];exact k)
 . exact .inr ⟨h1.trans k1,SB _ _ _ h2 k2⟩
theorem alz{s t:Ty}(h:gu s t=false)(k:gu t s=false):s.a=t.a/\s.b=t.b:=by simp only[gu,Bool.or_eq_false_iff]at h k;have e:=Kn _ _ h.1 k.1;refine⟨e,?_⟩;have h2:=h.2;have k2:=k.2;simp only[e,Zg1,Zg6]at h2 k2;exact Kn _ _ h2 k2
theorem asv{r s t:Ty}(h:gu r s=true)(k:gu t s=false):gu r t=true:=by
 cases h2:gu s t
 . obtain⟨e1,e2⟩:=alz h2 k;unfold gu at h ⊢; rw[<-e1, <-e2];exact h
 . exact Kq h h2
theorem Ys{x:Int}(h1:0<=x)(h2:x<=18446744073709551615):av .u64 x=x:=by
 unfold av loI hiI;simp only;split
 . split
   . rfl
   . contradiction
 . contradiction
theorem ah0(K:AV->St->Option (AV×St))(st:St)(a:Nat):aq c (.bin .shr .num) [.int .u64 (a:Int),.int .u64 1] st K=K (.int .u64 ((a / 2:Nat):Int)) st:=by
 refine aR c K (λH n=> ?_) st;have:(a:Int).fdiv 2=((a / 2:Nat):Int):=by rw[Zm8 _ (by omega)];rfl
 simp only[aG.run,ju,pz,fc];show some (eG.val (AV.int .u64 ((a:Int).fdiv 2)))=_;rw[this]
theorem ah1(H:Pos->Option AB)(n:Pos)(es:Nat)(b:Pos)(len:Nat)(k:IntKind)(i:Nat)(h:i<len):aG.run H n (.idxA es none) [.slice b 0 len none es,.int k (i:Int)]=some (.val (.ptr b (i*es))):=by
 simp[aG.run,sw,jy,Kh,h]
theorem yC(ts:List Ty)(i:Nat)(h:i<ts.length):cut (ts.flatMap Ty.cells) (i*3) 3=some ts[i].cells:=by
 induction ts generalizing i with
 |nil=>simp at h
 |cons t ts ih=>
  cases i with
  |zero=>rw[Zo2];unfold cut;rw[cZ,Za0 (by simp[Ty.len])];simp[Ty.cells]
  |succ i=>
   have h':i<ts.length:=(by simpa using h);have:=ih i h';unfold cut at this ⊢;rw[cZ]at this ⊢;(split at this<;>first|(cases this;done)|skip);rename_i hle;simp only[Ze4]at hle;rw[Za0 (by rw[Zo2,Ze8,Ty.len];omega)];simp only[H5]at this ⊢;rw[Zo2,show(i+1)*3=i*3+1+1+1 by omega,Zo0, <-this];rfl
theorem asw(hc:Sem c)(ts:List Ty)(hl:ts.length<=1000)(t:Ty)(q:Nat)(hq:q<=ts.length)(MR:∀h (hh:h<ts.length),h<q->gu ts[h] t=true)(hhi:∀h (hh:h<ts.length),q<=h->gu ts[h] t=false)
  (b:Pos) (x4:Pos) (s:St) (hw:Wf s) (hb:s.heap.get b=some (.cells (ts.flatMap Ty.cells) 0)) (hx:s.heap.get x4=some (.cells t.cells 0)) (F:Nat) (k2):∀(m i j:Nat),j<=i+m->i<=q->q<=j->j<=ts.length->
  bn c F k2 (m+1) [.slice b 0 ts.length none 3,.func 130 [] [],.ptr x4 0,.int .i64 (ts.length:Int),.int .i64 (i:Int),.int .i64 (j:Int)] s=
    k2 [.slice b 0 ts.length none 3,.func 130 [] [],.ptr x4 0,.int .i64 (ts.length:Int),.int .i64 (q:Int)] s:=by
 intro m;induction m with
 |zero=>
  intro i j h1 h2 h3 h4;obtain rfl:i=q:=by omega
  obtain rfl:j=i:=by omega
  rw[eM];simp
 |succ m ih=>
  intro i j h1 h2 h3 h4;rw[eM];by_cases h:i<j
  . let d:=(i+j) / 2
    have hd1:i<=d:=(by omega);have hd2:d<j:=(by omega);have hd3:d<ts.length:=(by omega);have w1:av .i64 ((i:Int)+(j:Int))=((i+j:Nat):Int):=(by rw[wrap64 (by omega) (by omega)];omega);have w2:av .u64 ((i+j:Nat):Int)=((i+j:Nat):Int):=Ys (by omega) (by omega);have w3:av .i64 (((i+j) / 2:Nat):Int)=((d:Nat):Int):=wrap64 (by omega) (by omega);have w4:av .i64 ((d:Int)+1)=((d+1:Nat):Int):=wrap64 (by omega) (by omega);have ix:=λ(K:AV->Option (AV×St))=>cX K (λH n=>ah1 H n 3 b ts.length .i64 d hd3)
    have ho:=Lw hc ts[d] t s hw;have fg:=yC ts d hd3
    clear_value d
    by_cases hn:d<q
    .   have alA:uJ ts[d] t<0:=adX.2 (MR d hd3 hn);rw[<-ih (d+1) j (by omega) (by omega) h3 h4];simp only[aH,bh,az,cY,Int.ofNat_lt,h,Zg1,dG,eV,w1,Lc,w2,ah0,w3,dz,ix,Az,hb,fg,hx,aB,Za8,Ty.cc,eO,iU,Ze3,Ze0,Zd9,ho,bS,ajH,alA,w4]
    .   have alA:¬uJ ts[d] t<0:=λe=>by have:=adX.1 e;rw[hhi d hd3 (by omega)]at this;cases this
        rw[<-ih i d (by omega) h2 (by omega) (by omega)];simp only[aH,bh,az,cY,Int.ofNat_lt,h,Zg1,dG,eV,w1,Lc,w2,ah0,w3,dz,ix,Az,hb,fg,hx,aB,Za8,Ty.cc,eO,iU,Ze3,Ze0,Zd9,ho,bS,ajH,alA,decide_false,di]
  . obtain rfl:i=q:=(by omega);obtain rfl:j=i:=(by omega);simp
def EU(ts:List Ty)(t:Ty)(q:Nat):Bool:=match ts[q]? with
 |some u=>decide (uJ u t=0)
 |none=>false
theorem aqg(x4:Pos)(s:St)(F:Nat)(k2)(m:Nat):bn c F k2 (m+1) [.af,.func 130 [] [],.ptr x4 0,.int .i64 0,.int .i64 0,.int .i64 0] s=
  k2 [.af,.func 130 [] [],.ptr x4 0,.int .i64 0,.int .i64 0] s:=by
 rw[eM];simp
def slvT(k:Option Pos)(n:Nat):AV:=match k with
 |none=> .af
 |some b=> .slice b (0+n*3) (n - n) none 3
theorem art(hc:Sem c)(ts:List Ty)(hl:ts.length<=1000)(t:Ty)(q:Nat)(hq:q<=ts.length)(MR:∀h (hh:h<ts.length),h<q->gu ts[h] t=true)(hhi:∀h (hh:h<ts.length),q<=h->gu ts[h] t=false)
  (tk:Option Pos) (s:St) (hw:Wf s) (h0:tk=none->ts=[]) (hb:∀b,tk=some b->s.heap.get b=some (.cells (ts.flatMap Ty.cells) 0)):
  c 189 [kT tk ts.length 3,.agg t.cells,.func 130 [] []] s=some (.tuple [.int .i64 (q:Int),.bool (EU ts t q)],s):=by
 have cN:Wf (ah s (.cells t.cells 0)):=bF hw;have zB:Plain (.tuple [.int .i64 (q:Int),.bool (EU ts t q)]):=Plain.tuple (by simp[Plain.int,Plain.bool]);rw[pQ hc 1001 (r:=(.tuple [.int .i64 (q:Int),.bool (EU ts t q)],ah s (.cells t.cells 0))),aE zB (b9 hw)];rw[qE];cases tk with
 |none=>
  obtain rfl:=h0 rfl;obtain rfl:q=0:=by simpa using hq
  have l0:∀(K:AV->St->Option (AV×St))(s:St),aq c (.lenB .l) [.af] s K=K (.int .i64 0) s:=λK s=>aR c K (λH n=>rfl) s
  have L:∀k2,bn c 1001 k2 1001 [.af,.func 130 [] [],.ptr s.next 0,.int .i64 0,.int .i64 0,.int .i64 0] (ah s (.cells t.cells 0))=_:=λk2=>aqg (c:=c) s.next _ 1001 k2 1000
  simp only[kT,dm,az,l0,WZ,L,aH,bh,Zi9];simp[EU,l0,L]
 |some b=>
  have lU:(ah s (.cells t.cells 0)).heap.get b=some (.cells (ts.flatMap Ty.cells) 0):=b9 hw _ _ (hb b rfl);have l0:∀(K:AV->St->Option (AV×St))(s:St),aq c (.lenB .l) [.slice b 0 ts.length none 3] s K=K (.int .i64 (ts.length:Int)) s:=λK s=>aR c K (λH n=>rfl) s
  have L:∀k2,bn c 1001 k2 1001 [.slice b 0 ts.length none 3,.func 130 [] [],.ptr s.next 0,.int .i64 (ts.length:Int),.int .i64 0,.int .i64 (ts.length:Int)] (ah s (.cells t.cells 0))=
    k2 [.slice b 0 ts.length none 3,.func 130 [] [],.ptr s.next 0,.int .i64 (ts.length:Int),.int .i64 (q:Int)] (ah s (.cells t.cells 0)):=
    λk2=>asw hc ts hl t q hq MR hhi b s.next _ cN lU (aA _ _) 1001 k2 1000 0 ts.length (by omega) (by omega) (by omega) (by omega)
  simp only[kT,dm,az,l0,WZ,L,aH,bh];by_cases h:q<ts.length
  . have ix:=λ(K:AV->Option (AV×St))=>cX K (λH n=>ah1 H n 3 b ts.length .i64 q h)
    have ho:=Lw hc ts[q] t _ cN;have fg:=yC ts q h;have ef:EU ts t q=decide (uJ ts[q] t=0):=(by unfold EU;rw[H0 h]);simp[h,ix,lU,fg,ho,ef,AV.cells]
  . have ef:EU ts t q=false:=(by unfold EU;rw[Zc1 (by omega)]);simp[h,ef,AV.cells]
def Qe(ts:List Ty)(t:Ty):Nat:=match ts.getLast? with
 |none=>0
 |some u=>if gu u t=true then ts.length else ts.length - 1
def IK(ts:List Ty):Prop:=∀i j (hj:j<ts.length)(V8:i<j),gu (ts[i]'(by omega)) ts[j]=true
theorem atL{ts:List Ty}{t:Ty}(hs:IK ts)(ht:∀u,ts.getLast? =some u->gu t u=false):Qe ts t<=ts.length/\(∀h (hh:h<ts.length),h<Qe ts t->gu ts[h] t=true)/\(∀h (hh:h<ts.length),Qe ts t<=h->gu ts[h] t=false)/\
  EU ts t (Qe ts t)=vH t ts.getLast? :=by
 unfold Qe;cases hl:ts.getLast? with
 |none=>
  have:ts=[]:=by simpa using hl
  subst this;simp[EU,vH]
 |some u=>
  have dJ:ts≠[]:=λe=>by subst e;simp at hl
  have Vq:0<ts.length:=List.length_pos_iff.2 dJ;have hu:ts[ts.length - 1]'(by omega)=u:=by have:=List.getLast?_eq_getElem? (l:=ts);rw[hl,H0 (by omega)]at this;exact(Zg3 this).symm
  have htu:=ht u hl;simp only;cases hb:gu u t
  . simp only[Zf5,Zh2];refine⟨by omega,λh hh aS=> ?_,λh hh hle=> ?_,?_⟩
    .   have:=hs h (ts.length - 1) (by omega) aS;rw[hu]at this;exact asv this htu
    .   obtain rfl:h=ts.length - 1:=(by omega);rw[hu];exact hb
    .   (unfold EU;rw[H0 (by omega),hu];have h1:¬uJ u t<0:=λe=>by rw[adX.1 e]at hb;cases hb);have h2:¬0<uJ u t:=λe=>by rw[Yy.1 e]at htu;cases htu
        have:uJ u t=0:=(by omega);simp[this,vH,hb]
  . simp only[Zh5];refine⟨by omega,λh hh _=> ?_,λh hh hle=>by omega,?_⟩
    .   by_cases e:h=ts.length - 1
        . subst e;rw[hu];exact hb
        . have:=hs h (ts.length - 1) (by omega) (by omega);rw[hu]at this;exact Kq this hb
    .   unfold EU;rw[Zc1 (by omega)];simp[vH,hb]
theorem tT(hc:Sem c){s0 s:St}{bp mp:Pos}{gs:List aT}{ts:List Ty}{gk tk:Option Pos}(B:eD s0 s bp mp gs ts gk tk)(hl:ts.length<=1000)(t:Ty)(aS:aN t.a t.b=true)(hs:IK ts)(ht:∀u,ts.getLast? =some u->gu t u=false):
  c 137 [.ptr bp 0,.str t.a,.str t.b] s=some (.tuple [.int .i64 (Qe ts t:Int),.bool (vH t ts.getLast?)],s):=by
 obtain⟨p1,p2,p3,p4⟩:=atL hs ht;rw[<-p4];have e0:∀u:Ty,gu u ⟨t.a,t.b,0⟩=gu u t:=λu=>rfl
 have e1:EU ts ⟨t.a,t.b,0⟩ (Qe ts t)=EU ts t (Qe ts t):=rfl;have hpr:=aj9 hc t.a t.b 0 aS s B.wf;have Gq:=art hc ts hl ⟨t.a,t.b,0⟩ (Qe ts t) p1 (λh hh hq=>by rw[e0];exact p2 h hh hq) (λh hh hq=>by rw[e0];exact p3 h hh hq) tk s B.wf B.xW.1 B.xW.2;rw[e1]at Gq;rw[Dl hc 1 (r:=(.tuple [.int .i64 (Qe ts t:Int),.bool (EU ts t (Qe ts t))],s)),aE (Plain.tuple (by simp[Plain.int,Plain.bool])) (aW.refl s)];rw[He];have bq:ey (kT tk ts.length 3) (kT tk ts.length 3)=true:=by cases tk;exact RE;exact Na _ _ _ _
 have Lx:=λ(K:AV->Option (AV×St))=>kY K (p:=bp) (o:=1) (h:=s.heap) (h2:=s.heap) (v:=kT tk ts.length 3) (by rw[B.book];rfl) (by rw[B.book];rfl) bq
 simp[hpr,Lx,Gq]
theorem CX(b:Pos)(off n es:Nat):¬Plain (.slice b off n none es):=λh=>by have:=h (λ_=>⟨0,0,off+n*es⟩) (λ_=>⟨0,0,0⟩) (b.toNat+1) 0 (λ_=>none) _ (.slice b off n none es n ⟨0,0+off,none⟩ (Za3 _) (λc h=>by cases h) (λ_=>⟨by omega,rfl,by simp⟩) (λ_=>by omega));have:=this.aei rfl;omega
theorem anH(hc:Sem c){s:St}(hw:Wf s){tk:Option Pos}{ts:List Ty}{q:Pos}{row:List AV}(h0:tk=none->ts=[])(hb:∀b,tk=some b->s.heap.get b=some (.cells (ts.flatMap Ty.cells) 0))(hq:s.heap.get q=some (.cells row 0))(hr:row.length=3)
   (h1:aQ row=true) (hl:ts.length<=1000):
   ∃ s5,c 185 [kT tk ts.length 3,.int .i64 (ts.length:Int),.slice q 0 1 (some 1) 3] s=some (.slice s.next 0 (ts.length+1) none 3,s5)/\s5.heap.get s.next=some (.cells (ts.flatMap Ty.cells++row) 0)/\
     s5.next=s.next.succ/\Wf s5/\∀p,tk≠some p->p.toNat<s.next.toNat->s5.heap.get p=s.heap.get p:=by
 have hlen:∀ts:List Ty,(ts.flatMap Ty.cells).length=ts.length*3:=λts=>by
   induction ts with
   |nil=>rfl
   |cons t ts ih=>rw[Zo2,Ze8,ih,Ty.len,Zc6];omega
 obtain⟨s5,nv,r1,r2,r3,r4,r5,r6,r7,r8⟩:=akb (c:=c) (es:=3) (bytes:=40) hw (k:=tk) (n:=ts.length) (λh=>by rw[h0 h];rfl) (λb xN=>⟨_,hb b xN,hlen ts⟩) hq hr h1 (by omega) (by omega) (by omega);refine⟨s5,?_,?_,r6,r7,r8⟩
 . rw[AK hc 1 (r:=(.slice s.next 0 (ts.length+1) none 3,s5))]
   . unfold tidy;rw[Za7];exact λh=>CX _ _ _ _ h.1
   rw[Cu];have sl:∀(K:AV->St->Option (AV×St))(s:St),aq c (.sliceL 3 true false false) [kT tk ts.length 3,.int .i64 (ts.length:Int)] s K=K (slvT tk ts.length) s:=λK s=>by
     refine aR c K (λH n=> ?_) s;cases tk with
     |none=>rw[h0 rfl];rfl
     |some b=>simp[kT,slvT,aG.run,iP,bounds,jy,dc,cZ]
   have l1:∀(K:AV->St->Option (AV×St))(s:St),aq c (.lenB .l) [.slice q 0 1 (some 1) 3] s K=K (.int .i64 1) s:=λK s=>aR c K (λH n=>rfl) s
   have l2:∀(K:AV->St->Option (AV×St))(s:St),aq c (.lenB .l) [kT tk ts.length 3] s K=K (.int .i64 (ts.length:Int)) s:=λK s=>aR c K (SC λh=>by rw[h0 h];rfl) s
   simp[sl,l1,l2,r1]
 . cases tk with
   |none=>rw[r2,r5 rfl,h0 rfl];rfl
   |some b=>rw[r2,r4 b _ rfl (hb b rfl)]
def yO(gs:List aT)(ts:List Ty)(t:Ty):Int:=if ZU t=false then 23 else if ry gs t=true then 6 else if vH t ts.getLast? =true then 5 else 0
theorem ah2(H:Pos->Option AB)(n:Pos)(es:Nat)(b:Pos)(len:Nat)(cp:Option Nat)(k:IntKind)(i:Nat)(h:i<len):aG.run H n (.idxA es none) [.slice b 0 len cp es,.int k (i:Int)]=some (.val (.ptr b (i*es))):=by
 simp[aG.run,sw,jy,Kh,h]
theorem akc{gs:List aT}{es:List (AV×AV×Nat)}(h:es.map (·.1)=gs.map λg=> .str g.name)(s:List Nat):
   (¬scan (nW gs s) gs.length 0<0/\∃j v,iu .s (.str s) es 0=some (some (j,v)))\/(scan (nW gs s) gs.length 0<0/\iu .s (.str s) es 0=some none):=by
 rcases Gl s gs es 0 h with⟨a,b⟩|⟨a,b⟩
 . left;have:=SD.2 a;exact⟨by omega,b⟩
 . (right;refine⟨?_,b⟩;have:¬0<=scan (nW gs s) gs.length 0:=λe=>a (SD.1 e));omega
theorem aqh{s:St}{bp mp:Pos}{x y:AV}{es:List (AV×AV×Nat)}{cl:Nat}{gs:List aT}(hb:s.heap.get bp=some (.cells [x,y,.map mp] 0))(hm:s.heap.get mp=some (.map es cl))(he:es.map (·.1)=gs.map λg=> .str g.name)
   (t:Ty) (lb:Pos) (hlb:s.heap.get lb=some (.cells [.str t.a,.str t.b] 0)) (F:Nat) (k1 k2):
   nk c F k1 k2 3 [.ptr bp 0,.str t.a,.str t.b,.int .u8 t.k,.slice lb 0 2 (some 2) 1,.int .i64 2,.int .i64 ((0:Nat):Int)] s=if ry gs t=true then k1 [.int .i64 6] s else k2 [.ptr bp 0,.str t.a,.str t.b,.int .u8 t.k] s:=by
 have w0:av .i64 (((0:Nat):Int)+1)=((1:Nat):Int):=rfl;have w1:av .i64 (((1:Nat):Int)+1)=((2:Nat):Int):=rfl;have i0:∀(K:AV->St->Option (AV×St))(s:St),aq c (.idxA 1 none) [.slice lb 0 2 (some 2) 1,.int .i64 ((0:Nat):Int)] s K=K (.ptr lb 0) s:=λK s=>aR c K (λH n=>ah2 H n 1 lb 2 (some 2) .i64 0 (by omega)) s
 have i1:∀(K:AV->St->Option (AV×St))(s:St),aq c (.idxA 1 none) [.slice lb 0 2 (some 2) 1,.int .i64 ((1:Nat):Int)] s K=K (.ptr lb 1) s:=λK s=>aR c K (λH n=>ah2 H n 1 lb 2 (some 2) .i64 1 (by omega)) s
 have d0:decide (((0:Nat):Int)<2)=true:=rfl;have d1:decide (((1:Nat):Int)<2)=true:=rfl;have d2:decide (((2:Nat):Int)<2)=false:=rfl;have e0:([AV.str t.a,.str t.b]:List AV)[0]? =some (.str t.a):=rfl;have e1:([AV.str t.a,.str t.b]:List AV)[1]? =some (.str t.b):=rfl;have e2:([x,y,AV.map mp]:List AV)[2]? =some (.map mp):=rfl;rw[xk];rcases akc he t.a with⟨n1,j,v,f1⟩|⟨n1,f1⟩
 . have lk1:=λ(K:AV->St->Option (AV×St))=>B6 c K (.int .i64 0) (k:= .str t.a) hm f1
   simp only[aH,bh,cY,d0,dG,i0,aU,hlb,hb,aB,Za8,e0,e2,aV,az,bW,aO,Zb6,lk1,jM,Za5,Zc0,FE,Zk3,di,eV,w0];rw[xk];rcases akc he t.b with⟨n2,j,v,f2⟩|⟨n2,f2⟩
   . have lk2:=λ(K:AV->St->Option (AV×St))=>B6 c K (.int .i64 0) (k:= .str t.b) hm f2
     simp only[aH,bh,cY,d1,dG,i1,aU,hlb,hb,aB,Za8,e1,e2,aV,az,bW,aO,Zb6,lk2,jM,Za5,Zc0,FE,Zk3,di,eV,w1];rw[xk];have:ry gs t=false:=(by simp[ry,n1,n2]);rw[this];simp only[aH,bh,cY,d2,di,Zf5,Zh2]
   . have lk2:=λ(K:AV->St->Option (AV×St))=>B6 c K (.int .i64 0) (k:= .str t.b) hm f2
     have:ry gs t=true:=(by simp[ry,n2]);rw[this];simp only[aH,bh,cY,d1,dG,i1,aU,hlb,hb,aB,Za8,e1,e2,aV,az,bW,aO,Zb6,lk2,jM,Za5,Zc0,FE,Zl6,Zh5]
 . have lk1:=λ(K:AV->St->Option (AV×St))=>B6 c K (.int .i64 0) (k:= .str t.a) hm f1
   have:ry gs t=true:=(by simp[ry,n1]);rw[this];simp only[aH,bh,cY,d0,dG,i0,aU,hlb,hb,aB,Za8,e0,e2,aV,az,bW,aO,Zb6,lk1,jM,Za5,Zc0,FE,Zl6,Zh5]
set_option maxHeartbeats 1000000 in
theorem atM (hc:Sem c){s0 s:St}{bp mp:Pos}{gs:List aT}{ts:List Ty}{gk tk:Option Pos}(GZ:Wf s0)(B:eD s0 s bp mp gs ts gk tk)(hl:ts.length<=200)(t:Ty)(aS:aN t.a t.b=true)(hs:IK ts)(ht:∀u,ts.getLast? =some u->gu t u=false):
   ∃s',c 131 [.ptr bp 0,.str t.a,.str t.b,.int .u8 t.k] s=some (.int .i64 (yO gs ts t),s')/\(yO gs ts t≠0->s'=s)/\(yO gs ts t=0->∃oR,eD s0 s' bp mp gs (ts++[t]) gk oR):=by
 have dJ:¬t.a=t.b:=λe=>by rw[e,FP]at aS;cases aS
 have nQ:=Yz hc s bp mp _ _ B.book;have hkt:ZU t=true->(t.k=1\/(¬t.k=1/\t.k=2)):=λq=>by
   simp only[ZU,Zj4,Ze4]at q;by_cases e:t.k=1
   . exact .inl e
   . exact .inr ⟨e,q.resolve_left e⟩
 by_cases hk:ZU t=true
 . have cN  :Wf (ah s (.cells [.str t.a,.str t.b] 0)):=bF B.wf;have B1:=B.ai (Grew.ah B.wf (.cells [.str t.a,.str t.b] 0));have hg1:=Grew.ah B.wf (.cells [.str t.a,.str t.b] 0);have hlb:(ah s (.cells [.str t.a,.str t.b] 0)).heap.get s.next=some (.cells [.str t.a,.str t.b] 0):=aA _ _;generalize hs1:ah s (.cells [.str t.a,.str t.b] 0)=s1 at cN B1 hg1 hlb;obtain⟨es,cl,oG,hm2⟩:=B1.Dk;have L:∀k1 k2,nk c 3 k1 k2 3 [.ptr bp 0,.str t.a,.str t.b,.int .u8 t.k,.slice s.next 0 2 (some 2) 1,.int .i64 2,.int .i64 0] s1=if ry gs t=true then k1 [.int .i64 6] s1 else k2 [.ptr bp 0,.str t.a,.str t.b,.int .u8 t.k] s1:=λk1 k2=>aqh (c:=c) B1.book oG hm2 t s.next hlb 3 k1 k2
   have zB:=tT hc B1 (by omega) t aS hs ht;have l2:∀(K:AV->St->Option (AV×St))(s:St),aq c (.lenB .l) [.slice (ah s (.cells [] 0)).next 0 2 (some 2) 1] s K=K (.int .i64 2) s:=λK s=>aR c K (λH n=>rfl) s
   have lT:∀(K:AV->St->Option (AV×St))(s:St),aq c (.lenB .l) [kT tk ts.length 3] s K=K (.int .i64 (ts.length:Int)) s:=λK s=>aR c K (SC λh=>by rw[B.xW.1 h];rfl) s
   have bsl:∀(K:AV->St->Option (AV×St)),aq c (.buildSlice 1 2 [(.str [])] [0,1]) [.str t.a,.str t.b] s K=K (.slice s.next 0 2 (some 2) 1) s1:=λK=>by rw[au, <-hs1];have:cE (bR [AV.str []] 2) ([0,1].map λi=>(i*1,1)) [.str t.a,.str t.b]=some [.str t.a,.str t.b]:=(by simp[cE,bR,dc,cZ,aX,AV.cells]);rw[this];rfl
   have l3:∀(K:AV->St->Option (AV×St))(p:Pos)(s:St),aq c (.lenB .l) [.slice p 0 2 (some 2) 1] s K=K (.int .i64 2) s:=λK p s=>aR c K (λH n=>rfl) s
   have aqi:¬(ts.length:Int)=256:=(by omega);have fail:∀e:Int,e≠0->yO gs ts t=e->zw c 3 (.ptr bp 0) (.str t.a) (.str t.b) (.int .u8 t.k) s=some (.int .i64 e,s1)->∃s',c 131 [.ptr bp 0,.str t.a,.str t.b,.int .u8 t.k] s=some (.int .i64 (yO gs ts t),s')/\(yO gs ts t≠0->s'=s)/\(yO gs ts t=0->∃oR,eD s0 s' bp mp gs (ts++[t]) gk oR):=λe he ha h=>by
     refine⟨s,?_,λ_=>rfl,λh0=>absurd (ha.symm.trans h0) he⟩;rw[yP hc 3 h,ha,aE (Plain.int _ _) hg1.keeps]
   cases hu:ry gs t
   . cases  hd:vH t ts.getLast?
     .  have he:yO gs ts t=0:=(by simp[yO,hk,hu,hd]);rw[hd]at zB;have hplc:(Qe ts t:Int)=ts.length:=by
          unfold Qe;cases hq:ts.getLast? with
          |none=> have:ts=[]:=by simpa using hq
                  subst this;rfl
          | some u=>
            rw[hq]at hd;simp only[vH,Bool.not_eq_false']at hd;simp only[hd,Zh5]
        rw[hplc]at zB;have hpr:=aj9 hc t.a t.b t.k aS s1 cN
        let s2:=ah s1 (.cells t.cells 0)
        have g2:=Grew.ah cN (.cells t.cells 0);have B2:=B1.ai g2;obtain⟨s5,r1,r2,r3,r4,r5⟩:=anH hc (s:=s2) g2.wf (tk:=tk) (ts:=ts) (q:=s1.next) (row:=t.cells) B.xW.1 B2.xW.2 (aA _ _) rfl t.one (by omega);have lt2:=B2.lt;have b5:s5.heap.get bp=some (.cells [kT gk gs.length 9,kT tk ts.length 3,.map mp] 0):=by rw[r5 bp B.dt lt2.1];exact B2.book
        let tv:=AV.slice s2.next 0 (ts.length+1) none 3
        let s6:=bg s5 bp (.cells [kT gk gs.length 9,tv,.map mp] 0)
        have ahH:bp.toNat<s5.next.toNat:=r4 _ _ b5;have nb2:bp≠s2.next:=λe=>absurd (show bp.toNat<s2.next.toNat from lt2.1) (by rw[e];exact Zo7 _)
        have st6:∀(K:AV->St->Option (AV×St)),aq c (.store 1) [.ptr bp 1,tv] s5 K=K .undef s6:=λK=>cg c K s5 1 bp 1 tv _ b5 rfl (by simp) rfl
        have g6:∀p,p≠bp->s6.heap.get p=s5.heap.get p:=λp h=>aJ (λe=>h e.symm)
        have aly:∀p:Pos,s0.next.toNat<=p.toNat->s0.heap.get p=none:=λp h=>by
          cases hx:s0.heap.get p with
          |none=>rfl
          |some x=>have:=GZ _ _ hx;omega
        obtain⟨Vt,cl2,hm3,hm4⟩:=B2.Dk;have nmb:mp≠bp:=λe=>by rw[e,B2.book]at hm3;cases hm3
        have nmt:tk≠some mp:=λe=>by rw[B2.xW.2 mp e]at hm3;cases hm3
        have ahZ:eD s0 s6 bp mp gs (ts++[t]) gk (some s2.next):={
          wf:=jY r4 ahH
          keeps:=λp x hp=>by
            have n1:p≠bp:=λe=>by rw[e,B.fb]at hp;cases hp
            have n3:tk≠some p:=λe=>by rw[B.ft p e]at hp;cases hp
            have h2:=B2.keeps p x hp;rw[g6 p n1,r5 p n3 (B2.wf _ _ h2)];exact h2
          next:=by show s0.next.toNat<=s5.next.toNat;exact Zb2 B2.next (by rw[r3,Pos.aF];exact Nat.le_succ _)
          book:=by show(bg _ _ _).heap.get bp=_;rw[bG];simp[tv,kT]
          Dk:=⟨Vt,cl2,by rw[g6 mp nmb,r5 mp nmt lt2.2];exact hm3,hm4⟩
          tr:=⟨B.tr.1,λb hb=>by obtain⟨cs,h3,h4⟩:=B2.tr.2 b hb;refine⟨cs,?_,h4⟩;rw[g6 b (λe=>B.dg (by rw[<-e];exact hb)),r5 b (B.ZV b hb) (B2.wf _ _ h3)];exact h3⟩
          xW:=⟨λh=>(by cases h),λb hb=>by cases hb;rw[g6 _ (λe=>nb2 e.symm),r2];simp⟩
          dg:=B.dg
          dt:=λe=>nb2 (by injection e with e;exact e.symm)
          ZV:=λb hb h=>by
            cases h;obtain⟨cs,h3,h4⟩:=B2.tr.2 _ hb;exact absurd (show s2.next.toNat<s2.next.toNat from B2.wf _ _ h3) (Zo7 _)
          fb:=B.fb
          fm:=B.fm
          fg:=B.fg
          ft:=λb hb=>by cases hb;exact aly _ B2.next
          Oi:=λes' cl' hm=>by have m6:s6.heap.get mp=s2.heap.get mp:=(by rw[g6 mp nmb,r5 mp nmt lt2.2]);rw[m6]at hm;exact B2.Oi _ _ hm
          rows:=λb cs hb hs i u hu=>by
            obtain⟨ZW,h3,h4⟩:=B2.tr.2 b hb;have x6:s6.heap.get b=s2.heap.get b:=(by rw[g6 b (λe=>B.dg (by rw[<-e];exact hb)),r5 b (B.ZV b hb) (B2.wf _ _ h3)]);rw[x6]at hs;(refine(B2.rows b cs hb hs i u hu).to λp cs a1 a2 a3 hx=> ?_);have aS:p.toNat<s2.next.toNat:=B2.wf _ _ hx;refine⟨by rw[g6 p a1,r5 p a3 aS];exact hx,a2,λe=> ?_⟩;cases e;exact absurd aS (Zo7 _) }
        refine⟨s6,?_,λh=>absurd he h,λ_=>⟨_,ahZ⟩⟩;rw[he];rw[yP hc 3 (r:=(.int .i64 0,s6))]
        . rw[ady (b:=bp) B.book];rw[ahZ.book];intro e;have e:=congrArg (λo=>match o with|some (AB.cells (_::v::_) _)=>eH v|_=>none) e;simp only[kT,eH]at e;cases tk with
          |none=>simp[eH,B.xW.1 rfl]at e
          |some b=>simp[eH]at e
        (rw[vK];have bq:ey (kT tk ts.length 3) (kT tk ts.length 3)=true:=(by cases tk;exact RE;exact Na _ _ _ _);have Lx:=λ(K:AV->Option (AV×St))=>kY K (p:=bp) (o:=1) (h:=s1.heap) (h2:=s1.heap) (v:=kT tk ts.length 3) (by rw[B1.book];rfl) (by rw[B1.book];rfl) bq);have CE:cE (bR [AV.str [],AV.str [],.int .u8 0] 1) [(0,3)] [AV.agg t.cells]=some t.cells:=by
          simp[cE,bR,dc,cZ,Ty.cells,aX]
        have aru:decide ((ts.length:Int)=256)=false:=Za1 aqi;rw[hu]at L;rcases hkt hk with f|⟨f,f2⟩
        . have d1:decide (t.k=1)=true:=Za0 f;simp[-au,nQ,dJ,bsl,l3,d1,L,zB,B1.book,lT,aru,hpr,Lx,CE];show aaI (c 185 [kT tk ts.length 3,.int .i64 (ts.length:Int),.slice s1.next 0 1 (some 1) 3] s2) _=_;rw[r1];exact st6 _
        . have d1:decide (t.k=1)=false:=Za1 f;have d2:decide (t.k=2)=true:=Za0 f2;simp[-au,nQ,dJ,bsl,l3,d1,d2,L,zB,B1.book,lT,aru,hpr,Lx,CE];show aaI (c 185 [kT tk ts.length 3,.int .i64 (ts.length:Int),.slice s1.next 0 1 (some 1) 3] s2) _=_;rw[r1];exact st6 _
     .  refine fail 5 (by omega) (by simp[yO,hk,hu,hd]) ?_;rw[hd]at zB;rw[hu]at L;rw[vK];rcases hkt hk with f|⟨f,f2⟩
        . have d1:decide (t.k=1)=true:=Za0 f;simp[-au,nQ,dJ,bsl,l3,d1,L,zB]
        . have d1:decide (t.k=1)=false:=Za1 f;have d2:decide (t.k=2)=true:=Za0 f2;simp[-au,nQ,dJ,bsl,l3,d1,d2,L,zB]
   . refine fail 6 (by omega) (by simp[yO,hk,hu]) ?_;rw[hu]at L;rw[vK];rcases hkt hk with f|⟨f,f2⟩
     .  have d1:decide (t.k=1)=true:=Za0 f;simp[-au,nQ,dJ,bsl,l3,d1,L]
     .  have d1:decide (t.k=1)=false:=Za1 f;have d2:decide (t.k=2)=true:=Za0 f2;simp[-au,nQ,dJ,bsl,l3,d1,d2,L]
 . have hkf:¬t.k=1/\¬t.k=2:=(by simpa [ZU]using hk);have he:yO gs ts t=23:=(by simp[yO,hk]);refine⟨s,?_,λ_=>rfl,λh0=>absurd (he.symm.trans h0) (by omega)⟩;rw[yP hc 3 (r:=(.int .i64 23,s)),he,aE (Plain.int _ _) (aW.refl s)];rw[vK];simp[nQ,hkf]
@[simp] theorem avg{R:Type}(K:AV->Option R)(z:Bool)(l:List aT):fh (.lenB .l) [dB z l] K=K (.int .i64 (l.length:Int)):=by unfold dB;rw[agZ];simp
theorem aqj{gs:List aT}{k:Nat}(h:k<gs.length)(hk:k<=64):yN (gs.take k) gs[k]=if jP gs[k]≠0 then jP gs[k]else if 0<=scan (nW gs gs[k].name) k 0 then 5 else if 64<=k then 7 else 0:=by
 have hl:(gs.take k).length=k:=by simp;omega
 unfold yN;rw[hl,aqc (by omega)];have:(k=64)↔64<=k:=by omega
 simp only[this]
@[simp] theorem auJ{R:Type}(c:aj)(K:AV->St->Option R)(st:St)(t:aT)(cs:List AV)(h:cs.length=9):aq c (.store 9) [.ptr st.next 0,.agg t.cells] (ah st (.cells cs 0)) K=K .undef (ah st (.cells t.cells 0)):=cw c K st 9 (.agg t.cells) cs rfl h.symm t.one
theorem asx (hc:Sem c){s0:St}(GZ:Wf s0)(z:Bool)(gs:List aT)(hl:gs.length<=100)(bp mp rp:Pos)(F:Nat)(k1 k2):∀(m k:Nat)(s:St)(gk:Option Pos),eD s0 s bp mp (gs.take k) [] gk none->gs.length<=k+m->k<=gs.length->k<=64->
  ∃ s',aW s0 s'/\(((oN gs m k).2=0/\(∃TO,eD s0 s' bp mp gs [] TO none)/\kP c F k1 k2 (m+1) [.ptr rp 0,.ptr bp 0,dB z gs,.int .i64 (gs.length:Int),.int .i64 (k:Int)] s=k2 [.ptr rp 0,.ptr bp 0] s')\/
    ((oN gs m k).2≠0/\kP c F k1 k2 (m+1) [.ptr rp 0,.ptr bp 0,dB z gs,.int .i64 (gs.length:Int),.int .i64 (k:Int)] s=k1 [.jg,.int .i64 (oN gs m k).1,.int .i64 (oN gs m k).2] s')):=by
 intro m;induction m with
 |zero=>
  intro k s gk B h1 h2 h3;obtain rfl:k=gs.length:=by omega
  refine⟨s,B.keeps,.inl ⟨rfl,⟨gk,by simpa using B⟩,?_⟩⟩;rw[xX];simp
 |succ m ih   =>
  intro k s gk B h1 h2 h3;by_cases h:k<gs.length
  . have w:av .i64 ((k:Int)+1)=((k+1:Nat):Int):=wrap64 (by omega) (by omega);have B1:=B.ai (Grew.ah B.wf (.cells gs[k].cells 0));obtain⟨s2,a1,a2,a3⟩:=atK hc GZ B1 (by simp;omega) gs[k];have hA:=aqj h h3;have step:∀(K:AV->St->Option (AV×St)),(aq c (.idxA 9 none) [dB z gs,.int .i64 (k:Int)] s λx19 s12=>aq c (.load (some 9)) [x19] s12 K)=K (.agg gs[k].cells) s:=λK=>by
        simp[dB,h]
    by_cases he:yN (gs.take k) gs[k]=0
    .   obtain⟨TO,B2⟩:=a3 he;have e1:gs.take k++[gs[k]]=gs.take (k+1):=(Zd4 h).symm;rw[e1]at B2;rw[hA]at he;have c1:jP gs[k]=0:=by
         by_cases e:jP gs[k]=0
         .  exact e
         .  rw[Zb3 e]at he;exact absurd he e
        (rw[Za7 (by rw[c1];simp)]at he;have c2:¬0<=scan (nW gs gs[k].name) k 0:=λe=>by rw[Zb3 e]at he;cases he);(rw[Za7 c2]at he;have c3:¬64<=k:=λe=>by rw[Zb3 e]at he;cases he);have ec:oN gs (m+1) k=oN gs m (k+1):=by
         rw[oN,H0 h];simp only;rw[Za7 (by rw[c1];simp),Za7 c2,Za7 c3]
        obtain⟨s',g1,g2⟩:=ih (k+1) s2 TO B2 (by omega) (by omega) (by omega);refine⟨s',g1,?_⟩;rw[ec];have eL:kP c F k1 k2 (m+1+1) [.ptr rp 0,.ptr bp 0,dB z gs,.int .i64 (gs.length:Int),.int .i64 (k:Int)] s=kP c F k1 k2 (m+1) [.ptr rp 0,.ptr bp 0,dB z gs,.int .i64 (gs.length:Int),.int .i64 ((k+1:Nat):Int)] s2:=by
         rw[xX];have hz:yN (gs.take k) gs[k]=0:=(by rw[hA,Za7 (by rw[c1];simp),Za7 c2,Za7 c3]);rw[hz]at a1;simp[dB,h,a1,w]
        rw[eL];exact g2
    .   obtain rfl:=a2 he;have ec:oN gs (m+1) k=((k:Int),yN (gs.take k) gs[k]):=by
         rw[oN,H0 h];simp only;rw[hA]at he ⊢;by_cases c1:jP gs[k]=0
         .  have e1:¬jP gs[k]≠0:=(by rw[c1];simp);by_cases c2:0<=scan (nW gs gs[k].name) k 0
            . simp only[e1,c2,Zh2,Zh5]
            . by_cases c3:64<=k
              . simp only[e1,c2,c3,Zh2,Zh5]
              . rw[Za7 e1,Za7 c2,Za7 c3]at he;exact absurd rfl he
         .  have e1:jP gs[k]≠0:=c1;rw[Zb3 e1,Zb3 e1]
        refine⟨_,B1.keeps,.inr ⟨by rw[ec];exact he,?_⟩⟩;rw[ec,xX];simp[dB,h,a1,he]
  . obtain rfl:k=gs.length:=(by omega);have ec:oN gs (m+1) gs.length=(0,0):=(by rw[oN,Zc1 (by omega)]);refine⟨s,B.keeps,.inl ⟨by rw[ec],⟨gk,by simpa using B⟩,?_⟩⟩;rw[xX];simp
theorem abg{ts:List Ty}{k:Nat}(h:k<ts.length):(ts.take k).getLast? =pI ts k:=by
 unfold pI;by_cases h0:k=0
 . simp[h0]
 . rw[Za7 h0,List.getLast?_eq_getElem?];have:(ts.take k).length=k:=(by simp;omega);rw[this,Ze1,Zb3 (by omega)]
theorem aqk{ts:List Ty}{k:Nat}(h:k<ts.length)(hs:IK (ts.take k))(hb:∀u,pI ts k=some u->gu u ts[k]=true):IK (ts.take (k+1)):=by
 intro i j hj V8;have KQ:j<k+1:=by simp at hj;omega
 simp only[Zo1];by_cases e:j=k
 . subst e;have h1:pI ts j=some (ts[j - 1]'(by omega)):=(by rw[pI,Za7 (by omega),H0 (by omega)]);have h2:=hb _ h1;by_cases e2:i=j - 1
   . subst e2;exact h2
   . have h3:=hs i (j - 1) (by simp;omega) (by omega);simp only[Zo1]at h3;exact Kq h3 h2
 . have:=hs i j (by simp;omega) V8;simpa only[Zo1]using this
def acK(t:Ty)(p:Option Ty):Bool:=match p with|none=>false|some p=>gu t p
theorem aql(t:Ty)(p:Option Ty):aga t p=(!ZU t|| !aN t.a t.b||acK t p):=by cases p<;>rfl
def okT(t:Ty)(p:Option Ty):Bool:=aN t.a t.b&& !acK t p
def eK(gs:List aT)(ts:List Ty)(k:Nat)(t:Ty):Int:=if okT t (pI ts k)=true then yO gs (ts.take k) t else 23
set_option maxHeartbeats 1000000 in
theorem asy (hc:Sem c){s0:St}(GZ:Wf s0)(z z2:Bool)(gs:List aT)(ts:List Ty)(hl:gs.length<=100)(u6:ts.length<=100)(bp mp rp:Pos)(VD:s0.heap.get rp=some (.cells [dB z gs,gM z2 ts] 0))(gk:Option Pos)(F:Nat)(k1 k4):∀(m k:Nat)(s:St)(tk:Option Pos),eD s0 s bp mp gs (ts.take k) gk tk->IK (ts.take k)->ts.length<=k+m->k<=ts.length->
  ∃s',aW s0 s'/\((jQ gs ts m k).2=0->(∃oR,eD s0 s' bp mp gs ts gk oR)/\IK ts)/\nD c F k1 k4 (m+1) [.ptr rp 0,.ptr bp 0,gM z2 ts,.int .i64 (ts.length:Int),.int .i64 (k:Int)] s=if(jQ gs ts m k).2=0 then k4 [.ptr bp 0] s' else k1 [.jg,.int .i64 (jQ gs ts m k).1,.int .i64 (jQ gs ts m k).2] s':=by
 intro m;induction m with
 |zero=>
  intro k s tk B hs h1 h2;obtain rfl:k=ts.length:=by omega
  refine⟨s,B.keeps,λ_=>⟨⟨tk,by simpa using B⟩,by simpa using hs⟩,?_⟩;rw[xY];simp[jQ]
 |succ m ih   =>
  intro k s tk B hs h1 h2;by_cases h:k<ts.length
  . have w:av .i64 ((k:Int)+1)=((k+1:Nat):Int):=wrap64 (by omega) (by omega);have wg:av .i64 ((gs.length:Int)+(k:Int))=(gs.length:Int)+k:=wrap64 (by omega) (by omega);have B1:=B.ai (Grew.ah B.wf (.cells ts[k].cells 0));have ki:(ah s (.cells ts[k].cells 0)).heap.get rp=some (.cells [dB z gs,gM z2 ts] 0):=B1.keeps _ _ VD;have cN:=B1.wf;have aqi:¬256<=k:=(by omega);have ec:jQ gs ts (m+1) k=if eK gs ts k ts[k]≠0 then((gs.length:Int)+k,eK gs ts k ts[k])else jQ gs ts m (k+1):=by rw[jQ,H0 h];simp only[aqi,Zh2];rw[aql];unfold eK okT yO;rw[abg h];cases ZU ts[k]<;>cases aN ts[k].a ts[k].b<;>cases acK ts[k] (pI ts k)<;>cases ry gs ts[k]<;>cases vH ts[k] (pI ts k)<;>simp
    have aaB:okT ts[k] (pI ts k)=true->∃s',aW s0 s'/\(eK gs ts k ts[k]=0->(jQ gs ts m (k+1)).2=0->(∃oR,eD s0 s' bp mp gs ts gk oR)/\IK ts)/\∃s2,c 131 [.ptr bp 0,.str ts[k].a,.str ts[k].b,.int .u8 ts[k].k] (ah s (.cells ts[k].cells 0))=some (.int .i64 (eK gs ts k ts[k]),s2)/\s2.heap.get rp=some (.cells [dB z gs,gM z2 ts] 0)/\
          (eK gs ts k ts[k]≠0->s'=s2)/\(eK gs ts k ts[k]=0->
            nD c F k1 k4 (m+1) [.ptr rp 0,.ptr bp 0,gM z2 ts,.int .i64 (ts.length:Int),.int .i64 ((k+1:Nat):Int)] s2=if(jQ gs ts m (k+1)).2=0 then k4 [.ptr bp 0] s' else k1 [.jg,.int .i64 (jQ gs ts m (k+1)).1,.int .i64 (jQ gs ts m (k+1)).2] s'):=λcG=>by
        have ah3:=cG;simp only[okT,Zb5,Zk5]at ah3;obtain⟨b2,b3⟩:=ah3;have auK:∀u,(ts.take k).getLast? =some u->gu ts[k] u=false:=λu hu=>by rw[abg h]at hu;rw[hu]at b3;exact b3
        obtain⟨s2,a1,a2,a3⟩:=atM hc GZ B1 (by simp;omega) ts[k] b2 hs auK;have et:eK gs ts k ts[k]=yO gs (ts.take k) ts[k]:=(by unfold eK;rw[Zb3 cG]);rw[<-et]at a1 a2 a3;by_cases h0:eK gs ts k ts[k]=0
        . obtain⟨oR,B2⟩:=a3 h0;have e1:ts.take k++[ts[k]]=ts.take (k+1):=(Zd4 h).symm;rw[e1]at B2;have hd:vH ts[k] (pI ts k)=false:=by
            rw[et,yO,abg h]at h0;cases hq:vH ts[k] (pI ts k)
            . rfl
            . rw[hq]at h0;split at h0
              . simp at h0
              . split at h0<;>simp at h0
          have rI:=aqk h hs (λu hu2=>by rw[hu2]at hd;simpa [vH]using hd);obtain⟨s',g1,gB,g2⟩:=ih (k+1) s2 oR B2 rI (by omega) (by omega);exact⟨s',g1,λ_=>gB,s2,a1,B2.keeps _ _ VD,λe=>absurd h0 e,λ_=>g2⟩
        . obtain rfl:=a2 h0;exact⟨_,B1.keeps,λe=>absurd e h0,_,a1,ki,λ_=>rfl,λe=>absurd e h0⟩
    rw[ec];cases cG:okT ts[k] (pI ts k)
    ·
        have e23:eK gs ts k ts[k]=23:=(by unfold eK;rw[cG];rfl);refine⟨_,B1.keeps,λe=>(by rw[e23,Zb3 (by decide)]at e;cases e),?_⟩;rw[xY,e23];cases q1:aN ts[k].a ts[k].b
        . simp[gM,h,q1,iH,ki,wg]
        . have q2:acK ts[k] (pI ts k)=true:=(by simpa [okT,q1]using cG);have yo:¬k=0:=λe=>by rw[pI,Zb3 e]at q2;cases q2
          have AI:k - 1<ts.length:=(by omega);have wk:av .i64 ((k:Int) - 1)=((k - 1:Nat):Int):=(by rw[wrap64 (by omega) (by omega)];omega);have q3:gu ts[k] ts[k - 1]=true:=(by rw[pI,Za7 yo,H0 AI]at q2;exact q2);have ho:=Lw hc ts[k - 1] ts[k] _ cN;have EI:¬uJ ts[k - 1] ts[k]<=0:=(by have:=Yy.2 q3;omega);simp[gM,h,q1,iH,ki,wg,yo,AI,wk,ho,EI]
    .   obtain⟨s',g1,gB,s2,t1,t2,t3,t4⟩:=aaB cG;refine⟨s',g1,λe=>by
          by_cases he:eK gs ts k ts[k]=0
          . exact gB he (by rw[Za7 (by simp[he])]at e;exact e)
          . rw[Zb3 he]at e;exact absurd e he,?_⟩
        rw[xY];have ah3:=cG;simp only[okT,Zb5,Zk5]at ah3;obtain⟨q1,q2⟩:=ah3;by_cases he:eK gs ts k ts[k]=0
        . have t4:=t4 he;rw[he]at t1;simp only[he,ne_eq,not_true,Zh2];rw[<-t4];by_cases yo:k=0
          . have dk:decide ((k:Int)=0)=true:=Za0 (by omega);have dk':decide (k=0)=true:=Za0 yo;clear yo;simp[gM,h,q1,iH,ki,dk,dk',t1,w]
          . have AI:k - 1<ts.length:=(by omega);have wk:av .i64 ((k:Int) - 1)=((k - 1:Nat):Int):=(by rw[wrap64 (by omega) (by omega)];omega);have q3:gu ts[k] ts[k - 1]=false:=(by rw[pI,Za7 yo,H0 AI]at q2;exact q2);have ho:=Lw hc ts[k - 1] ts[k] _ cN;have EI:uJ ts[k - 1] ts[k]<=0:=by
              have:¬0<uJ ts[k - 1] ts[k]:=λe=>by rw[Yy.1 e]at q3;cases q3
              omega
            simp[gM,h,q1,iH,ki,yo,AI,wk,ho,EI,t1,w]
        . obtain rfl:=t3 he;simp only[he,ne_eq,not_false_eq_true,Zh5,Zh2];by_cases yo:k=0
          . have dk:decide ((k:Int)=0)=true:=Za0 (by omega);have dk':decide (k=0)=true:=Za0 yo;clear yo;simp[gM,h,q1,iH,ki,dk,dk',t1,t2,wg,he]
          . have AI:k - 1<ts.length:=(by omega);have wk:av .i64 ((k:Int) - 1)=((k - 1:Nat):Int):=(by rw[wrap64 (by omega) (by omega)];omega);have q3:gu ts[k] ts[k - 1]=false:=(by rw[pI,Za7 yo,H0 AI]at q2;exact q2);have ho:=Lw hc ts[k - 1] ts[k] _ cN;have EI:uJ ts[k - 1] ts[k]<=0:=by
              have:¬0<uJ ts[k - 1] ts[k]:=λe=>by rw[Yy.1 e]at q3;cases q3
              omega
            simp[gM,h,q1,iH,ki,yo,AI,wk,ho,EI,t1,t2,wg,he]
  . obtain rfl:k=ts.length:=(by omega);refine⟨s,B.keeps,λ_=>⟨⟨tk,by simpa using B⟩,by simpa using hs⟩,?_⟩;rw[xY];have ec:jQ gs ts (m+1) ts.length=(0,0):=(by rw[jQ,Zc1 (by omega)]);simp[ec]
theorem Qf(hc:Sem c)(z z2:Bool)(gs:List aT)(ts:List Ty)(hl:gs.length<=100)(u6:ts.length<=100)(s:St)(hw:Wf s):
   ∃v s',c 68 [.agg [dB z gs,gM z2 ts]] s=some (.tuple [v,.int .i64 (dS gs ts).1,.int .i64 (dS gs ts).2],s')/\aW s s'/\((dS gs ts).2=0->∃bp mp gk tk,v= .ptr bp 0/\eD (ah s (.cells [dB z gs,gM z2 ts] 0)) s' bp mp gs ts gk tk/\IK ts):=by
 let s0:=ah s (.cells [dB z gs,gM z2 ts] 0)
 have GZ:Wf s0:=bF hw;have k0:aW s s0:=b9 hw;have VD:s0.heap.get s.next=some (.cells [dB z gs,gM z2 ts] 0):=aA _ _;have agA:=atJ hc s0;have B:=eD.start GZ
 have finish:∀{v:AV}{s':St},Dm c 102 (.agg [dB z gs,gM z2 ts]) s=some (.tuple [v,.int .i64 (dS gs ts).1,.int .i64 (dS gs ts).2],s')->aW s0 s'->((dS gs ts).2=0->∃bp mp gk tk,v= .ptr bp 0/\eD s0 s' bp mp gs ts gk tk/\IK ts)->
     ∃v s',c 68 [.agg [dB z gs,gM z2 ts]] s=some (.tuple [v,.int .i64 (dS gs ts).1,.int .i64 (dS gs ts).2],s')/\aW s s'/\((dS gs ts).2=0->∃bp mp gk tk,v= .ptr bp 0/\eD s0 s' bp mp gs ts gk tk/\IK ts):=λ{v s'} h hk hB=>by
   have h2:=ad0 hc 102 h;unfold tidy at h2;split at h2
   . rename_i hp;exact⟨v,s,h2,aW.refl s,λe=>by obtain⟨bp,mp,gk,tk,rfl,_⟩:=hB e;exact absurd hp.1 TG⟩
   . exact⟨v,s',h2,k0.trans hk,hB⟩
 obtain⟨s1,g1,g2⟩:=asx hc GZ z gs hl (ah s0 (.map [] 0)).next s0.next s.next 102 (λvs s30=>gY vs λx2 vs=>gY vs λx3 vs=>gY vs λx4 vs=>mz vs (some (.tuple [x2,x3,x4],s30))) (λvs s31=>gY vs λx1 vs=>gY vs λx5 vs=>mz vs (
   aq c (.fieldA 1) [x1] s31 λx29 s32=>aq c (.load none) [x29] s32 λx30 s33=>aq c (.lenB .l) [x30] s33 λx31 s34=>aq c .move [(.int .i64 0)] s34 λx32 s35=>
   nD c 102 (λvs s80=>gY vs λx2 vs=>gY vs λx3 vs=>gY vs λx4 vs=>mz vs (some (.tuple [x2,x3,x4],s80))) (λvs s81=>gY vs λx5 vs=>mz vs (
     aq c .move [x5] s81 λx74 s82=>aq c .move [x74] s82 λx2 s83=>aq c .move [(.int .i64 0)] s83 λx3 s84=>aq c .move [(.int .i64 0)] s84 λx4 s85=>some (.tuple [x2,x3,x4],s85))) 102 [x1,x5,x30,x31,x32] s35)) 101 0 _ none B (by omega) (by omega) (by omega)
 have anI:∀r,kP c 102 (λvs s30=>gY vs λx2 vs=>gY vs λx3 vs=>gY vs λx4 vs=>mz vs (some (.tuple [x2,x3,x4],s30))) (λvs s31=>gY vs λx1 vs=>gY vs λx5 vs=>mz vs (
   aq c (.fieldA 1) [x1] s31 λx29 s32=>aq c (.load none) [x29] s32 λx30 s33=>aq c (.lenB .l) [x30] s33 λx31 s34=>aq c .move [(.int .i64 0)] s34 λx32 s35=>
   nD c 102 (λvs s80=>gY vs λx2 vs=>gY vs λx3 vs=>gY vs λx4 vs=>mz vs (some (.tuple [x2,x3,x4],s80))) (λvs s81=>gY vs λx5 vs=>mz vs (
     aq c .move [x5] s81 λx74 s82=>aq c .move [x74] s82 λx2 s83=>aq c .move [(.int .i64 0)] s83 λx3 s84=>aq c .move [(.int .i64 0)] s84 λx4 s85=>some (.tuple [x2,x3,x4],s85))) 102 [x1,x5,x30,x31,x32] s35)) 102 [.ptr s.next 0,.ptr (ah s0 (.map [] 0)).next 0,dB z gs,.int .i64 (gs.length:Int),.int .i64 ((0:Nat):Int)] (ah (ah s0 (.map [] 0)) (.cells [.af,.af,.map s0.next] 0))=r->Dm c 102 (.agg [dB z gs,gM z2 ts]) s=r:=λr h=>by
   rw[<-h,ah4];have hb:=(B.keeps _ _ VD)
   simp only[dm,WZ,az,cC];show aaI (c 128 [] s0) _=_;rw[agA];simp only[bS,aO,aU,hb,aB,Za8,Za5,Zb6,aV,ap7];rfl
 rcases g2 with⟨q1,⟨TO,B2⟩,q3⟩|⟨q1,q3⟩
 . have e:dS gs ts=jQ gs ts 101 0:=(by rw[dS,Za7 (by simp[q1])]);obtain⟨s2,r1,rB,r2⟩:=asy hc GZ z z2 gs ts hl u6 (ah s0 (.map [] 0)).next s0.next s.next VD TO 102 (λvs s80=>gY vs λx2 vs=>gY vs λx3 vs=>gY vs λx4 vs=>mz vs (some (.tuple [x2,x3,x4],s80))) (λvs s81=>gY vs λx5 vs=>mz vs (
     aq c .move [x5] s81 λx74 s82=>aq c .move [x74] s82 λx2 s83=>aq c .move [(.int .i64 0)] s83 λx3 s84=>aq c .move [(.int .i64 0)] s84 λx4 s85=>some (.tuple [x2,x3,x4],s85))) 101 0 s1 none (by simpa using B2) (by intro i j hj;simp at hj) (by omega) (by omega)
   have lU:s1.heap.get s.next=some (.cells [dB z gs,gM z2 ts] 0):=B2.keeps _ _ VD;have hL:=anI _ q3;simp only[aH,bh,aO,aU,lU,aB,Za8,Zc0,Za5,Zb6,aV,aqb,az]at hL;have r2':=r2;rw[show(((0:Nat):Int))=0 from rfl]at r2';simp only[az,Nat.reduceAdd]at r2';rw[r2']at hL;rw[e]at finish ⊢;by_cases h2:(jQ gs ts 101 0).2=0
   . have h3:=acJ gs ts 101 0 h2;rw[Zb3 h2]at hL;simp only[aH,bh]at hL;exact finish (by rw[h2,h3];exact hL) r1 (λe=>by
        obtain⟨⟨oR,B3⟩,hs⟩:=rB e;exact⟨_,_,_,_,rfl,B3,hs⟩)
   . rw[Za7 h2]at hL;simp only[aH,bh]at hL;exact finish hL r1 (λe=>absurd e h2)
 . have e:dS gs ts=oN gs 101 0:=(by rw[dS,Zb3 q1]);have hL:=anI _ q3;simp only[aH,bh]at hL;rw[e]at finish ⊢;exact finish hL g1 (λe=>absurd e q1)
theorem ah5(hc:Sem c)(z z2:Bool)(gs:List aT)(ts:List Ty)(hl:gs.length<=100)(u6:ts.length<=100)(s:St)(hw:Wf s):c 89 [.agg [dB z gs,gM z2 ts]] s=some (.tuple [.int .i64 (dS gs ts).1,.int .i64 (dS gs ts).2],s):=by
 have GZ:Wf (ah s (.cells [dB z gs,gM z2 ts] 0)):=bF hw;obtain⟨v,s',h1,h2,_⟩:=Qf hc z z2 gs ts hl u6 _ GZ;have hcc:cut [dB z gs,gM z2 ts] 0 2=some [dB z gs,gM z2 ts]:=cQ rfl;rw[UT hc 1 (r:=(.tuple [.int .i64 (dS gs ts).1,.int .i64 (dS gs ts).2],s')),aE (Plain.tuple (by simp[Plain.int])) ((b9 hw).trans h2)];rw[Zd];simp[hcc,h1]
structure Rl where
 k:Int
 wt:Int
 a:List Nat
 b:List Nat
 t:List Nat
 n:Int
def Rl.cells(r:Rl):List AV:=[.int .u8 r.k,.int .i64 r.wt,.str r.a,.str r.b,.str r.t,.int .i64 r.n]
@[simp] theorem Rl.c0(t:Rl):t.cells[0]? =some (.int .u8 t.k):=id rfl
@[simp] theorem Rl.c1(t:Rl):t.cells[1]? =some (.int .i64 t.wt):=id rfl
@[simp] theorem Rl.c2(t:Rl):t.cells[2]? =some (.str t.a):=id rfl
@[simp] theorem Rl.c3(t:Rl):t.cells[3]? =some (.str t.b):=id rfl
@[simp] theorem Rl.c4(t:Rl):t.cells[4]? =some (.str t.t):=id rfl
@[simp] theorem Rl.c5(t:Rl):t.cells[5]? =some (.int .i64 t.n):=id rfl
@[simp] theorem Rl.cc(t:Rl):cut t.cells 0 6=some t.cells:=cQ rfl
@[simp] theorem Rl.one(t:Rl):aQ t.cells=true:=id rfl
def jq(z:Bool)(rs:List Rl):AV:=ro 6 z (rs.map Rl.cells)
@[simp] theorem avh{R:Type}(c:aj)(K:AV->St->Option R)(st:St)(z:Bool)(l:List Rl):aq c (.lenB .l) [jq z l] st K=K (.int .i64 (l.length:Int)) st:=by unfold jq;rw[iy];simp
structure cm where
 tz:Bool
 ts:List aD
 gz:Bool
 gs:List aT
 yz:Bool
 ys:List Ty
 cz:Bool
 cs:List Int
 rz:Bool
 rs:List Rl
def cm.cells(p:cm):List AV:=[tabs p.tz p.ts,dB p.gz p.gs,gM p.yz p.ys,ints p.cz p.cs,jq p.rz p.rs]
@[simp] theorem cm.c0(p:cm):p.cells[0]? =some (tabs p.tz p.ts):=id rfl
@[simp] theorem cm.c1(p:cm):p.cells[1]? =some (dB p.gz p.gs):=id rfl
@[simp] theorem cm.c2(p:cm):p.cells[2]? =some (gM p.yz p.ys):=id rfl
@[simp] theorem cm.c3(p:cm):p.cells[3]? =some (ints p.cz p.cs):=id rfl
@[simp] theorem cm.c4(p:cm):p.cells[4]? =some (jq p.rz p.rs):=id rfl
@[simp] theorem cm.cc(p:cm):cut p.cells 0 5=some p.cells:=cQ rfl
structure cm.GK(p:cm):Prop where
 ts:p.ts.length<=100
 gs:p.gs.length<=100
 ys:p.ys.length<=100
 cs:p.cs.length<=100
 rs:p.rs.length<=100
 ok:∀t∈p.ts,t.Ok
def zx(l:List Int):Bool:=l.all λc=>decide (0<=c)&&decide (c<64)
def jH(p:cm):Int×Int:=
 if(bP p.ts).2≠0 then bP p.ts else if(dS p.gs p.ys).2≠0 then dS p.gs p.ys
 else if p.cs.length≠0/\p.cs.length≠p.gs.length then(0,44)else if zx p.cs=false then(0,44)
 else if aZ p.ts<p.gs.length then(0,45)else(0,0)
theorem ajf{p:cm}(h:(jH p).2=0):(jH p).1=0:=by
 unfold jH at h ⊢;by_cases h1:(bP p.ts).2≠0
 . rw[Zb3 h1]at h;exact absurd h h1
 rw[Za7 h1]at h ⊢;by_cases h2:(dS p.gs p.ys).2≠0
 . rw[Zb3 h2]at h;exact absurd h h2
 rw[Za7 h2]
 repeat' split
 all_goals rfl
theorem alB(p:cm)(hp:p.GK)(q:Pos)(F:Nat)(s:St)(k1 k2):∀(m k:Nat),p.cs.length<=k+m->k<=p.cs.length->
  sF c F k1 k2 (m+1) [.ptr q 0,ints p.cz p.cs,.int .i64 (p.cs.length:Int),.int .i64 (k:Int)] s=if zx (p.cs.drop k)=true then k2 [.ptr q 0] s else k1 [.int .i64 0,.int .i64 44] s:=by
 have hl:=hp.cs;intro m;induction m with
 |zero=>
  intro k h1 h2;obtain rfl:k=p.cs.length:=by omega
  rw[Nu];simp[zx]
 |succ m ih=>
  intro k h1 h2;rw[Nu];by_cases h:k<p.cs.length
  . have e:p.cs.drop k=p.cs[k]::p.cs.drop (k+1):=Zd6 h;have w:av .i64 ((k:Int)+1)=((k+1:Nat):Int):=wrap64 (by omega) (by omega);have:=ih (k+1) (by omega) (by omega);have ec:zx (p.cs.drop k)=((decide (0<=p.cs[k])&&decide (p.cs[k]<64))&&zx (p.cs.drop (k+1))):=(by rw[e];rfl);rw[ec];generalize zx (p.cs.drop (k+1))=rest at this ⊢;by_cases h3:p.cs[k]<0
    .   have h4:(decide (0<=p.cs[k])&&decide (p.cs[k]<64))=false:=(by simp;omega);rw[h4];simp[ints,h,h3]
    .   by_cases h5:64<=p.cs[k]
        . have h4:(decide (0<=p.cs[k])&&decide (p.cs[k]<64))=false:=(by simp;omega);rw[h4];simp[ints,h,h3,h5]
        . have h4:(decide (0<=p.cs[k])&&decide (p.cs[k]<64))=true:=(by simp;omega);rw[h4,Zg6, <-this];simp[ints,h,h3,h5,w]
  . obtain rfl:k=p.cs.length:=(by omega);simp[zx]
theorem acL{d:Nat}(z:Bool)(l:List Int):fV (d+1) (ints z l):=fV.ro λr hr v hv=>by simp only[Zd0]at hr;obtain⟨i,_,rfl⟩:=hr;simp only[Zh9]at hv;subst hv;exact fV.int _ _
theorem alC{d:Nat}(z:Bool)(l:List (List Nat)):fV (d+1) (lq z l):=fV.ro λr hr v hv=>by simp only[Zd0]at hr;obtain⟨i,_,rfl⟩:=hr;simp only[Zh9]at hv;subst hv;exact fV.str _
theorem alD(z:Bool)(l:List aT):fV 3 (dB z l):=fV.ro λr hr v hv=>by simp only[Zd0]at hr;obtain⟨g,_,rfl⟩:=hr;simp only[aT.cells,Zb0,Zc5,Zf2]at hv;rcases hv with rfl|rfl|rfl|rfl|rfl|rfl|rfl|rfl|rfl<;>first|exact fV.str _|exact fV.int _ _|exact fV.bool _|exact alC _ _
theorem anJ(z:Bool)(l:List Rl):fV 3 (jq z l):=fV.ro λr hr v hv=>by simp only[Zd0]at hr;obtain⟨g,_,rfl⟩:=hr;simp only[Rl.cells,Zb0,Zc5,Zf2]at hv;rcases hv with rfl|rfl|rfl|rfl|rfl|rfl<;>first|exact fV.str _|exact fV.int _ _|exact fV.bool _
theorem vh(z z2:Bool)(gs:List aT)(ts:List Ty):cE [.af,.af] [(0,1),(1,1)] [dB z gs,gM z2 ts]=some [dB z gs,gM z2 ts]:=by have e1:(dB z gs).cells=[dB z gs]:=ag3 _ _ _;have e2:(gM z2 ts).cells=[gM z2 ts]:=ag3 _ _ _;unfold cE;rw[e1];show cE [dB z gs,.af] [(1,1)] [gM z2 ts]=_;unfold cE;rw[e2];rfl
def acM(c:aj)(p:cm):Prop:=(∀st,Wf st->c 89 [.agg [dB p.gz p.gs,gM p.yz p.ys]] st=some (.tuple [.int .i64 (dS p.gs p.ys).1,.int .i64 (dS p.gs p.ys).2],st))
theorem aqm (hc:Sem c)(p:cm)(hp:p.GK)(hR:acM c p)(st:St)(hw:Wf st):c 49 [.agg p.cells] st=some (.tuple [.int .i64 (jH p).1,.int .i64 (jH p).2],st):=by
 have cN:Wf (ah st (.cells p.cells 0)):=bF hw;have hg1:=Grew.ah hw (.cells p.cells 0);have ki:(ah st (.cells p.cells 0)).heap.get st.next=some (.cells p.cells 0):=aA _ _;have A:=ZT hc p.tz p.ts hp.ok _ cN;have B:=hR _ cN;have D:=FO hc p.tz p.ts hp.ok _ cN;have L:∀k1 k2,sF c 101 k1 k2 101 [.ptr st.next 0,ints p.cz p.cs,.int .i64 (p.cs.length:Int),.int .i64 0] (ah st (.cells p.cells 0))=if zx p.cs=true then k2 [.ptr st.next 0] (ah st (.cells p.cells 0))else k1 [.int .i64 0,.int .i64 44] (ah st (.cells p.cells 0)):=
   λk1 k2=>alB (c:=c) p hp st.next 101 (ah st (.cells p.cells 0)) k1 k2 100 0 (by have:=hp.cs;omega) (by omega)
 have Lx:=λ(K:AV->Option (AV×St))=>kY K (p:=st.next) (o:=1) (h:=(ah st (.cells p.cells 0)).heap) (h2:=(ah st (.cells p.cells 0)).heap) (v:=dB p.gz p.gs) (by rw[ki];rfl) (by rw[ki];rfl) (VW (alD _ _))
 rw[ad1 hc 101 (r:=(.tuple [.int .i64 (jH p).1,.int .i64 (jH p).2],ah st (.cells p.cells 0))),aE (Plain.tuple (by simp[Plain.int])) hg1.keeps];rw[ah6];unfold jH;by_cases h1:(bP p.ts).2=0
 . by_cases h2:(dS p.gs p.ys).2=0
   . simp only[h1,Zh5]at D;by_cases h3:p.cs.length=0
     .  have h4:p.cs=[]:=(by simpa using h3);have L1:zx p.cs=true:=(by rw[h4];rfl);have e0:((p.cs.length:Nat):Int)=0:=(by omega);simp only[L1,Zh5,e0]at L;by_cases h6:aZ p.ts<p.gs.length
        . simp[vh,h1,h2,h3,A,B,D,ki,L1,L,Lx,h6]
        . simp[vh,h1,h2,h3,A,B,D,ki,L1,L,Lx,h6]
     .  by_cases h4:p.cs.length=p.gs.length
        . cases h5:zx p.cs with
          | false=>
            simp only[h5,Zf5,Zh2,h4]at L;have h7:0<p.cs.length:=(by omega);have h8:0<p.gs.length:=(by omega);simp[vh,h1,h2,h3,h4,h5,h7,h8,A,B,ki,L]
          | true=>
            simp only[h5,Zh5,h4]at L;have h7:0<p.cs.length:=(by omega);have h8:0<p.gs.length:=(by omega);by_cases h6:aZ p.ts<p.gs.length
            . simp[vh,h1,h2,h3,h4,h5,h7,h8,A,B,D,ki,L,Lx,h6]
            . simp[vh,h1,h2,h3,h4,h5,h7,h8,A,B,D,ki,L,Lx,h6]
        . have h7:0<p.cs.length:=(by omega);have h4i:¬((p.cs.length:Int)=(p.gs.length:Int)):=(by omega);simp[vh,h1,h2,h3,h4,h4i,h7,A,B,ki]
   . simp[vh,h1,h2,A,B,ki]
 . simp[h1,A,ki]
theorem asz(hc:Sem c){p:cm}(hp:p.GK):acM c p:=λst hw=>ah5 hc p.gz p.yz p.gs p.ys hp.gs hp.ys st hw
theorem anK(z:Bool)(rs:List (List AV))(hl:rs.length<wE)(dV:∀cs∈rs,cs.length=9)(g:Nat)(v:List AV)(P:Nat->Bool)(st:St)(F:Nat)(k1 k2)
  (hP:∀i (h:i<rs.length),c g (.agg rs[i]::v) st=some (.bool (P i),st)):∀(m k:Nat),rs.length<=k+m->k<=rs.length->
  cU c F k1 k2 (m+1) [ro 9 z rs,.func g [] v,.int .i64 (rs.length:Int),.int .i64 (k:Int)] st=if 0<=scan P (rs.length - k) k then k1 [.int .i64 (scan P (rs.length - k) k)] st else k2 [] st:=by
 intro m;induction m with
 |zero=>
  intro k h1 h2;obtain rfl:k=rs.length:=by omega
  rw[mC];simp[scan]
 |succ m ih=>
  intro k h1 h2;rw[mC];by_cases h:k<rs.length
  . have e:rs.length - k=(rs.length - (k+1))+1:=(by omega);have w:av .i64 ((k:Int)+1)=((k+1:Nat):Int):=wrap64 (by omega) (by unfold wE at hl;omega);have hcut:cut rs[k] 0 9=some rs[k]:=cQ (dV _ (Zb8 h));have hp:=hP k h;rw[e,scan];cases hb:P k
    .   simp only[Zf5,Zh2];rw[<-ih (k+1) (by omega) (by omega)];simp[h,hcut,hp,hb,w]
    .   simp[h,hcut,hp,hb]
  . obtain rfl:k=rs.length:=(by omega);simp[scan]
theorem asA(hc:Sem c)(z:Bool)(rs:List (List AV))(hl:rs.length<wE)(dV:∀cs∈rs,cs.length=9)(g:Nat)(v:List AV)(P:Nat->Bool)(st:St)
   (hP:∀i (h:i<rs.length),c g (.agg rs[i]::v) st=some (.bool (P i),st)):c 175 [ro 9 z rs,.func g [] v] st=some (.int .i64 (scan P rs.length 0),st):=by
 rw[vL hc (rs.length+1) (r:=(.int .i64 (scan P rs.length 0),st)),aE (Plain.int _ _) (aW.refl st)];rw[xp];have L:∀k1 k2,cU c (rs.length+1) k1 k2 (rs.length+1) [ro 9 z rs,.func g [] v,.int .i64 (rs.length:Int),.int .i64 0] st=if 0<=scan P (rs.length - 0) 0 then k1 [.int .i64 (scan P (rs.length - 0) 0)] st else k2 [] st:=
   λk1 k2=>anK z rs hl dV g v P st _ k1 k2 hP rs.length 0 (by omega) (by omega)
 rw[Zr0]at L;by_cases h:0<=scan P rs.length 0
 . simp[L,h]
 . have:=(adT P rs.length 0).2 (by omega);simp[L,this]
theorem asB(hc:Sem c)(g:aT)(s:List Nat)(p:Pos)(st:St)(hw:Wf st)(hp:st.heap.get p=some (.cells [.str s] 0)):c 176 [.agg g.cells,.ptr p 0] st=some (.bool (decide (g.name=s)),st):=by
 rw[ad2 hc 1 (r:=(.bool (decide (g.name=s)),ah st (.cells g.cells 0))),aE (Plain.bool _) (b9 hw)];rw[ah7];have:(ah st (.cells g.cells 0)).heap.get p=some (.cells [.str s] 0):=b9 hw _ _ hp;simp[this]
theorem ana(hc:Sem c)(p:cm)(hp:p.GK)(s:List Nat)(st:St)(hw:Wf st):c 109 [.agg p.cells,.str s] st=some (.int .i64 (scan (nW p.gs s) p.gs.length 0),st):=by
 have cN:Wf (ah st (.cells p.cells 0)):=bF hw;have sQ:=bF (b:= .cells [.str s] 0) cN;have hg:=(Grew.ah hw (.cells p.cells 0)).trans (Grew.ah cN (.cells [.str s] 0));have ki:(ah (ah st (.cells p.cells 0)) (.cells [.str s] 0)).heap.get st.next=some (.cells p.cells 0):=by have:=aA st (.cells p.cells 0);exact(Grew.ah cN (.cells [.str s] 0)).get this
 have hi:=asA hc p.gz (p.gs.map aT.cells) (by have:=hp.gs;simp;unfold wE;omega) (λcs eX=>by
   simp only[Zd0]at eX;obtain⟨t,_,rfl⟩:=eX;rfl) 176 [.ptr (ah st (.cells p.cells 0)).next 0] (nW p.gs s) (ah (ah st (.cells p.cells 0)) (.cells [.str s] 0)) (λi hi=>by
   have hi3:i<p.gs.length:=(by simpa using hi);have:=asB hc p.gs[i] s (ah st (.cells p.cells 0)).next _ sQ (aA _ _);simp only[Zo5];rw[this];simp[nW,hi3])
 rw[Za4]at hi;rw[ah8 hc 1 (r:=(.int .i64 (scan (nW p.gs s) p.gs.length 0),ah (ah st (.cells p.cells 0)) (.cells [.str s] 0))),aE (Plain.int _ _) hg.keeps];rw[alE];have e:(AV.str s).cells=[.str s]:=rfl;simp[e,hi,ki,dB]
structure Kd where
 w:List Nat
 a:Int
 b:Bool
 t:Int
 n:Bool
 lo:Int
 kB:Bool
 f:AV
def Kd.cells(k:Kd):List AV:=[.str k.w,.int .u8 k.a,.bool k.b,.int .u8 k.t,.bool k.n,.int .i64 k.lo,.bool k.kB,k.f]
@[simp] theorem Kd.c0(t:Kd):t.cells[0]? =some (.str t.w):=id rfl
@[simp] theorem Kd.c1(t:Kd):t.cells[1]? =some (.int .u8 t.a):=id rfl
@[simp] theorem Kd.c2(t:Kd):t.cells[2]? =some (.bool t.b):=id rfl
@[simp] theorem Kd.c3(t:Kd):t.cells[3]? =some (.int .u8 t.t):=id rfl
@[simp] theorem Kd.c4(t:Kd):t.cells[4]? =some (.bool t.n):=id rfl
@[simp] theorem Kd.c5(t:Kd):t.cells[5]? =some (.int .i64 t.lo):=id rfl
@[simp] theorem Kd.c6(t:Kd):t.cells[6]? =some (.bool t.kB):=id rfl
@[simp] theorem Kd.cc(t:Kd):cut t.cells 0 8=some t.cells:=cQ rfl
def Lp(k:Kd)(r:Rl):Bool:=(decide (k.a≠0)||decide (r.a=[]))&&(k.b||decide (r.b=[]))&&(decide (k.t≠0)||decide (r.t=[]))&&(k.n||decide (r.n=0))
theorem aqn (hc:Sem c)(k:Kd)(r:Rl)(st:St)(hw:Wf st):c 108 [.agg k.cells,.agg r.cells] st=some (.bool (Lp k r),st):=by
 have cN:Wf (ah st (.cells k.cells 0)):=bF hw;have CR:=Grew.ah cN (.cells r.cells 0);have hg:=(Grew.ah hw (.cells k.cells 0)).trans CR;have p1:=CR.get (aA st (.cells k.cells 0));have p2:=aA (ah st (.cells k.cells 0)) (.cells r.cells 0);rw[UU hc 1 (r:=(.bool (Lp k r),ah (ah st (.cells k.cells 0)) (.cells r.cells 0))),aE (Plain.bool _) hg.keeps];rw[Ze];unfold Lp;by_cases h0:k.a=0;rotate_left
 . cases  h2:k.b with
   |true=>
    by_cases h4:k.t=0;rotate_left
    .   cases h6:k.n with
        | true=>
          simp[h0,h2,h4,h6]
        | false=>
          by_cases h7:r.n=0
          . simp[h0,h2,h4,h6,h7]
          . simp[h0,h2,h4,h6,h7]
    by_cases h5:r.t=[]
    .   cases h6:k.n with
        | true=>
          simp[h0,h2,h4,h5,h6]
        | false=>
          by_cases h7:r.n=0
          . simp[h0,h2,h4,h5,h6,h7]
          . simp[h0,h2,h4,h5,h6,h7]
    .   simp[h0,h2,h4,h5]
   |false   =>
    by_cases h3:r.b=[]
    .   by_cases h4:k.t=0;rotate_left
        . cases h6:k.n with
          | true=>
            simp[h0,h2,h3,h4,h6]
          | false=>
            by_cases h7:r.n=0
            . simp[h0,h2,h3,h4,h6,h7]
            . simp[h0,h2,h3,h4,h6,h7]
        by_cases h5:r.t=[]
        . cases h6:k.n with
          | true=>
            simp[h0,h2,h3,h4,h5,h6]
          | false=>
            by_cases h7:r.n=0
            . simp[h0,h2,h3,h4,h5,h6,h7]
            . simp[h0,h2,h3,h4,h5,h6,h7]
        . simp[h0,h2,h3,h4,h5]
    .   simp[h0,h2,h3]
 by_cases h1:r.a=[]
 . cases  h2:k.b with
   |true=>
    by_cases h4:k.t=0;rotate_left
    .   cases h6:k.n with
        | true=>
          simp[h0,h1,h2,h4,h6]
        | false=>
          by_cases h7:r.n=0
          . simp[h0,h1,h2,h4,h6,h7]
          . simp[h0,h1,h2,h4,h6,h7]
    by_cases h5:r.t=[]
    .   cases h6:k.n with
        | true=>
          simp[h0,h1,h2,h4,h5,h6]
        | false=>
          by_cases h7:r.n=0
          . simp[h0,h1,h2,h4,h5,h6,h7]
          . simp[h0,h1,h2,h4,h5,h6,h7]
    .   simp[h0,h1,h2,h4,h5]
   |false   =>
    by_cases h3:r.b=[]
    .   by_cases h4:k.t=0;rotate_left
        . cases h6:k.n with
          | true=>
            simp[h0,h1,h2,h3,h4,h6]
          | false=>
            by_cases h7:r.n=0
            . simp[h0,h1,h2,h3,h4,h6,h7]
            . simp[h0,h1,h2,h3,h4,h6,h7]
        by_cases h5:r.t=[]
        . cases h6:k.n with
          | true=>
            simp[h0,h1,h2,h3,h4,h5,h6]
          | false=>
            by_cases h7:r.n=0
            . simp[h0,h1,h2,h3,h4,h5,h6,h7]
            . simp[h0,h1,h2,h3,h4,h5,h6,h7]
        . simp[h0,h1,h2,h3,h4,h5]
    .   simp[h0,h1,h2,h3]
 . simp[h0,h1]
theorem Ce{R:Type}(P:(List AV->St->Option R)->Prop){A:(List AV->St->Option R)->Option R}{T:List AV->St->Option R}{r:Option R}(hT:P T)(hA:∀j,P j->A j=r):cL A T=r:=hA T hT
theorem SE{R:Type}(c:aj)(K:AV->St->Option R)(st:St)(es:Nat)(z:Bool)(rs:List (List AV))(k k':IntKind)(i j:Nat)(h:i<j)(h2:j<=rs.length):
  aq c (.sliceL es true true false) [ro es z rs,.int k (i:Int),.int k' (j:Int)] st K=K (ro es false ((rs.take j).drop i)) st:=by
 have:∀H n,aG.run H n (.sliceL es true true false) [ro es z rs,.int k (i:Int),.int k' (j:Int)]=some (.val (ro es false ((rs.take j).drop i))):=λH n=>by
  rw[adt (by intro e;subst e;simp at h2;omega)];have h3:i<=j:=by omega
  simp[aG.run,iP,bounds,jy,cZ,dc,h3,h2,ro]
 exact aR c K this st
theorem ae1(ts:List aD):∀(m k:Nat),(iE ts m k).2=0->∀i,k<=i->i<k+m->∀h:i<ts.length,rZ ts[i]=0
 |0,k,_,i,h1,h2,_=>by omega
 |m +   1,k,h,i,h1,h2,hi=>by
  have hk:k<ts.length:=by omega
  rw[iE,H0 hk]at h;simp only at h;by_cases h3:rZ ts[k]=0
  . rw[Za7 (by simp[h3])]at h;by_cases h4:0<=scan (uI ts ts[k].name) k 0
    .   rw[Zb3 h4]at h;simp at h
    .   rw[Za7 h4]at h;by_cases e:i=k
        . subst e;exact h3
        . exact ae1 ts m (k+1) h i (by omega) (by omega) hi
  . rw[Zb3 h3]at h;exact absurd h h3
theorem Hf{ts:List aD}(h:(bP ts).2=0)(i:Nat)(hi:i<ts.length):rZ ts[i]=0:=by
 unfold bP at h;split at h
 . simp at h
 . exact ae1 ts ts.length 0 h i (by omega) (by omega) hi
theorem Hg{t:aD}(h:rZ t=0):(bP [t]).2=0:=by
 simp[bP,iE,h,scan]
def gi(p:cm)(s:List Nat):Int:=scan (nW p.gs s) p.gs.length 0
def ti(p:cm)(s:List Nat):Int:=scan (uI p.ts s) p.ts.length 0
def zY(p:cm)(i:Int):Int:=match p.ts[i.toNat]? with
 |some t=>bI t
 |none=>0
def Bu(k:Kd)(r:Rl)(m:Int):Int:=if k.n=true/\(r.n<k.lo\/m<r.n)then 42 else 0
def Yw(k:Kd)(p:cm)(r:Rl):Int:=
 if(k.t=116/\ti p r.t<0)\/(k.t=101/\r.t≠[]/\ti p r.t<0)then 6
 else Bu k r (if k.kB=true then zY p (ti p r.t) - 1 else 24)
def adK(k:Kd)(p:cm)(r:Rl):Int:=
 if k.a=100/\oF r.a=false then 4 else if k.b=true/\r.a=r.b then 5 else Yw k p r
def Se(k:Kd)(p:cm)(r:Rl):Int:=
 if k.w=[]then 40 else if r.wt<0\/1000<r.wt then 41 else if Lp k r=false then 43
 else if(k.a=103/\gi p r.a<0)\/(k.a=101/\r.a≠[]/\gi p r.a<0)\/(k.b=true/\gi p r.b<0)then 6
 else adK k p r
theorem anL (hc : Sem c)(k:Kd)(hk:k.kB=true->k.t=116)(p:cm)(hp:p.GK)(hv:(bP p.ts).2=0)(r:Rl)(st:St)(hw:Wf st):
   c 51 [.agg k.cells,.agg p.cells,.agg r.cells] st=some (.int .i64 (Se k p r),st):=by
 have cN:Wf (ah st (.cells k.cells 0)):=bF hw;have sQ:=bF (b:= .cells p.cells 0) cN;have hg3:=Grew.ah sQ (.cells r.cells 0);have CR:=Grew.ah cN (.cells p.cells 0);have hg:=((Grew.ah hw (.cells k.cells 0)).trans CR).trans hg3;have hw3:=hg.wf;have p1:=hg3.get (CR.get (aA st (.cells k.cells 0)));have p2:=hg3.get (aA (ah st (.cells k.cells 0)) (.cells p.cells 0));have p3:=aA (ah (ah st (.cells k.cells 0)) (.cells p.cells 0)) (.cells r.cells 0);have A:=λs=>ana hc p hp s _ hw3
 have B:=aqn hc k r _ hw3;have D:=asu hc p.tz p.ts hp.ok (by have:=hp.ts;unfold wE;omega) r.t _ hw3;have N:=ahP hc r.a (ah (ah (ah st (.cells k.cells 0)) (.cells p.cells 0)) (.cells r.cells 0));rw[UW hc 1 (r:=(.int .i64 (Se k p r),ah (ah (ah st (.cells k.cells 0)) (.cells p.cells 0)) (.cells r.cells 0))),aE (Plain.int _ _) hg.keeps];rw[Zf];simp only[dm,az,AV.cells];generalize ah (ah (ah st (.cells k.cells 0)) (.cells p.cells 0)) (.cells r.cells 0)=s at*
 generalize (ah (ah st (.cells k.cells 0)) (.cells p.cells 0)).next=q3 at*
 generalize (ah st (.cells k.cells 0)).next=q2 at*
 generalize st.next=q1 at*
 refine Ce (P:=λj=>j [.ptr q1 0,.ptr q2 0,.ptr q3 0] s=some (.int .i64 (Yw k p r),s)) ?_ ?_
 . have D2  : c 111 [tabs p.tz p.ts,.str r.t] s=some (.tuple [.int .i64 (if 0<=ti p r.t then ti p r.t else 0),.bool (decide (0<=ti p r.t))],s):=(by simp only[hv,Zp1]at D;exact D);have hit:=Bv (P:=uI p.ts r.t) p.ts.length 0;clear D A B N hg CR hg3 hw cN sQ;unfold Yw;by_cases ht:0<=ti p r.t
   . have W9  : ¬ ti p r.t<0:=(by omega);obtain⟨i,hi⟩:∃i:Nat,ti p r.t=(i:Int):=⟨(ti p r.t).toNat,by omega⟩
     have gZ:i<p.ts.length:=(by have:=(hit ht).2.1;unfold ti at hi;rw[hi]at this;simpa using this);simp only[ht,Zh5,Zg1]at D2;by_cases h1:k.t=116
     .  simp[ p1,p2,p3,D2,h1,W9];refine Ce (P:=λj=>∀m,j [.ptr q1 0,.ptr q3 0,.int .i64 m] s=some (.int .i64 (Bu k r m),s)) ?_ ?_
        . intro m;unfold Bu;cases hn:k.n with
          |false=>simp[p1,hn]
          | true=>
            by_cases e1:r.n<k.lo
            . simp[p1,p3,hn,e1]
            . by_cases e2:m<r.n
              . simp[p1,p3,hn,e1,e2]
              . simp[p1,p3,hn,e1,e2]
        . intro j hj;cases hs:k.kB with
          |false=>simp[p1,hs,hj]
          | true=>
            have w:av .i64 ((i:Int)+1)=(i:Int)+1:=(by have:=hp.ts;exact wrap64 (by omega) (by omega));have cnt:=FO hc false [p.ts[i]] (λt ht=>by simp only[Zh9]at ht;subst ht;exact hp.ok _ (Zb8 gZ)) s hw3;rw[Zb3 (Hg (Hf hv i gZ)),show aZ [p.ts[i]]=bI p.ts[i]by simp[aZ]]at cnt;have b:=AH p.ts[i];have w2:av .i64 (bI p.ts[i] - 1)=bI p.ts[i] - 1:=wrap64 (by omega) (by omega);have hcut:∀K:AV->St->Option (AV×St),aq c (.sliceL 7 true true false) [tabs p.tz p.ts,.int .i64 (i:Int),.int .i64 ((i:Int)+1)] s K=K (tabs false [p.ts[i]]) s:=λK=>by
              (unfold tabs;have:=SE c K s 7 p.tz (p.ts.map aD.cells) .i64 .i64 i (i+1) (by omega) (by rw[Za4];omega);rw[show((i:Int)+1)=((i+1:Nat):Int)by omega,this];have e:((p.ts.map aD.cells).take (i+1)).drop i=[p.ts[i]].map aD.cells:=by rw[Zd4 (by simpa using gZ),Zg5 (by simp;omega)];simp);rw[e]
            have e3:zY p (i:Int)=bI p.ts[i]:=(by simp[zY,gZ]);simp[p1,p2,hs,hi,e3,w,hcut,cnt,hj,w2]
     .  by_cases h2 :k.t=101
        . by_cases h3:r.t=[]
          . simp only[h3]at D2 W9 hi;simp[p1,p2,p3,D2,h1,h2,h3,W9];refine Ce (P:=λj=>∀m,j [.ptr q1 0,.ptr q3 0,.int .i64 m] s=some (.int .i64 (Bu k r m),s)) ?_ ?_
            . intro m;unfold Bu;cases hn:k.n with
              |false=>simp[p1,hn]
              | true=>
                by_cases e1:r.n<k.lo
                . simp[p1,p3,hn,e1]
                . by_cases e2:m<r.n
                  . simp[p1,p3,hn,e1,e2]
                  . simp[p1,p3,hn,e1,e2]
            . intro j hj;cases hs:k.kB with
              |false=>simp[p1,hs,hj]
              | true=>
                have w:av .i64 ((i:Int)+1)=(i:Int)+1:=(by have:=hp.ts;exact wrap64 (by omega) (by omega));have cnt:=FO hc false [p.ts[i]] (λt ht=>by simp only[Zh9]at ht;subst ht;exact hp.ok _ (Zb8 gZ)) s hw3;rw[Zb3 (Hg (Hf hv i gZ)),show aZ [p.ts[i]]=bI p.ts[i]by simp[aZ]]at cnt;have b:=AH p.ts[i];have w2:av .i64 (bI p.ts[i] - 1)=bI p.ts[i] - 1:=wrap64 (by omega) (by omega);have hcut:∀K:AV->St->Option (AV×St),aq c (.sliceL 7 true true false) [tabs p.tz p.ts,.int .i64 (i:Int),.int .i64 ((i:Int)+1)] s K=K (tabs false [p.ts[i]]) s:=λK=>by
                  (unfold tabs;have:=SE c K s 7 p.tz (p.ts.map aD.cells) .i64 .i64 i (i+1) (by omega) (by rw[Za4];omega);rw[show((i:Int)+1)=((i+1:Nat):Int)by omega,this];have e:((p.ts.map aD.cells).take (i+1)).drop i=[p.ts[i]].map aD.cells:=by rw[Zd4 (by simpa using gZ),Zg5 (by simp;omega)];simp);rw[e]
                have e3:zY p (i:Int)=bI p.ts[i]:=(by simp[zY,gZ]);simp[p1,p2,hs,hi,e3,w,hcut,cnt,hj,w2]
          . simp[ p1,p2,p3,D2,h1,h2,h3,W9];refine Ce (P:=λj=>∀m,j [.ptr q1 0,.ptr q3 0,.int .i64 m] s=some (.int .i64 (Bu k r m),s)) ?_ ?_
            . intro m;unfold Bu;cases hn:k.n with
              |false=>simp[p1,hn]
              | true=>
                by_cases e1:r.n<k.lo
                . simp[p1,p3,hn,e1]
                . by_cases e2:m<r.n
                  . simp[p1,p3,hn,e1,e2]
                  . simp[p1,p3,hn,e1,e2]
            . intro j hj;cases hs:k.kB with
              |false=>simp[p1,hs,hj]
              | true=>
                have w:av .i64 ((i:Int)+1)=(i:Int)+1:=(by have:=hp.ts;exact wrap64 (by omega) (by omega));have cnt:=FO hc false [p.ts[i]] (λt ht=>by simp only[Zh9]at ht;subst ht;exact hp.ok _ (Zb8 gZ)) s hw3;rw[Zb3 (Hg (Hf hv i gZ)),show aZ [p.ts[i]]=bI p.ts[i]by simp[aZ]]at cnt;have b:=AH p.ts[i];have w2:av .i64 (bI p.ts[i] - 1)=bI p.ts[i] - 1:=wrap64 (by omega) (by omega);have hcut:∀K:AV->St->Option (AV×St),aq c (.sliceL 7 true true false) [tabs p.tz p.ts,.int .i64 (i:Int),.int .i64 ((i:Int)+1)] s K=K (tabs false [p.ts[i]]) s:=λK=>by
                  (unfold tabs;have:=SE c K s 7 p.tz (p.ts.map aD.cells) .i64 .i64 i (i+1) (by omega) (by rw[Za4];omega);rw[show((i:Int)+1)=((i+1:Nat):Int)by omega,this];have e:((p.ts.map aD.cells).take (i+1)).drop i=[p.ts[i]].map aD.cells:=by rw[Zd4 (by simpa using gZ),Zg5 (by simp;omega)];simp);rw[e]
                have e3:zY p (i:Int)=bI p.ts[i]:=(by simp[zY,gZ]);simp[p1,p2,hs,hi,e3,w,hcut,cnt,hj,w2]
        . simp[ p1,p2,p3,D2,h1,h2,W9];refine Ce (P:=λj=>∀m,j [.ptr q1 0,.ptr q3 0,.int .i64 m] s=some (.int .i64 (Bu k r m),s)) ?_ ?_
          . intro m;unfold Bu;cases hn:k.n with
            |false=>simp[p1,hn]
            | true=>
              by_cases e1:r.n<k.lo
              . simp[p1,p3,hn,e1]
              . by_cases e2:m<r.n
                . simp[p1,p3,hn,e1,e2]
                . simp[p1,p3,hn,e1,e2]
          . intro j hj;cases hs:k.kB with
            |false=>simp[p1,hs,hj]
            | true=>
              have w:av .i64 ((i:Int)+1)=(i:Int)+1:=(by have:=hp.ts;exact wrap64 (by omega) (by omega));have cnt:=FO hc false [p.ts[i]] (λt ht=>by simp only[Zh9]at ht;subst ht;exact hp.ok _ (Zb8 gZ)) s hw3;rw[Zb3 (Hg (Hf hv i gZ)),show aZ [p.ts[i]]=bI p.ts[i]by simp[aZ]]at cnt;have b:=AH p.ts[i];have w2:av .i64 (bI p.ts[i] - 1)=bI p.ts[i] - 1:=wrap64 (by omega) (by omega);have hcut:∀K:AV->St->Option (AV×St),aq c (.sliceL 7 true true false) [tabs p.tz p.ts,.int .i64 (i:Int),.int .i64 ((i:Int)+1)] s K=K (tabs false [p.ts[i]]) s:=λK=>by
                (unfold tabs;have:=SE c K s 7 p.tz (p.ts.map aD.cells) .i64 .i64 i (i+1) (by omega) (by rw[Za4];omega);rw[show((i:Int)+1)=((i+1:Nat):Int)by omega,this];have e:((p.ts.map aD.cells).take (i+1)).drop i=[p.ts[i]].map aD.cells:=by rw[Zd4 (by simpa using gZ),Zg5 (by simp;omega)];simp);rw[e]
              have e3:zY p (i:Int)=bI p.ts[i]:=(by simp[zY,gZ]);simp[p1,p2,hs,hi,e3,w,hcut,cnt,hj,w2]
   . have W9  : ti p r.t<0:=(by omega);simp only[ht,Zh2,decide_false]at D2;by_cases h1:k.t=116
     .  simp[p1,p2,p3,D2,h1,W9]
     .  by_cases h2:k.t=101
        . by_cases h3:r.t=[]
          . simp only[h3]at D2 W9;simp[p1,p2,p3,D2,h1,h2,h3,W9];refine Ce (P:=λj=>∀m,j [.ptr q1 0,.ptr q3 0,.int .i64 m] s=some (.int .i64 (Bu k r m),s)) ?_ ?_
            . intro m;unfold Bu;cases hn:k.n with
              |false=>simp[p1,hn]
              | true=>
                by_cases e1:r.n<k.lo
                . simp[p1,p3,hn,e1]
                . by_cases e2:m<r.n
                  . simp[p1,p3,hn,e1,e2]
                  . simp[p1,p3,hn,e1,e2]
            . intro j hj;have hs:k.kB=false:=by
                cases h:k.kB with
                |false=>rfl
                |true=>exact absurd (hk h) h1
              simp[p1,hs,hj]
          . simp[p1,p2,p3,D2,h1,h2,h3,W9]
        . simp[ p1,p2,p3,D2,h1,h2,W9];refine Ce (P:=λj=>∀m,j [.ptr q1 0,.ptr q3 0,.int .i64 m] s=some (.int .i64 (Bu k r m),s)) ?_ ?_
          . intro m;unfold Bu;cases hn:k.n with
            |false=>simp[p1,hn]
            | true=>
              by_cases e1:r.n<k.lo
              . simp[p1,p3,hn,e1]
              . by_cases e2:m<r.n
                . simp[p1,p3,hn,e1,e2]
                . simp[p1,p3,hn,e1,e2]
          . intro j hj;have hs:k.kB=false:=by
              cases h:k.kB with
              |false=>rfl
              |true=>exact absurd (hk h) h1
            simp[p1,hs,hj]
 . intro  j hj;have A2:∀nm,c 109 [.agg p.cells,.str nm] s=some (.int .i64 (gi p nm),s):=A;have cc:cut r.cells 0 6=some r.cells:=cQ rfl;clear A D hg CR hg3 hw cN sQ;unfold Se;by_cases h0:k.w=[]
   . simp[p1,h0]
   by_cases h1:r.wt<0
   . simp[p1,p3,h0,h1]
   by_cases h2:1000<r.wt
   . simp[p1,p3,h0,h1,h2]
   cases h3:Lp k r with
   |false=>simp[p1,p3,h0,h1,h2,B,h3]
   |true=>
   simp[p1,p3,h0,h1,h2,B,h3];refine Ce (P:=λj'=>∀b:Bool,j' [.ptr q1 0,.ptr q2 0,.ptr q3 0,.bool b] s=some (.int .i64 (if b=true then 6 else adK k p r),s)) ?_ ?_
   . intro  b;cases b with
     |true=>simp
     |  false =>
        unfold adK;by_cases a1:k.a=100
        . cases a2:oF r.a with
          |false=>simp[p1,p3,a1,a2,N]
          | true=>
            cases b1:k.b with
            |false=>simp[p1,p3,a1,a2,N,b1,hj]
            | true=>
              by_cases b2:r.a=r.b
              . rw[b2]at a2 N;simp[p1,p3,a1,a2,N,b1,b2]
              . simp[p1,p3,a1,a2,N,b1,b2,hj]
        . cases b1:k.b with
          |false=>simp[p1,p3,a1,b1,hj]
          | true=>
            by_cases b2:r.a=r.b
            . simp[p1,p3,a1,b1,b2]
            . simp[p1,p3,a1,b1,b2,hj]
   . intro  j' KQ;have K6:=KQ true;have K0:=KQ false;simp only[Zh5,Zf5,Zh2]at K6 K0;clear KQ hj;by_cases a1:k.a=103
     .  by_cases g1:gi p r.a<0
        . simp[p1,p2,p3,a1,A2,g1,K6]
        . cases b1:k.b with
          |false=>simp[p1,p2,p3,a1,A2,g1,b1,K0]
          | true=>
            by_cases g2:gi p r.b<0
            . simp[p1,p2,p3,a1,A2,g1,g2,b1,K6]
            . simp[p1,p2,p3,a1,A2,g1,g2,b1,K0]
     .  by_cases a2:k.a=101
        . by_cases e:r.a=[]
          . cases b1:k.b with
            |false=>simp[p1,p2,p3,a1,a2,e,A2,b1,K0]
            | true=>
              by_cases g2:gi p r.b<0
              . simp[p1,p2,p3,a1,a2,e,A2,g2,b1,K6]
              . simp[p1,p2,p3,a1,a2,e,A2,g2,b1,K0]
          . by_cases g1:gi p r.a<0
            . simp[p1,p2,p3,a1,a2,e,A2,g1,K6]
            . cases b1:k.b with
              |false=>simp[p1,p2,p3,a1,a2,e,A2,g1,b1,K0]
              | true=>
                by_cases g2:gi p r.b<0
                . simp[p1,p2,p3,a1,a2,e,A2,g1,g2,b1,K6]
                . simp[p1,p2,p3,a1,a2,e,A2,g1,g2,b1,K0]
        . cases b1:k.b with
          |false=>simp[p1,p2,p3,a1,a2,A2,b1,K0]
          | true=>
            by_cases g2:gi p r.b<0
            . simp[p1,p2,p3,a1,a2,A2,g2,b1,K6]
            . simp[p1,p2,p3,a1,a2,A2,g2,b1,K0]
end
end Go.Proofs.YtgihekklfnjkiaaGreatDoor
