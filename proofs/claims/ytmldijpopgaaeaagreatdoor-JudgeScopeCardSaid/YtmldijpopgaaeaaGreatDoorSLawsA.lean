/- What the checks answer. -/
import Derived.Test.YtmldijpopgaaeaaGreatDoorSPlainA
set_option linter.all false
set_option maxRecDepth 100000
set_option maxHeartbeats 1000000
namespace Go.Proofs.YtmldijpopgaaeaaGreatDoor
section
open Go Go.Ai Go.Proofs
variable{c:aj}
def oX(s:List Nat):Bool:=decide (1<=s.length)&&decide (s.length<=12)&&s.all λc=>decide (97<=c/\c<=122)
structure aE where
 name:List Nat
 sh:Int
 a:Int
 b:Int
 oz:Bool
 kQ:List Int
 x:Int
 y:Int
def ints(z:Bool)(l:List Int):AV:=ro 1 z (l.map λi=>[.int .i64 i])
def aE.cells(t:aE):List AV:=[.str t.name,.int .u8 t.sh,.int .i64 t.a,.int .i64 t.b,ints t.oz t.kQ,.int .i64 t.x,.int .i64 t.y]
theorem adC(z:Bool)(l:List Int):Plain (ints z l):=Plain.ro λcs h v hv=>by simp only[Zc7]at h;obtain⟨i,_,rfl⟩:=h;simp only[Zh7]at hv;subst hv;exact Plain.int _ _
@[simp] theorem arS(z:Bool)(l:List Int):(ints z l).one=true:=aoh _ _ _
def bJ(t:aE):Int:=
 if t.sh=1 then(if 1<=t.a/\t.a<=24/\t.b=0 then t.a else 0)
 else if t.sh=2 then(if 1<=t.a/\t.a<=11/\0<=t.b/\t.b<=2 then 2*t.a+t.b else 0)
 else if t.sh=3 then(if 1<=t.a/\t.a<=8/\1<=t.b/\t.b<=8 then t.a+2*t.b else 0)
 else if t.sh=4 then(if 1<=t.a/\t.a<=24/\0<=t.b/\t.b<=t.a then t.a else 0)
 else 0
theorem agF(hc:Sem c)(a b:Int)(st:St):c 182 [.int .i64 a,.int .i64 b] st=some (.int .i64 (if 1<=a/\a<=24/\b=0 then a else 0),st):=by
 rw[Wq hc 1 (r:=(.int .i64 (if 1<=a/\a<=24/\b=0 then a else 0),st)),aB (Plain.int _ _) (aX.refl st)];rw[aav];by_cases h1:a<1
 .have:¬1<=a:=(by omega);simp[h1,this]
 . by_cases h2:24<a
   .have:¬a<=24:=(by omega);simp[h1,h2,this]
   .have h3:1<=a:=(by omega);have h4:a<=24:=(by omega);by_cases h5:b=0<;>simp[h1,h2,h3,h4,h5]
theorem aiX(hc:Sem c)(a b:Int)(st:St):c 187 [.int .i64 a,.int .i64 b] st=some (.int .i64 (if 1<=a/\a<=11/\0<=b/\b<=2 then 2*a+b else 0),st):=by
 rw[Yp hc 1 (r:=(.int .i64 (if 1<=a/\a<=11/\0<=b/\b<=2 then 2*a+b else 0),st)),aB (Plain.int _ _) (aX.refl st)];rw[ack];by_cases h1:a<1
 .have:¬1<=a:=(by omega);simp[h1,this]
 by_cases h2:11<a
 .have:¬a<=11:=(by omega);simp[h1,h2,this]
 by_cases h3:b<0
 .have:¬0<=b:=(by omega);simp[h1,h2,h3,this]
 by_cases h4:2<b
 .have:¬b<=2:=(by omega);simp[h1,h2,h3,h4,this]
 have h5:1<=a:=by omega
 have h6:a<=11:=by omega
 have h7:0<=b:=by omega
 have h8:b<=2:=by omega
 have w1:ax .i64 (2*a)=2*a:=wrap64 (by omega) (by omega);have w2:ax .i64 (2*a+b)=2*a+b:=wrap64 (by omega) (by omega);simp[h1,h2,h3,h4,h5,h6,h7,h8,w1,w2]
theorem aiY(hc:Sem c)(a b:Int)(st:St):c 192 [.int .i64 a,.int .i64 b] st=some (.int .i64 (if 1<=a/\a<=8/\1<=b/\b<=8 then a+2*b else 0),st):=by
 rw[Yq hc 1 (r:=(.int .i64 (if 1<=a/\a<=8/\1<=b/\b<=8 then a+2*b else 0),st)),aB (Plain.int _ _) (aX.refl st)];rw[acm];by_cases h1:a<1
 .have:¬1<=a:=(by omega);simp[h1,this]
 by_cases h2:8<a
 .have:¬a<=8:=(by omega);simp[h1,h2,this]
 by_cases h3:b<1
 .have:¬1<=b:=(by omega);simp[h1,h2,h3,this]
 by_cases h4:8<b
 .have:¬b<=8:=(by omega);simp[h1,h2,h3,h4,this]
 have h5:1<=a:=by omega
 have h6:a<=8:=by omega
 have h7:1<=b:=by omega
 have h8:b<=8:=by omega
 have w1:ax .i64 (2*b)=2*b:=wrap64 (by omega) (by omega);have w2:ax .i64 (a+2*b)=a+2*b:=wrap64 (by omega) (by omega);simp[h1,h2,h3,h4,h5,h6,h7,h8,w1,w2]
theorem akm(hc:Sem c)(a b:Int)(st:St):c 197 [.int .i64 a,.int .i64 b] st=some (.int .i64 (if 1<=a/\a<=24/\0<=b/\b<=a then a else 0),st):=by
 rw[aaw hc 1 (r:=(.int .i64 (if 1<=a/\a<=24/\0<=b/\b<=a then a else 0),st)),aB (Plain.int _ _) (aX.refl st)];rw[adD];by_cases h1:a<1
 .have:¬1<=a:=(by omega);simp[h1,this]
 by_cases h2:24<a
 .have:¬a<=24:=(by omega);simp[h1,h2,this]
 by_cases h3:b<0
 .have:¬0<=b:=(by omega);simp[h1,h2,h3,this]
 by_cases h4:a<b
 .have:¬b<=a:=(by omega);simp[h1,h2,h3,h4,this]
 have h5:1<=a:=by omega
 have h6:a<=24:=by omega
 have h7:0<=b:=by omega
 have h8:b<=a:=by omega
 simp[h1,h2,h3,h4,h5,h6,h7,h8]
def iD(sh:Int):List AV:=
 if sh=1 then [.str [114,111,117,110,100],.func 182 [] [],.func 183 [] [],.func 184 [] [],.func 185 [] [],.func 186 [] []]
 else if sh=2 then [.str [108,111,110,103],.func 187 [] [],.func 188 [] [],.func 189 [] [],.func 190 [] [],.func 191 [] []]
 else if sh=3 then [.str [104,111,114,115,101,115,104,111,101],.func 192 [] [],.func 193 [] [],.func 194 [] [],.func 195 [] [],.func 196 [] []]
 else if sh=4 then [.str [114,111,119],.func 197 [] [],.func 198 [] [],.func 199 [] [],.func 200 [] [],.func 201 [] []]
 else [.str [],.jX,.jX,.jX,.jX,.jX]
theorem plain_fn(f:Nat):Plain (.func f [] []):=Plain.func f (by simp) (by simp)
theorem apd(sh:Int):∀v∈iD sh,Plain v:=by
 unfold iD;intro v hv
 repeat' split at hv
 all_goals
  simp only[Za8,Zc0,Ze9]at hv;rcases hv with rfl|rfl|rfl|rfl|rfl|rfl<;>first|exact Plain.str _|exact Plain.jX|exact plain_fn _
theorem fT(hc:Sem c)(sh:Int)(st:St)(hw:Wf st):c 152 [.int .u8 sh] st=some (.tuple [.agg (iD sh),.bool (decide (1<=sh/\sh<=4))],st):=by
 have hp:Plain (.tuple [.agg (iD sh),.bool (decide (1<=sh/\sh<=4))]):=Plain.tuple λv hv=>by
   simp only[Za8,Zc0,Ze9]at hv;rcases hv with rfl|rfl
   .exact Plain.agg (apd sh)
   .exact Plain.bool _
 rw[aax hc 1 (r:=(.tuple [.agg (iD sh),.bool (decide (1<=sh/\sh<=4))],ah st (.cells (iD sh) 0))),aB hp (bY hw)];rw[adE];by_cases h1:sh=1
 .subst h1;simp[iD,AV.cells,aQ,AV.one,cQ,cK,aU,cU]
 by_cases h2:sh=2
 .subst h2;simp[iD,AV.cells,aQ,AV.one,cQ,cK,aU,cU]
 by_cases h3:sh=3
 .subst h3;simp[iD,AV.cells,aQ,AV.one,cQ,cK,aU,cU]
 by_cases h4:sh=4
 .subst h4;simp[iD,AV.cells,aQ,AV.one,cQ,cK,aU,cU]
 have h5:decide (1<=sh/\sh<=4)=false:=by simp;omega
 rw[h5];simp[iD,AV.cells,aQ,AV.one,cQ,cK,aU,cU,h1,h2,h3,h4]
theorem Rx(hc:Sem c)(t:aE)(st:St)(hw:Wf st):c 96 [.agg t.cells] st=some (.int .i64 (bJ t),st):=by
 rw[agG hc 1 (r:=(.int .i64 (bJ t),ah (ah st (.cells t.cells 0)) (.cells (iD t.sh) 0))),aB (Plain.int _ _) ((bY hw).trans (bY (bG hw)))];rw[akn];obtain⟨name,sh,a,b,oz,kQ,x,y⟩:=t;by_cases h1:sh=1
 .subst h1;simp[aE.cells,AV.cells,fT hc,hw,bJ,iD,aQ,AV.one,agF hc]
 by_cases h2:sh=2
 .subst h2;simp[aE.cells,AV.cells,fT hc,hw,bJ,iD,aQ,AV.one,aiX hc]
 by_cases h3:sh=3
 .subst h3;simp[aE.cells,AV.cells,fT hc,hw,bJ,iD,aQ,AV.one,aiY hc]
 by_cases h4:sh=4
 .subst h4;simp[aE.cells,AV.cells,fT hc,hw,bJ,iD,aQ,AV.one,akm hc]
 have h5:decide (1<=sh/\sh<=4)=false:=by simp;omega
 simp[aE.cells,AV.cells,fT hc,hw,bJ,iD,aQ,AV.one,h1,h2,h3,h4,h5]
def sH:Nat:=9223372036854775808
theorem adF(s:List Nat)(hs:s.length<=12)(F:Nat)(st:St)(k1 k2):∀(m k:Nat),s.length<=k+m->k<=s.length->
  th c F k1 k2 (m+1) [.str s,.int .i64 (s.length:Int),.int .i64 (k:Int)] st=if(s.drop k).all (λc=>decide (97<=c/\c<=122))=true then k2 [] st else k1 [.bool false] st:=by
 intro m;induction m with
 |zero=>
  intro k h1 h2;rw[OP];obtain rfl:k=s.length:=by omega
  simp
 |succ m ih=>
  intro k h1 h2;rw[OP];by_cases h:k<s.length
  . have e:s.drop k=s[k]::s.drop (k+1):=Zd8 h;have:=ih (k+1) (by omega) (by omega);have w:ax .i64 ((k:Int)+1)=((k+1:Nat):Int):=wrap64 (by omega) (by omega);rw[e,List.all_cons];generalize (s.drop (k+1)).all _=rest at this ⊢;by_cases h3:(s[k]:Int)<97
    .   have h5:decide (97<=s[k]/\s[k]<=122)=false:=(by simp;omega);simp[h,h3,h5]
    .   by_cases h4:122<(s[k]:Int)
        .have h5:decide (97<=s[k]/\s[k]<=122)=false:=(by simp;omega);simp[h,h3,h4,h5]
        .have h5:decide (97<=s[k]/\s[k]<=122)=true:=(by simp;omega);rw[h5,Zg9, <-this];simp[h,h3,h4,w]
  .obtain rfl:k=s.length:=(by omega);simp
theorem JF(hc:Sem c)(s:List Nat)(st:St):c 203 [.str s] st=some (.bool (oX s),st):=by
 rw[aeY hc (s.length+1) (r:=(.bool (oX s),st)),aB (Plain.bool _) (aX.refl st)];rw[aiZ];by_cases h0:(s.length:Int)=0
 .have h1:¬1<=s.length:=(by omega);have h2:s=[]:=Zc2 (by omega);subst h2;simp[oX]
 . by_cases h1:12<(s.length:Int)
   .have h2:¬s.length<=12:=(by omega);have h3:¬s=[]:=(by intro e;subst e;simp at h0);simp[oX,h1,h2,h3]
   . have h2:s.length<=12:=(by omega);have h3:1<=s.length:=(by omega);have h4:¬s=[]:=(by intro e;subst e;simp at h0);have L:∀k1 k2,th c (s.length+1) k1 k2 (s.length+1) [.str s,.int .i64 (s.length:Int),.int .i64 0] st=if(s.drop 0).all (λc=>decide (97<=c/\c<=122))=true then k2 [] st else k1 [.bool false] st:=
        λk1 k2=>adF (c:=c) s h2 (s.length+1) st k1 k2 s.length 0 (by omega) (by omega)
     rw[Ze5]at L;have e:oX s=s.all λc=>decide (97<=c/\c<=122):=(by simp[oX,h2,h3]);rw[e];generalize (s.all _)=b at L ⊢;simp[h1,h4,L];cases b<;>simp
theorem aeZ(s:List Nat)(hs:s.length<=12)(F:Nat)(st:St)(k1 k2):∀(m k:Nat),s.length<=k+m->k<=s.length->
  vk c F k1 k2 (m+1) [.str s,.int .i64 (s.length:Int),.int .i64 (k:Int)] st=if(s.drop k).all (λc=>decide (97<=c/\c<=122))=true then k2 [] st else k1 [.bool false] st:=by
 intro m;induction m with
 |zero=>
  intro k h1 h2;rw[Ry];obtain rfl:k=s.length:=by omega
  simp
 |succ m ih=>
  intro k h1 h2;rw[Ry];by_cases h:k<s.length
  . have e:s.drop k=s[k]::s.drop (k+1):=Zd8 h;have:=ih (k+1) (by omega) (by omega);have w:ax .i64 ((k:Int)+1)=((k+1:Nat):Int):=wrap64 (by omega) (by omega);rw[e,List.all_cons];generalize (s.drop (k+1)).all _=rest at this ⊢;by_cases h3:(s[k]:Int)<97
    .   have h5:decide (97<=s[k]/\s[k]<=122)=false:=(by simp;omega);simp[h,h3,h5]
    .   by_cases h4:122<(s[k]:Int)
        .have h5:decide (97<=s[k]/\s[k]<=122)=false:=(by simp;omega);simp[h,h3,h4,h5]
        .have h5:decide (97<=s[k]/\s[k]<=122)=true:=(by simp;omega);rw[h5,Zg9, <-this];simp[h,h3,h4,w]
  .obtain rfl:k=s.length:=(by omega);simp
theorem ai0(hc:Sem c)(s:List Nat)(st:St):c 125 [.str s] st=some (.bool (oX s),st):=by
 rw[agH hc (s.length+1) (r:=(.bool (oX s),st)),aB (Plain.bool _) (aX.refl st)];rw[ako];by_cases h0:(s.length:Int)=0
 .have h1:¬1<=s.length:=(by omega);have h2:s=[]:=Zc2 (by omega);subst h2;simp[oX]
 . by_cases h1:12<(s.length:Int)
   .have h2:¬s.length<=12:=(by omega);have h3:¬s=[]:=(by intro e;subst e;simp at h0);simp[oX,h1,h2,h3]
   . have h2:s.length<=12:=(by omega);have h3:1<=s.length:=(by omega);have h4:¬s=[]:=(by intro e;subst e;simp at h0);have L:∀k1 k2,vk c (s.length+1) k1 k2 (s.length+1) [.str s,.int .i64 (s.length:Int),.int .i64 0] st=if(s.drop 0).all (λc=>decide (97<=c/\c<=122))=true then k2 [] st else k1 [.bool false] st:=
        λk1 k2=>aeZ (c:=c) s h2 (s.length+1) st k1 k2 s.length 0 (by omega) (by omega)
     rw[Ze5]at L;have e:oX s=s.all λc=>decide (97<=c/\c<=122):=(by simp[oX,h2,h3]);rw[e];generalize (s.all _)=b at L ⊢;simp[h1,h4,L];cases b<;>simp
theorem ae0(s:List Nat)(hs:s.length<sH)(F:Nat)(st:St)(k1 k2):∀(m k:Nat),s.length<=k+m->k<=s.length->
  vn c F k1 k2 (m+1) [.str s,.int .i64 (k:Int)] st=if(s.drop k).all (λc=>decide (97<=c/\c<=122))=true then k2 [.str s] st else k1 [.bool false] st:=by
 intro m;induction m with
 |zero=>
  intro k h1 h2;rw[Rz];obtain rfl:k=s.length:=by omega
  simp
 |succ m ih=>
  intro k h1 h2;rw[Rz];by_cases h:k<s.length
  . have e:s.drop k=s[k]::s.drop (k+1):=Zd8 h;have:=ih (k+1) (by omega) (by omega);have w:ax .i64 ((k:Int)+1)=((k+1:Nat):Int):=wrap64 (by omega) (by unfold sH at hs;omega);rw[e,List.all_cons];generalize (s.drop (k+1)).all _=rest at this ⊢;by_cases h3:(s[k]:Int)<97
    .   have h5:decide (97<=s[k]/\s[k]<=122)=false:=(by simp;omega);simp[h,h3,h5]
    .   by_cases h4:122<(s[k]:Int)
        .have h5:decide (97<=s[k]/\s[k]<=122)=false:=(by simp;omega);simp[h,h3,h4,h5]
        .have h5:decide (97<=s[k]/\s[k]<=122)=true:=(by simp;omega);rw[h5,Zg9, <-this];simp[h,h3,h4,w]
  .obtain rfl:k=s.length:=(by omega);simp
theorem ai1(hc:Sem c)(s:List Nat)(hs:s.length<sH)(st:St):c 213 [.str s] st=some (.bool (oX s),st):=by
 rw[agI hc (s.length+1) (r:=(.bool (oX s),st)),aB (Plain.bool _) (aX.refl st)];rw[akp];have L:∀k1 k2,vn c (s.length+1) k1 k2 (s.length+1) [.str s,.int .i64 0] st=if(s.drop 0).all (λc=>decide (97<=c/\c<=122))=true then k2 [.str s] st else k1 [.bool false] st:=
   λk1 k2=>ae0 (c:=c) s hs (s.length+1) st k1 k2 s.length 0 (by omega) (by omega)
 rw[Ze5]at L;have e:oX s=(decide (1<=s.length)&&decide (s.length<=12)&&s.all λc=>decide (97<=c/\c<=122)):=rfl;rw[e];generalize (s.all _)=b at L ⊢;simp[L];cases b
 .simp
 . by_cases h1:(1:Int)<=s.length
   . have h2:1<=s.length:=(by omega);by_cases h3:(s.length:Int)<=12
     .  have h4:s.length<=12:=(by omega);simp[h1,h2,h3,h4]
     .  have h4:¬s.length<=12:=(by omega);simp[h1,h2,h3,h4]
   .have h2:¬1<=s.length:=(by omega);simp[h1,h2]
def Aw(s:List Nat):Bool:=decide (s=[])||oX s
theorem JG(hc:Sem c)(s:List Nat)(st:St):c 204 [.str s] st=some (.bool (Aw s),st):=by
 rw[ae1 hc 1 (r:=(.bool (Aw s),st)),aB (Plain.bool _) (aX.refl st)];rw[ai2];by_cases h:s=[]<;>simp[h,Aw,JF hc]
def Uj(n last:Int):List Int->Bool
 |[]=>true
 |k::l=>decide (last<k)&&decide (k<n)&&Uj n k l
def sU(t:aE):Int:=
 if oX t.name=false then 4 else if bJ t=0 then 10 else if Uj (bJ t) (-1) t.kQ=false then 11
 else if 0<=t.x/\t.x<=1000/\0<=t.y/\t.y<=1000 then 0 else 2
structure aE.Ok(t:aE):Prop where
 name:t.name.length<sH
 kQ:t.kQ.length<sH
theorem aiJ(l:List Int)(k:Nat)(h:k<l.length):((l.map λi=>[AV.int .i64 i])[k]?.bind λcs=>cs[0]?)=some (.int .i64 l[k]):=by
 simp[Zb7,H0 h]
theorem adG(p:Pos)(n:Int)(z:Bool)(l:List Int)(hl:l.length<sH)(F:Nat)(st:St)(k1 k3):∀(m k:Nat)(last:Int),l.length<=k+m->k<=l.length->
  tj c F k1 k3 (m+1) [.ptr p 0,.int .i64 n,.int .i64 last,ints z l,.int .i64 (l.length:Int),.int .i64 (k:Int)] st=if Uj n last (l.drop k)=true then k3 [.ptr p 0] st else k1 [.int .i64 11] st:=by
 intro m;induction m with
 |zero=>
  intro k last h1 h2;rw[OQ];obtain rfl:k=l.length:=by omega
  simp[Uj]
 |succ m ih=>
  intro k last h1 h2;rw[OQ];by_cases h:k<l.length
  . have e:l.drop k=l[k]::l.drop (k+1):=Zd8 h;have:=ih (k+1) l[k] (by omega) (by omega);have w:ax .i64 ((k:Int)+1)=((k+1:Nat):Int):=wrap64 (by omega) (by unfold sH at hl;omega);have g:=aiJ l k h;rw[e,Uj];generalize Uj n l[k] (l.drop (k+1))=rest at this ⊢;by_cases h3:l[k]<=last
    .   have h4:¬last<l[k]:=(by omega);simp[ints,h,h3,h4,g]
    .   have h4:last<l[k]:=(by omega);by_cases h5:n<=l[k]
        .have h6:¬l[k]<n:=(by omega);simp[ints,h,h3,h4,h5,h6,g]
        .have h6:l[k]<n:=(by omega);simp only[h4,h6,Zg6,Zg9];rw[<-this];simp[ints,h,h3,h4,h5,h6,g,w]
  .obtain rfl:k=l.length:=(by omega);simp[Uj]
theorem arT(hc:Sem c)(t:aE)(ht:t.Ok)(st:St)(hw:Wf st):c 169 [.agg t.cells] st=some (.int .i64 (sU t),st):=by
 rw[ae2 hc (t.kQ.length+1) (r:=(.int .i64 (sU t),ah st (.cells t.cells 0))),aB (Plain.int _ _) (bY hw)];rw[ai3];have hs:=Rx hc t (ah st (.cells t.cells 0)) (bG hw);have hn:=ai1 hc t.name ht.name;have hg:(ah st (.cells t.cells 0)).heap.get st.next=some (.cells t.cells 0):=aA _ _;have c0:t.cells[0]? =some (.str t.name):=rfl;have c4:t.cells[4]? =some (ints t.oz t.kQ):=rfl;have c5:t.cells[5]? =some (.int .i64 t.x):=rfl;have c6:t.cells[6]? =some (.int .i64 t.y):=rfl;have cc:cut t.cells 0 7=some t.cells:=cQ rfl
 have L:∀k1 k3,tj c (t.kQ.length+1) k1 k3 (t.kQ.length+1) [.ptr st.next 0,.int .i64 (bJ t),.int .i64 (-1),ints t.oz t.kQ,.int .i64 (t.kQ.length:Int),.int .i64 0] (ah st (.cells t.cells 0))=
     if Uj (bJ t) (-1) (t.kQ.drop 0)=true then k3 [.ptr st.next 0] (ah st (.cells t.cells 0))else k1 [.int .i64 11] (ah st (.cells t.cells 0)):=
   λk1 k3=>adG st.next (bJ t) t.oz t.kQ ht.kQ _ _ k1 k3 t.kQ.length 0 (-1) (by omega) (by omega)
 rw[Ze5]at L;have lI:∀(K:AV->St->Option (AV×St))(s:St),aq c (.lenB .l) [ints t.oz t.kQ] s K=K (.int .i64 (t.kQ.length:Int)) s:=λK s=>by unfold ints;rw[jL];simp
 unfold sU;generalize t.cells=tc at*
 generalize bJ t=sz at*
 generalize Uj sz (-1) t.kQ=op at*
 by_cases h1:oX t.name=true
 . by_cases h2:sz=0
   .simp[AV.cells,hs,hn,hg,c0,cc,h1,h2]
   . cases op
     .  simp[AV.cells,hs,hn,hg,c0,c4,cc,h1,h2,lI,L]
     .  by_cases h3:t.x<0
        .have:¬0<=t.x:=(by omega);simp[AV.cells,hs,hn,hg,c0,c4,c5,c6,cc,h1,h2,lI,L,h3,this]
        by_cases h4:1000<t.x
        .have:¬t.x<=1000:=(by omega);simp[AV.cells,hs,hn,hg,c0,c4,c5,c6,cc,h1,h2,lI,L,h3,h4,this]
        by_cases h5:t.y<0
        .have:¬0<=t.y:=(by omega);simp[AV.cells,hs,hn,hg,c0,c4,c5,c6,cc,h1,h2,lI,L,h3,h4,h5,this]
        by_cases h6:1000<t.y
        .have:¬t.y<=1000:=(by omega);simp[AV.cells,hs,hn,hg,c0,c4,c5,c6,cc,h1,h2,lI,L,h3,h4,h5,h6,this]
        have h7:0<=t.x:=(by omega);have h8:t.x<=1000:=(by omega);have h9:0<=t.y:=(by omega);have h10:t.y<=1000:=(by omega);simp[AV.cells,hs,hn,hg,c0,c4,c5,c6,cc,h1,h2,lI,L,h3,h4,h5,h6,h7,h8,h9,h10]
 .simp[AV.cells,hs,hn,hg,c0,cc,h1]
theorem Bp(t:aE):0<=bJ t/\bJ t<=1000:=by
 unfold bJ;repeat' split
 all_goals omega
def scan(P:Nat->Bool):Nat->Nat->Int
 |0,_=> -1
 |m+1,k=>if P k=true then(k:Int)else scan P m (k+1)
theorem ZY(P:Nat->Bool):∀(m k:Nat),-1<=scan P m k/\(scan P m k<0->scan P m k= -1)
 |0,_=>by simp[scan]
 |m+1,k=>by
  unfold scan;split
  .omega
  .exact ZY P m (k+1)
theorem adH{P Q:Nat->Bool}:∀(m k:Nat),(∀i,k<=i->i<k+m->P i=Q i)->scan P m k=scan Q m k
 |0,_,_=>rfl
 |m+1,k,h=>by
  unfold scan;rw[h k (by omega) (by omega),adH m (k+1) λi h1 h2=>h i (by omega) (by omega)]
theorem zz{P:Nat->Bool}:∀(m k:Nat),0<=scan P m k->k<=(scan P m k).toNat/\(scan P m k).toNat<k+m/\P (scan P m k).toNat=true
 |0,k,h=>by simp[scan]at h
 |m +1,k,h=>by
  unfold scan at h ⊢;split
  .rename_i hp;simp;exact hp
  .rename_i hp;rw[Za7 hp]at h;have:=zz m (k+1) h;exact⟨by omega,by omega,this.2.2⟩
def tabs(z:Bool)(ts:List aE):AV:=ro 7 z (ts.map aE.cells)
@[simp] theorem aE.c0(t:aE):t.cells[0]? =some (.str t.name):=id rfl
@[simp] theorem aE.c1(t:aE):t.cells[1]? =some (.int .u8 t.sh):=id rfl
@[simp] theorem aE.c2(t:aE):t.cells[2]? =some (.int .i64 t.a):=id rfl
@[simp] theorem aE.c3(t:aE):t.cells[3]? =some (.int .i64 t.b):=id rfl
@[simp] theorem aE.c4(t:aE):t.cells[4]? =some (ints t.oz t.kQ):=id rfl
@[simp] theorem aE.c5(t:aE):t.cells[5]? =some (.int .i64 t.x):=id rfl
@[simp] theorem aE.c6(t:aE):t.cells[6]? =some (.int .i64 t.y):=id rfl
@[simp] theorem aE.cc(t:aE):cut t.cells 0 7=some t.cells:=cQ rfl
theorem aE.len(t:aE):t.cells.length=7:=id rfl
@[simp] theorem aE.one(t:aE):aQ t.cells=true:=by unfold aE.cells;simp only[aQ,arS];rfl
@[simp] theorem Yr(l:List AV):(AV.agg l).cells=l:=id rfl
def vq(ts:List aE)(s:List Nat)(i:Nat):Bool:=decide (ts[i]?.map aE.name=some s)
def iO(ts:List aE):Nat->Nat->Int×Int
 |0,_=>(0,0)
 |  m+1,k=>match ts[k]? with
    |none=>(0,0)
    |some t=>if sU t≠0 then((k:Int),sU t)else if 0<=scan (vq ts t.name) k 0 then((k:Int),5)else iO ts m (k+1)
def bU(ts:List aE):Int×Int:=if 16<ts.length then(0,7)else iO ts ts.length 0
theorem adI(ts:List aE):∀(m m' k:Nat),ts.length<=k+m->ts.length<=k+m'->iO ts m k=iO ts m' k
 |0,0,_,_,_=>rfl
 |0,m'+1,k,h,_=>by rw[iO,iO,Zc3 (by omega)]
 |m+1,0,k,_,h=>by rw[iO,iO,Zc3 (by omega)]
 |m+1,m'+1,k,h,h'=>by
  rw[iO,iO,adI ts m m' (k+1) (by omega) (by omega)]
theorem adJ(ts:List aE):∀(m k:Nat),(iO ts m k).2=0->(iO ts m k).1=0
 |0,_,_=>rfl
 |m +   1,k,h=>by
  rw[iO]at h ⊢;split at h
  .rfl
  . split at h
    .   rename_i cY;exact absurd h cY
    .   split at h
        .simp at h
        .rename_i h1 h2;rw[Za7 h1,Za7 h2];exact adJ ts m (k+1) h
theorem ai4(hc:Sem c)(x t:aE)(p:Pos)(st:St)(hw:Wf st)(hp:st.heap.get p=some (.cells t.cells 0)):c 171 [.agg x.cells,.ptr p 0] st=some (.bool (decide (x.name=t.name)),st):=by
 rw[Wr hc 1 (r:=(.bool (decide (x.name=t.name)),ah st (.cells x.cells 0))),aB (Plain.bool _) (bY hw)];rw[aay];have:(ah st (.cells x.cells 0)).heap.get p=some (.cells t.cells 0):=bY hw _ _ hp;simp[this]
theorem arU(hc:Sem c)(x:aE)(s:List Nat)(p:Pos)(st:St)(hw:Wf st)(hp:st.heap.get p=some (.cells [.str s] 0)):c 175 [.agg x.cells,.ptr p 0] st=some (.bool (decide (x.name=s)),st):=by
 rw[adK hc 1 (r:=(.bool (decide (x.name=s)),ah st (.cells x.cells 0))),aB (Plain.bool _) (bY hw)];rw[agJ];have:(ah st (.cells x.cells 0)).heap.get p=some (.cells [.str s] 0):=bY hw _ _ hp;simp[this]
theorem ape(z:Bool)(rs:List (List AV))(hl:rs.length<sH)(dN:∀cs∈rs,cs.length=7)(g:Nat)(v:List AV)(P:Nat->Bool)(st:St)(F:Nat)(k1 k2)
  (hP:∀i (h:i<rs.length),c g (.agg rs[i]::v) st=some (.bool (P i),st)):∀(m k:Nat),rs.length<=k+m->k<=rs.length->
  dc c F k1 k2 (m+1) [ro 7 z rs,.func g [] v,.int .i64 (rs.length:Int),.int .i64 (k:Int)] st=if 0<=scan P (rs.length - k) k then k1 [.int .i64 (scan P (rs.length - k) k)] st else k2 [] st:=by
 intro m;induction m with
 |zero=>
  intro k h1 h2;obtain rfl:k=rs.length:=by omega
  rw[mP];simp[scan]
 |succ m ih=>
  intro k h1 h2;rw[mP];by_cases h:k<rs.length
  . have e:rs.length - k=(rs.length - (k+1))+1:=(by omega);have w:ax .i64 ((k:Int)+1)=((k+1:Nat):Int):=wrap64 (by omega) (by unfold sH at hl;omega);have hcut:cut rs[k] 0 7=some rs[k]:=cQ (dN _ (Zb9 h));have hp:=hP k h;rw[e,scan];cases hb:P k
    .   simp only[Zf0,Zg7];rw[<-ih (k+1) (by omega) (by omega)];simp[h,hcut,hp,hb,w]
    .   simp[h,hcut,hp,hb]
  .obtain rfl:k=rs.length:=(by omega);simp[scan]
theorem als(hc:Sem c)(z:Bool)(rs:List (List AV))(hl:rs.length<sH)(dN:∀cs∈rs,cs.length=7)(g:Nat)(v:List AV)(P:Nat->Bool)(st:St)
   (hP:∀i (h:i<rs.length),c g (.agg rs[i]::v) st=some (.bool (P i),st)):c 174 [ro 7 z rs,.func g [] v] st=some (.int .i64 (scan P rs.length 0),st):=by
 rw[wG hc (rs.length+1) (r:=(.int .i64 (scan P rs.length 0),st)),aB (Plain.int _ _) (aX.refl st)];rw[yc];have L:∀k1 k2,dc c (rs.length+1) k1 k2 (rs.length+1) [ro 7 z rs,.func g [] v,.int .i64 (rs.length:Int),.int .i64 0] st=if 0<=scan P (rs.length - 0) 0 then k1 [.int .i64 (scan P (rs.length - 0) 0)] st else k2 [] st:=
   λk1 k2=>ape z rs hl dN g v P st _ k1 k2 hP rs.length 0 (by omega) (by omega)
 rw[Zq2]at L;by_cases h:0<=scan P rs.length 0
 .simp[L,h]
 .have:=(ZY P rs.length 0).2 (by omega);simp[L,this]
theorem ai5(hc:Sem c)(z:Bool)(rs:List (List AV))(hl:rs.length<sH)(dN:∀cs∈rs,cs.length=7)(g:Nat)(v:List AV)(P:Nat->Bool)(st:St)
  (hP:∀i (h:i<rs.length),c g (.agg rs[i]::v) st=some (.bool (P i),st)):c 170 [ro 7 z rs,.func g [] v] st=some (.bool (decide (0<=scan P rs.length 0)),st):=by
 rw[uI hc 1 (r:=(.bool (decide (0<=scan P rs.length 0)),st)),aB (Plain.bool _) (aX.refl st)];rw[vL];simp[als hc z rs hl dN g v P st hP]
theorem agK(hc:Sem c)(z:Bool)(ts:List aE)(cH:∀t∈ts,t.Ok)(hl:ts.length<=16)(F:Nat)(k1 k2):∀(m k:Nat)(st:St),Wf st->ts.length<=k+m->k<=ts.length->
  ∃st',Grew st st'/\rF c F k1 k2 (m+1) [tabs z ts,tabs z ts,.int .i64 (ts.length:Int),.int .i64 (k:Int)] st=if(iO ts m k).2=0 then k2 [] st' else k1 [.int .i64 (iO ts m k).1,.int .i64 (iO ts m k).2] st':=by
 intro m;induction m with
 |zero=>
  intro k st hw h1 h2;obtain rfl:k=ts.length:=by omega
  refine⟨st,Grew.refl hw,?_⟩;rw[zI];simp[iO,tabs]
 |succ m ih=>
  intro k st hw h1 h2;by_cases h:k<ts.length
  . have w:ax .i64 ((k:Int)+1)=((k+1:Nat):Int):=wrap64 (by omega) (by omega);have cZ:Wf (ah st (.cells ts[k].cells 0)):=bG hw;have hg:=Grew.ah hw (.cells ts[k].cells 0);have hch:=arT hc ts[k] (cH _ (Zb9 h)) _ cZ;have hco:=ai5 hc (z&&(ts.map aE.cells).isEmpty) ((ts.map aE.cells).take k) (by simp[sH];omega) (λcs eW=>by
          have:=List.mem_of_mem_take eW;simp only[Zc7]at this;obtain⟨t,_,rfl⟩:=this;rfl) 171 [.ptr st.next 0] (vq ts ts[k].name) (ah st (.cells ts[k].cells 0)) (λi hi=>by
          have sy:i<k:=(by simp at hi;omega);have hi3:i<ts.length:=(by omega);have:=ai4 hc ts[i] ts[k] st.next (ah st (.cells ts[k].cells 0)) cZ (aA _ _);simp only[Zo4,Zl8];rw[this];simp[vq,hi3])
    have hlen:((ts.map aE.cells).take k).length=k:=(by simp;omega);rw[hlen]at hco;rw[zI,iO,H0 h];simp only;by_cases h3:sU ts[k]=0
    .   by_cases h4:0<=scan (vq ts ts[k].name) k 0
        .refine⟨_,hg,?_⟩;have uC:k<=ts.length:=(by omega);simp only[tabs,Zr5]at hco ⊢;simp[h,hch,h3,h4,uC,hco,aE.len]
        .obtain⟨st',g1,g2⟩:=ih (k+1) _ cZ (by omega) (by omega);refine⟨st',hg.trans g1,?_⟩;have uC:k<=ts.length:=(by omega);have e3:¬sU ts[k]≠0:=(by rw[h3];simp);simp only[e3,h4,Zg7];rw[<-g2];simp only[tabs,Zr5]at hco ⊢;simp[h,hch,h3,h4,uC,hco,w,aE.len]
    .   refine⟨_,hg,?_⟩;simp[tabs,h,hch,h3,aE.len]
  .obtain rfl:k=ts.length:=(by omega);refine⟨st,Grew.refl hw,?_⟩;rw[zI];simp[iO,tabs]
theorem aa6(hc:Sem c)(z:Bool)(ts:List aE)(cH:∀t∈ts,t.Ok)(st:St)(hw:Wf st):c 121 [tabs z ts] st=some (.tuple [.int .i64 (bU ts).1,.int .i64 (bU ts).2],st):=by
 have Ap:Plain (.tuple [.int .i64 (bU ts).1,.int .i64 (bU ts).2]):=Plain.tuple (by simp[Plain.int]);by_cases h:16<ts.length
 .rw[J5 hc 20 (r:=(.tuple [.int .i64 (bU ts).1,.int .i64 (bU ts).2],st)),aB Ap (aX.refl st)];rw[OR];have hi:(16:Int)<ts.length:=(by omega);simp[tabs,bU,h,hi]
 . have hi:¬(16:Int)<ts.length:=(by omega);have e:bU ts=iO ts 19 0:=(by rw[bU,Za7 h];exact adI ts _ _ 0 (by omega) (by omega));have hex:=λk1 k2=>agK hc z ts cH (by omega) 20 k1 k2 19 0 st hw (by omega) (by omega)
   obtain⟨st',hg,L⟩:=hex (λvs s36=>iw vs λx2 vs=>iw vs λx3 vs=>mO vs (some (.tuple [x2,x3],s36))) (λvs s37=>mO vs (
     aq c .move [(.int .i64 0)] s37 λx2 s38=>aq c .move [(.int .i64 0)] s38 λx3 s39=>some (.tuple [x2,x3],s39)))
   rw[J5 hc 20 (r:=(.tuple [.int .i64 (bU ts).1,.int .i64 (bU ts).2],st')),aB Ap hg.keeps];rw[OR,e];simp only[tabs]at L;simp[tabs,hi]at L ⊢;rw[L];by_cases h2:(iO ts 19 0).2=0
   .have:=adJ ts 19 0 h2;simp[h2,this]
   .simp[h2]
def bf(ts:List aE):Int:=(ts.map bJ).sum
theorem rE(ts:List aE):0<=bf ts/\bf ts<=1000*ts.length:=by
 induction ts with
 |nil=>simp[bf]
 |cons t ts ih=>
  have:=Bp t;simp only[bf,Zd1,Zn2,Zc6]at ih ⊢;omega
theorem Uk(ts:List aE)(t:aE):bf (ts++[t])=bf ts+bJ t:=by simp[bf]
def Aj(ts:List aE)(t:Int):Int:=if t<0\/(ts.length:Int)<=t\/(bU ts).2≠0 then 0 else bf (ts.take t.toNat)
theorem Ul(hc:Sem c)(z:Bool)(ts:List aE)(cH:∀t∈ts,t.Ok)(st:St)(hw:Wf st):c 95 [tabs z ts] st=some (.bool (decide ((bU ts).2=0)),st):=by
 rw[ae3 hc 1 (r:=(.bool (decide ((bU ts).2=0)),st)),aB (Plain.bool _) (aX.refl st)];rw[ai6];simp[aa6 hc z ts cH st hw]
theorem OS{ts:List aE}(h:(bU ts).2=0):ts.length<=16:=by
 unfold bU at h;split at h
 .simp at h
 .omega
theorem amT(hc:Sem c)(z:Bool)(ts:List aE)(hl:ts.length<=16)(F:Nat)(k2):∀(m k:Nat)(st:St),Wf st->ts.length<=k+m->k<=ts.length->
  ∃st',Grew st st'/\xG c F k2 (m+1) [.int .i64 (bf (ts.take k)),tabs z ts,.int .i64 (ts.length:Int),.int .i64 (k:Int)] st=k2 [.int .i64 (bf ts)] st':=by
 intro m;induction m with
 |zero=>
  intro k st hw h1 h2;obtain rfl:k=ts.length:=by omega
  refine⟨st,Grew.refl hw,?_⟩;rw[Er];simp
 |succ m ih=>
  intro k st hw h1 h2;by_cases h:k<ts.length
  . have w:ax .i64 ((k:Int)+1)=((k+1:Nat):Int):=wrap64 (by omega) (by omega);have cZ:Wf (ah st (.cells ts[k].cells 0)):=bG hw;have hg:=Grew.ah hw (.cells ts[k].cells 0);have hs:=Rx hc ts[k] _ cZ;have e:bf (ts.take (k+1))=bf (ts.take k)+bJ ts[k]:=by
        rw[Zc9 h,Uk]
    have b1:=rE (ts.take k);have b2:=Bp ts[k];have b3:(ts.take k).length<=16:=(by simp;omega);have w2:ax .i64 (bf (ts.take k)+bJ ts[k])=bf (ts.take (k+1)):=(by rw[e];exact wrap64 (by omega) (by omega));obtain⟨st',g1,g2⟩:=ih (k+1) _ cZ (by omega) (by omega);refine⟨st',hg.trans g1,?_⟩;rw[<-g2,Er];simp[tabs,h,hs,w,w2,aE.len]
  .obtain rfl:k=ts.length:=(by omega);refine⟨st,Grew.refl hw,?_⟩;rw[Er];simp
theorem ai7(hc:Sem c)(z:Bool)(ts:List aE)(cH:∀t∈ts,t.Ok)(k:Int)(st:St)(hw:Wf st):c 43 [tabs z ts,.int .i64 k] st=some (.int .i64 (Aj ts k),st):=by
 have lT:∀(K:AV->St->Option (AV×St))(s:St),aq c (.lenB .l) [tabs z ts] s K=K (.int .i64 (ts.length:Int)) s:=λK s=>by unfold tabs;rw[jL];simp
 have hv:=Ul hc z ts cH st hw;by_cases h:k<0\/(ts.length:Int)<=k\/(bU ts).2≠0
 . have e:Aj ts k=0:=(by rw[Aj,Zb6 h]);rw[RA hc 1 (r:=(.int .i64 (Aj ts k),st)),aB (Plain.int _ _) (aX.refl st)];rw[Ys,e];by_cases h1:k<0
   .simp[h1]
   . by_cases h2:(ts.length:Int)<=k
     .  simp[h1,h2,lT]
     .  have h3:(bU ts).2≠0:=h.resolve_left h1 |>.resolve_left h2;simp[h1,h2,h3,lT,hv]
 . have e:Aj ts k=bf (ts.take k.toNat):=(by rw[Aj,Za7 h]);have h1:¬k<0:=λe=>h (.inl e)
   have h2:¬(ts.length:Int)<=k:=λe=>h (.inr (.inl e))
   have h3:(bU ts).2=0:=Zl4 λe=>h (.inr (.inr e))
   have hl:=OS h3;obtain⟨n,rfl⟩:∃n:Nat,k=(n:Int):=⟨k.toNat,by omega⟩
   have hn:n<=ts.length:=(by omega);have hex:=λk2=>amT hc (z&&ts.isEmpty) (ts.take n) (by simp;omega) 20 k2 19 0 st hw (by simp;omega) (by omega)
   obtain⟨st',hg,L⟩:=hex (λvs s33=>iw vs λx5 vs=>mO vs (aq c .move [x5] s33 λx34 s34=>aq c .move [x34] s34 λx4 s35=>some (x4,s35)));rw[RA hc 20 (r:=(.int .i64 (Aj ts (n:Int)),st')),aB (Plain.int _ _) hg.keeps];rw[Ys,e];have h4:¬ts.length<=n:=(by omega);have hm:min n ts.length=n:=(by omega);simp[tabs,bf,hm]at L;simp[h1,h4,h3,lT,hv];simp[tabs,hn,hm,bf,L]
theorem akq(hc:Sem c)(z:Bool)(ts:List aE)(hl:ts.length<=16)(st:St)(hw:Wf st):c 97 [tabs z ts] st=some (.int .i64 (if h:0<ts.length then bJ (ts[ts.length - 1]'(by omega))else 0),st):=by
 rw[aaz hc 1 (r:=(.int .i64 (if h:0<ts.length then bJ (ts[ts.length - 1]'(by omega))else 0),st)),aB (Plain.int _ _) (aX.refl st)];rw[adL];by_cases h:0<ts.length
 . have h1:¬(ts.length:Int)=0:=(by omega);have h2:ts≠[]:=λe=>by subst e;simp at h
   have w:ax .i64 ((ts.length:Int) - 1)=((ts.length - 1:Nat):Int):=(by rw[wrap64 (by omega) (by omega)];omega);have h3:ts.length - 1<ts.length:=(by omega);have hs:=Rx hc (ts[ts.length - 1]'(by omega)) st hw;simp[tabs,h,h1,h2,w,h3,hs]
 .have h1:ts=[]:=Zc2 (by omega);subst h1;simp[tabs]
theorem apf{ts:List aE}(hv:(bU ts).2=0):Aj ts ((ts.length:Int) - 1)+(if h:0<ts.length then bJ (ts[ts.length - 1]'(by omega))else 0)=bf ts:=by
 by_cases h:0<ts.length
 .rw[dif_pos h,Aj,Za7 (by simp[hv];omega)];have e:((ts.length:Int) - 1).toNat=ts.length - 1:=(by omega);rw[e, <-Uk, <-Zc9 (by omega)];rw[show ts.length - 1+1=ts.length by omega,Zh9]
 .have h1:ts=[]:=Zc2 (by omega);subst h1;simp[Aj,bf]
theorem Hi(hc:Sem c)(z:Bool)(ts:List aE)(cH:∀t∈ts,t.Ok)(st:St)(hw:Wf st):c 44 [tabs z ts] st=some (.int .i64 (if(bU ts).2=0 then bf ts else 0),st):=by
 rw[ae4 hc 1 (r:=(.int .i64 (if(bU ts).2=0 then bf ts else 0),st)),aB (Plain.int _ _) (aX.refl st)];rw[ai8];have lT:∀(K:AV->St->Option (AV×St))(s:St),aq c (.lenB .l) [tabs z ts] s K=K (.int .i64 (ts.length:Int)) s:=λK s=>by unfold tabs;rw[jL];simp
 have hv:=Ul hc z ts cH st hw;by_cases h:(bU ts).2=0
 .have hl:=OS h;have w:ax .i64 ((ts.length:Int) - 1)=(ts.length:Int) - 1:=wrap64 (by omega) (by omega);have hf:=ai7 hc z ts cH ((ts.length:Int) - 1) st hw;have hla:=akq hc z ts hl st hw;have b:=rE ts;have e:=apf h;rw[Zb6 h, <-e];rw[<-e]at b;generalize Aj ts ((ts.length:Int) - 1)=x at hf b ⊢;generalize (if h:0<ts.length then bJ (ts[ts.length - 1]'(by omega))else 0)=y at hla b ⊢;have w2:ax .i64 (x+y)=x+y:=wrap64 (by omega) (by omega);simp[hv,h,lT,w,hf,hla,w2]
 .simp[hv,h]
theorem aur(hc:Sem c)(z:Bool)(ts:List aE)(cH:∀t∈ts,t.Ok)(hl:ts.length<sH)(s:List Nat)(st:St)(hw:Wf st):c 126 [tabs z ts,.str s] st=
   some (.tuple [.int .i64 (if 0<=scan (vq ts s) ts.length 0/\(bU ts).2=0 then scan (vq ts s) ts.length 0 else 0),.bool (decide (0<=scan (vq ts s) ts.length 0/\(bU ts).2=0))],st):=by
 rw[agL hc 1 (r:=(.tuple [.int .i64 (if 0<=scan (vq ts s) ts.length 0/\(bU ts).2=0 then scan (vq ts s) ts.length 0 else 0),.bool (decide (0<=scan (vq ts s) ts.length 0/\(bU ts).2=0))],ah st (.cells [.str s] 0))),
   aB (Plain.tuple (by simp[Plain.int,Plain.bool])) (bY hw)]
 rw[akr];have cZ:Wf (ah st (.cells [.str s] 0)):=bG hw;have hi:=als hc z (ts.map aE.cells) (by simpa using hl) (λcs eW=>by
     simp only[Zc7]at eW;obtain⟨t,_,rfl⟩:=eW;rfl) 175 [.ptr st.next 0] (vq ts s) (ah st (.cells [.str s] 0)) (λi hi=>by
     have hi3:i<ts.length:=(by simpa using hi);have:=arU hc ts[i] s st.next (ah st (.cells [.str s] 0)) cZ (aA _ _);simp only[Zl8];rw[this];simp[vq,hi3])
 rw[Za4]at hi;have hv:=Ul hc z ts cH _ cZ;simp only[tabs]at hv ⊢;have e:(AV.str s).cells=[.str s]:=rfl;by_cases h1:0<=scan (vq ts s) ts.length 0
 . have h2:¬scan (vq ts s) ts.length 0<0:=(by omega);by_cases h3:(bU ts).2=0
   .simp[e,hi,h1,h2,h3,hv]
   .simp[e,hi,h1,h2,h3,hv]
 .have h2:scan (vq ts s) ts.length 0<0:=(by omega);simp[e,hi,h1,h2]
structure aN where
 name:List Nat
 AN:List Nat
 jv:List Nat
 since:Int
 side:Int
 nk:List Nat
 host:Bool
 access:Bool
 tz:Bool
 tg:List (List Nat)
def lS(z:Bool)(l:List (List Nat)):AV:=ro 1 z (l.map λs=>[.str s])
def aN.cells(g:aN):List AV:=[.str g.name,.str g.AN,.str g.jv,.int .i64 g.since,.int .i64 g.side,.str g.nk,.bool g.host,.bool g.access,lS g.tz g.tg]
@[simp] theorem ai9(z:Bool)(l:List (List Nat)):(lS z l).one=true:=aoh _ _ _
@[simp] theorem axa{R:Type}(c:aj)(K:AV->St->Option R)(st:St)(z:Bool)(l:List (List Nat)):aq c (.lenB .l) [lS z l] st K=K (.int .i64 (l.length:Int)) st:=by unfold lS;rw[jL];simp
@[simp] theorem axb{R:Type}(c:aj)(K:AV->St->Option R)(st:St)(z:Bool)(l:List Int):aq c (.lenB .l) [ints z l] st K=K (.int .i64 (l.length:Int)) st:=by unfold ints;rw[jL];simp
@[simp] theorem aN.c0(t:aN):t.cells[0]? =some (.str t.name):=id rfl
@[simp] theorem aN.c1(t:aN):t.cells[1]? =some (.str t.AN):=id rfl
@[simp] theorem aN.c2(t:aN):t.cells[2]? =some (.str t.jv):=id rfl
@[simp] theorem aN.c3(t:aN):t.cells[3]? =some (.int .i64 t.since):=id rfl
@[simp] theorem aN.c4(t:aN):t.cells[4]? =some (.int .i64 t.side):=id rfl
@[simp] theorem aN.c5(t:aN):t.cells[5]? =some (.str t.nk):=id rfl
@[simp] theorem aN.c6(t:aN):t.cells[6]? =some (.bool t.host):=id rfl
@[simp] theorem aN.c7(t:aN):t.cells[7]? =some (.bool t.access):=id rfl
@[simp] theorem aN.c8(t:aN):t.cells[8]? =some (lS t.tz t.tg):=id rfl
@[simp] theorem aN.cc(t:aN):cut t.cells 0 9=some t.cells:=cQ rfl
@[simp] theorem aN.one(t:aN):aQ t.cells=true:=by unfold aN.cells;simp only[aQ,ai9];rfl
def dm(z:Bool)(gs:List aN):AV:=ro 9 z (gs.map aN.cells)
@[simp] theorem aiT{R:Type}(c:aj)(K:AV->St->Option R)(st:St)(z:Bool)(l:List aN):aq c (.lenB .l) [dm z l] st K=K (.int .i64 (l.length:Int)) st:=by unfold dm;rw[jL];simp
def aft(last:Option (List Nat))(s:List Nat):Bool:=match last with
 |none=>true
 |some p=>aO p s
@[simp] theorem arV(s:List Nat):aft none s=true:=id rfl
@[simp] theorem arW(p s:List Nat):aft (some p) s=aO p s:=id rfl
def RB(last:Option (List Nat)):List (List Nat)->Bool
 |[]=>true
 |s::l=>oX s&&aft last s&&RB (some s) l
theorem arX(last:Option (List Nat))(s:List Nat)(l:List (List Nat)):RB last (s::l)=(oX s&&aft last s&&RB (some s) l):=rfl
def jZ(g:aN):Int:=
 if(oX g.name&&Aw g.AN&&Aw g.jv&&Aw g.nk)=false then 4 else if ¬(0<=g.since/\g.since<=9999)then 21 else if ¬(0<=g.side/\g.side<=2)then 20
 else if 4<g.tg.length then 22 else if RB none g.tg=false then 22 else 0
theorem Hj:∀(a:List Nat),aO a a=false
 |[]=>rfl
 |x::a=>by
  unfold aO;simp[Lt,cO,Hj a]
theorem Yt:∀(a b:List Nat),aO a b=true->aO b a=false
 |[],[],h=>by simp[aO]at h
 |[],_::_,_=>rfl
 |_::_,[],h=>by simp[aO]at h
 |x ::a,y::b,h=>by
  unfold aO at h ⊢;simp only[Lt,cO]at h ⊢;by_cases h1:x<y
  .have:¬y<x:=(by omega);have h3:¬y=x:=(by omega);simp[this,h3]
  . by_cases h2:x=y
    .subst h2;simp at h ⊢; exact Yt a b h
    .simp[h1,h2]at h
theorem LA:∀(a b:List Nat),aO a b=false->aO b a=false->a=b
 |[],[],_,_=>rfl
 |[],_::_,h,_=>by simp[aO]at h
 |_::_,[],_,h=>by simp[aO]at h
 |x ::a,y::b,h,k=>by
  unfold aO at h k;simp only[Lt,cO]at h k;by_cases h1:x<y
  .simp[h1]at h
  . by_cases h2:y<x
    .   simp[h2]at k
    .   have:x=y:=(by omega);subst this;simp at h k;rw[LA a b h k]
theorem Um:∀(a b d:List Nat),aO a b=true->aO b d=true->aO a d=true
 |_,[],[],_,h=>by simp[aO]at h
 |_,_::_,[],_,h=>by simp[aO]at h
 |[],_,_::_,_,_=>rfl
 |_::_,[],_::_,h,_=>by simp[aO]at h
 |x ::a   ,y::b,z::d,h,k=>by
  unfold aO at h k ⊢;simp only[Lt,cO]at h k ⊢;by_cases h1:x<y
  . by_cases h2:y<z
    .   have:x<z:=(by omega);simp[this]
    .   by_cases h3:y=z
        .subst h3;simp[h1]
        .simp[h2,h3]at k
  . by_cases h2:x=y
    .   subst h2;simp at h;by_cases h4:x<z
        .simp[h4]
        . by_cases h5:x=z
          .subst h5;simp at k ⊢; exact Um a b d h k
          .simp[h4,h5]at k
    .   simp[h1,h2]at h
theorem acn(hc:Sem c)(p:Pos)(g:aN)(hl:g.tg.length<=4)(F:Nat)(st:St)(hp:st.heap.get p=some (.cells g.cells 0))(k1 k3):∀(m k:Nat),g.tg.length<=k+m->k<=g.tg.length->
  qV c F k1 k3 (m+1) [.ptr p 0,lS g.tz g.tg,.int .i64 (g.tg.length:Int),.int .i64 (k:Int)] st=if RB (if k=0 then none else g.tg[k - 1]?) (g.tg.drop k)=true then k3 [] st else k1 [.int .i64 22] st:=by
 intro m;induction m with
 |zero=>
  intro k h1 h2;rw[MR];obtain rfl:k=g.tg.length:=by omega
  simp[RB]
 |succ m ih=>
  intro k h1 h2;rw[MR];by_cases h:k<g.tg.length
  . have e:g.tg.drop k=g.tg[k]::g.tg.drop (k+1):=Zd8 h;have w:ax .i64 ((k:Int)+1)=((k+1:Nat):Int):=wrap64 (by omega) (by omega);have hn:=JF hc g.tg[k] st;have:=ih (k+1) (by omega) (by omega);have e2:(if k+1=0 then none else g.tg[k+1 - 1]?)=some g.tg[k]:=(by rw[Za7 (by omega),Zh6,H0 h]);rw[e2]at this;rw[e,arX];generalize RB (some g.tg[k]) (g.tg.drop (k+1))=rest at this ⊢;by_cases h3:oX g.tg[k]=true
    .   by_cases h0:k=0
        .have hk:¬0<k:=(by omega);simp only[h3,Zb6 h0,Zg9,arV];rw[<-this];simp[lS,h,hn,h3,hk,w]
        . have hk:0<k:=(by omega);have Bq:k - 1<g.tg.length:=(by omega);have wk:ax .i64 ((k:Int) - 1)=((k - 1:Nat):Int):=(by rw[wrap64 (by omega) (by omega)];omega);simp only[h3,Za7 h0,H0 Bq,Zg9,arW];cases hb:aO g.tg[k - 1] g.tg[k]
          .simp[lS,h,hn,h3,hk,Bq,wk,hp,hb]
          .simp only[Zg9];rw[<-this];simp[lS,h,hn,h3,hk,Bq,wk,hp,hb,w]
    .   simp[lS,h,hn,h3]
  .obtain rfl:k=g.tg.length:=(by omega);simp[RB]
theorem ae5(hc:Sem c)(g:aN)(st:St)(hw:Wf st):c 154 [.agg g.cells] st=some (.int .i64 (jZ g),st):=by
 rw[adM hc 6 (r:=(.int .i64 (jZ g),ah st (.cells g.cells 0))),aB (Plain.int _ _) (bY hw)];rw[agM];have n0:=JF hc g.name;have n1:=JG hc g.AN;have n2:=JG hc g.jv;have n5:=JG hc g.nk;by_cases hn:(oX g.name&&Aw g.AN&&Aw g.jv&&Aw g.nk)=true
 . have Ik:=hn;simp only[Zb1]at Ik;obtain⟨⟨⟨b0,b1⟩,b2⟩,b5⟩:=Ik;unfold jZ;rw[hn];by_cases h1:g.since<0
   .have:¬(0<=g.since/\g.since<=9999):=(by omega);simp[n0,n1,n2,n5,b0,b1,b2,b5,h1,this]
   by_cases h2:9999<g.since
   .have:¬(0<=g.since/\g.since<=9999):=(by omega);simp[n0,n1,n2,n5,b0,b1,b2,b5,h1,h2,this]
   have h3:0<=g.since/\g.since<=9999:=(by omega);by_cases h4:g.side<0
   .have:¬(0<=g.side/\g.side<=2):=(by omega);simp[n0,n1,n2,n5,b0,b1,b2,b5,h1,h2,h3,h4,this]
   by_cases h5:2<g.side
   .have:¬(0<=g.side/\g.side<=2):=(by omega);simp[n0,n1,n2,n5,b0,b1,b2,b5,h1,h2,h3,h4,h5,this]
   have h6:0<=g.side/\g.side<=2:=(by omega);by_cases h7:4<g.tg.length
   .have h8:(4:Int)<g.tg.length:=(by omega);simp[n0,n1,n2,n5,b0,b1,b2,b5,h1,h2,h3,h4,h5,h6,h7,h8]
   . have h8:¬(4:Int)<g.tg.length:=(by omega);have L:∀k1 k3,qV c 6 k1 k3 6 [.ptr st.next 0,lS g.tz g.tg,.int .i64 (g.tg.length:Int),.int .i64 0] (ah st (.cells g.cells 0))=if RB none (g.tg.drop 0)=true then k3 [] (ah st (.cells g.cells 0))else k1 [.int .i64 22] (ah st (.cells g.cells 0)):=
        λk1 k3=>acn hc st.next g (by omega) 6 _ (aA _ _) k1 k3 5 0 (by omega) (by omega)
     rw[Ze5]at L;generalize RB none g.tg=b at L ⊢;cases b<;>simp[n0,n1,n2,n5,b0,b1,b2,b5,h1,h2,h3,h4,h5,h6,h7,h8,L]
 . have hn':(oX g.name&&Aw g.AN&&Aw g.jv&&Aw g.nk)=false:=(by simpa using hn);have hx:jZ g=4:=(by unfold jZ;rw[hn'];simp);rw[hx];cases b0:oX g.name
   .simp[n0,b0]
   . cases b1:Aw g.AN
     .  simp[n0,n1,b0,b1]
     .  cases b2:Aw g.jv
        .simp[n0,n1,n2,b0,b1,b2]
        . cases b5:Aw g.nk
          .simp[n0,n1,n2,n5,b0,b1,b2,b5]
          .simp[b0,b1,b2,b5]at hn
structure Ty where
 a:List Nat
 b:List Nat
 k:Int
def Ty.cells(t:Ty):List AV:=[.str t.a,.str t.b,.int .u8 t.k]
@[simp] theorem Ty.c0(t:Ty):t.cells[0]? =some (.str t.a):=id rfl
@[simp] theorem Ty.c1(t:Ty):t.cells[1]? =some (.str t.b):=id rfl
@[simp] theorem Ty.c2(t:Ty):t.cells[2]? =some (.int .u8 t.k):=id rfl
@[simp] theorem Ty.cc(t:Ty):cut t.cells 0 3=some t.cells:=cQ rfl
theorem Ty.len(t:Ty):t.cells.length=3:=id rfl
@[simp] theorem Ty.one(t:Ty):aQ t.cells=true:=id rfl
@[simp] theorem awb{R:Type}(c:aj)(K:AV->St->Option R)(st:St)(t:Ty)(x y z:AV):aq c (.store 3) [.ptr st.next 0,.agg t.cells] (ah st (.cells [x,y,z] 0)) K=K .undef (ah st (.cells t.cells 0)):=cr c K st 3 (.agg t.cells) [x,y,z] rfl rfl t.one
def gV(z:Bool)(ts:List Ty):AV:=ro 3 z (ts.map Ty.cells)
@[simp] theorem arY{R:Type}(c:aj)(K:AV->St->Option R)(st:St)(z:Bool)(l:List Ty):aq c (.lenB .l) [gV z l] st K=K (.int .i64 (l.length:Int)) st:=by unfold gV;rw[jL];simp
def mB(gs:List aN)(s:List Nat)(i:Nat):Bool:=decide (gs[i]?.map aN.name=some s)
def fQ(s t:Ty):Bool:=aO s.a t.a||(decide (s.a=t.a)&&aO s.b t.b)
def Es(a b:List Nat):Int:=if aO a b=true then -1 else if aO b a=true then 1 else 0
theorem avG(hc:Sem c)(a b:List Nat)(st:St):c 225 [.str a,.str b] st=some (.int .i64 (Es a b),st):=by unfold Sem at hc;subst hc;refine ada (s:=GN) (by rfl) ?_;show some (AV.int .i64 (match aO a b with|true=>.negSucc 0|false=>match aO b a with|true=>.ofNat 1|false=>.ofNat 0),st)=_;unfold Es;generalize aO a b=p;generalize aO b a=q;cases p<;>cases q<;>rfl
theorem aco(hc:Sem c)(a b:List Nat)(st:St):c 205 [.str a,.str b] st=some (.int .i64 (Es a b),st):=by
 rw[LB hc 1 (r:=(.int .i64 (Es a b),st)),aB (Plain.int _ _) (aX.refl st)];rw[N9];simp[avG hc]
theorem adN(hc:Sem c)(a b:List Nat)(st:St):c 156 [.str a,.str b] st=some (.int .i64 (Es a b),st):=by
 rw[Ws hc 1 (r:=(.int .i64 (Es a b),st)),aB (Plain.int _ _) (aX.refl st)];rw[aaA];simp[aco hc]
theorem ZZ{a b:List Nat}:Es a b=0↔a=b:=by
 unfold Es;cases h1:aO a b
 . cases h2:aO b a
   .simp;exact LA _ _ h1 h2
   .simp;intro e;subst e;rw[Hj]at h2;cases h2
 .simp;intro e;subst e;rw[Hj]at h1;cases h1
def sS(s t:Ty):Int:=if s.a=t.a then Es s.b t.b else Es s.a t.a
theorem MT(hc:Sem c)(s t:Ty)(st:St)(hw:Wf st):c 105 [.agg s.cells,.agg t.cells] st=some (.int .i64 (sS s t),st):=by
 rw[adO hc 1 (r:=(.int .i64 (sS s t),ah (ah st (.cells s.cells 0)) (.cells t.cells 0))),aB (Plain.int _ _) ((bY hw).trans (bY (bG hw)))];rw[agN];by_cases h:s.a=t.a
 .have:Es t.a t.a=0:=ZZ.2 rfl;simp[sS,adN hc,h,this]
 . have:¬Es s.a t.a=0:=λe=>h (ZZ.1 e)
   simp[sS,adN hc,h,this]
theorem ae6{s t:Ty}:sS s t<0↔fQ s t=true:=by
 unfold sS fQ Es;by_cases h:s.a=t.a
 .simp only[h,Hj,Zh1];cases aO s.b t.b<;>cases aO t.b s.b<;>simp
 .simp only[h,Zg7];cases aO s.a t.a<;>cases aO t.a s.a<;>simp
theorem Z3{s t:Ty}:0<sS s t↔fQ t s=true:=by
 unfold sS fQ Es;by_cases h:s.a=t.a
 . simp only[h,Hj,Zh1];cases h1:aO s.b t.b
   .cases aO t.b s.b<;>simp
   .simp[Yt _ _ h1]
 . have h':¬t.a=s.a:=λe=>h e.symm
   simp only[h,h',Zg7];cases h1:aO s.a t.a
   .cases aO t.a s.a<;>simp
   .simp[Yt _ _ h1]
theorem alu(hc:Sem c)(a b:List Nat)(k:Int)(aW:aO a b=true)(st:St)(hw:Wf st):c 158 [.str a,.str b,.int .u8 k] st=some (.agg (Ty.cells ⟨a,b,k⟩),st):=by
 rw[RD hc 1 (r:=(.agg (Ty.cells ⟨a,b,k⟩),ah st (.cells (Ty.cells ⟨a,b,k⟩) 0))),aB (Plain.agg (by simp[Ty.cells,Plain.str,Plain.int])) (bY hw)];rw[Yu];have m1:∀(K:AV->St->Option (AV×St))(s:St),aq c .minB [.str a,.str b] s K=K (.str a) s:=λK s=>aV c K (λH n=>by simp[aG.run,LJ,aW]) s
 have m2:∀(K:AV->St->Option (AV×St))(s:St),aq c .maxB [.str a,.str b] s K=K (.str b) s:=λK s=>aV c K (λH n=>by simp[aG.run,LM,aW]) s
 simp[m1,m2,cK,aU,cU,AV.cells,aQ,AV.one,cQ,Ty.cells]
def o9(gs:List aN):Nat->Nat->Int×Int
 |0,_=>(0,0)
 |  m+1,k=>match gs[k]? with
    |none=>(0,0)
    |some g=>if jZ g≠0 then((k:Int),jZ g)else if 0<=scan (mB gs g.name) k 0 then((k:Int),5)else if 64<=k then((k:Int),7)else o9 gs m (k+1)
def p7(ts:List Ty)(k:Nat):Option Ty:=if k=0 then none else ts[k - 1]?
def knd(t:Ty):Bool:=decide (t.k=1)||decide (t.k=2)
def ahg(t:Ty)(p:Option Ty):Bool:= !knd t|| !aO t.a t.b||(match p with|none=>false|some p=>fQ t p)
def wH(t:Ty)(p:Option Ty):Bool:=match p with|none=>false|some p=> !fQ p t
def se(gs:List aN)(t:Ty):Bool:=decide (scan (mB gs t.a) gs.length 0<0)||decide (scan (mB gs t.b) gs.length 0<0)
def j5(gs:List aN)(ts:List Ty):Nat->Nat->Int×Int
 |0,_=>(0,0)
 |  m+1,k=>match ts[k]? with
    |none=>(0,0)
    |some t=>if ahg t (p7 ts k)=true then((gs.length:Int)+k,23)else if se gs t=true then((gs.length:Int)+k,6)
     else if wH t (p7 ts k)=true then((gs.length:Int)+k,5)else if 256<=k then((gs.length:Int)+k,7)else j5 gs ts m (k+1)
def dX(gs:List aN)(ts:List Ty):Int×Int:=if(o9 gs 101 0).2≠0 then o9 gs 101 0 else j5 gs ts 101 0
theorem arZ{gs:List aN}{s:List Nat}{k:Nat}(hk:k<=gs.length):scan (mB (gs.take k) s) k 0=scan (mB gs s) k 0:=
 adH k 0 λi _ hi=>by simp[mB,Ze4,show i<k by omega]
theorem adP (gs:List aN)(ts:List Ty):∀(m k:Nat),(j5 gs ts m k).2=0->(j5 gs ts m k).1=0
 |0,_,_=>rfl
 |m +   1,k , h=>by
  rw[j5]at h ⊢;split at h
  .rfl
  . split   at h
    .   simp at h
    .   split at h
        .simp at h
        . split at h
          .simp at h
          . split at h
            .simp at h
            .rename_i h1 h2 h3 h4;rw[Za7 h1,Za7 h2,Za7 h3,Za7 h4];exact adP gs ts m (k+1) h
abbrev qJ(s:List Nat):List AV:=[.str s]
theorem Hl(l:List (List Nat)):∀r∈l.map qJ,r.length=1:=λr hr=>by simp only[Zc7]at hr;obtain⟨m,_,rfl⟩:=hr;rfl
theorem ar0{s:St}(z:Bool)(l:List (List Nat)):Src 1 s (lS z l) (l.map qJ):=Src.ro z _
theorem apg(hc:Sem c){src:AV}(l:List (List Nat))(hl:l.length<=1000)(s:St)(hw:Wf s)(h:Src 1 s src (l.map qJ)):∃v s',c 74 [src] s=some (v,s')/\Mk 1 s s' v (l.map qJ):=by
 rcases h.nil with⟨rfl,h0⟩|hn
 . (refine⟨.af,s,?_,by rw[h0];exact Mk.start hw (Grew.refl hw)⟩;rw[jx hc 1 (r:=(.af,s)),aB Plain.af (aX.refl s)];rw[j6];have e:∀(K:AV->St->Option (AV×St))(s:St),aq c (.bin .eql .slice) [.af,.af] s K=K (.bool true) s:=λK s=>aV c K (λH n=>rfl) s);simp[e]
 .obtain⟨v,s',a1,a2⟩:=afS (c:=c) (R:=AV×St) (bytes:=16) (z:=[.str []]) (Hl l) (by decide) (by simp;omega) (by simp;omega) s hw h;obtain⟨fU,t1,t2⟩:=a2.tidy;refine⟨v,fU,?_,t2⟩;rw[jx hc 1 (r:=(v,s')),t1];rw[j6];simp only[av,hn,cV];rw[a1]
def aN.ay(g:aN)(v:AV):List AV:=[.str g.name,.str g.AN,.str g.jv,.int .i64 g.since,.int .i64 g.side,.str g.nk,.bool g.host,.bool g.access,v]
theorem aN.aph(g:aN):g.ay (lS g.tz g.tg)=g.cells:=rfl
theorem aN.MG(t:aN){v:AV}(h:aQ [v]=true):aQ (t.ay v)=true:=by
 simp only[aQ]at h;unfold aN.ay;simp only[aQ,AV.one,h,Zk5,Zj4]at*
structure aN.Low(g:aN):Prop where
 name:∀x∈g.name,x<256
 AN:∀x∈g.AN,x<256
 jv:∀x∈g.jv,x<256
 nk:∀x∈g.nk,x<256
theorem af7(hc:Sem c)(g:aN)(hg:g.Low)(hl:g.tg.length<=1000){src:AV}(s:St)(hw:Wf s)(h:Src 1 s src (g.tg.map qJ))(h1:src.cells=[src])(h2:src.one=true):
  ∃v s',c 155 [.agg (g.ay src)] s=some (.agg (g.ay v),s')/\Mk 1 s s' v (g.tg.map qJ):=by
 let zero:List AV:=[.str [],.str [],.str [],.int .i64 0,.int .i64 0,.str [],.bool false,.bool false,.af]
 have tH:Wf (ah (ah s (.cells (g.ay src) 0)) (.cells zero 0)):=bG (bG hw);have xC:=(Grew.ah hw (.cells (g.ay src) 0)).trans (Grew.ah (bG hw) (.cells zero 0));obtain⟨v,s3,h3,M⟩:=apg hc g.tg hl _ tH (h.ai xC);have M0:=M.back hw xC;have hx:s3.heap.get s.next=some (.cells (g.ay src) 0):=M.ai.get D5;have hy:s3.heap.get (ah s (.cells (g.ay src) 0)).next=some (.cells zero 0):=M.ai.get (aA _ _);obtain⟨hvc,hvo⟩:=M.cells;have cY:s.next≠(ah s (.cells (g.ay src) 0)).next:=Pos.ZO _;have amU:s.next.toNat<s3.next.toNat:=by have:=M.ai.next;rw[bP,bP,Pos.aF,Pos.aF]at this;omega
 have aml:(ah s (.cells (g.ay src) 0)).next.toNat<s3.next.toNat:=by have:=M.ai.next;rw[bP,Pos.aF]at this;omega
 have vo:v.one=true:=zo hvo;have Bk:aU (g.ay src) 8 [v]=g.ay v:=rfl;have hro:aQ (g.ay v)=true:=g.MG hvo;have hro0:aQ (g.ay src)=true:=g.MG (by simp only[aQ,h2]);have new:∀b,aL v=some b->(ah s (.cells (g.ay src) 0)).next.toNat<b.toNat:=λb hb=>by have:=M.new b hb;rw[bP,Pos.aF]at this;omega
 have Q3:s.next.toNat<(ah s (.cells (g.ay src) 0)).next.toNat:=by rw[bP,Pos.aF];omega
 let s4:=bh s3 s.next (.cells (g.ay v) 0)
 let s5:=bh s4 (ah s (.cells (g.ay src) 0)).next (.cells (g.ay v) 0)
 have hx4:s4.heap.get s.next=some (.cells (g.ay v) 0):=bH _ _ _;have hy4:s4.heap.get (ah s (.cells (g.ay src) 0)).next=some (.cells zero 0):=by show(bh s3 s.next (.cells (g.ay v) 0)).heap.get _=_;rw[aJ cY];exact hy
 have hy5:s5.heap.get (ah s (.cells (g.ay src) 0)).next=some (.cells (g.ay v) 0):=bH _ _ _;have M4:Mk 1 s s4 v (g.tg.map qJ):=M0.store (Za3 _) amU (λe=>by have:=new _ e;omega);have M5:Mk 1 s s5 v (g.tg.map qJ):=M4.store (by omega) aml (λe=>by have:=new _ e;omega);have hi:∀u∈g.ay v,dU u:=λu hu=>by
  simp only[aN.ay,Za8,Zc0,Ze9]at hu;rcases hu with rfl|rfl|rfl|rfl|rfl|rfl|rfl|rfl|rfl
  .exact dU.str hg.name
  .exact dU.str hg.AN
  .exact dU.str hg.jv
  .exact dU.int _ _
  .exact dU.int _ _
  .exact dU.str hg.nk
  .exact dU.bool _
  .exact dU.bool _
  .exact M.inst
 obtain⟨fU,t1,_,t2⟩:=M5.Tu (l:=g.ay v) (by simp[aN.ay]) hi;refine⟨v,fU,?_,t2⟩;rw[acp hc 1 (r:=(.agg (g.ay v),s5)),t1];rw[ae7];have bE:=λ(K:AV->St->Option (AV×St))=>cm c K s3 1 s.next 8 v (g.ay src) hx (by rw[hvc];rfl) (by simp[aN.ay]) (by rw[hvc];exact hvo)
 rw[hvc,Bk]at bE;have Bj:=λ(K:AV->St->Option (AV×St))=>cm c K s4 9 (ah s (.cells (g.ay src) 0)).next 0 (.agg (g.ay v)) _ hy4 rfl (by simp[zero,aN.ay]) hro
 have hsp2:aU zero 0 (AV.agg (g.ay v)).cells=g.ay v:=rfl;rw[hsp2]at Bj;have hcut:cut (g.ay v) 0 9=some (g.ay v):=cQ rfl;have g8:(g.ay src)[8]? =some src:=rfl;have st2':∀(K:AV->St->Option (AV×St)),aq c (.store 9) [.ptr (ah s (.cells (g.ay src) 0)).next 0,.agg (g.ay v)] (bh s3 s.next (.cells (g.ay v) 0)) K=K .undef s5:=λK=>Bj K
 have bx:∀(K:AV->St->Option (AV×St)),aq c .box [.agg (g.ay src)] s K=K (.ptr s.next 0) (ah s (.cells (g.ay src) 0)):=λK=>by rw[cS];rfl
 simp[bx,h3,g8,zero,bE,hcut];rw[st2'];simp only[hy5,aD,Za9,hcut,fu]
theorem Vg(b:Pos)(off:Nat):¬Plain (.ptr b off):=λh=>by
 have:=h (λ_=>⟨0,0,0⟩) (λ_=>⟨0,0,0⟩) (b.toNat+1) 0 (λ_=>none) _ (.ptr b off (by omega));cases this with
 |ptr _ _ h=>omega
theorem ar1{s s':St}{b:Pos}{off:Nat}:tidy s (.ptr b off,s')=(.ptr b off,s'):=by unfold tidy;rw[Za7];exact λh=>Vg _ _ h.1
theorem avH(hc:Sem c)(s:St):c 103 [] s=some (.ptr (ah s (.map [] 0)).next 0,ah (ah s (.map [] 0)) (.cells [.af,.af,.map s.next] 0)):=by
 rw[agO hc 1 (r:=(.ptr (ah s (.map [] 0)).next 0,ah (ah s (.map [] 0)) (.cells [.af,.af,.map s.next] 0))),ar1];rw[aks];simp[cK,aU,cU,AV.cells]
def lC(k:Option Pos)(n es:Nat):AV:=match k with
 |none=>.af
 |some b=>.slice b 0 n none es
theorem Uo{k:Option Pos}{n es:Nat}(h:k=none->n=0):∀H p,aG.run H p (.lenB .l) [lC k n es]=some (.val (.int .i64 (n:Int))):=λH p=>by
 cases k with
 |none=>rw[h rfl];rfl
 |some b=>rfl
def amV(s0 s:St)(bp:Pos)(gk tk:Option Pos)(g:aN)(row:List AV):Prop:=g.Low/\g.tg.length<=4/\∃v,row=g.ay v/\v.cells=[v]/\v.one=true/\QS 1 s v (g.tg.map qJ)/\∀p,aL v=some p->p≠bp/\gk≠some p/\tk≠some p/\s0.heap.get p=none
theorem api{es:Nat}{s:St}{v:AV}{rows:List (List AV)}(h:QS es s v rows){b:Pos}(hb:aL v=some b):∃cs,s.heap.get b=some (.cells cs 0):=by
 rcases h with⟨rfl,rfl⟩|⟨b',off,cap,cs,rfl,h1,_⟩|⟨b',off,rfl,rfl⟩
 .cases hb
 .obtain rfl:=tO hb;exact⟨cs,h1⟩
 .rw[mq]at hb;cases hb
theorem amV.to{s0 s s':St}{bp:Pos}{gk tk Vi u9:Option Pos}{g:aN}{row:List AV}(h:amV s0 s bp gk tk g row)
   (hk:∀p cs,p≠bp->gk≠some p->tk≠some p->s.heap.get p=some (.cells cs 0)->s'.heap.get p=some (.cells cs 0)/\Vi≠some p/\u9≠some p):amV s0 s' bp Vi u9 g row:=by
 obtain⟨h1,h2,v,h3,h4,h5,h6,h7⟩:=h;refine⟨h1,h2,v,h3,h4,h5,h6.mono λb x hb hx=> ?_,λp hp=> ?_⟩
 .obtain⟨cs,h8⟩:=api h6 hb;rw[h8]at hx;cases hx;obtain⟨a1,a2,a3,_⟩:=h7 b hb;exact(hk b cs a1 a2 a3 h8).1
 .obtain⟨cs,h8⟩:=api h6 hp;obtain⟨a1,a2,a3,a4⟩:=h7 p hp;exact⟨a1,(hk p cs a1 a2 a3 h8).2.1,(hk p cs a1 a2 a3 h8).2.2,a4⟩
structure eH(s0 s:St)(bp mp:Pos)(gs:List aN)(ts:List Ty)(gk tk:Option Pos):Prop where
 wf:Wf s
 keeps:aX s0 s
 next:s0.next.toNat<=s.next.toNat
 book:s.heap.get bp=some (.cells [lC gk gs.length 9,lC tk ts.length 3,.map mp] 0)
 AP:∃es cl,s.heap.get mp=some (.map es cl)/\es.map (·.1)=gs.map λg=>.str g.name
 sI:(gk=none->gs=[])/\∀b,gk=some b->∃cs,s.heap.get b=some (.cells cs 0)/\cs.length=gs.length*9
 yL:(tk=none->ts=[])/\∀b,tk=some b->s.heap.get b=some (.cells (ts.flatMap Ty.cells) 0)
 dg:gk≠some bp
 dt:tk≠some bp
 dgt:∀b,gk=some b->tk≠some b
 fb:s0.heap.get bp=none
 fm:s0.heap.get mp=none
 fg:∀b,gk=some b->s0.heap.get b=none
 ft:∀b,tk=some b->s0.heap.get b=none
 Up:∀es cl,s.heap.get mp=some (.map es cl)->∀e∈es,∃i:Nat,e.2.1= .int .i64 (i:Int)/\i<gs.length
 Qd:∀es cl,s.heap.get mp=some (.map es cl)->es.map (λe=>e.2.1)=(List.range gs.length).map λ(i:Nat)=>AV.int .i64 (i:Int)
 rows:∀b cs,gk=some b->s.heap.get b=some (.cells cs 0)->∀(i:Nat)(g:aN),gs[i]? =some g->amV s0 s bp gk tk g ((cs.drop (i*9)).take 9)
theorem eH.lt{s0 s:St}{bp mp:Pos}{gs:List aN}{ts:List Ty}{gk tk:Option Pos}(h:eH s0 s bp mp gs ts gk tk):bp.toNat<s.next.toNat/\mp.toNat<s.next.toNat:=by
 obtain⟨es,cl,h1,_⟩:=h.AP;exact⟨h.wf _ _ h.book,h.wf _ _ h1⟩
theorem eH.ai{s0 s s':St}{bp mp:Pos}{gs:List aN}{ts:List Ty}{gk tk:Option Pos}(h:eH s0 s bp mp gs ts gk tk)(g:Grew s s'):eH s0 s' bp mp gs ts gk tk where
 wf:=g.wf
 keeps:=h.keeps.trans g.keeps
 next:=Zb2 h.next g.next
 book:=g.get h.book
 AP:=let⟨es,cl,h1,h2⟩:=h.AP;⟨es,cl,g.get h1,h2⟩
 sI:=⟨h.sI.1,λb hb=>let⟨cs,h1,h2⟩:=h.sI.2 b hb;⟨cs,g.get h1,h2⟩⟩
 yL:=⟨h.yL.1,λb hb=>g.get (h.yL.2 b hb)⟩
 dg:=h.dg
 dt:=h.dt
 dgt:=h.dgt
 fb:=h.fb
 fm:=h.fm
 fg:=h.fg
 ft:=h.ft
 Up:=λes cl hm=>by obtain⟨es0,cl0,h1,h2⟩:=h.AP;have:=g.get h1;rw[hm]at this;cases this;exact h.Up _ _ h1
 Qd:=λes cl hm=>by obtain⟨es0,cl0,h1,h2⟩:=h.AP;have:=g.get h1;rw[hm]at this;cases this;exact h.Qd _ _ h1
 rows:=λb cs hb hs i u hu=>by
  obtain⟨cs0,h1,h2⟩:=h.sI.2 b hb;have:=g.get h1;rw[hs]at this;cases this;exact(h.rows b _ hb h1 i u hu).to λp cs _ a2 a3 hx=>⟨g.get hx,a2,a3⟩
theorem tT{s0:St}{jb:Pos}{y:AB}(hj:s0.heap.get jb=some y){q:Pos}(hq:s0.heap.get q=none):q≠jb:=λe=>by rw[e,hj]at hq;cases hq
theorem eH.at{s0 s s':St}{bp mp:Pos}{gs:List aN}{ts:List Ty}{gk tk:Option Pos}(h:eH s0 s bp mp gs ts gk tk){jb:Pos}{y:AB}(hj:s0.heap.get jb=some y)(hw:Wf s')(hk:∀q x,q≠jb->s.heap.get q=some x->s'.heap.get q=some x):
  eH { heap:= .e,next:=s'.next } s' bp mp gs ts gk tk where
 wf:=hw
 keeps:=λb x hb=>by rw[T.dS]at hb;cases hb
 next:=Za3 _
 book:=hk _ _ (tT hj h.fb) h.book
 AP:=let⟨es,cl,h1,h2⟩:=h.AP;⟨es,cl,hk _ _ (tT hj h.fm) h1,h2⟩
 sI:=⟨h.sI.1,λb hb=>let⟨cs,h1,h2⟩:=h.sI.2 b hb;⟨cs,hk _ _ (tT hj (h.fg b hb)) h1,h2⟩⟩
 yL:=⟨h.yL.1,λb hb=>hk _ _ (tT hj (h.ft b hb)) (h.yL.2 b hb)⟩
 dg:=h.dg
 dt:=h.dt
 dgt:=h.dgt
 fb:=T.dS _
 fm:=T.dS _
 fg:=λb _=>T.dS _
 ft:=λb _=>T.dS _
 Up:=λes cl hm=>by obtain⟨es0,cl0,h1,h2⟩:=h.AP;have:=hk _ _ (tT hj h.fm) h1;rw[hm]at this;cases this;exact h.Up _ _ h1
 Qd:=λes cl hm=>by obtain⟨es0,cl0,h1,h2⟩:=h.AP;have:=hk _ _ (tT hj h.fm) h1;rw[hm]at this;cases this;exact h.Qd _ _ h1
 rows:=λb cs hb hs i u hu=>by
  obtain⟨cs0,h1,h2⟩:=h.sI.2 b hb;have:=hk _ _ (tT hj (h.fg b hb)) h1;rw[hs]at this;cases this;obtain⟨k1,k2,v,k3,k4,k5,k6,k7⟩:=h.rows b _ hb h1 i u hu;exact⟨k1,k2,v,k3,k4,k5,k6.mono λb x hb hx=>hk b x (tT hj (k7 b hb).2.2.2) hx,λp hp=>⟨(k7 p hp).1,(k7 p hp).2.1,(k7 p hp).2.2.1,T.dS _⟩⟩
theorem eH.start{s:St}(hw:Wf s):eH s (ah (ah s (.map [] 0)) (.cells [.af,.af,.map s.next] 0)) (ah s (.map [] 0)).next s.next [] [] none none where
 wf:=bG (bG hw)
 keeps:=(bY hw).trans (bY (bG hw))
 next:=by simp only[bP,Pos.aF];omega
 book:=aA _ _
 AP:=⟨[],0,D5,rfl⟩
 sI:=⟨λ_=>rfl,λb h=>by cases h⟩
 yL:=⟨λ_=>rfl,λb h=>by cases h⟩
 dg:=λh=>by cases h
 dt:=λh=>by cases h
 dgt:=λb h=>by cases h
 fb:=by
  cases h:s.heap.get (ah s (.map [] 0)).next with
  |none=>rfl
  |some x=>have:=hw _ _ h;rw[bP,Pos.aF]at this;omega
 fm:=by
  cases h:s.heap.get s.next with
  |none=>rfl
  |some x=>have:=hw _ _ h;omega
 fg:=λb h=>by cases h
 ft:=λb h=>by cases h
 Up:=λes cl hm e he=>by have:(ah (ah s (.map [] 0)) (.cells [.af,.af,.map s.next] 0)).heap.get s.next=some (.map [] 0):=D5;rw[hm]at this;cases this;cases he
 Qd:=λes cl hm=>by have:(ah (ah s (.map [] 0)) (.cells [.af,.af,.map s.next] 0)).heap.get s.next=some (.map [] 0):=D5;rw[hm]at this;cases this;rfl
 rows:=λb cs h=>by cases h
theorem HO(s:List Nat):∀(gs:List aN)(es:List (AV×AV×Nat))(i:Nat),es.map (·.1)=gs.map (λg=>.str g.name)->
  (s∈gs.map aN.name/\∃j v,ic .s (.str s) es i=some (some (j,v)))\/(s∉gs.map aN.name/\ic .s (.str s) es i=some none)
 |[],es,i,h=>by
  have:es=[]:=by simpa using h
  subst this;exact .inr ⟨by simp,rfl⟩
 |g::gs,[],i,h=>by simp at h
 |g ::gs,(k,v,n)::es,i,h=>by
  simp only[Zd1,Zf9]at h;obtain⟨h1,h2⟩:=h;subst h1;by_cases e:s=g.name
  .subst e;exact .inl ⟨by simp,i,v,by simp[ic,yV,gY]⟩
  . rcases HO s gs es (i+1) h2 with⟨a,b⟩|⟨a,b⟩
    .   left;refine⟨by simp at a ⊢; exact .inr a,?_⟩;simpa [ic,yV,gY,e]using b
    .   right;refine⟨by simp at a ⊢; exact⟨e,a⟩,?_⟩;simpa [ic,yV,gY,e]using b
theorem Uq{gs:List aN}{s:List Nat}:0<=scan (mB gs s) gs.length 0↔s∈gs.map aN.name:=by
 constructor
 .intro h;obtain⟨_,h2,h3⟩:=zz _ _ h;simp only[mB,Ze1]at h3;rw[H0 (by omega)]at h3;simp only[Ze0,H5]at h3;rw[<-h3];exact Zc7.2 ⟨_,Zb9 _,rfl⟩
 . intro  h;obtain⟨g,hg,rfl⟩:=Zc7.1 h;obtain⟨i,hi,rfl⟩:=Zg0.1 hg;have key:∀(m k:Nat),k<=i->i<k+m->0<=scan (mB gs gs[i].name) m k:=by
    intro m;induction m with
    |zero=>intro k h1 h2;omega
    |   succ m ih=>
        intro k h1 h2;unfold scan;split
        .omega
        . rename_i cY;by_cases e:k=i
          .subst e;simp[mB,hi]at cY
          .exact ih (k+1) (by omega) (by omega)
   exact key _ _ (by omega) (by omega)
theorem Z4(hc:Sem c)(s:St)(bp mp:Pos)(x y:AV)(h:s.heap.get bp=some (.cells [x,y,.map mp] 0)):c 111 [.ptr bp 0] s=some (.bool false,s):=by
 rw[Wt hc 1 (r:=(.bool false,s)),aB (Plain.bool _) (aX.refl s)];rw[aaB];have e1:∀(K:AV->St->Option (AV×St))(s:St),aq c (.bin .eql .ptr) [.ptr bp 0,.jg] s K=K (.bool false) s:=λK s=>aV c K (λH n=>rfl) s
 have e2:∀(K:AV->St->Option (AV×St))(s:St),aq c (.bin .eql .map) [.map mp,.qX] s K=K (.bool false) s:=λK s=>aV c K (λH n=>rfl) s
 simp[e1,e2,h]
theorem amW(z:Bool)(l:List (List Nat)):(lS z l).cells=[lS z l]:=by unfold lS ro;split<;>rfl
theorem ar2(z:Bool)(l:List (List Nat)):(lS z l).one=true:=by unfold lS ro;split<;>rfl
theorem alv{s:List Nat}(h:oX s=true):∀x∈s,x<256:=λx hx=>by simp only[oX,Zb1,Zh3,Ze1]at h;have:=h.2 x hx;omega
theorem ae8{s:List Nat}(h:Aw s=true):∀x∈s,x<256:=λx hx=>by
 simp only[Aw,Zj8,Ze1]at h;rcases h with h|h
 .rw[h]at hx;cases hx
 .exact alv h x hx
theorem af8{g:aN}(h:jZ g=0):g.Low:=by
 unfold jZ at h;split at h
 .simp at h
 .rename_i hn;simp only[Bool.not_eq_false,Zb1]at hn;exact⟨alv hn.1.1.1,ae8 hn.1.1.2,ae8 hn.1.2,ae8 hn.2⟩
theorem alw{s:St}(hw:Wf s){k:Option Pos}{n es bytes:Nat}{q:Pos}{row:List AV}(hk:k=none->n=0)(eW:∀b,k=some b->∃cs,s.heap.get b=some (.cells cs 0)/\cs.length=n*es)(hq:s.heap.get q=some (.cells row 0))(hr:row.length=es)
  (h1:aQ row=true) (dN:es≠0) (hb:(2*(n+1)+768)*bytes<=281474976710656) (hn:n<=1000):
  ∃ s5 mZ,(∀(K:AV->St->Option (AV×St)),aq c (.append es bytes) [lC k n es,.slice q 0 1 (some 1) es] s K=K (.slice s.next 0 (n+1) none es) s5)/\s5.heap.get s.next=some (.cells mZ 0)/\mZ.length=(n+1)*es/\
    (∀b cs,k=some b->s.heap.get b=some (.cells cs 0)->mZ=cs++row)/\(k=none->mZ=row)/\s5.next=s.next.succ/\Wf s5/\∀p,k≠some p->p.toNat<s.next.toNat->s5.heap.get p=s.heap.get p:=by
 have hx:dF es 1 (λb=>s.heap.get b) (.slice q 0 1 (some 1) es)=some row:=by simp only[dF,cO,Zp6,Za1 dN,hq];exact cQ hr
 cases k with
 |none=>
  obtain rfl:=hk rfl;refine⟨ah s (.cells row 0),row,λK=>ah9 c K (m:=1) rfl (by omega) (by omega) (by omega) hx,aA _ _,by omega,λb cs h=>(by cases h),λ_=>rfl,rfl,bG hw,λp _ hp=>uq hp⟩
 |some b=>
  obtain⟨cs,h2,h3⟩:=eW b rfl;have ho:dF es n (λb=>s.heap.get b) (.slice b 0 n none es)=some cs:=by
    by_cases h0:n=0
    .   subst h0;have:cs=[]:=Zc2 (by omega);subst this;simp[dF,cO]
    .   have:¬n*es=0:=λe=>by rcases Nat.mul_eq_zero.1 e with e|e<;>omega
        simp only[dF,cO,Za1 this,h2];exact cQ h3
  refine⟨dst s b (.cells (cs++row) 0),cs++row,λK=>atF c K (m:=1) rfl (by omega) hb (by omega) h2 ho hx h1,ZP _ _ _,?_,λb' cs2 e h=> ?_,λh=>(by cases h),rfl,ah8 hw,λp hp hl=>To (λe=>hp (by rw[e])) hl⟩
  .rw[Zd6,h3,hr,Zj7,Zp6]
  .cases e;rw[h2]at h;cases h;rfl
def zJ(gs:List aN)(g:aN):Int:=if jZ g≠0 then jZ g else if 0<=scan (mB gs g.name) gs.length 0 then 5 else if gs.length=64 then 7 else 0
theorem avI (hc : Sem c){s0 s:St}{bp mp:Pos}{gs:List aN}{ts:List Ty}{gk tk:Option Pos}(Ir:Wf s0)(B:eH s0 s bp mp gs ts gk tk)(hl:gs.length<=64)(g:aN):
   ∃s',c 104 [.ptr bp 0,.agg g.cells] s=some (.int .i64 (zJ gs g),s')/\(zJ gs g≠0->s'=s)/\(zJ gs g=0->∃Vi,eH s0 s' bp mp (gs++[g]) ts Vi tk):=by
 have cZ:Wf (ah s (.cells g.cells 0)):=bG B.wf;have B1:=B.ai (Grew.ah B.wf (.cells g.cells 0));generalize hs1:ah s (.cells g.cells 0)=s1 at cZ B1;have hpg:s1.heap.get s.next=some (.cells g.cells 0):=by rw[<-hs1];exact aA _ _
 have od:=Z4 hc s1 bp mp _ _ B1.book;have hch:=ae5 hc g s1 cZ;have lG:∀(K:AV->St->Option (AV×St))(s:St),aq c (.lenB .l) [lC gk gs.length 9] s K=K (.int .i64 (gs.length:Int)) s:=λK s=>aV c K (Uo λh=>by rw[B.sI.1 h];rfl) s
 have lG2:∀(K:AV->Option (AV×St)),eX (.lenB .l) [lC gk gs.length 9] K=K (.int .i64 (gs.length:Int)):=λK=>dD K (Uo λh=>by rw[B.sI.1 h];rfl)
 obtain⟨es,cl,nF,hm2⟩:=B1.AP;have fail:∀e:Int,e≠0->zJ gs g=e->Ak c 1 (.ptr bp 0) (.agg g.cells) s=some (.int .i64 e,s1)->∃s',c 104 [.ptr bp 0,.agg g.cells] s=some (.int .i64 (zJ gs g),s')/\(zJ gs g≠0->s'=s)/\(zJ gs g=0->∃Vi,eH s0 s' bp mp (gs++[g]) ts Vi tk):=λe he ha h=>by
   refine⟨s,?_,λ_=>rfl,λh0=>absurd (ha.symm.trans h0) he⟩;rw[It hc 1 h,ha,aB (Plain.int _ _) (by rw[<-hs1];exact bY B.wf)]
 have eb:∀(K:AV->St->Option (AV×St)),aq c .box [.agg g.cells] s K=K (.ptr s.next 0) s1:=λK=>by rw[cS, <-hs1];rfl
 have h64:((gs.length:Int)=64)↔gs.length=64:=by omega
 by_cases h1:jZ g=0
 . rcases HO  g.name gs es 0 hm2 with⟨uS,j,v,hf⟩|⟨uS,hf⟩
   . have hsc:=Uq.2 uS;refine fail 5 (by omega) (by simp[zJ,h1,hsc]) ?_;rw[wJ];have lk:=λ(K:AV->Option (AV×St))=>afN K (.int .i64 0) (h:=s1.heap) (k:= .str g.name) nF hf
     simp[eb,od,hch,h1,hpg,B1.book,lk]
   . have hsc: ¬0<=scan (mB gs g.name) gs.length 0:=λh=>uS (Uq.1 h)
     have lk:=λ(K:AV->Option (AV×St))=>afN K (.int .i64 0) (h:=s1.heap) (k:= .str g.name) nF hf
     by_cases h2:gs.length=64
     .  have h2d:decide ((gs.length:Int)=64)=true:=Za0 (by omega);refine fail 7 (by omega) (by unfold zJ;rw[Za7 (by simp[h1]),Za7 hsc,Zb6 h2]) ?_;rw[wJ];simp[eb,od,hch,h1,hpg,B1.book,lk,lG,h2d]
     .  have htg:g.tg.length<=4:=by
          unfold jZ at h1;split at h1
          .simp at h1
          . split at h1
            .simp at h1
            . split at h1
              .simp at h1
              . split at h1
                .simp at h1
                .omega
        have he:zJ gs g=0:=(by unfold zJ;rw[Za7 (by simp[h1]),Za7 hsc,Za7 h2]);have h2d:decide ((gs.length:Int)=64)=false:=Za1 (by omega);have lt1:=B1.lt;have Ap:s.next.toNat<s1.next.toNat:=(by rw[<-hs1,bP,Pos.aF];omega);have nmb:mp≠bp:=λe=>by rw[e,B1.book]at nF;cases nF
        have nmp:mp≠s.next:=λe=>by rw[e,hpg]at nF;cases nF
        let U4:=es++[(AV.str g.name,AV.int .i64 (gs.length:Int),cl)]
        let s2:=bh s1 mp (.map U4 (cl+1))
        have tH:Wf s2:=iU cZ lt1.2;have b2:s2.heap.get bp=some (.cells [lC gk gs.length 9,lC tk ts.length 3,.map mp] 0):=(by show(bh _ _ _).heap.get bp=_;rw[aJ nmb];exact B1.book);have p2:s2.heap.get s.next=some (.cells g.cells 0):=(by show(bh _ _ _).heap.get _=_;rw[aJ nmp];exact hpg);have m2:s2.heap.get mp=some (.map U4 (cl+1)):=bH _ _ _;obtain⟨v,s3,q1,M⟩:=af7 hc g (af8 h1) (by omega) s2 tH (ar0 g.tz g.tg) (amW _ _) (ar2 _ _);rw[aN.aph]at q1
        let row:=g.ay v
        have q2:=M.ai;have q3:row.length=9:=rfl;have vone:v.one=true:=zo M.cells.2;have q4:aQ row=true:=g.MG M.cells.2;have hw4:Wf (ah s3 (.cells row 0)):=bG q2.wf;have gr4:=q2.trans (Grew.ah q2.wf (.cells row 0));have gW:∀p x,s2.heap.get p=some x->p.toNat<(ah s3 (.cells row 0)).next.toNat:=λp x h=>hw4 p x (gr4.get h)
        have eW:∀b,gk=some b->∃cs,(ah s3 (.cells row 0)).heap.get b=some (.cells cs 0)/\cs.length=gs.length*9:=λb hb=>by
          obtain⟨cs,h3,h4⟩:=B1.sI.2 b hb;have:mp≠b:=λe=>by rw[e,h3]at nF;cases nF
          exact⟨cs,gr4.get (by show(bh _ _ _).heap.get b=_;rw[aJ this];exact h3),h4⟩
        obtain⟨s5,mZ,r1,r2,r3,ra,rb,r4,r5,r6⟩:=alw (c:=c) (es:=9) (bytes:=112) hw4 (k:=gk) (n:=gs.length) (λh=>by rw[B.sI.1 h];rfl) eW (aA _ _) q3 q4 (by omega) (by omega) (by omega);have hs4:(ah s3 (.cells row 0)).next=s3.next.succ:=rfl;have keep:∀p x,s2.heap.get p=some x->gk≠some p->s5.heap.get p=some x:=λp x h cY=>by rw[r6 p cY (gW p x h)];exact gr4.get h
        have b5:=keep bp _ b2 B.dg
        let gv:=AV.slice (ah s3 (.cells row 0)).next 0 (gs.length+1) none 9
        let s6:=bh s5 bp (.cells [gv,lC tk ts.length 3,.map mp] 0)
        have aiN:bp.toNat<s5.next.toNat:=r5 _ _ b5;have nb4:bp≠(ah s3 (.cells row 0)).next:=λe=>by have:=gW _ _ b2;rw[e]at this;omega
        have st6:∀(K:AV->St->Option (AV×St)),aq c (.store 1) [.ptr bp 0,gv] s5 K=K .undef s6:=λK=>cm c K s5 1 bp 0 gv _ b5 rfl (by simp) rfl
        have g6:∀p,p≠bp->s6.heap.get p=s5.heap.get p:=λp h=>aJ (λe=>h e.symm)
        have amX:∀p:Pos,s0.next.toNat<=p.toNat->s0.heap.get p=none:=λp h=>by
          cases hx:s0.heap.get p with
          |none=>rfl
          |some x=>have:=Ir _ _ hx;omega
        have nx:s0.next.toNat<=(ah s3 (.cells row 0)).next.toNat:=Zb2 B1.next (Zb2 (by show s1.next.toNat<=s2.next.toNat;exact Za3 _) gr4.next)
        have aja:eH s0 s6 bp mp (gs++[g]) ts (some (ah s3 (.cells row 0)).next) tk:={
          wf:=iU r5 aiN
          keeps:=λp x hp=>by
            have n1:p≠bp:=λe=>by rw[e,B.fb]at hp;cases hp
            have n2:mp≠p:=λe=>by rw[<-e,B.fm]at hp;cases hp
            have n3:gk≠some p:=λe=>by rw[B.fg p e]at hp;cases hp
            rw[g6 p n1];exact keep p x (by show(bh _ _ _).heap.get p=_;rw[aJ n2];exact B1.keeps p x hp) n3
          next:=by show s0.next.toNat<=s5.next.toNat;rw[r4,Pos.aF];omega
          book:=by show(bh _ _ _).heap.get bp=_;rw[bH];simp[gv,lC]
          AP:=⟨U4,cl+1,by
            rw[g6 mp nmb];exact keep mp _ m2 (λe=>by obtain⟨cs,h3,_⟩:=B1.sI.2 mp e;rw[h3]at nF;cases nF),by simp[U4,hm2]⟩
          sI:=⟨λh=>(by cases h),λb hb=>by cases hb;refine⟨mZ,?_,by rw[r3];simp⟩;rw[g6 _ (λe=>nb4 e.symm)];exact r2⟩
          yL:=⟨B.yL.1,λb hb=>by
            have h3:=B1.yL.2 b hb;have n1:b≠bp:=λe=>B.dt (by rw[<-e];exact hb)
            have n2:mp≠b:=λe=>by rw[e,h3]at nF;cases nF
            have n3:gk≠some b:=λe=>B.dgt b e hb
            rw[g6 b n1];exact keep b _ (by show(bh _ _ _).heap.get b=_;rw[aJ n2];exact h3) n3⟩
          dg:=λe=>nb4 (by injection e with e;exact e.symm)
          dt:=B.dt
          dgt:=λb hb ht=>by
            (cases hb;have h3:=B1.yL.2 _ ht;have n2:mp≠(ah s3 (.cells row 0)).next:=λe=>by rw[e,h3]at nF;cases nF);have:=gW _ _ (show s2.heap.get (ah s3 (.cells row 0)).next=_ from(aJ n2).trans h3);omega
          fb:=B.fb
          fm:=B.fm
          fg:=λb hb=>by cases hb;exact amX _ nx
          ft:=B.ft
          Up:=λes' cl' hm e he=>by
            have m6:s6.heap.get mp=some (.map U4 (cl+1)):=by
              rw[g6 mp nmb];exact keep mp _ m2 (λe=>by obtain⟨cs,h3,_⟩:=B1.sI.2 mp e;rw[h3]at nF;cases nF)
            rw[hm]at m6;cases m6;rcases Zd7.1 he with he|he
            .obtain⟨i,e1,e2⟩:=B1.Up _ _ nF e he;exact⟨i,e1,by simp;omega⟩
            .simp only[Za8,Zc0,Ze9]at he;subst he;exact⟨gs.length,rfl,by simp⟩
          Qd:=λes' cl' hm=>by
            have m6:s6.heap.get mp=some (.map U4 (cl+1)):=by
              rw[g6 mp nmb];exact keep mp _ m2 (λe=>by obtain⟨cs,h3,_⟩:=B1.sI.2 mp e;rw[h3]at nF;cases nF)
            rw[hm]at m6;cases m6;have h:=B1.Qd _ _ nF;rw[Zc8,h,Zd6,Zo6,Zg4,Zc8];rfl
          rows:=  λb cs hb hs i u hu=>by
            cases hb;have r2':s6.heap.get (ah s3 (.cells row 0)).next=some (.cells mZ 0):=(by rw[g6 _ (λe=>nb4 e.symm)];exact r2);rw[hs]at r2';cases r2';by_cases hi:i<gs.length
            . rw[Zc5 hi]at hu;cases hgk:gk with
              |none=>rw[B.sI.1 hgk]at hi;simp at hi
              | some b0=>
                obtain⟨cs0,h3,h4⟩:=B1.sI.2 b0 hgk;have n0:mp≠b0:=λe=>by rw[e,h3]at nF;cases nF
                have e0:=ra b0 cs0 hgk (gr4.get (by show(bh _ _ _).heap.get b0=_;rw[aJ n0];exact h3));have R0:=B1.rows b0 cs0 hgk h3 i u hu;rw[e0,Zg8 (by omega),Zk7 (by simp;omega)];(refine R0.to λp cs a1 a2 a3 hx=> ?_);have n1:mp≠p:=λe=>by rw[e,hx]at nF;cases nF
                have x2:s2.heap.get p=some (.cells cs 0):=(by show(bh _ _ _).heap.get p=_;rw[aJ n1];exact hx);have aW:=gW p _ x2;refine⟨by rw[g6 p a1];exact keep p _ x2 a2,λe=> ?_,a3⟩;cases e;omega
            . have sy:i=gs.length:=(by have:=(Za2.1 hu).1;simp at this;omega);subst sy;simp at hu;subst hu;have er:(mZ.drop (gs.length*9)).take 9=row:=by
                cases hgk:gk with
                | none=>
                  rw[rb hgk,B.sI.1 hgk];exact Zf1 (by simp[q3])
                | some b0=>
                  obtain⟨cs0,h3,h4⟩:=B1.sI.2 b0 hgk;have n0:mp≠b0:=λe=>by rw[e,h3]at nF;cases nF
                  rw[ra b0 cs0 hgk (gr4.get (by show(bh _ _ _).heap.get b0=_;rw[aJ n0];exact h3)), <-h4];rw[Zg8 (Za3 _)];simp[Zf1 (Zr8 q3)]
              (rw[er];have On:∀p x,s2.heap.get p=some x->p.toNat<s2.next.toNat:=λp x h=>tH p x h);refine⟨af8 h1,htg,v,rfl,M.cells.1,vone,M.own.mono λb x hb hx=> ?_,λp hp=> ?_⟩
              . have kj:=M.new b hb;have uE:=M.own.lt M.ai.wf hb;have nb:b≠bp:=λe=>by have:=On _ _ b2;rw[e]at kj;omega
                have ng:gk≠some b:=λe=>by
                  obtain⟨cs0,h3,_⟩:=B1.sI.2 b e;have n0:mp≠b:=λe=>by rw[e,h3]at nF;cases nF
                  have:=On b _ (by show(bh _ _ _).heap.get b=_;rw[aJ n0];exact h3);omega
                rw[g6 b nb,r6 b ng (by rw[hs4,Pos.aF];omega)];exact(Grew.ah q2.wf (.cells row 0)).get hx
              . have kj:=M.new p hp;have uE:=M.own.lt M.ai.wf hp;refine⟨λe=>by have:=On _ _ b2;rw[e]at kj;omega,λe=> ?_,λe=> ?_,amX p (by have h9:=B1.next;rw[show s2.next=s1.next from dM _ _ _]at kj;omega)⟩
                .cases e;rw[hs4,Pos.aF]at uE;omega
                . have h3:=B1.yL.2 p e;have n2:mp≠p:=λe=>by rw[e,h3]at nF;cases nF
                  have:=On p _ (by show(bh _ _ _).heap.get p=_;rw[aJ n2];exact h3);omega }
        refine⟨s6,?_,λh=>absurd he h,λ_=>⟨_,aja⟩⟩;rw[he];rw[It hc 1 (r:=(.int .i64 0,s6))]
        . rw[aez (b:=bp) B.book];rw[aja.book];intro e;have e:=congrArg (λo=>match o with|some (AB.cells (v::_) _)=>dV v|_=>none) e;simp only[lC,dV]at e;cases gk with
          |none=>simp[dV,B.sI.1 rfl]at e
          |some b=>simp[dV]at e
        (rw[wJ];have stm:=λ(K:AV->St->Option (AV×St))=>akd c K (v:= .int .i64 (gs.length:Int)) nF hf);have bq:eZ (lC gk gs.length 9) (lC gk gs.length 9)=true:=(by cases gk;exact Tq;exact OC _ _ _ _);have b3:s3.heap.get bp=some (.cells [lC gk gs.length 9,lC tk ts.length 3,.map mp] 0):=q2.get b2;have MU:=λ(K:AV->Option (AV×St))=>lQ K (p:=bp) (o:=0) (h:=s3.heap) (h2:=s2.heap) (v:=lC gk gs.length 9) (by rw[b3];rfl) (by rw[b2];rfl) bq
        have DN:cK (bW [AV.str [],AV.str [],AV.str [],.int .i64 0,.int .i64 0,.str [],.bool false,.bool false,.af] 1) [(0,9)] [AV.agg (g.ay v)]=some row:=by
          have:(g.ay v).length=9:=q3;show _=some (g.ay v);simp[cK,bW,cO,cU,this,aU]
        simp[eb,od,hch,h1,hpg,B1.book,lk,lG,lG2,h2d,stm];show Jz ((cellsOf (T.get s.next s2.heap)).bind λcs=>cut cs 0 9) _=_;rw[p2];simp only[aD,Za9,aN.cc,fu];show abQ (c 155 [AV.agg g.cells] s2) _=_;rw[q1];simp only[bM];show jI (.load none) [.ptr bp 0] s3.heap (λv=>pL (.load none) [.ptr bp 0] v (nZ [] s2.heap)) _=_;rw[MU];simp only[DN,fu,r1];exact st6 _
 .refine fail (jZ g) h1 (by simp[zJ,h1]) ?_;rw[wJ];simp[eb,od,hch,h1,hpg]
theorem LC{r s t:Ty}(h:fQ r s=true)(k:fQ s t=true):fQ r t=true:=by
 simp only[fQ,Zj8,Zb1,Ze1]at h k ⊢;rcases h with h|⟨h1,h2⟩<;>rcases k with k|⟨k1,k2⟩
 .exact .inl (Um _ _ _ h k)
 .exact .inl (by rw[<-k1];exact h)
 .exact .inl (by rw[h1];exact k)
 .exact .inr ⟨h1.trans k1,Um _ _ _ h2 k2⟩
theorem amY{s t:Ty}(h:fQ s t=false)(k:fQ t s=false):s.a=t.a/\s.b=t.b:=by simp only[fQ,Bool.or_eq_false_iff]at h k;have e:=LA _ _ h.1 k.1;refine⟨e,?_⟩;have h2:=h.2;have k2:=k.2;simp only[e,Zg6,Zg9]at h2 k2;exact LA _ _ h2 k2
theorem aus{r s t:Ty}(h:fQ r s=true)(k:fQ t s=false):fQ r t=true:=by
 cases h2:fQ s t
 .obtain⟨e1,e2⟩:=amY h2 k;unfold fQ at h ⊢; rw[<-e1, <-e2];exact h
 .exact LC h h2
theorem ZR{x:Int}(h1:0<=x)(h2:x<=18446744073709551615):ax .u64 x=x:=by
 unfold ax loI hiI;simp only;split
 . split
   .rfl
   .contradiction
 .contradiction
theorem ajb(K:AV->St->Option (AV×St))(st:St)(a:Nat):aq c (.bin .shr .num) [.int .u64 (a:Int),.int .u64 1] st K=K (.int .u64 ((a / 2:Nat):Int)) st:=by
 refine aV c K (λH n=> ?_) st;have:(a:Int).fdiv 2=((a / 2:Nat):Int):=by rw[Zm7 _ (by omega)];rfl
 simp only[aG.run,jH,pV,fo];show some (eO.val (AV.int .u64 ((a:Int).fdiv 2)))=_;rw[this]
theorem ajc(H:Pos->Option AB)(n:Pos)(es:Nat)(b:Pos)(len:Nat)(k:IntKind)(i:Nat)(h:i<len):aG.run H n (.idxA es none) [.slice b 0 len none es,.int k (i:Int)]=some (.val (.ptr b (i*es))):=by
 simp[aG.run,td,jJ,Lt,h]
theorem zn(ts:List Ty)(i:Nat)(h:i<ts.length):cut (ts.flatMap Ty.cells) (i*3) 3=some ts[i].cells:=by
 induction ts generalizing i with
 |nil=>simp at h
 |cons t ts ih=>
  cases i with
  |zero=>rw[Zm3];unfold cut;rw[cU,Za0 (by simp[Ty.len])];simp[Ty.cells]
  |succ i=>
   have h':i<ts.length:=(by simpa using h);have:=ih i h';unfold cut at this ⊢;rw[cU]at this ⊢;(split at this<;>first|(cases this;done)|skip);rename_i hle;simp only[Ze1]at hle;rw[Za0 (by rw[Zm3,Zd6,Ty.len];omega)];simp only[H5]at this ⊢;rw[Zm3,show(i+1)*3=i*3+1+1+1 by omega,Zo3, <-this];rfl
theorem aut(hc:Sem c)(ts:List Ty)(hl:ts.length<=1000)(t:Ty)(q:Nat)(hq:q<=ts.length)(On:∀h (hh:h<ts.length),h<q->fQ ts[h] t=true)(hhi:∀h (hh:h<ts.length),q<=h->fQ ts[h] t=false)
  (b:Pos) (x4:Pos) (s:St) (hw:Wf s) (hb:s.heap.get b=some (.cells (ts.flatMap Ty.cells) 0)) (hx:s.heap.get x4=some (.cells t.cells 0)) (F:Nat) (k2):∀(m i j:Nat),j<=i+m->i<=q->q<=j->j<=ts.length->
  bn c F k2 (m+1) [.slice b 0 ts.length none 3,.func 105 [] [],.ptr x4 0,.int .i64 (ts.length:Int),.int .i64 (i:Int),.int .i64 (j:Int)] s=
    k2 [.slice b 0 ts.length none 3,.func 105 [] [],.ptr x4 0,.int .i64 (ts.length:Int),.int .i64 (q:Int)] s:=by
 intro m;induction m with
 |zero=>
  intro i j h1 h2 h3 h4;obtain rfl:i=q:=by omega
  obtain rfl:j=i:=by omega
  rw[eV];simp
 |succ m ih=>
  intro i j h1 h2 h3 h4;rw[eV];by_cases h:i<j
  . let d:=(i+j) / 2
    have hd1:i<=d:=(by omega);have hd2:d<j:=(by omega);have hd3:d<ts.length:=(by omega);have w1:ax .i64 ((i:Int)+(j:Int))=((i+j:Nat):Int):=(by rw[wrap64 (by omega) (by omega)];omega);have w2:ax .u64 ((i+j:Nat):Int)=((i+j:Nat):Int):=ZR (by omega) (by omega);have w3:ax .i64 (((i+j) / 2:Nat):Int)=((d:Nat):Int):=wrap64 (by omega) (by omega);have w4:ax .i64 ((d:Int)+1)=((d+1:Nat):Int):=wrap64 (by omega) (by omega);have ix:=λ(K:AV->Option (AV×St))=>dD K (λH n=>ajc H n 3 b ts.length .i64 d hd3)
    have ho:=MT hc ts[d] t s hw;have fg:=zn ts d hd3
    clear_value d
    by_cases hn:d<q
    .   have amZ:sS ts[d] t<0:=ae6.2 (On d hd3 hn);rw[<-ih (d+1) j (by omega) (by omega) h3 h4];simp only[aH,bg,av,cG,Int.ofNat_lt,h,Zg6,dH,fD,w1,Mw,w2,ajb,w3,cX,ix,xS,hb,fg,hx,aD,Za9,Ty.cc,fu,fP,Ze3,Zd9,Zd5,ho,bM,akV,amZ,w4]
    .   have amZ:¬sS ts[d] t<0:=λe=>by have:=ae6.1 e;rw[hhi d hd3 (by omega)]at this;cases this
        rw[<-ih i d (by omega) h2 (by omega) (by omega)];simp only[aH,bg,av,cG,Int.ofNat_lt,h,Zg6,dH,fD,w1,Mw,w2,ajb,w3,cX,ix,xS,hb,fg,hx,aD,Za9,Ty.cc,fu,fP,Ze3,Zd9,Zd5,ho,bM,akV,amZ,Zq1,cV]
  .obtain rfl:i=q:=(by omega);obtain rfl:j=i:=(by omega);simp
def Av(ts:List Ty)(t:Ty)(q:Nat):Bool:=match ts[q]? with
 |some u=>decide (sS u t=0)
 |none=>false
theorem ar3(x4:Pos)(s:St)(F:Nat)(k2)(m:Nat):bn c F k2 (m+1) [.af,.func 105 [] [],.ptr x4 0,.int .i64 0,.int .i64 0,.int .i64 0] s=
  k2 [.af,.func 105 [] [],.ptr x4 0,.int .i64 0,.int .i64 0] s:=by
 rw[eV];simp
def slvT(k:Option Pos)(n:Nat):AV:=match k with
 |none=>.af
 |some b=>.slice b (0+n*3) (n - n) none 3
theorem ate(hc:Sem c)(ts:List Ty)(hl:ts.length<=1000)(t:Ty)(q:Nat)(hq:q<=ts.length)(On:∀h (hh:h<ts.length),h<q->fQ ts[h] t=true)(hhi:∀h (hh:h<ts.length),q<=h->fQ ts[h] t=false)
  (tk:Option Pos) (s:St) (hw:Wf s) (h0:tk=none->ts=[]) (hb:∀b,tk=some b->s.heap.get b=some (.cells (ts.flatMap Ty.cells) 0)):
  c 161 [lC tk ts.length 3,.agg t.cells,.func 105 [] []] s=some (.tuple [.int .i64 (q:Int),.bool (Av ts t q)],s):=by
 have cZ:Wf (ah s (.cells t.cells 0)):=bG hw;have Ap:Plain (.tuple [.int .i64 (q:Int),.bool (Av ts t q)]):=Plain.tuple (by simp[Plain.int,Plain.bool]);rw[qh hc 1001 (r:=(.tuple [.int .i64 (q:Int),.bool (Av ts t q)],ah s (.cells t.cells 0))),aB Ap (bY hw)];rw[qW];cases tk with
 |none=>
  obtain rfl:=h0 rfl;obtain rfl:q=0:=by simpa using hq
  have l0:∀(K:AV->St->Option (AV×St))(s:St),aq c (.lenB .l) [.af] s K=K (.int .i64 0) s:=λK s=>aV c K (λH n=>rfl) s
  have L:∀k2,bn c 1001 k2 1001 [.af,.func 105 [] [],.ptr s.next 0,.int .i64 0,.int .i64 0,.int .i64 0] (ah s (.cells t.cells 0))=_:=λk2=>ar3 (c:=c) s.next _ 1001 k2 1000
  simp only[lC,cS,av,l0,Yr,L,aH,bg,Zi2];simp[Av,l0,L]
 |some b=>
  have kj:(ah s (.cells t.cells 0)).heap.get b=some (.cells (ts.flatMap Ty.cells) 0):=bY hw _ _ (hb b rfl);have l0:∀(K:AV->St->Option (AV×St))(s:St),aq c (.lenB .l) [.slice b 0 ts.length none 3] s K=K (.int .i64 (ts.length:Int)) s:=λK s=>aV c K (λH n=>rfl) s
  have L:∀k2,bn c 1001 k2 1001 [.slice b 0 ts.length none 3,.func 105 [] [],.ptr s.next 0,.int .i64 (ts.length:Int),.int .i64 0,.int .i64 (ts.length:Int)] (ah s (.cells t.cells 0))=
    k2 [.slice b 0 ts.length none 3,.func 105 [] [],.ptr s.next 0,.int .i64 (ts.length:Int),.int .i64 (q:Int)] (ah s (.cells t.cells 0)):=
    λk2=>aut hc ts hl t q hq On hhi b s.next _ cZ kj (aA _ _) 1001 k2 1000 0 ts.length (by omega) (by omega) (by omega) (by omega)
  simp only[lC,cS,av,l0,Yr,L,aH,bg];by_cases h:q<ts.length
  . have ix:=λ(K:AV->Option (AV×St))=>dD K (λH n=>ajc H n 3 b ts.length .i64 q h)
    have ho:=MT hc ts[q] t _ cZ;have fg:=zn ts q h;have ef:Av ts t q=decide (sS ts[q] t=0):=(by unfold Av;rw[H0 h]);simp[h,ix,kj,fg,ho,ef,AV.cells]
  .have ef:Av ts t q=false:=(by unfold Av;rw[Zc3 (by omega)]);simp[h,ef,AV.cells]
def RE(ts:List Ty)(t:Ty):Nat:=match ts.getLast? with
 |none=>0
 |some u=>if fQ u t=true then ts.length else ts.length - 1
def F7(ts:List Ty):Prop:=∀i j (hj:j<ts.length)(XJ:i<j),fQ (ts[i]'(by omega)) ts[j]=true
theorem avJ{ts:List Ty}{t:Ty}(hs:F7 ts)(ht:∀u,ts.getLast? =some u->fQ t u=false):RE ts t<=ts.length/\(∀h (hh:h<ts.length),h<RE ts t->fQ ts[h] t=true)/\(∀h (hh:h<ts.length),RE ts t<=h->fQ ts[h] t=false)/\
  Av ts t (RE ts t)=wH t ts.getLast? :=by
 unfold RE;cases hl:ts.getLast? with
 |none=>
  have:ts=[]:=by simpa using hl
  subst this;simp[Av,wH]
 |some u=>
  have cY:ts≠[]:=λe=>by subst e;simp at hl
  have Xf:0<ts.length:=Zq0.2 cY;have hu:ts[ts.length - 1]'(by omega)=u:=by have:=List.getLast?_eq_getElem? (l:=ts);rw[hl,H0 (by omega)]at this;exact(Zi8 this).symm
  have htu:=ht u hl;simp only;cases hb:fQ u t
  . simp only[Zf0,Zg7];refine⟨by omega,λh hh aW=> ?_,λh hh hle=> ?_,?_⟩
    .   have:=hs h (ts.length - 1) (by omega) aW;rw[hu]at this;exact aus this htu
    .   obtain rfl:h=ts.length - 1:=(by omega);rw[hu];exact hb
    .   (unfold Av;rw[H0 (by omega),hu];have h1:¬sS u t<0:=λe=>by rw[ae6.1 e]at hb;cases hb);have h2:¬0<sS u t:=λe=>by rw[Z3.1 e]at htu;cases htu
        have:sS u t=0:=(by omega);simp[this,wH,hb]
  . simp only[Zh1];refine⟨by omega,λh hh _=> ?_,λh hh hle=>by omega,?_⟩
    .   by_cases e:h=ts.length - 1
        .subst e;rw[hu];exact hb
        .have:=hs h (ts.length - 1) (by omega) (by omega);rw[hu]at this;exact LC this hb
    .   unfold Av;rw[Zc3 (by omega)];simp[wH,hb]
theorem Ce(hc:Sem c){s0 s:St}{bp mp:Pos}{gs:List aN}{ts:List Ty}{gk tk:Option Pos}(B:eH s0 s bp mp gs ts gk tk)(hl:ts.length<=1000)(t:Ty)(aW:aO t.a t.b=true)(hs:F7 ts)(ht:∀u,ts.getLast? =some u->fQ t u=false):
  c 112 [.ptr bp 0,.str t.a,.str t.b] s=some (.tuple [.int .i64 (RE ts t:Int),.bool (wH t ts.getLast?)],s):=by
 obtain⟨p1,p2,p3,p4⟩:=avJ hs ht;rw[<-p4];have e0:∀u:Ty,fQ u ⟨t.a,t.b,0⟩=fQ u t:=λu=>rfl
 have e1:Av ts ⟨t.a,t.b,0⟩ (RE ts t)=Av ts t (RE ts t):=rfl;have hpr:=alu hc t.a t.b 0 aW s B.wf;have HS:=ate hc ts hl ⟨t.a,t.b,0⟩ (RE ts t) p1 (λh hh hq=>by rw[e0];exact p2 h hh hq) (λh hh hq=>by rw[e0];exact p3 h hh hq) tk s B.wf B.yL.1 B.yL.2;rw[e1]at HS;rw[Eu hc 1 (r:=(.tuple [.int .i64 (RE ts t:Int),.bool (Av ts t (RE ts t))],s)),aB (Plain.tuple (by simp[Plain.int,Plain.bool])) (aX.refl s)];rw[Iu];have bq:eZ (lC tk ts.length 3) (lC tk ts.length 3)=true:=by cases tk;exact Tq;exact OC _ _ _ _
 have MU:=λ(K:AV->Option (AV×St))=>lQ K (p:=bp) (o:=1) (h:=s.heap) (h2:=s.heap) (v:=lC tk ts.length 3) (by rw[B.book];rfl) (by rw[B.book];rfl) bq
 simp[hpr,MU,HS]
theorem yD(b:Pos)(off n es:Nat):¬Plain (.slice b off n none es):=λh=>by have:=h (λ_=>⟨0,0,off+n*es⟩) (λ_=>⟨0,0,0⟩) (b.toNat+1) 0 (λ_=>none) _ (.slice b off n none es n ⟨0,0+off,none⟩ (Za3 _) (λc h=>by cases h) (λ_=>⟨by omega,rfl,by simp⟩) (λ_=>by omega));have:=this.Xa rfl;omega
theorem apj(hc:Sem c){s:St}(hw:Wf s){tk:Option Pos}{ts:List Ty}{q:Pos}{row:List AV}(h0:tk=none->ts=[])(hb:∀b,tk=some b->s.heap.get b=some (.cells (ts.flatMap Ty.cells) 0))(hq:s.heap.get q=some (.cells row 0))(hr:row.length=3)
   (h1:aQ row=true) (hl:ts.length<=1000):
   ∃ s5,c 157 [lC tk ts.length 3,.int .i64 (ts.length:Int),.slice q 0 1 (some 1) 3] s=some (.slice s.next 0 (ts.length+1) none 3,s5)/\s5.heap.get s.next=some (.cells (ts.flatMap Ty.cells++row) 0)/\
     s5.next=s.next.succ/\Wf s5/\∀p,tk≠some p->p.toNat<s.next.toNat->s5.heap.get p=s.heap.get p:=by
 have hlen:∀ts:List Ty,(ts.flatMap Ty.cells).length=ts.length*3:=λts=>by
   induction ts with
   |nil=>rfl
   |cons t ts ih=>rw[Zm3,Zd6,ih,Ty.len,Zc6];omega
 obtain⟨s5,mZ,r1,r2,r3,r4,r5,r6,r7,r8⟩:=alw (c:=c) (es:=3) (bytes:=40) hw (k:=tk) (n:=ts.length) (λh=>by rw[h0 h];rfl) (λb uE=>⟨_,hb b uE,hlen ts⟩) hq hr h1 (by omega) (by omega) (by omega);refine⟨s5,?_,?_,r6,r7,r8⟩
 . rw[Br hc 1 (r:=(.slice s.next 0 (ts.length+1) none 3,s5))]
   .unfold tidy;rw[Za7];exact λh=>yD _ _ _ _ h.1
   rw[DB];have sl:∀(K:AV->St->Option (AV×St))(s:St),aq c (.sliceL 3 true false false) [lC tk ts.length 3,.int .i64 (ts.length:Int)] s K=K (slvT tk ts.length) s:=λK s=>by
     refine aV c K (λH n=> ?_) s;cases tk with
     |none=>rw[h0 rfl];rfl
     |some b=>simp[lC,slvT,aG.run,iZ,bounds,jJ,cO,cU]
   have l1:∀(K:AV->St->Option (AV×St))(s:St),aq c (.lenB .l) [.slice q 0 1 (some 1) 3] s K=K (.int .i64 1) s:=λK s=>aV c K (λH n=>rfl) s
   have l2:∀(K:AV->St->Option (AV×St))(s:St),aq c (.lenB .l) [lC tk ts.length 3] s K=K (.int .i64 (ts.length:Int)) s:=λK s=>aV c K (Uo λh=>by rw[h0 h];rfl) s
   simp[sl,l1,l2,r1]
 . cases tk with
   |none=>rw[r2,r5 rfl,h0 rfl];rfl
   |some b=>rw[r2,r4 b _ rfl (hb b rfl)]
def zK(gs:List aN)(ts:List Ty)(t:Ty):Int:=if knd t=false then 23 else if se gs t=true then 6 else if wH t ts.getLast? =true then 5 else 0
theorem ajd(H:Pos->Option AB)(n:Pos)(es:Nat)(b:Pos)(len:Nat)(cp:Option Nat)(k:IntKind)(i:Nat)(h:i<len):aG.run H n (.idxA es none) [.slice b 0 len cp es,.int k (i:Int)]=some (.val (.ptr b (i*es))):=by
 simp[aG.run,td,jJ,Lt,h]
theorem alx{gs:List aN}{es:List (AV×AV×Nat)}(h:es.map (·.1)=gs.map λg=>.str g.name)(s:List Nat):
   (¬scan (mB gs s) gs.length 0<0/\∃j v,ic .s (.str s) es 0=some (some (j,v)))\/(scan (mB gs s) gs.length 0<0/\ic .s (.str s) es 0=some none):=by
 rcases HO s gs es 0 h with⟨a,b⟩|⟨a,b⟩
 .left;have:=Uq.2 a;exact⟨by omega,b⟩
 . (right;refine⟨?_,b⟩;have:¬0<=scan (mB gs s) gs.length 0:=λe=>a (Uq.1 e));omega
theorem ar4{s:St}{bp mp:Pos}{x y:AV}{es:List (AV×AV×Nat)}{cl:Nat}{gs:List aN}(hb:s.heap.get bp=some (.cells [x,y,.map mp] 0))(hm:s.heap.get mp=some (.map es cl))(he:es.map (·.1)=gs.map λg=>.str g.name)
   (t:Ty) (lb:Pos) (hlb:s.heap.get lb=some (.cells [.str t.a,.str t.b] 0)) (F:Nat) (k1 k2):
   nP c F k1 k2 3 [.ptr bp 0,.str t.a,.str t.b,.int .u8 t.k,.slice lb 0 2 (some 2) 1,.int .i64 2,.int .i64 ((0:Nat):Int)] s=if se gs t=true then k1 [.int .i64 6] s else k2 [.ptr bp 0,.str t.a,.str t.b,.int .u8 t.k] s:=by
 have w0:ax .i64 (((0:Nat):Int)+1)=((1:Nat):Int):=rfl;have w1:ax .i64 (((1:Nat):Int)+1)=((2:Nat):Int):=rfl;have i0:∀(K:AV->St->Option (AV×St))(s:St),aq c (.idxA 1 none) [.slice lb 0 2 (some 2) 1,.int .i64 ((0:Nat):Int)] s K=K (.ptr lb 0) s:=λK s=>aV c K (λH n=>ajd H n 1 lb 2 (some 2) .i64 0 (by omega)) s
 have i1:∀(K:AV->St->Option (AV×St))(s:St),aq c (.idxA 1 none) [.slice lb 0 2 (some 2) 1,.int .i64 ((1:Nat):Int)] s K=K (.ptr lb 1) s:=λK s=>aV c K (λH n=>ajd H n 1 lb 2 (some 2) .i64 1 (by omega)) s
 have d0:decide (((0:Nat):Int)<2)=true:=rfl;have d1:decide (((1:Nat):Int)<2)=true:=rfl;have d2:decide (((2:Nat):Int)<2)=false:=rfl;have e0:([AV.str t.a,.str t.b]:List AV)[0]? =some (.str t.a):=rfl;have e1:([AV.str t.a,.str t.b]:List AV)[1]? =some (.str t.b):=rfl;have e2:([x,y,AV.map mp]:List AV)[2]? =some (.map mp):=rfl;rw[yd];rcases alx he t.a with⟨n1,j,v,f1⟩|⟨n1,f1⟩
 . have lk1:=λ(K:AV->St->Option (AV×St))=>CS c K (.int .i64 0) (k:= .str t.a) hm f1
   simp only[aH,bg,cG,d0,dH,i0,aT,hlb,hb,aD,Za9,e0,e2,aR,av,cw,aS,Zb8,lk1,fS,Za5,Zb4,pP,Zh0,cV,fD,w0];rw[yd];rcases alx he t.b with⟨n2,j,v,f2⟩|⟨n2,f2⟩
   . have lk2:=λ(K:AV->St->Option (AV×St))=>CS c K (.int .i64 0) (k:= .str t.b) hm f2
     simp only[aH,bg,cG,d1,dH,i1,aT,hlb,hb,aD,Za9,e1,e2,aR,av,cw,aS,Zb8,lk2,fS,Za5,Zb4,pP,Zh0,cV,fD,w1];rw[yd];have:se gs t=false:=(by simp[se,n1,n2]);rw[this];simp only[aH,bg,cG,d2,cV,Zf0,Zg7]
   . have lk2:=λ(K:AV->St->Option (AV×St))=>CS c K (.int .i64 0) (k:= .str t.b) hm f2
     have:se gs t=true:=(by simp[se,n2]);rw[this];simp only[aH,bg,cG,d1,dH,i1,aT,hlb,hb,aD,Za9,e1,e2,aR,av,cw,aS,Zb8,lk2,fS,Za5,Zb4,pP,Zk6,Zh1]
 . have lk1:=λ(K:AV->St->Option (AV×St))=>CS c K (.int .i64 0) (k:= .str t.a) hm f1
   have:se gs t=true:=(by simp[se,n1]);rw[this];simp only[aH,bg,cG,d0,dH,i0,aT,hlb,hb,aD,Za9,e0,e2,aR,av,cw,aS,Zb8,lk1,fS,Za5,Zb4,pP,Zk6,Zh1]
theorem avK (hc:Sem c){s0 s:St}{bp mp:Pos}{gs:List aN}{ts:List Ty}{gk tk:Option Pos}(Ir:Wf s0)(B:eH s0 s bp mp gs ts gk tk)(hl:ts.length<=200)(t:Ty)(aW:aO t.a t.b=true)(hs:F7 ts)(ht:∀u,ts.getLast? =some u->fQ t u=false):
   ∃s',c 106 [.ptr bp 0,.str t.a,.str t.b,.int .u8 t.k] s=some (.int .i64 (zK gs ts t),s')/\(zK gs ts t≠0->s'=s)/\(zK gs ts t=0->∃u9,eH s0 s' bp mp gs (ts++[t]) gk u9):=by
 have cY:¬t.a=t.b:=λe=>by rw[e,Hj]at aW;cases aW
 have od:=Z4 hc s bp mp _ _ B.book;have hkt:knd t=true->(t.k=1\/(¬t.k=1/\t.k=2)):=λq=>by
   simp only[knd,Zj8,Ze1]at q;by_cases e:t.k=1
   .exact .inl e
   .exact .inr ⟨e,q.resolve_left e⟩
 by_cases hk:knd t=true
 . have cZ  :Wf (ah s (.cells [.str t.a,.str t.b] 0)):=bG B.wf;have B1:=B.ai (Grew.ah B.wf (.cells [.str t.a,.str t.b] 0));have hg1:=Grew.ah B.wf (.cells [.str t.a,.str t.b] 0);have hlb:(ah s (.cells [.str t.a,.str t.b] 0)).heap.get s.next=some (.cells [.str t.a,.str t.b] 0):=aA _ _;generalize hs1:ah s (.cells [.str t.a,.str t.b] 0)=s1 at cZ B1 hg1 hlb;obtain⟨es,cl,nF,hm2⟩:=B1.AP;have L:∀k1 k2,nP c 3 k1 k2 3 [.ptr bp 0,.str t.a,.str t.b,.int .u8 t.k,.slice s.next 0 2 (some 2) 1,.int .i64 2,.int .i64 0] s1=if se gs t=true then k1 [.int .i64 6] s1 else k2 [.ptr bp 0,.str t.a,.str t.b,.int .u8 t.k] s1:=λk1 k2=>ar4 (c:=c) B1.book nF hm2 t s.next hlb 3 k1 k2
   have Ap:=Ce hc B1 (by omega) t aW hs ht;have l2:∀(K:AV->St->Option (AV×St))(s:St),aq c (.lenB .l) [.slice (ah s (.cells [] 0)).next 0 2 (some 2) 1] s K=K (.int .i64 2) s:=λK s=>aV c K (λH n=>rfl) s
   have lT:∀(K:AV->St->Option (AV×St))(s:St),aq c (.lenB .l) [lC tk ts.length 3] s K=K (.int .i64 (ts.length:Int)) s:=λK s=>aV c K (Uo λh=>by rw[B.yL.1 h];rfl) s
   have bsl:∀(K:AV->St->Option (AV×St)),aq c (.buildSlice 1 2 [(.str [])] [0,1]) [.str t.a,.str t.b] s K=K (.slice s.next 0 2 (some 2) 1) s1:=λK=>by rw[au, <-hs1];have:cK (bW [AV.str []] 2) ([0,1].map λi=>(i*1,1)) [.str t.a,.str t.b]=some [.str t.a,.str t.b]:=(by simp[cK,bW,cO,cU,aU,AV.cells]);rw[this];rfl
   have l3:∀(K:AV->St->Option (AV×St))(p:Pos)(s:St),aq c (.lenB .l) [.slice p 0 2 (some 2) 1] s K=K (.int .i64 2) s:=λK p s=>aV c K (λH n=>rfl) s
   have ar5:¬(ts.length:Int)=256:=(by omega);have fail:∀e:Int,e≠0->zK gs ts t=e->Al c 3 (.ptr bp 0) (.str t.a) (.str t.b) (.int .u8 t.k) s=some (.int .i64 e,s1)->∃s',c 106 [.ptr bp 0,.str t.a,.str t.b,.int .u8 t.k] s=some (.int .i64 (zK gs ts t),s')/\(zK gs ts t≠0->s'=s)/\(zK gs ts t=0->∃u9,eH s0 s' bp mp gs (ts++[t]) gk u9):=λe he ha h=>by
     refine⟨s,?_,λ_=>rfl,λh0=>absurd (ha.symm.trans h0) he⟩;rw[zL hc 3 h,ha,aB (Plain.int _ _) hg1.keeps]
   cases hu:se gs t
   . cases  hd:wH t ts.getLast?
     .  have he:zK gs ts t=0:=(by simp[zK,hk,hu,hd]);rw[hd]at Ap;have hplc:(RE ts t:Int)=ts.length:=by
          unfold RE;cases hq:ts.getLast? with
          |none=> have:ts=[]:=by simpa using hq
                  subst this;rfl
          | some u=>
            rw[hq]at hd;simp only[wH,Bool.not_eq_false']at hd;simp only[hd,Zh1]
        rw[hplc]at Ap;have hpr:=alu hc t.a t.b t.k aW s1 cZ
        let s2:=ah s1 (.cells t.cells 0)
        have g2:=Grew.ah cZ (.cells t.cells 0);have B2:=B1.ai g2;obtain⟨s5,r1,r2,r3,r4,r5⟩:=apj hc (s:=s2) g2.wf (tk:=tk) (ts:=ts) (q:=s1.next) (row:=t.cells) B.yL.1 B2.yL.2 (aA _ _) rfl t.one (by omega);have lt2:=B2.lt;have b5:s5.heap.get bp=some (.cells [lC gk gs.length 9,lC tk ts.length 3,.map mp] 0):=by rw[r5 bp B.dt lt2.1];exact B2.book
        let tv:=AV.slice s2.next 0 (ts.length+1) none 3
        let s6:=bh s5 bp (.cells [lC gk gs.length 9,tv,.map mp] 0)
        have aiN:bp.toNat<s5.next.toNat:=r4 _ _ b5;have nb2:bp≠s2.next:=λe=>absurd (show bp.toNat<s2.next.toNat from lt2.1) (by rw[e];exact Zp3 _)
        have st6:∀(K:AV->St->Option (AV×St)),aq c (.store 1) [.ptr bp 1,tv] s5 K=K .undef s6:=λK=>cm c K s5 1 bp 1 tv _ b5 rfl (by simp) rfl
        have g6:∀p,p≠bp->s6.heap.get p=s5.heap.get p:=λp h=>aJ (λe=>h e.symm)
        have amX:∀p:Pos,s0.next.toNat<=p.toNat->s0.heap.get p=none:=λp h=>by
          cases hx:s0.heap.get p with
          |none=>rfl
          |some x=>have:=Ir _ _ hx;omega
        obtain⟨U4,cl2,hm3,hm4⟩:=B2.AP;have nmb:mp≠bp:=λe=>by rw[e,B2.book]at hm3;cases hm3
        have nmt:tk≠some mp:=λe=>by rw[B2.yL.2 mp e]at hm3;cases hm3
        have aja:eH s0 s6 bp mp gs (ts++[t]) gk (some s2.next):={
          wf:=iU r4 aiN
          keeps:=λp x hp=>by
            have n1:p≠bp:=λe=>by rw[e,B.fb]at hp;cases hp
            have n3:tk≠some p:=λe=>by rw[B.ft p e]at hp;cases hp
            have h2:=B2.keeps p x hp;rw[g6 p n1,r5 p n3 (B2.wf _ _ h2)];exact h2
          next:=by show s0.next.toNat<=s5.next.toNat;exact Zb2 B2.next (by rw[r3,Pos.aF];exact Nat.le_succ _)
          book:=by show(bh _ _ _).heap.get bp=_;rw[bH];simp[tv,lC]
          AP:=⟨U4,cl2,by rw[g6 mp nmb,r5 mp nmt lt2.2];exact hm3,hm4⟩
          sI:=⟨B.sI.1,λb hb=>by obtain⟨cs,h3,h4⟩:=B2.sI.2 b hb;refine⟨cs,?_,h4⟩;rw[g6 b (λe=>B.dg (by rw[<-e];exact hb)),r5 b (B.dgt b hb) (B2.wf _ _ h3)];exact h3⟩
          yL:=⟨λh=>(by cases h),λb hb=>by cases hb;rw[g6 _ (λe=>nb2 e.symm),r2];simp⟩
          dg:=B.dg
          dt:=λe=>nb2 (by injection e with e;exact e.symm)
          dgt:=λb hb h=>by
            cases h;obtain⟨cs,h3,h4⟩:=B2.sI.2 _ hb;exact absurd (show s2.next.toNat<s2.next.toNat from B2.wf _ _ h3) (Zp3 _)
          fb:=B.fb
          fm:=B.fm
          fg:=B.fg
          ft:=λb hb=>by cases hb;exact amX _ B2.next
          Up:=λes' cl' hm=>by have m6:s6.heap.get mp=s2.heap.get mp:=(by rw[g6 mp nmb,r5 mp nmt lt2.2]);rw[m6]at hm;exact B2.Up _ _ hm
          Qd:=λes' cl' hm=>by have m6:s6.heap.get mp=s2.heap.get mp:=(by rw[g6 mp nmb,r5 mp nmt lt2.2]);rw[m6]at hm;exact B2.Qd _ _ hm
          rows:=λb cs hb hs i u hu=>by
            obtain⟨cs0,h3,h4⟩:=B2.sI.2 b hb;have x6:s6.heap.get b=s2.heap.get b:=(by rw[g6 b (λe=>B.dg (by rw[<-e];exact hb)),r5 b (B.dgt b hb) (B2.wf _ _ h3)]);rw[x6]at hs;(refine(B2.rows b cs hb hs i u hu).to λp cs a1 a2 a3 hx=> ?_);have aW:p.toNat<s2.next.toNat:=B2.wf _ _ hx;refine⟨by rw[g6 p a1,r5 p a3 aW];exact hx,a2,λe=> ?_⟩;cases e;exact absurd aW (Zp3 _) }
        refine⟨s6,?_,λh=>absurd he h,λ_=>⟨_,aja⟩⟩;rw[he];rw[zL hc 3 (r:=(.int .i64 0,s6))]
        . rw[aez (b:=bp) B.book];rw[aja.book];intro e;have e:=congrArg (λo=>match o with|some (AB.cells (_::v::_) _)=>dV v|_=>none) e;simp only[lC,dV]at e;cases tk with
          |none=>simp[dV,B.yL.1 rfl]at e
          |some b=>simp[dV]at e
        (rw[wK];have bq:eZ (lC tk ts.length 3) (lC tk ts.length 3)=true:=(by cases tk;exact Tq;exact OC _ _ _ _);have MU:=λ(K:AV->Option (AV×St))=>lQ K (p:=bp) (o:=1) (h:=s1.heap) (h2:=s1.heap) (v:=lC tk ts.length 3) (by rw[B1.book];rfl) (by rw[B1.book];rfl) bq);have DN:cK (bW [AV.str [],AV.str [],.int .u8 0] 1) [(0,3)] [AV.agg t.cells]=some t.cells:=by
          simp[cK,bW,cO,cU,Ty.cells,aU]
        have atf:decide ((ts.length:Int)=256)=false:=Za1 ar5;rw[hu]at L;rcases hkt hk with f|⟨f,f2⟩
        .have d1:decide (t.k=1)=true:=Za0 f;simp[-au,od,cY,bsl,l3,d1,L,Ap,B1.book,lT,atf,hpr,MU,DN];show abQ (c 157 [lC tk ts.length 3,.int .i64 (ts.length:Int),.slice s1.next 0 1 (some 1) 3] s2) _=_;rw[r1];exact st6 _
        .have d1:decide (t.k=1)=false:=Za1 f;have d2:decide (t.k=2)=true:=Za0 f2;simp[-au,od,cY,bsl,l3,d1,d2,L,Ap,B1.book,lT,atf,hpr,MU,DN];show abQ (c 157 [lC tk ts.length 3,.int .i64 (ts.length:Int),.slice s1.next 0 1 (some 1) 3] s2) _=_;rw[r1];exact st6 _
     .  refine fail 5 (by omega) (by simp[zK,hk,hu,hd]) ?_;rw[hd]at Ap;rw[hu]at L;rw[wK];rcases hkt hk with f|⟨f,f2⟩
        .have d1:decide (t.k=1)=true:=Za0 f;simp[-au,od,cY,bsl,l3,d1,L,Ap]
        .have d1:decide (t.k=1)=false:=Za1 f;have d2:decide (t.k=2)=true:=Za0 f2;simp[-au,od,cY,bsl,l3,d1,d2,L,Ap]
   . refine fail 6 (by omega) (by simp[zK,hk,hu]) ?_;rw[hu]at L;rw[wK];rcases hkt hk with f|⟨f,f2⟩
     .  have d1:decide (t.k=1)=true:=Za0 f;simp[-au,od,cY,bsl,l3,d1,L]
     .  have d1:decide (t.k=1)=false:=Za1 f;have d2:decide (t.k=2)=true:=Za0 f2;simp[-au,od,cY,bsl,l3,d1,d2,L]
 .have hkf:¬t.k=1/\¬t.k=2:=(by simpa [knd]using hk);have he:zK gs ts t=23:=(by simp[zK,hk]);refine⟨s,?_,λ_=>rfl,λh0=>absurd (he.symm.trans h0) (by omega)⟩;rw[zL hc 3 (r:=(.int .i64 23,s)),he,aB (Plain.int _ _) (aX.refl s)];rw[wK];simp[od,hkf]
@[simp] theorem axc{R:Type}(K:AV->Option R)(z:Bool)(l:List aN):eX (.lenB .l) [dm z l] K=K (.int .i64 (l.length:Int)):=by unfold dm;rw[ah3];simp
theorem ar6{gs:List aN}{k:Nat}(h:k<gs.length)(hk:k<=64):zJ (gs.take k) gs[k]=if jZ gs[k]≠0 then jZ gs[k]else if 0<=scan (mB gs gs[k].name) k 0 then 5 else if 64<=k then 7 else 0:=by
 have hl:(gs.take k).length=k:=by simp;omega
 unfold zJ;rw[hl,arZ (by omega)];have:(k=64)↔64<=k:=by omega
 simp only[this]
@[simp] theorem awG{R:Type}(c:aj)(K:AV->St->Option R)(st:St)(t:aN)(cs:List AV)(h:cs.length=9):aq c (.store 9) [.ptr st.next 0,.agg t.cells] (ah st (.cells cs 0)) K=K .undef (ah st (.cells t.cells 0)):=cr c K st 9 (.agg t.cells) cs rfl h.symm t.one
theorem auu (hc:Sem c){s0:St}(Ir:Wf s0)(z:Bool)(gs:List aN)(hl:gs.length<=100)(bp mp rp:Pos)(F:Nat)(k1 k2):∀(m k:Nat)(s:St)(gk:Option Pos),eH s0 s bp mp (gs.take k) [] gk none->gs.length<=k+m->k<=gs.length->k<=64->
  ∃ s',aX s0 s'/\(((o9 gs m k).2=0/\(∃Vi,eH s0 s' bp mp gs [] Vi none)/\lz c F k1 k2 (m+1) [.ptr rp 0,.ptr bp 0,dm z gs,.int .i64 (gs.length:Int),.int .i64 (k:Int)] s=k2 [.ptr rp 0,.ptr bp 0] s')\/
    ((o9 gs m k).2≠0/\lz c F k1 k2 (m+1) [.ptr rp 0,.ptr bp 0,dm z gs,.int .i64 (gs.length:Int),.int .i64 (k:Int)] s=k1 [.jg,.int .i64 (o9 gs m k).1,.int .i64 (o9 gs m k).2] s')):=by
 intro m;induction m with
 |zero=>
  intro k s gk B h1 h2 h3;obtain rfl:k=gs.length:=by omega
  refine⟨s,B.keeps,.inl ⟨rfl,⟨gk,by simpa using B⟩,?_⟩⟩;rw[yM];simp
 |succ m ih   =>
  intro k s gk B h1 h2 h3;by_cases h:k<gs.length
  . have w:ax .i64 ((k:Int)+1)=((k+1:Nat):Int):=wrap64 (by omega) (by omega);have B1:=B.ai (Grew.ah B.wf (.cells gs[k].cells 0));obtain⟨s2,a1,a2,a3⟩:=avI hc Ir B1 (by simp;omega) gs[k];have hA:=ar6 h h3;have step:∀(K:AV->St->Option (AV×St)),(aq c (.idxA 9 none) [dm z gs,.int .i64 (k:Int)] s λx19 s12=>aq c (.load (some 9)) [x19] s12 K)=K (.agg gs[k].cells) s:=λK=>by
        simp[dm,h]
    by_cases he:zJ (gs.take k) gs[k]=0
    .   obtain⟨Vi,B2⟩:=a3 he;have e1:gs.take k++[gs[k]]=gs.take (k+1):=(Zc9 h).symm;rw[e1]at B2;rw[hA]at he;have c1:jZ gs[k]=0:=by
         by_cases e:jZ gs[k]=0
         .  exact e
         .  rw[Zb6 e]at he;exact absurd he e
        (rw[Za7 (by rw[c1];simp)]at he;have c2:¬0<=scan (mB gs gs[k].name) k 0:=λe=>by rw[Zb6 e]at he;cases he);(rw[Za7 c2]at he;have c3:¬64<=k:=λe=>by rw[Zb6 e]at he;cases he);have ec:o9 gs (m+1) k=o9 gs m (k+1):=by
         rw[o9,H0 h];simp only;rw[Za7 (by rw[c1];simp),Za7 c2,Za7 c3]
        obtain⟨s',g1,g2⟩:=ih (k+1) s2 Vi B2 (by omega) (by omega) (by omega);refine⟨s',g1,?_⟩;rw[ec];have eL:lz c F k1 k2 (m+1+1) [.ptr rp 0,.ptr bp 0,dm z gs,.int .i64 (gs.length:Int),.int .i64 (k:Int)] s=lz c F k1 k2 (m+1) [.ptr rp 0,.ptr bp 0,dm z gs,.int .i64 (gs.length:Int),.int .i64 ((k+1:Nat):Int)] s2:=by
         rw[yM];have hz:zJ (gs.take k) gs[k]=0:=(by rw[hA,Za7 (by rw[c1];simp),Za7 c2,Za7 c3]);rw[hz]at a1;simp[dm,h,a1,w]
        rw[eL];exact g2
    .   obtain rfl:=a2 he;have ec:o9 gs (m+1) k=((k:Int),zJ (gs.take k) gs[k]):=by
         rw[o9,H0 h];simp only;rw[hA]at he ⊢;by_cases c1:jZ gs[k]=0
         .  have e1:¬jZ gs[k]≠0:=(by rw[c1];simp);by_cases c2:0<=scan (mB gs gs[k].name) k 0
            .simp only[e1,c2,Zg7,Zh1]
            . by_cases c3:64<=k
              .simp only[e1,c2,c3,Zg7,Zh1]
              .rw[Za7 e1,Za7 c2,Za7 c3]at he;exact absurd rfl he
         .  have e1:jZ gs[k]≠0:=c1;rw[Zb6 e1,Zb6 e1]
        refine⟨_,B1.keeps,.inr ⟨by rw[ec];exact he,?_⟩⟩;rw[ec,yM];simp[dm,h,a1,he]
  .obtain rfl:k=gs.length:=(by omega);have ec:o9 gs (m+1) gs.length=(0,0):=(by rw[o9,Zc3 (by omega)]);refine⟨s,B.keeps,.inl ⟨by rw[ec],⟨gk,by simpa using B⟩,?_⟩⟩;rw[yM];simp
theorem acq{ts:List Ty}{k:Nat}(h:k<ts.length):(ts.take k).getLast? =p7 ts k:=by
 unfold p7;by_cases h0:k=0
 .simp[h0]
 .rw[Za7 h0,List.getLast?_eq_getElem?];have:(ts.take k).length=k:=(by simp;omega);rw[this,Ze4,Zb6 (by omega)]
theorem ar7{ts:List Ty}{k:Nat}(h:k<ts.length)(hs:F7 (ts.take k))(hb:∀u,p7 ts k=some u->fQ u ts[k]=true):F7 (ts.take (k+1)):=by
 intro i j hj XJ;have Mf:j<k+1:=by simp at hj;omega
 simp only[Zo4];by_cases e:j=k
 . subst e;have h1:p7 ts j=some (ts[j - 1]'(by omega)):=(by rw[p7,Za7 (by omega),H0 (by omega)]);have h2:=hb _ h1;by_cases e2:i=j - 1
   .subst e2;exact h2
   .have h3:=hs i (j - 1) (by simp;omega) (by omega);simp only[Zo4]at h3;exact LC h3 h2
 .have:=hs i j (by simp;omega) XJ;simpa only[Zo4]using this
def adQ(t:Ty)(p:Option Ty):Bool:=match p with|none=>false|some p=>fQ t p
theorem ar8(t:Ty)(p:Option Ty):ahg t p=(!knd t|| !aO t.a t.b||adQ t p):=by cases p<;>rfl
def okT(t:Ty)(p:Option Ty):Bool:=aO t.a t.b&& !adQ t p
def eK(gs:List aN)(ts:List Ty)(k:Nat)(t:Ty):Int:=if okT t (p7 ts k)=true then zK gs (ts.take k) t else 23
theorem auv (hc:Sem c){s0:St}(Ir:Wf s0)(z z2:Bool)(gs:List aN)(ts:List Ty)(hl:gs.length<=100)(sx:ts.length<=100)(bp mp rp:Pos)(Xm:s0.heap.get rp=some (.cells [dm z gs,gV z2 ts] 0))(gk:Option Pos)(F:Nat)(k1 k4):∀(m k:Nat)(s:St)(tk:Option Pos),eH s0 s bp mp gs (ts.take k) gk tk->F7 (ts.take k)->ts.length<=k+m->k<=ts.length->
  ∃s',aX s0 s'/\((j5 gs ts m k).2=0->(∃u9,eH s0 s' bp mp gs ts gk u9)/\F7 ts)/\nS c F k1 k4 (m+1) [.ptr rp 0,.ptr bp 0,gV z2 ts,.int .i64 (ts.length:Int),.int .i64 (k:Int)] s=if(j5 gs ts m k).2=0 then k4 [.ptr bp 0] s' else k1 [.jg,.int .i64 (j5 gs ts m k).1,.int .i64 (j5 gs ts m k).2] s':=by
 intro m;induction m with
 |zero=>
  intro k s tk B hs h1 h2;obtain rfl:k=ts.length:=by omega
  refine⟨s,B.keeps,λ_=>⟨⟨tk,by simpa using B⟩,by simpa using hs⟩,?_⟩;rw[yN];simp[j5]
 |succ m ih   =>
  intro k s tk B hs h1 h2;by_cases h:k<ts.length
  . have w:ax .i64 ((k:Int)+1)=((k+1:Nat):Int):=wrap64 (by omega) (by omega);have wg:ax .i64 ((gs.length:Int)+(k:Int))=(gs.length:Int)+k:=wrap64 (by omega) (by omega);have B1:=B.ai (Grew.ah B.wf (.cells ts[k].cells 0));have kH:(ah s (.cells ts[k].cells 0)).heap.get rp=some (.cells [dm z gs,gV z2 ts] 0):=B1.keeps _ _ Xm;have cZ:=B1.wf;have ar5:¬256<=k:=(by omega);have ec:j5 gs ts (m+1) k=if eK gs ts k ts[k]≠0 then((gs.length:Int)+k,eK gs ts k ts[k])else j5 gs ts m (k+1):=by rw[j5,H0 h];simp only[ar5,Zg7];rw[ar8];unfold eK okT zK;rw[acq h];cases knd ts[k]<;>cases aO ts[k].a ts[k].b<;>cases adQ ts[k] (p7 ts k)<;>cases se gs ts[k]<;>cases wH ts[k] (p7 ts k)<;>simp
    have abJ:okT ts[k] (p7 ts k)=true->∃s',aX s0 s'/\(eK gs ts k ts[k]=0->(j5 gs ts m (k+1)).2=0->(∃u9,eH s0 s' bp mp gs ts gk u9)/\F7 ts)/\∃s2,c 106 [.ptr bp 0,.str ts[k].a,.str ts[k].b,.int .u8 ts[k].k] (ah s (.cells ts[k].cells 0))=some (.int .i64 (eK gs ts k ts[k]),s2)/\s2.heap.get rp=some (.cells [dm z gs,gV z2 ts] 0)/\
          (eK gs ts k ts[k]≠0->s'=s2)/\(eK gs ts k ts[k]=0->
            nS c F k1 k4 (m+1) [.ptr rp 0,.ptr bp 0,gV z2 ts,.int .i64 (ts.length:Int),.int .i64 ((k+1:Nat):Int)] s2=if(j5 gs ts m (k+1)).2=0 then k4 [.ptr bp 0] s' else k1 [.jg,.int .i64 (j5 gs ts m (k+1)).1,.int .i64 (j5 gs ts m (k+1)).2] s'):=λcH=>by
        have aje:=cH;simp only[okT,Zb1,Zj6]at aje;obtain⟨b2,b3⟩:=aje;have awH:∀u,(ts.take k).getLast? =some u->fQ ts[k] u=false:=λu hu=>by rw[acq h]at hu;rw[hu]at b3;exact b3
        obtain⟨s2,a1,a2,a3⟩:=avK hc Ir B1 (by simp;omega) ts[k] b2 hs awH;have et:eK gs ts k ts[k]=zK gs (ts.take k) ts[k]:=(by unfold eK;rw[Zb6 cH]);rw[<-et]at a1 a2 a3;by_cases h0:eK gs ts k ts[k]=0
        . obtain⟨u9,B2⟩:=a3 h0;have e1:ts.take k++[ts[k]]=ts.take (k+1):=(Zc9 h).symm;rw[e1]at B2;have hd:wH ts[k] (p7 ts k)=false:=by
            rw[et,zK,acq h]at h0;cases hq:wH ts[k] (p7 ts k)
            .rfl
            . rw[hq]at h0;split at h0
              .simp at h0
              .split at h0<;>simp at h0
          have uD:=ar7 h hs (λu hu2=>by rw[hu2]at hd;simpa [wH]using hd);obtain⟨s',g1,gB,g2⟩:=ih (k+1) s2 u9 B2 uD (by omega) (by omega);exact⟨s',g1,λ_=>gB,s2,a1,B2.keeps _ _ Xm,λe=>absurd h0 e,λ_=>g2⟩
        .obtain rfl:=a2 h0;exact⟨_,B1.keeps,λe=>absurd e h0,_,a1,kH,λ_=>rfl,λe=>absurd e h0⟩
    rw[ec];cases cH:okT ts[k] (p7 ts k)
    ·
        have e23:eK gs ts k ts[k]=23:=(by unfold eK;rw[cH];rfl);refine⟨_,B1.keeps,λe=>(by rw[e23,Zb6 (by decide)]at e;cases e),?_⟩;rw[yN,e23];cases q1:aO ts[k].a ts[k].b
        .simp[gV,h,q1,jK,kH,wg]
        . have q2:adQ ts[k] (p7 ts k)=true:=(by simpa [okT,q1]using cH);have tJ:¬k=0:=λe=>by rw[p7,Zb6 e]at q2;cases q2
          have Bq:k - 1<ts.length:=(by omega);have wk:ax .i64 ((k:Int) - 1)=((k - 1:Nat):Int):=(by rw[wrap64 (by omega) (by omega)];omega);have q3:fQ ts[k] ts[k - 1]=true:=(by rw[p7,Za7 tJ,H0 Bq]at q2;exact q2);have ho:=MT hc ts[k - 1] ts[k] _ cZ;have FU:¬sS ts[k - 1] ts[k]<=0:=(by have:=Z3.2 q3;omega);simp[gV,h,q1,jK,kH,wg,tJ,Bq,wk,ho,FU]
    .   obtain⟨s',g1,gB,s2,t1,t2,t3,t4⟩:=abJ cH;refine⟨s',g1,λe=>by
          by_cases he:eK gs ts k ts[k]=0
          .exact gB he (by rw[Za7 (by simp[he])]at e;exact e)
          .rw[Zb6 he]at e;exact absurd e he,?_⟩
        rw[yN];have aje:=cH;simp only[okT,Zb1,Zj6]at aje;obtain⟨q1,q2⟩:=aje;by_cases he:eK gs ts k ts[k]=0
        . have t4:=t4 he;rw[he]at t1;simp only[he,ne_eq,not_true,Zg7];rw[<-t4];by_cases tJ:k=0
          .have dk:decide ((k:Int)=0)=true:=Za0 (by omega);have dk':decide (k=0)=true:=Za0 tJ;clear tJ;simp[gV,h,q1,jK,kH,dk,dk',t1,w]
          . have Bq:k - 1<ts.length:=(by omega);have wk:ax .i64 ((k:Int) - 1)=((k - 1:Nat):Int):=(by rw[wrap64 (by omega) (by omega)];omega);have q3:fQ ts[k] ts[k - 1]=false:=(by rw[p7,Za7 tJ,H0 Bq]at q2;exact q2);have ho:=MT hc ts[k - 1] ts[k] _ cZ;have FU:sS ts[k - 1] ts[k]<=0:=by
              have:¬0<sS ts[k - 1] ts[k]:=λe=>by rw[Z3.1 e]at q3;cases q3
              omega
            simp[gV,h,q1,jK,kH,tJ,Bq,wk,ho,FU,t1,w]
        . obtain rfl:=t3 he;simp only[he,ne_eq,not_false_eq_true,Zh1,Zg7];by_cases tJ:k=0
          .have dk:decide ((k:Int)=0)=true:=Za0 (by omega);have dk':decide (k=0)=true:=Za0 tJ;clear tJ;simp[gV,h,q1,jK,kH,dk,dk',t1,t2,wg,he]
          . have Bq:k - 1<ts.length:=(by omega);have wk:ax .i64 ((k:Int) - 1)=((k - 1:Nat):Int):=(by rw[wrap64 (by omega) (by omega)];omega);have q3:fQ ts[k] ts[k - 1]=false:=(by rw[p7,Za7 tJ,H0 Bq]at q2;exact q2);have ho:=MT hc ts[k - 1] ts[k] _ cZ;have FU:sS ts[k - 1] ts[k]<=0:=by
              have:¬0<sS ts[k - 1] ts[k]:=λe=>by rw[Z3.1 e]at q3;cases q3
              omega
            simp[gV,h,q1,jK,kH,tJ,Bq,wk,ho,FU,t1,t2,wg,he]
  .obtain rfl:k=ts.length:=(by omega);refine⟨s,B.keeps,λ_=>⟨⟨tk,by simpa using B⟩,by simpa using hs⟩,?_⟩;rw[yN];have ec:j5 gs ts (m+1) ts.length=(0,0):=(by rw[j5,Zc3 (by omega)]);simp[ec]
theorem RF(hc:Sem c)(z z2:Bool)(gs:List aN)(ts:List Ty)(hl:gs.length<=100)(sx:ts.length<=100)(s:St)(hw:Wf s):
   ∃v s',c 53 [.agg [dm z gs,gV z2 ts]] s=some (.tuple [v,.int .i64 (dX gs ts).1,.int .i64 (dX gs ts).2],s')/\aX s s'/\((dX gs ts).2=0->∃bp mp gk tk,v= .ptr bp 0/\eH (ah s (.cells [dm z gs,gV z2 ts] 0)) s' bp mp gs ts gk tk/\F7 ts):=by
 let s0:=ah s (.cells [dm z gs,gV z2 ts] 0)
 have Ir:Wf s0:=bG hw;have k0:aX s s0:=bY hw;have Xm:s0.heap.get s.next=some (.cells [dm z gs,gV z2 ts] 0):=aA _ _;have abH:=avH hc s0;have B:=eH.start Ir
 have finish:∀{v:AV}{s':St},Ew c 102 (.agg [dm z gs,gV z2 ts]) s=some (.tuple [v,.int .i64 (dX gs ts).1,.int .i64 (dX gs ts).2],s')->aX s0 s'->((dX gs ts).2=0->∃bp mp gk tk,v= .ptr bp 0/\eH s0 s' bp mp gs ts gk tk/\F7 ts)->
     ∃v s',c 53 [.agg [dm z gs,gV z2 ts]] s=some (.tuple [v,.int .i64 (dX gs ts).1,.int .i64 (dX gs ts).2],s')/\aX s s'/\((dX gs ts).2=0->∃bp mp gk tk,v= .ptr bp 0/\eH s0 s' bp mp gs ts gk tk/\F7 ts):=λ{v s'} h hk hB=>by
   have h2:=ae9 hc 102 h;unfold tidy at h2;split at h2
   .rename_i hp;exact⟨v,s,h2,aX.refl s,λe=>by obtain⟨bp,mp,gk,tk,rfl,_⟩:=hB e;exact absurd hp.1 Vd⟩
   .exact⟨v,s',h2,k0.trans hk,hB⟩
 obtain⟨s1,g1,g2⟩:=auu hc Ir z gs hl (ah s0 (.map [] 0)).next s0.next s.next 102 (λvs s30=>iw vs λx2 vs=>iw vs λx3 vs=>iw vs λx4 vs=>mO vs (some (.tuple [x2,x3,x4],s30))) (λvs s31=>iw vs λx1 vs=>iw vs λx5 vs=>mO vs (
   aq c (.fieldA 1) [x1] s31 λx29 s32=>aq c (.load none) [x29] s32 λx30 s33=>aq c (.lenB .l) [x30] s33 λx31 s34=>aq c .move [(.int .i64 0)] s34 λx32 s35=>
   nS c 102 (λvs s80=>iw vs λx2 vs=>iw vs λx3 vs=>iw vs λx4 vs=>mO vs (some (.tuple [x2,x3,x4],s80))) (λvs s81=>iw vs λx5 vs=>mO vs (
     aq c .move [x5] s81 λx74 s82=>aq c .move [x74] s82 λx2 s83=>aq c .move [(.int .i64 0)] s83 λx3 s84=>aq c .move [(.int .i64 0)] s84 λx4 s85=>some (.tuple [x2,x3,x4],s85))) 102 [x1,x5,x30,x31,x32] s35)) 101 0 _ none B (by omega) (by omega) (by omega)
 have apk:∀r,lz c 102 (λvs s30=>iw vs λx2 vs=>iw vs λx3 vs=>iw vs λx4 vs=>mO vs (some (.tuple [x2,x3,x4],s30))) (λvs s31=>iw vs λx1 vs=>iw vs λx5 vs=>mO vs (
   aq c (.fieldA 1) [x1] s31 λx29 s32=>aq c (.load none) [x29] s32 λx30 s33=>aq c (.lenB .l) [x30] s33 λx31 s34=>aq c .move [(.int .i64 0)] s34 λx32 s35=>
   nS c 102 (λvs s80=>iw vs λx2 vs=>iw vs λx3 vs=>iw vs λx4 vs=>mO vs (some (.tuple [x2,x3,x4],s80))) (λvs s81=>iw vs λx5 vs=>mO vs (
     aq c .move [x5] s81 λx74 s82=>aq c .move [x74] s82 λx2 s83=>aq c .move [(.int .i64 0)] s83 λx3 s84=>aq c .move [(.int .i64 0)] s84 λx4 s85=>some (.tuple [x2,x3,x4],s85))) 102 [x1,x5,x30,x31,x32] s35)) 102 [.ptr s.next 0,.ptr (ah s0 (.map [] 0)).next 0,dm z gs,.int .i64 (gs.length:Int),.int .i64 ((0:Nat):Int)] (ah (ah s0 (.map [] 0)) (.cells [.af,.af,.map s0.next] 0))=r->Ew c 102 (.agg [dm z gs,gV z2 ts]) s=r:=λr h=>by
   rw[<-h,ajf];have hb:=(B.keeps _ _ Xm)
   simp only[cS,Yr,av,bX];show abQ (c 103 [] s0) _=_;rw[abH];simp only[bM,aS,aT,hb,aD,Za9,Za5,Zb8,aR,aiT];rfl
 rcases g2 with⟨q1,⟨Vi,B2⟩,q3⟩|⟨q1,q3⟩
 . have e:dX gs ts=j5 gs ts 101 0:=(by rw[dX,Za7 (by simp[q1])]);obtain⟨s2,r1,rB,r2⟩:=auv hc Ir z z2 gs ts hl sx (ah s0 (.map [] 0)).next s0.next s.next Xm Vi 102 (λvs s80=>iw vs λx2 vs=>iw vs λx3 vs=>iw vs λx4 vs=>mO vs (some (.tuple [x2,x3,x4],s80))) (λvs s81=>iw vs λx5 vs=>mO vs (
     aq c .move [x5] s81 λx74 s82=>aq c .move [x74] s82 λx2 s83=>aq c .move [(.int .i64 0)] s83 λx3 s84=>aq c .move [(.int .i64 0)] s84 λx4 s85=>some (.tuple [x2,x3,x4],s85))) 101 0 s1 none (by simpa using B2) (by intro i j hj;simp at hj) (by omega) (by omega)
   have kj:s1.heap.get s.next=some (.cells [dm z gs,gV z2 ts] 0):=B2.keeps _ _ Xm;have hL:=apk _ q3;simp only[aH,bg,aS,aT,kj,aD,Za9,Zb4,Za5,Zb8,aR,arY,av]at hL;have r2':=r2;rw[show(((0:Nat):Int))=0 from rfl]at r2';simp only[av,Nat.reduceAdd]at r2';rw[r2']at hL;rw[e]at finish ⊢;by_cases h2:(j5 gs ts 101 0).2=0
   . have h3:=adP gs ts 101 0 h2;rw[Zb6 h2]at hL;simp only[aH,bg]at hL;exact finish (by rw[h2,h3];exact hL) r1 (λe=>by
        obtain⟨⟨u9,B3⟩,hs⟩:=rB e;exact⟨_,_,_,_,rfl,B3,hs⟩)
   .rw[Za7 h2]at hL;simp only[aH,bg]at hL;exact finish hL r1 (λe=>absurd e h2)
 .have e:dX gs ts=o9 gs 101 0:=(by rw[dX,Zb6 q1]);have hL:=apk _ q3;simp only[aH,bg]at hL;rw[e]at finish ⊢;exact finish hL g1 (λe=>absurd e q1)
theorem ajg(hc:Sem c)(z z2:Bool)(gs:List aN)(ts:List Ty)(hl:gs.length<=100)(sx:ts.length<=100)(s:St)(hw:Wf s):c 122 [.agg [dm z gs,gV z2 ts]] s=some (.tuple [.int .i64 (dX gs ts).1,.int .i64 (dX gs ts).2],s):=by
 have Ir:Wf (ah s (.cells [dm z gs,gV z2 ts] 0)):=bG hw;obtain⟨v,s',h1,h2,_⟩:=RF hc z z2 gs ts hl sx _ Ir;have hcc:cut [dm z gs,gV z2 ts] 0 2=some [dm z gs,gV z2 ts]:=cQ rfl;rw[Wu hc 1 (r:=(.tuple [.int .i64 (dX gs ts).1,.int .i64 (dX gs ts).2],s')),aB (Plain.tuple (by simp[Plain.int])) ((bY hw).trans h2)];rw[aaC];simp[hcc,h1]
structure Rl where
 k:Int
 wt:Int
 a:List Nat
 b:List Nat
 t:List Nat
 n:Int
def Rl.cells(r:Rl):List AV:=[.int .u8 r.k,.int .i64 r.wt,.str r.a,.str r.b,.str r.t,.int .i64 r.n]
@[simp] theorem Rl.c0(t:Rl):t.cells[0]? =some (.int .u8 t.k):=id rfl
@[simp] theorem Rl.c1(t:Rl):t.cells[1]? =some (.int .i64 t.wt):=id rfl
@[simp] theorem Rl.c2(t:Rl):t.cells[2]? =some (.str t.a):=id rfl
@[simp] theorem Rl.c3(t:Rl):t.cells[3]? =some (.str t.b):=id rfl
@[simp] theorem Rl.c4(t:Rl):t.cells[4]? =some (.str t.t):=id rfl
@[simp] theorem Rl.c5(t:Rl):t.cells[5]? =some (.int .i64 t.n):=id rfl
@[simp] theorem Rl.cc(t:Rl):cut t.cells 0 6=some t.cells:=cQ rfl
@[simp] theorem Rl.one(t:Rl):aQ t.cells=true:=id rfl
def jf(z:Bool)(rs:List Rl):AV:=ro 6 z (rs.map Rl.cells)
@[simp] theorem arL{R:Type}(c:aj)(K:AV->St->Option R)(st:St)(z:Bool)(l:List Rl):aq c (.lenB .l) [jf z l] st K=K (.int .i64 (l.length:Int)) st:=by unfold jf;rw[jL];simp
structure bS where
 tz:Bool
 ts:List aE
 gz:Bool
 gs:List aN
 yz:Bool
 ys:List Ty
 cz:Bool
 cs:List Int
 rz:Bool
 rs:List Rl
def bS.cells(p:bS):List AV:=[tabs p.tz p.ts,dm p.gz p.gs,gV p.yz p.ys,ints p.cz p.cs,jf p.rz p.rs]
@[simp] theorem bS.c0(p:bS):p.cells[0]? =some (tabs p.tz p.ts):=id rfl
@[simp] theorem bS.c1(p:bS):p.cells[1]? =some (dm p.gz p.gs):=id rfl
@[simp] theorem bS.c2(p:bS):p.cells[2]? =some (gV p.yz p.ys):=id rfl
@[simp] theorem bS.c3(p:bS):p.cells[3]? =some (ints p.cz p.cs):=id rfl
@[simp] theorem bS.c4(p:bS):p.cells[4]? =some (jf p.rz p.rs):=id rfl
@[simp] theorem bS.cc(p:bS):cut p.cells 0 5=some p.cells:=cQ rfl
structure bS.Dh(p:bS):Prop where
 ts:p.ts.length<=100
 gs:p.gs.length<=100
 ys:p.ys.length<=100
 cs:p.cs.length<=100
 rs:p.rs.length<=100
 ok:∀t∈p.ts,t.Ok
def Am(l:List Int):Bool:=l.all λc=>decide (0<=c)&&decide (c<64)
def jQ(p:bS):Int×Int:=
 if(bU p.ts).2≠0 then bU p.ts else if(dX p.gs p.ys).2≠0 then dX p.gs p.ys
 else if p.cs.length≠0/\p.cs.length≠p.gs.length then(0,44)else if Am p.cs=false then(0,44)
 else if bf p.ts<p.gs.length then(0,45)else(0,0)
theorem akt{p:bS}(h:(jQ p).2=0):(jQ p).1=0:=by
 unfold jQ at h ⊢;by_cases h1:(bU p.ts).2≠0
 .rw[Zb6 h1]at h;exact absurd h h1
 rw[Za7 h1]at h ⊢;by_cases h2:(dX p.gs p.ys).2≠0
 .rw[Zb6 h2]at h;exact absurd h h2
 rw[Za7 h2]
 repeat' split
 all_goals rfl
theorem am0(p:bS)(hp:p.Dh)(q:Pos)(F:Nat)(s:St)(k1 k2):∀(m k:Nat),p.cs.length<=k+m->k<=p.cs.length->
  tq c F k1 k2 (m+1) [.ptr q 0,ints p.cz p.cs,.int .i64 (p.cs.length:Int),.int .i64 (k:Int)] s=if Am (p.cs.drop k)=true then k2 [.ptr q 0] s else k1 [.int .i64 0,.int .i64 44] s:=by
 have hl:=hp.cs;intro m;induction m with
 |zero=>
  intro k h1 h2;obtain rfl:k=p.cs.length:=by omega
  rw[OT];simp[Am]
 |succ m ih=>
  intro k h1 h2;rw[OT];by_cases h:k<p.cs.length
  . have e:p.cs.drop k=p.cs[k]::p.cs.drop (k+1):=Zd8 h;have w:ax .i64 ((k:Int)+1)=((k+1:Nat):Int):=wrap64 (by omega) (by omega);have:=ih (k+1) (by omega) (by omega);have ec:Am (p.cs.drop k)=((decide (0<=p.cs[k])&&decide (p.cs[k]<64))&&Am (p.cs.drop (k+1))):=(by rw[e];rfl);rw[ec];generalize Am (p.cs.drop (k+1))=rest at this ⊢;by_cases h3:p.cs[k]<0
    .   have h4:(decide (0<=p.cs[k])&&decide (p.cs[k]<64))=false:=(by simp;omega);rw[h4];simp[ints,h,h3]
    .   by_cases h5:64<=p.cs[k]
        .have h4:(decide (0<=p.cs[k])&&decide (p.cs[k]<64))=false:=(by simp;omega);rw[h4];simp[ints,h,h3,h5]
        .have h4:(decide (0<=p.cs[k])&&decide (p.cs[k]<64))=true:=(by simp;omega);rw[h4,Zg9, <-this];simp[ints,h,h3,h5,w]
  .obtain rfl:k=p.cs.length:=(by omega);simp[Am]
theorem adR{d:Nat}(z:Bool)(l:List Int):gD (d+1) (ints z l):=gD.ro λr hr v hv=>by simp only[Zc7]at hr;obtain⟨i,_,rfl⟩:=hr;simp only[Zh7]at hv;subst hv;exact gD.int _ _
theorem am1{d:Nat}(z:Bool)(l:List (List Nat)):gD (d+1) (lS z l):=gD.ro λr hr v hv=>by simp only[Zc7]at hr;obtain⟨i,_,rfl⟩:=hr;simp only[Zh7]at hv;subst hv;exact gD.str _
theorem am2(z:Bool)(l:List aN):gD 3 (dm z l):=gD.ro λr hr v hv=>by simp only[Zc7]at hr;obtain⟨g,_,rfl⟩:=hr;simp only[aN.cells,Za8,Zc0,Ze9]at hv;rcases hv with rfl|rfl|rfl|rfl|rfl|rfl|rfl|rfl|rfl<;>first|exact gD.str _|exact gD.int _ _|exact gD.bool _|exact am1 _ _
theorem apl(z:Bool)(l:List Rl):gD 3 (jf z l):=gD.ro λr hr v hv=>by simp only[Zc7]at hr;obtain⟨g,_,rfl⟩:=hr;simp only[Rl.cells,Za8,Zc0,Ze9]at hv;rcases hv with rfl|rfl|rfl|rfl|rfl|rfl<;>first|exact gD.str _|exact gD.int _ _|exact gD.bool _
theorem vW(z z2:Bool)(gs:List aN)(ts:List Ty):cK [.af,.af] [(0,1),(1,1)] [dm z gs,gV z2 ts]=some [dm z gs,gV z2 ts]:=by have e1:(dm z gs).cells=[dm z gs]:=ah7 _ _ _;have e2:(gV z2 ts).cells=[gV z2 ts]:=ah7 _ _ _;unfold cK;rw[e1];show cK [dm z gs,.af] [(1,1)] [gV z2 ts]=_;unfold cK;rw[e2];rfl
def Yl(c:aj)(p:bS):Prop:=(∀st,Wf st->c 122 [.agg [dm p.gz p.gs,gV p.yz p.ys]] st=some (.tuple [.int .i64 (dX p.gs p.ys).1,.int .i64 (dX p.gs p.ys).2],st))
theorem ar9 (hc:Sem c)(p:bS)(hp:p.Dh)(hR:Yl c p)(st:St)(hw:Wf st):c 62 [.agg p.cells] st=some (.tuple [.int .i64 (jQ p).1,.int .i64 (jQ p).2],st):=by
 have cZ:Wf (ah st (.cells p.cells 0)):=bG hw;have hg1:=Grew.ah hw (.cells p.cells 0);have kH:(ah st (.cells p.cells 0)).heap.get st.next=some (.cells p.cells 0):=aA _ _;have A:=aa6 hc p.tz p.ts hp.ok _ cZ;have B:=hR _ cZ;have D:=Hi hc p.tz p.ts hp.ok _ cZ;have L:∀k1 k2,tq c 101 k1 k2 101 [.ptr st.next 0,ints p.cz p.cs,.int .i64 (p.cs.length:Int),.int .i64 0] (ah st (.cells p.cells 0))=if Am p.cs=true then k2 [.ptr st.next 0] (ah st (.cells p.cells 0))else k1 [.int .i64 0,.int .i64 44] (ah st (.cells p.cells 0)):=
   λk1 k2=>am0 (c:=c) p hp st.next 101 (ah st (.cells p.cells 0)) k1 k2 100 0 (by have:=hp.cs;omega) (by omega)
 have MU:=λ(K:AV->Option (AV×St))=>lQ K (p:=st.next) (o:=1) (h:=(ah st (.cells p.cells 0)).heap) (h2:=(ah st (.cells p.cells 0)).heap) (v:=dm p.gz p.gs) (by rw[kH];rfl) (by rw[kH];rfl) (XE (am2 _ _))
 rw[afa hc 101 (r:=(.tuple [.int .i64 (jQ p).1,.int .i64 (jQ p).2],ah st (.cells p.cells 0))),aB (Plain.tuple (by simp[Plain.int])) hg1.keeps];rw[ajh];unfold jQ;by_cases h1:(bU p.ts).2=0
 . by_cases h2:(dX p.gs p.ys).2=0
   . simp only[h1,Zh1]at D;by_cases h3:p.cs.length=0
     .  have h4:p.cs=[]:=(by simpa using h3);have L1:Am p.cs=true:=(by rw[h4];rfl);have e0:((p.cs.length:Nat):Int)=0:=(by omega);simp only[L1,Zh1,e0]at L;by_cases h6:bf p.ts<p.gs.length
        .simp[vW,h1,h2,h3,A,B,D,kH,L1,L,MU,h6]
        .simp[vW,h1,h2,h3,A,B,D,kH,L1,L,MU,h6]
     .  by_cases h4:p.cs.length=p.gs.length
        . cases h5:Am p.cs with
          | false=>
            simp only[h5,Zf0,Zg7,h4]at L;have h7:0<p.cs.length:=(by omega);have h8:0<p.gs.length:=(by omega);simp[vW,h1,h2,h3,h4,h5,h7,h8,A,B,kH,L]
          | true=>
            simp only[h5,Zh1,h4]at L;have h7:0<p.cs.length:=(by omega);have h8:0<p.gs.length:=(by omega);by_cases h6:bf p.ts<p.gs.length
            .simp[vW,h1,h2,h3,h4,h5,h7,h8,A,B,D,kH,L,MU,h6]
            .simp[vW,h1,h2,h3,h4,h5,h7,h8,A,B,D,kH,L,MU,h6]
        .have h7:0<p.cs.length:=(by omega);have h4i:¬((p.cs.length:Int)=(p.gs.length:Int)):=(by omega);simp[vW,h1,h2,h3,h4,h4i,h7,A,B,kH]
   .simp[vW,h1,h2,A,B,kH]
 .simp[h1,A,kH]
theorem alm(hc:Sem c){p:bS}(hp:p.Dh):Yl c p:=λst hw=>ajg hc p.gz p.yz p.gs p.ys hp.gs hp.ys st hw
theorem apm(z:Bool)(rs:List (List AV))(hl:rs.length<sH)(dN:∀cs∈rs,cs.length=9)(g:Nat)(v:List AV)(P:Nat->Bool)(st:St)(F:Nat)(k1 k2)
  (hP:∀i (h:i<rs.length),c g (.agg rs[i]::v) st=some (.bool (P i),st)):∀(m k:Nat),rs.length<=k+m->k<=rs.length->
  dh c F k1 k2 (m+1) [ro 9 z rs,.func g [] v,.int .i64 (rs.length:Int),.int .i64 (k:Int)] st=if 0<=scan P (rs.length - k) k then k1 [.int .i64 (scan P (rs.length - k) k)] st else k2 [] st:=by
 intro m;induction m with
 |zero=>
  intro k h1 h2;obtain rfl:k=rs.length:=by omega
  rw[mQ];simp[scan]
 |succ m ih=>
  intro k h1 h2;rw[mQ];by_cases h:k<rs.length
  . have e:rs.length - k=(rs.length - (k+1))+1:=(by omega);have w:ax .i64 ((k:Int)+1)=((k+1:Nat):Int):=wrap64 (by omega) (by unfold sH at hl;omega);have hcut:cut rs[k] 0 9=some rs[k]:=cQ (dN _ (Zb9 h));have hp:=hP k h;rw[e,scan];cases hb:P k
    .   simp only[Zf0,Zg7];rw[<-ih (k+1) (by omega) (by omega)];simp[h,hcut,hp,hb,w]
    .   simp[h,hcut,hp,hb]
  .obtain rfl:k=rs.length:=(by omega);simp[scan]
theorem auw(hc:Sem c)(z:Bool)(rs:List (List AV))(hl:rs.length<sH)(dN:∀cs∈rs,cs.length=9)(g:Nat)(v:List AV)(P:Nat->Bool)(st:St)
   (hP:∀i (h:i<rs.length),c g (.agg rs[i]::v) st=some (.bool (P i),st)):c 172 [ro 9 z rs,.func g [] v] st=some (.int .i64 (scan P rs.length 0),st):=by
 rw[wL hc (rs.length+1) (r:=(.int .i64 (scan P rs.length 0),st)),aB (Plain.int _ _) (aX.refl st)];rw[ye];have L:∀k1 k2,dh c (rs.length+1) k1 k2 (rs.length+1) [ro 9 z rs,.func g [] v,.int .i64 (rs.length:Int),.int .i64 0] st=if 0<=scan P (rs.length - 0) 0 then k1 [.int .i64 (scan P (rs.length - 0) 0)] st else k2 [] st:=
   λk1 k2=>apm z rs hl dN g v P st _ k1 k2 hP rs.length 0 (by omega) (by omega)
 rw[Zq2]at L;by_cases h:0<=scan P rs.length 0
 .simp[L,h]
 .have:=(ZY P rs.length 0).2 (by omega);simp[L,this]
theorem auy(hc:Sem c)(g:aN)(s:List Nat)(p:Pos)(st:St)(hw:Wf st)(hp:st.heap.get p=some (.cells [.str s] 0)):c 173 [.agg g.cells,.ptr p 0] st=some (.bool (decide (g.name=s)),st):=by
 rw[afb hc 1 (r:=(.bool (decide (g.name=s)),ah st (.cells g.cells 0))),aB (Plain.bool _) (bY hw)];rw[aji];have:(ah st (.cells g.cells 0)).heap.get p=some (.cells [.str s] 0):=bY hw _ _ hp;simp[this]
theorem aov(hc:Sem c)(p:bS)(hp:p.Dh)(s:List Nat)(st:St)(hw:Wf st):c 124 [.agg p.cells,.str s] st=some (.int .i64 (scan (mB p.gs s) p.gs.length 0),st):=by
 have cZ:Wf (ah st (.cells p.cells 0)):=bG hw;have tH:=bG (b:= .cells [.str s] 0) cZ;have hg:=(Grew.ah hw (.cells p.cells 0)).trans (Grew.ah cZ (.cells [.str s] 0));have kH:(ah (ah st (.cells p.cells 0)) (.cells [.str s] 0)).heap.get st.next=some (.cells p.cells 0):=by have:=aA st (.cells p.cells 0);exact(Grew.ah cZ (.cells [.str s] 0)).get this
 have hi:=auw hc p.gz (p.gs.map aN.cells) (by have:=hp.gs;simp;unfold sH;omega) (λcs eW=>by
   simp only[Zc7]at eW;obtain⟨t,_,rfl⟩:=eW;rfl) 173 [.ptr (ah st (.cells p.cells 0)).next 0] (mB p.gs s) (ah (ah st (.cells p.cells 0)) (.cells [.str s] 0)) (λi hi=>by
   have hi3:i<p.gs.length:=(by simpa using hi);have:=auy hc p.gs[i] s (ah st (.cells p.cells 0)).next _ tH (aA _ _);simp only[Zl8];rw[this];simp[mB,hi3])
 rw[Za4]at hi;rw[ajj hc 1 (r:=(.int .i64 (scan (mB p.gs s) p.gs.length 0),ah (ah st (.cells p.cells 0)) (.cells [.str s] 0))),aB (Plain.int _ _) hg.keeps];rw[am3];have e:(AV.str s).cells=[.str s]:=rfl;simp[e,hi,kH,dm]
structure Kd where
 w:List Nat
 a:Int
 b:Bool
 t:Int
 n:Bool
 lo:Int
 kR:Bool
 f:AV
def Kd.cells(k:Kd):List AV:=[.str k.w,.int .u8 k.a,.bool k.b,.int .u8 k.t,.bool k.n,.int .i64 k.lo,.bool k.kR,k.f]
@[simp] theorem Kd.c0(t:Kd):t.cells[0]? =some (.str t.w):=id rfl
@[simp] theorem Kd.c1(t:Kd):t.cells[1]? =some (.int .u8 t.a):=id rfl
@[simp] theorem Kd.c2(t:Kd):t.cells[2]? =some (.bool t.b):=id rfl
@[simp] theorem Kd.c3(t:Kd):t.cells[3]? =some (.int .u8 t.t):=id rfl
@[simp] theorem Kd.c4(t:Kd):t.cells[4]? =some (.bool t.n):=id rfl
@[simp] theorem Kd.c5(t:Kd):t.cells[5]? =some (.int .i64 t.lo):=id rfl
@[simp] theorem Kd.c6(t:Kd):t.cells[6]? =some (.bool t.kR):=id rfl
@[simp] theorem Kd.cc(t:Kd):cut t.cells 0 8=some t.cells:=cQ rfl
def MH(k:Kd)(r:Rl):Bool:=(decide (k.a≠0)||decide (r.a=[]))&&(k.b||decide (r.b=[]))&&(decide (k.t≠0)||decide (r.t=[]))&&(k.n||decide (r.n=0))
theorem asa (hc:Sem c)(k:Kd)(r:Rl)(st:St)(hw:Wf st):c 123 [.agg k.cells,.agg r.cells] st=some (.bool (MH k r),st):=by
 have cZ:Wf (ah st (.cells k.cells 0)):=bG hw;have xC:=Grew.ah cZ (.cells r.cells 0);have hg:=(Grew.ah hw (.cells k.cells 0)).trans xC;have p1:=xC.get (aA st (.cells k.cells 0));have p2:=aA (ah st (.cells k.cells 0)) (.cells r.cells 0);rw[Wv hc 1 (r:=(.bool (MH k r),ah (ah st (.cells k.cells 0)) (.cells r.cells 0))),aB (Plain.bool _) hg.keeps];rw[aaD];unfold MH;by_cases h0:k.a=0;rotate_left
 . cases  h2:k.b with
   |true=>
    by_cases h4:k.t=0;rotate_left
    .   cases h6:k.n with
        | true=>
          simp[h0,h2,h4,h6]
        | false=>
          by_cases h7:r.n=0
          .simp[h0,h2,h4,h6,h7]
          .simp[h0,h2,h4,h6,h7]
    by_cases h5:r.t=[]
    .   cases h6:k.n with
        | true=>
          simp[h0,h2,h4,h5,h6]
        | false=>
          by_cases h7:r.n=0
          .simp[h0,h2,h4,h5,h6,h7]
          .simp[h0,h2,h4,h5,h6,h7]
    .   simp[h0,h2,h4,h5]
   |false   =>
    by_cases h3:r.b=[]
    .   by_cases h4:k.t=0;rotate_left
        . cases h6:k.n with
          | true=>
            simp[h0,h2,h3,h4,h6]
          | false=>
            by_cases h7:r.n=0
            .simp[h0,h2,h3,h4,h6,h7]
            .simp[h0,h2,h3,h4,h6,h7]
        by_cases h5:r.t=[]
        . cases h6:k.n with
          | true=>
            simp[h0,h2,h3,h4,h5,h6]
          | false=>
            by_cases h7:r.n=0
            .simp[h0,h2,h3,h4,h5,h6,h7]
            .simp[h0,h2,h3,h4,h5,h6,h7]
        .simp[h0,h2,h3,h4,h5]
    .   simp[h0,h2,h3]
 by_cases h1:r.a=[]
 . cases  h2:k.b with
   |true=>
    by_cases h4:k.t=0;rotate_left
    .   cases h6:k.n with
        | true=>
          simp[h0,h1,h2,h4,h6]
        | false=>
          by_cases h7:r.n=0
          .simp[h0,h1,h2,h4,h6,h7]
          .simp[h0,h1,h2,h4,h6,h7]
    by_cases h5:r.t=[]
    .   cases h6:k.n with
        | true=>
          simp[h0,h1,h2,h4,h5,h6]
        | false=>
          by_cases h7:r.n=0
          .simp[h0,h1,h2,h4,h5,h6,h7]
          .simp[h0,h1,h2,h4,h5,h6,h7]
    .   simp[h0,h1,h2,h4,h5]
   |false   =>
    by_cases h3:r.b=[]
    .   by_cases h4:k.t=0;rotate_left
        . cases h6:k.n with
          | true=>
            simp[h0,h1,h2,h3,h4,h6]
          | false=>
            by_cases h7:r.n=0
            .simp[h0,h1,h2,h3,h4,h6,h7]
            .simp[h0,h1,h2,h3,h4,h6,h7]
        by_cases h5:r.t=[]
        . cases h6:k.n with
          | true=>
            simp[h0,h1,h2,h3,h4,h5,h6]
          | false=>
            by_cases h7:r.n=0
            .simp[h0,h1,h2,h3,h4,h5,h6,h7]
            .simp[h0,h1,h2,h3,h4,h5,h6,h7]
        .simp[h0,h1,h2,h3,h4,h5]
    .   simp[h0,h1,h2,h3]
 .simp[h0,h1]
theorem Dk{R:Type}(P:(List AV->St->Option R)->Prop){A:(List AV->St->Option R)->Option R}{T:List AV->St->Option R}{r:Option R}(hT:P T)(hA:∀j,P j->A j=r):bR A T=r:=hA T hT
theorem Ur{R:Type}(c:aj)(K:AV->St->Option R)(st:St)(es:Nat)(z:Bool)(rs:List (List AV))(k k':IntKind)(i j:Nat)(h:i<j)(h2:j<=rs.length):
  aq c (.sliceL es true true false) [ro es z rs,.int k (i:Int),.int k' (j:Int)] st K=K (ro es false ((rs.take j).drop i)) st:=by
 have:∀H n,aG.run H n (.sliceL es true true false) [ro es z rs,.int k (i:Int),.int k' (j:Int)]=some (.val (ro es false ((rs.take j).drop i))):=λH n=>by
  rw[aew (by intro e;subst e;simp at h2;omega)];have h3:i<=j:=by omega
  simp[aG.run,iZ,bounds,jJ,cU,cO,h3,h2,ro]
 exact aV c K this st
theorem af9(ts:List aE):∀(m k:Nat),(iO ts m k).2=0->∀i,k<=i->i<k+m->∀h:i<ts.length,sU ts[i]=0
 |0,k,_,i,h1,h2,_=>by omega
 |m +   1,k,h,i,h1,h2,hi=>by
  have hk:k<ts.length:=by omega
  rw[iO,H0 hk]at h;simp only at h;by_cases h3:sU ts[k]=0
  . rw[Za7 (by simp[h3])]at h;by_cases h4:0<=scan (vq ts ts[k].name) k 0
    .   rw[Zb6 h4]at h;simp at h
    .   rw[Za7 h4]at h;by_cases e:i=k
        .subst e;exact h3
        .exact af9 ts m (k+1) h i (by omega) (by omega) hi
  .rw[Zb6 h3]at h;exact absurd h h3
theorem Iv{ts:List aE}(h:(bU ts).2=0)(i:Nat)(hi:i<ts.length):sU ts[i]=0:=by
 unfold bU at h;split at h
 .simp at h
 .exact af9 ts ts.length 0 h i (by omega) (by omega) hi
theorem Iw{t:aE}(h:sU t=0):(bU [t]).2=0:=by
 simp[bU,iO,h,scan]
def gi(p:bS)(s:List Nat):Int:=scan (mB p.gs s) p.gs.length 0
def ti(p:bS)(s:List Nat):Int:=scan (vq p.ts s) p.ts.length 0
def AQ(p:bS)(i:Int):Int:=match p.ts[i.toNat]? with
 |some t=>bJ t
 |none=>0
def Cf(k:Kd)(r:Rl)(m:Int):Int:=if k.n=true/\(r.n<k.lo\/m<r.n)then 42 else 0
def ZW(k:Kd)(p:bS)(r:Rl):Int:=
 if(k.t=116/\ti p r.t<0)\/(k.t=101/\r.t≠[]/\ti p r.t<0)then 6
 else Cf k r (if k.kR=true then AQ p (ti p r.t) - 1 else 24)
def aeM(k:Kd)(p:bS)(r:Rl):Int:=
 if k.a=100/\oX r.a=false then 4 else if k.b=true/\r.a=r.b then 5 else ZW k p r
def TW(k:Kd)(p:bS)(r:Rl):Int:=
 if k.w=[]then 40 else if r.wt<0\/1000<r.wt then 41 else if MH k r=false then 43
 else if(k.a=103/\gi p r.a<0)\/(k.a=101/\r.a≠[]/\gi p r.a<0)\/(k.b=true/\gi p r.b<0)then 6
 else aeM k p r
theorem apn (hc : Sem c)(k:Kd)(hk:k.kR=true->k.t=116)(p:bS)(hp:p.Dh)(hv:(bU p.ts).2=0)(r:Rl)(st:St)(hw:Wf st):
   c 63 [.agg k.cells,.agg p.cells,.agg r.cells] st=some (.int .i64 (TW k p r),st):=by
 have cZ:Wf (ah st (.cells k.cells 0)):=bG hw;have tH:=bG (b:= .cells p.cells 0) cZ;have hg3:=Grew.ah tH (.cells r.cells 0);have xC:=Grew.ah cZ (.cells p.cells 0);have hg:=((Grew.ah hw (.cells k.cells 0)).trans xC).trans hg3;have hw3:=hg.wf;have p1:=hg3.get (xC.get (aA st (.cells k.cells 0)));have p2:=hg3.get (aA (ah st (.cells k.cells 0)) (.cells p.cells 0));have p3:=aA (ah (ah st (.cells k.cells 0)) (.cells p.cells 0)) (.cells r.cells 0);have A:=λs=>aov hc p hp s _ hw3
 have B:=asa hc k r _ hw3;have D:=aur hc p.tz p.ts hp.ok (by have:=hp.ts;unfold sH;omega) r.t _ hw3;have N:=ai0 hc r.a (ah (ah (ah st (.cells k.cells 0)) (.cells p.cells 0)) (.cells r.cells 0));rw[Ww hc 1 (r:=(.int .i64 (TW k p r),ah (ah (ah st (.cells k.cells 0)) (.cells p.cells 0)) (.cells r.cells 0))),aB (Plain.int _ _) hg.keeps];rw[aaE];simp only[cS,av,AV.cells];generalize ah (ah (ah st (.cells k.cells 0)) (.cells p.cells 0)) (.cells r.cells 0)=s at*
 generalize (ah (ah st (.cells k.cells 0)) (.cells p.cells 0)).next=q3 at*
 generalize (ah st (.cells k.cells 0)).next=q2 at*
 generalize st.next=q1 at*
 refine Dk (P:=λj=>j [.ptr q1 0,.ptr q2 0,.ptr q3 0] s=some (.int .i64 (ZW k p r),s)) ?_ ?_
 . have D2  : c 126 [tabs p.tz p.ts,.str r.t] s=some (.tuple [.int .i64 (if 0<=ti p r.t then ti p r.t else 0),.bool (decide (0<=ti p r.t))],s):=(by simp only[hv,Zm5]at D;exact D);have hit:=zz (P:=vq p.ts r.t) p.ts.length 0;clear D A B N hg xC hg3 hw cZ tH;unfold ZW;by_cases ht:0<=ti p r.t
   . have Yv  : ¬ ti p r.t<0:=(by omega);obtain⟨i,hi⟩:∃i:Nat,ti p r.t=(i:Int):=⟨(ti p r.t).toNat,by omega⟩
     have fH:i<p.ts.length:=(by have:=(hit ht).2.1;unfold ti at hi;rw[hi]at this;simpa using this);simp only[ht,Zh1,Zg6]at D2;by_cases h1:k.t=116
     .  simp[ p1,p2,p3,D2,h1,Yv];refine Dk (P:=λj=>∀m,j [.ptr q1 0,.ptr q3 0,.int .i64 m] s=some (.int .i64 (Cf k r m),s)) ?_ ?_
        . intro m;unfold Cf;cases hn:k.n with
          |false=>simp[p1,hn]
          | true=>
            by_cases e1:r.n<k.lo
            .simp[p1,p3,hn,e1]
            . by_cases e2:m<r.n
              .simp[p1,p3,hn,e1,e2]
              .simp[p1,p3,hn,e1,e2]
        . intro j hj;cases hs:k.kR with
          |false=>simp[p1,hs,hj]
          | true=>
            have w:ax .i64 ((i:Int)+1)=(i:Int)+1:=(by have:=hp.ts;exact wrap64 (by omega) (by omega));have cnt:=Hi hc false [p.ts[i]] (λt ht=>by simp only[Zh7]at ht;subst ht;exact hp.ok _ (Zb9 fH)) s hw3;rw[Zb6 (Iw (Iv hv i fH)),show bf [p.ts[i]]=bJ p.ts[i]by simp[bf]]at cnt;have b:=Bp p.ts[i];have w2:ax .i64 (bJ p.ts[i] - 1)=bJ p.ts[i] - 1:=wrap64 (by omega) (by omega);have hcut:∀K:AV->St->Option (AV×St),aq c (.sliceL 7 true true false) [tabs p.tz p.ts,.int .i64 (i:Int),.int .i64 ((i:Int)+1)] s K=K (tabs false [p.ts[i]]) s:=λK=>by
              (unfold tabs;have:=Ur c K s 7 p.tz (p.ts.map aE.cells) .i64 .i64 i (i+1) (by omega) (by rw[Za4];omega);rw[show((i:Int)+1)=((i+1:Nat):Int)by omega,this];have e:((p.ts.map aE.cells).take (i+1)).drop i=[p.ts[i]].map aE.cells:=by rw[Zc9 (by simpa using fH),Zg8 (by simp;omega)];simp);rw[e]
            have e3:AQ p (i:Int)=bJ p.ts[i]:=(by simp[AQ,fH]);simp[p1,p2,hs,hi,e3,w,hcut,cnt,hj,w2]
     .  by_cases h2 :k.t=101
        . by_cases h3:r.t=[]
          . simp only[h3]at D2 Yv hi;simp[p1,p2,p3,D2,h1,h2,h3,Yv];refine Dk (P:=λj=>∀m,j [.ptr q1 0,.ptr q3 0,.int .i64 m] s=some (.int .i64 (Cf k r m),s)) ?_ ?_
            . intro m;unfold Cf;cases hn:k.n with
              |false=>simp[p1,hn]
              | true=>
                by_cases e1:r.n<k.lo
                .simp[p1,p3,hn,e1]
                . by_cases e2:m<r.n
                  .simp[p1,p3,hn,e1,e2]
                  .simp[p1,p3,hn,e1,e2]
            . intro j hj;cases hs:k.kR with
              |false=>simp[p1,hs,hj]
              | true=>
                have w:ax .i64 ((i:Int)+1)=(i:Int)+1:=(by have:=hp.ts;exact wrap64 (by omega) (by omega));have cnt:=Hi hc false [p.ts[i]] (λt ht=>by simp only[Zh7]at ht;subst ht;exact hp.ok _ (Zb9 fH)) s hw3;rw[Zb6 (Iw (Iv hv i fH)),show bf [p.ts[i]]=bJ p.ts[i]by simp[bf]]at cnt;have b:=Bp p.ts[i];have w2:ax .i64 (bJ p.ts[i] - 1)=bJ p.ts[i] - 1:=wrap64 (by omega) (by omega);have hcut:∀K:AV->St->Option (AV×St),aq c (.sliceL 7 true true false) [tabs p.tz p.ts,.int .i64 (i:Int),.int .i64 ((i:Int)+1)] s K=K (tabs false [p.ts[i]]) s:=λK=>by
                  (unfold tabs;have:=Ur c K s 7 p.tz (p.ts.map aE.cells) .i64 .i64 i (i+1) (by omega) (by rw[Za4];omega);rw[show((i:Int)+1)=((i+1:Nat):Int)by omega,this];have e:((p.ts.map aE.cells).take (i+1)).drop i=[p.ts[i]].map aE.cells:=by rw[Zc9 (by simpa using fH),Zg8 (by simp;omega)];simp);rw[e]
                have e3:AQ p (i:Int)=bJ p.ts[i]:=(by simp[AQ,fH]);simp[p1,p2,hs,hi,e3,w,hcut,cnt,hj,w2]
          . simp[ p1,p2,p3,D2,h1,h2,h3,Yv];refine Dk (P:=λj=>∀m,j [.ptr q1 0,.ptr q3 0,.int .i64 m] s=some (.int .i64 (Cf k r m),s)) ?_ ?_
            . intro m;unfold Cf;cases hn:k.n with
              |false=>simp[p1,hn]
              | true=>
                by_cases e1:r.n<k.lo
                .simp[p1,p3,hn,e1]
                . by_cases e2:m<r.n
                  .simp[p1,p3,hn,e1,e2]
                  .simp[p1,p3,hn,e1,e2]
            . intro j hj;cases hs:k.kR with
              |false=>simp[p1,hs,hj]
              | true=>
                have w:ax .i64 ((i:Int)+1)=(i:Int)+1:=(by have:=hp.ts;exact wrap64 (by omega) (by omega));have cnt:=Hi hc false [p.ts[i]] (λt ht=>by simp only[Zh7]at ht;subst ht;exact hp.ok _ (Zb9 fH)) s hw3;rw[Zb6 (Iw (Iv hv i fH)),show bf [p.ts[i]]=bJ p.ts[i]by simp[bf]]at cnt;have b:=Bp p.ts[i];have w2:ax .i64 (bJ p.ts[i] - 1)=bJ p.ts[i] - 1:=wrap64 (by omega) (by omega);have hcut:∀K:AV->St->Option (AV×St),aq c (.sliceL 7 true true false) [tabs p.tz p.ts,.int .i64 (i:Int),.int .i64 ((i:Int)+1)] s K=K (tabs false [p.ts[i]]) s:=λK=>by
                  (unfold tabs;have:=Ur c K s 7 p.tz (p.ts.map aE.cells) .i64 .i64 i (i+1) (by omega) (by rw[Za4];omega);rw[show((i:Int)+1)=((i+1:Nat):Int)by omega,this];have e:((p.ts.map aE.cells).take (i+1)).drop i=[p.ts[i]].map aE.cells:=by rw[Zc9 (by simpa using fH),Zg8 (by simp;omega)];simp);rw[e]
                have e3:AQ p (i:Int)=bJ p.ts[i]:=(by simp[AQ,fH]);simp[p1,p2,hs,hi,e3,w,hcut,cnt,hj,w2]
        . simp[ p1,p2,p3,D2,h1,h2,Yv];refine Dk (P:=λj=>∀m,j [.ptr q1 0,.ptr q3 0,.int .i64 m] s=some (.int .i64 (Cf k r m),s)) ?_ ?_
          . intro m;unfold Cf;cases hn:k.n with
            |false=>simp[p1,hn]
            | true=>
              by_cases e1:r.n<k.lo
              .simp[p1,p3,hn,e1]
              . by_cases e2:m<r.n
                .simp[p1,p3,hn,e1,e2]
                .simp[p1,p3,hn,e1,e2]
          . intro j hj;cases hs:k.kR with
            |false=>simp[p1,hs,hj]
            | true=>
              have w:ax .i64 ((i:Int)+1)=(i:Int)+1:=(by have:=hp.ts;exact wrap64 (by omega) (by omega));have cnt:=Hi hc false [p.ts[i]] (λt ht=>by simp only[Zh7]at ht;subst ht;exact hp.ok _ (Zb9 fH)) s hw3;rw[Zb6 (Iw (Iv hv i fH)),show bf [p.ts[i]]=bJ p.ts[i]by simp[bf]]at cnt;have b:=Bp p.ts[i];have w2:ax .i64 (bJ p.ts[i] - 1)=bJ p.ts[i] - 1:=wrap64 (by omega) (by omega);have hcut:∀K:AV->St->Option (AV×St),aq c (.sliceL 7 true true false) [tabs p.tz p.ts,.int .i64 (i:Int),.int .i64 ((i:Int)+1)] s K=K (tabs false [p.ts[i]]) s:=λK=>by
                (unfold tabs;have:=Ur c K s 7 p.tz (p.ts.map aE.cells) .i64 .i64 i (i+1) (by omega) (by rw[Za4];omega);rw[show((i:Int)+1)=((i+1:Nat):Int)by omega,this];have e:((p.ts.map aE.cells).take (i+1)).drop i=[p.ts[i]].map aE.cells:=by rw[Zc9 (by simpa using fH),Zg8 (by simp;omega)];simp);rw[e]
              have e3:AQ p (i:Int)=bJ p.ts[i]:=(by simp[AQ,fH]);simp[p1,p2,hs,hi,e3,w,hcut,cnt,hj,w2]
   . have Yv  : ti p r.t<0:=(by omega);simp only[ht,Zg7,Zq1]at D2;by_cases h1:k.t=116
     .  simp[p1,p2,p3,D2,h1,Yv]
     .  by_cases h2:k.t=101
        . by_cases h3:r.t=[]
          . simp only[h3]at D2 Yv;simp[p1,p2,p3,D2,h1,h2,h3,Yv];refine Dk (P:=λj=>∀m,j [.ptr q1 0,.ptr q3 0,.int .i64 m] s=some (.int .i64 (Cf k r m),s)) ?_ ?_
            . intro m;unfold Cf;cases hn:k.n with
              |false=>simp[p1,hn]
              | true=>
                by_cases e1:r.n<k.lo
                .simp[p1,p3,hn,e1]
                . by_cases e2:m<r.n
                  .simp[p1,p3,hn,e1,e2]
                  .simp[p1,p3,hn,e1,e2]
            . intro j hj;have hs:k.kR=false:=by
                cases h:k.kR with
                |false=>rfl
                |true=>exact absurd (hk h) h1
              simp[p1,hs,hj]
          .simp[p1,p2,p3,D2,h1,h2,h3,Yv]
        . simp[ p1,p2,p3,D2,h1,h2,Yv];refine Dk (P:=λj=>∀m,j [.ptr q1 0,.ptr q3 0,.int .i64 m] s=some (.int .i64 (Cf k r m),s)) ?_ ?_
          . intro m;unfold Cf;cases hn:k.n with
            |false=>simp[p1,hn]
            | true=>
              by_cases e1:r.n<k.lo
              .simp[p1,p3,hn,e1]
              . by_cases e2:m<r.n
                .simp[p1,p3,hn,e1,e2]
                .simp[p1,p3,hn,e1,e2]
          . intro j hj;have hs:k.kR=false:=by
              cases h:k.kR with
              |false=>rfl
              |true=>exact absurd (hk h) h1
            simp[p1,hs,hj]
 . intro  j hj;have A2:∀nm,c 124 [.agg p.cells,.str nm] s=some (.int .i64 (gi p nm),s):=A;have cc:cut r.cells 0 6=some r.cells:=cQ rfl;clear A D hg xC hg3 hw cZ tH;unfold TW;by_cases h0:k.w=[]
   .simp[p1,h0]
   by_cases h1:r.wt<0
   .simp[p1,p3,h0,h1]
   by_cases h2:1000<r.wt
   .simp[p1,p3,h0,h1,h2]
   cases h3:MH k r with
   |false=>simp[p1,p3,h0,h1,h2,B,h3]
   |true=>
   simp[p1,p3,h0,h1,h2,B,h3];refine Dk (P:=λj'=>∀b:Bool,j' [.ptr q1 0,.ptr q2 0,.ptr q3 0,.bool b] s=some (.int .i64 (if b=true then 6 else aeM k p r),s)) ?_ ?_
   . intro  b;cases b with
     |true=>simp
     |  false =>
        unfold aeM;by_cases a1:k.a=100
        . cases a2:oX r.a with
          |false=>simp[p1,p3,a1,a2,N]
          | true=>
            cases b1:k.b with
            |false=>simp[p1,p3,a1,a2,N,b1,hj]
            | true=>
              by_cases b2:r.a=r.b
              .rw[b2]at a2 N;simp[p1,p3,a1,a2,N,b1,b2]
              .simp[p1,p3,a1,a2,N,b1,b2,hj]
        . cases b1:k.b with
          |false=>simp[p1,p3,a1,b1,hj]
          | true=>
            by_cases b2:r.a=r.b
            .simp[p1,p3,a1,b1,b2]
            .simp[p1,p3,a1,b1,b2,hj]
   . intro  j' Mf;have K6:=Mf true;have K0:=Mf false;simp only[Zh1,Zf0,Zg7]at K6 K0;clear Mf hj;by_cases a1:k.a=103
     .  by_cases g1:gi p r.a<0
        .simp[p1,p2,p3,a1,A2,g1,K6]
        . cases b1:k.b with
          |false=>simp[p1,p2,p3,a1,A2,g1,b1,K0]
          | true=>
            by_cases g2:gi p r.b<0
            .simp[p1,p2,p3,a1,A2,g1,g2,b1,K6]
            .simp[p1,p2,p3,a1,A2,g1,g2,b1,K0]
     .  by_cases a2:k.a=101
        . by_cases e:r.a=[]
          . cases b1:k.b with
            |false=>simp[p1,p2,p3,a1,a2,e,A2,b1,K0]
            | true=>
              by_cases g2:gi p r.b<0
              .simp[p1,p2,p3,a1,a2,e,A2,g2,b1,K6]
              .simp[p1,p2,p3,a1,a2,e,A2,g2,b1,K0]
          . by_cases g1:gi p r.a<0
            .simp[p1,p2,p3,a1,a2,e,A2,g1,K6]
            . cases b1:k.b with
              |false=>simp[p1,p2,p3,a1,a2,e,A2,g1,b1,K0]
              | true=>
                by_cases g2:gi p r.b<0
                .simp[p1,p2,p3,a1,a2,e,A2,g1,g2,b1,K6]
                .simp[p1,p2,p3,a1,a2,e,A2,g1,g2,b1,K0]
        . cases b1:k.b with
          |false=>simp[p1,p2,p3,a1,a2,A2,b1,K0]
          | true=>
            by_cases g2:gi p r.b<0
            .simp[p1,p2,p3,a1,a2,A2,g2,b1,K6]
            .simp[p1,p2,p3,a1,a2,A2,g2,b1,K0]
end
end Go.Proofs.YtmldijpopgaaeaaGreatDoor
