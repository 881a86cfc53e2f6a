/- What the checks answer. -/
import Derived.Test.YtgihekklfnjkiaaGreatDoorTPlainA
set_option linter.all false
set_option linter.unusedSectionVars false
set_option linter.deprecated false
namespace Go.Proofs.YtgihekklfnjkiaaGreatDoor
section
set_option maxRecDepth 100000
open Go Go.Ai Go.Proofs
variable{c : au}
def pK(s:List Nat):Bool:=decide (1<=s.length)&&decide (s.length<=12)&&s.all λc=>decide (97<=c/\c<=122)
structure aB where
 name:List Nat
 sh:Int
 a:Int
 b:Int
 oz:Bool
 jr:List Int
 x:Int
 y:Int
def ints(z:Bool)(l:List Int):AV:=ro 1 z (l.map λi=>[.int .i64 i])
def aB.cells(t:aB):List AV:=[.str t.name,.int .u8 t.sh,.int .i64 t.a,.int .i64 t.b,ints t.oz t.jr,.int .i64 t.x,.int .i64 t.y]
theorem acH(z:Bool)(l:List Int):Plain (ints z l):=Plain.ro λcs h v hv=>by simp only[Zc7]at h;obtain⟨i,_,rfl⟩:=h;simp only[Zh8]at hv;subst hv;exact Plain.int _ _
@[simp] theorem aqk(z:Bool)(l:List Int):(ints z l).one=true:=anb _ _ _
def bJ(t:aB):Int:=
 if t.sh=1 then(if 1<=t.a/\t.a<=24/\t.b=0 then t.a else 0)
 else if t.sh=2 then(if 1<=t.a/\t.a<=11/\0<=t.b/\t.b<=2 then 2*t.a+t.b else 0)
 else if t.sh=3 then(if 1<=t.a/\t.a<=8/\1<=t.b/\t.b<=8 then t.a+2*t.b else 0)
 else if t.sh=4 then(if 1<=t.a/\t.a<=24/\0<=t.b/\t.b<=t.a then t.a else 0)
 else 0
theorem afB(hc:Sem c)(a b:Int)(st:St):c 204 [.int .i64 a,.int .i64 b] st=some (.int .i64 (if 1<=a/\a<=24/\b=0 then a else 0),st):=by
 rw[Vq hc 1 (r:=(.int .i64 (if 1<=a/\a<=24/\b=0 then a else 0),st)),aE (Plain.int _ _) (aT.refl st)];rw[Zt];by_cases h1:a<1
 . have:¬1<=a:=(by omega);simp[h1,this]
 . by_cases h2:24<a
   . have:¬a<=24:=(by omega);simp[h1,h2,this]
   . have h3:1<=a:=(by omega);have h4:a<=24:=(by omega);by_cases h5:b=0<;>simp[h1,h2,h3,h4,h5]
theorem ahU(hc:Sem c)(a b:Int)(st:St):c 209 [.int .i64 a,.int .i64 b] st=some (.int .i64 (if 1<=a/\a<=11/\0<=b/\b<=2 then 2*a+b else 0),st):=by
 rw[Xv hc 1 (r:=(.int .i64 (if 1<=a/\a<=11/\0<=b/\b<=2 then 2*a+b else 0),st)),aE (Plain.int _ _) (aT.refl st)];rw[abm];by_cases h1:a<1
 . have:¬1<=a:=(by omega);simp[h1,this]
 by_cases h2:11<a
 . have:¬a<=11:=(by omega);simp[h1,h2,this]
 by_cases h3:b<0
 . have:¬0<=b:=(by omega);simp[h1,h2,h3,this]
 by_cases h4:2<b
 . have:¬b<=2:=(by omega);simp[h1,h2,h3,h4,this]
 have h5:1<=a:=by omega
 have h6:a<=11:=by omega
 have h7:0<=b:=by omega
 have h8:b<=2:=by omega
 have w1:ax .i64 (2*a)=2*a:=wrap64 (by omega) (by omega);have w2:ax .i64 (2*a+b)=2*a+b:=wrap64 (by omega) (by omega);simp[h1,h2,h3,h4,h5,h6,h7,h8,w1,w2]
theorem ahV(hc:Sem c)(a b:Int)(st:St):c 214 [.int .i64 a,.int .i64 b] st=some (.int .i64 (if 1<=a/\a<=8/\1<=b/\b<=8 then a+2*b else 0),st):=by
 rw[Xw hc 1 (r:=(.int .i64 (if 1<=a/\a<=8/\1<=b/\b<=8 then a+2*b else 0),st)),aE (Plain.int _ _) (aT.refl st)];rw[abn];by_cases h1:a<1
 . have:¬1<=a:=(by omega);simp[h1,this]
 by_cases h2:8<a
 . have:¬a<=8:=(by omega);simp[h1,h2,this]
 by_cases h3:b<1
 . have:¬1<=b:=(by omega);simp[h1,h2,h3,this]
 by_cases h4:8<b
 . have:¬b<=8:=(by omega);simp[h1,h2,h3,h4,this]
 have h5:1<=a:=by omega
 have h6:a<=8:=by omega
 have h7:1<=b:=by omega
 have h8:b<=8:=by omega
 have w1:ax .i64 (2*b)=2*b:=wrap64 (by omega) (by omega);have w2:ax .i64 (a+2*b)=a+2*b:=wrap64 (by omega) (by omega);simp[h1,h2,h3,h4,h5,h6,h7,h8,w1,w2]
theorem ajo(hc:Sem c)(a b:Int)(st:St):c 219 [.int .i64 a,.int .i64 b] st=some (.int .i64 (if 1<=a/\a<=24/\0<=b/\b<=a then a else 0),st):=by
 rw[Zu hc 1 (r:=(.int .i64 (if 1<=a/\a<=24/\0<=b/\b<=a then a else 0),st)),aE (Plain.int _ _) (aT.refl st)];rw[acI];by_cases h1:a<1
 . have:¬1<=a:=(by omega);simp[h1,this]
 by_cases h2:24<a
 . have:¬a<=24:=(by omega);simp[h1,h2,this]
 by_cases h3:b<0
 . have:¬0<=b:=(by omega);simp[h1,h2,h3,this]
 by_cases h4:a<b
 . have:¬b<=a:=(by omega);simp[h1,h2,h3,h4,this]
 have h5:1<=a:=by omega
 have h6:a<=24:=by omega
 have h7:0<=b:=by omega
 have h8:b<=a:=by omega
 simp[h1,h2,h3,h4,h5,h6,h7,h8]
def iq(sh:Int):List AV:=
 if sh=1 then [.str [114,111,117,110,100],.func 204 [] [],.func 205 [] [],.func 206 [] [],.func 207 [] [],.func 208 [] []]
 else if sh=2 then [.str [108,111,110,103],.func 209 [] [],.func 210 [] [],.func 211 [] [],.func 212 [] [],.func 213 [] []]
 else if sh=3 then [.str [104,111,114,115,101,115,104,111,101],.func 214 [] [],.func 215 [] [],.func 216 [] [],.func 217 [] [],.func 218 [] []]
 else if sh=4 then [.str [114,111,119],.func 219 [] [],.func 220 [] [],.func 221 [] [],.func 222 [] [],.func 223 [] []]
 else [.str [],.iI,.iI,.iI,.iI,.iI]
theorem plain_fn(f:Nat):Plain (.func f [] []):=Plain.func f (by simp) (by simp)
theorem anV(sh:Int):∀v∈iq sh,Plain v:=by
 unfold iq;intro v hv
 repeat' split at hv
 all_goals
  simp only[Za8,Zb7,Ze4]at hv;rcases hv with rfl|rfl|rfl|rfl|rfl|rfl<;>first|exact Plain.str _|exact Plain.iI|exact plain_fn _
theorem fM(hc:Sem c)(sh:Int)(st:St)(hw:Wf st):c 180 [.int .u8 sh] st=some (.tuple [.agg (iq sh),.bool (decide (1<=sh/\sh<=4))],st):=by
 have hp:Plain (.tuple [.agg (iq sh),.bool (decide (1<=sh/\sh<=4))]):=Plain.tuple λv hv=>by
   simp only[Za8,Zb7,Ze4]at hv;rcases hv with rfl|rfl
   . exact Plain.agg (anV sh)
   . exact Plain.bool _
 rw[Zv hc 1 (r:=(.tuple [.agg (iq sh),.bool (decide (1<=sh/\sh<=4))],ah st (.cells (iq sh) 0))),aE hp (cm hw)];rw[acJ];by_cases h1:sh=1
 . subst h1;simp[iq,AV.cells,aM,AV.one,cM,bY,aU,cU]
 by_cases h2:sh=2
 . subst h2;simp[iq,AV.cells,aM,AV.one,cM,bY,aU,cU]
 by_cases h3:sh=3
 . subst h3;simp[iq,AV.cells,aM,AV.one,cM,bY,aU,cU]
 by_cases h4:sh=4
 . subst h4;simp[iq,AV.cells,aM,AV.one,cM,bY,aU,cU]
 have h5:decide (1<=sh/\sh<=4)=false:=by simp;omega
 rw[h5];simp[iq,AV.cells,aM,AV.one,cM,bY,aU,cU,h1,h2,h3,h4]
theorem QT(hc:Sem c)(t:aB)(st:St)(hw:Wf st):c 121 [.agg t.cells] st=some (.int .i64 (bJ t),st):=by
 rw[afC hc 1 (r:=(.int .i64 (bJ t),ah (ah st (.cells t.cells 0)) (.cells (iq t.sh) 0))),aE (Plain.int _ _) ((cm hw).trans (cm (bn hw)))];rw[ajp];obtain⟨name,sh,a,b,oz,jr,x,y⟩:=t;by_cases h1:sh=1
 . subst h1;simp[aB.cells,AV.cells,fM hc,hw,bJ,iq,aM,AV.one,afB hc]
 by_cases h2:sh=2
 . subst h2;simp[aB.cells,AV.cells,fM hc,hw,bJ,iq,aM,AV.one,ahU hc]
 by_cases h3:sh=3
 . subst h3;simp[aB.cells,AV.cells,fM hc,hw,bJ,iq,aM,AV.one,ahV hc]
 by_cases h4:sh=4
 . subst h4;simp[aB.cells,AV.cells,fM hc,hw,bJ,iq,aM,AV.one,ajo hc]
 have h5:decide (1<=sh/\sh<=4)=false:=by simp;omega
 simp[aB.cells,AV.cells,fM hc,hw,bJ,iq,aM,AV.one,h1,h2,h3,h4,h5]
def xj:Nat:=9223372036854775808
theorem acK(s:List Nat)(hs:s.length<=12)(F:Nat)(st:St)(k1 k2):∀(m k:Nat),s.length<=k+m->k<=s.length->
  sI c F k1 k2 (m+1) [.str s,.int .i64 (s.length:Int),.int .i64 (k:Int)] st=if(s.drop k).all (λc=>decide (97<=c/\c<=122))=true then k2 [] st else k1 [.bool false] st:=by
 intro m;induction m with
 |zero=>
  intro k h1 h2;rw[Oe];obtain rfl:k=s.length:=by omega
  simp
 |succ m ih=>
  intro k h1 h2;rw[Oe];by_cases h:k<s.length
  . have e:s.drop k=s[k]::s.drop (k+1):=Zd9 h;have:=ih (k+1) (by omega) (by omega);have w:ax .i64 ((k:Int)+1)=((k+1:Nat):Int):=wrap64 (by omega) (by omega);rw[e,List.all_cons];generalize (s.drop (k+1)).all _=rest at this ⊢;by_cases h3:(s[k]:Int)<97
    .   have h5:decide (97<=s[k]/\s[k]<=122)=false:=(by simp;omega);simp[h,h3,h5]
    .   by_cases h4:122<(s[k]:Int)
        . have h5:decide (97<=s[k]/\s[k]<=122)=false:=(by simp;omega);simp[h,h3,h4,h5]
        . have h5:decide (97<=s[k]/\s[k]<=122)=true:=(by simp;omega);rw[h5,Zf6, <-this];simp[h,h3,h4,w]
  . obtain rfl:k=s.length:=(by omega);simp
theorem IW(hc:Sem c)(s:List Nat)(st:St):c 225 [.str s] st=some (.bool (pK s),st):=by
 rw[adY hc (s.length+1) (r:=(.bool (pK s),st)),aE (Plain.bool _) (aT.refl st)];rw[ahW];by_cases h0:(s.length:Int)=0
 . have h1:¬1<=s.length:=(by omega);have h2:s=[]:=Zc5 (by omega);subst h2;simp[pK]
 . by_cases h1:12<(s.length:Int)
   . have h2:¬s.length<=12:=(by omega);have h3:¬s=[]:=(by intro e;subst e;simp at h0);simp[pK,h1,h2,h3]
   . have h2:s.length<=12:=(by omega);have h3:1<=s.length:=(by omega);have h4:¬s=[]:=(by intro e;subst e;simp at h0);have L:∀k1 k2,sI c (s.length+1) k1 k2 (s.length+1) [.str s,.int .i64 (s.length:Int),.int .i64 0] st=if(s.drop 0).all (λc=>decide (97<=c/\c<=122))=true then k2 [] st else k1 [.bool false] st:=
        λk1 k2=>acK (c:=c) s h2 (s.length+1) st k1 k2 s.length 0 (by omega) (by omega)
     rw[Zf3]at L;have e:pK s=s.all λc=>decide (97<=c/\c<=122):=(by simp[pK,h2,h3]);rw[e];generalize (s.all _)=b at L ⊢;simp[h1,h4,L];cases b<;>simp
theorem adZ(s:List Nat)(hs:s.length<=12)(F:Nat)(st:St)(k1 k2):∀(m k:Nat),s.length<=k+m->k<=s.length->
  uM c F k1 k2 (m+1) [.str s,.int .i64 (s.length:Int),.int .i64 (k:Int)] st=if(s.drop k).all (λc=>decide (97<=c/\c<=122))=true then k2 [] st else k1 [.bool false] st:=by
 intro m;induction m with
 |zero=>
  intro k h1 h2;rw[QU];obtain rfl:k=s.length:=by omega
  simp
 |succ m ih=>
  intro k h1 h2;rw[QU];by_cases h:k<s.length
  . have e:s.drop k=s[k]::s.drop (k+1):=Zd9 h;have:=ih (k+1) (by omega) (by omega);have w:ax .i64 ((k:Int)+1)=((k+1:Nat):Int):=wrap64 (by omega) (by omega);rw[e,List.all_cons];generalize (s.drop (k+1)).all _=rest at this ⊢;by_cases h3:(s[k]:Int)<97
    .   have h5:decide (97<=s[k]/\s[k]<=122)=false:=(by simp;omega);simp[h,h3,h5]
    .   by_cases h4:122<(s[k]:Int)
        . have h5:decide (97<=s[k]/\s[k]<=122)=false:=(by simp;omega);simp[h,h3,h4,h5]
        . have h5:decide (97<=s[k]/\s[k]<=122)=true:=(by simp;omega);rw[h5,Zf6, <-this];simp[h,h3,h4,w]
  . obtain rfl:k=s.length:=(by omega);simp
theorem ahX(hc:Sem c)(s:List Nat)(st:St):c 110 [.str s] st=some (.bool (pK s),st):=by
 rw[afD hc (s.length+1) (r:=(.bool (pK s),st)),aE (Plain.bool _) (aT.refl st)];rw[ajq];by_cases h0:(s.length:Int)=0
 . have h1:¬1<=s.length:=(by omega);have h2:s=[]:=Zc5 (by omega);subst h2;simp[pK]
 . by_cases h1:12<(s.length:Int)
   . have h2:¬s.length<=12:=(by omega);have h3:¬s=[]:=(by intro e;subst e;simp at h0);simp[pK,h1,h2,h3]
   . have h2:s.length<=12:=(by omega);have h3:1<=s.length:=(by omega);have h4:¬s=[]:=(by intro e;subst e;simp at h0);have L:∀k1 k2,uM c (s.length+1) k1 k2 (s.length+1) [.str s,.int .i64 (s.length:Int),.int .i64 0] st=if(s.drop 0).all (λc=>decide (97<=c/\c<=122))=true then k2 [] st else k1 [.bool false] st:=
        λk1 k2=>adZ (c:=c) s h2 (s.length+1) st k1 k2 s.length 0 (by omega) (by omega)
     rw[Zf3]at L;have e:pK s=s.all λc=>decide (97<=c/\c<=122):=(by simp[pK,h2,h3]);rw[e];generalize (s.all _)=b at L ⊢;simp[h1,h4,L];cases b<;>simp
theorem ad0(s:List Nat)(hs:s.length<xj)(F:Nat)(st:St)(k1 k2):∀(m k:Nat),s.length<=k+m->k<=s.length->
  uN c F k1 k2 (m+1) [.str s,.int .i64 (k:Int)] st=if(s.drop k).all (λc=>decide (97<=c/\c<=122))=true then k2 [.str s] st else k1 [.bool false] st:=by
 intro m;induction m with
 |zero=>
  intro k h1 h2;rw[QV];obtain rfl:k=s.length:=by omega
  simp
 |succ m ih=>
  intro k h1 h2;rw[QV];by_cases h:k<s.length
  . have e:s.drop k=s[k]::s.drop (k+1):=Zd9 h;have:=ih (k+1) (by omega) (by omega);have w:ax .i64 ((k:Int)+1)=((k+1:Nat):Int):=wrap64 (by omega) (by unfold xj at hs;omega);rw[e,List.all_cons];generalize (s.drop (k+1)).all _=rest at this ⊢;by_cases h3:(s[k]:Int)<97
    .   have h5:decide (97<=s[k]/\s[k]<=122)=false:=(by simp;omega);simp[h,h3,h5]
    .   by_cases h4:122<(s[k]:Int)
        . have h5:decide (97<=s[k]/\s[k]<=122)=false:=(by simp;omega);simp[h,h3,h4,h5]
        . have h5:decide (97<=s[k]/\s[k]<=122)=true:=(by simp;omega);rw[h5,Zf6, <-this];simp[h,h3,h4,w]
  . obtain rfl:k=s.length:=(by omega);simp
theorem ahY(hc:Sem c)(s:List Nat)(hs:s.length<xj)(st:St):c 203 [.str s] st=some (.bool (pK s),st):=by
 rw[afE hc (s.length+1) (r:=(.bool (pK s),st)),aE (Plain.bool _) (aT.refl st)];rw[ajr];have L:∀k1 k2,uN c (s.length+1) k1 k2 (s.length+1) [.str s,.int .i64 0] st=if(s.drop 0).all (λc=>decide (97<=c/\c<=122))=true then k2 [.str s] st else k1 [.bool false] st:=
   λk1 k2=>ad0 (c:=c) s hs (s.length+1) st k1 k2 s.length 0 (by omega) (by omega)
 rw[Zf3]at L;have e:pK s=(decide (1<=s.length)&&decide (s.length<=12)&&s.all λc=>decide (97<=c/\c<=122)):=rfl;rw[e];generalize (s.all _)=b at L ⊢;simp[L];cases b
 . simp
 . by_cases h1:(1:Int)<=s.length
   . have h2:1<=s.length:=(by omega);by_cases h3:(s.length:Int)<=12
     .  have h4:s.length<=12:=(by omega);simp[h1,h2,h3,h4]
     .  have h4:¬s.length<=12:=(by omega);simp[h1,h2,h3,h4]
   . have h2:¬1<=s.length:=(by omega);simp[h1,h2]
def An(s:List Nat):Bool:=decide (s=[])||pK s
theorem IX(hc:Sem c)(s:List Nat)(st:St):c 226 [.str s] st=some (.bool (An s),st):=by
 rw[ad1 hc 1 (r:=(.bool (An s),st)),aE (Plain.bool _) (aT.refl st)];rw[ahZ];by_cases h:s=[]<;>simp[h,An,IW hc]
def Tj(n last:Int):List Int->Bool
 |[]=>true
 |k::l=>decide (last<k)&&decide (k<n)&&Tj n k l
def rZ(t:aB):Int:=
 if pK t.name=false then 4 else if bJ t=0 then 10 else if Tj (bJ t) (-1) t.jr=false then 11
 else if 0<=t.x/\t.x<=1000/\0<=t.y/\t.y<=1000 then 0 else 2
structure aB.Ok(t:aB):Prop where
 name:t.name.length<xj
 jr:t.jr.length<xj
theorem ahN(l:List Int)(k:Nat)(h:k<l.length):((l.map λi=>[AV.int .i64 i])[k]?.bind λcs=>cs[0]?)=some (.int .i64 l[k]):=by
 simp[Zb4,H0 h]
theorem acL(p:Pos)(n:Int)(z:Bool)(l:List Int)(hl:l.length<xj)(F:Nat)(st:St)(k1 k3):∀(m k:Nat)(last:Int),l.length<=k+m->k<=l.length->
  sJ c F k1 k3 (m+1) [.ptr p 0,.int .i64 n,.int .i64 last,ints z l,.int .i64 (l.length:Int),.int .i64 (k:Int)] st=if Tj n last (l.drop k)=true then k3 [.ptr p 0] st else k1 [.int .i64 11] st:=by
 intro m;induction m with
 |zero=>
  intro k last h1 h2;rw[Of];obtain rfl:k=l.length:=by omega
  simp[Tj]
 |succ m ih=>
  intro k last h1 h2;rw[Of];by_cases h:k<l.length
  . have e:l.drop k=l[k]::l.drop (k+1):=Zd9 h;have:=ih (k+1) l[k] (by omega) (by omega);have w:ax .i64 ((k:Int)+1)=((k+1:Nat):Int):=wrap64 (by omega) (by unfold xj at hl;omega);have g:=ahN l k h;rw[e,Tj];generalize Tj n l[k] (l.drop (k+1))=rest at this ⊢;by_cases h3:l[k]<=last
    .   have h4:¬last<l[k]:=(by omega);simp[ints,h,h3,h4,g]
    .   have h4:last<l[k]:=(by omega);by_cases h5:n<=l[k]
        . have h6:¬l[k]<n:=(by omega);simp[ints,h,h3,h4,h5,h6,g]
        . have h6:l[k]<n:=(by omega);simp only[h4,h6,Zh2,Zf6];rw[<-this];simp[ints,h,h3,h4,h5,h6,g,w]
  . obtain rfl:k=l.length:=(by omega);simp[Tj]
theorem aql(hc:Sem c)(t:aB)(ht:t.Ok)(st:St)(hw:Wf st):c 158 [.agg t.cells] st=some (.int .i64 (rZ t),st):=by
 rw[ad2 hc (t.jr.length+1) (r:=(.int .i64 (rZ t),ah st (.cells t.cells 0))),aE (Plain.int _ _) (cm hw)];rw[ah0];have hs:=QT hc t (ah st (.cells t.cells 0)) (bn hw);have hn:=ahY hc t.name ht.name;have hg:(ah st (.cells t.cells 0)).heap.get st.next=some (.cells t.cells 0):=az _ _;have c0:t.cells[0]? =some (.str t.name):=rfl;have c4:t.cells[4]? =some (ints t.oz t.jr):=rfl;have c5:t.cells[5]? =some (.int .i64 t.x):=rfl;have c6:t.cells[6]? =some (.int .i64 t.y):=rfl;have cc:cut t.cells 0 7=some t.cells:=cM rfl
 have L:∀k1 k3,sJ c (t.jr.length+1) k1 k3 (t.jr.length+1) [.ptr st.next 0,.int .i64 (bJ t),.int .i64 (-1),ints t.oz t.jr,.int .i64 (t.jr.length:Int),.int .i64 0] (ah st (.cells t.cells 0))=
     if Tj (bJ t) (-1) (t.jr.drop 0)=true then k3 [.ptr st.next 0] (ah st (.cells t.cells 0))else k1 [.int .i64 11] (ah st (.cells t.cells 0)):=
   λk1 k3=>acL st.next (bJ t) t.oz t.jr ht.jr _ _ k1 k3 t.jr.length 0 (-1) (by omega) (by omega)
 rw[Zf3]at L;have lI:∀(K:AV->St->Option (AV×St))(s:St),aq c (.lenB .l) [ints t.oz t.jr] s K=K (.int .i64 (t.jr.length:Int)) s:=λK s=>by unfold ints;rw[fE];simp
 unfold rZ;generalize t.cells=tc at*
 generalize bJ t=sz at*
 generalize Tj sz (-1) t.jr=op at*
 by_cases h1:pK t.name=true
 . by_cases h2:sz=0
   . simp[AV.cells,hs,hn,hg,c0,cc,h1,h2]
   . cases op
     .  simp[AV.cells,hs,hn,hg,c0,c4,cc,h1,h2,lI,L]
     .  by_cases h3:t.x<0
        . have:¬0<=t.x:=(by omega);simp[AV.cells,hs,hn,hg,c0,c4,c5,c6,cc,h1,h2,lI,L,h3,this]
        by_cases h4:1000<t.x
        . have:¬t.x<=1000:=(by omega);simp[AV.cells,hs,hn,hg,c0,c4,c5,c6,cc,h1,h2,lI,L,h3,h4,this]
        by_cases h5:t.y<0
        . have:¬0<=t.y:=(by omega);simp[AV.cells,hs,hn,hg,c0,c4,c5,c6,cc,h1,h2,lI,L,h3,h4,h5,this]
        by_cases h6:1000<t.y
        . have:¬t.y<=1000:=(by omega);simp[AV.cells,hs,hn,hg,c0,c4,c5,c6,cc,h1,h2,lI,L,h3,h4,h5,h6,this]
        have h7:0<=t.x:=(by omega);have h8:t.x<=1000:=(by omega);have h9:0<=t.y:=(by omega);have Xu:t.y<=1000:=(by omega);simp[AV.cells,hs,hn,hg,c0,c4,c5,c6,cc,h1,h2,lI,L,h3,h4,h5,h6,h7,h8,h9,Xu]
 . simp[AV.cells,hs,hn,hg,c0,cc,h1]
theorem Bf(t:aB):0<=bJ t/\bJ t<=1000:=by
 unfold bJ;repeat' split
 all_goals omega
def scan(P:Nat->Bool):Nat->Nat->Int
 |0,_=> -1
 |m+1,k=>if P k=true then(k:Int)else scan P m (k+1)
theorem ad3(P:Nat->Bool):∀(m k:Nat),-1<=scan P m k/\(scan P m k<0->scan P m k= -1)
 |0,_=>by simp[scan]
 |m+1,k=>by
  unfold scan;split
  . omega
  . exact ad3 P m (k+1)
theorem acM{P Q:Nat->Bool}:∀(m k:Nat),(∀i,k<=i->i<k+m->P i=Q i)->scan P m k=scan Q m k
 |0,_,_=>rfl
 |m+1,k,h=>by
  unfold scan;rw[h k (by omega) (by omega),acM m (k+1) λi h1 h2=>h i (by omega) (by omega)]
theorem B7{P:Nat->Bool}:∀(m k:Nat),0<=scan P m k->k<=(scan P m k).toNat/\(scan P m k).toNat<k+m/\P (scan P m k).toNat=true
 |0,k,h=>by simp[scan]at h
 |m +1,k,h=>by
  unfold scan at h ⊢;split
  . rename_i hp;simp;exact hp
  . rename_i hp;rw[Za7 hp]at h;have:=B7 m (k+1) h;exact⟨by omega,by omega,this.2.2⟩
def tabs(z:Bool)(ts:List aB):AV:=ro 7 z (ts.map aB.cells)
@[simp] theorem aB.c0(t:aB):t.cells[0]? =some (.str t.name):=id rfl
@[simp] theorem aB.c1(t:aB):t.cells[1]? =some (.int .u8 t.sh):=id rfl
@[simp] theorem aB.c2(t:aB):t.cells[2]? =some (.int .i64 t.a):=id rfl
@[simp] theorem aB.c3(t:aB):t.cells[3]? =some (.int .i64 t.b):=id rfl
@[simp] theorem aB.c4(t:aB):t.cells[4]? =some (ints t.oz t.jr):=id rfl
@[simp] theorem aB.c5(t:aB):t.cells[5]? =some (.int .i64 t.x):=id rfl
@[simp] theorem aB.c6(t:aB):t.cells[6]? =some (.int .i64 t.y):=id rfl
@[simp] theorem aB.cc(t:aB):cut t.cells 0 7=some t.cells:=cM rfl
theorem aB.len(t:aB):t.cells.length=7:=id rfl
@[simp] theorem aB.one(t:aB):aM t.cells=true:=by unfold aB.cells;simp only[aM,aqk];rfl
@[simp] theorem Xx(l:List AV):(AV.agg l).cells=l:=id rfl
def xk(ts:List aB)(s:List Nat)(i:Nat):Bool:=decide (ts[i]?.map aB.name=some s)
def iF(ts:List aB):Nat->Nat->Int×Int
 |0,_=>(0,0)
 |  m+1,k=>match ts[k]? with
    |none=>(0,0)
    |some t=>if rZ t≠0 then((k:Int),rZ t)else if 0<=scan (xk ts t.name) k 0 then((k:Int),5)else iF ts m (k+1)
def bR(ts:List aB):Int×Int:=if 16<ts.length then(0,7)else iF ts ts.length 0
theorem acN(ts:List aB):∀(m m' k:Nat),ts.length<=k+m->ts.length<=k+m'->iF ts m k=iF ts m' k
 |0,0,_,_,_=>rfl
 |0,m'+1,k,h,_=>by rw[iF,iF,Zc4 (by omega)]
 |m+1,0,k,_,h=>by rw[iF,iF,Zc4 (by omega)]
 |m+1,m'+1,k,h,h'=>by
  rw[iF,iF,acN ts m m' (k+1) (by omega) (by omega)]
theorem acO(ts:List aB):∀(m k:Nat),(iF ts m k).2=0->(iF ts m k).1=0
 |0,_,_=>rfl
 |m +   1,k,h=>by
  rw[iF]at h ⊢;split at h
  . rfl
  . split at h
    .   rename_i cZ;exact absurd h cZ
    .   split at h
        . simp at h
        . rename_i h1 h2;rw[Za7 h1,Za7 h2];exact acO ts m (k+1) h
theorem ah1(hc:Sem c)(x t:aB)(p:Pos)(st:St)(hw:Wf st)(hp:st.heap.get p=some (.cells t.cells 0)):c 160 [.agg x.cells,.ptr p 0] st=some (.bool (decide (x.name=t.name)),st):=by
 rw[Vr hc 1 (r:=(.bool (decide (x.name=t.name)),ah st (.cells x.cells 0))),aE (Plain.bool _) (cm hw)];rw[Zw];have:(ah st (.cells x.cells 0)).heap.get p=some (.cells t.cells 0):=cm hw _ _ hp;simp[this]
theorem aqm(hc:Sem c)(x:aB)(s:List Nat)(p:Pos)(st:St)(hw:Wf st)(hp:st.heap.get p=some (.cells [.str s] 0)):c 178 [.agg x.cells,.ptr p 0] st=some (.bool (decide (x.name=s)),st):=by
 rw[acP hc 1 (r:=(.bool (decide (x.name=s)),ah st (.cells x.cells 0))),aE (Plain.bool _) (cm hw)];rw[afF];have:(ah st (.cells x.cells 0)).heap.get p=some (.cells [.str s] 0):=cm hw _ _ hp;simp[this]
theorem anW(z:Bool)(rs:List (List AV))(hl:rs.length<xj)(dY:∀cs∈rs,cs.length=7)(g:Nat)(v:List AV)(P:Nat->Bool)(st:St)(F:Nat)(k1 k2)
  (hP:∀i (h:i<rs.length),c g (.agg rs[i]::v) st=some (.bool (P i),st)):∀(m k:Nat),rs.length<=k+m->k<=rs.length->
  cQ c F k1 k2 (m+1) [ro 7 z rs,.func g [] v,.int .i64 (rs.length:Int),.int .i64 (k:Int)] st=if 0<=scan P (rs.length - k) k then k1 [.int .i64 (scan P (rs.length - k) k)] st else k2 [] st:=by
 intro m;induction m with
 |zero=>
  intro k h1 h2;obtain rfl:k=rs.length:=by omega
  rw[mo];simp[scan]
 |succ m ih=>
  intro k h1 h2;rw[mo];by_cases h:k<rs.length
  . have e:rs.length - k=(rs.length - (k+1))+1:=(by omega);have w:ax .i64 ((k:Int)+1)=((k+1:Nat):Int):=wrap64 (by omega) (by unfold xj at hl;omega);have hcut:cut rs[k] 0 7=some rs[k]:=cM (dY _ (Zc2 h));have hp:=hP k h;rw[e,scan];cases hb:P k
    .   simp only[Zf4,Zh0];rw[<-ih (k+1) (by omega) (by omega)];simp[h,hcut,hp,hb,w]
    .   simp[h,hcut,hp,hb]
  . obtain rfl:k=rs.length:=(by omega);simp[scan]
theorem akn(hc:Sem c)(z:Bool)(rs:List (List AV))(hl:rs.length<xj)(dY:∀cs∈rs,cs.length=7)(g:Nat)(v:List AV)(P:Nat->Bool)(st:St)
   (hP:∀i (h:i<rs.length),c g (.agg rs[i]::v) st=some (.bool (P i),st)):c 177 [ro 7 z rs,.func g [] v] st=some (.int .i64 (scan P rs.length 0),st):=by
 rw[v7 hc (rs.length+1) (r:=(.int .i64 (scan P rs.length 0),st)),aE (Plain.int _ _) (aT.refl st)];rw[xO];have L:∀k1 k2,cQ c (rs.length+1) k1 k2 (rs.length+1) [ro 7 z rs,.func g [] v,.int .i64 (rs.length:Int),.int .i64 0] st=if 0<=scan P (rs.length - 0) 0 then k1 [.int .i64 (scan P (rs.length - 0) 0)] st else k2 [] st:=
   λk1 k2=>anW z rs hl dY g v P st _ k1 k2 hP rs.length 0 (by omega) (by omega)
 rw[Zq3]at L;by_cases h:0<=scan P rs.length 0
 . simp[L,h]
 . have:=(ad3 P rs.length 0).2 (by omega);simp[L,this]
theorem ah2(hc:Sem c)(z:Bool)(rs:List (List AV))(hl:rs.length<xj)(dY:∀cs∈rs,cs.length=7)(g:Nat)(v:List AV)(P:Nat->Bool)(st:St)
  (hP:∀i (h:i<rs.length),c g (.agg rs[i]::v) st=some (.bool (P i),st)):c 159 [ro 7 z rs,.func g [] v] st=some (.bool (decide (0<=scan P rs.length 0)),st):=by
 rw[uy hc 1 (r:=(.bool (decide (0<=scan P rs.length 0)),st)),aE (Plain.bool _) (aT.refl st)];rw[vn];simp[akn hc z rs hl dY g v P st hP]
theorem afG(hc:Sem c)(z:Bool)(ts:List aB)(cF:∀t∈ts,t.Ok)(hl:ts.length<=16)(F:Nat)(k1 k2):∀(m k:Nat)(st:St),Wf st->ts.length<=k+m->k<=ts.length->
  ∃st',Grew st st'/\qO c F k1 k2 (m+1) [tabs z ts,tabs z ts,.int .i64 (ts.length:Int),.int .i64 (k:Int)] st=if(iF ts m k).2=0 then k2 [] st' else k1 [.int .i64 (iF ts m k).1,.int .i64 (iF ts m k).2] st':=by
 intro m;induction m with
 |zero=>
  intro k st hw h1 h2;obtain rfl:k=ts.length:=by omega
  refine⟨st,Grew.refl hw,?_⟩;rw[zh];simp[iF,tabs]
 |succ m ih=>
  intro k st hw h1 h2;by_cases h:k<ts.length
  . have w:ax .i64 ((k:Int)+1)=((k+1:Nat):Int):=wrap64 (by omega) (by omega);have cg:Wf (ah st (.cells ts[k].cells 0)):=bn hw;have hg:=Grew.ah hw (.cells ts[k].cells 0);have hch:=aql hc ts[k] (cF _ (Zc2 h)) _ cg;have hco:=ah2 hc (z&&(ts.map aB.cells).isEmpty) ((ts.map aB.cells).take k) (by simp[xj];omega) (λcs fC=>by
          have:=List.mem_of_mem_take fC;simp only[Zc7]at this;obtain⟨t,_,rfl⟩:=this;rfl) 160 [.ptr st.next 0] (xk ts ts[k].name) (ah st (.cells ts[k].cells 0)) (λi hi=>by
          have Ak:i<k:=(by simp at hi;omega);have hi3:i<ts.length:=(by omega);have:=ah1 hc ts[i] ts[k] st.next (ah st (.cells ts[k].cells 0)) cg (az _ _);simp only[Zn7,Zo1];rw[this];simp[xk,hi3])
    have hlen:((ts.map aB.cells).take k).length=k:=(by simp;omega);rw[hlen]at hco;rw[zh,iF,H0 h];simp only;by_cases h3:rZ ts[k]=0
    .   by_cases h4:0<=scan (xk ts ts[k].name) k 0
        . refine⟨_,hg,?_⟩;have uk:k<=ts.length:=(by omega);simp only[tabs,Zq1]at hco ⊢;simp[h,hch,h3,h4,uk,hco,aB.len]
        . obtain⟨st',g1,g2⟩:=ih (k+1) _ cg (by omega) (by omega);refine⟨st',hg.trans g1,?_⟩;have uk:k<=ts.length:=(by omega);have e3:¬rZ ts[k]≠0:=(by rw[h3];simp);simp only[e3,h4,Zh0];rw[<-g2];simp only[tabs,Zq1]at hco ⊢;simp[h,hch,h3,h4,uk,hco,w,aB.len]
    .   refine⟨_,hg,?_⟩;simp[tabs,h,hch,h3,aB.len]
  . obtain rfl:k=ts.length:=(by omega);refine⟨st,Grew.refl hw,?_⟩;rw[zh];simp[iF,tabs]
theorem aaf(hc:Sem c)(z:Bool)(ts:List aB)(cF:∀t∈ts,t.Ok)(st:St)(hw:Wf st):c 88 [tabs z ts] st=some (.tuple [.int .i64 (bR ts).1,.int .i64 (bR ts).2],st):=by
 have Ae:Plain (.tuple [.int .i64 (bR ts).1,.int .i64 (bR ts).2]):=Plain.tuple (by simp[Plain.int]);by_cases h:16<ts.length
 . rw[Jl hc 20 (r:=(.tuple [.int .i64 (bR ts).1,.int .i64 (bR ts).2],st)),aE Ae (aT.refl st)];rw[Og];have hi:(16:Int)<ts.length:=(by omega);simp[tabs,bR,h,hi]
 . have hi:¬(16:Int)<ts.length:=(by omega);have e:bR ts=iF ts 19 0:=(by rw[bR,Za7 h];exact acN ts _ _ 0 (by omega) (by omega));have hex:=λk1 k2=>afG hc z ts cF (by omega) 20 k1 k2 19 0 st hw (by omega) (by omega)
   obtain⟨st',hg,L⟩:=hex (λvs s36=>fO vs λx2 vs=>fO vs λx3 vs=>iT vs (some (.tuple [x2,x3],s36))) (λvs s37=>iT vs (
     aq c .move [(.int .i64 0)] s37 λx2 s38=>aq c .move [(.int .i64 0)] s38 λx3 s39=>some (.tuple [x2,x3],s39)))
   rw[Jl hc 20 (r:=(.tuple [.int .i64 (bR ts).1,.int .i64 (bR ts).2],st')),aE Ae hg.keeps];rw[Og,e];simp only[tabs]at L;simp[tabs,hi]at L ⊢;rw[L];by_cases h2:(iF ts 19 0).2=0
   . have:=acO ts 19 0 h2;simp[h2,this]
   . simp[h2]
def aW(ts:List aB):Int:=(ts.map bJ).sum
theorem o7(ts:List aB):0<=aW ts/\aW ts<=1000*ts.length:=by
 induction ts with
 |nil=>simp[aW]
 |cons t ts ih=>
  have:=Bf t;simp only[aW,Zd2,Zo5,Zc9]at ih ⊢;omega
theorem Tk(ts:List aB)(t:aB):aW (ts++[t])=aW ts+bJ t:=by simp[aW]
def zY(ts:List aB)(t:Int):Int:=if t<0\/(ts.length:Int)<=t\/(bR ts).2≠0 then 0 else aW (ts.take t.toNat)
theorem Tl(hc:Sem c)(z:Bool)(ts:List aB)(cF:∀t∈ts,t.Ok)(st:St)(hw:Wf st):c 120 [tabs z ts] st=some (.bool (decide ((bR ts).2=0)),st):=by
 rw[ad4 hc 1 (r:=(.bool (decide ((bR ts).2=0)),st)),aE (Plain.bool _) (aT.refl st)];rw[ah3];simp[aaf hc z ts cF st hw]
theorem Oh{ts:List aB}(h:(bR ts).2=0):ts.length<=16:=by
 unfold bR at h;split at h
 . simp at h
 . omega
theorem alN(hc:Sem c)(z:Bool)(ts:List aB)(hl:ts.length<=16)(F:Nat)(k2):∀(m k:Nat)(st:St),Wf st->ts.length<=k+m->k<=ts.length->
  ∃st',Grew st st'/\xq c F k2 (m+1) [.int .i64 (aW (ts.take k)),tabs z ts,.int .i64 (ts.length:Int),.int .i64 (k:Int)] st=k2 [.int .i64 (aW ts)] st':=by
 intro m;induction m with
 |zero=>
  intro k st hw h1 h2;obtain rfl:k=ts.length:=by omega
  refine⟨st,Grew.refl hw,?_⟩;rw[DK];simp
 |succ m ih=>
  intro k st hw h1 h2;by_cases h:k<ts.length
  . have w:ax .i64 ((k:Int)+1)=((k+1:Nat):Int):=wrap64 (by omega) (by omega);have cg:Wf (ah st (.cells ts[k].cells 0)):=bn hw;have hg:=Grew.ah hw (.cells ts[k].cells 0);have hs:=QT hc ts[k] _ cg;have e:aW (ts.take (k+1))=aW (ts.take k)+bJ ts[k]:=by
        rw[Zc6 h,Tk]
    have b1:=o7 (ts.take k);have b2:=Bf ts[k];have b3:(ts.take k).length<=16:=(by simp;omega);have w2:ax .i64 (aW (ts.take k)+bJ ts[k])=aW (ts.take (k+1)):=(by rw[e];exact wrap64 (by omega) (by omega));obtain⟨st',g1,g2⟩:=ih (k+1) _ cg (by omega) (by omega);refine⟨st',hg.trans g1,?_⟩;rw[<-g2,DK];simp[tabs,h,hs,w,w2,aB.len]
  . obtain rfl:k=ts.length:=(by omega);refine⟨st,Grew.refl hw,?_⟩;rw[DK];simp
theorem ah4(hc:Sem c)(z:Bool)(ts:List aB)(cF:∀t∈ts,t.Ok)(k:Int)(st:St)(hw:Wf st):c 58 [tabs z ts,.int .i64 k] st=some (.int .i64 (zY ts k),st):=by
 have lT:∀(K:AV->St->Option (AV×St))(s:St),aq c (.lenB .l) [tabs z ts] s K=K (.int .i64 (ts.length:Int)) s:=λK s=>by unfold tabs;rw[fE];simp
 have hv:=Tl hc z ts cF st hw;by_cases h:k<0\/(ts.length:Int)<=k\/(bR ts).2≠0
 . have e:zY ts k=0:=(by rw[zY,Zb3 h]);rw[QW hc 1 (r:=(.int .i64 (zY ts k),st)),aE (Plain.int _ _) (aT.refl st)];rw[Xy,e];by_cases h1:k<0
   . simp[h1]
   . by_cases h2:(ts.length:Int)<=k
     .  simp[h1,h2,lT]
     .  have h3:(bR ts).2≠0:=h.resolve_left h1 |>.resolve_left h2;simp[h1,h2,h3,lT,hv]
 . have e:zY ts k=aW (ts.take k.toNat):=(by rw[zY,Za7 h]);have h1:¬k<0:=λe=>h (.inl e)
   have h2:¬(ts.length:Int)<=k:=λe=>h (.inr (.inl e))
   have h3:(bR ts).2=0:=Zk7 λe=>h (.inr (.inr e))
   have hl:=Oh h3;obtain⟨n,rfl⟩:∃n:Nat,k=(n:Int):=⟨k.toNat,by omega⟩
   have hn:n<=ts.length:=(by omega);have hex:=λk2=>alN hc (z&&ts.isEmpty) (ts.take n) (by simp;omega) 20 k2 19 0 st hw (by simp;omega) (by omega)
   obtain⟨st',hg,L⟩:=hex (λvs s33=>fO vs λx5 vs=>iT vs (aq c .move [x5] s33 λx34 s34=>aq c .move [x34] s34 λx4 s35=>some (x4,s35)));rw[QW hc 20 (r:=(.int .i64 (zY ts (n:Int)),st')),aE (Plain.int _ _) hg.keeps];rw[Xy,e];have h4:¬ts.length<=n:=(by omega);have hm:min n ts.length=n:=(by omega);simp[tabs,aW,hm]at L;simp[h1,h4,h3,lT,hv];simp[tabs,hn,hm,aW,L]
theorem ajs(hc:Sem c)(z:Bool)(ts:List aB)(hl:ts.length<=16)(st:St)(hw:Wf st):c 122 [tabs z ts] st=some (.int .i64 (if h:0<ts.length then bJ (ts[ts.length - 1]'(by omega))else 0),st):=by
 rw[Zx hc 1 (r:=(.int .i64 (if h:0<ts.length then bJ (ts[ts.length - 1]'(by omega))else 0),st)),aE (Plain.int _ _) (aT.refl st)];rw[acQ];by_cases h:0<ts.length
 . have h1:¬(ts.length:Int)=0:=(by omega);have h2:ts≠[]:=λe=>by subst e;simp at h
   have w:ax .i64 ((ts.length:Int) - 1)=((ts.length - 1:Nat):Int):=(by rw[wrap64 (by omega) (by omega)];omega);have h3:ts.length - 1<ts.length:=(by omega);have hs:=QT hc (ts[ts.length - 1]'(by omega)) st hw;simp[tabs,h,h1,h2,w,h3,hs]
 . have h1:ts=[]:=Zc5 (by omega);subst h1;simp[tabs]
theorem anX{ts:List aB}(hv:(bR ts).2=0):zY ts ((ts.length:Int) - 1)+(if h:0<ts.length then bJ (ts[ts.length - 1]'(by omega))else 0)=aW ts:=by
 by_cases h:0<ts.length
 . rw[dif_pos h,zY,Za7 (by simp[hv];omega)];have e:((ts.length:Int) - 1).toNat=ts.length - 1:=(by omega);rw[e, <-Tk, <-Zc6 (by omega)];rw[show ts.length - 1+1=ts.length by omega,Zj1]
 . have h1:ts=[]:=Zc5 (by omega);subst h1;simp[zY,aW]
theorem Gm(hc:Sem c)(z:Bool)(ts:List aB)(cF:∀t∈ts,t.Ok)(st:St)(hw:Wf st):c 59 [tabs z ts] st=some (.int .i64 (if(bR ts).2=0 then aW ts else 0),st):=by
 rw[ad5 hc 1 (r:=(.int .i64 (if(bR ts).2=0 then aW ts else 0),st)),aE (Plain.int _ _) (aT.refl st)];rw[ah5];have lT:∀(K:AV->St->Option (AV×St))(s:St),aq c (.lenB .l) [tabs z ts] s K=K (.int .i64 (ts.length:Int)) s:=λK s=>by unfold tabs;rw[fE];simp
 have hv:=Tl hc z ts cF st hw;by_cases h:(bR ts).2=0
 . have hl:=Oh h;have w:ax .i64 ((ts.length:Int) - 1)=(ts.length:Int) - 1:=wrap64 (by omega) (by omega);have hf:=ah4 hc z ts cF ((ts.length:Int) - 1) st hw;have hla:=ajs hc z ts hl st hw;have b:=o7 ts;have e:=anX h;rw[Zb3 h, <-e];rw[<-e]at b;generalize zY ts ((ts.length:Int) - 1)=x at hf b ⊢;generalize (if h:0<ts.length then bJ (ts[ts.length - 1]'(by omega))else 0)=y at hla b ⊢;have w2:ax .i64 (x+y)=x+y:=wrap64 (by omega) (by omega);simp[hv,h,lT,w,hf,hla,w2]
 . simp[hv,h]
theorem asJ(hc:Sem c)(z:Bool)(ts:List aB)(cF:∀t∈ts,t.Ok)(hl:ts.length<xj)(s:List Nat)(st:St)(hw:Wf st):c 111 [tabs z ts,.str s] st=
   some (.tuple [.int .i64 (if 0<=scan (xk ts s) ts.length 0/\(bR ts).2=0 then scan (xk ts s) ts.length 0 else 0),.bool (decide (0<=scan (xk ts s) ts.length 0/\(bR ts).2=0))],st):=by
 rw[afH hc 1 (r:=(.tuple [.int .i64 (if 0<=scan (xk ts s) ts.length 0/\(bR ts).2=0 then scan (xk ts s) ts.length 0 else 0),.bool (decide (0<=scan (xk ts s) ts.length 0/\(bR ts).2=0))],ah st (.cells [.str s] 0))),
   aE (Plain.tuple (by simp[Plain.int,Plain.bool])) (cm hw)]
 rw[ajt];have cg:Wf (ah st (.cells [.str s] 0)):=bn hw;have hi:=akn hc z (ts.map aB.cells) (by simpa using hl) (λcs fC=>by
     simp only[Zc7]at fC;obtain⟨t,_,rfl⟩:=fC;rfl) 178 [.ptr st.next 0] (xk ts s) (ah st (.cells [.str s] 0)) (λi hi=>by
     have hi3:i<ts.length:=(by simpa using hi);have:=aqm hc ts[i] s st.next (ah st (.cells [.str s] 0)) cg (az _ _);simp only[Zo1];rw[this];simp[xk,hi3])
 rw[Za5]at hi;have hv:=Tl hc z ts cF _ cg;simp only[tabs]at hv ⊢;have e:(AV.str s).cells=[.str s]:=rfl;by_cases h1:0<=scan (xk ts s) ts.length 0
 . have h2:¬scan (xk ts s) ts.length 0<0:=(by omega);by_cases h3:(bR ts).2=0
   . simp[e,hi,h1,h2,h3,hv]
   . simp[e,hi,h1,h2,h3,hv]
 . have h2:scan (xk ts s) ts.length 0<0:=(by omega);simp[e,hi,h1,h2]
structure aQ where
 name:List Nat
 zf:List Nat
 jP:List Nat
 since:Int
 side:Int
 o8:List Nat
 host:Bool
 access:Bool
 tz:Bool
 tg:List (List Nat)
def iW(z:Bool)(l:List (List Nat)):AV:=ro 1 z (l.map λs=>[.str s])
def aQ.cells(g:aQ):List AV:=[.str g.name,.str g.zf,.str g.jP,.int .i64 g.since,.int .i64 g.side,.str g.o8,.bool g.host,.bool g.access,iW g.tz g.tg]
@[simp] theorem ah6(z:Bool)(l:List (List Nat)):(iW z l).one=true:=anb _ _ _
@[simp] theorem avw{R:Type}(c:au)(K:AV->St->Option R)(st:St)(z:Bool)(l:List (List Nat)):aq c (.lenB .l) [iW z l] st K=K (.int .i64 (l.length:Int)) st:=by unfold iW;rw[fE];simp
@[simp] theorem avx{R:Type}(c:au)(K:AV->St->Option R)(st:St)(z:Bool)(l:List Int):aq c (.lenB .l) [ints z l] st K=K (.int .i64 (l.length:Int)) st:=by unfold ints;rw[fE];simp
@[simp] theorem aQ.c0(t:aQ):t.cells[0]? =some (.str t.name):=id rfl
@[simp] theorem aQ.c1(t:aQ):t.cells[1]? =some (.str t.zf):=id rfl
@[simp] theorem aQ.c2(t:aQ):t.cells[2]? =some (.str t.jP):=id rfl
@[simp] theorem aQ.c3(t:aQ):t.cells[3]? =some (.int .i64 t.since):=id rfl
@[simp] theorem aQ.c4(t:aQ):t.cells[4]? =some (.int .i64 t.side):=id rfl
@[simp] theorem aQ.c5(t:aQ):t.cells[5]? =some (.str t.o8):=id rfl
@[simp] theorem aQ.c6(t:aQ):t.cells[6]? =some (.bool t.host):=id rfl
@[simp] theorem aQ.c7(t:aQ):t.cells[7]? =some (.bool t.access):=id rfl
@[simp] theorem aQ.c8(t:aQ):t.cells[8]? =some (iW t.tz t.tg):=id rfl
@[simp] theorem aQ.cc(t:aQ):cut t.cells 0 9=some t.cells:=cM rfl
theorem aQ.len(t:aQ):t.cells.length=9:=id rfl
@[simp] theorem aQ.one(t:aQ):aM t.cells=true:=by unfold aQ.cells;simp only[aM,ah6];rfl
def cK(z:Bool)(gs:List aQ):AV:=ro 9 z (gs.map aQ.cells)
@[simp] theorem aqn{R:Type}(c:au)(K:AV->St->Option R)(st:St)(z:Bool)(l:List aQ):aq c (.lenB .l) [cK z l] st K=K (.int .i64 (l.length:Int)) st:=by unfold cK;rw[fE];simp
def aft(last:Option (List Nat))(s:List Nat):Bool:=match last with
 |none=>true
 |some p=>aO p s
@[simp] theorem aqo(s:List Nat):aft none s=true:=id rfl
@[simp] theorem aqp(p s:List Nat):aft (some p) s=aO p s:=id rfl
def QX(last:Option (List Nat)):List (List Nat)->Bool
 |[]=>true
 |s::l=>pK s&&aft last s&&QX (some s) l
theorem aqq(last:Option (List Nat))(s:List Nat)(l:List (List Nat)):QX last (s::l)=(pK s&&aft last s&&QX (some s) l):=rfl
def jQ(g:aQ):Int:=
 if(pK g.name&&An g.zf&&An g.jP&&An g.o8)=false then 4 else if ¬(0<=g.since/\g.since<=9999)then 21 else if ¬(0<=g.side/\g.side<=2)then 20
 else if 4<g.tg.length then 22 else if QX none g.tg=false then 22 else 0
theorem Gn:∀(a:List Nat),aO a a=false
 |[]=>rfl
 |x::a=>by
  unfold aO;simp[KJ,cV,Gn a]
theorem Xz:∀(a b:List Nat),aO a b=true->aO b a=false
 |[],[],h=>by simp[aO]at h
 |[],_::_,_=>rfl
 |_::_,[],h=>by simp[aO]at h
 |x ::a,y::b,h=>by
  unfold aO at h ⊢;simp only[KJ,cV]at h ⊢;by_cases h1:x<y
  . have:¬y<x:=(by omega);have h3:¬y=x:=(by omega);simp[this,h3]
  . by_cases h2:x=y
    . subst h2;simp at h ⊢; exact Xz a b h
    . simp[h1,h2]at h
theorem KU:∀(a b:List Nat),aO a b=false->aO b a=false->a=b
 |[],[],_,_=>rfl
 |[],_::_,h,_=>by simp[aO]at h
 |_::_,[],_,h=>by simp[aO]at h
 |x ::a,y::b,h,k=>by
  unfold aO at h k;simp only[KJ,cV]at h k;by_cases h1:x<y
  . simp[h1]at h
  . by_cases h2:y<x
    .   simp[h2]at k
    .   have:x=y:=(by omega);subst this;simp at h k;rw[KU a b h k]
theorem Tm:∀(a b d:List Nat),aO a b=true->aO b d=true->aO a d=true
 |_,[],[],_,h=>by simp[aO]at h
 |_,_::_,[],_,h=>by simp[aO]at h
 |[],_,_::_,_,_=>rfl
 |_::_,[],_::_,h,_=>by simp[aO]at h
 |x ::a   ,y::b,z::d,h,k=>by
  unfold aO at h k ⊢;simp only[KJ,cV]at h k ⊢;by_cases h1:x<y
  . by_cases h2:y<z
    .   have:x<z:=(by omega);simp[this]
    .   by_cases h3:y=z
        . subst h3;simp[h1]
        . simp[h2,h3]at k
  . by_cases h2:x=y
    .   subst h2;simp at h;by_cases h4:x<z
        . simp[h4]
        . by_cases h5:x=z
          . subst h5;simp at k ⊢; exact Tm a b d h k
          . simp[h4,h5]at k
    .   simp[h1,h2]at h
theorem abo(hc:Sem c)(p:Pos)(g:aQ)(hl:g.tg.length<=4)(F:Nat)(st:St)(hp:st.heap.get p=some (.cells g.cells 0))(k1 k3):∀(m k:Nat),g.tg.length<=k+m->k<=g.tg.length->
  qC c F k1 k3 (m+1) [.ptr p 0,iW g.tz g.tg,.int .i64 (g.tg.length:Int),.int .i64 (k:Int)] st=if QX (if k=0 then none else g.tg[k - 1]?) (g.tg.drop k)=true then k3 [] st else k1 [.int .i64 22] st:=by
 intro m;induction m with
 |zero=>
  intro k h1 h2;rw[Ml];obtain rfl:k=g.tg.length:=by omega
  simp[QX]
 |succ m ih=>
  intro k h1 h2;rw[Ml];by_cases h:k<g.tg.length
  . have e:g.tg.drop k=g.tg[k]::g.tg.drop (k+1):=Zd9 h;have w:ax .i64 ((k:Int)+1)=((k+1:Nat):Int):=wrap64 (by omega) (by omega);have hn:=IW hc g.tg[k] st;have:=ih (k+1) (by omega) (by omega);have e2:(if k+1=0 then none else g.tg[k+1 - 1]?)=some g.tg[k]:=(by rw[Za7 (by omega),Zh3,H0 h]);rw[e2]at this;rw[e,aqq];generalize QX (some g.tg[k]) (g.tg.drop (k+1))=rest at this ⊢;by_cases h3:pK g.tg[k]=true
    .   by_cases h0:k=0
        . have hk:¬0<k:=(by omega);simp only[h3,Zb3 h0,Zf6,aqo];rw[<-this];simp[iW,h,hn,h3,hk,w]
        . have hk:0<k:=(by omega);have Bg:k - 1<g.tg.length:=(by omega);have wk:ax .i64 ((k:Int) - 1)=((k - 1:Nat):Int):=(by rw[wrap64 (by omega) (by omega)];omega);simp only[h3,Za7 h0,H0 Bg,Zf6,aqp];cases hb:aO g.tg[k - 1] g.tg[k]
          . simp[iW,h,hn,h3,hk,Bg,wk,hp,hb]
          . simp only[Zf6];rw[<-this];simp[iW,h,hn,h3,hk,Bg,wk,hp,hb,w]
    .   simp[iW,h,hn,h3]
  . obtain rfl:k=g.tg.length:=(by omega);simp[QX]
theorem ad6(hc:Sem c)(g:aQ)(st:St)(hw:Wf st):c 182 [.agg g.cells] st=some (.int .i64 (jQ g),st):=by
 rw[acR hc 6 (r:=(.int .i64 (jQ g),ah st (.cells g.cells 0))),aE (Plain.int _ _) (cm hw)];rw[afI];have n0:=IW hc g.name;have n1:=IX hc g.zf;have n2:=IX hc g.jP;have n5:=IX hc g.o8;by_cases hn:(pK g.name&&An g.zf&&An g.jP&&An g.o8)=true
 . have DF:=hn;simp only[Zb6]at DF;obtain⟨⟨⟨b0,b1⟩,b2⟩,b5⟩:=DF;unfold jQ;rw[hn];by_cases h1:g.since<0
   . have:¬(0<=g.since/\g.since<=9999):=(by omega);simp[n0,n1,n2,n5,b0,b1,b2,b5,h1,this]
   by_cases h2:9999<g.since
   . have:¬(0<=g.since/\g.since<=9999):=(by omega);simp[n0,n1,n2,n5,b0,b1,b2,b5,h1,h2,this]
   have h3:0<=g.since/\g.since<=9999:=(by omega);by_cases h4:g.side<0
   . have:¬(0<=g.side/\g.side<=2):=(by omega);simp[n0,n1,n2,n5,b0,b1,b2,b5,h1,h2,h3,h4,this]
   by_cases h5:2<g.side
   . have:¬(0<=g.side/\g.side<=2):=(by omega);simp[n0,n1,n2,n5,b0,b1,b2,b5,h1,h2,h3,h4,h5,this]
   have h6:0<=g.side/\g.side<=2:=(by omega);by_cases h7:4<g.tg.length
   . have h8:(4:Int)<g.tg.length:=(by omega);simp[n0,n1,n2,n5,b0,b1,b2,b5,h1,h2,h3,h4,h5,h6,h7,h8]
   . have h8:¬(4:Int)<g.tg.length:=(by omega);have L:∀k1 k3,qC c 6 k1 k3 6 [.ptr st.next 0,iW g.tz g.tg,.int .i64 (g.tg.length:Int),.int .i64 0] (ah st (.cells g.cells 0))=if QX none (g.tg.drop 0)=true then k3 [] (ah st (.cells g.cells 0))else k1 [.int .i64 22] (ah st (.cells g.cells 0)):=
        λk1 k3=>abo hc st.next g (by omega) 6 _ (az _ _) k1 k3 5 0 (by omega) (by omega)
     rw[Zf3]at L;generalize QX none g.tg=b at L ⊢;cases b<;>simp[n0,n1,n2,n5,b0,b1,b2,b5,h1,h2,h3,h4,h5,h6,h7,h8,L]
 . have hn':(pK g.name&&An g.zf&&An g.jP&&An g.o8)=false:=(by simpa using hn);have hx:jQ g=4:=(by unfold jQ;rw[hn'];simp);rw[hx];cases b0:pK g.name
   . simp[n0,b0]
   . cases b1:An g.zf
     .  simp[n0,n1,b0,b1]
     .  cases b2:An g.jP
        . simp[n0,n1,n2,b0,b1,b2]
        . cases b5:An g.o8
          . simp[n0,n1,n2,n5,b0,b1,b2,b5]
          . simp[b0,b1,b2,b5]at hn
structure Ty where
 a:List Nat
 b:List Nat
 k:Int
def Ty.cells(t:Ty):List AV:=[.str t.a,.str t.b,.int .u8 t.k]
@[simp] theorem Ty.c0(t:Ty):t.cells[0]? =some (.str t.a):=id rfl
@[simp] theorem Ty.c1(t:Ty):t.cells[1]? =some (.str t.b):=id rfl
@[simp] theorem Ty.c2(t:Ty):t.cells[2]? =some (.int .u8 t.k):=id rfl
@[simp] theorem Ty.cc(t:Ty):cut t.cells 0 3=some t.cells:=cM rfl
theorem Ty.len(t:Ty):t.cells.length=3:=id rfl
@[simp] theorem Ty.one(t:Ty):aM t.cells=true:=id rfl
@[simp] theorem auy{R:Type}(c:au)(K:AV->St->Option R)(st:St)(t:Ty)(x y z:AV):aq c (.store 3) [.ptr st.next 0,.agg t.cells] (ah st (.cells [x,y,z] 0)) K=K .undef (ah st (.cells t.cells 0)):=cr c K st 3 (.agg t.cells) [x,y,z] rfl rfl t.one
def eX(z:Bool)(ts:List Ty):AV:=ro 3 z (ts.map Ty.cells)
@[simp] theorem aqr{R:Type}(c:au)(K:AV->St->Option R)(st:St)(z:Bool)(l:List Ty):aq c (.lenB .l) [eX z l] st K=K (.int .i64 (l.length:Int)) st:=by unfold eX;rw[fE];simp
def oF(gs:List aQ)(s:List Nat)(i:Nat):Bool:=decide (gs[i]?.map aQ.name=some s)
def gh(s t:Ty):Bool:=aO s.a t.a||(decide (s.a=t.a)&&aO s.b t.b)
def DM(a b:List Nat):Int:=if aO a b=true then -1 else if aO b a=true then 1 else 0
theorem atZ(hc:Sem c)(a b:List Nat)(st:St):c 246 [.str a,.str b] st=some (.int .i64 (DM a b),st):=by unfold Sem at hc;subst hc;refine ace (s:=F0) (by rfl) ?_;show some (AV.int .i64 (match aO a b with|true=> .negSucc 0|false=>match aO b a with|true=> .ofNat 1|false=> .ofNat 0),st)=_;unfold DM;generalize aO a b=p;generalize aO b a=q;cases p<;>cases q<;>rfl
theorem abp(hc:Sem c)(a b:List Nat)(st:St):c 227 [.str a,.str b] st=some (.int .i64 (DM a b),st):=by
 rw[KV hc 1 (r:=(.int .i64 (DM a b),st)),aE (Plain.int _ _) (aT.refl st)];rw[Nx];simp[atZ hc]
theorem acS(hc:Sem c)(a b:List Nat)(st:St):c 184 [.str a,.str b] st=some (.int .i64 (DM a b),st):=by
 rw[Vt hc 1 (r:=(.int .i64 (DM a b),st)),aE (Plain.int _ _) (aT.refl st)];rw[Zy];simp[abp hc]
theorem ako{a b:List Nat}:DM a b=0↔a=b:=by
 unfold DM;cases h1:aO a b
 . cases h2:aO b a
   . simp;exact KU _ _ h1 h2
   . simp;intro e;subst e;rw[Gn]at h2;cases h2
 . simp;intro e;subst e;rw[Gn]at h1;cases h1
def uO(s t:Ty):Int:=if s.a=t.a then DM s.b t.b else DM s.a t.a
theorem Mm(hc:Sem c)(s t:Ty)(st:St)(hw:Wf st):c 130 [.agg s.cells,.agg t.cells] st=some (.int .i64 (uO s t),st):=by
 rw[acT hc 1 (r:=(.int .i64 (uO s t),ah (ah st (.cells s.cells 0)) (.cells t.cells 0))),aE (Plain.int _ _) ((cm hw).trans (cm (bn hw)))];rw[afJ];by_cases h:s.a=t.a
 . have:DM t.a t.a=0:=ako.2 rfl;simp[uO,acS hc,h,this]
 . have:¬DM s.a t.a=0:=λe=>h (ako.1 e)
   simp[uO,acS hc,h,this]
theorem ad7{s t:Ty}:uO s t<0↔gh s t=true:=by
 unfold uO gh DM;by_cases h:s.a=t.a
 . simp only[h,Gn,Zh7];cases aO s.b t.b<;>cases aO t.b s.b<;>simp
 . simp only[h,Zh0];cases aO s.a t.a<;>cases aO t.a s.a<;>simp
theorem Y3{s t:Ty}:0<uO s t↔gh t s=true:=by
 unfold uO gh DM;by_cases h:s.a=t.a
 . simp only[h,Gn,Zh7];cases h1:aO s.b t.b
   . cases aO t.b s.b<;>simp
   . simp[Xz _ _ h1]
 . have h':¬t.a=s.a:=λe=>h e.symm
   simp only[h,h',Zh0];cases h1:aO s.a t.a
   . cases aO t.a s.a<;>simp
   . simp[Xz _ _ h1]
theorem akp(hc:Sem c)(a b:List Nat)(k:Int)(aV:aO a b=true)(st:St)(hw:Wf st):c 186 [.str a,.str b,.int .u8 k] st=some (.agg (Ty.cells ⟨a,b,k⟩),st):=by
 rw[QY hc 1 (r:=(.agg (Ty.cells ⟨a,b,k⟩),ah st (.cells (Ty.cells ⟨a,b,k⟩) 0))),aE (Plain.agg (by simp[Ty.cells,Plain.str,Plain.int])) (cm hw)];rw[XA];have m1:∀(K:AV->St->Option (AV×St))(s:St),aq c .minB [.str a,.str b] s K=K (.str a) s:=λK s=>aR c K (λH n=>by simp[aF.run,La,aV]) s
 have m2:∀(K:AV->St->Option (AV×St))(s:St),aq c .maxB [.str a,.str b] s K=K (.str b) s:=λK s=>aR c K (λH n=>by simp[aF.run,Lb,aV]) s
 simp[m1,m2,bY,aU,cU,AV.cells,aM,AV.one,cM,Ty.cells]
def ov(gs:List aQ):Nat->Nat->Int×Int
 |0,_=>(0,0)
 |  m+1,k=>match gs[k]? with
    |none=>(0,0)
    |some g=>if jQ g≠0 then((k:Int),jQ g)else if 0<=scan (oF gs g.name) k 0 then((k:Int),5)else if 64<=k then((k:Int),7)else ov gs m (k+1)
def pg(ts:List Ty)(k:Nat):Option Ty:=if k=0 then none else ts[k - 1]?
def knd(t:Ty):Bool:=decide (t.k=1)||decide (t.k=2)
def agk(t:Ty)(p:Option Ty):Bool:= !knd t|| !aO t.a t.b||(match p with|none=>false|some p=>gh t p)
def we(t:Ty)(p:Option Ty):Bool:=match p with|none=>false|some p=> !gh p t
def ry(gs:List aQ)(t:Ty):Bool:=decide (scan (oF gs t.a) gs.length 0<0)||decide (scan (oF gs t.b) gs.length 0<0)
def jR(gs:List aQ)(ts:List Ty):Nat->Nat->Int×Int
 |0,_=>(0,0)
 |  m+1,k=>match ts[k]? with
    |none=>(0,0)
    |some t=>if agk t (pg ts k)=true then((gs.length:Int)+k,23)else if ry gs t=true then((gs.length:Int)+k,6)
     else if we t (pg ts k)=true then((gs.length:Int)+k,5)else if 256<=k then((gs.length:Int)+k,7)else jR gs ts m (k+1)
def dU(gs:List aQ)(ts:List Ty):Int×Int:=if(ov gs 101 0).2≠0 then ov gs 101 0 else jR gs ts 101 0
theorem aqs{gs:List aQ}{s:List Nat}{k:Nat}(hk:k<=gs.length):scan (oF (gs.take k) s) k 0=scan (oF gs s) k 0:=
 acM k 0 λi _ hi=>by simp[oF,Zd5,show i<k by omega]
theorem acU (gs:List aQ)(ts:List Ty):∀(m k:Nat),(jR gs ts m k).2=0->(jR gs ts m k).1=0
 |0,_,_=>rfl
 |m +   1,k , h=>by
  rw[jR]at h ⊢;split at h
  . rfl
  . split   at h
    .   simp at h
    .   split at h
        . simp at h
        . split at h
          . simp at h
          . split at h
            . simp at h
            . rename_i h1 h2 h3 h4;rw[Za7 h1,Za7 h2,Za7 h3,Za7 h4];exact acU gs ts m (k+1) h
abbrev qe(s:List Nat):List AV:=[.str s]
theorem Gp(l:List (List Nat)):∀r∈l.map qe,r.length=1:=λr hr=>by simp only[Zc7]at hr;obtain⟨m,_,rfl⟩:=hr;rfl
theorem aqt{s:St}(z:Bool)(l:List (List Nat)):Src 1 s (iW z l) (l.map qe):=Src.ro z _
theorem anY(hc:Sem c){src:AV}(l:List (List Nat))(hl:l.length<=1000)(s:St)(hw:Wf s)(h:Src 1 s src (l.map qe)):∃v s',c 117 [src] s=some (v,s')/\Mk 1 s s' v (l.map qe):=by
 rcases h.nil with⟨rfl,h0⟩|hn
 . (refine⟨.af,s,?_,by rw[h0];exact Mk.start hw (Grew.refl hw)⟩;rw[jf hc 1 (r:=(.af,s)),aE Plain.af (aT.refl s)];rw[jS];have e:∀(K:AV->St->Option (AV×St))(s:St),aq c (.bin .eql .slice) [.af,.af] s K=K (.bool true) s:=λK s=>aR c K (λH n=>rfl) s);simp[e]
 . obtain⟨v,s',a1,a2⟩:=aeS (c:=c) (R:=AV×St) (bytes:=16) (z:=[.str []]) (Gp l) (by decide) (by simp;omega) (by simp;omega) s hw h;obtain⟨cY,t1,t2⟩:=a2.tidy;refine⟨v,cY,?_,t2⟩;rw[jf hc 1 (r:=(v,s')),t1];rw[jS];simp only[aA,hn,dQ];rw[a1]
def aQ.aj(g:aQ)(v:AV):List AV:=[.str g.name,.str g.zf,.str g.jP,.int .i64 g.since,.int .i64 g.side,.str g.o8,.bool g.host,.bool g.access,v]
theorem aQ.anZ(g:aQ):g.aj (iW g.tz g.tg)=g.cells:=rfl
theorem aQ.Gi(t:aQ){v:AV}(h:aM [v]=true):aM (t.aj v)=true:=by
 simp only[aM]at h;unfold aQ.aj;simp only[aM,AV.one,h,Zi2,Zi1]at*
structure aQ.Low(g:aQ):Prop where
 name:∀x∈g.name,x<256
 zf:∀x∈g.zf,x<256
 jP:∀x∈g.jP,x<256
 o8:∀x∈g.o8,x<256
theorem ae4(hc:Sem c)(g:aQ)(hg:g.Low)(hl:g.tg.length<=1000){src:AV}(s:St)(hw:Wf s)(h:Src 1 s src (g.tg.map qe))(h1:src.cells=[src])(h2:src.one=true):
  ∃v s',c 183 [.agg (g.aj src)] s=some (.agg (g.aj v),s')/\Mk 1 s s' v (g.tg.map qe):=by
 let zero:List AV:=[.str [],.str [],.str [],.int .i64 0,.int .i64 0,.str [],.bool false,.bool false,.af]
 have kW:Wf (ah (ah s (.cells (g.aj src) 0)) (.cells zero 0)):=bn (bn hw);have Aj:=(Grew.ah hw (.cells (g.aj src) 0)).trans (Grew.ah (bn hw) (.cells zero 0));obtain⟨v,s3,h3,M⟩:=anY hc g.tg hl _ kW (h.ai Aj);have M0:=M.back hw Aj;have hx:s3.heap.get s.next=some (.cells (g.aj src) 0):=M.ai.get LU;have hy:s3.heap.get (ah s (.cells (g.aj src) 0)).next=some (.cells zero 0):=M.ai.get (az _ _);obtain⟨hvc,hvo⟩:=M.cells;have cZ:s.next≠(ah s (.cells (g.aj src) 0)).next:=Pos.Ll _;have alO:s.next.toNat<s3.next.toNat:=by have:=M.ai.next;rw[bD,bD,Pos.aC,Pos.aC]at this;omega
 have apL:(ah s (.cells (g.aj src) 0)).next.toNat<s3.next.toNat:=by have:=M.ai.next;rw[bD,Pos.aC]at this;omega
 have vo:v.one=true:=yW hvo;have A7:aU (g.aj src) 8 [v]=g.aj v:=rfl;have Z3:aM (g.aj v)=true:=g.Gi hvo;have hro0:aM (g.aj src)=true:=g.Gi (by simp only[aM,h2]);have new:∀b,aK v=some b->(ah s (.cells (g.aj src) 0)).next.toNat<b.toNat:=λb hb=>by have:=M.new b hb;rw[bD,Pos.aC]at this;omega
 have Wq:s.next.toNat<(ah s (.cells (g.aj src) 0)).next.toNat:=by rw[bD,Pos.aC];omega
 let s4:=aY s3 s.next (.cells (g.aj v) 0)
 let s5:=aY s4 (ah s (.cells (g.aj src) 0)).next (.cells (g.aj v) 0)
 have hx4:s4.heap.get s.next=some (.cells (g.aj v) 0):=bN _ _ _;have hy4:s4.heap.get (ah s (.cells (g.aj src) 0)).next=some (.cells zero 0):=by show(aY s3 s.next (.cells (g.aj v) 0)).heap.get _=_;rw[aG cZ];exact hy
 have hy5:s5.heap.get (ah s (.cells (g.aj src) 0)).next=some (.cells (g.aj v) 0):=bN _ _ _;have M4:Mk 1 s s4 v (g.tg.map qe):=M0.store (Za3 _) alO (λe=>by have:=new _ e;omega);have M5:Mk 1 s s5 v (g.tg.map qe):=M4.store (by omega) apL (λe=>by have:=new _ e;omega);have hi:∀u∈g.aj v,dm u:=λu hu=>by
  simp only[aQ.aj,Za8,Zb7,Ze4]at hu;rcases hu with rfl|rfl|rfl|rfl|rfl|rfl|rfl|rfl|rfl
  . exact dm.str hg.name
  . exact dm.str hg.zf
  . exact dm.str hg.jP
  . exact dm.int _ _
  . exact dm.int _ _
  . exact dm.str hg.o8
  . exact dm.bool _
  . exact dm.bool _
  . exact M.inst
 obtain⟨cY,t1,_,t2⟩:=M5.Gc (l:=g.aj v) (by simp[aQ.aj]) hi;refine⟨v,cY,?_,t2⟩;rw[abq hc 1 (r:=(.agg (g.aj v),s5)),t1];rw[ad8];have bw:=λ(K:AV->St->Option (AV×St))=>bP c K s3 1 s.next 8 v (g.aj src) hx (by rw[hvc];rfl) (by simp[aQ.aj]) (by rw[hvc];exact hvo)
 rw[hvc,A7]at bw;have w7:=λ(K:AV->St->Option (AV×St))=>bP c K s4 9 (ah s (.cells (g.aj src) 0)).next 0 (.agg (g.aj v)) _ hy4 rfl (by simp[zero,aQ.aj]) Z3
 have hsp2:aU zero 0 (AV.agg (g.aj v)).cells=g.aj v:=rfl;rw[hsp2]at w7;have hcut:cut (g.aj v) 0 9=some (g.aj v):=cM rfl;have g8:(g.aj src)[8]? =some src:=rfl;have st2':∀(K:AV->St->Option (AV×St)),aq c (.store 9) [.ptr (ah s (.cells (g.aj src) 0)).next 0,.agg (g.aj v)] (aY s3 s.next (.cells (g.aj v) 0)) K=K .undef s5:=λK=>w7 K
 have bx:∀(K:AV->St->Option (AV×St)),aq c .box [.agg (g.aj src)] s K=K (.ptr s.next 0) (ah s (.cells (g.aj src) 0)):=λK=>by rw[dI];rfl
 simp[bx,h3,g8,zero,bw,hcut];rw[st2'];simp only[hy5,aJ,Zb1,hcut,gO]
theorem Uu(b:Pos)(off:Nat):¬Plain (.ptr b off):=λh=>by
 have:=h (λ_=>⟨0,0,0⟩) (λ_=>⟨0,0,0⟩) (b.toNat+1) 0 (λ_=>none) _ (.ptr b off (by omega));cases this with
 |ptr _ _ h=>omega
theorem aqu{s s':St}{b:Pos}{off:Nat}:tidy s (.ptr b off,s')=(.ptr b off,s'):=by unfold tidy;rw[Za7];exact λh=>Uu _ _ h.1
theorem at1(hc:Sem c)(s:St):c 128 [] s=some (.ptr (ah s (.map [] 0)).next 0,ah (ah s (.map [] 0)) (.cells [.af,.af,.map s.next] 0)):=by
 rw[afK hc 1 (r:=(.ptr (ah s (.map [] 0)).next 0,ah (ah s (.map [] 0)) (.cells [.af,.af,.map s.next] 0))),aqu];rw[aju];simp[bY,aU,cU,AV.cells]
def kX(k:Option Pos)(n es:Nat):AV:=match k with
 |none=> .af
 |some b=> .slice b 0 n none es
theorem Tn{k:Option Pos}{n es:Nat}(h:k=none->n=0):∀H p,aF.run H p (.lenB .l) [kX k n es]=some (.val (.int .i64 (n:Int))):=λH p=>by
 cases k with
 |none=>rw[h rfl];rfl
 |some b=>rfl
def alP(s0 s:St)(bp:Pos)(gk tk:Option Pos)(g:aQ)(row:List AV):Prop:=g.Low/\g.tg.length<=4/\∃v,row=g.aj v/\v.cells=[v]/\v.one=true/\QS 1 s v (g.tg.map qe)/\∀p,aK v=some p->p≠bp/\gk≠some p/\tk≠some p/\s0.heap.get p=none
theorem an0{es:Nat}{s:St}{v:AV}{rows:List (List AV)}(h:QS es s v rows){b:Pos}(hb:aK v=some b):∃cs,s.heap.get b=some (.cells cs 0):=by
 rcases h with⟨rfl,rfl⟩|⟨b',off,cap,cs,rfl,h1,_⟩|⟨b',off,rfl,rfl⟩
 . cases hb
 . obtain rfl:=qk hb;exact⟨cs,h1⟩
 . rw[lU]at hb;cases hb
theorem alP.to{s0 s s':St}{bp:Pos}{gk tk Uw uK:Option Pos}{g:aQ}{row:List AV}(h:alP s0 s bp gk tk g row)
   (hk:∀p cs,p≠bp->gk≠some p->tk≠some p->s.heap.get p=some (.cells cs 0)->s'.heap.get p=some (.cells cs 0)/\Uw≠some p/\uK≠some p):alP s0 s' bp Uw uK g row:=by
 obtain⟨h1,h2,v,h3,h4,h5,h6,h7⟩:=h;refine⟨h1,h2,v,h3,h4,h5,h6.mono λb x hb hx=> ?_,λp hp=> ?_⟩
 . obtain⟨cs,h8⟩:=an0 h6 hb;rw[h8]at hx;cases hx;obtain⟨a1,a2,a3,_⟩:=h7 b hb;exact(hk b cs a1 a2 a3 h8).1
 . obtain⟨cs,h8⟩:=an0 h6 hp;obtain⟨a1,a2,a3,a4⟩:=h7 p hp;exact⟨a1,(hk p cs a1 a2 a3 h8).2.1,(hk p cs a1 a2 a3 h8).2.2,a4⟩
structure eF(s0 s:St)(bp mp:Pos)(gs:List aQ)(ts:List Ty)(gk tk:Option Pos):Prop where
 wf:Wf s
 keeps:aT s0 s
 next:s0.next.toNat<=s.next.toNat
 book:s.heap.get bp=some (.cells [kX gk gs.length 9,kX tk ts.length 3,.map mp] 0)
 DN:∃es cl,s.heap.get mp=some (.map es cl)/\es.map (·.1)=gs.map λg=> .str g.name
 tq:(gk=none->gs=[])/\∀b,gk=some b->∃cs,s.heap.get b=some (.cells cs 0)/\cs.length=gs.length*9
 yw:(tk=none->ts=[])/\∀b,tk=some b->s.heap.get b=some (.cells (ts.flatMap Ty.cells) 0)
 dg:gk≠some bp
 dt:tk≠some bp
 dgt:∀b,gk=some b->tk≠some b
 fb:s0.heap.get bp=none
 fm:s0.heap.get mp=none
 fg:∀b,gk=some b->s0.heap.get b=none
 ft:∀b,tk=some b->s0.heap.get b=none
 Pd:∀es cl,s.heap.get mp=some (.map es cl)->∀e∈es,∃i:Nat,e.2.1= .int .i64 (i:Int)/\i<gs.length
 rows:∀b cs,gk=some b->s.heap.get b=some (.cells cs 0)->∀(i:Nat)(g:aQ),gs[i]? =some g->alP s0 s bp gk tk g ((cs.drop (i*9)).take 9)
theorem eF.lt{s0 s:St}{bp mp:Pos}{gs:List aQ}{ts:List Ty}{gk tk:Option Pos}(h:eF s0 s bp mp gs ts gk tk):bp.toNat<s.next.toNat/\mp.toNat<s.next.toNat:=by
 obtain⟨es,cl,h1,_⟩:=h.DN;exact⟨h.wf _ _ h.book,h.wf _ _ h1⟩
theorem eF.ai{s0 s s':St}{bp mp:Pos}{gs:List aQ}{ts:List Ty}{gk tk:Option Pos}(h:eF s0 s bp mp gs ts gk tk)(g:Grew s s'):eF s0 s' bp mp gs ts gk tk where
 wf:=g.wf
 keeps:=h.keeps.trans g.keeps
 next:=Zb0 h.next g.next
 book:=g.get h.book
 DN:=let⟨es,cl,h1,h2⟩:=h.DN;⟨es,cl,g.get h1,h2⟩
 tq:=⟨h.tq.1,λb hb=>let⟨cs,h1,h2⟩:=h.tq.2 b hb;⟨cs,g.get h1,h2⟩⟩
 yw:=⟨h.yw.1,λb hb=>g.get (h.yw.2 b hb)⟩
 dg:=h.dg
 dt:=h.dt
 dgt:=h.dgt
 fb:=h.fb
 fm:=h.fm
 fg:=h.fg
 ft:=h.ft
 Pd:=λes cl hm=>by obtain⟨es0,cl0,h1,h2⟩:=h.DN;have:=g.get h1;rw[hm]at this;cases this;exact h.Pd _ _ h1
 rows:=λb cs hb hs i u hu=>by
  obtain⟨cs0,h1,h2⟩:=h.tq.2 b hb;have:=g.get h1;rw[hs]at this;cases this;exact(h.rows b _ hb h1 i u hu).to λp cs _ a2 a3 hx=>⟨g.get hx,a2,a3⟩
theorem wj{s0:St}{jb:Pos}{y:AB}(hj:s0.heap.get jb=some y){q:Pos}(hq:s0.heap.get q=none):q≠jb:=λe=>by rw[e,hj]at hq;cases hq
theorem eF.at{s0 s s':St}{bp mp:Pos}{gs:List aQ}{ts:List Ty}{gk tk:Option Pos}(h:eF s0 s bp mp gs ts gk tk){jb:Pos}{y:AB}(hj:s0.heap.get jb=some y)(hw:Wf s')(hk:∀q x,q≠jb->s.heap.get q=some x->s'.heap.get q=some x):
  eF { heap:= .e,next:=s'.next } s' bp mp gs ts gk tk where
 wf:=hw
 keeps:=λb x hb=>by rw[T.dP]at hb;cases hb
 next:=Za3 _
 book:=hk _ _ (wj hj h.fb) h.book
 DN:=let⟨es,cl,h1,h2⟩:=h.DN;⟨es,cl,hk _ _ (wj hj h.fm) h1,h2⟩
 tq:=⟨h.tq.1,λb hb=>let⟨cs,h1,h2⟩:=h.tq.2 b hb;⟨cs,hk _ _ (wj hj (h.fg b hb)) h1,h2⟩⟩
 yw:=⟨h.yw.1,λb hb=>hk _ _ (wj hj (h.ft b hb)) (h.yw.2 b hb)⟩
 dg:=h.dg
 dt:=h.dt
 dgt:=h.dgt
 fb:=T.dP _
 fm:=T.dP _
 fg:=λb _=>T.dP _
 ft:=λb _=>T.dP _
 Pd:=λes cl hm=>by obtain⟨es0,cl0,h1,h2⟩:=h.DN;have:=hk _ _ (wj hj h.fm) h1;rw[hm]at this;cases this;exact h.Pd _ _ h1
 rows:=λb cs hb hs i u hu=>by
  obtain⟨cs0,h1,h2⟩:=h.tq.2 b hb;have:=hk _ _ (wj hj (h.fg b hb)) h1;rw[hs]at this;cases this;obtain⟨k1,k2,v,k3,k4,k5,k6,k7⟩:=h.rows b _ hb h1 i u hu;exact⟨k1,k2,v,k3,k4,k5,k6.mono λb x hb hx=>hk b x (wj hj (k7 b hb).2.2.2) hx,λp hp=>⟨(k7 p hp).1,(k7 p hp).2.1,(k7 p hp).2.2.1,T.dP _⟩⟩
theorem eF.start{s:St}(hw:Wf s):eF s (ah (ah s (.map [] 0)) (.cells [.af,.af,.map s.next] 0)) (ah s (.map [] 0)).next s.next [] [] none none where
 wf:=bn (bn hw)
 keeps:=(cm hw).trans (cm (bn hw))
 next:=by simp only[bD,Pos.aC];omega
 book:=az _ _
 DN:=⟨[],0,LU,rfl⟩
 tq:=⟨λ_=>rfl,λb h=>by cases h⟩
 yw:=⟨λ_=>rfl,λb h=>by cases h⟩
 dg:=λh=>by cases h
 dt:=λh=>by cases h
 dgt:=λb h=>by cases h
 fb:=by
  cases h:s.heap.get (ah s (.map [] 0)).next with
  |none=>rfl
  |some x=>have:=hw _ _ h;rw[bD,Pos.aC]at this;omega
 fm:=by
  cases h:s.heap.get s.next with
  |none=>rfl
  |some x=>have:=hw _ _ h;omega
 fg:=λb h=>by cases h
 ft:=λb h=>by cases h
 Pd:=λes cl hm e he=>by have:(ah (ah s (.map [] 0)) (.cells [.af,.af,.map s.next] 0)).heap.get s.next=some (.map [] 0):=LU;rw[hm]at this;cases this;cases he
 rows:=λb cs h=>by cases h
theorem GZ(s:List Nat):∀(gs:List aQ)(es:List (AV×AV×Nat))(i:Nat),es.map (·.1)=gs.map (λg=> .str g.name)->
  (s∈gs.map aQ.name/\∃j v,gP .s (.str s) es i=some (some (j,v)))\/(s∉gs.map aQ.name/\gP .s (.str s) es i=some none)
 |[],es,i,h=>by
  have:es=[]:=by simpa using h
  subst this;exact .inr ⟨by simp,rfl⟩
 |g::gs,[],i,h=>by simp at h
 |g ::gs,(k,v,n)::es,i,h=>by
  simp only[Zd2,Zf7]at h;obtain⟨h1,h2⟩:=h;subst h1;by_cases e:s=g.name
  . subst e;exact .inl ⟨by simp,i,v,by simp[gP,AD,iU]⟩
  . rcases GZ s gs es (i+1) h2 with⟨a,b⟩|⟨a,b⟩
    .   left;refine⟨by simp at a ⊢; exact .inr a,?_⟩;simpa [gP,AD,iU,e]using b
    .   right;refine⟨by simp at a ⊢; exact⟨e,a⟩,?_⟩;simpa [gP,AD,iU,e]using b
theorem To{gs:List aQ}{s:List Nat}:0<=scan (oF gs s) gs.length 0↔s∈gs.map aQ.name:=by
 constructor
 . intro h;obtain⟨_,h2,h3⟩:=B7 _ _ h;simp only[oF,Ze7]at h3;rw[H0 (by omega)]at h3;simp only[Ze2,H5]at h3;rw[<-h3];exact Zc7.2 ⟨_,Zc2 _,rfl⟩
 . intro  h;obtain⟨g,hg,rfl⟩:=Zc7.1 h;obtain⟨i,hi,rfl⟩:=Zg2.1 hg;have key:∀(m k:Nat),k<=i->i<k+m->0<=scan (oF gs gs[i].name) m k:=by
    intro m;induction m with
    |zero=>intro k h1 h2;omega
    |   succ m ih=>
        intro k h1 h2;unfold scan;split
        . omega
        . rename_i cZ;by_cases e:k=i
          . subst e;simp[oF,hi]at cZ
          . exact ih (k+1) (by omega) (by omega)
   exact key _ _ (by omega) (by omega)
theorem Y4(hc:Sem c)(s:St)(bp mp:Pos)(x y:AV)(h:s.heap.get bp=some (.cells [x,y,.map mp] 0)):c 136 [.ptr bp 0] s=some (.bool false,s):=by
 rw[Vu hc 1 (r:=(.bool false,s)),aE (Plain.bool _) (aT.refl s)];rw[Zz];have e1:∀(K:AV->St->Option (AV×St))(s:St),aq c (.bin .eql .ptr) [.ptr bp 0,.ju] s K=K (.bool false) s:=λK s=>aR c K (λH n=>rfl) s
 have e2:∀(K:AV->St->Option (AV×St))(s:St),aq c (.bin .eql .map) [.map mp,.qE] s K=K (.bool false) s:=λK s=>aR c K (λH n=>rfl) s
 simp[e1,e2,h]
theorem alQ(z:Bool)(l:List (List Nat)):(iW z l).cells=[iW z l]:=by unfold iW ro;split<;>rfl
theorem aqv(z:Bool)(l:List (List Nat)):(iW z l).one=true:=by unfold iW ro;split<;>rfl
theorem akq{s:List Nat}(h:pK s=true):∀x∈s,x<256:=λx hx=>by simp only[pK,Zb6,Zg7,Ze7]at h;have:=h.2 x hx;omega
theorem ad9{s:List Nat}(h:An s=true):∀x∈s,x<256:=λx hx=>by
 simp only[An,Zj4,Ze7]at h;rcases h with h|h
 . rw[h]at hx;cases hx
 . exact akq h x hx
theorem ae5{g:aQ}(h:jQ g=0):g.Low:=by
 unfold jQ at h;split at h
 . simp at h
 . rename_i hn;simp only[Bool.not_eq_false,Zb6]at hn;exact⟨akq hn.1.1.1,ad9 hn.1.1.2,ad9 hn.1.2,ad9 hn.2⟩
theorem akr{s:St}(hw:Wf s){k:Option Pos}{n es bytes:Nat}{q:Pos}{row:List AV}(hk:k=none->n=0)(fC:∀b,k=some b->∃cs,s.heap.get b=some (.cells cs 0)/\cs.length=n*es)(hq:s.heap.get q=some (.cells row 0))(hr:row.length=es)
  (h1:aM row=true) (dY:es≠0) (hb:(2*(n+1)+768)*bytes<=281474976710656) (hn:n<=1000):
  ∃ s5 nh,(∀(K:AV->St->Option (AV×St)),aq c (.append es bytes) [kX k n es,.slice q 0 1 (some 1) es] s K=K (.slice s.next 0 (n+1) none es) s5)/\s5.heap.get s.next=some (.cells nh 0)/\nh.length=(n+1)*es/\
    (∀b cs,k=some b->s.heap.get b=some (.cells cs 0)->nh=cs++row)/\(k=none->nh=row)/\s5.next=s.next.succ/\Wf s5/\∀p,k≠some p->p.toNat<s.next.toNat->s5.heap.get p=s.heap.get p:=by
 have hx:dy es 1 (λb=>s.heap.get b) (.slice q 0 1 (some 1) es)=some row:=by simp only[dy,cV,Zo8,Za2 dY,hq];exact cM hr
 cases k with
 |none=>
  obtain rfl:=hk rfl;refine⟨ah s (.cells row 0),row,λK=>ahe c K (m:=1) rfl (by omega) (by omega) (by omega) hx,az _ _,by omega,λb cs h=>(by cases h),λ_=>rfl,rfl,bn hw,λp _ hp=>xF hp⟩
 |some b=>
  obtain⟨cs,h2,h3⟩:=fC b rfl;have ho:dy es n (λb=>s.heap.get b) (.slice b 0 n none es)=some cs:=by
    by_cases h0:n=0
    .   subst h0;have:cs=[]:=Zc5 (by omega);subst this;simp[dy,cV]
    .   have:¬n*es=0:=λe=>by rcases Nat.mul_eq_zero.1 e with e|e<;>omega
        simp only[dy,cV,Za2 this,h2];exact cM h3
  refine⟨dst s b (.cells (cs++row) 0),cs++row,λK=>ar7 c K (m:=1) rfl (by omega) hb (by omega) h2 ho hx h1,adG _ _ _,?_,λb' cs2 e h=> ?_,λh=>(by cases h),rfl,anc hw,λp hp hl=>acj (λe=>hp (by rw[e])) hl⟩
  . rw[Ze6,h3,hr,Zj3,Zo8]
  . cases e;rw[h2]at h;cases h;rfl
def zi(gs:List aQ)(g:aQ):Int:=if jQ g≠0 then jQ g else if 0<=scan (oF gs g.name) gs.length 0 then 5 else if gs.length=64 then 7 else 0
set_option maxHeartbeats 1000000 in
theorem at2 (hc : Sem c){s0 s:St}{bp mp:Pos}{gs:List aQ}{ts:List Ty}{gk tk:Option Pos}(HG:Wf s0)(B:eF s0 s bp mp gs ts gk tk)(hl:gs.length<=64)(g:aQ):
   ∃s',c 129 [.ptr bp 0,.agg g.cells] s=some (.int .i64 (zi gs g),s')/\(zi gs g≠0->s'=s)/\(zi gs g=0->∃Uw,eF s0 s' bp mp (gs++[g]) ts Uw tk):=by
 have cg:Wf (ah s (.cells g.cells 0)):=bn B.wf;have B1:=B.ai (Grew.ah B.wf (.cells g.cells 0));generalize Fm:ah s (.cells g.cells 0)=s1 at cg B1;have hpg:s1.heap.get s.next=some (.cells g.cells 0):=by rw[<-Fm];exact az _ _
 have nG:=Y4 hc s1 bp mp _ _ B1.book;have hch:=ad6 hc g s1 cg;have lG:∀(K:AV->St->Option (AV×St))(s:St),aq c (.lenB .l) [kX gk gs.length 9] s K=K (.int .i64 (gs.length:Int)) s:=λK s=>aR c K (Tn λh=>by rw[B.tq.1 h];rfl) s
 have lG2:∀(K:AV->Option (AV×St)),fD (.lenB .l) [kX gk gs.length 9] K=K (.int .i64 (gs.length:Int)):=λK=>dB K (Tn λh=>by rw[B.tq.1 h];rfl)
 obtain⟨es,cl,od,hm2⟩:=B1.DN;have fail:∀e:Int,e≠0->zi gs g=e->zZ c 1 (.ptr bp 0) (.agg g.cells) s=some (.int .i64 e,s1)->∃s',c 129 [.ptr bp 0,.agg g.cells] s=some (.int .i64 (zi gs g),s')/\(zi gs g≠0->s'=s)/\(zi gs g=0->∃Uw,eF s0 s' bp mp (gs++[g]) ts Uw tk):=λe he ha h=>by
   refine⟨s,?_,λ_=>rfl,λh0=>absurd (ha.symm.trans h0) he⟩;rw[HJ hc 1 h,ha,aE (Plain.int _ _) (by rw[<-Fm];exact cm B.wf)]
 have eb:∀(K:AV->St->Option (AV×St)),aq c .box [.agg g.cells] s K=K (.ptr s.next 0) s1:=λK=>by rw[dI, <-Fm];rfl
 have h64:((gs.length:Int)=64)↔gs.length=64:=by omega
 by_cases h1:jQ g=0
 . rcases GZ  g.name gs es 0 hm2 with⟨Ag,j,v,hf⟩|⟨Ag,hf⟩
   . have hsc:=To.2 Ag;refine fail 5 (by omega) (by simp[zi,h1,hsc]) ?_;rw[wm];have lk:=λ(K:AV->Option (AV×St))=>aeN K (.int .i64 0) (h:=s1.heap) (k:= .str g.name) od hf
     simp[eb,nG,hch,h1,hpg,B1.book,lk]
   . have hsc: ¬0<=scan (oF gs g.name) gs.length 0:=λh=>Ag (To.1 h)
     have lk:=λ(K:AV->Option (AV×St))=>aeN K (.int .i64 0) (h:=s1.heap) (k:= .str g.name) od hf
     by_cases h2:gs.length=64
     .  have h2d:decide ((gs.length:Int)=64)=true:=Za0 (by omega);refine fail 7 (by omega) (by unfold zi;rw[Za7 (by simp[h1]),Za7 hsc,Zb3 h2]) ?_;rw[wm];simp[eb,nG,hch,h1,hpg,B1.book,lk,lG,h2d]
     .  have htg:g.tg.length<=4:=by
          unfold jQ at h1;split at h1
          . simp at h1
          . split at h1
            . simp at h1
            . split at h1
              . simp at h1
              . split at h1
                . simp at h1
                . omega
        have he:zi gs g=0:=(by unfold zi;rw[Za7 (by simp[h1]),Za7 hsc,Za7 h2]);have h2d:decide ((gs.length:Int)=64)=false:=Za2 (by omega);have lt1:=B1.lt;have Ae:s.next.toNat<s1.next.toNat:=(by rw[<-Fm,bD,Pos.aC];omega);have nmb:mp≠bp:=λe=>by rw[e,B1.book]at od;cases od
        have nmp:mp≠s.next:=λe=>by rw[e,hpg]at od;cases od
        let Wh:=es++[(AV.str g.name,AV.int .i64 (gs.length:Int),cl)]
        let s2:=aY s1 mp (.map Wh (cl+1))
        have kW:Wf s2:=jD cg lt1.2;have b2:s2.heap.get bp=some (.cells [kX gk gs.length 9,kX tk ts.length 3,.map mp] 0):=(by show(aY _ _ _).heap.get bp=_;rw[aG nmb];exact B1.book);have p2:s2.heap.get s.next=some (.cells g.cells 0):=(by show(aY _ _ _).heap.get _=_;rw[aG nmp];exact hpg);have m2:s2.heap.get mp=some (.map Wh (cl+1)):=bN _ _ _;obtain⟨v,s3,q1,M⟩:=ae4 hc g (ae5 h1) (by omega) s2 kW (aqt g.tz g.tg) (alQ _ _) (aqv _ _);rw[aQ.anZ]at q1
        let row:=g.aj v
        have q2:=M.ai;have q3:row.length=9:=rfl;have vone:v.one=true:=yW M.cells.2;have q4:aM row=true:=g.Gi M.cells.2;have hw4:Wf (ah s3 (.cells row 0)):=bn q2.wf;have gr4:=q2.trans (Grew.ah q2.wf (.cells row 0));have gL:∀p x,s2.heap.get p=some x->p.toNat<(ah s3 (.cells row 0)).next.toNat:=λp x h=>hw4 p x (gr4.get h)
        have fC:∀b,gk=some b->∃cs,(ah s3 (.cells row 0)).heap.get b=some (.cells cs 0)/\cs.length=gs.length*9:=λb hb=>by
          obtain⟨cs,h3,h4⟩:=B1.tq.2 b hb;have:mp≠b:=λe=>by rw[e,h3]at od;cases od
          exact⟨cs,gr4.get (by show(aY _ _ _).heap.get b=_;rw[aG this];exact h3),h4⟩
        obtain⟨s5,nh,r1,r2,r3,ra,rb,r4,r5,r6⟩:=akr (c:=c) (es:=9) (bytes:=112) hw4 (k:=gk) (n:=gs.length) (λh=>by rw[B.tq.1 h];rfl) fC (az _ _) q3 q4 (by omega) (by omega) (by omega);have hs4:(ah s3 (.cells row 0)).next=s3.next.succ:=rfl;have keep:∀p x,s2.heap.get p=some x->gk≠some p->s5.heap.get p=some x:=λp x h cZ=>by rw[r6 p cZ (gL p x h)];exact gr4.get h
        have b5:=keep bp _ b2 B.dg
        let gv:=AV.slice (ah s3 (.cells row 0)).next 0 (gs.length+1) none 9
        let s6:=aY s5 bp (.cells [gv,kX tk ts.length 3,.map mp] 0)
        have aqw:bp.toNat<s5.next.toNat:=r5 _ _ b5;have nb4:bp≠(ah s3 (.cells row 0)).next:=λe=>by have:=gL _ _ b2;rw[e]at this;omega
        have st6:∀(K:AV->St->Option (AV×St)),aq c (.store 1) [.ptr bp 0,gv] s5 K=K .undef s6:=λK=>bP c K s5 1 bp 0 gv _ b5 rfl (by simp) rfl
        have g6:∀p,p≠bp->s6.heap.get p=s5.heap.get p:=λp h=>aG (λe=>h e.symm)
        have alR:∀p:Pos,s0.next.toNat<=p.toNat->s0.heap.get p=none:=λp h=>by
          cases hx:s0.heap.get p with
          |none=>rfl
          |some x=>have:=HG _ _ hx;omega
        have nx:s0.next.toNat<=(ah s3 (.cells row 0)).next.toNat:=Zb0 B1.next (Zb0 (by show s1.next.toNat<=s2.next.toNat;exact Za3 _) gr4.next)
        have ah7:eF s0 s6 bp mp (gs++[g]) ts (some (ah s3 (.cells row 0)).next) tk:={
          wf:=jD r5 aqw
          keeps:=λp x hp=>by
            have n1:p≠bp:=λe=>by rw[e,B.fb]at hp;cases hp
            have n2:mp≠p:=λe=>by rw[<-e,B.fm]at hp;cases hp
            have n3:gk≠some p:=λe=>by rw[B.fg p e]at hp;cases hp
            rw[g6 p n1];exact keep p x (by show(aY _ _ _).heap.get p=_;rw[aG n2];exact B1.keeps p x hp) n3
          next:=by show s0.next.toNat<=s5.next.toNat;rw[r4,Pos.aC];omega
          book:=by show(aY _ _ _).heap.get bp=_;rw[bN];simp[gv,kX]
          DN:=⟨Wh,cl+1,by
            rw[g6 mp nmb];exact keep mp _ m2 (λe=>by obtain⟨cs,h3,_⟩:=B1.tq.2 mp e;rw[h3]at od;cases od),by simp[Wh,hm2]⟩
          tq:=⟨λh=>(by cases h),λb hb=>by cases hb;refine⟨nh,?_,by rw[r3];simp⟩;rw[g6 _ (λe=>nb4 e.symm)];exact r2⟩
          yw:=⟨B.yw.1,λb hb=>by
            have h3:=B1.yw.2 b hb;have n1:b≠bp:=λe=>B.dt (by rw[<-e];exact hb)
            have n2:mp≠b:=λe=>by rw[e,h3]at od;cases od
            have n3:gk≠some b:=λe=>B.dgt b e hb
            rw[g6 b n1];exact keep b _ (by show(aY _ _ _).heap.get b=_;rw[aG n2];exact h3) n3⟩
          dg:=λe=>nb4 (by injection e with e;exact e.symm)
          dt:=B.dt
          dgt:=λb hb ht=>by
            (cases hb;have h3:=B1.yw.2 _ ht;have n2:mp≠(ah s3 (.cells row 0)).next:=λe=>by rw[e,h3]at od;cases od);have:=gL _ _ (show s2.heap.get (ah s3 (.cells row 0)).next=_ from(aG n2).trans h3);omega
          fb:=B.fb
          fm:=B.fm
          fg:=λb hb=>by cases hb;exact alR _ nx
          ft:=B.ft
          Pd:=λes' cl' hm e he=>by
            have m6:s6.heap.get mp=some (.map Wh (cl+1)):=by
              rw[g6 mp nmb];exact keep mp _ m2 (λe=>by obtain⟨cs,h3,_⟩:=B1.tq.2 mp e;rw[h3]at od;cases od)
            rw[hm]at m6;cases m6;rcases Zd8.1 he with he|he
            . obtain⟨i,e1,e2⟩:=B1.Pd _ _ od e he;exact⟨i,e1,by simp;omega⟩
            . simp only[Za8,Zb7,Ze4]at he;subst he;exact⟨gs.length,rfl,by simp⟩
          rows:=  λb cs hb hs i u hu=>by
            cases hb;have r2':s6.heap.get (ah s3 (.cells row 0)).next=some (.cells nh 0):=(by rw[g6 _ (λe=>nb4 e.symm)];exact r2);rw[hs]at r2';cases r2';by_cases hi:i<gs.length
            . rw[Zc1 hi]at hu;cases hgk:gk with
              |none=>rw[B.tq.1 hgk]at hi;simp at hi
              | some b0=>
                obtain⟨cs0,h3,h4⟩:=B1.tq.2 b0 hgk;have n0:mp≠b0:=λe=>by rw[e,h3]at od;cases od
                have e0:=ra b0 cs0 hgk (gr4.get (by show(aY _ _ _).heap.get b0=_;rw[aG n0];exact h3));have R0:=B1.rows b0 cs0 hgk h3 i u hu;rw[e0,Zg4 (by omega),Zl2 (by simp;omega)];(refine R0.to λp cs a1 a2 a3 hx=> ?_);have n1:mp≠p:=λe=>by rw[e,hx]at od;cases od
                have x2:s2.heap.get p=some (.cells cs 0):=(by show(aY _ _ _).heap.get p=_;rw[aG n1];exact hx);have aV:=gL p _ x2;refine⟨by rw[g6 p a1];exact keep p _ x2 a2,λe=> ?_,a3⟩;cases e;omega
            . have Ak:i=gs.length:=(by have:=(Za1.1 hu).1;simp at this;omega);subst Ak;simp at hu;subst hu;have er:(nh.drop (gs.length*9)).take 9=row:=by
                cases hgk:gk with
                | none=>
                  rw[rb hgk,B.tq.1 hgk];exact Zf9 (by simp[q3])
                | some b0=>
                  obtain⟨cs0,h3,h4⟩:=B1.tq.2 b0 hgk;have n0:mp≠b0:=λe=>by rw[e,h3]at od;cases od
                  rw[ra b0 cs0 hgk (gr4.get (by show(aY _ _ _).heap.get b0=_;rw[aG n0];exact h3)), <-h4];rw[Zg4 (Za3 _)];simp[Zf9 (Nat.le_of_eq q3)]
              (rw[er];have NP:∀p x,s2.heap.get p=some x->p.toNat<s2.next.toNat:=λp x h=>kW p x h);refine⟨ae5 h1,htg,v,rfl,M.cells.1,vone,M.own.mono λb x hb hx=> ?_,λp hp=> ?_⟩
              . have jy:=M.new b hb;have vE:=M.own.lt M.ai.wf hb;have nb:b≠bp:=λe=>by have:=NP _ _ b2;rw[e]at jy;omega
                have ng:gk≠some b:=λe=>by
                  obtain⟨cs0,h3,_⟩:=B1.tq.2 b e;have n0:mp≠b:=λe=>by rw[e,h3]at od;cases od
                  have:=NP b _ (by show(aY _ _ _).heap.get b=_;rw[aG n0];exact h3);omega
                rw[g6 b nb,r6 b ng (by rw[hs4,Pos.aC];omega)];exact(Grew.ah q2.wf (.cells row 0)).get hx
              . have jy:=M.new p hp;have vE:=M.own.lt M.ai.wf hp;refine⟨λe=>by have:=NP _ _ b2;rw[e]at jy;omega,λe=> ?_,λe=> ?_,alR p (by have h9:=B1.next;rw[show s2.next=s1.next from dH _ _ _]at jy;omega)⟩
                . cases e;rw[hs4,Pos.aC]at vE;omega
                . have h3:=B1.yw.2 p e;have n2:mp≠p:=λe=>by rw[e,h3]at od;cases od
                  have:=NP p _ (by show(aY _ _ _).heap.get p=_;rw[aG n2];exact h3);omega }
        refine⟨s6,?_,λh=>absurd he h,λ_=>⟨_,ah7⟩⟩;rw[he];rw[HJ hc 1 (r:=(.int .i64 0,s6))]
        . rw[adH (b:=bp) B.book];rw[ah7.book];intro e;have e:=congrArg (λo=>match o with|some (AB.cells (v::_) _)=>eJ v|_=>none) e;simp only[kX,eJ]at e;cases gk with
          |none=>simp[eJ,B.tq.1 rfl]at e
          |some b=>simp[eJ]at e
        (rw[wm];have stm:=λ(K:AV->St->Option (AV×St))=>ajg c K (v:= .int .i64 (gs.length:Int)) od hf);have bq:eo (kX gk gs.length 9) (kX gk gs.length 9)=true:=(by cases gk;exact Sx;exact N6 _ _ _ _);have b3:s3.heap.get bp=some (.cells [kX gk gs.length 9,kX tk ts.length 3,.map mp] 0):=q2.get b2;have Mn:=λ(K:AV->Option (AV×St))=>kg K (p:=bp) (o:=0) (h:=s3.heap) (h2:=s2.heap) (v:=kX gk gs.length 9) (by rw[b3];rfl) (by rw[b2];rfl) bq
        have zS:bY (bU [AV.str [],AV.str [],AV.str [],.int .i64 0,.int .i64 0,.str [],.bool false,.bool false,.af] 1) [(0,9)] [AV.agg (g.aj v)]=some row:=by
          have:(g.aj v).length=9:=q3;show _=some (g.aj v);simp[bY,bU,cV,cU,this,aU]
        simp[eb,nG,hch,h1,hpg,B1.book,lk,lG,lG2,h2d,stm];show IJ ((cellsOf (T.get s.next s2.heap)).bind λcs=>cut cs 0 9) _=_;rw[p2];simp only[aJ,Zb1,aQ.cc,gO];show aaZ (c 183 [AV.agg g.cells] s2) _=_;rw[q1];simp only[cO];show ia (.load none) [.ptr bp 0] s3.heap (λv=>oJ (.load none) [.ptr bp 0] v (nE [] s2.heap)) _=_;rw[Mn];simp only[zS,gO,r1];exact st6 _
 . refine fail (jQ g) h1 (by simp[zi,h1]) ?_;rw[wm];simp[eb,nG,hch,h1,hpg]
theorem KW{r s t:Ty}(h:gh r s=true)(k:gh s t=true):gh r t=true:=by
 simp only[gh,Zj4,Zb6,Ze7]at h k ⊢;rcases h with h|⟨h1,h2⟩<;>rcases k with k|⟨k1,k2⟩
 . exact .inl (Tm _ _ _ h k)
 . exact .inl (by rw[<-k1];exact h)
 . exact .inl (by rw[h1];exact k)
 . exact .inr ⟨h1.trans k1,Tm _ _ _ h2 k2⟩
theorem alS{s t:Ty}(h:gh s t=false)(k:gh t s=false):s.a=t.a/\s.b=t.b:=by simp only[gh,Bool.or_eq_false_iff]at h k;have e:=KU _ _ h.1 k.1;refine⟨e,?_⟩;have h2:=h.2;have k2:=k.2;simp only[e,Zh2,Zf6]at h2 k2;exact KU _ _ h2 k2
theorem asK{r s t:Ty}(h:gh r s=true)(k:gh t s=false):gh r t=true:=by
 cases h2:gh s t
 . obtain⟨e1,e2⟩:=alS h2 k;unfold gh at h ⊢; rw[<-e1, <-e2];exact h
 . exact KW h h2
theorem YX{x:Int}(h1:0<=x)(h2:x<=18446744073709551615):ax .u64 x=x:=by
 unfold ax loI hiI;simp only;split
 . split
   . rfl
   . contradiction
 . contradiction
theorem ah8(K:AV->St->Option (AV×St))(st:St)(a:Nat):aq c (.bin .shr .num) [.int .u64 (a:Int),.int .u64 1] st K=K (.int .u64 ((a / 2:Nat):Int)) st:=by
 refine aR c K (λH n=> ?_) st;have:(a:Int).fdiv 2=((a / 2:Nat):Int):=by rw[Zm2 _ (by omega)];rfl
 simp only[aF.run,jv,oW,fj];show some (eI.val (AV.int .u64 ((a:Int).fdiv 2)))=_;rw[this]
theorem ah9(H:Pos->Option AB)(n:Pos)(es:Nat)(b:Pos)(len:Nat)(k:IntKind)(i:Nat)(h:i<len):aF.run H n (.idxA es none) [.slice b 0 len none es,.int k (i:Int)]=some (.val (.ptr b (i*es))):=by
 simp[aF.run,sH,jz,KJ,h]
theorem yV(ts:List Ty)(i:Nat)(h:i<ts.length):cut (ts.flatMap Ty.cells) (i*3) 3=some ts[i].cells:=by
 induction ts generalizing i with
 |nil=>simp at h
 |cons t ts ih=>
  cases i with
  |zero=>rw[Zn8];unfold cut;rw[cU,Za0 (by simp[Ty.len])];simp[Ty.cells]
  |succ i=>
   have h':i<ts.length:=(by simpa using h);have:=ih i h';unfold cut at this ⊢;rw[cU]at this ⊢;(split at this<;>first|(cases this;done)|skip);rename_i hle;simp only[Ze7]at hle;rw[Za0 (by rw[Zn8,Ze6,Ty.len];omega)];simp only[H5]at this ⊢;rw[Zn8,show(i+1)*3=i*3+1+1+1 by omega,Zn6, <-this];rfl
theorem asL(hc:Sem c)(ts:List Ty)(hl:ts.length<=1000)(t:Ty)(q:Nat)(hq:q<=ts.length)(NP:∀h (hh:h<ts.length),h<q->gh ts[h] t=true)(hhi:∀h (hh:h<ts.length),q<=h->gh ts[h] t=false)
  (b:Pos) (x4:Pos) (s:St) (hw:Wf s) (hb:s.heap.get b=some (.cells (ts.flatMap Ty.cells) 0)) (hx:s.heap.get x4=some (.cells t.cells 0)) (F:Nat) (k2):∀(m i j:Nat),j<=i+m->i<=q->q<=j->j<=ts.length->
  bk c F k2 (m+1) [.slice b 0 ts.length none 3,.func 130 [] [],.ptr x4 0,.int .i64 (ts.length:Int),.int .i64 (i:Int),.int .i64 (j:Int)] s=
    k2 [.slice b 0 ts.length none 3,.func 130 [] [],.ptr x4 0,.int .i64 (ts.length:Int),.int .i64 (q:Int)] s:=by
 intro m;induction m with
 |zero=>
  intro i j h1 h2 h3 h4;obtain rfl:i=q:=by omega
  obtain rfl:j=i:=by omega
  rw[eO];simp
 |succ m ih=>
  intro i j h1 h2 h3 h4;rw[eO];by_cases h:i<j
  . let d:=(i+j) / 2
    have hd1:i<=d:=(by omega);have hd2:d<j:=(by omega);have hd3:d<ts.length:=(by omega);have w1:ax .i64 ((i:Int)+(j:Int))=((i+j:Nat):Int):=(by rw[wrap64 (by omega) (by omega)];omega);have w2:ax .u64 ((i+j:Nat):Int)=((i+j:Nat):Int):=YX (by omega) (by omega);have w3:ax .i64 (((i+j) / 2:Nat):Int)=((d:Nat):Int):=wrap64 (by omega) (by omega);have w4:ax .i64 ((d:Int)+1)=((d+1:Nat):Int):=wrap64 (by omega) (by omega);have ix:=λ(K:AV->Option (AV×St))=>dB K (λH n=>ah9 H n 3 b ts.length .i64 d hd3)
    have ho:=Mm hc ts[d] t s hw;have fg:=yV ts d hd3
    clear_value d
    by_cases hn:d<q
    .   have alT:uO ts[d] t<0:=ad7.2 (NP d hd3 hn);rw[<-ih (d+1) j (by omega) (by omega) h3 h4];simp only[aH,br,aA,dS,Int.ofNat_lt,h,Zh2,dW,fS,w1,LS,w2,ah8,w3,dK,ix,GU,hb,fg,hx,aJ,Zb1,Ty.cc,gO,jC,Ze1,Ze0,Zd7,ho,cO,ajZ,alT,w4]
    .   have alT:¬uO ts[d] t<0:=λe=>by have:=ad7.1 e;rw[hhi d hd3 (by omega)]at this;cases this
        rw[<-ih i d (by omega) h2 (by omega) (by omega)];simp only[aH,br,aA,dS,Int.ofNat_lt,h,Zh2,dW,fS,w1,LS,w2,ah8,w3,dK,ix,GU,hb,fg,hx,aJ,Zb1,Ty.cc,gO,jC,Ze1,Ze0,Zd7,ho,cO,ajZ,alT,Zp2,dQ]
  . obtain rfl:i=q:=(by omega);obtain rfl:j=i:=(by omega);simp
def Fo(ts:List Ty)(t:Ty)(q:Nat):Bool:=match ts[q]? with
 |some u=>decide (uO u t=0)
 |none=>false
theorem aqx(x4:Pos)(s:St)(F:Nat)(k2)(m:Nat):bk c F k2 (m+1) [.af,.func 130 [] [],.ptr x4 0,.int .i64 0,.int .i64 0,.int .i64 0] s=
  k2 [.af,.func 130 [] [],.ptr x4 0,.int .i64 0,.int .i64 0] s:=by
 rw[eO];simp
def slvT(k:Option Pos)(n:Nat):AV:=match k with
 |none=> .af
 |some b=> .slice b (0+n*3) (n - n) none 3
theorem arH(hc:Sem c)(ts:List Ty)(hl:ts.length<=1000)(t:Ty)(q:Nat)(hq:q<=ts.length)(NP:∀h (hh:h<ts.length),h<q->gh ts[h] t=true)(hhi:∀h (hh:h<ts.length),q<=h->gh ts[h] t=false)
  (tk:Option Pos) (s:St) (hw:Wf s) (h0:tk=none->ts=[]) (hb:∀b,tk=some b->s.heap.get b=some (.cells (ts.flatMap Ty.cells) 0)):
  c 189 [kX tk ts.length 3,.agg t.cells,.func 130 [] []] s=some (.tuple [.int .i64 (q:Int),.bool (Fo ts t q)],s):=by
 have cg:Wf (ah s (.cells t.cells 0)):=bn hw;have Ae:Plain (.tuple [.int .i64 (q:Int),.bool (Fo ts t q)]):=Plain.tuple (by simp[Plain.int,Plain.bool]);rw[pL hc 1001 (r:=(.tuple [.int .i64 (q:Int),.bool (Fo ts t q)],ah s (.cells t.cells 0))),aE Ae (cm hw)];rw[qD];cases tk with
 |none=>
  obtain rfl:=h0 rfl;obtain rfl:q=0:=by simpa using hq
  have l0:∀(K:AV->St->Option (AV×St))(s:St),aq c (.lenB .l) [.af] s K=K (.int .i64 0) s:=λK s=>aR c K (λH n=>rfl) s
  have L:∀k2,bk c 1001 k2 1001 [.af,.func 130 [] [],.ptr s.next 0,.int .i64 0,.int .i64 0,.int .i64 0] (ah s (.cells t.cells 0))=_:=λk2=>aqx (c:=c) s.next _ 1001 k2 1000
  simp only[kX,dI,aA,l0,Xx,L,aH,br,Zi9];simp[Fo,l0,L]
 |some b=>
  have jy:(ah s (.cells t.cells 0)).heap.get b=some (.cells (ts.flatMap Ty.cells) 0):=cm hw _ _ (hb b rfl);have l0:∀(K:AV->St->Option (AV×St))(s:St),aq c (.lenB .l) [.slice b 0 ts.length none 3] s K=K (.int .i64 (ts.length:Int)) s:=λK s=>aR c K (λH n=>rfl) s
  have L:∀k2,bk c 1001 k2 1001 [.slice b 0 ts.length none 3,.func 130 [] [],.ptr s.next 0,.int .i64 (ts.length:Int),.int .i64 0,.int .i64 (ts.length:Int)] (ah s (.cells t.cells 0))=
    k2 [.slice b 0 ts.length none 3,.func 130 [] [],.ptr s.next 0,.int .i64 (ts.length:Int),.int .i64 (q:Int)] (ah s (.cells t.cells 0)):=
    λk2=>asL hc ts hl t q hq NP hhi b s.next _ cg jy (az _ _) 1001 k2 1000 0 ts.length (by omega) (by omega) (by omega) (by omega)
  simp only[kX,dI,aA,l0,Xx,L,aH,br];by_cases h:q<ts.length
  . have ix:=λ(K:AV->Option (AV×St))=>dB K (λH n=>ah9 H n 3 b ts.length .i64 q h)
    have ho:=Mm hc ts[q] t _ cg;have fg:=yV ts q h;have ef:Fo ts t q=decide (uO ts[q] t=0):=(by unfold Fo;rw[H0 h]);simp[h,ix,jy,fg,ho,ef,AV.cells]
  . have ef:Fo ts t q=false:=(by unfold Fo;rw[Zc4 (by omega)]);simp[h,ef,AV.cells]
def QZ(ts:List Ty)(t:Ty):Nat:=match ts.getLast? with
 |none=>0
 |some u=>if gh u t=true then ts.length else ts.length - 1
def Jm(ts:List Ty):Prop:=∀i j (hj:j<ts.length)(Uq:i<j),gh (ts[i]'(by omega)) ts[j]=true
theorem at3{ts:List Ty}{t:Ty}(hs:Jm ts)(ht:∀u,ts.getLast? =some u->gh t u=false):QZ ts t<=ts.length/\(∀h (hh:h<ts.length),h<QZ ts t->gh ts[h] t=true)/\(∀h (hh:h<ts.length),QZ ts t<=h->gh ts[h] t=false)/\
  Fo ts t (QZ ts t)=we t ts.getLast? :=by
 unfold QZ;cases hl:ts.getLast? with
 |none=>
  have:ts=[]:=by simpa using hl
  subst this;simp[Fo,we]
 |some u=>
  have cZ:ts≠[]:=λe=>by subst e;simp at hl
  have We:0<ts.length:=List.length_pos_iff.2 cZ;have hu:ts[ts.length - 1]'(by omega)=u:=by have:=List.getLast?_eq_getElem? (l:=ts);rw[hl,H0 (by omega)]at this;exact(Zi3 this).symm
  have htu:=ht u hl;simp only;cases hb:gh u t
  . simp only[Zf4,Zh0];refine⟨by omega,λh hh aV=> ?_,λh hh hle=> ?_,?_⟩
    .   have:=hs h (ts.length - 1) (by omega) aV;rw[hu]at this;exact asK this htu
    .   obtain rfl:h=ts.length - 1:=(by omega);rw[hu];exact hb
    .   (unfold Fo;rw[H0 (by omega),hu];have h1:¬uO u t<0:=λe=>by rw[ad7.1 e]at hb;cases hb);have h2:¬0<uO u t:=λe=>by rw[Y3.1 e]at htu;cases htu
        have:uO u t=0:=(by omega);simp[this,we,hb]
  . simp only[Zh7];refine⟨by omega,λh hh _=> ?_,λh hh hle=>by omega,?_⟩
    .   by_cases e:h=ts.length - 1
        . subst e;rw[hu];exact hb
        . have:=hs h (ts.length - 1) (by omega) (by omega);rw[hu]at this;exact KW this hb
    .   unfold Fo;rw[Zc4 (by omega)];simp[we,hb]
theorem B6(hc:Sem c){s0 s:St}{bp mp:Pos}{gs:List aQ}{ts:List Ty}{gk tk:Option Pos}(B:eF s0 s bp mp gs ts gk tk)(hl:ts.length<=1000)(t:Ty)(aV:aO t.a t.b=true)(hs:Jm ts)(ht:∀u,ts.getLast? =some u->gh t u=false):
  c 137 [.ptr bp 0,.str t.a,.str t.b] s=some (.tuple [.int .i64 (QZ ts t:Int),.bool (we t ts.getLast?)],s):=by
 obtain⟨p1,p2,p3,p4⟩:=at3 hs ht;rw[<-p4];have e0:∀u:Ty,gh u ⟨t.a,t.b,0⟩=gh u t:=λu=>rfl
 have e1:Fo ts ⟨t.a,t.b,0⟩ (QZ ts t)=Fo ts t (QZ ts t):=rfl;have hpr:=akp hc t.a t.b 0 aV s B.wf;have Hg:=arH hc ts hl ⟨t.a,t.b,0⟩ (QZ ts t) p1 (λh hh hq=>by rw[e0];exact p2 h hh hq) (λh hh hq=>by rw[e0];exact p3 h hh hq) tk s B.wf B.yw.1 B.yw.2;rw[e1]at Hg;rw[DO hc 1 (r:=(.tuple [.int .i64 (QZ ts t:Int),.bool (Fo ts t (QZ ts t))],s)),aE (Plain.tuple (by simp[Plain.int,Plain.bool])) (aT.refl s)];rw[HN];have bq:eo (kX tk ts.length 3) (kX tk ts.length 3)=true:=by cases tk;exact Sx;exact N6 _ _ _ _
 have Mn:=λ(K:AV->Option (AV×St))=>kg K (p:=bp) (o:=1) (h:=s.heap) (h2:=s.heap) (v:=kX tk ts.length 3) (by rw[B.book];rfl) (by rw[B.book];rfl) bq
 simp[hpr,Mn,Hg]
theorem th(b:Pos)(off n es:Nat):¬Plain (.slice b off n none es):=λh=>by have:=h (λ_=>⟨0,0,off+n*es⟩) (λ_=>⟨0,0,0⟩) (b.toNat+1) 0 (λ_=>none) _ (.slice b off n none es n ⟨0,0+off,none⟩ (Za3 _) (λc h=>by cases h) (λ_=>⟨by omega,rfl,by simp⟩) (λ_=>by omega));have:=this.aeu rfl;omega
theorem an1(hc:Sem c){s:St}(hw:Wf s){tk:Option Pos}{ts:List Ty}{q:Pos}{row:List AV}(h0:tk=none->ts=[])(hb:∀b,tk=some b->s.heap.get b=some (.cells (ts.flatMap Ty.cells) 0))(hq:s.heap.get q=some (.cells row 0))(hr:row.length=3)
   (h1:aM row=true) (hl:ts.length<=1000):
   ∃ s5,c 185 [kX tk ts.length 3,.int .i64 (ts.length:Int),.slice q 0 1 (some 1) 3] s=some (.slice s.next 0 (ts.length+1) none 3,s5)/\s5.heap.get s.next=some (.cells (ts.flatMap Ty.cells++row) 0)/\
     s5.next=s.next.succ/\Wf s5/\∀p,tk≠some p->p.toNat<s.next.toNat->s5.heap.get p=s.heap.get p:=by
 have hlen:∀ts:List Ty,(ts.flatMap Ty.cells).length=ts.length*3:=λts=>by
   induction ts with
   |nil=>rfl
   |cons t ts ih=>rw[Zn8,Ze6,ih,Ty.len,Zc9];omega
 obtain⟨s5,nh,r1,r2,r3,r4,r5,r6,r7,r8⟩:=akr (c:=c) (es:=3) (bytes:=40) hw (k:=tk) (n:=ts.length) (λh=>by rw[h0 h];rfl) (λb vE=>⟨_,hb b vE,hlen ts⟩) hq hr h1 (by omega) (by omega) (by omega);refine⟨s5,?_,?_,r6,r7,r8⟩
 . rw[Bh hc 1 (r:=(.slice s.next 0 (ts.length+1) none 3,s5))]
   . unfold tidy;rw[Za7];exact λh=>th _ _ _ _ h.1
   rw[Da];have sl:∀(K:AV->St->Option (AV×St))(s:St),aq c (.sliceL 3 true false false) [kX tk ts.length 3,.int .i64 (ts.length:Int)] s K=K (slvT tk ts.length) s:=λK s=>by
     refine aR c K (λH n=> ?_) s;cases tk with
     |none=>rw[h0 rfl];rfl
     |some b=>simp[kX,slvT,aF.run,iP,bounds,jz,cV,cU]
   have l1:∀(K:AV->St->Option (AV×St))(s:St),aq c (.lenB .l) [.slice q 0 1 (some 1) 3] s K=K (.int .i64 1) s:=λK s=>aR c K (λH n=>rfl) s
   have l2:∀(K:AV->St->Option (AV×St))(s:St),aq c (.lenB .l) [kX tk ts.length 3] s K=K (.int .i64 (ts.length:Int)) s:=λK s=>aR c K (Tn λh=>by rw[h0 h];rfl) s
   simp[sl,l1,l2,r1]
 . cases tk with
   |none=>rw[r2,r5 rfl,h0 rfl];rfl
   |some b=>rw[r2,r4 b _ rfl (hb b rfl)]
def zj(gs:List aQ)(ts:List Ty)(t:Ty):Int:=if knd t=false then 23 else if ry gs t=true then 6 else if we t ts.getLast? =true then 5 else 0
theorem aia(H:Pos->Option AB)(n:Pos)(es:Nat)(b:Pos)(len:Nat)(cp:Option Nat)(k:IntKind)(i:Nat)(h:i<len):aF.run H n (.idxA es none) [.slice b 0 len cp es,.int k (i:Int)]=some (.val (.ptr b (i*es))):=by
 simp[aF.run,sH,jz,KJ,h]
theorem aks{gs:List aQ}{es:List (AV×AV×Nat)}(h:es.map (·.1)=gs.map λg=> .str g.name)(s:List Nat):
   (¬scan (oF gs s) gs.length 0<0/\∃j v,gP .s (.str s) es 0=some (some (j,v)))\/(scan (oF gs s) gs.length 0<0/\gP .s (.str s) es 0=some none):=by
 rcases GZ s gs es 0 h with⟨a,b⟩|⟨a,b⟩
 . left;have:=To.2 a;exact⟨by omega,b⟩
 . (right;refine⟨?_,b⟩;have:¬0<=scan (oF gs s) gs.length 0:=λe=>a (To.1 e));omega
theorem aqy{s:St}{bp mp:Pos}{x y:AV}{es:List (AV×AV×Nat)}{cl:Nat}{gs:List aQ}(hb:s.heap.get bp=some (.cells [x,y,.map mp] 0))(hm:s.heap.get mp=some (.map es cl))(he:es.map (·.1)=gs.map λg=> .str g.name)
   (t:Ty) (lb:Pos) (hlb:s.heap.get lb=some (.cells [.str t.a,.str t.b] 0)) (F:Nat) (k1 k2):
   mY c F k1 k2 3 [.ptr bp 0,.str t.a,.str t.b,.int .u8 t.k,.slice lb 0 2 (some 2) 1,.int .i64 2,.int .i64 ((0:Nat):Int)] s=if ry gs t=true then k1 [.int .i64 6] s else k2 [.ptr bp 0,.str t.a,.str t.b,.int .u8 t.k] s:=by
 have w0:ax .i64 (((0:Nat):Int)+1)=((1:Nat):Int):=rfl;have w1:ax .i64 (((1:Nat):Int)+1)=((2:Nat):Int):=rfl;have i0:∀(K:AV->St->Option (AV×St))(s:St),aq c (.idxA 1 none) [.slice lb 0 2 (some 2) 1,.int .i64 ((0:Nat):Int)] s K=K (.ptr lb 0) s:=λK s=>aR c K (λH n=>aia H n 1 lb 2 (some 2) .i64 0 (by omega)) s
 have i1:∀(K:AV->St->Option (AV×St))(s:St),aq c (.idxA 1 none) [.slice lb 0 2 (some 2) 1,.int .i64 ((1:Nat):Int)] s K=K (.ptr lb 1) s:=λK s=>aR c K (λH n=>aia H n 1 lb 2 (some 2) .i64 1 (by omega)) s
 have d0:decide (((0:Nat):Int)<2)=true:=rfl;have d1:decide (((1:Nat):Int)<2)=true:=rfl;have d2:decide (((2:Nat):Int)<2)=false:=rfl;have e0:([AV.str t.a,.str t.b]:List AV)[0]? =some (.str t.a):=rfl;have e1:([AV.str t.a,.str t.b]:List AV)[1]? =some (.str t.b):=rfl;have e2:([x,y,AV.map mp]:List AV)[2]? =some (.map mp):=rfl;rw[xP];rcases aks he t.a with⟨n1,j,v,f1⟩|⟨n1,f1⟩
 . have lk1:=λ(K:AV->St->Option (AV×St))=>CC c K (.int .i64 0) (k:= .str t.a) hm f1
   simp only[aH,br,dS,d0,dW,i0,bf,hlb,hb,aJ,Zb1,e0,e2,bg,aA,cJ,aS,Zc3,lk1,kC,Za4,Zb8,Lh,Zk0,dQ,fS,w0];rw[xP];rcases aks he t.b with⟨n2,j,v,f2⟩|⟨n2,f2⟩
   . have lk2:=λ(K:AV->St->Option (AV×St))=>CC c K (.int .i64 0) (k:= .str t.b) hm f2
     simp only[aH,br,dS,d1,dW,i1,bf,hlb,hb,aJ,Zb1,e1,e2,bg,aA,cJ,aS,Zc3,lk2,kC,Za4,Zb8,Lh,Zk0,dQ,fS,w1];rw[xP];have:ry gs t=false:=(by simp[ry,n1,n2]);rw[this];simp only[aH,br,dS,d2,dQ,Zf4,Zh0]
   . have lk2:=λ(K:AV->St->Option (AV×St))=>CC c K (.int .i64 0) (k:= .str t.b) hm f2
     have:ry gs t=true:=(by simp[ry,n2]);rw[this];simp only[aH,br,dS,d1,dW,i1,bf,hlb,hb,aJ,Zb1,e1,e2,bg,aA,cJ,aS,Zc3,lk2,kC,Za4,Zb8,Lh,Zk1,Zh7]
 . have lk1:=λ(K:AV->St->Option (AV×St))=>CC c K (.int .i64 0) (k:= .str t.a) hm f1
   have:ry gs t=true:=(by simp[ry,n1]);rw[this];simp only[aH,br,dS,d0,dW,i0,bf,hlb,hb,aJ,Zb1,e0,e2,bg,aA,cJ,aS,Zc3,lk1,kC,Za4,Zb8,Lh,Zk1,Zh7]
set_option maxHeartbeats 1000000 in
theorem at4 (hc:Sem c){s0 s:St}{bp mp:Pos}{gs:List aQ}{ts:List Ty}{gk tk:Option Pos}(HG:Wf s0)(B:eF s0 s bp mp gs ts gk tk)(hl:ts.length<=200)(t:Ty)(aV:aO t.a t.b=true)(hs:Jm ts)(ht:∀u,ts.getLast? =some u->gh t u=false):
   ∃s',c 131 [.ptr bp 0,.str t.a,.str t.b,.int .u8 t.k] s=some (.int .i64 (zj gs ts t),s')/\(zj gs ts t≠0->s'=s)/\(zj gs ts t=0->∃uK,eF s0 s' bp mp gs (ts++[t]) gk uK):=by
 have cZ:¬t.a=t.b:=λe=>by rw[e,Gn]at aV;cases aV
 have nG:=Y4 hc s bp mp _ _ B.book;have hkt:knd t=true->(t.k=1\/(¬t.k=1/\t.k=2)):=λq=>by
   simp only[knd,Zj4,Ze7]at q;by_cases e:t.k=1
   . exact .inl e
   . exact .inr ⟨e,q.resolve_left e⟩
 by_cases hk:knd t=true
 . have cg  :Wf (ah s (.cells [.str t.a,.str t.b] 0)):=bn B.wf;have B1:=B.ai (Grew.ah B.wf (.cells [.str t.a,.str t.b] 0));have hg1:=Grew.ah B.wf (.cells [.str t.a,.str t.b] 0);have hlb:(ah s (.cells [.str t.a,.str t.b] 0)).heap.get s.next=some (.cells [.str t.a,.str t.b] 0):=az _ _;generalize Fm:ah s (.cells [.str t.a,.str t.b] 0)=s1 at cg B1 hg1 hlb;obtain⟨es,cl,od,hm2⟩:=B1.DN;have L:∀k1 k2,mY c 3 k1 k2 3 [.ptr bp 0,.str t.a,.str t.b,.int .u8 t.k,.slice s.next 0 2 (some 2) 1,.int .i64 2,.int .i64 0] s1=if ry gs t=true then k1 [.int .i64 6] s1 else k2 [.ptr bp 0,.str t.a,.str t.b,.int .u8 t.k] s1:=λk1 k2=>aqy (c:=c) B1.book od hm2 t s.next hlb 3 k1 k2
   have Ae:=B6 hc B1 (by omega) t aV hs ht;have l2:∀(K:AV->St->Option (AV×St))(s:St),aq c (.lenB .l) [.slice (ah s (.cells [] 0)).next 0 2 (some 2) 1] s K=K (.int .i64 2) s:=λK s=>aR c K (λH n=>rfl) s
   have lT:∀(K:AV->St->Option (AV×St))(s:St),aq c (.lenB .l) [kX tk ts.length 3] s K=K (.int .i64 (ts.length:Int)) s:=λK s=>aR c K (Tn λh=>by rw[B.yw.1 h];rfl) s
   have bsl:∀(K:AV->St->Option (AV×St)),aq c (.buildSlice 1 2 [(.str [])] [0,1]) [.str t.a,.str t.b] s K=K (.slice s.next 0 2 (some 2) 1) s1:=λK=>by rw[av, <-Fm];have:bY (bU [AV.str []] 2) ([0,1].map λi=>(i*1,1)) [.str t.a,.str t.b]=some [.str t.a,.str t.b]:=(by simp[bY,bU,cV,cU,aU,AV.cells]);rw[this];rfl
   have l3:∀(K:AV->St->Option (AV×St))(p:Pos)(s:St),aq c (.lenB .l) [.slice p 0 2 (some 2) 1] s K=K (.int .i64 2) s:=λK p s=>aR c K (λH n=>rfl) s
   have aqz:¬(ts.length:Int)=256:=(by omega);have fail:∀e:Int,e≠0->zj gs ts t=e->z8 c 3 (.ptr bp 0) (.str t.a) (.str t.b) (.int .u8 t.k) s=some (.int .i64 e,s1)->∃s',c 131 [.ptr bp 0,.str t.a,.str t.b,.int .u8 t.k] s=some (.int .i64 (zj gs ts t),s')/\(zj gs ts t≠0->s'=s)/\(zj gs ts t=0->∃uK,eF s0 s' bp mp gs (ts++[t]) gk uK):=λe he ha h=>by
     refine⟨s,?_,λ_=>rfl,λh0=>absurd (ha.symm.trans h0) he⟩;rw[zk hc 3 h,ha,aE (Plain.int _ _) hg1.keeps]
   cases hu:ry gs t
   . cases  hd:we t ts.getLast?
     .  have he:zj gs ts t=0:=(by simp[zj,hk,hu,hd]);rw[hd]at Ae;have hplc:(QZ ts t:Int)=ts.length:=by
          unfold QZ;cases hq:ts.getLast? with
          |none=> have:ts=[]:=by simpa using hq
                  subst this;rfl
          | some u=>
            rw[hq]at hd;simp only[we,Bool.not_eq_false']at hd;simp only[hd,Zh7]
        rw[hplc]at Ae;have hpr:=akp hc t.a t.b t.k aV s1 cg
        let s2:=ah s1 (.cells t.cells 0)
        have g2:=Grew.ah cg (.cells t.cells 0);have B2:=B1.ai g2;obtain⟨s5,r1,r2,r3,r4,r5⟩:=an1 hc (s:=s2) g2.wf (tk:=tk) (ts:=ts) (q:=s1.next) (row:=t.cells) B.yw.1 B2.yw.2 (az _ _) rfl t.one (by omega);have lt2:=B2.lt;have b5:s5.heap.get bp=some (.cells [kX gk gs.length 9,kX tk ts.length 3,.map mp] 0):=by rw[r5 bp B.dt lt2.1];exact B2.book
        let tv:=AV.slice s2.next 0 (ts.length+1) none 3
        let s6:=aY s5 bp (.cells [kX gk gs.length 9,tv,.map mp] 0)
        have aqw:bp.toNat<s5.next.toNat:=r4 _ _ b5;have nb2:bp≠s2.next:=λe=>absurd (show bp.toNat<s2.next.toNat from lt2.1) (by rw[e];exact Zo4 _)
        have st6:∀(K:AV->St->Option (AV×St)),aq c (.store 1) [.ptr bp 1,tv] s5 K=K .undef s6:=λK=>bP c K s5 1 bp 1 tv _ b5 rfl (by simp) rfl
        have g6:∀p,p≠bp->s6.heap.get p=s5.heap.get p:=λp h=>aG (λe=>h e.symm)
        have alR:∀p:Pos,s0.next.toNat<=p.toNat->s0.heap.get p=none:=λp h=>by
          cases hx:s0.heap.get p with
          |none=>rfl
          |some x=>have:=HG _ _ hx;omega
        obtain⟨Wh,cl2,hm3,hm4⟩:=B2.DN;have nmb:mp≠bp:=λe=>by rw[e,B2.book]at hm3;cases hm3
        have nmt:tk≠some mp:=λe=>by rw[B2.yw.2 mp e]at hm3;cases hm3
        have ah7:eF s0 s6 bp mp gs (ts++[t]) gk (some s2.next):={
          wf:=jD r4 aqw
          keeps:=λp x hp=>by
            have n1:p≠bp:=λe=>by rw[e,B.fb]at hp;cases hp
            have n3:tk≠some p:=λe=>by rw[B.ft p e]at hp;cases hp
            have h2:=B2.keeps p x hp;rw[g6 p n1,r5 p n3 (B2.wf _ _ h2)];exact h2
          next:=by show s0.next.toNat<=s5.next.toNat;exact Zb0 B2.next (by rw[r3,Pos.aC];exact Nat.le_succ _)
          book:=by show(aY _ _ _).heap.get bp=_;rw[bN];simp[tv,kX]
          DN:=⟨Wh,cl2,by rw[g6 mp nmb,r5 mp nmt lt2.2];exact hm3,hm4⟩
          tq:=⟨B.tq.1,λb hb=>by obtain⟨cs,h3,h4⟩:=B2.tq.2 b hb;refine⟨cs,?_,h4⟩;rw[g6 b (λe=>B.dg (by rw[<-e];exact hb)),r5 b (B.dgt b hb) (B2.wf _ _ h3)];exact h3⟩
          yw:=⟨λh=>(by cases h),λb hb=>by cases hb;rw[g6 _ (λe=>nb2 e.symm),r2];simp⟩
          dg:=B.dg
          dt:=λe=>nb2 (by injection e with e;exact e.symm)
          dgt:=λb hb h=>by
            cases h;obtain⟨cs,h3,h4⟩:=B2.tq.2 _ hb;exact absurd (show s2.next.toNat<s2.next.toNat from B2.wf _ _ h3) (Zo4 _)
          fb:=B.fb
          fm:=B.fm
          fg:=B.fg
          ft:=λb hb=>by cases hb;exact alR _ B2.next
          Pd:=λes' cl' hm=>by have m6:s6.heap.get mp=s2.heap.get mp:=(by rw[g6 mp nmb,r5 mp nmt lt2.2]);rw[m6]at hm;exact B2.Pd _ _ hm
          rows:=λb cs hb hs i u hu=>by
            obtain⟨cs0,h3,h4⟩:=B2.tq.2 b hb;have x6:s6.heap.get b=s2.heap.get b:=(by rw[g6 b (λe=>B.dg (by rw[<-e];exact hb)),r5 b (B.dgt b hb) (B2.wf _ _ h3)]);rw[x6]at hs;(refine(B2.rows b cs hb hs i u hu).to λp cs a1 a2 a3 hx=> ?_);have aV:p.toNat<s2.next.toNat:=B2.wf _ _ hx;refine⟨by rw[g6 p a1,r5 p a3 aV];exact hx,a2,λe=> ?_⟩;cases e;exact absurd aV (Zo4 _) }
        refine⟨s6,?_,λh=>absurd he h,λ_=>⟨_,ah7⟩⟩;rw[he];rw[zk hc 3 (r:=(.int .i64 0,s6))]
        . rw[adH (b:=bp) B.book];rw[ah7.book];intro e;have e:=congrArg (λo=>match o with|some (AB.cells (_::v::_) _)=>eJ v|_=>none) e;simp only[kX,eJ]at e;cases tk with
          |none=>simp[eJ,B.yw.1 rfl]at e
          |some b=>simp[eJ]at e
        (rw[wq];have bq:eo (kX tk ts.length 3) (kX tk ts.length 3)=true:=(by cases tk;exact Sx;exact N6 _ _ _ _);have Mn:=λ(K:AV->Option (AV×St))=>kg K (p:=bp) (o:=1) (h:=s1.heap) (h2:=s1.heap) (v:=kX tk ts.length 3) (by rw[B1.book];rfl) (by rw[B1.book];rfl) bq);have zS:bY (bU [AV.str [],AV.str [],.int .u8 0] 1) [(0,3)] [AV.agg t.cells]=some t.cells:=by
          simp[bY,bU,cV,cU,Ty.cells,aU]
        have arI:decide ((ts.length:Int)=256)=false:=Za2 aqz;rw[hu]at L;rcases hkt hk with f|⟨f,f2⟩
        . have d1:decide (t.k=1)=true:=Za0 f;simp[-av,nG,cZ,bsl,l3,d1,L,Ae,B1.book,lT,arI,hpr,Mn,zS];show aaZ (c 185 [kX tk ts.length 3,.int .i64 (ts.length:Int),.slice s1.next 0 1 (some 1) 3] s2) _=_;rw[r1];exact st6 _
        . have d1:decide (t.k=1)=false:=Za2 f;have d2:decide (t.k=2)=true:=Za0 f2;simp[-av,nG,cZ,bsl,l3,d1,d2,L,Ae,B1.book,lT,arI,hpr,Mn,zS];show aaZ (c 185 [kX tk ts.length 3,.int .i64 (ts.length:Int),.slice s1.next 0 1 (some 1) 3] s2) _=_;rw[r1];exact st6 _
     .  refine fail 5 (by omega) (by simp[zj,hk,hu,hd]) ?_;rw[hd]at Ae;rw[hu]at L;rw[wq];rcases hkt hk with f|⟨f,f2⟩
        . have d1:decide (t.k=1)=true:=Za0 f;simp[-av,nG,cZ,bsl,l3,d1,L,Ae]
        . have d1:decide (t.k=1)=false:=Za2 f;have d2:decide (t.k=2)=true:=Za0 f2;simp[-av,nG,cZ,bsl,l3,d1,d2,L,Ae]
   . refine fail 6 (by omega) (by simp[zj,hk,hu]) ?_;rw[hu]at L;rw[wq];rcases hkt hk with f|⟨f,f2⟩
     .  have d1:decide (t.k=1)=true:=Za0 f;simp[-av,nG,cZ,bsl,l3,d1,L]
     .  have d1:decide (t.k=1)=false:=Za2 f;have d2:decide (t.k=2)=true:=Za0 f2;simp[-av,nG,cZ,bsl,l3,d1,d2,L]
 . have hkf:¬t.k=1/\¬t.k=2:=(by simpa [knd]using hk);have he:zj gs ts t=23:=(by simp[zj,hk]);refine⟨s,?_,λ_=>rfl,λh0=>absurd (he.symm.trans h0) (by omega)⟩;rw[zk hc 3 (r:=(.int .i64 23,s)),he,aE (Plain.int _ _) (aT.refl s)];rw[wq];simp[nG,hkf]
@[simp] theorem avy{R:Type}(K:AV->Option R)(z:Bool)(l:List aQ):fD (.lenB .l) [cK z l] K=K (.int .i64 (l.length:Int)):=by unfold cK;rw[ag8];simp
theorem aqA{gs:List aQ}{k:Nat}(h:k<gs.length)(hk:k<=64):zi (gs.take k) gs[k]=if jQ gs[k]≠0 then jQ gs[k]else if 0<=scan (oF gs gs[k].name) k 0 then 5 else if 64<=k then 7 else 0:=by
 have hl:(gs.take k).length=k:=by simp;omega
 unfold zi;rw[hl,aqs (by omega)];have:(k=64)↔64<=k:=by omega
 simp only[this]
@[simp] theorem au2{R:Type}(c:au)(K:AV->St->Option R)(st:St)(t:aQ)(cs:List AV)(h:cs.length=9):aq c (.store 9) [.ptr st.next 0,.agg t.cells] (ah st (.cells cs 0)) K=K .undef (ah st (.cells t.cells 0)):=cr c K st 9 (.agg t.cells) cs rfl h.symm t.one
theorem asM (hc:Sem c){s0:St}(HG:Wf s0)(z:Bool)(gs:List aQ)(hl:gs.length<=100)(bp mp rp:Pos)(F:Nat)(k1 k2):∀(m k:Nat)(s:St)(gk:Option Pos),eF s0 s bp mp (gs.take k) [] gk none->gs.length<=k+m->k<=gs.length->k<=64->
  ∃ s',aT s0 s'/\(((ov gs m k).2=0/\(∃Uw,eF s0 s' bp mp gs [] Uw none)/\kV c F k1 k2 (m+1) [.ptr rp 0,.ptr bp 0,cK z gs,.int .i64 (gs.length:Int),.int .i64 (k:Int)] s=k2 [.ptr rp 0,.ptr bp 0] s')\/
    ((ov gs m k).2≠0/\kV c F k1 k2 (m+1) [.ptr rp 0,.ptr bp 0,cK z gs,.int .i64 (gs.length:Int),.int .i64 (k:Int)] s=k1 [.ju,.int .i64 (ov gs m k).1,.int .i64 (ov gs m k).2] s')):=by
 intro m;induction m with
 |zero=>
  intro k s gk B h1 h2 h3;obtain rfl:k=gs.length:=by omega
  refine⟨s,B.keeps,.inl ⟨rfl,⟨gk,by simpa using B⟩,?_⟩⟩;rw[yx];simp
 |succ m ih   =>
  intro k s gk B h1 h2 h3;by_cases h:k<gs.length
  . have w:ax .i64 ((k:Int)+1)=((k+1:Nat):Int):=wrap64 (by omega) (by omega);have B1:=B.ai (Grew.ah B.wf (.cells gs[k].cells 0));obtain⟨s2,a1,a2,a3⟩:=at2 hc HG B1 (by simp;omega) gs[k];have hA:=aqA h h3;have step:∀(K:AV->St->Option (AV×St)),(aq c (.idxA 9 none) [cK z gs,.int .i64 (k:Int)] s λx19 s12=>aq c (.load (some 9)) [x19] s12 K)=K (.agg gs[k].cells) s:=λK=>by
        simp[cK,h]
    by_cases he:zi (gs.take k) gs[k]=0
    .   obtain⟨Uw,B2⟩:=a3 he;have e1:gs.take k++[gs[k]]=gs.take (k+1):=(Zc6 h).symm;rw[e1]at B2;rw[hA]at he;have c1:jQ gs[k]=0:=by
         by_cases e:jQ gs[k]=0
         .  exact e
         .  rw[Zb3 e]at he;exact absurd he e
        (rw[Za7 (by rw[c1];simp)]at he;have c2:¬0<=scan (oF gs gs[k].name) k 0:=λe=>by rw[Zb3 e]at he;cases he);(rw[Za7 c2]at he;have c3:¬64<=k:=λe=>by rw[Zb3 e]at he;cases he);have ec:ov gs (m+1) k=ov gs m (k+1):=by
         rw[ov,H0 h];simp only;rw[Za7 (by rw[c1];simp),Za7 c2,Za7 c3]
        obtain⟨s',g1,g2⟩:=ih (k+1) s2 Uw B2 (by omega) (by omega) (by omega);refine⟨s',g1,?_⟩;rw[ec];have eL:kV c F k1 k2 (m+1+1) [.ptr rp 0,.ptr bp 0,cK z gs,.int .i64 (gs.length:Int),.int .i64 (k:Int)] s=kV c F k1 k2 (m+1) [.ptr rp 0,.ptr bp 0,cK z gs,.int .i64 (gs.length:Int),.int .i64 ((k+1:Nat):Int)] s2:=by
         rw[yx];have hz:zi (gs.take k) gs[k]=0:=(by rw[hA,Za7 (by rw[c1];simp),Za7 c2,Za7 c3]);rw[hz]at a1;simp[cK,h,a1,w]
        rw[eL];exact g2
    .   obtain rfl:=a2 he;have ec:ov gs (m+1) k=((k:Int),zi (gs.take k) gs[k]):=by
         rw[ov,H0 h];simp only;rw[hA]at he ⊢;by_cases c1:jQ gs[k]=0
         .  have e1:¬jQ gs[k]≠0:=(by rw[c1];simp);by_cases c2:0<=scan (oF gs gs[k].name) k 0
            . simp only[e1,c2,Zh0,Zh7]
            . by_cases c3:64<=k
              . simp only[e1,c2,c3,Zh0,Zh7]
              . rw[Za7 e1,Za7 c2,Za7 c3]at he;exact absurd rfl he
         .  have e1:jQ gs[k]≠0:=c1;rw[Zb3 e1,Zb3 e1]
        refine⟨_,B1.keeps,.inr ⟨by rw[ec];exact he,?_⟩⟩;rw[ec,yx];simp[cK,h,a1,he]
  . obtain rfl:k=gs.length:=(by omega);have ec:ov gs (m+1) gs.length=(0,0):=(by rw[ov,Zc4 (by omega)]);refine⟨s,B.keeps,.inl ⟨by rw[ec],⟨gk,by simpa using B⟩,?_⟩⟩;rw[yx];simp
theorem abr{ts:List Ty}{k:Nat}(h:k<ts.length):(ts.take k).getLast? =pg ts k:=by
 unfold pg;by_cases h0:k=0
 . simp[h0]
 . rw[Za7 h0,List.getLast?_eq_getElem?];have:(ts.take k).length=k:=(by simp;omega);rw[this,Zd5,Zb3 (by omega)]
theorem aqB{ts:List Ty}{k:Nat}(h:k<ts.length)(hs:Jm (ts.take k))(hb:∀u,pg ts k=some u->gh u ts[k]=true):Jm (ts.take (k+1)):=by
 intro i j hj Uq;have LA:j<k+1:=by simp at hj;omega
 simp only[Zn7];by_cases e:j=k
 . subst e;have h1:pg ts j=some (ts[j - 1]'(by omega)):=(by rw[pg,Za7 (by omega),H0 (by omega)]);have h2:=hb _ h1;by_cases e2:i=j - 1
   . subst e2;exact h2
   . have h3:=hs i (j - 1) (by simp;omega) (by omega);simp only[Zn7]at h3;exact KW h3 h2
 . have:=hs i j (by simp;omega) Uq;simpa only[Zn7]using this
def acV(t:Ty)(p:Option Ty):Bool:=match p with|none=>false|some p=>gh t p
theorem aqC(t:Ty)(p:Option Ty):agk t p=(!knd t|| !aO t.a t.b||acV t p):=by cases p<;>rfl
def okT(t:Ty)(p:Option Ty):Bool:=aO t.a t.b&& !acV t p
def eK(gs:List aQ)(ts:List Ty)(k:Nat)(t:Ty):Int:=if okT t (pg ts k)=true then zj gs (ts.take k) t else 23
set_option maxHeartbeats 1000000 in
theorem asN (hc:Sem c){s0:St}(HG:Wf s0)(z z2:Bool)(gs:List aQ)(ts:List Ty)(hl:gs.length<=100)(rI:ts.length<=100)(bp mp rp:Pos)(Wo:s0.heap.get rp=some (.cells [cK z gs,eX z2 ts] 0))(gk:Option Pos)(F:Nat)(k1 k4):∀(m k:Nat)(s:St)(tk:Option Pos),eF s0 s bp mp gs (ts.take k) gk tk->Jm (ts.take k)->ts.length<=k+m->k<=ts.length->
  ∃s',aT s0 s'/\((jR gs ts m k).2=0->(∃uK,eF s0 s' bp mp gs ts gk uK)/\Jm ts)/\ni c F k1 k4 (m+1) [.ptr rp 0,.ptr bp 0,eX z2 ts,.int .i64 (ts.length:Int),.int .i64 (k:Int)] s=if(jR gs ts m k).2=0 then k4 [.ptr bp 0] s' else k1 [.ju,.int .i64 (jR gs ts m k).1,.int .i64 (jR gs ts m k).2] s':=by
 intro m;induction m with
 |zero=>
  intro k s tk B hs h1 h2;obtain rfl:k=ts.length:=by omega
  refine⟨s,B.keeps,λ_=>⟨⟨tk,by simpa using B⟩,by simpa using hs⟩,?_⟩;rw[yy];simp[jR]
 |succ m ih   =>
  intro k s tk B hs h1 h2;by_cases h:k<ts.length
  . have w:ax .i64 ((k:Int)+1)=((k+1:Nat):Int):=wrap64 (by omega) (by omega);have wg:ax .i64 ((gs.length:Int)+(k:Int))=(gs.length:Int)+k:=wrap64 (by omega) (by omega);have B1:=B.ai (Grew.ah B.wf (.cells ts[k].cells 0));have kz:(ah s (.cells ts[k].cells 0)).heap.get rp=some (.cells [cK z gs,eX z2 ts] 0):=B1.keeps _ _ Wo;have cg:=B1.wf;have aqz:¬256<=k:=(by omega);have ec:jR gs ts (m+1) k=if eK gs ts k ts[k]≠0 then((gs.length:Int)+k,eK gs ts k ts[k])else jR gs ts m (k+1):=by rw[jR,H0 h];simp only[aqz,Zh0];rw[aqC];unfold eK okT zj;rw[abr h];cases knd ts[k]<;>cases aO ts[k].a ts[k].b<;>cases acV ts[k] (pg ts k)<;>cases ry gs ts[k]<;>cases we ts[k] (pg ts k)<;>simp
    have aaS:okT ts[k] (pg ts k)=true->∃s',aT s0 s'/\(eK gs ts k ts[k]=0->(jR gs ts m (k+1)).2=0->(∃uK,eF s0 s' bp mp gs ts gk uK)/\Jm ts)/\∃s2,c 131 [.ptr bp 0,.str ts[k].a,.str ts[k].b,.int .u8 ts[k].k] (ah s (.cells ts[k].cells 0))=some (.int .i64 (eK gs ts k ts[k]),s2)/\s2.heap.get rp=some (.cells [cK z gs,eX z2 ts] 0)/\
          (eK gs ts k ts[k]≠0->s'=s2)/\(eK gs ts k ts[k]=0->
            ni c F k1 k4 (m+1) [.ptr rp 0,.ptr bp 0,eX z2 ts,.int .i64 (ts.length:Int),.int .i64 ((k+1:Nat):Int)] s2=if(jR gs ts m (k+1)).2=0 then k4 [.ptr bp 0] s' else k1 [.ju,.int .i64 (jR gs ts m (k+1)).1,.int .i64 (jR gs ts m (k+1)).2] s'):=λcF=>by
        have aib:=cF;simp only[okT,Zb6,Zk2]at aib;obtain⟨b2,b3⟩:=aib;have au3:∀u,(ts.take k).getLast? =some u->gh ts[k] u=false:=λu hu=>by rw[abr h]at hu;rw[hu]at b3;exact b3
        obtain⟨s2,a1,a2,a3⟩:=at4 hc HG B1 (by simp;omega) ts[k] b2 hs au3;have et:eK gs ts k ts[k]=zj gs (ts.take k) ts[k]:=(by unfold eK;rw[Zb3 cF]);rw[<-et]at a1 a2 a3;by_cases h0:eK gs ts k ts[k]=0
        . obtain⟨uK,B2⟩:=a3 h0;have e1:ts.take k++[ts[k]]=ts.take (k+1):=(Zc6 h).symm;rw[e1]at B2;have hd:we ts[k] (pg ts k)=false:=by
            rw[et,zj,abr h]at h0;cases hq:we ts[k] (pg ts k)
            . rfl
            . rw[hq]at h0;split at h0
              . simp at h0
              . split at h0<;>simp at h0
          have rJ:=aqB h hs (λu hu2=>by rw[hu2]at hd;simpa [we]using hd);obtain⟨s',g1,gB,g2⟩:=ih (k+1) s2 uK B2 rJ (by omega) (by omega);exact⟨s',g1,λ_=>gB,s2,a1,B2.keeps _ _ Wo,λe=>absurd h0 e,λ_=>g2⟩
        . obtain rfl:=a2 h0;exact⟨_,B1.keeps,λe=>absurd e h0,_,a1,kz,λ_=>rfl,λe=>absurd e h0⟩
    rw[ec];cases cF:okT ts[k] (pg ts k)
    ·
        have e23:eK gs ts k ts[k]=23:=(by unfold eK;rw[cF];rfl);refine⟨_,B1.keeps,λe=>(by rw[e23,Zb3 (by decide)]at e;cases e),?_⟩;rw[yy,e23];cases q1:aO ts[k].a ts[k].b
        . simp[eX,h,q1,je,kz,wg]
        . have q2:acV ts[k] (pg ts k)=true:=(by simpa [okT,q1]using cF);have yN:¬k=0:=λe=>by rw[pg,Zb3 e]at q2;cases q2
          have Bg:k - 1<ts.length:=(by omega);have wk:ax .i64 ((k:Int) - 1)=((k - 1:Nat):Int):=(by rw[wrap64 (by omega) (by omega)];omega);have q3:gh ts[k] ts[k - 1]=true:=(by rw[pg,Za7 yN,H0 Bg]at q2;exact q2);have ho:=Mm hc ts[k - 1] ts[k] _ cg;have Fg:¬uO ts[k - 1] ts[k]<=0:=(by have:=Y3.2 q3;omega);simp[eX,h,q1,je,kz,wg,yN,Bg,wk,ho,Fg]
    .   obtain⟨s',g1,gB,s2,t1,t2,t3,t4⟩:=aaS cF;refine⟨s',g1,λe=>by
          by_cases he:eK gs ts k ts[k]=0
          . exact gB he (by rw[Za7 (by simp[he])]at e;exact e)
          . rw[Zb3 he]at e;exact absurd e he,?_⟩
        rw[yy];have aib:=cF;simp only[okT,Zb6,Zk2]at aib;obtain⟨q1,q2⟩:=aib;by_cases he:eK gs ts k ts[k]=0
        . have t4:=t4 he;rw[he]at t1;simp only[he,ne_eq,not_true,Zh0];rw[<-t4];by_cases yN:k=0
          . have dk:decide ((k:Int)=0)=true:=Za0 (by omega);have dk':decide (k=0)=true:=Za0 yN;clear yN;simp[eX,h,q1,je,kz,dk,dk',t1,w]
          . have Bg:k - 1<ts.length:=(by omega);have wk:ax .i64 ((k:Int) - 1)=((k - 1:Nat):Int):=(by rw[wrap64 (by omega) (by omega)];omega);have q3:gh ts[k] ts[k - 1]=false:=(by rw[pg,Za7 yN,H0 Bg]at q2;exact q2);have ho:=Mm hc ts[k - 1] ts[k] _ cg;have Fg:uO ts[k - 1] ts[k]<=0:=by
              have:¬0<uO ts[k - 1] ts[k]:=λe=>by rw[Y3.1 e]at q3;cases q3
              omega
            simp[eX,h,q1,je,kz,yN,Bg,wk,ho,Fg,t1,w]
        . obtain rfl:=t3 he;simp only[he,ne_eq,not_false_eq_true,Zh7,Zh0];by_cases yN:k=0
          . have dk:decide ((k:Int)=0)=true:=Za0 (by omega);have dk':decide (k=0)=true:=Za0 yN;clear yN;simp[eX,h,q1,je,kz,dk,dk',t1,t2,wg,he]
          . have Bg:k - 1<ts.length:=(by omega);have wk:ax .i64 ((k:Int) - 1)=((k - 1:Nat):Int):=(by rw[wrap64 (by omega) (by omega)];omega);have q3:gh ts[k] ts[k - 1]=false:=(by rw[pg,Za7 yN,H0 Bg]at q2;exact q2);have ho:=Mm hc ts[k - 1] ts[k] _ cg;have Fg:uO ts[k - 1] ts[k]<=0:=by
              have:¬0<uO ts[k - 1] ts[k]:=λe=>by rw[Y3.1 e]at q3;cases q3
              omega
            simp[eX,h,q1,je,kz,yN,Bg,wk,ho,Fg,t1,t2,wg,he]
  . obtain rfl:k=ts.length:=(by omega);refine⟨s,B.keeps,λ_=>⟨⟨tk,by simpa using B⟩,by simpa using hs⟩,?_⟩;rw[yy];have ec:jR gs ts (m+1) ts.length=(0,0):=(by rw[jR,Zc4 (by omega)]);simp[ec]
theorem Q0(hc:Sem c)(z z2:Bool)(gs:List aQ)(ts:List Ty)(hl:gs.length<=100)(rI:ts.length<=100)(s:St)(hw:Wf s):
   ∃v s',c 68 [.agg [cK z gs,eX z2 ts]] s=some (.tuple [v,.int .i64 (dU gs ts).1,.int .i64 (dU gs ts).2],s')/\aT s s'/\((dU gs ts).2=0->∃bp mp gk tk,v= .ptr bp 0/\eF (ah s (.cells [cK z gs,eX z2 ts] 0)) s' bp mp gs ts gk tk/\Jm ts):=by
 let s0:=ah s (.cells [cK z gs,eX z2 ts] 0)
 have HG:Wf s0:=bn hw;have k0:aT s s0:=cm hw;have Wo:s0.heap.get s.next=some (.cells [cK z gs,eX z2 ts] 0):=az _ _;have agJ:=at1 hc s0;have B:=eF.start HG
 have finish:∀{v:AV}{s':St},DP c 102 (.agg [cK z gs,eX z2 ts]) s=some (.tuple [v,.int .i64 (dU gs ts).1,.int .i64 (dU gs ts).2],s')->aT s0 s'->((dU gs ts).2=0->∃bp mp gk tk,v= .ptr bp 0/\eF s0 s' bp mp gs ts gk tk/\Jm ts)->
     ∃v s',c 68 [.agg [cK z gs,eX z2 ts]] s=some (.tuple [v,.int .i64 (dU gs ts).1,.int .i64 (dU gs ts).2],s')/\aT s s'/\((dU gs ts).2=0->∃bp mp gk tk,v= .ptr bp 0/\eF s0 s' bp mp gs ts gk tk/\Jm ts):=λ{v s'} h hk hB=>by
   have h2:=aea hc 102 h;unfold tidy at h2;split at h2
   . rename_i hp;exact⟨v,s,h2,aT.refl s,λe=>by obtain⟨bp,mp,gk,tk,rfl,_⟩:=hB e;exact absurd hp.1 Up⟩
   . exact⟨v,s',h2,k0.trans hk,hB⟩
 obtain⟨s1,g1,g2⟩:=asM hc HG z gs hl (ah s0 (.map [] 0)).next s0.next s.next 102 (λvs s30=>fO vs λx2 vs=>fO vs λx3 vs=>fO vs λx4 vs=>iT vs (some (.tuple [x2,x3,x4],s30))) (λvs s31=>fO vs λx1 vs=>fO vs λx5 vs=>iT vs (
   aq c (.fieldA 1) [x1] s31 λx29 s32=>aq c (.load none) [x29] s32 λx30 s33=>aq c (.lenB .l) [x30] s33 λx31 s34=>aq c .move [(.int .i64 0)] s34 λx32 s35=>
   ni c 102 (λvs s80=>fO vs λx2 vs=>fO vs λx3 vs=>fO vs λx4 vs=>iT vs (some (.tuple [x2,x3,x4],s80))) (λvs s81=>fO vs λx5 vs=>iT vs (
     aq c .move [x5] s81 λx74 s82=>aq c .move [x74] s82 λx2 s83=>aq c .move [(.int .i64 0)] s83 λx3 s84=>aq c .move [(.int .i64 0)] s84 λx4 s85=>some (.tuple [x2,x3,x4],s85))) 102 [x1,x5,x30,x31,x32] s35)) 101 0 _ none B (by omega) (by omega) (by omega)
 have an2:∀r,kV c 102 (λvs s30=>fO vs λx2 vs=>fO vs λx3 vs=>fO vs λx4 vs=>iT vs (some (.tuple [x2,x3,x4],s30))) (λvs s31=>fO vs λx1 vs=>fO vs λx5 vs=>iT vs (
   aq c (.fieldA 1) [x1] s31 λx29 s32=>aq c (.load none) [x29] s32 λx30 s33=>aq c (.lenB .l) [x30] s33 λx31 s34=>aq c .move [(.int .i64 0)] s34 λx32 s35=>
   ni c 102 (λvs s80=>fO vs λx2 vs=>fO vs λx3 vs=>fO vs λx4 vs=>iT vs (some (.tuple [x2,x3,x4],s80))) (λvs s81=>fO vs λx5 vs=>iT vs (
     aq c .move [x5] s81 λx74 s82=>aq c .move [x74] s82 λx2 s83=>aq c .move [(.int .i64 0)] s83 λx3 s84=>aq c .move [(.int .i64 0)] s84 λx4 s85=>some (.tuple [x2,x3,x4],s85))) 102 [x1,x5,x30,x31,x32] s35)) 102 [.ptr s.next 0,.ptr (ah s0 (.map [] 0)).next 0,cK z gs,.int .i64 (gs.length:Int),.int .i64 ((0:Nat):Int)] (ah (ah s0 (.map [] 0)) (.cells [.af,.af,.map s0.next] 0))=r->DP c 102 (.agg [cK z gs,eX z2 ts]) s=r:=λr h=>by
   rw[<-h,aic];have hb:=(B.keeps _ _ Wo)
   simp only[dI,Xx,aA,dD];show aaZ (c 128 [] s0) _=_;rw[agJ];simp only[cO,aS,bf,hb,aJ,Zb1,Za4,Zc3,bg,aqn];rfl
 rcases g2 with⟨q1,⟨Uw,B2⟩,q3⟩|⟨q1,q3⟩
 . have e:dU gs ts=jR gs ts 101 0:=(by rw[dU,Za7 (by simp[q1])]);obtain⟨s2,r1,rB,r2⟩:=asN hc HG z z2 gs ts hl rI (ah s0 (.map [] 0)).next s0.next s.next Wo Uw 102 (λvs s80=>fO vs λx2 vs=>fO vs λx3 vs=>fO vs λx4 vs=>iT vs (some (.tuple [x2,x3,x4],s80))) (λvs s81=>fO vs λx5 vs=>iT vs (
     aq c .move [x5] s81 λx74 s82=>aq c .move [x74] s82 λx2 s83=>aq c .move [(.int .i64 0)] s83 λx3 s84=>aq c .move [(.int .i64 0)] s84 λx4 s85=>some (.tuple [x2,x3,x4],s85))) 101 0 s1 none (by simpa using B2) (by intro i j hj;simp at hj) (by omega) (by omega)
   have jy:s1.heap.get s.next=some (.cells [cK z gs,eX z2 ts] 0):=B2.keeps _ _ Wo;have hL:=an2 _ q3;simp only[aH,br,aS,bf,jy,aJ,Zb1,Zb8,Za4,Zc3,bg,aqr,aA]at hL;have r2':=r2;rw[show(((0:Nat):Int))=0 from rfl]at r2';simp only[aA,Nat.reduceAdd]at r2';rw[r2']at hL;rw[e]at finish ⊢;by_cases h2:(jR gs ts 101 0).2=0
   . have h3:=acU gs ts 101 0 h2;rw[Zb3 h2]at hL;simp only[aH,br]at hL;exact finish (by rw[h2,h3];exact hL) r1 (λe=>by
        obtain⟨⟨uK,B3⟩,hs⟩:=rB e;exact⟨_,_,_,_,rfl,B3,hs⟩)
   . rw[Za7 h2]at hL;simp only[aH,br]at hL;exact finish hL r1 (λe=>absurd e h2)
 . have e:dU gs ts=ov gs 101 0:=(by rw[dU,Zb3 q1]);have hL:=an2 _ q3;simp only[aH,br]at hL;rw[e]at finish ⊢;exact finish hL g1 (λe=>absurd e q1)
theorem aid(hc:Sem c)(z z2:Bool)(gs:List aQ)(ts:List Ty)(hl:gs.length<=100)(rI:ts.length<=100)(s:St)(hw:Wf s):c 89 [.agg [cK z gs,eX z2 ts]] s=some (.tuple [.int .i64 (dU gs ts).1,.int .i64 (dU gs ts).2],s):=by
 have HG:Wf (ah s (.cells [cK z gs,eX z2 ts] 0)):=bn hw;obtain⟨v,s',h1,h2,_⟩:=Q0 hc z z2 gs ts hl rI _ HG;have hcc:cut [cK z gs,eX z2 ts] 0 2=some [cK z gs,eX z2 ts]:=cM rfl;rw[Vv hc 1 (r:=(.tuple [.int .i64 (dU gs ts).1,.int .i64 (dU gs ts).2],s')),aE (Plain.tuple (by simp[Plain.int])) ((cm hw).trans h2)];rw[ZA];simp[hcc,h1]
structure Rl where
 k:Int
 wt:Int
 a:List Nat
 b:List Nat
 t:List Nat
 n:Int
def Rl.cells(r:Rl):List AV:=[.int .u8 r.k,.int .i64 r.wt,.str r.a,.str r.b,.str r.t,.int .i64 r.n]
@[simp] theorem Rl.c0(t:Rl):t.cells[0]? =some (.int .u8 t.k):=id rfl
@[simp] theorem Rl.c1(t:Rl):t.cells[1]? =some (.int .i64 t.wt):=id rfl
@[simp] theorem Rl.c2(t:Rl):t.cells[2]? =some (.str t.a):=id rfl
@[simp] theorem Rl.c3(t:Rl):t.cells[3]? =some (.str t.b):=id rfl
@[simp] theorem Rl.c4(t:Rl):t.cells[4]? =some (.str t.t):=id rfl
@[simp] theorem Rl.c5(t:Rl):t.cells[5]? =some (.int .i64 t.n):=id rfl
@[simp] theorem Rl.cc(t:Rl):cut t.cells 0 6=some t.cells:=cM rfl
@[simp] theorem Rl.one(t:Rl):aM t.cells=true:=id rfl
def gK(z:Bool)(rs:List Rl):AV:=ro 6 z (rs.map Rl.cells)
@[simp] theorem avz{R:Type}(c:au)(K:AV->St->Option R)(st:St)(z:Bool)(l:List Rl):aq c (.lenB .l) [gK z l] st K=K (.int .i64 (l.length:Int)) st:=by unfold gK;rw[fE];simp
structure bM where
 tz:Bool
 ts:List aB
 gz:Bool
 gs:List aQ
 yz:Bool
 ys:List Ty
 cz:Bool
 cs:List Int
 rz:Bool
 rs:List Rl
def bM.cells(p:bM):List AV:=[tabs p.tz p.ts,cK p.gz p.gs,eX p.yz p.ys,ints p.cz p.cs,gK p.rz p.rs]
@[simp] theorem bM.c0(p:bM):p.cells[0]? =some (tabs p.tz p.ts):=id rfl
@[simp] theorem bM.c1(p:bM):p.cells[1]? =some (cK p.gz p.gs):=id rfl
@[simp] theorem bM.c2(p:bM):p.cells[2]? =some (eX p.yz p.ys):=id rfl
@[simp] theorem bM.c3(p:bM):p.cells[3]? =some (ints p.cz p.cs):=id rfl
@[simp] theorem bM.c4(p:bM):p.cells[4]? =some (gK p.rz p.rs):=id rfl
@[simp] theorem bM.cc(p:bM):cut p.cells 0 5=some p.cells:=cM rfl
structure bM.CI(p:bM):Prop where
 ts:p.ts.length<=100
 gs:p.gs.length<=100
 ys:p.ys.length<=100
 cs:p.cs.length<=100
 rs:p.rs.length<=100
 ok:∀t∈p.ts,t.Ok
def Aa(l:List Int):Bool:=l.all λc=>decide (0<=c)&&decide (c<64)
def gX(p:bM):Int×Int:=
 if(bR p.ts).2≠0 then bR p.ts else if(dU p.gs p.ys).2≠0 then dU p.gs p.ys
 else if p.cs.length≠0/\p.cs.length≠p.gs.length then(0,44)else if Aa p.cs=false then(0,44)
 else if aW p.ts<p.gs.length then(0,45)else(0,0)
theorem ajv{p:bM}(h:(gX p).2=0):(gX p).1=0:=by
 unfold gX at h ⊢;by_cases h1:(bR p.ts).2≠0
 . rw[Zb3 h1]at h;exact absurd h h1
 rw[Za7 h1]at h ⊢;by_cases h2:(dU p.gs p.ys).2≠0
 . rw[Zb3 h2]at h;exact absurd h h2
 rw[Za7 h2]
 repeat' split
 all_goals rfl
theorem alU(p:bM)(hp:p.CI)(q:Pos)(F:Nat)(s:St)(k1 k2):∀(m k:Nat),p.cs.length<=k+m->k<=p.cs.length->
  sK c F k1 k2 (m+1) [.ptr q 0,ints p.cz p.cs,.int .i64 (p.cs.length:Int),.int .i64 (k:Int)] s=if Aa (p.cs.drop k)=true then k2 [.ptr q 0] s else k1 [.int .i64 0,.int .i64 44] s:=by
 have hl:=hp.cs;intro m;induction m with
 |zero=>
  intro k h1 h2;obtain rfl:k=p.cs.length:=by omega
  rw[Oi];simp[Aa]
 |succ m ih=>
  intro k h1 h2;rw[Oi];by_cases h:k<p.cs.length
  . have e:p.cs.drop k=p.cs[k]::p.cs.drop (k+1):=Zd9 h;have w:ax .i64 ((k:Int)+1)=((k+1:Nat):Int):=wrap64 (by omega) (by omega);have:=ih (k+1) (by omega) (by omega);have ec:Aa (p.cs.drop k)=((decide (0<=p.cs[k])&&decide (p.cs[k]<64))&&Aa (p.cs.drop (k+1))):=(by rw[e];rfl);rw[ec];generalize Aa (p.cs.drop (k+1))=rest at this ⊢;by_cases h3:p.cs[k]<0
    .   have h4:(decide (0<=p.cs[k])&&decide (p.cs[k]<64))=false:=(by simp;omega);rw[h4];simp[ints,h,h3]
    .   by_cases h5:64<=p.cs[k]
        . have h4:(decide (0<=p.cs[k])&&decide (p.cs[k]<64))=false:=(by simp;omega);rw[h4];simp[ints,h,h3,h5]
        . have h4:(decide (0<=p.cs[k])&&decide (p.cs[k]<64))=true:=(by simp;omega);rw[h4,Zf6, <-this];simp[ints,h,h3,h5,w]
  . obtain rfl:k=p.cs.length:=(by omega);simp[Aa]
theorem DQ{d:Nat}(z:Bool)(l:List Int):dc (d+1) (ints z l):=dc.ro λr hr v hv=>by simp only[Zc7]at hr;obtain⟨i,_,rfl⟩:=hr;simp only[Zh8]at hv;subst hv;exact dc.int _ _
theorem alV{d:Nat}(z:Bool)(l:List (List Nat)):dc (d+1) (iW z l):=dc.ro λr hr v hv=>by simp only[Zc7]at hr;obtain⟨i,_,rfl⟩:=hr;simp only[Zh8]at hv;subst hv;exact dc.str _
theorem Tq(z:Bool)(l:List aQ):dc 3 (cK z l):=dc.ro λr hr v hv=>by simp only[Zc7]at hr;obtain⟨g,_,rfl⟩:=hr;simp only[aQ.cells,Za8,Zb7,Ze4]at hv;rcases hv with rfl|rfl|rfl|rfl|rfl|rfl|rfl|rfl|rfl<;>first|exact dc.str _|exact dc.int _ _|exact dc.bool _|exact alV _ _
theorem alW(z:Bool)(l:List aB):dc 3 (tabs z l):=dc.ro λr hr v hv=>by simp only[Zc7]at hr;obtain⟨g,_,rfl⟩:=hr;simp only[aB.cells,Za8,Zb7,Ze4]at hv;rcases hv with rfl|rfl|rfl|rfl|rfl|rfl|rfl<;>first|exact dc.str _|exact dc.int _ _|exact dc.bool _|exact DQ _ _
theorem XB(z:Bool)(l:List Rl):dc 3 (gK z l):=dc.ro λr hr v hv=>by simp only[Zc7]at hr;obtain⟨g,_,rfl⟩:=hr;simp only[Rl.cells,Za8,Zb7,Ze4]at hv;rcases hv with rfl|rfl|rfl|rfl|rfl|rfl<;>first|exact dc.str _|exact dc.int _ _|exact dc.bool _
theorem vL(z z2:Bool)(gs:List aQ)(ts:List Ty):bY [.af,.af] [(0,1),(1,1)] [cK z gs,eX z2 ts]=some [cK z gs,eX z2 ts]:=by have e1:(cK z gs).cells=[cK z gs]:=ahd _ _ _;have e2:(eX z2 ts).cells=[eX z2 ts]:=ahd _ _ _;unfold bY;rw[e1];show bY [cK z gs,.af] [(1,1)] [eX z2 ts]=_;unfold bY;rw[e2];rfl
def XC(c:au)(p:bM):Prop:=(∀st,Wf st->c 89 [.agg [cK p.gz p.gs,eX p.yz p.ys]] st=some (.tuple [.int .i64 (dU p.gs p.ys).1,.int .i64 (dU p.gs p.ys).2],st))
theorem aie (hc:Sem c)(p:bM)(hp:p.CI)(hR:XC c p)(st:St)(hw:Wf st):c 49 [.agg p.cells] st=some (.tuple [.int .i64 (gX p).1,.int .i64 (gX p).2],st):=by
 have cg:Wf (ah st (.cells p.cells 0)):=bn hw;have hg1:=Grew.ah hw (.cells p.cells 0);have kz:(ah st (.cells p.cells 0)).heap.get st.next=some (.cells p.cells 0):=az _ _;have A:=aaf hc p.tz p.ts hp.ok _ cg;have B:=hR _ cg;have D:=Gm hc p.tz p.ts hp.ok _ cg;have L:∀k1 k2,sK c 101 k1 k2 101 [.ptr st.next 0,ints p.cz p.cs,.int .i64 (p.cs.length:Int),.int .i64 0] (ah st (.cells p.cells 0))=if Aa p.cs=true then k2 [.ptr st.next 0] (ah st (.cells p.cells 0))else k1 [.int .i64 0,.int .i64 44] (ah st (.cells p.cells 0)):=
   λk1 k2=>alU (c:=c) p hp st.next 101 (ah st (.cells p.cells 0)) k1 k2 100 0 (by have:=hp.cs;omega) (by omega)
 have Mn:=λ(K:AV->Option (AV×St))=>kg K (p:=st.next) (o:=1) (h:=(ah st (.cells p.cells 0)).heap) (h2:=(ah st (.cells p.cells 0)).heap) (v:=cK p.gz p.gs) (by rw[kz];rfl) (by rw[kz];rfl) (vD (Tq _ _))
 rw[aeb hc 101 (r:=(.tuple [.int .i64 (gX p).1,.int .i64 (gX p).2],ah st (.cells p.cells 0))),aE (Plain.tuple (by simp[Plain.int])) hg1.keeps];rw[aif];unfold gX;by_cases h1:(bR p.ts).2=0
 . by_cases h2:(dU p.gs p.ys).2=0
   . simp only[h1,Zh7]at D;by_cases h3:p.cs.length=0
     .  have h4:p.cs=[]:=(by simpa using h3);have L1:Aa p.cs=true:=(by rw[h4];rfl);have e0:((p.cs.length:Nat):Int)=0:=(by omega);simp only[L1,Zh7,e0]at L;by_cases h6:aW p.ts<p.gs.length
        . simp[vL,h1,h2,h3,A,B,D,kz,L1,L,Mn,h6]
        . simp[vL,h1,h2,h3,A,B,D,kz,L1,L,Mn,h6]
     .  by_cases h4:p.cs.length=p.gs.length
        . cases h5:Aa p.cs with
          | false=>
            simp only[h5,Zf4,Zh0,h4]at L;have h7:0<p.cs.length:=(by omega);have h8:0<p.gs.length:=(by omega);simp[vL,h1,h2,h3,h4,h5,h7,h8,A,B,kz,L]
          | true=>
            simp only[h5,Zh7,h4]at L;have h7:0<p.cs.length:=(by omega);have h8:0<p.gs.length:=(by omega);by_cases h6:aW p.ts<p.gs.length
            . simp[vL,h1,h2,h3,h4,h5,h7,h8,A,B,D,kz,L,Mn,h6]
            . simp[vL,h1,h2,h3,h4,h5,h7,h8,A,B,D,kz,L,Mn,h6]
        . have h7:0<p.cs.length:=(by omega);have h4i:¬((p.cs.length:Int)=(p.gs.length:Int)):=(by omega);simp[vL,h1,h2,h3,h4,h4i,h7,A,B,kz]
   . simp[vL,h1,h2,A,B,kz]
 . simp[h1,A,kz]
theorem akm(hc:Sem c){p:bM}(hp:p.CI):XC c p:=λst hw=>aid hc p.gz p.yz p.gs p.ys hp.gs hp.ys st hw
theorem an3(z:Bool)(rs:List (List AV))(hl:rs.length<xj)(dY:∀cs∈rs,cs.length=9)(g:Nat)(v:List AV)(P:Nat->Bool)(st:St)(F:Nat)(k1 k2)
  (hP:∀i (h:i<rs.length),c g (.agg rs[i]::v) st=some (.bool (P i),st)):∀(m k:Nat),rs.length<=k+m->k<=rs.length->
  cS c F k1 k2 (m+1) [ro 9 z rs,.func g [] v,.int .i64 (rs.length:Int),.int .i64 (k:Int)] st=if 0<=scan P (rs.length - k) k then k1 [.int .i64 (scan P (rs.length - k) k)] st else k2 [] st:=by
 intro m;induction m with
 |zero=>
  intro k h1 h2;obtain rfl:k=rs.length:=by omega
  rw[mq];simp[scan]
 |succ m ih=>
  intro k h1 h2;rw[mq];by_cases h:k<rs.length
  . have e:rs.length - k=(rs.length - (k+1))+1:=(by omega);have w:ax .i64 ((k:Int)+1)=((k+1:Nat):Int):=wrap64 (by omega) (by unfold xj at hl;omega);have hcut:cut rs[k] 0 9=some rs[k]:=cM (dY _ (Zc2 h));have hp:=hP k h;rw[e,scan];cases hb:P k
    .   simp only[Zf4,Zh0];rw[<-ih (k+1) (by omega) (by omega)];simp[h,hcut,hp,hb,w]
    .   simp[h,hcut,hp,hb]
  . obtain rfl:k=rs.length:=(by omega);simp[scan]
theorem asO(hc:Sem c)(z:Bool)(rs:List (List AV))(hl:rs.length<xj)(dY:∀cs∈rs,cs.length=9)(g:Nat)(v:List AV)(P:Nat->Bool)(st:St)
   (hP:∀i (h:i<rs.length),c g (.agg rs[i]::v) st=some (.bool (P i),st)):c 175 [ro 9 z rs,.func g [] v] st=some (.int .i64 (scan P rs.length 0),st):=by
 rw[wu hc (rs.length+1) (r:=(.int .i64 (scan P rs.length 0),st)),aE (Plain.int _ _) (aT.refl st)];rw[xQ];have L:∀k1 k2,cS c (rs.length+1) k1 k2 (rs.length+1) [ro 9 z rs,.func g [] v,.int .i64 (rs.length:Int),.int .i64 0] st=if 0<=scan P (rs.length - 0) 0 then k1 [.int .i64 (scan P (rs.length - 0) 0)] st else k2 [] st:=
   λk1 k2=>an3 z rs hl dY g v P st _ k1 k2 hP rs.length 0 (by omega) (by omega)
 rw[Zq3]at L;by_cases h:0<=scan P rs.length 0
 . simp[L,h]
 . have:=(ad3 P rs.length 0).2 (by omega);simp[L,this]
theorem asP(hc:Sem c)(g:aQ)(s:List Nat)(p:Pos)(st:St)(hw:Wf st)(hp:st.heap.get p=some (.cells [.str s] 0)):c 176 [.agg g.cells,.ptr p 0] st=some (.bool (decide (g.name=s)),st):=by
 rw[aec hc 1 (r:=(.bool (decide (g.name=s)),ah st (.cells g.cells 0))),aE (Plain.bool _) (cm hw)];rw[aih];have:(ah st (.cells g.cells 0)).heap.get p=some (.cells [.str s] 0):=cm hw _ _ hp;simp[this]
theorem anq(hc:Sem c)(p:bM)(hp:p.CI)(s:List Nat)(st:St)(hw:Wf st):c 109 [.agg p.cells,.str s] st=some (.int .i64 (scan (oF p.gs s) p.gs.length 0),st):=by
 have cg:Wf (ah st (.cells p.cells 0)):=bn hw;have kW:=bn (b:= .cells [.str s] 0) cg;have hg:=(Grew.ah hw (.cells p.cells 0)).trans (Grew.ah cg (.cells [.str s] 0));have kz:(ah (ah st (.cells p.cells 0)) (.cells [.str s] 0)).heap.get st.next=some (.cells p.cells 0):=by have:=az st (.cells p.cells 0);exact(Grew.ah cg (.cells [.str s] 0)).get this
 have hi:=asO hc p.gz (p.gs.map aQ.cells) (by have:=hp.gs;simp;unfold xj;omega) (λcs fC=>by
   simp only[Zc7]at fC;obtain⟨t,_,rfl⟩:=fC;rfl) 176 [.ptr (ah st (.cells p.cells 0)).next 0] (oF p.gs s) (ah (ah st (.cells p.cells 0)) (.cells [.str s] 0)) (λi hi=>by
   have hi3:i<p.gs.length:=(by simpa using hi);have:=asP hc p.gs[i] s (ah st (.cells p.cells 0)).next _ kW (az _ _);simp only[Zo1];rw[this];simp[oF,hi3])
 rw[Za5]at hi;rw[aii hc 1 (r:=(.int .i64 (scan (oF p.gs s) p.gs.length 0),ah (ah st (.cells p.cells 0)) (.cells [.str s] 0))),aE (Plain.int _ _) hg.keeps];rw[alX];have e:(AV.str s).cells=[.str s]:=rfl;simp[e,hi,kz,cK]
structure Kd where
 w:List Nat
 a:Int
 b:Bool
 t:Int
 n:Bool
 lo:Int
 kD:Bool
 f:AV
def Kd.cells(k:Kd):List AV:=[.str k.w,.int .u8 k.a,.bool k.b,.int .u8 k.t,.bool k.n,.int .i64 k.lo,.bool k.kD,k.f]
@[simp] theorem Kd.c0(t:Kd):t.cells[0]? =some (.str t.w):=id rfl
@[simp] theorem Kd.c1(t:Kd):t.cells[1]? =some (.int .u8 t.a):=id rfl
@[simp] theorem Kd.c2(t:Kd):t.cells[2]? =some (.bool t.b):=id rfl
@[simp] theorem Kd.c3(t:Kd):t.cells[3]? =some (.int .u8 t.t):=id rfl
@[simp] theorem Kd.c4(t:Kd):t.cells[4]? =some (.bool t.n):=id rfl
@[simp] theorem Kd.c5(t:Kd):t.cells[5]? =some (.int .i64 t.lo):=id rfl
@[simp] theorem Kd.c6(t:Kd):t.cells[6]? =some (.bool t.kD):=id rfl
@[simp] theorem Kd.cc(t:Kd):cut t.cells 0 8=some t.cells:=cM rfl
def DG(k:Kd)(r:Rl):Bool:=(decide (k.a≠0)||decide (r.a=[]))&&(k.b||decide (r.b=[]))&&(decide (k.t≠0)||decide (r.t=[]))&&(k.n||decide (r.n=0))
theorem aqD (hc:Sem c)(k:Kd)(r:Rl)(st:St)(hw:Wf st):c 108 [.agg k.cells,.agg r.cells] st=some (.bool (DG k r),st):=by
 have cg:Wf (ah st (.cells k.cells 0)):=bn hw;have Aj:=Grew.ah cg (.cells r.cells 0);have hg:=(Grew.ah hw (.cells k.cells 0)).trans Aj;have p1:=Aj.get (az st (.cells k.cells 0));have p2:=az (ah st (.cells k.cells 0)) (.cells r.cells 0);rw[Vx hc 1 (r:=(.bool (DG k r),ah (ah st (.cells k.cells 0)) (.cells r.cells 0))),aE (Plain.bool _) hg.keeps];rw[ZB];unfold DG;by_cases h0:k.a=0;rotate_left
 . cases  h2:k.b with
   |true=>
    by_cases h4:k.t=0;rotate_left
    .   cases h6:k.n with
        | true=>
          simp[h0,h2,h4,h6]
        | false=>
          by_cases h7:r.n=0
          . simp[h0,h2,h4,h6,h7]
          . simp[h0,h2,h4,h6,h7]
    by_cases h5:r.t=[]
    .   cases h6:k.n with
        | true=>
          simp[h0,h2,h4,h5,h6]
        | false=>
          by_cases h7:r.n=0
          . simp[h0,h2,h4,h5,h6,h7]
          . simp[h0,h2,h4,h5,h6,h7]
    .   simp[h0,h2,h4,h5]
   |false   =>
    by_cases h3:r.b=[]
    .   by_cases h4:k.t=0;rotate_left
        . cases h6:k.n with
          | true=>
            simp[h0,h2,h3,h4,h6]
          | false=>
            by_cases h7:r.n=0
            . simp[h0,h2,h3,h4,h6,h7]
            . simp[h0,h2,h3,h4,h6,h7]
        by_cases h5:r.t=[]
        . cases h6:k.n with
          | true=>
            simp[h0,h2,h3,h4,h5,h6]
          | false=>
            by_cases h7:r.n=0
            . simp[h0,h2,h3,h4,h5,h6,h7]
            . simp[h0,h2,h3,h4,h5,h6,h7]
        . simp[h0,h2,h3,h4,h5]
    .   simp[h0,h2,h3]
 by_cases h1:r.a=[]
 . cases  h2:k.b with
   |true=>
    by_cases h4:k.t=0;rotate_left
    .   cases h6:k.n with
        | true=>
          simp[h0,h1,h2,h4,h6]
        | false=>
          by_cases h7:r.n=0
          . simp[h0,h1,h2,h4,h6,h7]
          . simp[h0,h1,h2,h4,h6,h7]
    by_cases h5:r.t=[]
    .   cases h6:k.n with
        | true=>
          simp[h0,h1,h2,h4,h5,h6]
        | false=>
          by_cases h7:r.n=0
          . simp[h0,h1,h2,h4,h5,h6,h7]
          . simp[h0,h1,h2,h4,h5,h6,h7]
    .   simp[h0,h1,h2,h4,h5]
   |false   =>
    by_cases h3:r.b=[]
    .   by_cases h4:k.t=0;rotate_left
        . cases h6:k.n with
          | true=>
            simp[h0,h1,h2,h3,h4,h6]
          | false=>
            by_cases h7:r.n=0
            . simp[h0,h1,h2,h3,h4,h6,h7]
            . simp[h0,h1,h2,h3,h4,h6,h7]
        by_cases h5:r.t=[]
        . cases h6:k.n with
          | true=>
            simp[h0,h1,h2,h3,h4,h5,h6]
          | false=>
            by_cases h7:r.n=0
            . simp[h0,h1,h2,h3,h4,h5,h6,h7]
            . simp[h0,h1,h2,h3,h4,h5,h6,h7]
        . simp[h0,h1,h2,h3,h4,h5]
    .   simp[h0,h1,h2,h3]
 . simp[h0,h1]
theorem CL{R:Type}(P:(List AV->St->Option R)->Prop){A:(List AV->St->Option R)->Option R}{T:List AV->St->Option R}{r:Option R}(hT:P T)(hA:∀j,P j->A j=r):dz A T=r:=hA T hT
theorem Tr{R:Type}(c:au)(K:AV->St->Option R)(st:St)(es:Nat)(z:Bool)(rs:List (List AV))(k k':IntKind)(i j:Nat)(h:i<j)(h2:j<=rs.length):
  aq c (.sliceL es true true false) [ro es z rs,.int k (i:Int),.int k' (j:Int)] st K=K (ro es false ((rs.take j).drop i)) st:=by
 have:∀H n,aF.run H n (.sliceL es true true false) [ro es z rs,.int k (i:Int),.int k' (j:Int)]=some (.val (ro es false ((rs.take j).drop i))):=λH n=>by
  rw[adD (by intro e;subst e;simp at h2;omega)];have h3:i<=j:=by omega
  simp[aF.run,iP,bounds,jz,cU,cV,h3,h2,ro]
 exact aR c K this st
theorem ae6(ts:List aB):∀(m k:Nat),(iF ts m k).2=0->∀i,k<=i->i<k+m->∀h:i<ts.length,rZ ts[i]=0
 |0,k,_,i,h1,h2,_=>by omega
 |m +   1,k,h,i,h1,h2,hi=>by
  have hk:k<ts.length:=by omega
  rw[iF,H0 hk]at h;simp only at h;by_cases h3:rZ ts[k]=0
  . rw[Za7 (by simp[h3])]at h;by_cases h4:0<=scan (xk ts ts[k].name) k 0
    .   rw[Zb3 h4]at h;simp at h
    .   rw[Za7 h4]at h;by_cases e:i=k
        . subst e;exact h3
        . exact ae6 ts m (k+1) h i (by omega) (by omega) hi
  . rw[Zb3 h3]at h;exact absurd h h3
theorem HO{ts:List aB}(h:(bR ts).2=0)(i:Nat)(hi:i<ts.length):rZ ts[i]=0:=by
 unfold bR at h;split at h
 . simp at h
 . exact ae6 ts ts.length 0 h i (by omega) (by omega) hi
theorem HP{t:aB}(h:rZ t=0):(bR [t]).2=0:=by
 simp[bR,iF,h,scan]
def gi(p:bM)(s:List Nat):Int:=scan (oF p.gs s) p.gs.length 0
def ti(p:bM)(s:List Nat):Int:=scan (xk p.ts s) p.ts.length 0
def DR(p:bM)(i:Int):Int:=match p.ts[i.toNat]? with
 |some t=>bJ t
 |none=>0
def zc(k:Kd)(r:Rl)(m:Int):Int:=if k.n=true/\(r.n<k.lo\/m<r.n)then 42 else 0
def Ob(k:Kd)(p:bM)(r:Rl):Int:=
 if(k.t=116/\ti p r.t<0)\/(k.t=101/\r.t≠[]/\ti p r.t<0)then 6
 else zc k r (if k.kD=true then DR p (ti p r.t) - 1 else 24)
def Xo(k:Kd)(p:bM)(r:Rl):Int:=
 if k.a=100/\pK r.a=false then 4 else if k.b=true/\r.a=r.b then 5 else Ob k p r
def IP(k:Kd)(p:bM)(r:Rl):Int:=
 if k.w=[]then 40 else if r.wt<0\/1000<r.wt then 41 else if DG k r=false then 43
 else if(k.a=103/\gi p r.a<0)\/(k.a=101/\r.a≠[]/\gi p r.a<0)\/(k.b=true/\gi p r.b<0)then 6
 else Xo k p r
theorem ae7 (hc : Sem c)(k:Kd)(hk:k.kD=true->k.t=116)(p:bM)(hp:p.CI)(hv:(bR p.ts).2=0)(r:Rl)(st:St)(hw:Wf st):
   c 51 [.agg k.cells,.agg p.cells,.agg r.cells] st=some (.int .i64 (IP k p r),st):=by
 have cg:Wf (ah st (.cells k.cells 0)):=bn hw;have kW:=bn (b:= .cells p.cells 0) cg;have hg3:=Grew.ah kW (.cells r.cells 0);have Aj:=Grew.ah cg (.cells p.cells 0);have hg:=((Grew.ah hw (.cells k.cells 0)).trans Aj).trans hg3;have hw3:=hg.wf;have p1:=hg3.get (Aj.get (az st (.cells k.cells 0)));have p2:=hg3.get (az (ah st (.cells k.cells 0)) (.cells p.cells 0));have p3:=az (ah (ah st (.cells k.cells 0)) (.cells p.cells 0)) (.cells r.cells 0);have A:=λs=>anq hc p hp s _ hw3
 have B:=aqD hc k r _ hw3;have D:=asJ hc p.tz p.ts hp.ok (by have:=hp.ts;unfold xj;omega) r.t _ hw3;have N:=ahX hc r.a (ah (ah (ah st (.cells k.cells 0)) (.cells p.cells 0)) (.cells r.cells 0));rw[Vy hc 1 (r:=(.int .i64 (IP k p r),ah (ah (ah st (.cells k.cells 0)) (.cells p.cells 0)) (.cells r.cells 0))),aE (Plain.int _ _) hg.keeps];rw[ZC];simp only[dI,aA,AV.cells];generalize ah (ah (ah st (.cells k.cells 0)) (.cells p.cells 0)) (.cells r.cells 0)=s at*
 generalize (ah (ah st (.cells k.cells 0)) (.cells p.cells 0)).next=q3 at*
 generalize (ah st (.cells k.cells 0)).next=q2 at*
 generalize st.next=q1 at*
 refine CL (P:=λj=>j [.ptr q1 0,.ptr q2 0,.ptr q3 0] s=some (.int .i64 (Ob k p r),s)) ?_ ?_
 . have D2  : c 111 [tabs p.tz p.ts,.str r.t] s=some (.tuple [.int .i64 (if 0<=ti p r.t then ti p r.t else 0),.bool (decide (0<=ti p r.t))],s):=(by simp only[hv,Zo9]at D;exact D);have hit:=B7 (P:=xk p.ts r.t) p.ts.length 0;clear D A B N hg Aj hg3 hw cg kW;unfold Ob;by_cases ht:0<=ti p r.t
   . have HE  : ¬ ti p r.t<0:=(by omega);obtain⟨i,hi⟩:∃i:Nat,ti p r.t=(i:Int):=⟨(ti p r.t).toNat,by omega⟩
     have iH:i<p.ts.length:=(by have:=(hit ht).2.1;unfold ti at hi;rw[hi]at this;simpa using this);simp only[ht,Zh7,Zh2]at D2;by_cases h1:k.t=116
     .  simp[ p1,p2,p3,D2,h1,HE];refine CL (P:=λj=>∀m,j [.ptr q1 0,.ptr q3 0,.int .i64 m] s=some (.int .i64 (zc k r m),s)) ?_ ?_
        . intro m;unfold zc;cases hn:k.n with
          |false=>simp[p1,hn]
          | true=>
            by_cases e1:r.n<k.lo
            . simp[p1,p3,hn,e1]
            . by_cases e2:m<r.n
              . simp[p1,p3,hn,e1,e2]
              . simp[p1,p3,hn,e1,e2]
        . intro j hj;cases hs:k.kD with
          |false=>simp[p1,hs,hj]
          | true=>
            have w:ax .i64 ((i:Int)+1)=(i:Int)+1:=(by have:=hp.ts;exact wrap64 (by omega) (by omega));have cnt:=Gm hc false [p.ts[i]] (λt ht=>by simp only[Zh8]at ht;subst ht;exact hp.ok _ (Zc2 iH)) s hw3;rw[Zb3 (HP (HO hv i iH)),show aW [p.ts[i]]=bJ p.ts[i]by simp[aW]]at cnt;have b:=Bf p.ts[i];have w2:ax .i64 (bJ p.ts[i] - 1)=bJ p.ts[i] - 1:=wrap64 (by omega) (by omega);have hcut:∀K:AV->St->Option (AV×St),aq c (.sliceL 7 true true false) [tabs p.tz p.ts,.int .i64 (i:Int),.int .i64 ((i:Int)+1)] s K=K (tabs false [p.ts[i]]) s:=λK=>by
              (unfold tabs;have:=Tr c K s 7 p.tz (p.ts.map aB.cells) .i64 .i64 i (i+1) (by omega) (by rw[Za5];omega);rw[show((i:Int)+1)=((i+1:Nat):Int)by omega,this];have e:((p.ts.map aB.cells).take (i+1)).drop i=[p.ts[i]].map aB.cells:=by rw[Zc6 (by simpa using iH),Zg4 (by simp;omega)];simp);rw[e]
            have e3:DR p (i:Int)=bJ p.ts[i]:=(by simp[DR,iH]);simp[p1,p2,hs,hi,e3,w,hcut,cnt,hj,w2]
     .  by_cases h2 :k.t=101
        . by_cases h3:r.t=[]
          . simp only[h3]at D2 HE hi;simp[p1,p2,p3,D2,h1,h2,h3,HE];refine CL (P:=λj=>∀m,j [.ptr q1 0,.ptr q3 0,.int .i64 m] s=some (.int .i64 (zc k r m),s)) ?_ ?_
            . intro m;unfold zc;cases hn:k.n with
              |false=>simp[p1,hn]
              | true=>
                by_cases e1:r.n<k.lo
                . simp[p1,p3,hn,e1]
                . by_cases e2:m<r.n
                  . simp[p1,p3,hn,e1,e2]
                  . simp[p1,p3,hn,e1,e2]
            . intro j hj;cases hs:k.kD with
              |false=>simp[p1,hs,hj]
              | true=>
                have w:ax .i64 ((i:Int)+1)=(i:Int)+1:=(by have:=hp.ts;exact wrap64 (by omega) (by omega));have cnt:=Gm hc false [p.ts[i]] (λt ht=>by simp only[Zh8]at ht;subst ht;exact hp.ok _ (Zc2 iH)) s hw3;rw[Zb3 (HP (HO hv i iH)),show aW [p.ts[i]]=bJ p.ts[i]by simp[aW]]at cnt;have b:=Bf p.ts[i];have w2:ax .i64 (bJ p.ts[i] - 1)=bJ p.ts[i] - 1:=wrap64 (by omega) (by omega);have hcut:∀K:AV->St->Option (AV×St),aq c (.sliceL 7 true true false) [tabs p.tz p.ts,.int .i64 (i:Int),.int .i64 ((i:Int)+1)] s K=K (tabs false [p.ts[i]]) s:=λK=>by
                  (unfold tabs;have:=Tr c K s 7 p.tz (p.ts.map aB.cells) .i64 .i64 i (i+1) (by omega) (by rw[Za5];omega);rw[show((i:Int)+1)=((i+1:Nat):Int)by omega,this];have e:((p.ts.map aB.cells).take (i+1)).drop i=[p.ts[i]].map aB.cells:=by rw[Zc6 (by simpa using iH),Zg4 (by simp;omega)];simp);rw[e]
                have e3:DR p (i:Int)=bJ p.ts[i]:=(by simp[DR,iH]);simp[p1,p2,hs,hi,e3,w,hcut,cnt,hj,w2]
          . simp[ p1,p2,p3,D2,h1,h2,h3,HE];refine CL (P:=λj=>∀m,j [.ptr q1 0,.ptr q3 0,.int .i64 m] s=some (.int .i64 (zc k r m),s)) ?_ ?_
            . intro m;unfold zc;cases hn:k.n with
              |false=>simp[p1,hn]
              | true=>
                by_cases e1:r.n<k.lo
                . simp[p1,p3,hn,e1]
                . by_cases e2:m<r.n
                  . simp[p1,p3,hn,e1,e2]
                  . simp[p1,p3,hn,e1,e2]
            . intro j hj;cases hs:k.kD with
              |false=>simp[p1,hs,hj]
              | true=>
                have w:ax .i64 ((i:Int)+1)=(i:Int)+1:=(by have:=hp.ts;exact wrap64 (by omega) (by omega));have cnt:=Gm hc false [p.ts[i]] (λt ht=>by simp only[Zh8]at ht;subst ht;exact hp.ok _ (Zc2 iH)) s hw3;rw[Zb3 (HP (HO hv i iH)),show aW [p.ts[i]]=bJ p.ts[i]by simp[aW]]at cnt;have b:=Bf p.ts[i];have w2:ax .i64 (bJ p.ts[i] - 1)=bJ p.ts[i] - 1:=wrap64 (by omega) (by omega);have hcut:∀K:AV->St->Option (AV×St),aq c (.sliceL 7 true true false) [tabs p.tz p.ts,.int .i64 (i:Int),.int .i64 ((i:Int)+1)] s K=K (tabs false [p.ts[i]]) s:=λK=>by
                  (unfold tabs;have:=Tr c K s 7 p.tz (p.ts.map aB.cells) .i64 .i64 i (i+1) (by omega) (by rw[Za5];omega);rw[show((i:Int)+1)=((i+1:Nat):Int)by omega,this];have e:((p.ts.map aB.cells).take (i+1)).drop i=[p.ts[i]].map aB.cells:=by rw[Zc6 (by simpa using iH),Zg4 (by simp;omega)];simp);rw[e]
                have e3:DR p (i:Int)=bJ p.ts[i]:=(by simp[DR,iH]);simp[p1,p2,hs,hi,e3,w,hcut,cnt,hj,w2]
        . simp[ p1,p2,p3,D2,h1,h2,HE];refine CL (P:=λj=>∀m,j [.ptr q1 0,.ptr q3 0,.int .i64 m] s=some (.int .i64 (zc k r m),s)) ?_ ?_
          . intro m;unfold zc;cases hn:k.n with
            |false=>simp[p1,hn]
            | true=>
              by_cases e1:r.n<k.lo
              . simp[p1,p3,hn,e1]
              . by_cases e2:m<r.n
                . simp[p1,p3,hn,e1,e2]
                . simp[p1,p3,hn,e1,e2]
          . intro j hj;cases hs:k.kD with
            |false=>simp[p1,hs,hj]
            | true=>
              have w:ax .i64 ((i:Int)+1)=(i:Int)+1:=(by have:=hp.ts;exact wrap64 (by omega) (by omega));have cnt:=Gm hc false [p.ts[i]] (λt ht=>by simp only[Zh8]at ht;subst ht;exact hp.ok _ (Zc2 iH)) s hw3;rw[Zb3 (HP (HO hv i iH)),show aW [p.ts[i]]=bJ p.ts[i]by simp[aW]]at cnt;have b:=Bf p.ts[i];have w2:ax .i64 (bJ p.ts[i] - 1)=bJ p.ts[i] - 1:=wrap64 (by omega) (by omega);have hcut:∀K:AV->St->Option (AV×St),aq c (.sliceL 7 true true false) [tabs p.tz p.ts,.int .i64 (i:Int),.int .i64 ((i:Int)+1)] s K=K (tabs false [p.ts[i]]) s:=λK=>by
                (unfold tabs;have:=Tr c K s 7 p.tz (p.ts.map aB.cells) .i64 .i64 i (i+1) (by omega) (by rw[Za5];omega);rw[show((i:Int)+1)=((i+1:Nat):Int)by omega,this];have e:((p.ts.map aB.cells).take (i+1)).drop i=[p.ts[i]].map aB.cells:=by rw[Zc6 (by simpa using iH),Zg4 (by simp;omega)];simp);rw[e]
              have e3:DR p (i:Int)=bJ p.ts[i]:=(by simp[DR,iH]);simp[p1,p2,hs,hi,e3,w,hcut,cnt,hj,w2]
   . have HE  : ti p r.t<0:=(by omega);simp only[ht,Zh0,Zp2]at D2;by_cases h1:k.t=116
     .  simp[p1,p2,p3,D2,h1,HE]
     .  by_cases h2:k.t=101
        . by_cases h3:r.t=[]
          . simp only[h3]at D2 HE;simp[p1,p2,p3,D2,h1,h2,h3,HE];refine CL (P:=λj=>∀m,j [.ptr q1 0,.ptr q3 0,.int .i64 m] s=some (.int .i64 (zc k r m),s)) ?_ ?_
            . intro m;unfold zc;cases hn:k.n with
              |false=>simp[p1,hn]
              | true=>
                by_cases e1:r.n<k.lo
                . simp[p1,p3,hn,e1]
                . by_cases e2:m<r.n
                  . simp[p1,p3,hn,e1,e2]
                  . simp[p1,p3,hn,e1,e2]
            . intro j hj;have hs:k.kD=false:=by
                cases h:k.kD with
                |false=>rfl
                |true=>exact absurd (hk h) h1
              simp[p1,hs,hj]
          . simp[p1,p2,p3,D2,h1,h2,h3,HE]
        . simp[ p1,p2,p3,D2,h1,h2,HE];refine CL (P:=λj=>∀m,j [.ptr q1 0,.ptr q3 0,.int .i64 m] s=some (.int .i64 (zc k r m),s)) ?_ ?_
          . intro m;unfold zc;cases hn:k.n with
            |false=>simp[p1,hn]
            | true=>
              by_cases e1:r.n<k.lo
              . simp[p1,p3,hn,e1]
              . by_cases e2:m<r.n
                . simp[p1,p3,hn,e1,e2]
                . simp[p1,p3,hn,e1,e2]
          . intro j hj;have hs:k.kD=false:=by
              cases h:k.kD with
              |false=>rfl
              |true=>exact absurd (hk h) h1
            simp[p1,hs,hj]
 . intro  j hj;have A2:∀nm,c 109 [.agg p.cells,.str nm] s=some (.int .i64 (gi p nm),s):=A;have cc:cut r.cells 0 6=some r.cells:=cM rfl;clear A D hg Aj hg3 hw cg kW;unfold IP;by_cases h0:k.w=[]
   . simp[p1,h0]
   by_cases h1:r.wt<0
   . simp[p1,p3,h0,h1]
   by_cases h2:1000<r.wt
   . simp[p1,p3,h0,h1,h2]
   cases h3:DG k r with
   |false=>simp[p1,p3,h0,h1,h2,B,h3]
   |true=>
   simp[p1,p3,h0,h1,h2,B,h3];refine CL (P:=λj'=>∀b:Bool,j' [.ptr q1 0,.ptr q2 0,.ptr q3 0,.bool b] s=some (.int .i64 (if b=true then 6 else Xo k p r),s)) ?_ ?_
   . intro  b;cases b with
     |true=>simp
     |  false =>
        unfold Xo;by_cases a1:k.a=100
        . cases a2:pK r.a with
          |false=>simp[p1,p3,a1,a2,N]
          | true=>
            cases b1:k.b with
            |false=>simp[p1,p3,a1,a2,N,b1,hj]
            | true=>
              by_cases b2:r.a=r.b
              . rw[b2]at a2 N;simp[p1,p3,a1,a2,N,b1,b2]
              . simp[p1,p3,a1,a2,N,b1,b2,hj]
        . cases b1:k.b with
          |false=>simp[p1,p3,a1,b1,hj]
          | true=>
            by_cases b2:r.a=r.b
            . simp[p1,p3,a1,b1,b2]
            . simp[p1,p3,a1,b1,b2,hj]
   . intro  j' LA;have K6:=LA true;have K0:=LA false;simp only[Zh7,Zf4,Zh0]at K6 K0;clear LA hj;by_cases a1:k.a=103
     .  by_cases g1:gi p r.a<0
        . simp[p1,p2,p3,a1,A2,g1,K6]
        . cases b1:k.b with
          |false=>simp[p1,p2,p3,a1,A2,g1,b1,K0]
          | true=>
            by_cases g2:gi p r.b<0
            . simp[p1,p2,p3,a1,A2,g1,g2,b1,K6]
            . simp[p1,p2,p3,a1,A2,g1,g2,b1,K0]
     .  by_cases a2:k.a=101
        . by_cases e:r.a=[]
          . cases b1:k.b with
            |false=>simp[p1,p2,p3,a1,a2,e,A2,b1,K0]
            | true=>
              by_cases g2:gi p r.b<0
              . simp[p1,p2,p3,a1,a2,e,A2,g2,b1,K6]
              . simp[p1,p2,p3,a1,a2,e,A2,g2,b1,K0]
          . by_cases g1:gi p r.a<0
            . simp[p1,p2,p3,a1,a2,e,A2,g1,K6]
            . cases b1:k.b with
              |false=>simp[p1,p2,p3,a1,a2,e,A2,g1,b1,K0]
              | true=>
                by_cases g2:gi p r.b<0
                . simp[p1,p2,p3,a1,a2,e,A2,g1,g2,b1,K6]
                . simp[p1,p2,p3,a1,a2,e,A2,g1,g2,b1,K0]
        . cases b1:k.b with
          |false=>simp[p1,p2,p3,a1,a2,A2,b1,K0]
          | true=>
            by_cases g2:gi p r.b<0
            . simp[p1,p2,p3,a1,a2,A2,g2,b1,K6]
            . simp[p1,p2,p3,a1,a2,A2,g2,b1,K0]
end
end Go.Proofs.YtgihekklfnjkiaaGreatDoor
