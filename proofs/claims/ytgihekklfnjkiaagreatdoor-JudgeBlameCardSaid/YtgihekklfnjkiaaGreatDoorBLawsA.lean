/- What the checks answer. -/
import Derived.Test.YtgihekklfnjkiaaGreatDoorBPlainA
set_option linter.all false
set_option maxRecDepth 100000
set_option maxHeartbeats 1000000
namespace Go.Proofs.YtgihekklfnjkiaaGreatDoor
section
open Go Go.Ai Go.Proofs
variable{c:aj}
def oD(s:List Nat):Bool:=decide (1<=s.length)&&decide (s.length<=12)&&s.all λc=>decide (97<=c/\c<=122)
structure aB where
 name:List Nat
 sh:Int
 a:Int
 b:Int
 oz:Bool
 kA:List Int
 x:Int
 y:Int
def ints(z:Bool)(l:List Int):AV:=ro 1 z (l.map λi=>[.int .i64 i])
def aB.cells(t:aB):List AV:=[.str t.name,.int .u8 t.sh,.int .i64 t.a,.int .i64 t.b,ints t.oz t.kA,.int .i64 t.x,.int .i64 t.y]
theorem ack(z:Bool)(l:List Int):Plain (ints z l):=Plain.ro λcs h v hv=>by simp only[Zc6]at h;obtain⟨i,_,rfl⟩:=h;simp only[Zh9]at hv;subst hv;exact Plain.int _ _
@[simp] theorem aqv(z:Bool)(l:List Int):(ints z l).one=true:=amY _ _ _
def bw(t:aB):Int:=
 if t.sh=1 then(if 1<=t.a/\t.a<=24/\t.b=0 then t.a else 0)
 else if t.sh=2 then(if 1<=t.a/\t.a<=11/\0<=t.b/\t.b<=2 then 2*t.a+t.b else 0)
 else if t.sh=3 then(if 1<=t.a/\t.a<=8/\1<=t.b/\t.b<=8 then t.a+2*t.b else 0)
 else if t.sh=4 then(if 1<=t.a/\t.a<=24/\0<=t.b/\t.b<=t.a then t.a else 0)
 else 0
theorem afl(hc:Sem c)(a b:Int)(st:St):c 204 [.int .i64 a,.int .i64 b] st=some (.int .i64 (if 1<=a/\a<=24/\b=0 then a else 0),st):=by
 rw[UL hc 1 (r:=(.int .i64 (if 1<=a/\a<=24/\b=0 then a else 0),st)),aF (Plain.int _ _) (aX.refl st)];rw[YX];by_cases h1:a<1
 .have:¬1<=a:=(by omega);simp[h1,this]
 . by_cases h2:24<a
   .have:¬a<=24:=(by omega);simp[h1,h2,this]
   .have h3:1<=a:=(by omega);have h4:a<=24:=(by omega);by_cases h5:b=0<;>simp[h1,h2,h3,h4,h5]
theorem ahF(hc:Sem c)(a b:Int)(st:St):c 209 [.int .i64 a,.int .i64 b] st=some (.int .i64 (if 1<=a/\a<=11/\0<=b/\b<=2 then 2*a+b else 0),st):=by
 rw[WO hc 1 (r:=(.int .i64 (if 1<=a/\a<=11/\0<=b/\b<=2 then 2*a+b else 0),st)),aF (Plain.int _ _) (aX.refl st)];rw[aa5];by_cases h1:a<1
 .have:¬1<=a:=(by omega);simp[h1,this]
 by_cases h2:11<a
 .have:¬a<=11:=(by omega);simp[h1,h2,this]
 by_cases h3:b<0
 .have:¬0<=b:=(by omega);simp[h1,h2,h3,this]
 by_cases h4:2<b
 .have:¬b<=2:=(by omega);simp[h1,h2,h3,h4,this]
 have h5:1<=a:=by omega
 have h6:a<=11:=by omega
 have h7:0<=b:=by omega
 have h8:b<=2:=by omega
 have w1:ax .i64 (2*a)=2*a:=wrap64 (by omega) (by omega);have w2:ax .i64 (2*a+b)=2*a+b:=wrap64 (by omega) (by omega);simp[h1,h2,h3,h4,h5,h6,h7,h8,w1,w2]
theorem ahG(hc:Sem c)(a b:Int)(st:St):c 214 [.int .i64 a,.int .i64 b] st=some (.int .i64 (if 1<=a/\a<=8/\1<=b/\b<=8 then a+2*b else 0),st):=by
 rw[WQ hc 1 (r:=(.int .i64 (if 1<=a/\a<=8/\1<=b/\b<=8 then a+2*b else 0),st)),aF (Plain.int _ _) (aX.refl st)];rw[aa6];by_cases h1:a<1
 .have:¬1<=a:=(by omega);simp[h1,this]
 by_cases h2:8<a
 .have:¬a<=8:=(by omega);simp[h1,h2,this]
 by_cases h3:b<1
 .have:¬1<=b:=(by omega);simp[h1,h2,h3,this]
 by_cases h4:8<b
 .have:¬b<=8:=(by omega);simp[h1,h2,h3,h4,this]
 have h5:1<=a:=by omega
 have h6:a<=8:=by omega
 have h7:1<=b:=by omega
 have h8:b<=8:=by omega
 have w1:ax .i64 (2*b)=2*b:=wrap64 (by omega) (by omega);have w2:ax .i64 (a+2*b)=a+2*b:=wrap64 (by omega) (by omega);simp[h1,h2,h3,h4,h5,h6,h7,h8,w1,w2]
theorem ai5(hc:Sem c)(a b:Int)(st:St):c 219 [.int .i64 a,.int .i64 b] st=some (.int .i64 (if 1<=a/\a<=24/\0<=b/\b<=a then a else 0),st):=by
 rw[YY hc 1 (r:=(.int .i64 (if 1<=a/\a<=24/\0<=b/\b<=a then a else 0),st)),aF (Plain.int _ _) (aX.refl st)];rw[acm];by_cases h1:a<1
 .have:¬1<=a:=(by omega);simp[h1,this]
 by_cases h2:24<a
 .have:¬a<=24:=(by omega);simp[h1,h2,this]
 by_cases h3:b<0
 .have:¬0<=b:=(by omega);simp[h1,h2,h3,this]
 by_cases h4:a<b
 .have:¬b<=a:=(by omega);simp[h1,h2,h3,h4,this]
 have h5:1<=a:=by omega
 have h6:a<=24:=by omega
 have h7:0<=b:=by omega
 have h8:b<=a:=by omega
 simp[h1,h2,h3,h4,h5,h6,h7,h8]
def ia(sh:Int):List AV:=
 if sh=1 then [.str [114,111,117,110,100],.func 204 [] [],.func 205 [] [],.func 206 [] [],.func 207 [] [],.func 208 [] []]
 else if sh=2 then [.str [108,111,110,103],.func 209 [] [],.func 210 [] [],.func 211 [] [],.func 212 [] [],.func 213 [] []]
 else if sh=3 then [.str [104,111,114,115,101,115,104,111,101],.func 214 [] [],.func 215 [] [],.func 216 [] [],.func 217 [] [],.func 218 [] []]
 else if sh=4 then [.str [114,111,119],.func 219 [] [],.func 220 [] [],.func 221 [] [],.func 222 [] [],.func 223 [] []]
 else [.str [],.jM,.jM,.jM,.jM,.jM]
theorem plain_fn(f:Nat):Plain (.func f [] []):=Plain.func f (by simp) (by simp)
theorem anY(sh:Int):∀v∈ia sh,Plain v:=by
 unfold ia;intro v hv
 repeat' split at hv
 all_goals
  simp only[Za9,Zc3,Zf0]at hv;rcases hv with rfl|rfl|rfl|rfl|rfl|rfl<;>first|exact Plain.str _|exact Plain.jM|exact plain_fn _
theorem fH(hc:Sem c)(sh:Int)(st:St)(hw:Wf st):c 180 [.int .u8 sh] st=some (.tuple [.agg (ia sh),.bool (decide (1<=sh/\sh<=4))],st):=by
 have hp:Plain (.tuple [.agg (ia sh),.bool (decide (1<=sh/\sh<=4))]):=Plain.tuple λv hv=>by
   simp only[Za9,Zc3,Zf0]at hv;rcases hv with rfl|rfl
   .exact Plain.agg (anY sh)
   .exact Plain.bool _
 rw[YZ hc 1 (r:=(.tuple [.agg (ia sh),.bool (decide (1<=sh/\sh<=4))],ah st (.cells (ia sh) 0))),aF hp (cq hw)];rw[acn];by_cases h1:sh=1
 .subst h1;simp[ia,AV.cells,aN,AV.one,cQ,cF,aQ,cM]
 by_cases h2:sh=2
 .subst h2;simp[ia,AV.cells,aN,AV.one,cQ,cF,aQ,cM]
 by_cases h3:sh=3
 .subst h3;simp[ia,AV.cells,aN,AV.one,cQ,cF,aQ,cM]
 by_cases h4:sh=4
 .subst h4;simp[ia,AV.cells,aN,AV.one,cQ,cF,aQ,cM]
 have h5:decide (1<=sh/\sh<=4)=false:=by simp;omega
 rw[h5];simp[ia,AV.cells,aN,AV.one,cQ,cF,aQ,cM,h1,h2,h3,h4]
theorem P9(hc:Sem c)(t:aB)(st:St)(hw:Wf st):c 121 [.agg t.cells] st=some (.int .i64 (bw t),st):=by
 rw[afm hc 1 (r:=(.int .i64 (bw t),ah (ah st (.cells t.cells 0)) (.cells (ia t.sh) 0))),aF (Plain.int _ _) ((cq hw).trans (cq (bF hw)))];rw[ai6];obtain⟨name,sh,a,b,oz,kA,x,y⟩:=t;by_cases h1:sh=1
 .subst h1;simp[aB.cells,AV.cells,fH hc,hw,bw,ia,aN,AV.one,afl hc]
 by_cases h2:sh=2
 .subst h2;simp[aB.cells,AV.cells,fH hc,hw,bw,ia,aN,AV.one,ahF hc]
 by_cases h3:sh=3
 .subst h3;simp[aB.cells,AV.cells,fH hc,hw,bw,ia,aN,AV.one,ahG hc]
 by_cases h4:sh=4
 .subst h4;simp[aB.cells,AV.cells,fH hc,hw,bw,ia,aN,AV.one,ai5 hc]
 have h5:decide (1<=sh/\sh<=4)=false:=by simp;omega
 simp[aB.cells,AV.cells,fH hc,hw,bw,ia,aN,AV.one,h1,h2,h3,h4,h5]
def wD:Nat:=9223372036854775808
theorem aco(s:List Nat)(hs:s.length<=12)(F:Nat)(st:St)(k1 k2):∀(m k:Nat),s.length<=k+m->k<=s.length->
  rY c F k1 k2 (m+1) [.str s,.int .i64 (s.length:Int),.int .i64 (k:Int)] st=if(s.drop k).all (λc=>decide (97<=c/\c<=122))=true then k2 [] st else k1 [.bool false] st:=by
 intro m;induction m with
 |zero=>
  intro k h1 h2;rw[Nc];obtain rfl:k=s.length:=by omega
  simp
 |succ m ih=>
  intro k h1 h2;rw[Nc];by_cases h:k<s.length
  . have e:s.drop k=s[k]::s.drop (k+1):=Ze2 h;have:=ih (k+1) (by omega) (by omega);have w:ax .i64 ((k:Int)+1)=((k+1:Nat):Int):=wrap64 (by omega) (by omega);rw[e,Zp5];generalize (s.drop (k+1)).all _=rest at this ⊢;by_cases h3:(s[k]:Int)<97
    .   have h5:decide (97<=s[k]/\s[k]<=122)=false:=(by simp;omega);simp[h,h3,h5]
    .   by_cases h4:122<(s[k]:Int)
        .have h5:decide (97<=s[k]/\s[k]<=122)=false:=(by simp;omega);simp[h,h3,h4,h5]
        .have h5:decide (97<=s[k]/\s[k]<=122)=true:=(by simp;omega);rw[h5,Zg5, <-this];simp[h,h3,h4,w]
  .obtain rfl:k=s.length:=(by omega);simp
theorem Ie(hc:Sem c)(s:List Nat)(st:St):c 225 [.str s] st=some (.bool (oD s),st):=by
 rw[adI hc (s.length+1) (r:=(.bool (oD s),st)),aF (Plain.bool _) (aX.refl st)];rw[ahH];by_cases h0:(s.length:Int)=0
 .have h1:¬1<=s.length:=(by omega);have h2:s=[]:=Zc0 (by omega);subst h2;simp[oD]
 . by_cases h1:12<(s.length:Int)
   .have h2:¬s.length<=12:=(by omega);have h3:¬s=[]:=(by intro e;subst e;simp at h0);simp[oD,h1,h2,h3]
   . have h2:s.length<=12:=(by omega);have h3:1<=s.length:=(by omega);have h4:¬s=[]:=(by intro e;subst e;simp at h0);have L:∀k1 k2,rY c (s.length+1) k1 k2 (s.length+1) [.str s,.int .i64 (s.length:Int),.int .i64 0] st=if(s.drop 0).all (λc=>decide (97<=c/\c<=122))=true then k2 [] st else k1 [.bool false] st:=
        λk1 k2=>aco (c:=c) s h2 (s.length+1) st k1 k2 s.length 0 (by omega) (by omega)
     rw[Ze6]at L;have e:oD s=s.all λc=>decide (97<=c/\c<=122):=(by simp[oD,h2,h3]);rw[e];generalize (s.all _)=b at L ⊢;simp[h1,h4,L];cases b<;>simp
theorem adJ(s:List Nat)(hs:s.length<=12)(F:Nat)(st:St)(k1 k2):∀(m k:Nat),s.length<=k+m->k<=s.length->
  uD c F k1 k2 (m+1) [.str s,.int .i64 (s.length:Int),.int .i64 (k:Int)] st=if(s.drop k).all (λc=>decide (97<=c/\c<=122))=true then k2 [] st else k1 [.bool false] st:=by
 intro m;induction m with
 |zero=>
  intro k h1 h2;rw[Qa];obtain rfl:k=s.length:=by omega
  simp
 |succ m ih=>
  intro k h1 h2;rw[Qa];by_cases h:k<s.length
  . have e:s.drop k=s[k]::s.drop (k+1):=Ze2 h;have:=ih (k+1) (by omega) (by omega);have w:ax .i64 ((k:Int)+1)=((k+1:Nat):Int):=wrap64 (by omega) (by omega);rw[e,Zp5];generalize (s.drop (k+1)).all _=rest at this ⊢;by_cases h3:(s[k]:Int)<97
    .   have h5:decide (97<=s[k]/\s[k]<=122)=false:=(by simp;omega);simp[h,h3,h5]
    .   by_cases h4:122<(s[k]:Int)
        .have h5:decide (97<=s[k]/\s[k]<=122)=false:=(by simp;omega);simp[h,h3,h4,h5]
        .have h5:decide (97<=s[k]/\s[k]<=122)=true:=(by simp;omega);rw[h5,Zg5, <-this];simp[h,h3,h4,w]
  .obtain rfl:k=s.length:=(by omega);simp
theorem ahI(hc:Sem c)(s:List Nat)(st:St):c 110 [.str s] st=some (.bool (oD s),st):=by
 rw[afn hc (s.length+1) (r:=(.bool (oD s),st)),aF (Plain.bool _) (aX.refl st)];rw[ai7];by_cases h0:(s.length:Int)=0
 .have h1:¬1<=s.length:=(by omega);have h2:s=[]:=Zc0 (by omega);subst h2;simp[oD]
 . by_cases h1:12<(s.length:Int)
   .have h2:¬s.length<=12:=(by omega);have h3:¬s=[]:=(by intro e;subst e;simp at h0);simp[oD,h1,h2,h3]
   . have h2:s.length<=12:=(by omega);have h3:1<=s.length:=(by omega);have h4:¬s=[]:=(by intro e;subst e;simp at h0);have L:∀k1 k2,uD c (s.length+1) k1 k2 (s.length+1) [.str s,.int .i64 (s.length:Int),.int .i64 0] st=if(s.drop 0).all (λc=>decide (97<=c/\c<=122))=true then k2 [] st else k1 [.bool false] st:=
        λk1 k2=>adJ (c:=c) s h2 (s.length+1) st k1 k2 s.length 0 (by omega) (by omega)
     rw[Ze6]at L;have e:oD s=s.all λc=>decide (97<=c/\c<=122):=(by simp[oD,h2,h3]);rw[e];generalize (s.all _)=b at L ⊢;simp[h1,h4,L];cases b<;>simp
theorem adK(s:List Nat)(hs:s.length<wD)(F:Nat)(st:St)(k1 k2):∀(m k:Nat),s.length<=k+m->k<=s.length->
  uE c F k1 k2 (m+1) [.str s,.int .i64 (k:Int)] st=if(s.drop k).all (λc=>decide (97<=c/\c<=122))=true then k2 [.str s] st else k1 [.bool false] st:=by
 intro m;induction m with
 |zero=>
  intro k h1 h2;rw[Qb];obtain rfl:k=s.length:=by omega
  simp
 |succ m ih=>
  intro k h1 h2;rw[Qb];by_cases h:k<s.length
  . have e:s.drop k=s[k]::s.drop (k+1):=Ze2 h;have:=ih (k+1) (by omega) (by omega);have w:ax .i64 ((k:Int)+1)=((k+1:Nat):Int):=wrap64 (by omega) (by unfold wD at hs;omega);rw[e,Zp5];generalize (s.drop (k+1)).all _=rest at this ⊢;by_cases h3:(s[k]:Int)<97
    .   have h5:decide (97<=s[k]/\s[k]<=122)=false:=(by simp;omega);simp[h,h3,h5]
    .   by_cases h4:122<(s[k]:Int)
        .have h5:decide (97<=s[k]/\s[k]<=122)=false:=(by simp;omega);simp[h,h3,h4,h5]
        .have h5:decide (97<=s[k]/\s[k]<=122)=true:=(by simp;omega);rw[h5,Zg5, <-this];simp[h,h3,h4,w]
  .obtain rfl:k=s.length:=(by omega);simp
theorem ahJ(hc:Sem c)(s:List Nat)(hs:s.length<wD)(st:St):c 203 [.str s] st=some (.bool (oD s),st):=by
 rw[afo hc (s.length+1) (r:=(.bool (oD s),st)),aF (Plain.bool _) (aX.refl st)];rw[ai8];have L:∀k1 k2,uE c (s.length+1) k1 k2 (s.length+1) [.str s,.int .i64 0] st=if(s.drop 0).all (λc=>decide (97<=c/\c<=122))=true then k2 [.str s] st else k1 [.bool false] st:=
   λk1 k2=>adK (c:=c) s hs (s.length+1) st k1 k2 s.length 0 (by omega) (by omega)
 rw[Ze6]at L;have e:oD s=(decide (1<=s.length)&&decide (s.length<=12)&&s.all λc=>decide (97<=c/\c<=122)):=rfl;rw[e];generalize (s.all _)=b at L ⊢;simp[L];cases b
 .simp
 . by_cases h1:(1:Int)<=s.length
   . have h2:1<=s.length:=(by omega);by_cases h3:(s.length:Int)<=12
     .  have h4:s.length<=12:=(by omega);simp[h1,h2,h3,h4]
     .  have h4:¬s.length<=12:=(by omega);simp[h1,h2,h3,h4]
   .have h2:¬1<=s.length:=(by omega);simp[h1,h2]
def zE(s:List Nat):Bool:=decide (s=[])||oD s
theorem Ig(hc:Sem c)(s:List Nat)(st:St):c 226 [.str s] st=some (.bool (zE s),st):=by
 rw[adL hc 1 (r:=(.bool (zE s),st)),aF (Plain.bool _) (aX.refl st)];rw[ahK];by_cases h:s=[]<;>simp[h,zE,Ie hc]
def Sv(n last:Int):List Int->Bool
 |[]=>true
 |k::l=>decide (last<k)&&decide (k<n)&&Sv n k l
def rM(t:aB):Int:=
 if oD t.name=false then 4 else if bw t=0 then 10 else if Sv (bw t) (-1) t.kA=false then 11
 else if 0<=t.x/\t.x<=1000/\0<=t.y/\t.y<=1000 then 0 else 2
structure aB.Ok(t:aB):Prop where
 name:t.name.length<wD
 kA:t.kA.length<wD
theorem ahr(l:List Int)(k:Nat)(h:k<l.length):((l.map λi=>[AV.int .i64 i])[k]?.bind λcs=>cs[0]?)=some (.int .i64 l[k]):=by
 simp[Zb7,H0 h]
theorem acp(p:Pos)(n:Int)(z:Bool)(l:List Int)(hl:l.length<wD)(F:Nat)(st:St)(k1 k3):∀(m k:Nat)(last:Int),l.length<=k+m->k<=l.length->
  rZ c F k1 k3 (m+1) [.ptr p 0,.int .i64 n,.int .i64 last,ints z l,.int .i64 (l.length:Int),.int .i64 (k:Int)] st=if Sv n last (l.drop k)=true then k3 [.ptr p 0] st else k1 [.int .i64 11] st:=by
 intro m;induction m with
 |zero=>
  intro k last h1 h2;rw[Nd];obtain rfl:k=l.length:=by omega
  simp[Sv]
 |succ m ih=>
  intro k last h1 h2;rw[Nd];by_cases h:k<l.length
  . have e:l.drop k=l[k]::l.drop (k+1):=Ze2 h;have:=ih (k+1) l[k] (by omega) (by omega);have w:ax .i64 ((k:Int)+1)=((k+1:Nat):Int):=wrap64 (by omega) (by unfold wD at hl;omega);have g:=ahr l k h;rw[e,Sv];generalize Sv n l[k] (l.drop (k+1))=rest at this ⊢;by_cases h3:l[k]<=last
    .   have h4:¬last<l[k]:=(by omega);simp[ints,h,h3,h4,g]
    .   have h4:last<l[k]:=(by omega);by_cases h5:n<=l[k]
        .have h6:¬l[k]<n:=(by omega);simp[ints,h,h3,h4,h5,h6,g]
        .have h6:l[k]<n:=(by omega);simp only[h4,h6,Zg6,Zg5];rw[<-this];simp[ints,h,h3,h4,h5,h6,g,w]
  .obtain rfl:k=l.length:=(by omega);simp[Sv]
theorem aqw(hc:Sem c)(t:aB)(ht:t.Ok)(st:St)(hw:Wf st):c 158 [.agg t.cells] st=some (.int .i64 (rM t),st):=by
 rw[adM hc (t.kA.length+1) (r:=(.int .i64 (rM t),ah st (.cells t.cells 0))),aF (Plain.int _ _) (cq hw)];rw[ahL];have hs:=P9 hc t (ah st (.cells t.cells 0)) (bF hw);have hn:=ahJ hc t.name ht.name;have hg:(ah st (.cells t.cells 0)).heap.get st.next=some (.cells t.cells 0):=aA _ _;have c0:t.cells[0]? =some (.str t.name):=rfl;have c4:t.cells[4]? =some (ints t.oz t.kA):=rfl;have c5:t.cells[5]? =some (.int .i64 t.x):=rfl;have c6:t.cells[6]? =some (.int .i64 t.y):=rfl;have cc:cut t.cells 0 7=some t.cells:=cQ rfl
 have L:∀k1 k3,rZ c (t.kA.length+1) k1 k3 (t.kA.length+1) [.ptr st.next 0,.int .i64 (bw t),.int .i64 (-1),ints t.oz t.kA,.int .i64 (t.kA.length:Int),.int .i64 0] (ah st (.cells t.cells 0))=
     if Sv (bw t) (-1) (t.kA.drop 0)=true then k3 [.ptr st.next 0] (ah st (.cells t.cells 0))else k1 [.int .i64 11] (ah st (.cells t.cells 0)):=
   λk1 k3=>acp st.next (bw t) t.oz t.kA ht.kA _ _ k1 k3 t.kA.length 0 (-1) (by omega) (by omega)
 rw[Ze6]at L;have lI:∀(K:AV->St->Option (AV×St))(s:St),aq c (.lenB .l) [ints t.oz t.kA] s K=K (.int .i64 (t.kA.length:Int)) s:=λK s=>by unfold ints;rw[jv];simp
 unfold rM;generalize t.cells=tc at*
 generalize bw t=sz at*
 generalize Sv sz (-1) t.kA=op at*
 by_cases h1:oD t.name=true
 . by_cases h2:sz=0
   .simp[AV.cells,hs,hn,hg,c0,cc,h1,h2]
   . cases op
     .  simp[AV.cells,hs,hn,hg,c0,c4,cc,h1,h2,lI,L]
     .  by_cases h3:t.x<0
        .have:¬0<=t.x:=(by omega);simp[AV.cells,hs,hn,hg,c0,c4,c5,c6,cc,h1,h2,lI,L,h3,this]
        by_cases h4:1000<t.x
        .have:¬t.x<=1000:=(by omega);simp[AV.cells,hs,hn,hg,c0,c4,c5,c6,cc,h1,h2,lI,L,h3,h4,this]
        by_cases h5:t.y<0
        .have:¬0<=t.y:=(by omega);simp[AV.cells,hs,hn,hg,c0,c4,c5,c6,cc,h1,h2,lI,L,h3,h4,h5,this]
        by_cases h6:1000<t.y
        .have:¬t.y<=1000:=(by omega);simp[AV.cells,hs,hn,hg,c0,c4,c5,c6,cc,h1,h2,lI,L,h3,h4,h5,h6,this]
        have h7:0<=t.x:=(by omega);have h8:t.x<=1000:=(by omega);have h9:0<=t.y:=(by omega);have h10:t.y<=1000:=(by omega);simp[AV.cells,hs,hn,hg,c0,c4,c5,c6,cc,h1,h2,lI,L,h3,h4,h5,h6,h7,h8,h9,h10]
 .simp[AV.cells,hs,hn,hg,c0,cc,h1]
theorem Av(t:aB):0<=bw t/\bw t<=1000:=by
 unfold bw;repeat' split
 all_goals omega
def scan(P:Nat->Bool):Nat->Nat->Int
 |0,_=> -1
 |m+1,k=>if P k=true then(k:Int)else scan P m (k+1)
theorem adN(P:Nat->Bool):∀(m k:Nat),-1<=scan P m k/\(scan P m k<0->scan P m k= -1)
 |0,_=>by simp[scan]
 |m+1,k=>by
  unfold scan;split
  .omega
  .exact adN P m (k+1)
theorem acq{P Q:Nat->Bool}:∀(m k:Nat),(∀i,k<=i->i<k+m->P i=Q i)->scan P m k=scan Q m k
 |0,_,_=>rfl
 |m+1,k,h=>by
  unfold scan;rw[h k (by omega) (by omega),acq m (k+1) λi h1 h2=>h i (by omega) (by omega)]
theorem Bq{P:Nat->Bool}:∀(m k:Nat),0<=scan P m k->k<=(scan P m k).toNat/\(scan P m k).toNat<k+m/\P (scan P m k).toNat=true
 |0,k,h=>by simp[scan]at h
 |m +1,k,h=>by
  unfold scan at h ⊢;split
  .rename_i hp;simp;exact hp
  .rename_i hp;rw[Za6 hp]at h;have:=Bq m (k+1) h;exact⟨by omega,by omega,this.2.2⟩
def tabs(z:Bool)(ts:List aB):AV:=ro 7 z (ts.map aB.cells)
@[simp] theorem aB.c0(t:aB):t.cells[0]? =some (.str t.name):=id rfl
@[simp] theorem aB.c1(t:aB):t.cells[1]? =some (.int .u8 t.sh):=id rfl
@[simp] theorem aB.c2(t:aB):t.cells[2]? =some (.int .i64 t.a):=id rfl
@[simp] theorem aB.c3(t:aB):t.cells[3]? =some (.int .i64 t.b):=id rfl
@[simp] theorem aB.c4(t:aB):t.cells[4]? =some (ints t.oz t.kA):=id rfl
@[simp] theorem aB.c5(t:aB):t.cells[5]? =some (.int .i64 t.x):=id rfl
@[simp] theorem aB.c6(t:aB):t.cells[6]? =some (.int .i64 t.y):=id rfl
@[simp] theorem aB.cc(t:aB):cut t.cells 0 7=some t.cells:=cQ rfl
theorem aB.len(t:aB):t.cells.length=7:=id rfl
@[simp] theorem aB.one(t:aB):aN t.cells=true:=by unfold aB.cells;simp only[aN,aqv];rfl
@[simp] theorem WS(l:List AV):(AV.agg l).cells=l:=id rfl
def uF(ts:List aB)(s:List Nat)(i:Nat):Bool:=decide (ts[i]?.map aB.name=some s)
def iD(ts:List aB):Nat->Nat->Int×Int
 |0,_=>(0,0)
 |  m+1,k=>match ts[k]? with
    |none=>(0,0)
    |some t=>if rM t≠0 then((k:Int),rM t)else if 0<=scan (uF ts t.name) k 0 then((k:Int),5)else iD ts m (k+1)
def bR(ts:List aB):Int×Int:=if 16<ts.length then(0,7)else iD ts ts.length 0
theorem acs(ts:List aB):∀(m m' k:Nat),ts.length<=k+m->ts.length<=k+m'->iD ts m k=iD ts m' k
 |0,0,_,_,_=>rfl
 |0,m'+1,k,h,_=>by rw[iD,iD,Zc2 (by omega)]
 |m+1,0,k,_,h=>by rw[iD,iD,Zc2 (by omega)]
 |m+1,m'+1,k,h,h'=>by
  rw[iD,iD,acs ts m m' (k+1) (by omega) (by omega)]
theorem acu(ts:List aB):∀(m k:Nat),(iD ts m k).2=0->(iD ts m k).1=0
 |0,_,_=>rfl
 |m +   1,k,h=>by
  rw[iD]at h ⊢;split at h
  .rfl
  . split at h
    .   rename_i cN;exact absurd h cN
    .   split at h
        .simp at h
        .rename_i h1 h2;rw[Za6 h1,Za6 h2];exact acu ts m (k+1) h
theorem ahM(hc:Sem c)(x t:aB)(p:Pos)(st:St)(hw:Wf st)(hp:st.heap.get p=some (.cells t.cells 0)):c 160 [.agg x.cells,.ptr p 0] st=some (.bool (decide (x.name=t.name)),st):=by
 rw[UM hc 1 (r:=(.bool (decide (x.name=t.name)),ah st (.cells x.cells 0))),aF (Plain.bool _) (cq hw)];rw[Y0];have:(ah st (.cells x.cells 0)).heap.get p=some (.cells t.cells 0):=cq hw _ _ hp;simp[this]
theorem aqx(hc:Sem c)(x:aB)(s:List Nat)(p:Pos)(st:St)(hw:Wf st)(hp:st.heap.get p=some (.cells [.str s] 0)):c 178 [.agg x.cells,.ptr p 0] st=some (.bool (decide (x.name=s)),st):=by
 rw[acv hc 1 (r:=(.bool (decide (x.name=s)),ah st (.cells x.cells 0))),aF (Plain.bool _) (cq hw)];rw[afp];have:(ah st (.cells x.cells 0)).heap.get p=some (.cells [.str s] 0):=cq hw _ _ hp;simp[this]
theorem anZ(z:Bool)(rs:List (List AV))(hl:rs.length<wD)(dW:∀cs∈rs,cs.length=7)(g:Nat)(v:List AV)(P:Nat->Bool)(st:St)(F:Nat)(k1 k2)
  (hP:∀i (h:i<rs.length),c g (.agg rs[i]::v) st=some (.bool (P i),st)):∀(m k:Nat),rs.length<=k+m->k<=rs.length->
  cS c F k1 k2 (m+1) [ro 7 z rs,.func g [] v,.int .i64 (rs.length:Int),.int .i64 (k:Int)] st=if 0<=scan P (rs.length - k) k then k1 [.int .i64 (scan P (rs.length - k) k)] st else k2 [] st:=by
 intro m;induction m with
 |zero=>
  intro k h1 h2;obtain rfl:k=rs.length:=by omega
  rw[mq];simp[scan]
 |succ m ih=>
  intro k h1 h2;rw[mq];by_cases h:k<rs.length
  . have e:rs.length - k=(rs.length - (k+1))+1:=(by omega);have w:ax .i64 ((k:Int)+1)=((k+1:Nat):Int):=wrap64 (by omega) (by unfold wD at hl;omega);have hcut:cut rs[k] 0 7=some rs[k]:=cQ (dW _ (Zb8 h));have hp:=hP k h;rw[e,scan];cases hb:P k
    .   simp only[Zf4,Zh0];rw[<-ih (k+1) (by omega) (by omega)];simp[h,hcut,hp,hb,w]
    .   simp[h,hcut,hp,hb]
  .obtain rfl:k=rs.length:=(by omega);simp[scan]
theorem aj9(hc:Sem c)(z:Bool)(rs:List (List AV))(hl:rs.length<wD)(dW:∀cs∈rs,cs.length=7)(g:Nat)(v:List AV)(P:Nat->Bool)(st:St)
   (hP:∀i (h:i<rs.length),c g (.agg rs[i]::v) st=some (.bool (P i),st)):c 177 [ro 7 z rs,.func g [] v] st=some (.int .i64 (scan P rs.length 0),st):=by
 rw[vG hc (rs.length+1) (r:=(.int .i64 (scan P rs.length 0),st)),aF (Plain.int _ _) (aX.refl st)];rw[w9];have L:∀k1 k2,cS c (rs.length+1) k1 k2 (rs.length+1) [ro 7 z rs,.func g [] v,.int .i64 (rs.length:Int),.int .i64 0] st=if 0<=scan P (rs.length - 0) 0 then k1 [.int .i64 (scan P (rs.length - 0) 0)] st else k2 [] st:=
   λk1 k2=>anZ z rs hl dW g v P st _ k1 k2 hP rs.length 0 (by omega) (by omega)
 rw[Zr4]at L;by_cases h:0<=scan P rs.length 0
 .simp[L,h]
 .have:=(adN P rs.length 0).2 (by omega);simp[L,this]
theorem ahN(hc:Sem c)(z:Bool)(rs:List (List AV))(hl:rs.length<wD)(dW:∀cs∈rs,cs.length=7)(g:Nat)(v:List AV)(P:Nat->Bool)(st:St)
  (hP:∀i (h:i<rs.length),c g (.agg rs[i]::v) st=some (.bool (P i),st)):c 159 [ro 7 z rs,.func g [] v] st=some (.bool (decide (0<=scan P rs.length 0)),st):=by
 rw[tY hc 1 (r:=(.bool (decide (0<=scan P rs.length 0)),st)),aF (Plain.bool _) (aX.refl st)];rw[uV];simp[aj9 hc z rs hl dW g v P st hP]
theorem afq(hc:Sem c)(z:Bool)(ts:List aB)(cw:∀t∈ts,t.Ok)(hl:ts.length<=16)(F:Nat)(k1 k2):∀(m k:Nat)(st:St),Wf st->ts.length<=k+m->k<=ts.length->
  ∃st',Grew st st'/\qE c F k1 k2 (m+1) [tabs z ts,tabs z ts,.int .i64 (ts.length:Int),.int .i64 (k:Int)] st=if(iD ts m k).2=0 then k2 [] st' else k1 [.int .i64 (iD ts m k).1,.int .i64 (iD ts m k).2] st':=by
 intro m;induction m with
 |zero=>
  intro k st hw h1 h2;obtain rfl:k=ts.length:=by omega
  refine⟨st,Grew.refl hw,?_⟩;rw[yI];simp[iD,tabs]
 |succ m ih=>
  intro k st hw h1 h2;by_cases h:k<ts.length
  . have w:ax .i64 ((k:Int)+1)=((k+1:Nat):Int):=wrap64 (by omega) (by omega);have cO:Wf (ah st (.cells ts[k].cells 0)):=bF hw;have hg:=Grew.ah hw (.cells ts[k].cells 0);have hch:=aqw hc ts[k] (cw _ (Zb8 h)) _ cO;have hco:=ahN hc (z&&(ts.map aB.cells).isEmpty) ((ts.map aB.cells).take k) (by simp[wD];omega) (λcs eW=>by
          have:=List.mem_of_mem_take eW;simp only[Zc6]at this;obtain⟨t,_,rfl⟩:=this;rfl) 160 [.ptr st.next 0] (uF ts ts[k].name) (ah st (.cells ts[k].cells 0)) (λi hi=>by
          have sN:i<k:=(by simp at hi;omega);have hi3:i<ts.length:=(by omega);have:=ahM hc ts[i] ts[k] st.next (ah st (.cells ts[k].cells 0)) cO (aA _ _);simp only[Zo7,Zn0];rw[this];simp[uF,hi3])
    have hlen:((ts.map aB.cells).take k).length=k:=(by simp;omega);rw[hlen]at hco;rw[yI,iD,H0 h];simp only;by_cases h3:rM ts[k]=0
    .   by_cases h4:0<=scan (uF ts ts[k].name) k 0
        .refine⟨_,hg,?_⟩;have tS:k<=ts.length:=(by omega);simp only[tabs,Zr2]at hco ⊢;simp[h,hch,h3,h4,tS,hco,aB.len]
        .obtain⟨st',g1,g2⟩:=ih (k+1) _ cO (by omega) (by omega);refine⟨st',hg.trans g1,?_⟩;have tS:k<=ts.length:=(by omega);have e3:¬rM ts[k]≠0:=(by rw[h3];simp);simp only[e3,h4,Zh0];rw[<-g2];simp only[tabs,Zr2]at hco ⊢;simp[h,hch,h3,h4,tS,hco,w,aB.len]
    .   refine⟨_,hg,?_⟩;simp[tabs,h,hch,h3,aB.len]
  .obtain rfl:k=ts.length:=(by omega);refine⟨st,Grew.refl hw,?_⟩;rw[yI];simp[iD,tabs]
theorem ZN(hc:Sem c)(z:Bool)(ts:List aB)(cw:∀t∈ts,t.Ok)(st:St)(hw:Wf st):c 88 [tabs z ts] st=some (.tuple [.int .i64 (bR ts).1,.int .i64 (bR ts).2],st):=by
 have zx:Plain (.tuple [.int .i64 (bR ts).1,.int .i64 (bR ts).2]):=Plain.tuple (by simp[Plain.int]);by_cases h:16<ts.length
 .rw[IB hc 20 (r:=(.tuple [.int .i64 (bR ts).1,.int .i64 (bR ts).2],st)),aF zx (aX.refl st)];rw[Nf];have hi:(16:Int)<ts.length:=(by omega);simp[tabs,bR,h,hi]
 . have hi:¬(16:Int)<ts.length:=(by omega);have e:bR ts=iD ts 19 0:=(by rw[bR,Za6 h];exact acs ts _ _ 0 (by omega) (by omega));have hex:=λk1 k2=>afq hc z ts cw (by omega) 20 k1 k2 19 0 st hw (by omega) (by omega)
   obtain⟨st',hg,L⟩:=hex (λvs s36=>gV vs λx2 vs=>gV vs λx3 vs=>mo vs (some (.tuple [x2,x3],s36))) (λvs s37=>mo vs (
     aq c .move [(.int .i64 0)] s37 λx2 s38=>aq c .move [(.int .i64 0)] s38 λx3 s39=>some (.tuple [x2,x3],s39)))
   rw[IB hc 20 (r:=(.tuple [.int .i64 (bR ts).1,.int .i64 (bR ts).2],st')),aF zx hg.keeps];rw[Nf,e];simp only[tabs]at L;simp[tabs,hi]at L ⊢;rw[L];by_cases h2:(iD ts 19 0).2=0
   .have:=acu ts 19 0 h2;simp[h2,this]
   .simp[h2]
def aU(ts:List aB):Int:=(ts.map bw).sum
theorem om(ts:List aB):0<=aU ts/\aU ts<=1000*ts.length:=by
 induction ts with
 |nil=>simp[aU]
 |cons t ts ih=>
  have:=Av t;simp only[aU,Zd3,Zm2,Zc9]at ih ⊢;omega
theorem Sw(ts:List aB)(t:aB):aU (ts++[t])=aU ts+bw t:=by simp[aU]
def zm(ts:List aB)(t:Int):Int:=if t<0\/(ts.length:Int)<=t\/(bR ts).2≠0 then 0 else aU (ts.take t.toNat)
theorem Sx(hc:Sem c)(z:Bool)(ts:List aB)(cw:∀t∈ts,t.Ok)(st:St)(hw:Wf st):c 120 [tabs z ts] st=some (.bool (decide ((bR ts).2=0)),st):=by
 rw[adO hc 1 (r:=(.bool (decide ((bR ts).2=0)),st)),aF (Plain.bool _) (aX.refl st)];rw[ahO];simp[ZN hc z ts cw st hw]
theorem Ng{ts:List aB}(h:(bR ts).2=0):ts.length<=16:=by
 unfold bR at h;split at h
 .simp at h
 .omega
theorem alz(hc:Sem c)(z:Bool)(ts:List aB)(hl:ts.length<=16)(F:Nat)(k2):∀(m k:Nat)(st:St),Wf st->ts.length<=k+m->k<=ts.length->
  ∃st',Grew st st'/\wE c F k2 (m+1) [.int .i64 (aU (ts.take k)),tabs z ts,.int .i64 (ts.length:Int),.int .i64 (k:Int)] st=k2 [.int .i64 (aU ts)] st':=by
 intro m;induction m with
 |zero=>
  intro k st hw h1 h2;obtain rfl:k=ts.length:=by omega
  refine⟨st,Grew.refl hw,?_⟩;rw[De];simp
 |succ m ih=>
  intro k st hw h1 h2;by_cases h:k<ts.length
  . have w:ax .i64 ((k:Int)+1)=((k+1:Nat):Int):=wrap64 (by omega) (by omega);have cO:Wf (ah st (.cells ts[k].cells 0)):=bF hw;have hg:=Grew.ah hw (.cells ts[k].cells 0);have hs:=P9 hc ts[k] _ cO;have e:aU (ts.take (k+1))=aU (ts.take k)+bw ts[k]:=by
        rw[Zc7 h,Sw]
    have b1:=om (ts.take k);have b2:=Av ts[k];have b3:(ts.take k).length<=16:=(by simp;omega);have w2:ax .i64 (aU (ts.take k)+bw ts[k])=aU (ts.take (k+1)):=(by rw[e];exact wrap64 (by omega) (by omega));obtain⟨st',g1,g2⟩:=ih (k+1) _ cO (by omega) (by omega);refine⟨st',hg.trans g1,?_⟩;rw[<-g2,De];simp[tabs,h,hs,w,w2,aB.len]
  .obtain rfl:k=ts.length:=(by omega);refine⟨st,Grew.refl hw,?_⟩;rw[De];simp
theorem ahP(hc:Sem c)(z:Bool)(ts:List aB)(cw:∀t∈ts,t.Ok)(k:Int)(st:St)(hw:Wf st):c 58 [tabs z ts,.int .i64 k] st=some (.int .i64 (zm ts k),st):=by
 have lT:∀(K:AV->St->Option (AV×St))(s:St),aq c (.lenB .l) [tabs z ts] s K=K (.int .i64 (ts.length:Int)) s:=λK s=>by unfold tabs;rw[jv];simp
 have hv:=Sx hc z ts cw st hw;by_cases h:k<0\/(ts.length:Int)<=k\/(bR ts).2≠0
 . have e:zm ts k=0:=(by rw[zm,Zb4 h]);rw[Qc hc 1 (r:=(.int .i64 (zm ts k),st)),aF (Plain.int _ _) (aX.refl st)];rw[WT,e];by_cases h1:k<0
   .simp[h1]
   . by_cases h2:(ts.length:Int)<=k
     .  simp[h1,h2,lT]
     .  have h3:(bR ts).2≠0:=h.resolve_left h1 |>.resolve_left h2;simp[h1,h2,h3,lT,hv]
 . have e:zm ts k=aU (ts.take k.toNat):=(by rw[zm,Za6 h]);have h1:¬k<0:=λe=>h (.inl e)
   have h2:¬(ts.length:Int)<=k:=λe=>h (.inr (.inl e))
   have h3:(bR ts).2=0:=Zl5 λe=>h (.inr (.inr e))
   have hl:=Ng h3;obtain⟨n,rfl⟩:∃n:Nat,k=(n:Int):=⟨k.toNat,by omega⟩
   have hn:n<=ts.length:=(by omega);have hex:=λk2=>alz hc (z&&ts.isEmpty) (ts.take n) (by simp;omega) 20 k2 19 0 st hw (by simp;omega) (by omega)
   obtain⟨st',hg,L⟩:=hex (λvs s33=>gV vs λx5 vs=>mo vs (aq c .move [x5] s33 λx34 s34=>aq c .move [x34] s34 λx4 s35=>some (x4,s35)));rw[Qc hc 20 (r:=(.int .i64 (zm ts (n:Int)),st')),aF (Plain.int _ _) hg.keeps];rw[WT,e];have h4:¬ts.length<=n:=(by omega);have hm:min n ts.length=n:=(by omega);simp[tabs,aU,hm]at L;simp[h1,h4,h3,lT,hv];simp[tabs,hn,hm,aU,L]
theorem ai9(hc:Sem c)(z:Bool)(ts:List aB)(hl:ts.length<=16)(st:St)(hw:Wf st):c 122 [tabs z ts] st=some (.int .i64 (if h:0<ts.length then bw (ts[ts.length - 1]'(by omega))else 0),st):=by
 rw[Y3 hc 1 (r:=(.int .i64 (if h:0<ts.length then bw (ts[ts.length - 1]'(by omega))else 0),st)),aF (Plain.int _ _) (aX.refl st)];rw[acw];by_cases h:0<ts.length
 . have h1:¬(ts.length:Int)=0:=(by omega);have h2:ts≠[]:=λe=>by subst e;simp at h
   have w:ax .i64 ((ts.length:Int) - 1)=((ts.length - 1:Nat):Int):=(by rw[wrap64 (by omega) (by omega)];omega);have h3:ts.length - 1<ts.length:=(by omega);have hs:=P9 hc (ts[ts.length - 1]'(by omega)) st hw;simp[tabs,h,h1,h2,w,h3,hs]
 .have h1:ts=[]:=Zc0 (by omega);subst h1;simp[tabs]
theorem an0{ts:List aB}(hv:(bR ts).2=0):zm ts ((ts.length:Int) - 1)+(if h:0<ts.length then bw (ts[ts.length - 1]'(by omega))else 0)=aU ts:=by
 by_cases h:0<ts.length
 .rw[dif_pos h,zm,Za6 (by simp[hv];omega)];have e:((ts.length:Int) - 1).toNat=ts.length - 1:=(by omega);rw[e, <-Sw, <-Zc7 (by omega)];rw[show ts.length - 1+1=ts.length by omega,Zh7]
 .have h1:ts=[]:=Zc0 (by omega);subst h1;simp[zm,aU]
theorem FH(hc:Sem c)(z:Bool)(ts:List aB)(cw:∀t∈ts,t.Ok)(st:St)(hw:Wf st):c 59 [tabs z ts] st=some (.int .i64 (if(bR ts).2=0 then aU ts else 0),st):=by
 rw[adP hc 1 (r:=(.int .i64 (if(bR ts).2=0 then aU ts else 0),st)),aF (Plain.int _ _) (aX.refl st)];rw[ahQ];have lT:∀(K:AV->St->Option (AV×St))(s:St),aq c (.lenB .l) [tabs z ts] s K=K (.int .i64 (ts.length:Int)) s:=λK s=>by unfold tabs;rw[jv];simp
 have hv:=Sx hc z ts cw st hw;by_cases h:(bR ts).2=0
 .have hl:=Ng h;have w:ax .i64 ((ts.length:Int) - 1)=(ts.length:Int) - 1:=wrap64 (by omega) (by omega);have hf:=ahP hc z ts cw ((ts.length:Int) - 1) st hw;have hla:=ai9 hc z ts hl st hw;have b:=om ts;have e:=an0 h;rw[Zb4 h, <-e];rw[<-e]at b;generalize zm ts ((ts.length:Int) - 1)=x at hf b ⊢;generalize (if h:0<ts.length then bw (ts[ts.length - 1]'(by omega))else 0)=y at hla b ⊢;have w2:ax .i64 (x+y)=x+y:=wrap64 (by omega) (by omega);simp[hv,h,lT,w,hf,hla,w2]
 .simp[hv,h]
theorem asV(hc:Sem c)(z:Bool)(ts:List aB)(cw:∀t∈ts,t.Ok)(hl:ts.length<wD)(s:List Nat)(st:St)(hw:Wf st):c 111 [tabs z ts,.str s] st=
   some (.tuple [.int .i64 (if 0<=scan (uF ts s) ts.length 0/\(bR ts).2=0 then scan (uF ts s) ts.length 0 else 0),.bool (decide (0<=scan (uF ts s) ts.length 0/\(bR ts).2=0))],st):=by
 rw[afr hc 1 (r:=(.tuple [.int .i64 (if 0<=scan (uF ts s) ts.length 0/\(bR ts).2=0 then scan (uF ts s) ts.length 0 else 0),.bool (decide (0<=scan (uF ts s) ts.length 0/\(bR ts).2=0))],ah st (.cells [.str s] 0))),
   aF (Plain.tuple (by simp[Plain.int,Plain.bool])) (cq hw)]
 rw[aja];have cO:Wf (ah st (.cells [.str s] 0)):=bF hw;have hi:=aj9 hc z (ts.map aB.cells) (by simpa using hl) (λcs eW=>by
     simp only[Zc6]at eW;obtain⟨t,_,rfl⟩:=eW;rfl) 178 [.ptr st.next 0] (uF ts s) (ah st (.cells [.str s] 0)) (λi hi=>by
     have hi3:i<ts.length:=(by simpa using hi);have:=aqx hc ts[i] s st.next (ah st (.cells [.str s] 0)) cO (aA _ _);simp only[Zn0];rw[this];simp[uF,hi3])
 rw[Za5]at hi;have hv:=Sx hc z ts cw _ cO;simp only[tabs]at hv ⊢;have e:(AV.str s).cells=[.str s]:=rfl;by_cases h1:0<=scan (uF ts s) ts.length 0
 . have h2:¬scan (uF ts s) ts.length 0<0:=(by omega);by_cases h3:(bR ts).2=0
   .simp[e,hi,h1,h2,h3,hv]
   .simp[e,hi,h1,h2,h3,hv]
 .have h2:scan (uF ts s) ts.length 0<0:=(by omega);simp[e,hi,h1,h2]
structure aR where
 name:List Nat
 zQ:List Nat
 kj:List Nat
 since:Int
 side:Int
 nD:List Nat
 host:Bool
 access:Bool
 tz:Bool
 tg:List (List Nat)
def kY(z:Bool)(l:List (List Nat)):AV:=ro 1 z (l.map λs=>[.str s])
def aR.cells(g:aR):List AV:=[.str g.name,.str g.zQ,.str g.kj,.int .i64 g.since,.int .i64 g.side,.str g.nD,.bool g.host,.bool g.access,kY g.tz g.tg]
@[simp] theorem ahR(z:Bool)(l:List (List Nat)):(kY z l).one=true:=amY _ _ _
@[simp] theorem avI{R:Type}(c:aj)(K:AV->St->Option R)(st:St)(z:Bool)(l:List (List Nat)):aq c (.lenB .l) [kY z l] st K=K (.int .i64 (l.length:Int)) st:=by unfold kY;rw[jv];simp
@[simp] theorem avJ{R:Type}(c:aj)(K:AV->St->Option R)(st:St)(z:Bool)(l:List Int):aq c (.lenB .l) [ints z l] st K=K (.int .i64 (l.length:Int)) st:=by unfold ints;rw[jv];simp
@[simp] theorem aR.c0(t:aR):t.cells[0]? =some (.str t.name):=id rfl
@[simp] theorem aR.c1(t:aR):t.cells[1]? =some (.str t.zQ):=id rfl
@[simp] theorem aR.c2(t:aR):t.cells[2]? =some (.str t.kj):=id rfl
@[simp] theorem aR.c3(t:aR):t.cells[3]? =some (.int .i64 t.since):=id rfl
@[simp] theorem aR.c4(t:aR):t.cells[4]? =some (.int .i64 t.side):=id rfl
@[simp] theorem aR.c5(t:aR):t.cells[5]? =some (.str t.nD):=id rfl
@[simp] theorem aR.c6(t:aR):t.cells[6]? =some (.bool t.host):=id rfl
@[simp] theorem aR.c7(t:aR):t.cells[7]? =some (.bool t.access):=id rfl
@[simp] theorem aR.c8(t:aR):t.cells[8]? =some (kY t.tz t.tg):=id rfl
@[simp] theorem aR.cc(t:aR):cut t.cells 0 9=some t.cells:=cQ rfl
@[simp] theorem aR.one(t:aR):aN t.cells=true:=by unfold aR.cells;simp only[aN,ahR];rfl
def dm(z:Bool)(gs:List aR):AV:=ro 9 z (gs.map aR.cells)
@[simp] theorem aqy{R:Type}(c:aj)(K:AV->St->Option R)(st:St)(z:Bool)(l:List aR):aq c (.lenB .l) [dm z l] st K=K (.int .i64 (l.length:Int)) st:=by unfold dm;rw[jv];simp
def aft(last:Option (List Nat))(s:List Nat):Bool:=match last with
 |none=>true
 |some p=>aO p s
@[simp] theorem aqz(s:List Nat):aft none s=true:=id rfl
@[simp] theorem aqA(p s:List Nat):aft (some p) s=aO p s:=id rfl
def Qd(last:Option (List Nat)):List (List Nat)->Bool
 |[]=>true
 |s::l=>oD s&&aft last s&&Qd (some s) l
theorem aqB(last:Option (List Nat))(s:List Nat)(l:List (List Nat)):Qd last (s::l)=(oD s&&aft last s&&Qd (some s) l):=rfl
def jO(g:aR):Int:=
 if(oD g.name&&zE g.zQ&&zE g.kj&&zE g.nD)=false then 4 else if ¬(0<=g.since/\g.since<=9999)then 21 else if ¬(0<=g.side/\g.side<=2)then 20
 else if 4<g.tg.length then 22 else if Qd none g.tg=false then 22 else 0
theorem FJ:∀(a:List Nat),aO a a=false
 |[]=>rfl
 |x::a=>by
  unfold aO;simp[JZ,cK,FJ a]
theorem WU:∀(a b:List Nat),aO a b=true->aO b a=false
 |[],[],h=>by simp[aO]at h
 |[],_::_,_=>rfl
 |_::_,[],h=>by simp[aO]at h
 |x ::a,y::b,h=>by
  unfold aO at h ⊢;simp only[JZ,cK]at h ⊢;by_cases h1:x<y
  .have:¬y<x:=(by omega);have h3:¬y=x:=(by omega);simp[this,h3]
  . by_cases h2:x=y
    .subst h2;simp at h ⊢; exact WU a b h
    .simp[h1,h2]at h
theorem Kc:∀(a b:List Nat),aO a b=false->aO b a=false->a=b
 |[],[],_,_=>rfl
 |[],_::_,h,_=>by simp[aO]at h
 |_::_,[],_,h=>by simp[aO]at h
 |x ::a,y::b,h,k=>by
  unfold aO at h k;simp only[JZ,cK]at h k;by_cases h1:x<y
  .simp[h1]at h
  . by_cases h2:y<x
    .   simp[h2]at k
    .   have:x=y:=(by omega);subst this;simp at h k;rw[Kc a b h k]
theorem Sy:∀(a b d:List Nat),aO a b=true->aO b d=true->aO a d=true
 |_,[],[],_,h=>by simp[aO]at h
 |_,_::_,[],_,h=>by simp[aO]at h
 |[],_,_::_,_,_=>rfl
 |_::_,[],_::_,h,_=>by simp[aO]at h
 |x ::a   ,y::b,z::d,h,k=>by
  unfold aO at h k ⊢;simp only[JZ,cK]at h k ⊢;by_cases h1:x<y
  . by_cases h2:y<z
    .   have:x<z:=(by omega);simp[this]
    .   by_cases h3:y=z
        .subst h3;simp[h1]
        .simp[h2,h3]at k
  . by_cases h2:x=y
    .   subst h2;simp at h;by_cases h4:x<z
        .simp[h4]
        . by_cases h5:x=z
          .subst h5;simp at k ⊢; exact Sy a b d h k
          .simp[h4,h5]at k
    .   simp[h1,h2]at h
theorem aa7(hc:Sem c)(p:Pos)(g:aR)(hl:g.tg.length<=4)(F:Nat)(st:St)(hp:st.heap.get p=some (.cells g.cells 0))(k1 k3):∀(m k:Nat),g.tg.length<=k+m->k<=g.tg.length->
  qk c F k1 k3 (m+1) [.ptr p 0,kY g.tz g.tg,.int .i64 (g.tg.length:Int),.int .i64 (k:Int)] st=if Qd (if k=0 then none else g.tg[k - 1]?) (g.tg.drop k)=true then k3 [] st else k1 [.int .i64 22] st:=by
 intro m;induction m with
 |zero=>
  intro k h1 h2;rw[Lq];obtain rfl:k=g.tg.length:=by omega
  simp[Qd]
 |succ m ih=>
  intro k h1 h2;rw[Lq];by_cases h:k<g.tg.length
  . have e:g.tg.drop k=g.tg[k]::g.tg.drop (k+1):=Ze2 h;have w:ax .i64 ((k:Int)+1)=((k+1:Nat):Int):=wrap64 (by omega) (by omega);have hn:=Ie hc g.tg[k] st;have:=ih (k+1) (by omega) (by omega);have e2:(if k+1=0 then none else g.tg[k+1 - 1]?)=some g.tg[k]:=(by rw[Za6 (by omega),Zh5,H0 h]);rw[e2]at this;rw[e,aqB];generalize Qd (some g.tg[k]) (g.tg.drop (k+1))=rest at this ⊢;by_cases h3:oD g.tg[k]=true
    .   by_cases h0:k=0
        .have hk:¬0<k:=(by omega);simp only[h3,Zb4 h0,Zg5,aqz];rw[<-this];simp[kY,h,hn,h3,hk,w]
        . have hk:0<k:=(by omega);have Aw:k - 1<g.tg.length:=(by omega);have wk:ax .i64 ((k:Int) - 1)=((k - 1:Nat):Int):=(by rw[wrap64 (by omega) (by omega)];omega);simp only[h3,Za6 h0,H0 Aw,Zg5,aqA];cases hb:aO g.tg[k - 1] g.tg[k]
          .simp[kY,h,hn,h3,hk,Aw,wk,hp,hb]
          .simp only[Zg5];rw[<-this];simp[kY,h,hn,h3,hk,Aw,wk,hp,hb,w]
    .   simp[kY,h,hn,h3]
  .obtain rfl:k=g.tg.length:=(by omega);simp[Qd]
theorem adQ(hc:Sem c)(g:aR)(st:St)(hw:Wf st):c 182 [.agg g.cells] st=some (.int .i64 (jO g),st):=by
 rw[acy hc 6 (r:=(.int .i64 (jO g),ah st (.cells g.cells 0))),aF (Plain.int _ _) (cq hw)];rw[afs];have n0:=Ie hc g.name;have n1:=Ig hc g.zQ;have n2:=Ig hc g.kj;have n5:=Ig hc g.nD;by_cases hn:(oD g.name&&zE g.zQ&&zE g.kj&&zE g.nD)=true
 . have GF:=hn;simp only[Zb2]at GF;obtain⟨⟨⟨b0,b1⟩,b2⟩,b5⟩:=GF;unfold jO;rw[hn];by_cases h1:g.since<0
   .have:¬(0<=g.since/\g.since<=9999):=(by omega);simp[n0,n1,n2,n5,b0,b1,b2,b5,h1,this]
   by_cases h2:9999<g.since
   .have:¬(0<=g.since/\g.since<=9999):=(by omega);simp[n0,n1,n2,n5,b0,b1,b2,b5,h1,h2,this]
   have h3:0<=g.since/\g.since<=9999:=(by omega);by_cases h4:g.side<0
   .have:¬(0<=g.side/\g.side<=2):=(by omega);simp[n0,n1,n2,n5,b0,b1,b2,b5,h1,h2,h3,h4,this]
   by_cases h5:2<g.side
   .have:¬(0<=g.side/\g.side<=2):=(by omega);simp[n0,n1,n2,n5,b0,b1,b2,b5,h1,h2,h3,h4,h5,this]
   have h6:0<=g.side/\g.side<=2:=(by omega);by_cases h7:4<g.tg.length
   .have h8:(4:Int)<g.tg.length:=(by omega);simp[n0,n1,n2,n5,b0,b1,b2,b5,h1,h2,h3,h4,h5,h6,h7,h8]
   . have h8:¬(4:Int)<g.tg.length:=(by omega);have L:∀k1 k3,qk c 6 k1 k3 6 [.ptr st.next 0,kY g.tz g.tg,.int .i64 (g.tg.length:Int),.int .i64 0] (ah st (.cells g.cells 0))=if Qd none (g.tg.drop 0)=true then k3 [] (ah st (.cells g.cells 0))else k1 [.int .i64 22] (ah st (.cells g.cells 0)):=
        λk1 k3=>aa7 hc st.next g (by omega) 6 _ (aA _ _) k1 k3 5 0 (by omega) (by omega)
     rw[Ze6]at L;generalize Qd none g.tg=b at L ⊢;cases b<;>simp[n0,n1,n2,n5,b0,b1,b2,b5,h1,h2,h3,h4,h5,h6,h7,h8,L]
 . have hn':(oD g.name&&zE g.zQ&&zE g.kj&&zE g.nD)=false:=(by simpa using hn);have hx:jO g=4:=(by unfold jO;rw[hn'];simp);rw[hx];cases b0:oD g.name
   .simp[n0,b0]
   . cases b1:zE g.zQ
     .  simp[n0,n1,b0,b1]
     .  cases b2:zE g.kj
        .simp[n0,n1,n2,b0,b1,b2]
        . cases b5:zE g.nD
          .simp[n0,n1,n2,n5,b0,b1,b2,b5]
          .simp[b0,b1,b2,b5]at hn
structure Ty where
 a:List Nat
 b:List Nat
 k:Int
def Ty.cells(t:Ty):List AV:=[.str t.a,.str t.b,.int .u8 t.k]
@[simp] theorem Ty.c0(t:Ty):t.cells[0]? =some (.str t.a):=id rfl
@[simp] theorem Ty.c1(t:Ty):t.cells[1]? =some (.str t.b):=id rfl
@[simp] theorem Ty.c2(t:Ty):t.cells[2]? =some (.int .u8 t.k):=id rfl
@[simp] theorem Ty.cc(t:Ty):cut t.cells 0 3=some t.cells:=cQ rfl
theorem Ty.len(t:Ty):t.cells.length=3:=id rfl
@[simp] theorem Ty.one(t:Ty):aN t.cells=true:=id rfl
@[simp] theorem auL{R:Type}(c:aj)(K:AV->St->Option R)(st:St)(t:Ty)(x y z:AV):aq c (.store 3) [.ptr st.next 0,.agg t.cells] (ah st (.cells [x,y,z] 0)) K=K .undef (ah st (.cells t.cells 0)):=cG c K st 3 (.agg t.cells) [x,y,z] rfl rfl t.one
def gL(z:Bool)(ts:List Ty):AV:=ro 3 z (ts.map Ty.cells)
@[simp] theorem aqC{R:Type}(c:aj)(K:AV->St->Option R)(st:St)(z:Bool)(l:List Ty):aq c (.lenB .l) [gL z l] st K=K (.int .i64 (l.length:Int)) st:=by unfold gL;rw[jv];simp
def nP(gs:List aR)(s:List Nat)(i:Nat):Bool:=decide (gs[i]?.map aR.name=some s)
def fE(s t:Ty):Bool:=aO s.a t.a||(decide (s.a=t.a)&&aO s.b t.b)
def Df(a b:List Nat):Int:=if aO a b=true then -1 else if aO b a=true then 1 else 0
theorem auf(hc:Sem c)(a b:List Nat)(st:St):c 246 [.str a,.str b] st=some (.int .i64 (Df a b),st):=by unfold Sem at hc;subst hc;refine abS (s:=Fu) (by rfl) ?_;show some (AV.int .i64 (match aO a b with|true=>.negSucc 0|false=>match aO b a with|true=>.ofNat 1|false=>.ofNat 0),st)=_;unfold Df;generalize aO a b=p;generalize aO b a=q;cases p<;>cases q<;>rfl
theorem aa8(hc:Sem c)(a b:List Nat)(st:St):c 227 [.str a,.str b] st=some (.int .i64 (Df a b),st):=by
 rw[Ke hc 1 (r:=(.int .i64 (Df a b),st)),aF (Plain.int _ _) (aX.refl st)];rw[MA];simp[auf hc]
theorem acz(hc:Sem c)(a b:List Nat)(st:St):c 184 [.str a,.str b] st=some (.int .i64 (Df a b),st):=by
 rw[UN hc 1 (r:=(.int .i64 (Df a b),st)),aF (Plain.int _ _) (aX.refl st)];rw[Y4];simp[aa8 hc]
theorem aka{a b:List Nat}:Df a b=0↔a=b:=by
 unfold Df;cases h1:aO a b
 . cases h2:aO b a
   .simp;exact Kc _ _ h1 h2
   .simp;intro e;subst e;rw[FJ]at h2;cases h2
 .simp;intro e;subst e;rw[FJ]at h1;cases h1
def uG(s t:Ty):Int:=if s.a=t.a then Df s.b t.b else Df s.a t.a
theorem Lr(hc:Sem c)(s t:Ty)(st:St)(hw:Wf st):c 130 [.agg s.cells,.agg t.cells] st=some (.int .i64 (uG s t),st):=by
 rw[acA hc 1 (r:=(.int .i64 (uG s t),ah (ah st (.cells s.cells 0)) (.cells t.cells 0))),aF (Plain.int _ _) ((cq hw).trans (cq (bF hw)))];rw[afu];by_cases h:s.a=t.a
 .have:Df t.a t.a=0:=aka.2 rfl;simp[uG,acz hc,h,this]
 . have:¬Df s.a t.a=0:=λe=>h (aka.1 e)
   simp[uG,acz hc,h,this]
theorem adR{s t:Ty}:uG s t<0↔fE s t=true:=by
 unfold uG fE Df;by_cases h:s.a=t.a
 .simp only[h,FJ,Zh1];cases aO s.b t.b<;>cases aO t.b s.b<;>simp
 .simp only[h,Zh0];cases aO s.a t.a<;>cases aO t.a s.a<;>simp
theorem Yu{s t:Ty}:0<uG s t↔fE t s=true:=by
 unfold uG fE Df;by_cases h:s.a=t.a
 . simp only[h,FJ,Zh1];cases h1:aO s.b t.b
   .cases aO t.b s.b<;>simp
   .simp[WU _ _ h1]
 . have h':¬t.a=s.a:=λe=>h e.symm
   simp only[h,h',Zh0];cases h1:aO s.a t.a
   .cases aO t.a s.a<;>simp
   .simp[WU _ _ h1]
theorem akb(hc:Sem c)(a b:List Nat)(k:Int)(aV:aO a b=true)(st:St)(hw:Wf st):c 186 [.str a,.str b,.int .u8 k] st=some (.agg (Ty.cells ⟨a,b,k⟩),st):=by
 rw[Qe hc 1 (r:=(.agg (Ty.cells ⟨a,b,k⟩),ah st (.cells (Ty.cells ⟨a,b,k⟩) 0))),aF (Plain.agg (by simp[Ty.cells,Plain.str,Plain.int])) (cq hw)];rw[WV];have m1:∀(K:AV->St->Option (AV×St))(s:St),aq c .minB [.str a,.str b] s K=K (.str a) s:=λK s=>aS c K (λH n=>by simp[aE.run,Kj,aV]) s
 have m2:∀(K:AV->St->Option (AV×St))(s:St),aq c .maxB [.str a,.str b] s K=K (.str b) s:=λK s=>aS c K (λH n=>by simp[aE.run,Kk,aV]) s
 simp[m1,m2,cF,aQ,cM,AV.cells,aN,AV.one,cQ,Ty.cells]
def oI(gs:List aR):Nat->Nat->Int×Int
 |0,_=>(0,0)
 |  m+1,k=>match gs[k]? with
    |none=>(0,0)
    |some g=>if jO g≠0 then((k:Int),jO g)else if 0<=scan (nP gs g.name) k 0 then((k:Int),5)else if 64<=k then((k:Int),7)else oI gs m (k+1)
def pg(ts:List Ty)(k:Nat):Option Ty:=if k=0 then none else ts[k - 1]?
def ZO(t:Ty):Bool:=decide (t.k=1)||decide (t.k=2)
def afZ(t:Ty)(p:Option Ty):Bool:= !ZO t|| !aO t.a t.b||(match p with|none=>false|some p=>fE t p)
def vH(t:Ty)(p:Option Ty):Bool:=match p with|none=>false|some p=> !fE p t
def qW(gs:List aR)(t:Ty):Bool:=decide (scan (nP gs t.a) gs.length 0<0)||decide (scan (nP gs t.b) gs.length 0<0)
def jP(gs:List aR)(ts:List Ty):Nat->Nat->Int×Int
 |0,_=>(0,0)
 |  m+1,k=>match ts[k]? with
    |none=>(0,0)
    |some t=>if afZ t (pg ts k)=true then((gs.length:Int)+k,23)else if qW gs t=true then((gs.length:Int)+k,6)
     else if vH t (pg ts k)=true then((gs.length:Int)+k,5)else if 256<=k then((gs.length:Int)+k,7)else jP gs ts m (k+1)
def dU(gs:List aR)(ts:List Ty):Int×Int:=if(oI gs 101 0).2≠0 then oI gs 101 0 else jP gs ts 101 0
theorem aqD{gs:List aR}{s:List Nat}{k:Nat}(hk:k<=gs.length):scan (nP (gs.take k) s) k 0=scan (nP gs s) k 0:=
 acq k 0 λi _ hi=>by simp[nP,Ze3,show i<k by omega]
theorem acB (gs:List aR)(ts:List Ty):∀(m k:Nat),(jP gs ts m k).2=0->(jP gs ts m k).1=0
 |0,_,_=>rfl
 |m +   1,k , h=>by
  rw[jP]at h ⊢;split at h
  .rfl
  . split   at h
    .   simp at h
    .   split at h
        .simp at h
        . split at h
          .simp at h
          . split at h
            .simp at h
            .rename_i h1 h2 h3 h4;rw[Za6 h1,Za6 h2,Za6 h3,Za6 h4];exact acB gs ts m (k+1) h
abbrev qc(s:List Nat):List AV:=[.str s]
theorem FK(l:List (List Nat)):∀r∈l.map qc,r.length=1:=λr hr=>by simp only[Zc6]at hr;obtain⟨m,_,rfl⟩:=hr;rfl
theorem aqE{s:St}(z:Bool)(l:List (List Nat)):Src 1 s (kY z l) (l.map qc):=Src.ro z _
theorem an1(hc:Sem c){src:AV}(l:List (List Nat))(hl:l.length<=1000)(s:St)(hw:Wf s)(h:Src 1 s src (l.map qc)):∃v s',c 117 [src] s=some (v,s')/\Mk 1 s s' v (l.map qc):=by
 rcases h.nil with⟨rfl,h0⟩|hn
 . (refine⟨.af,s,?_,by rw[h0];exact Mk.start hw (Grew.refl hw)⟩;rw[jd hc 1 (r:=(.af,s)),aF Plain.af (aX.refl s)];rw[jQ];have e:∀(K:AV->St->Option (AV×St))(s:St),aq c (.bin .eql .slice) [.af,.af] s K=K (.bool true) s:=λK s=>aS c K (λH n=>rfl) s);simp[e]
 .obtain⟨v,s',a1,a2⟩:=aeC (c:=c) (R:=AV×St) (bytes:=16) (z:=[.str []]) (FK l) (by decide) (by simp;omega) (by simp;omega) s hw h;obtain⟨fI,t1,t2⟩:=a2.tidy;refine⟨v,fI,?_,t2⟩;rw[jd hc 1 (r:=(v,s')),t1];rw[jQ];simp only[az,hn,dQ];rw[a1]
def aR.av(g:aR)(v:AV):List AV:=[.str g.name,.str g.zQ,.str g.kj,.int .i64 g.since,.int .i64 g.side,.str g.nD,.bool g.host,.bool g.access,v]
theorem aR.an2(g:aR):g.av (kY g.tz g.tg)=g.cells:=rfl
theorem aR.Le(t:aR){v:AV}(h:aN [v]=true):aN (t.av v)=true:=by
 simp only[aN]at h;unfold aR.av;simp only[aN,AV.one,h,Zk6,Zj5]at*
structure aR.Low(g:aR):Prop where
 name:∀x∈g.name,x<256
 zQ:∀x∈g.zQ,x<256
 kj:∀x∈g.kj,x<256
 nD:∀x∈g.nD,x<256
theorem aeP(hc:Sem c)(g:aR)(hg:g.Low)(hl:g.tg.length<=1000){src:AV}(s:St)(hw:Wf s)(h:Src 1 s src (g.tg.map qc))(h1:src.cells=[src])(h2:src.one=true):
  ∃v s',c 183 [.agg (g.av src)] s=some (.agg (g.av v),s')/\Mk 1 s s' v (g.tg.map qc):=by
 let zero:List AV:=[.str [],.str [],.str [],.int .i64 0,.int .i64 0,.str [],.bool false,.bool false,.af]
 have sH:Wf (ah (ah s (.cells (g.av src) 0)) (.cells zero 0)):=bF (bF hw);have zA:=(Grew.ah hw (.cells (g.av src) 0)).trans (Grew.ah (bF hw) (.cells zero 0));obtain⟨v,s3,h3,M⟩:=an1 hc g.tg hl _ sH (h.ai zA);have M0:=M.back hw zA;have hx:s3.heap.get s.next=some (.cells (g.av src) 0):=M.ai.get CQ;have hy:s3.heap.get (ah s (.cells (g.av src) 0)).next=some (.cells zero 0):=M.ai.get (aA _ _);obtain⟨hvc,hvo⟩:=M.cells;have cN:s.next≠(ah s (.cells (g.av src) 0)).next:=Pos.Yj _;have alA:s.next.toNat<s3.next.toNat:=by have:=M.ai.next;rw[bN,bN,Pos.aD,Pos.aD]at this;omega
 have ak3:(ah s (.cells (g.av src) 0)).next.toNat<s3.next.toNat:=by have:=M.ai.next;rw[bN,Pos.aD]at this;omega
 have vo:v.one=true:=yA hvo;have Ao:aQ (g.av src) 8 [v]=g.av v:=rfl;have Zw:aN (g.av v)=true:=g.Le hvo;have hro0:aN (g.av src)=true:=g.Le (by simp only[aN,h2]);have new:∀b,aK v=some b->(ah s (.cells (g.av src) 0)).next.toNat<b.toNat:=λb hb=>by have:=M.new b hb;rw[bN,Pos.aD]at this;omega
 have OY:s.next.toNat<(ah s (.cells (g.av src) 0)).next.toNat:=by rw[bN,Pos.aD];omega
 let s4:=bg s3 s.next (.cells (g.av v) 0)
 let s5:=bg s4 (ah s (.cells (g.av src) 0)).next (.cells (g.av v) 0)
 have hx4:s4.heap.get s.next=some (.cells (g.av v) 0):=bG _ _ _;have hy4:s4.heap.get (ah s (.cells (g.av src) 0)).next=some (.cells zero 0):=by show(bg s3 s.next (.cells (g.av v) 0)).heap.get _=_;rw[aH cN];exact hy
 have hy5:s5.heap.get (ah s (.cells (g.av src) 0)).next=some (.cells (g.av v) 0):=bG _ _ _;have M4:Mk 1 s s4 v (g.tg.map qc):=M0.store (Za3 _) alA (λe=>by have:=new _ e;omega);have M5:Mk 1 s s5 v (g.tg.map qc):=M4.store (by omega) ak3 (λe=>by have:=new _ e;omega);have hi:∀u∈g.av v,dP u:=λu hu=>by
  simp only[aR.av,Za9,Zc3,Zf0]at hu;rcases hu with rfl|rfl|rfl|rfl|rfl|rfl|rfl|rfl|rfl
  .exact dP.str hg.name
  .exact dP.str hg.zQ
  .exact dP.str hg.kj
  .exact dP.int _ _
  .exact dP.int _ _
  .exact dP.str hg.nD
  .exact dP.bool _
  .exact dP.bool _
  .exact M.inst
 obtain⟨fI,t1,_,t2⟩:=M5.RN (l:=g.av v) (by simp[aR.av]) hi;refine⟨v,fI,?_,t2⟩;rw[aa9 hc 1 (r:=(.agg (g.av v),s5)),t1];rw[adS];have bD:=λ(K:AV->St->Option (AV×St))=>bY c K s3 1 s.next 8 v (g.av src) hx (by rw[hvc];rfl) (by simp[aR.av]) (by rw[hvc];exact hvo)
 rw[hvc,Ao]at bD;have An:=λ(K:AV->St->Option (AV×St))=>bY c K s4 9 (ah s (.cells (g.av src) 0)).next 0 (.agg (g.av v)) _ hy4 rfl (by simp[zero,aR.av]) Zw
 have hsp2:aQ zero 0 (AV.agg (g.av v)).cells=g.av v:=rfl;rw[hsp2]at An;have hcut:cut (g.av v) 0 9=some (g.av v):=cQ rfl;have g8:(g.av src)[8]? =some src:=rfl;have st2':∀(K:AV->St->Option (AV×St)),aq c (.store 9) [.ptr (ah s (.cells (g.av src) 0)).next 0,.agg (g.av v)] (bg s3 s.next (.cells (g.av v) 0)) K=K .undef s5:=λK=>An K
 have bx:∀(K:AV->St->Option (AV×St)),aq c .box [.agg (g.av src)] s K=K (.ptr s.next 0) (ah s (.cells (g.av src) 0)):=λK=>by rw[dy];rfl
 simp[bx,h3,g8,zero,bD,hcut];rw[st2'];simp only[hy5,aG,Zb1,hcut,fC]
theorem TJ(b:Pos)(off:Nat):¬Plain (.ptr b off):=λh=>by
 have:=h (λ_=>⟨0,0,0⟩) (λ_=>⟨0,0,0⟩) (b.toNat+1) 0 (λ_=>none) _ (.ptr b off (by omega));cases this with
 |ptr _ _ h=>omega
theorem aqF{s s':St}{b:Pos}{off:Nat}:tidy s (.ptr b off,s')=(.ptr b off,s'):=by unfold tidy;rw[Za6];exact λh=>TJ _ _ h.1
theorem aug(hc:Sem c)(s:St):c 128 [] s=some (.ptr (ah s (.map [] 0)).next 0,ah (ah s (.map [] 0)) (.cells [.af,.af,.map s.next] 0)):=by
 rw[afv hc 1 (r:=(.ptr (ah s (.map [] 0)).next 0,ah (ah s (.map [] 0)) (.cells [.af,.af,.map s.next] 0))),aqF];rw[ajb];simp[cF,aQ,cM,AV.cells]
def kP(k:Option Pos)(n es:Nat):AV:=match k with
 |none=>.af
 |some b=>.slice b 0 n none es
theorem Sz{k:Option Pos}{n es:Nat}(h:k=none->n=0):∀H p,aE.run H p (.lenB .l) [kP k n es]=some (.val (.int .i64 (n:Int))):=λH p=>by
 cases k with
 |none=>rw[h rfl];rfl
 |some b=>rfl
def alB(s0 s:St)(bp:Pos)(gk tk:Option Pos)(g:aR)(row:List AV):Prop:=g.Low/\g.tg.length<=4/\∃v,row=g.av v/\v.cells=[v]/\v.one=true/\QS 1 s v (g.tg.map qc)/\∀p,aK v=some p->p≠bp/\gk≠some p/\tk≠some p/\s0.heap.get p=none
theorem an3{es:Nat}{s:St}{v:AV}{rows:List (List AV)}(h:QS es s v rows){b:Pos}(hb:aK v=some b):∃cs,s.heap.get b=some (.cells cs 0):=by
 rcases h with⟨rfl,rfl⟩|⟨b',off,cap,cs,rfl,h1,_⟩|⟨b',off,rfl,rfl⟩
 .cases hb
 .obtain rfl:=sO hb;exact⟨cs,h1⟩
 .rw[lQ]at hb;cases hb
theorem alB.to{s0 s s':St}{bp:Pos}{gk tk TM uA:Option Pos}{g:aR}{row:List AV}(h:alB s0 s bp gk tk g row)
   (hk:∀p cs,p≠bp->gk≠some p->tk≠some p->s.heap.get p=some (.cells cs 0)->s'.heap.get p=some (.cells cs 0)/\TM≠some p/\uA≠some p):alB s0 s' bp TM uA g row:=by
 obtain⟨h1,h2,v,h3,h4,h5,h6,h7⟩:=h;refine⟨h1,h2,v,h3,h4,h5,h6.mono λb x hb hx=> ?_,λp hp=> ?_⟩
 .obtain⟨cs,h8⟩:=an3 h6 hb;rw[h8]at hx;cases hx;obtain⟨a1,a2,a3,_⟩:=h7 b hb;exact(hk b cs a1 a2 a3 h8).1
 .obtain⟨cs,h8⟩:=an3 h6 hp;obtain⟨a1,a2,a3,a4⟩:=h7 p hp;exact⟨a1,(hk p cs a1 a2 a3 h8).2.1,(hk p cs a1 a2 a3 h8).2.2,a4⟩
structure eD(s0 s:St)(bp mp:Pos)(gs:List aR)(ts:List Ty)(gk tk:Option Pos):Prop where
 wf:Wf s
 keeps:aX s0 s
 next:s0.next.toNat<=s.next.toNat
 book:s.heap.get bp=some (.cells [kP gk gs.length 9,kP tk ts.length 3,.map mp] 0)
 zR:∃es cl,s.heap.get mp=some (.map es cl)/\es.map (·.1)=gs.map λg=>.str g.name
 ru:(gk=none->gs=[])/\∀b,gk=some b->∃cs,s.heap.get b=some (.cells cs 0)/\cs.length=gs.length*9
 xU:(tk=none->ts=[])/\∀b,tk=some b->s.heap.get b=some (.cells (ts.flatMap Ty.cells) 0)
 dg:gk≠some bp
 dt:tk≠some bp
 ZP:∀b,gk=some b->tk≠some b
 fb:s0.heap.get bp=none
 fm:s0.heap.get mp=none
 fg:∀b,gk=some b->s0.heap.get b=none
 ft:∀b,tk=some b->s0.heap.get b=none
 SA:∀es cl,s.heap.get mp=some (.map es cl)->∀e∈es,∃i:Nat,e.2.1= .int .i64 (i:Int)/\i<gs.length
 Oc:∀es cl,s.heap.get mp=some (.map es cl)->es.map (λe=>e.2.1)=(List.range gs.length).map λ(i:Nat)=>AV.int .i64 (i:Int)
 rows:∀b cs,gk=some b->s.heap.get b=some (.cells cs 0)->∀(i:Nat)(g:aR),gs[i]? =some g->alB s0 s bp gk tk g ((cs.drop (i*9)).take 9)
theorem eD.lt{s0 s:St}{bp mp:Pos}{gs:List aR}{ts:List Ty}{gk tk:Option Pos}(h:eD s0 s bp mp gs ts gk tk):bp.toNat<s.next.toNat/\mp.toNat<s.next.toNat:=by
 obtain⟨es,cl,h1,_⟩:=h.zR;exact⟨h.wf _ _ h.book,h.wf _ _ h1⟩
theorem eD.ai{s0 s s':St}{bp mp:Pos}{gs:List aR}{ts:List Ty}{gk tk:Option Pos}(h:eD s0 s bp mp gs ts gk tk)(g:Grew s s'):eD s0 s' bp mp gs ts gk tk where
 wf:=g.wf
 keeps:=h.keeps.trans g.keeps
 next:=Zb3 h.next g.next
 book:=g.get h.book
 zR:=let⟨es,cl,h1,h2⟩:=h.zR;⟨es,cl,g.get h1,h2⟩
 ru:=⟨h.ru.1,λb hb=>let⟨cs,h1,h2⟩:=h.ru.2 b hb;⟨cs,g.get h1,h2⟩⟩
 xU:=⟨h.xU.1,λb hb=>g.get (h.xU.2 b hb)⟩
 dg:=h.dg
 dt:=h.dt
 ZP:=h.ZP
 fb:=h.fb
 fm:=h.fm
 fg:=h.fg
 ft:=h.ft
 SA:=λes cl hm=>by obtain⟨es0,cl0,h1,h2⟩:=h.zR;have:=g.get h1;rw[hm]at this;cases this;exact h.SA _ _ h1
 Oc:=λes cl hm=>by obtain⟨es0,cl0,h1,h2⟩:=h.zR;have:=g.get h1;rw[hm]at this;cases this;exact h.Oc _ _ h1
 rows:=λb cs hb hs i u hu=>by
  obtain⟨ZQ,h1,h2⟩:=h.ru.2 b hb;have:=g.get h1;rw[hs]at this;cases this;exact(h.rows b _ hb h1 i u hu).to λp cs _ a2 a3 hx=>⟨g.get hx,a2,a3⟩
theorem sU{s0:St}{jb:Pos}{y:AB}(hj:s0.heap.get jb=some y){q:Pos}(hq:s0.heap.get q=none):q≠jb:=λe=>by rw[e,hj]at hq;cases hq
theorem eD.at{s0 s s':St}{bp mp:Pos}{gs:List aR}{ts:List Ty}{gk tk:Option Pos}(h:eD s0 s bp mp gs ts gk tk){jb:Pos}{y:AB}(hj:s0.heap.get jb=some y)(hw:Wf s')(hk:∀q x,q≠jb->s.heap.get q=some x->s'.heap.get q=some x):
  eD { heap:= .e,next:=s'.next } s' bp mp gs ts gk tk where
 wf:=hw
 keeps:=λb x hb=>by rw[T.dN]at hb;cases hb
 next:=Za3 _
 book:=hk _ _ (sU hj h.fb) h.book
 zR:=let⟨es,cl,h1,h2⟩:=h.zR;⟨es,cl,hk _ _ (sU hj h.fm) h1,h2⟩
 ru:=⟨h.ru.1,λb hb=>let⟨cs,h1,h2⟩:=h.ru.2 b hb;⟨cs,hk _ _ (sU hj (h.fg b hb)) h1,h2⟩⟩
 xU:=⟨h.xU.1,λb hb=>hk _ _ (sU hj (h.ft b hb)) (h.xU.2 b hb)⟩
 dg:=h.dg
 dt:=h.dt
 ZP:=h.ZP
 fb:=T.dN _
 fm:=T.dN _
 fg:=λb _=>T.dN _
 ft:=λb _=>T.dN _
 SA:=λes cl hm=>by obtain⟨es0,cl0,h1,h2⟩:=h.zR;have:=hk _ _ (sU hj h.fm) h1;rw[hm]at this;cases this;exact h.SA _ _ h1
 Oc:=λes cl hm=>by obtain⟨es0,cl0,h1,h2⟩:=h.zR;have:=hk _ _ (sU hj h.fm) h1;rw[hm]at this;cases this;exact h.Oc _ _ h1
 rows:=λb cs hb hs i u hu=>by
  obtain⟨ZQ,h1,h2⟩:=h.ru.2 b hb;have:=hk _ _ (sU hj (h.fg b hb)) h1;rw[hs]at this;cases this;obtain⟨k1,k2,v,k3,k4,k5,k6,k7⟩:=h.rows b _ hb h1 i u hu;exact⟨k1,k2,v,k3,k4,k5,k6.mono λb x hb hx=>hk b x (sU hj (k7 b hb).2.2.2) hx,λp hp=>⟨(k7 p hp).1,(k7 p hp).2.1,(k7 p hp).2.2.1,T.dN _⟩⟩
theorem eD.start{s:St}(hw:Wf s):eD s (ah (ah s (.map [] 0)) (.cells [.af,.af,.map s.next] 0)) (ah s (.map [] 0)).next s.next [] [] none none where
 wf:=bF (bF hw)
 keeps:=(cq hw).trans (cq (bF hw))
 next:=by simp only[bN,Pos.aD];omega
 book:=aA _ _
 zR:=⟨[],0,CQ,rfl⟩
 ru:=⟨λ_=>rfl,λb h=>by cases h⟩
 xU:=⟨λ_=>rfl,λb h=>by cases h⟩
 dg:=λh=>by cases h
 dt:=λh=>by cases h
 ZP:=λb h=>by cases h
 fb:=by
  cases h:s.heap.get (ah s (.map [] 0)).next with
  |none=>rfl
  |some x=>have:=hw _ _ h;rw[bN,Pos.aD]at this;omega
 fm:=by
  cases h:s.heap.get s.next with
  |none=>rfl
  |some x=>have:=hw _ _ h;omega
 fg:=λb h=>by cases h
 ft:=λb h=>by cases h
 SA:=λes cl hm e he=>by have:(ah (ah s (.map [] 0)) (.cells [.af,.af,.map s.next] 0)).heap.get s.next=some (.map [] 0):=CQ;rw[hm]at this;cases this;cases he
 Oc:=λes cl hm=>by have:(ah (ah s (.map [] 0)) (.cells [.af,.af,.map s.next] 0)).heap.get s.next=some (.map [] 0):=CQ;rw[hm]at this;cases this;rfl
 rows:=λb cs h=>by cases h
theorem Ge(s:List Nat):∀(gs:List aR)(es:List (AV×AV×Nat))(i:Nat),es.map (·.1)=gs.map (λg=>.str g.name)->
  (s∈gs.map aR.name/\∃j v,gM .s (.str s) es i=some (some (j,v)))\/(s∉gs.map aR.name/\gM .s (.str s) es i=some none)
 |[],es,i,h=>by
  have:es=[]:=by simpa using h
  subst this;exact .inr ⟨by simp,rfl⟩
 |g::gs,[],i,h=>by simp at h
 |g ::gs,(k,v,n)::es,i,h=>by
  simp only[Zd3,Zf9]at h;obtain⟨h1,h2⟩:=h;subst h1;by_cases e:s=g.name
  .subst e;exact .inl ⟨by simp,i,v,by simp[gM,yd,gH]⟩
  . rcases Ge s gs es (i+1) h2 with⟨a,b⟩|⟨a,b⟩
    .   left;refine⟨by simp at a ⊢; exact .inr a,?_⟩;simpa [gM,yd,gH,e]using b
    .   right;refine⟨by simp at a ⊢; exact⟨e,a⟩,?_⟩;simpa [gM,yd,gH,e]using b
theorem SB{gs:List aR}{s:List Nat}:0<=scan (nP gs s) gs.length 0↔s∈gs.map aR.name:=by
 constructor
 .intro h;obtain⟨_,h2,h3⟩:=Bq _ _ h;simp only[nP,Ze7]at h3;rw[H0 (by omega)]at h3;simp only[Zd9,H5]at h3;rw[<-h3];exact Zc6.2 ⟨_,Zb8 _,rfl⟩
 . intro  h;obtain⟨g,hg,rfl⟩:=Zc6.1 h;obtain⟨i,hi,rfl⟩:=Zg4.1 hg;have key:∀(m k:Nat),k<=i->i<k+m->0<=scan (nP gs gs[i].name) m k:=by
    intro m;induction m with
    |zero=>intro k h1 h2;omega
    |   succ m ih=>
        intro k h1 h2;unfold scan;split
        .omega
        . rename_i cN;by_cases e:k=i
          .subst e;simp[nP,hi]at cN
          .exact ih (k+1) (by omega) (by omega)
   exact key _ _ (by omega) (by omega)
theorem Yv(hc:Sem c)(s:St)(bp mp:Pos)(x y:AV)(h:s.heap.get bp=some (.cells [x,y,.map mp] 0)):c 136 [.ptr bp 0] s=some (.bool false,s):=by
 rw[UO hc 1 (r:=(.bool false,s)),aF (Plain.bool _) (aX.refl s)];rw[Y5];have e1:∀(K:AV->St->Option (AV×St))(s:St),aq c (.bin .eql .ptr) [.ptr bp 0,.jf] s K=K (.bool false) s:=λK s=>aS c K (λH n=>rfl) s
 have e2:∀(K:AV->St->Option (AV×St))(s:St),aq c (.bin .eql .map) [.map mp,.qp] s K=K (.bool false) s:=λK s=>aS c K (λH n=>rfl) s
 simp[e1,e2,h]
theorem alC(z:Bool)(l:List (List Nat)):(kY z l).cells=[kY z l]:=by unfold kY ro;split<;>rfl
theorem aqG(z:Bool)(l:List (List Nat)):(kY z l).one=true:=by unfold kY ro;split<;>rfl
theorem akc{s:List Nat}(h:oD s=true):∀x∈s,x<256:=λx hx=>by simp only[oD,Zb2,Zg8,Ze7]at h;have:=h.2 x hx;omega
theorem adT{s:List Nat}(h:zE s=true):∀x∈s,x<256:=λx hx=>by
 simp only[zE,Zj3,Ze7]at h;rcases h with h|h
 .rw[h]at hx;cases hx
 .exact akc h x hx
theorem aeQ{g:aR}(h:jO g=0):g.Low:=by
 unfold jO at h;split at h
 .simp at h
 .rename_i hn;simp only[Bool.not_eq_false,Zb2]at hn;exact⟨akc hn.1.1.1,adT hn.1.1.2,adT hn.1.2,adT hn.2⟩
theorem akd{s:St}(hw:Wf s){k:Option Pos}{n es bytes:Nat}{q:Pos}{row:List AV}(hk:k=none->n=0)(eW:∀b,k=some b->∃cs,s.heap.get b=some (.cells cs 0)/\cs.length=n*es)(hq:s.heap.get q=some (.cells row 0))(hr:row.length=es)
  (h1:aN row=true) (dW:es≠0) (hb:(2*(n+1)+768)*bytes<=281474976710656) (hn:n<=1000):
  ∃ s5 mJ,(∀(K:AV->St->Option (AV×St)),aq c (.append es bytes) [kP k n es,.slice q 0 1 (some 1) es] s K=K (.slice s.next 0 (n+1) none es) s5)/\s5.heap.get s.next=some (.cells mJ 0)/\mJ.length=(n+1)*es/\
    (∀b cs,k=some b->s.heap.get b=some (.cells cs 0)->mJ=cs++row)/\(k=none->mJ=row)/\s5.next=s.next.succ/\Wf s5/\∀p,k≠some p->p.toNat<s.next.toNat->s5.heap.get p=s.heap.get p:=by
 have hx:cX es 1 (λb=>s.heap.get b) (.slice q 0 1 (some 1) es)=some row:=by simp only[cX,cK,Zp7,Za2 dW,hq];exact cQ hr
 cases k with
 |none=>
  obtain rfl:=hk rfl;refine⟨ah s (.cells row 0),row,λK=>agU c K (m:=1) rfl (by omega) (by omega) (by omega) hx,aA _ _,by omega,λb cs h=>(by cases h),λ_=>rfl,rfl,bF hw,λp _ hp=>tH hp⟩
 |some b=>
  obtain⟨cs,h2,h3⟩:=eW b rfl;have ho:cX es n (λb=>s.heap.get b) (.slice b 0 n none es)=some cs:=by
    by_cases h0:n=0
    .   subst h0;have:cs=[]:=Zc0 (by omega);subst this;simp[cX,cK]
    .   have:¬n*es=0:=λe=>by rcases Nat.mul_eq_zero.1 e with e|e<;>omega
        simp only[cX,cK,Za2 this,h2];exact cQ h3
  refine⟨dst s b (.cells (cs++row) 0),cs++row,λK=>asi c K (m:=1) rfl (by omega) hb (by omega) h2 ho hx h1,Yk _ _ _,?_,λb' cs2 e h=> ?_,λh=>(by cases h),rfl,agT hw,λp hp hl=>RE (λe=>hp (by rw[e])) hl⟩
  .rw[Zd8,h3,hr,Zj8,Zp7]
  .cases e;rw[h2]at h;cases h;rfl
def yJ(gs:List aR)(g:aR):Int:=if jO g≠0 then jO g else if 0<=scan (nP gs g.name) gs.length 0 then 5 else if gs.length=64 then 7 else 0
theorem auh (hc : Sem c){s0 s:St}{bp mp:Pos}{gs:List aR}{ts:List Ty}{gk tk:Option Pos}(GM:Wf s0)(B:eD s0 s bp mp gs ts gk tk)(hl:gs.length<=64)(g:aR):
   ∃s',c 129 [.ptr bp 0,.agg g.cells] s=some (.int .i64 (yJ gs g),s')/\(yJ gs g≠0->s'=s)/\(yJ gs g=0->∃TM,eD s0 s' bp mp (gs++[g]) ts TM tk):=by
 have cO:Wf (ah s (.cells g.cells 0)):=bF B.wf;have B1:=B.ai (Grew.ah B.wf (.cells g.cells 0));generalize hs1:ah s (.cells g.cells 0)=s1 at cO B1;have hpg:s1.heap.get s.next=some (.cells g.cells 0):=by rw[<-hs1];exact aA _ _
 have lF:=Yv hc s1 bp mp _ _ B1.book;have hch:=adQ hc g s1 cO;have lG:∀(K:AV->St->Option (AV×St))(s:St),aq c (.lenB .l) [kP gk gs.length 9] s K=K (.int .i64 (gs.length:Int)) s:=λK s=>aS c K (Sz λh=>by rw[B.ru.1 h];rfl) s
 have lG2:∀(K:AV->Option (AV×St)),fq (.lenB .l) [kP gk gs.length 9] K=K (.int .i64 (gs.length:Int)):=λK=>cZ K (Sz λh=>by rw[B.ru.1 h];rfl)
 obtain⟨es,cl,mR,hm2⟩:=B1.zR;have fail:∀e:Int,e≠0->yJ gs g=e->zn c 1 (.ptr bp 0) (.agg g.cells) s=some (.int .i64 e,s1)->∃s',c 129 [.ptr bp 0,.agg g.cells] s=some (.int .i64 (yJ gs g),s')/\(yJ gs g≠0->s'=s)/\(yJ gs g=0->∃TM,eD s0 s' bp mp (gs++[g]) ts TM tk):=λe he ha h=>by
   refine⟨s,?_,λ_=>rfl,λh0=>absurd (ha.symm.trans h0) he⟩;rw[GN hc 1 h,ha,aF (Plain.int _ _) (by rw[<-hs1];exact cq B.wf)]
 have eb:∀(K:AV->St->Option (AV×St)),aq c .box [.agg g.cells] s K=K (.ptr s.next 0) s1:=λK=>by rw[dy, <-hs1];rfl
 have h64:((gs.length:Int)=64)↔gs.length=64:=by omega
 by_cases h1:jO g=0
 . rcases Ge  g.name gs es 0 hm2 with⟨sJ,j,v,hf⟩|⟨sJ,hf⟩
   . have hsc:=SB.2 sJ;refine fail 5 (by omega) (by simp[yJ,h1,hsc]) ?_;rw[vI];have lk:=λ(K:AV->Option (AV×St))=>aew K (.int .i64 0) (h:=s1.heap) (k:= .str g.name) mR hf
     simp[eb,lF,hch,h1,hpg,B1.book,lk]
   . have hsc: ¬0<=scan (nP gs g.name) gs.length 0:=λh=>sJ (SB.1 h)
     have lk:=λ(K:AV->Option (AV×St))=>aew K (.int .i64 0) (h:=s1.heap) (k:= .str g.name) mR hf
     by_cases h2:gs.length=64
     .  have h2d:decide ((gs.length:Int)=64)=true:=Za0 (by omega);refine fail 7 (by omega) (by unfold yJ;rw[Za6 (by simp[h1]),Za6 hsc,Zb4 h2]) ?_;rw[vI];simp[eb,lF,hch,h1,hpg,B1.book,lk,lG,h2d]
     .  have htg:g.tg.length<=4:=by
          unfold jO at h1;split at h1
          .simp at h1
          . split at h1
            .simp at h1
            . split at h1
              .simp at h1
              . split at h1
                .simp at h1
                .omega
        have he:yJ gs g=0:=(by unfold yJ;rw[Za6 (by simp[h1]),Za6 hsc,Za6 h2]);have h2d:decide ((gs.length:Int)=64)=false:=Za2 (by omega);have lt1:=B1.lt;have zx:s.next.toNat<s1.next.toNat:=(by rw[<-hs1,bN,Pos.aD];omega);have nmb:mp≠bp:=λe=>by rw[e,B1.book]at mR;cases mR
        have nmp:mp≠s.next:=λe=>by rw[e,hpg]at mR;cases mR
        let Tt:=es++[(AV.str g.name,AV.int .i64 (gs.length:Int),cl)]
        let s2:=bg s1 mp (.map Tt (cl+1))
        have sH:Wf s2:=iG cO lt1.2;have b2:s2.heap.get bp=some (.cells [kP gk gs.length 9,kP tk ts.length 3,.map mp] 0):=(by show(bg _ _ _).heap.get bp=_;rw[aH nmb];exact B1.book);have p2:s2.heap.get s.next=some (.cells g.cells 0):=(by show(bg _ _ _).heap.get _=_;rw[aH nmp];exact hpg);have m2:s2.heap.get mp=some (.map Tt (cl+1)):=bG _ _ _;obtain⟨v,s3,q1,M⟩:=aeP hc g (aeQ h1) (by omega) s2 sH (aqE g.tz g.tg) (alC _ _) (aqG _ _);rw[aR.an2]at q1
        let row:=g.av v
        have q2:=M.ai;have q3:row.length=9:=rfl;have vone:v.one=true:=yA M.cells.2;have q4:aN row=true:=g.Le M.cells.2;have hw4:Wf (ah s3 (.cells row 0)):=bF q2.wf;have gr4:=q2.trans (Grew.ah q2.wf (.cells row 0));have gG:∀p x,s2.heap.get p=some x->p.toNat<(ah s3 (.cells row 0)).next.toNat:=λp x h=>hw4 p x (gr4.get h)
        have eW:∀b,gk=some b->∃cs,(ah s3 (.cells row 0)).heap.get b=some (.cells cs 0)/\cs.length=gs.length*9:=λb hb=>by
          obtain⟨cs,h3,h4⟩:=B1.ru.2 b hb;have:mp≠b:=λe=>by rw[e,h3]at mR;cases mR
          exact⟨cs,gr4.get (by show(bg _ _ _).heap.get b=_;rw[aH this];exact h3),h4⟩
        obtain⟨s5,mJ,r1,r2,r3,ra,rb,r4,r5,r6⟩:=akd (c:=c) (es:=9) (bytes:=112) hw4 (k:=gk) (n:=gs.length) (λh=>by rw[B.ru.1 h];rfl) eW (aA _ _) q3 q4 (by omega) (by omega) (by omega);have hs4:(ah s3 (.cells row 0)).next=s3.next.succ:=rfl;have keep:∀p x,s2.heap.get p=some x->gk≠some p->s5.heap.get p=some x:=λp x h cN=>by rw[r6 p cN (gG p x h)];exact gr4.get h
        have b5:=keep bp _ b2 B.dg
        let gv:=AV.slice (ah s3 (.cells row 0)).next 0 (gs.length+1) none 9
        let s6:=bg s5 bp (.cells [gv,kP tk ts.length 3,.map mp] 0)
        have ahv:bp.toNat<s5.next.toNat:=r5 _ _ b5;have nb4:bp≠(ah s3 (.cells row 0)).next:=λe=>by have:=gG _ _ b2;rw[e]at this;omega
        have st6:∀(K:AV->St->Option (AV×St)),aq c (.store 1) [.ptr bp 0,gv] s5 K=K .undef s6:=λK=>bY c K s5 1 bp 0 gv _ b5 rfl (by simp) rfl
        have g6:∀p,p≠bp->s6.heap.get p=s5.heap.get p:=λp h=>aH (λe=>h e.symm)
        have alD:∀p:Pos,s0.next.toNat<=p.toNat->s0.heap.get p=none:=λp h=>by
          cases hx:s0.heap.get p with
          |none=>rfl
          |some x=>have:=GM _ _ hx;omega
        have nx:s0.next.toNat<=(ah s3 (.cells row 0)).next.toNat:=Zb3 B1.next (Zb3 (by show s1.next.toNat<=s2.next.toNat;exact Za3 _) gr4.next)
        have ahS:eD s0 s6 bp mp (gs++[g]) ts (some (ah s3 (.cells row 0)).next) tk:={
          wf:=iG r5 ahv
          keeps:=λp x hp=>by
            have n1:p≠bp:=λe=>by rw[e,B.fb]at hp;cases hp
            have n2:mp≠p:=λe=>by rw[<-e,B.fm]at hp;cases hp
            have n3:gk≠some p:=λe=>by rw[B.fg p e]at hp;cases hp
            rw[g6 p n1];exact keep p x (by show(bg _ _ _).heap.get p=_;rw[aH n2];exact B1.keeps p x hp) n3
          next:=by show s0.next.toNat<=s5.next.toNat;rw[r4,Pos.aD];omega
          book:=by show(bg _ _ _).heap.get bp=_;rw[bG];simp[gv,kP]
          zR:=⟨Tt,cl+1,by
            rw[g6 mp nmb];exact keep mp _ m2 (λe=>by obtain⟨cs,h3,_⟩:=B1.ru.2 mp e;rw[h3]at mR;cases mR),by simp[Tt,hm2]⟩
          ru:=⟨λh=>(by cases h),λb hb=>by cases hb;refine⟨mJ,?_,by rw[r3];simp⟩;rw[g6 _ (λe=>nb4 e.symm)];exact r2⟩
          xU:=⟨B.xU.1,λb hb=>by
            have h3:=B1.xU.2 b hb;have n1:b≠bp:=λe=>B.dt (by rw[<-e];exact hb)
            have n2:mp≠b:=λe=>by rw[e,h3]at mR;cases mR
            have n3:gk≠some b:=λe=>B.ZP b e hb
            rw[g6 b n1];exact keep b _ (by show(bg _ _ _).heap.get b=_;rw[aH n2];exact h3) n3⟩
          dg:=λe=>nb4 (by injection e with e;exact e.symm)
          dt:=B.dt
          ZP:=λb hb ht=>by
            (cases hb;have h3:=B1.xU.2 _ ht;have n2:mp≠(ah s3 (.cells row 0)).next:=λe=>by rw[e,h3]at mR;cases mR);have:=gG _ _ (show s2.heap.get (ah s3 (.cells row 0)).next=_ from(aH n2).trans h3);omega
          fb:=B.fb
          fm:=B.fm
          fg:=λb hb=>by cases hb;exact alD _ nx
          ft:=B.ft
          SA:=λes' cl' hm e he=>by
            have m6:s6.heap.get mp=some (.map Tt (cl+1)):=by
              rw[g6 mp nmb];exact keep mp _ m2 (λe=>by obtain⟨cs,h3,_⟩:=B1.ru.2 mp e;rw[h3]at mR;cases mR)
            rw[hm]at m6;cases m6;rcases Zd5.1 he with he|he
            .obtain⟨i,e1,e2⟩:=B1.SA _ _ mR e he;exact⟨i,e1,by simp;omega⟩
            .simp only[Za9,Zc3,Zf0]at he;subst he;exact⟨gs.length,rfl,by simp⟩
          Oc:=λes' cl' hm=>by
            have m6:s6.heap.get mp=some (.map Tt (cl+1)):=by
              rw[g6 mp nmb];exact keep mp _ m2 (λe=>by obtain⟨cs,h3,_⟩:=B1.ru.2 mp e;rw[h3]at mR;cases mR)
            rw[hm]at m6;cases m6;have h:=B1.Oc _ _ mR;rw[Zc8,h,Zd8,List.length_singleton,Zg2,Zc8];rfl
          rows:=  λb cs hb hs i u hu=>by
            cases hb;have r2':s6.heap.get (ah s3 (.cells row 0)).next=some (.cells mJ 0):=(by rw[g6 _ (λe=>nb4 e.symm)];exact r2);rw[hs]at r2';cases r2';by_cases hi:i<gs.length
            . rw[Zc5 hi]at hu;cases hgk:gk with
              |none=>rw[B.ru.1 hgk]at hi;simp at hi
              | some b0=>
                obtain⟨ZQ,h3,h4⟩:=B1.ru.2 b0 hgk;have n0:mp≠b0:=λe=>by rw[e,h3]at mR;cases mR
                have e0:=ra b0 ZQ hgk (gr4.get (by show(bg _ _ _).heap.get b0=_;rw[aH n0];exact h3));have R0:=B1.rows b0 ZQ hgk h3 i u hu;rw[e0,Zg9 (by omega),Zk7 (by simp;omega)];(refine R0.to λp cs a1 a2 a3 hx=> ?_);have n1:mp≠p:=λe=>by rw[e,hx]at mR;cases mR
                have x2:s2.heap.get p=some (.cells cs 0):=(by show(bg _ _ _).heap.get p=_;rw[aH n1];exact hx);have aV:=gG p _ x2;refine⟨by rw[g6 p a1];exact keep p _ x2 a2,λe=> ?_,a3⟩;cases e;omega
            . have sN:i=gs.length:=(by have:=(Za1.1 hu).1;simp at this;omega);subst sN;simp at hu;subst hu;have er:(mJ.drop (gs.length*9)).take 9=row:=by
                cases hgk:gk with
                | none=>
                  rw[rb hgk,B.ru.1 hgk];exact Ze9 (by simp[q3])
                | some b0=>
                  obtain⟨ZQ,h3,h4⟩:=B1.ru.2 b0 hgk;have n0:mp≠b0:=λe=>by rw[e,h3]at mR;cases mR
                  rw[ra b0 ZQ hgk (gr4.get (by show(bg _ _ _).heap.get b0=_;rw[aH n0];exact h3)), <-h4];rw[Zg9 (Za3 _)];simp[Ze9 (Zr6 q3)]
              (rw[er];have MN:∀p x,s2.heap.get p=some x->p.toNat<s2.next.toNat:=λp x h=>sH p x h);refine⟨aeQ h1,htg,v,rfl,M.cells.1,vone,M.own.mono λb x hb hx=> ?_,λp hp=> ?_⟩
              . have kg:=M.new b hb;have uv:=M.own.lt M.ai.wf hb;have nb:b≠bp:=λe=>by have:=MN _ _ b2;rw[e]at kg;omega
                have ng:gk≠some b:=λe=>by
                  obtain⟨ZQ,h3,_⟩:=B1.ru.2 b e;have n0:mp≠b:=λe=>by rw[e,h3]at mR;cases mR
                  have:=MN b _ (by show(bg _ _ _).heap.get b=_;rw[aH n0];exact h3);omega
                rw[g6 b nb,r6 b ng (by rw[hs4,Pos.aD];omega)];exact(Grew.ah q2.wf (.cells row 0)).get hx
              . have kg:=M.new p hp;have uv:=M.own.lt M.ai.wf hp;refine⟨λe=>by have:=MN _ _ b2;rw[e]at kg;omega,λe=> ?_,λe=> ?_,alD p (by have h9:=B1.next;rw[show s2.next=s1.next from dH _ _ _]at kg;omega)⟩
                .cases e;rw[hs4,Pos.aD]at uv;omega
                . have h3:=B1.xU.2 p e;have n2:mp≠p:=λe=>by rw[e,h3]at mR;cases mR
                  have:=MN p _ (by show(bg _ _ _).heap.get p=_;rw[aH n2];exact h3);omega }
        refine⟨s6,?_,λh=>absurd he h,λ_=>⟨_,ahS⟩⟩;rw[he];rw[GN hc 1 (r:=(.int .i64 0,s6))]
        . rw[ado (b:=bp) B.book];rw[ahS.book];intro e;have e:=congrArg (λo=>match o with|some (AB.cells (v::_) _)=>dR v|_=>none) e;simp only[kP,dR]at e;cases gk with
          |none=>simp[dR,B.ru.1 rfl]at e
          |some b=>simp[dR]at e
        (rw[vI];have stm:=λ(K:AV->St->Option (AV×St))=>aiW c K (v:= .int .i64 (gs.length:Int)) mR hf);have bq:eO (kP gk gs.length 9) (kP gk gs.length 9)=true:=(by cases gk;exact RF;exact MZ _ _ _ _);have b3:s3.heap.get bp=some (.cells [kP gk gs.length 9,kP tk ts.length 3,.map mp] 0):=q2.get b2;have Lt:=λ(K:AV->Option (AV×St))=>kW K (p:=bp) (o:=0) (h:=s3.heap) (h2:=s2.heap) (v:=kP gk gs.length 9) (by rw[b3];rfl) (by rw[b2];rfl) bq
        have Cy:cF (bU [AV.str [],AV.str [],AV.str [],.int .i64 0,.int .i64 0,.str [],.bool false,.bool false,.af] 1) [(0,9)] [AV.agg (g.av v)]=some row:=by
          have:(g.av v).length=9:=q3;show _=some (g.av v);simp[cF,bU,cK,cM,this,aQ]
        simp[eb,lF,hch,h1,hpg,B1.book,lk,lG,lG2,h2d,stm];show H7 ((cellsOf (T.get s.next s2.heap)).bind λcs=>cut cs 0 9) _=_;rw[p2];simp only[aG,Zb1,aR.cc,fC];show aaD (c 183 [AV.agg g.cells] s2) _=_;rw[q1];simp only[cL];show jt (.load none) [.ptr bp 0] s3.heap (λv=>oR (.load none) [.ptr bp 0] v (nG [] s2.heap)) _=_;rw[Lt];simp only[Cy,fC,r1];exact st6 _
 .refine fail (jO g) h1 (by simp[yJ,h1]) ?_;rw[vI];simp[eb,lF,hch,h1,hpg]
theorem Kf{r s t:Ty}(h:fE r s=true)(k:fE s t=true):fE r t=true:=by
 simp only[fE,Zj3,Zb2,Ze7]at h k ⊢;rcases h with h|⟨h1,h2⟩<;>rcases k with k|⟨k1,k2⟩
 .exact .inl (Sy _ _ _ h k)
 .exact .inl (by rw[<-k1];exact h)
 .exact .inl (by rw[h1];exact k)
 .exact .inr ⟨h1.trans k1,Sy _ _ _ h2 k2⟩
theorem alE{s t:Ty}(h:fE s t=false)(k:fE t s=false):s.a=t.a/\s.b=t.b:=by simp only[fE,Bool.or_eq_false_iff]at h k;have e:=Kc _ _ h.1 k.1;refine⟨e,?_⟩;have h2:=h.2;have k2:=k.2;simp only[e,Zg6,Zg5]at h2 k2;exact Kc _ _ h2 k2
theorem asW{r s t:Ty}(h:fE r s=true)(k:fE t s=false):fE r t=true:=by
 cases h2:fE s t
 .obtain⟨e1,e2⟩:=alE h2 k;unfold fE at h ⊢; rw[<-e1, <-e2];exact h
 .exact Kf h h2
theorem Ym{x:Int}(h1:0<=x)(h2:x<=18446744073709551615):ax .u64 x=x:=by
 unfold ax loI hiI;simp only;split
 . split
   .rfl
   .contradiction
 .contradiction
theorem ahT(K:AV->St->Option (AV×St))(st:St)(a:Nat):aq c (.bin .shr .num) [.int .u64 (a:Int),.int .u64 1] st K=K (.int .u64 ((a / 2:Nat):Int)) st:=by
 refine aS c K (λH n=> ?_) st;have:(a:Int).fdiv 2=((a / 2:Nat):Int):=by rw[Zm9 _ (by omega)];rfl
 simp only[aE.run,js,o6,e8];show some (eG.val (AV.int .u64 ((a:Int).fdiv 2)))=_;rw[this]
theorem ahU(H:Pos->Option AB)(n:Pos)(es:Nat)(b:Pos)(len:Nat)(k:IntKind)(i:Nat)(h:i<len):aE.run H n (.idxA es none) [.slice b 0 len none es,.int k (i:Int)]=some (.val (.ptr b (i*es))):=by
 simp[aE.run,rX,ju,JZ,h]
theorem yy(ts:List Ty)(i:Nat)(h:i<ts.length):cut (ts.flatMap Ty.cells) (i*3) 3=some ts[i].cells:=by
 induction ts generalizing i with
 |nil=>simp at h
 |cons t ts ih=>
  cases i with
  |zero=>rw[Zm5];unfold cut;rw[cM,Za0 (by simp[Ty.len])];simp[Ty.cells]
  |succ i=>
   have h':i<ts.length:=(by simpa using h);have:=ih i h';unfold cut at this ⊢;rw[cM]at this ⊢;(split at this<;>first|(cases this;done)|skip);rename_i hle;simp only[Ze7]at hle;rw[Za0 (by rw[Zm5,Zd8,Ty.len];omega)];simp only[H5]at this ⊢;rw[Zm5,show(i+1)*3=i*3+1+1+1 by omega,Zo6, <-this];rfl
theorem asX(hc:Sem c)(ts:List Ty)(hl:ts.length<=1000)(t:Ty)(q:Nat)(hq:q<=ts.length)(MN:∀h (hh:h<ts.length),h<q->fE ts[h] t=true)(hhi:∀h (hh:h<ts.length),q<=h->fE ts[h] t=false)
  (b:Pos) (x4:Pos) (s:St) (hw:Wf s) (hb:s.heap.get b=some (.cells (ts.flatMap Ty.cells) 0)) (hx:s.heap.get x4=some (.cells t.cells 0)) (F:Nat) (k2):∀(m i j:Nat),j<=i+m->i<=q->q<=j->j<=ts.length->
  bk c F k2 (m+1) [.slice b 0 ts.length none 3,.func 130 [] [],.ptr x4 0,.int .i64 (ts.length:Int),.int .i64 (i:Int),.int .i64 (j:Int)] s=
    k2 [.slice b 0 ts.length none 3,.func 130 [] [],.ptr x4 0,.int .i64 (ts.length:Int),.int .i64 (q:Int)] s:=by
 intro m;induction m with
 |zero=>
  intro i j h1 h2 h3 h4;obtain rfl:i=q:=by omega
  obtain rfl:j=i:=by omega
  rw[eN];simp
 |succ m ih=>
  intro i j h1 h2 h3 h4;rw[eN];by_cases h:i<j
  . let d:=(i+j) / 2
    have hd1:i<=d:=(by omega);have hd2:d<j:=(by omega);have hd3:d<ts.length:=(by omega);have w1:ax .i64 ((i:Int)+(j:Int))=((i+j:Nat):Int):=(by rw[wrap64 (by omega) (by omega)];omega);have w2:ax .u64 ((i+j:Nat):Int)=((i+j:Nat):Int):=Ym (by omega) (by omega);have w3:ax .i64 (((i+j) / 2:Nat):Int)=((d:Nat):Int):=wrap64 (by omega) (by omega);have w4:ax .i64 ((d:Int)+1)=((d+1:Nat):Int):=wrap64 (by omega) (by omega);have ix:=λ(K:AV->Option (AV×St))=>cZ K (λH n=>ahU H n 3 b ts.length .i64 d hd3)
    have ho:=Lr hc ts[d] t s hw;have fg:=yy ts d hd3
    clear_value d
    by_cases hn:d<q
    .   have alF:uG ts[d] t<0:=adR.2 (MN d hd3 hn);rw[<-ih (d+1) j (by omega) (by omega) h3 h4];simp only[aL,bu,az,dI,Int.ofNat_lt,h,Zg6,eo,gC,w1,KT,w2,ahT,w3,di,ix,wQ,hb,fg,hx,aG,Zb1,Ty.cc,fC,gI,Ze0,Ze1,Zd7,ho,cL,ajE,alF,w4]
    .   have alF:¬uG ts[d] t<0:=λe=>by have:=adR.1 e;rw[hhi d hd3 (by omega)]at this;cases this
        rw[<-ih i d (by omega) h2 (by omega) (by omega)];simp only[aL,bu,az,dI,Int.ofNat_lt,h,Zg6,eo,gC,w1,KT,w2,ahT,w3,di,ix,wQ,hb,fg,hx,aG,Zb1,Ty.cc,fC,gI,Ze0,Ze1,Zd7,ho,cL,ajE,alF,decide_false,dQ]
  .obtain rfl:i=q:=(by omega);obtain rfl:j=i:=(by omega);simp
def Ay(ts:List Ty)(t:Ty)(q:Nat):Bool:=match ts[q]? with
 |some u=>decide (uG u t=0)
 |none=>false
theorem aqH(x4:Pos)(s:St)(F:Nat)(k2)(m:Nat):bk c F k2 (m+1) [.af,.func 130 [] [],.ptr x4 0,.int .i64 0,.int .i64 0,.int .i64 0] s=
  k2 [.af,.func 130 [] [],.ptr x4 0,.int .i64 0,.int .i64 0] s:=by
 rw[eN];simp
def slvT(k:Option Pos)(n:Nat):AV:=match k with
 |none=>.af
 |some b=>.slice b (0+n*3) (n - n) none 3
theorem arR(hc:Sem c)(ts:List Ty)(hl:ts.length<=1000)(t:Ty)(q:Nat)(hq:q<=ts.length)(MN:∀h (hh:h<ts.length),h<q->fE ts[h] t=true)(hhi:∀h (hh:h<ts.length),q<=h->fE ts[h] t=false)
  (tk:Option Pos) (s:St) (hw:Wf s) (h0:tk=none->ts=[]) (hb:∀b,tk=some b->s.heap.get b=some (.cells (ts.flatMap Ty.cells) 0)):
  c 189 [kP tk ts.length 3,.agg t.cells,.func 130 [] []] s=some (.tuple [.int .i64 (q:Int),.bool (Ay ts t q)],s):=by
 have cO:Wf (ah s (.cells t.cells 0)):=bF hw;have zx:Plain (.tuple [.int .i64 (q:Int),.bool (Ay ts t q)]):=Plain.tuple (by simp[Plain.int,Plain.bool]);rw[pJ hc 1001 (r:=(.tuple [.int .i64 (q:Int),.bool (Ay ts t q)],ah s (.cells t.cells 0))),aF zx (cq hw)];rw[qm];cases tk with
 |none=>
  obtain rfl:=h0 rfl;obtain rfl:q=0:=by simpa using hq
  have l0:∀(K:AV->St->Option (AV×St))(s:St),aq c (.lenB .l) [.af] s K=K (.int .i64 0) s:=λK s=>aS c K (λH n=>rfl) s
  have L:∀k2,bk c 1001 k2 1001 [.af,.func 130 [] [],.ptr s.next 0,.int .i64 0,.int .i64 0,.int .i64 0] (ah s (.cells t.cells 0))=_:=λk2=>aqH (c:=c) s.next _ 1001 k2 1000
  simp only[kP,dy,az,l0,WS,L,aL,bu,Zi6];simp[Ay,l0,L]
 |some b=>
  have kg:(ah s (.cells t.cells 0)).heap.get b=some (.cells (ts.flatMap Ty.cells) 0):=cq hw _ _ (hb b rfl);have l0:∀(K:AV->St->Option (AV×St))(s:St),aq c (.lenB .l) [.slice b 0 ts.length none 3] s K=K (.int .i64 (ts.length:Int)) s:=λK s=>aS c K (λH n=>rfl) s
  have L:∀k2,bk c 1001 k2 1001 [.slice b 0 ts.length none 3,.func 130 [] [],.ptr s.next 0,.int .i64 (ts.length:Int),.int .i64 0,.int .i64 (ts.length:Int)] (ah s (.cells t.cells 0))=
    k2 [.slice b 0 ts.length none 3,.func 130 [] [],.ptr s.next 0,.int .i64 (ts.length:Int),.int .i64 (q:Int)] (ah s (.cells t.cells 0)):=
    λk2=>asX hc ts hl t q hq MN hhi b s.next _ cO kg (aA _ _) 1001 k2 1000 0 ts.length (by omega) (by omega) (by omega) (by omega)
  simp only[kP,dy,az,l0,WS,L,aL,bu];by_cases h:q<ts.length
  . have ix:=λ(K:AV->Option (AV×St))=>cZ K (λH n=>ahU H n 3 b ts.length .i64 q h)
    have ho:=Lr hc ts[q] t _ cO;have fg:=yy ts q h;have ef:Ay ts t q=decide (uG ts[q] t=0):=(by unfold Ay;rw[H0 h]);simp[h,ix,kg,fg,ho,ef,AV.cells]
  .have ef:Ay ts t q=false:=(by unfold Ay;rw[Zc2 (by omega)]);simp[h,ef,AV.cells]
def Qf(ts:List Ty)(t:Ty):Nat:=match ts.getLast? with
 |none=>0
 |some u=>if fE u t=true then ts.length else ts.length - 1
def EN(ts:List Ty):Prop:=∀i j (hj:j<ts.length)(VU:i<j),fE (ts[i]'(by omega)) ts[j]=true
theorem aui{ts:List Ty}{t:Ty}(hs:EN ts)(ht:∀u,ts.getLast? =some u->fE t u=false):Qf ts t<=ts.length/\(∀h (hh:h<ts.length),h<Qf ts t->fE ts[h] t=true)/\(∀h (hh:h<ts.length),Qf ts t<=h->fE ts[h] t=false)/\
  Ay ts t (Qf ts t)=vH t ts.getLast? :=by
 unfold Qf;cases hl:ts.getLast? with
 |none=>
  have:ts=[]:=by simpa using hl
  subst this;simp[Ay,vH]
 |some u=>
  have cN:ts≠[]:=λe=>by subst e;simp at hl
  have Vn:0<ts.length:=Zq1.2 cN;have hu:ts[ts.length - 1]'(by omega)=u:=by have:=List.getLast?_eq_getElem? (l:=ts);rw[hl,H0 (by omega)]at this;exact(Zi5 this).symm
  have htu:=ht u hl;simp only;cases hb:fE u t
  . simp only[Zf4,Zh0];refine⟨by omega,λh hh aV=> ?_,λh hh hle=> ?_,?_⟩
    .   have:=hs h (ts.length - 1) (by omega) aV;rw[hu]at this;exact asW this htu
    .   obtain rfl:h=ts.length - 1:=(by omega);rw[hu];exact hb
    .   (unfold Ay;rw[H0 (by omega),hu];have h1:¬uG u t<0:=λe=>by rw[adR.1 e]at hb;cases hb);have h2:¬0<uG u t:=λe=>by rw[Yu.1 e]at htu;cases htu
        have:uG u t=0:=(by omega);simp[this,vH,hb]
  . simp only[Zh1];refine⟨by omega,λh hh _=> ?_,λh hh hle=>by omega,?_⟩
    .   by_cases e:h=ts.length - 1
        .subst e;rw[hu];exact hb
        .have:=hs h (ts.length - 1) (by omega) (by omega);rw[hu]at this;exact Kf this hb
    .   unfold Ay;rw[Zc2 (by omega)];simp[vH,hb]
theorem Bm(hc:Sem c){s0 s:St}{bp mp:Pos}{gs:List aR}{ts:List Ty}{gk tk:Option Pos}(B:eD s0 s bp mp gs ts gk tk)(hl:ts.length<=1000)(t:Ty)(aV:aO t.a t.b=true)(hs:EN ts)(ht:∀u,ts.getLast? =some u->fE t u=false):
  c 137 [.ptr bp 0,.str t.a,.str t.b] s=some (.tuple [.int .i64 (Qf ts t:Int),.bool (vH t ts.getLast?)],s):=by
 obtain⟨p1,p2,p3,p4⟩:=aui hs ht;rw[<-p4];have e0:∀u:Ty,fE u ⟨t.a,t.b,0⟩=fE u t:=λu=>rfl
 have e1:Ay ts ⟨t.a,t.b,0⟩ (Qf ts t)=Ay ts t (Qf ts t):=rfl;have hpr:=akb hc t.a t.b 0 aV s B.wf;have Gi:=arR hc ts hl ⟨t.a,t.b,0⟩ (Qf ts t) p1 (λh hh hq=>by rw[e0];exact p2 h hh hq) (λh hh hq=>by rw[e0];exact p3 h hh hq) tk s B.wf B.xU.1 B.xU.2;rw[e1]at Gi;rw[Dg hc 1 (r:=(.tuple [.int .i64 (Qf ts t:Int),.bool (Ay ts t (Qf ts t))],s)),aF (Plain.tuple (by simp[Plain.int,Plain.bool])) (aX.refl s)];rw[GO];have bq:eO (kP tk ts.length 3) (kP tk ts.length 3)=true:=by cases tk;exact RF;exact MZ _ _ _ _
 have Lt:=λ(K:AV->Option (AV×St))=>kW K (p:=bp) (o:=1) (h:=s.heap) (h2:=s.heap) (v:=kP tk ts.length 3) (by rw[B.book];rfl) (by rw[B.book];rfl) bq
 simp[hpr,Lt,Gi]
theorem xL(b:Pos)(off n es:Nat):¬Plain (.slice b off n none es):=λh=>by have:=h (λ_=>⟨0,0,off+n*es⟩) (λ_=>⟨0,0,0⟩) (b.toNat+1) 0 (λ_=>none) _ (.slice b off n none es n ⟨0,0+off,none⟩ (Za3 _) (λc h=>by cases h) (λ_=>⟨by omega,rfl,by simp⟩) (λ_=>by omega));have:=this.Vi rfl;omega
theorem an4(hc:Sem c){s:St}(hw:Wf s){tk:Option Pos}{ts:List Ty}{q:Pos}{row:List AV}(h0:tk=none->ts=[])(hb:∀b,tk=some b->s.heap.get b=some (.cells (ts.flatMap Ty.cells) 0))(hq:s.heap.get q=some (.cells row 0))(hr:row.length=3)
   (h1:aN row=true) (hl:ts.length<=1000):
   ∃ s5,c 185 [kP tk ts.length 3,.int .i64 (ts.length:Int),.slice q 0 1 (some 1) 3] s=some (.slice s.next 0 (ts.length+1) none 3,s5)/\s5.heap.get s.next=some (.cells (ts.flatMap Ty.cells++row) 0)/\
     s5.next=s.next.succ/\Wf s5/\∀p,tk≠some p->p.toNat<s.next.toNat->s5.heap.get p=s.heap.get p:=by
 have hlen:∀ts:List Ty,(ts.flatMap Ty.cells).length=ts.length*3:=λts=>by
   induction ts with
   |nil=>rfl
   |cons t ts ih=>rw[Zm5,Zd8,ih,Ty.len,Zc9];omega
 obtain⟨s5,mJ,r1,r2,r3,r4,r5,r6,r7,r8⟩:=akd (c:=c) (es:=3) (bytes:=40) hw (k:=tk) (n:=ts.length) (λh=>by rw[h0 h];rfl) (λb uv=>⟨_,hb b uv,hlen ts⟩) hq hr h1 (by omega) (by omega) (by omega);refine⟨s5,?_,?_,r6,r7,r8⟩
 . rw[Az hc 1 (r:=(.slice s.next 0 (ts.length+1) none 3,s5))]
   .unfold tidy;rw[Za6];exact λh=>xL _ _ _ _ h.1
   rw[Cp];have sl:∀(K:AV->St->Option (AV×St))(s:St),aq c (.sliceL 3 true false false) [kP tk ts.length 3,.int .i64 (ts.length:Int)] s K=K (slvT tk ts.length) s:=λK s=>by
     refine aS c K (λH n=> ?_) s;cases tk with
     |none=>rw[h0 rfl];rfl
     |some b=>simp[kP,slvT,aE.run,iL,bounds,ju,cK,cM]
   have l1:∀(K:AV->St->Option (AV×St))(s:St),aq c (.lenB .l) [.slice q 0 1 (some 1) 3] s K=K (.int .i64 1) s:=λK s=>aS c K (λH n=>rfl) s
   have l2:∀(K:AV->St->Option (AV×St))(s:St),aq c (.lenB .l) [kP tk ts.length 3] s K=K (.int .i64 (ts.length:Int)) s:=λK s=>aS c K (Sz λh=>by rw[h0 h];rfl) s
   simp[sl,l1,l2,r1]
 . cases tk with
   |none=>rw[r2,r5 rfl,h0 rfl];rfl
   |some b=>rw[r2,r4 b _ rfl (hb b rfl)]
def yK(gs:List aR)(ts:List Ty)(t:Ty):Int:=if ZO t=false then 23 else if qW gs t=true then 6 else if vH t ts.getLast? =true then 5 else 0
theorem ahV(H:Pos->Option AB)(n:Pos)(es:Nat)(b:Pos)(len:Nat)(cp:Option Nat)(k:IntKind)(i:Nat)(h:i<len):aE.run H n (.idxA es none) [.slice b 0 len cp es,.int k (i:Int)]=some (.val (.ptr b (i*es))):=by
 simp[aE.run,rX,ju,JZ,h]
theorem ake{gs:List aR}{es:List (AV×AV×Nat)}(h:es.map (·.1)=gs.map λg=>.str g.name)(s:List Nat):
   (¬scan (nP gs s) gs.length 0<0/\∃j v,gM .s (.str s) es 0=some (some (j,v)))\/(scan (nP gs s) gs.length 0<0/\gM .s (.str s) es 0=some none):=by
 rcases Ge s gs es 0 h with⟨a,b⟩|⟨a,b⟩
 .left;have:=SB.2 a;exact⟨by omega,b⟩
 . (right;refine⟨?_,b⟩;have:¬0<=scan (nP gs s) gs.length 0:=λe=>a (SB.1 e));omega
theorem aqI{s:St}{bp mp:Pos}{x y:AV}{es:List (AV×AV×Nat)}{cl:Nat}{gs:List aR}(hb:s.heap.get bp=some (.cells [x,y,.map mp] 0))(hm:s.heap.get mp=some (.map es cl))(he:es.map (·.1)=gs.map λg=>.str g.name)
   (t:Ty) (lb:Pos) (hlb:s.heap.get lb=some (.cells [.str t.a,.str t.b] 0)) (F:Nat) (k1 k2):
   mZ c F k1 k2 3 [.ptr bp 0,.str t.a,.str t.b,.int .u8 t.k,.slice lb 0 2 (some 2) 1,.int .i64 2,.int .i64 ((0:Nat):Int)] s=if qW gs t=true then k1 [.int .i64 6] s else k2 [.ptr bp 0,.str t.a,.str t.b,.int .u8 t.k] s:=by
 have w0:ax .i64 (((0:Nat):Int)+1)=((1:Nat):Int):=rfl;have w1:ax .i64 (((1:Nat):Int)+1)=((2:Nat):Int):=rfl;have i0:∀(K:AV->St->Option (AV×St))(s:St),aq c (.idxA 1 none) [.slice lb 0 2 (some 2) 1,.int .i64 ((0:Nat):Int)] s K=K (.ptr lb 0) s:=λK s=>aS c K (λH n=>ahV H n 1 lb 2 (some 2) .i64 0 (by omega)) s
 have i1:∀(K:AV->St->Option (AV×St))(s:St),aq c (.idxA 1 none) [.slice lb 0 2 (some 2) 1,.int .i64 ((1:Nat):Int)] s K=K (.ptr lb 1) s:=λK s=>aS c K (λH n=>ahV H n 1 lb 2 (some 2) .i64 1 (by omega)) s
 have d0:decide (((0:Nat):Int)<2)=true:=rfl;have d1:decide (((1:Nat):Int)<2)=true:=rfl;have d2:decide (((2:Nat):Int)<2)=false:=rfl;have e0:([AV.str t.a,.str t.b]:List AV)[0]? =some (.str t.a):=rfl;have e1:([AV.str t.a,.str t.b]:List AV)[1]? =some (.str t.b):=rfl;have e2:([x,y,AV.map mp]:List AV)[2]? =some (.map mp):=rfl;rw[xe];rcases ake he t.a with⟨n1,j,v,f1⟩|⟨n1,f1⟩
 . have lk1:=λ(K:AV->St->Option (AV×St))=>BW c K (.int .i64 0) (k:= .str t.a) hm f1
   simp only[aL,bu,dI,d0,eo,i0,aY,hlb,hb,aG,Zb1,e0,e2,aW,az,cE,aT,Zb9,lk1,jK,Za4,Zb6,Fw,Zj6,dQ,gC,w0];rw[xe];rcases ake he t.b with⟨n2,j,v,f2⟩|⟨n2,f2⟩
   . have lk2:=λ(K:AV->St->Option (AV×St))=>BW c K (.int .i64 0) (k:= .str t.b) hm f2
     simp only[aL,bu,dI,d1,eo,i1,aY,hlb,hb,aG,Zb1,e1,e2,aW,az,cE,aT,Zb9,lk2,jK,Za4,Zb6,Fw,Zj6,dQ,gC,w1];rw[xe];have:qW gs t=false:=(by simp[qW,n1,n2]);rw[this];simp only[aL,bu,dI,d2,dQ,Zf4,Zh0]
   . have lk2:=λ(K:AV->St->Option (AV×St))=>BW c K (.int .i64 0) (k:= .str t.b) hm f2
     have:qW gs t=true:=(by simp[qW,n2]);rw[this];simp only[aL,bu,dI,d1,eo,i1,aY,hlb,hb,aG,Zb1,e1,e2,aW,az,cE,aT,Zb9,lk2,jK,Za4,Zb6,Fw,Zl3,Zh1]
 . have lk1:=λ(K:AV->St->Option (AV×St))=>BW c K (.int .i64 0) (k:= .str t.a) hm f1
   have:qW gs t=true:=(by simp[qW,n1]);rw[this];simp only[aL,bu,dI,d0,eo,i0,aY,hlb,hb,aG,Zb1,e0,e2,aW,az,cE,aT,Zb9,lk1,jK,Za4,Zb6,Fw,Zl3,Zh1]
theorem auj (hc:Sem c){s0 s:St}{bp mp:Pos}{gs:List aR}{ts:List Ty}{gk tk:Option Pos}(GM:Wf s0)(B:eD s0 s bp mp gs ts gk tk)(hl:ts.length<=200)(t:Ty)(aV:aO t.a t.b=true)(hs:EN ts)(ht:∀u,ts.getLast? =some u->fE t u=false):
   ∃s',c 131 [.ptr bp 0,.str t.a,.str t.b,.int .u8 t.k] s=some (.int .i64 (yK gs ts t),s')/\(yK gs ts t≠0->s'=s)/\(yK gs ts t=0->∃uA,eD s0 s' bp mp gs (ts++[t]) gk uA):=by
 have cN:¬t.a=t.b:=λe=>by rw[e,FJ]at aV;cases aV
 have lF:=Yv hc s bp mp _ _ B.book;have hkt:ZO t=true->(t.k=1\/(¬t.k=1/\t.k=2)):=λq=>by
   simp only[ZO,Zj3,Ze7]at q;by_cases e:t.k=1
   .exact .inl e
   .exact .inr ⟨e,q.resolve_left e⟩
 by_cases hk:ZO t=true
 . have cO  :Wf (ah s (.cells [.str t.a,.str t.b] 0)):=bF B.wf;have B1:=B.ai (Grew.ah B.wf (.cells [.str t.a,.str t.b] 0));have hg1:=Grew.ah B.wf (.cells [.str t.a,.str t.b] 0);have hlb:(ah s (.cells [.str t.a,.str t.b] 0)).heap.get s.next=some (.cells [.str t.a,.str t.b] 0):=aA _ _;generalize hs1:ah s (.cells [.str t.a,.str t.b] 0)=s1 at cO B1 hg1 hlb;obtain⟨es,cl,mR,hm2⟩:=B1.zR;have L:∀k1 k2,mZ c 3 k1 k2 3 [.ptr bp 0,.str t.a,.str t.b,.int .u8 t.k,.slice s.next 0 2 (some 2) 1,.int .i64 2,.int .i64 0] s1=if qW gs t=true then k1 [.int .i64 6] s1 else k2 [.ptr bp 0,.str t.a,.str t.b,.int .u8 t.k] s1:=λk1 k2=>aqI (c:=c) B1.book mR hm2 t s.next hlb 3 k1 k2
   have zx:=Bm hc B1 (by omega) t aV hs ht;have l2:∀(K:AV->St->Option (AV×St))(s:St),aq c (.lenB .l) [.slice (ah s (.cells [] 0)).next 0 2 (some 2) 1] s K=K (.int .i64 2) s:=λK s=>aS c K (λH n=>rfl) s
   have lT:∀(K:AV->St->Option (AV×St))(s:St),aq c (.lenB .l) [kP tk ts.length 3] s K=K (.int .i64 (ts.length:Int)) s:=λK s=>aS c K (Sz λh=>by rw[B.xU.1 h];rfl) s
   have bsl:∀(K:AV->St->Option (AV×St)),aq c (.buildSlice 1 2 [(.str [])] [0,1]) [.str t.a,.str t.b] s K=K (.slice s.next 0 2 (some 2) 1) s1:=λK=>by rw[au, <-hs1];have:cF (bU [AV.str []] 2) ([0,1].map λi=>(i*1,1)) [.str t.a,.str t.b]=some [.str t.a,.str t.b]:=(by simp[cF,bU,cK,cM,aQ,AV.cells]);rw[this];rfl
   have l3:∀(K:AV->St->Option (AV×St))(p:Pos)(s:St),aq c (.lenB .l) [.slice p 0 2 (some 2) 1] s K=K (.int .i64 2) s:=λK p s=>aS c K (λH n=>rfl) s
   have aqJ:¬(ts.length:Int)=256:=(by omega);have fail:∀e:Int,e≠0->yK gs ts t=e->zo c 3 (.ptr bp 0) (.str t.a) (.str t.b) (.int .u8 t.k) s=some (.int .i64 e,s1)->∃s',c 131 [.ptr bp 0,.str t.a,.str t.b,.int .u8 t.k] s=some (.int .i64 (yK gs ts t),s')/\(yK gs ts t≠0->s'=s)/\(yK gs ts t=0->∃uA,eD s0 s' bp mp gs (ts++[t]) gk uA):=λe he ha h=>by
     refine⟨s,?_,λ_=>rfl,λh0=>absurd (ha.symm.trans h0) he⟩;rw[yL hc 3 h,ha,aF (Plain.int _ _) hg1.keeps]
   cases hu:qW gs t
   . cases  hd:vH t ts.getLast?
     .  have he:yK gs ts t=0:=(by simp[yK,hk,hu,hd]);rw[hd]at zx;have hplc:(Qf ts t:Int)=ts.length:=by
          unfold Qf;cases hq:ts.getLast? with
          |none=> have:ts=[]:=by simpa using hq
                  subst this;rfl
          | some u=>
            rw[hq]at hd;simp only[vH,Bool.not_eq_false']at hd;simp only[hd,Zh1]
        rw[hplc]at zx;have hpr:=akb hc t.a t.b t.k aV s1 cO
        let s2:=ah s1 (.cells t.cells 0)
        have g2:=Grew.ah cO (.cells t.cells 0);have B2:=B1.ai g2;obtain⟨s5,r1,r2,r3,r4,r5⟩:=an4 hc (s:=s2) g2.wf (tk:=tk) (ts:=ts) (q:=s1.next) (row:=t.cells) B.xU.1 B2.xU.2 (aA _ _) rfl t.one (by omega);have lt2:=B2.lt;have b5:s5.heap.get bp=some (.cells [kP gk gs.length 9,kP tk ts.length 3,.map mp] 0):=by rw[r5 bp B.dt lt2.1];exact B2.book
        let tv:=AV.slice s2.next 0 (ts.length+1) none 3
        let s6:=bg s5 bp (.cells [kP gk gs.length 9,tv,.map mp] 0)
        have ahv:bp.toNat<s5.next.toNat:=r4 _ _ b5;have nb2:bp≠s2.next:=λe=>absurd (show bp.toNat<s2.next.toNat from lt2.1) (by rw[e];exact Zp4 _)
        have st6:∀(K:AV->St->Option (AV×St)),aq c (.store 1) [.ptr bp 1,tv] s5 K=K .undef s6:=λK=>bY c K s5 1 bp 1 tv _ b5 rfl (by simp) rfl
        have g6:∀p,p≠bp->s6.heap.get p=s5.heap.get p:=λp h=>aH (λe=>h e.symm)
        have alD:∀p:Pos,s0.next.toNat<=p.toNat->s0.heap.get p=none:=λp h=>by
          cases hx:s0.heap.get p with
          |none=>rfl
          |some x=>have:=GM _ _ hx;omega
        obtain⟨Tt,cl2,hm3,hm4⟩:=B2.zR;have nmb:mp≠bp:=λe=>by rw[e,B2.book]at hm3;cases hm3
        have nmt:tk≠some mp:=λe=>by rw[B2.xU.2 mp e]at hm3;cases hm3
        have ahS:eD s0 s6 bp mp gs (ts++[t]) gk (some s2.next):={
          wf:=iG r4 ahv
          keeps:=λp x hp=>by
            have n1:p≠bp:=λe=>by rw[e,B.fb]at hp;cases hp
            have n3:tk≠some p:=λe=>by rw[B.ft p e]at hp;cases hp
            have h2:=B2.keeps p x hp;rw[g6 p n1,r5 p n3 (B2.wf _ _ h2)];exact h2
          next:=by show s0.next.toNat<=s5.next.toNat;exact Zb3 B2.next (by rw[r3,Pos.aD];exact Nat.le_succ _)
          book:=by show(bg _ _ _).heap.get bp=_;rw[bG];simp[tv,kP]
          zR:=⟨Tt,cl2,by rw[g6 mp nmb,r5 mp nmt lt2.2];exact hm3,hm4⟩
          ru:=⟨B.ru.1,λb hb=>by obtain⟨cs,h3,h4⟩:=B2.ru.2 b hb;refine⟨cs,?_,h4⟩;rw[g6 b (λe=>B.dg (by rw[<-e];exact hb)),r5 b (B.ZP b hb) (B2.wf _ _ h3)];exact h3⟩
          xU:=⟨λh=>(by cases h),λb hb=>by cases hb;rw[g6 _ (λe=>nb2 e.symm),r2];simp⟩
          dg:=B.dg
          dt:=λe=>nb2 (by injection e with e;exact e.symm)
          ZP:=λb hb h=>by
            cases h;obtain⟨cs,h3,h4⟩:=B2.ru.2 _ hb;exact absurd (show s2.next.toNat<s2.next.toNat from B2.wf _ _ h3) (Zp4 _)
          fb:=B.fb
          fm:=B.fm
          fg:=B.fg
          ft:=λb hb=>by cases hb;exact alD _ B2.next
          SA:=λes' cl' hm=>by have m6:s6.heap.get mp=s2.heap.get mp:=(by rw[g6 mp nmb,r5 mp nmt lt2.2]);rw[m6]at hm;exact B2.SA _ _ hm
          Oc:=λes' cl' hm=>by have m6:s6.heap.get mp=s2.heap.get mp:=(by rw[g6 mp nmb,r5 mp nmt lt2.2]);rw[m6]at hm;exact B2.Oc _ _ hm
          rows:=λb cs hb hs i u hu=>by
            obtain⟨ZQ,h3,h4⟩:=B2.ru.2 b hb;have x6:s6.heap.get b=s2.heap.get b:=(by rw[g6 b (λe=>B.dg (by rw[<-e];exact hb)),r5 b (B.ZP b hb) (B2.wf _ _ h3)]);rw[x6]at hs;(refine(B2.rows b cs hb hs i u hu).to λp cs a1 a2 a3 hx=> ?_);have aV:p.toNat<s2.next.toNat:=B2.wf _ _ hx;refine⟨by rw[g6 p a1,r5 p a3 aV];exact hx,a2,λe=> ?_⟩;cases e;exact absurd aV (Zp4 _) }
        refine⟨s6,?_,λh=>absurd he h,λ_=>⟨_,ahS⟩⟩;rw[he];rw[yL hc 3 (r:=(.int .i64 0,s6))]
        . rw[ado (b:=bp) B.book];rw[ahS.book];intro e;have e:=congrArg (λo=>match o with|some (AB.cells (_::v::_) _)=>dR v|_=>none) e;simp only[kP,dR]at e;cases tk with
          |none=>simp[dR,B.xU.1 rfl]at e
          |some b=>simp[dR]at e
        (rw[vJ];have bq:eO (kP tk ts.length 3) (kP tk ts.length 3)=true:=(by cases tk;exact RF;exact MZ _ _ _ _);have Lt:=λ(K:AV->Option (AV×St))=>kW K (p:=bp) (o:=1) (h:=s1.heap) (h2:=s1.heap) (v:=kP tk ts.length 3) (by rw[B1.book];rfl) (by rw[B1.book];rfl) bq);have Cy:cF (bU [AV.str [],AV.str [],.int .u8 0] 1) [(0,3)] [AV.agg t.cells]=some t.cells:=by
          simp[cF,bU,cK,cM,Ty.cells,aQ]
        have arS:decide ((ts.length:Int)=256)=false:=Za2 aqJ;rw[hu]at L;rcases hkt hk with f|⟨f,f2⟩
        .have d1:decide (t.k=1)=true:=Za0 f;simp[-au,lF,cN,bsl,l3,d1,L,zx,B1.book,lT,arS,hpr,Lt,Cy];show aaD (c 185 [kP tk ts.length 3,.int .i64 (ts.length:Int),.slice s1.next 0 1 (some 1) 3] s2) _=_;rw[r1];exact st6 _
        .have d1:decide (t.k=1)=false:=Za2 f;have d2:decide (t.k=2)=true:=Za0 f2;simp[-au,lF,cN,bsl,l3,d1,d2,L,zx,B1.book,lT,arS,hpr,Lt,Cy];show aaD (c 185 [kP tk ts.length 3,.int .i64 (ts.length:Int),.slice s1.next 0 1 (some 1) 3] s2) _=_;rw[r1];exact st6 _
     .  refine fail 5 (by omega) (by simp[yK,hk,hu,hd]) ?_;rw[hd]at zx;rw[hu]at L;rw[vJ];rcases hkt hk with f|⟨f,f2⟩
        .have d1:decide (t.k=1)=true:=Za0 f;simp[-au,lF,cN,bsl,l3,d1,L,zx]
        .have d1:decide (t.k=1)=false:=Za2 f;have d2:decide (t.k=2)=true:=Za0 f2;simp[-au,lF,cN,bsl,l3,d1,d2,L,zx]
   . refine fail 6 (by omega) (by simp[yK,hk,hu]) ?_;rw[hu]at L;rw[vJ];rcases hkt hk with f|⟨f,f2⟩
     .  have d1:decide (t.k=1)=true:=Za0 f;simp[-au,lF,cN,bsl,l3,d1,L]
     .  have d1:decide (t.k=1)=false:=Za2 f;have d2:decide (t.k=2)=true:=Za0 f2;simp[-au,lF,cN,bsl,l3,d1,d2,L]
 .have hkf:¬t.k=1/\¬t.k=2:=(by simpa [ZO]using hk);have he:yK gs ts t=23:=(by simp[yK,hk]);refine⟨s,?_,λ_=>rfl,λh0=>absurd (he.symm.trans h0) (by omega)⟩;rw[yL hc 3 (r:=(.int .i64 23,s)),he,aF (Plain.int _ _) (aX.refl s)];rw[vJ];simp[lF,hkf]
@[simp] theorem avK{R:Type}(K:AV->Option R)(z:Bool)(l:List aR):fq (.lenB .l) [dm z l] K=K (.int .i64 (l.length:Int)):=by unfold dm;rw[agO];simp
theorem aqK{gs:List aR}{k:Nat}(h:k<gs.length)(hk:k<=64):yJ (gs.take k) gs[k]=if jO gs[k]≠0 then jO gs[k]else if 0<=scan (nP gs gs[k].name) k 0 then 5 else if 64<=k then 7 else 0:=by
 have hl:(gs.take k).length=k:=by simp;omega
 unfold yJ;rw[hl,aqD (by omega)];have:(k=64)↔64<=k:=by omega
 simp only[this]
@[simp] theorem ave{R:Type}(c:aj)(K:AV->St->Option R)(st:St)(t:aR)(cs:List AV)(h:cs.length=9):aq c (.store 9) [.ptr st.next 0,.agg t.cells] (ah st (.cells cs 0)) K=K .undef (ah st (.cells t.cells 0)):=cG c K st 9 (.agg t.cells) cs rfl h.symm t.one
theorem asY (hc:Sem c){s0:St}(GM:Wf s0)(z:Bool)(gs:List aR)(hl:gs.length<=100)(bp mp rp:Pos)(F:Nat)(k1 k2):∀(m k:Nat)(s:St)(gk:Option Pos),eD s0 s bp mp (gs.take k) [] gk none->gs.length<=k+m->k<=gs.length->k<=64->
  ∃ s',aX s0 s'/\(((oI gs m k).2=0/\(∃TM,eD s0 s' bp mp gs [] TM none)/\kO c F k1 k2 (m+1) [.ptr rp 0,.ptr bp 0,dm z gs,.int .i64 (gs.length:Int),.int .i64 (k:Int)] s=k2 [.ptr rp 0,.ptr bp 0] s')\/
    ((oI gs m k).2≠0/\kO c F k1 k2 (m+1) [.ptr rp 0,.ptr bp 0,dm z gs,.int .i64 (gs.length:Int),.int .i64 (k:Int)] s=k1 [.jf,.int .i64 (oI gs m k).1,.int .i64 (oI gs m k).2] s')):=by
 intro m;induction m with
 |zero=>
  intro k s gk B h1 h2 h3;obtain rfl:k=gs.length:=by omega
  refine⟨s,B.keeps,.inl ⟨rfl,⟨gk,by simpa using B⟩,?_⟩⟩;rw[xV];simp
 |succ m ih   =>
  intro k s gk B h1 h2 h3;by_cases h:k<gs.length
  . have w:ax .i64 ((k:Int)+1)=((k+1:Nat):Int):=wrap64 (by omega) (by omega);have B1:=B.ai (Grew.ah B.wf (.cells gs[k].cells 0));obtain⟨s2,a1,a2,a3⟩:=auh hc GM B1 (by simp;omega) gs[k];have hA:=aqK h h3;have step:∀(K:AV->St->Option (AV×St)),(aq c (.idxA 9 none) [dm z gs,.int .i64 (k:Int)] s λx19 s12=>aq c (.load (some 9)) [x19] s12 K)=K (.agg gs[k].cells) s:=λK=>by
        simp[dm,h]
    by_cases he:yJ (gs.take k) gs[k]=0
    .   obtain⟨TM,B2⟩:=a3 he;have e1:gs.take k++[gs[k]]=gs.take (k+1):=(Zc7 h).symm;rw[e1]at B2;rw[hA]at he;have c1:jO gs[k]=0:=by
         by_cases e:jO gs[k]=0
         .  exact e
         .  rw[Zb4 e]at he;exact absurd he e
        (rw[Za6 (by rw[c1];simp)]at he;have c2:¬0<=scan (nP gs gs[k].name) k 0:=λe=>by rw[Zb4 e]at he;cases he);(rw[Za6 c2]at he;have c3:¬64<=k:=λe=>by rw[Zb4 e]at he;cases he);have ec:oI gs (m+1) k=oI gs m (k+1):=by
         rw[oI,H0 h];simp only;rw[Za6 (by rw[c1];simp),Za6 c2,Za6 c3]
        obtain⟨s',g1,g2⟩:=ih (k+1) s2 TM B2 (by omega) (by omega) (by omega);refine⟨s',g1,?_⟩;rw[ec];have eL:kO c F k1 k2 (m+1+1) [.ptr rp 0,.ptr bp 0,dm z gs,.int .i64 (gs.length:Int),.int .i64 (k:Int)] s=kO c F k1 k2 (m+1) [.ptr rp 0,.ptr bp 0,dm z gs,.int .i64 (gs.length:Int),.int .i64 ((k+1:Nat):Int)] s2:=by
         rw[xV];have hz:yJ (gs.take k) gs[k]=0:=(by rw[hA,Za6 (by rw[c1];simp),Za6 c2,Za6 c3]);rw[hz]at a1;simp[dm,h,a1,w]
        rw[eL];exact g2
    .   obtain rfl:=a2 he;have ec:oI gs (m+1) k=((k:Int),yJ (gs.take k) gs[k]):=by
         rw[oI,H0 h];simp only;rw[hA]at he ⊢;by_cases c1:jO gs[k]=0
         .  have e1:¬jO gs[k]≠0:=(by rw[c1];simp);by_cases c2:0<=scan (nP gs gs[k].name) k 0
            .simp only[e1,c2,Zh0,Zh1]
            . by_cases c3:64<=k
              .simp only[e1,c2,c3,Zh0,Zh1]
              .rw[Za6 e1,Za6 c2,Za6 c3]at he;exact absurd rfl he
         .  have e1:jO gs[k]≠0:=c1;rw[Zb4 e1,Zb4 e1]
        refine⟨_,B1.keeps,.inr ⟨by rw[ec];exact he,?_⟩⟩;rw[ec,xV];simp[dm,h,a1,he]
  .obtain rfl:k=gs.length:=(by omega);have ec:oI gs (m+1) gs.length=(0,0):=(by rw[oI,Zc2 (by omega)]);refine⟨s,B.keeps,.inl ⟨by rw[ec],⟨gk,by simpa using B⟩,?_⟩⟩;rw[xV];simp
theorem aba{ts:List Ty}{k:Nat}(h:k<ts.length):(ts.take k).getLast? =pg ts k:=by
 unfold pg;by_cases h0:k=0
 .simp[h0]
 .rw[Za6 h0,List.getLast?_eq_getElem?];have:(ts.take k).length=k:=(by simp;omega);rw[this,Ze3,Zb4 (by omega)]
theorem aqL{ts:List Ty}{k:Nat}(h:k<ts.length)(hs:EN (ts.take k))(hb:∀u,pg ts k=some u->fE u ts[k]=true):EN (ts.take (k+1)):=by
 intro i j hj VU;have KE:j<k+1:=by simp at hj;omega
 simp only[Zo7];by_cases e:j=k
 . subst e;have h1:pg ts j=some (ts[j - 1]'(by omega)):=(by rw[pg,Za6 (by omega),H0 (by omega)]);have h2:=hb _ h1;by_cases e2:i=j - 1
   .subst e2;exact h2
   .have h3:=hs i (j - 1) (by simp;omega) (by omega);simp only[Zo7]at h3;exact Kf h3 h2
 .have:=hs i j (by simp;omega) VU;simpa only[Zo7]using this
def acC(t:Ty)(p:Option Ty):Bool:=match p with|none=>false|some p=>fE t p
theorem aqM(t:Ty)(p:Option Ty):afZ t p=(!ZO t|| !aO t.a t.b||acC t p):=by cases p<;>rfl
def okT(t:Ty)(p:Option Ty):Bool:=aO t.a t.b&& !acC t p
def eK(gs:List aR)(ts:List Ty)(k:Nat)(t:Ty):Int:=if okT t (pg ts k)=true then yK gs (ts.take k) t else 23
theorem asZ (hc:Sem c){s0:St}(GM:Wf s0)(z z2:Bool)(gs:List aR)(ts:List Ty)(hl:gs.length<=100)(ri:ts.length<=100)(bp mp rp:Pos)(Vv:s0.heap.get rp=some (.cells [dm z gs,gL z2 ts] 0))(gk:Option Pos)(F:Nat)(k1 k4):∀(m k:Nat)(s:St)(tk:Option Pos),eD s0 s bp mp gs (ts.take k) gk tk->EN (ts.take k)->ts.length<=k+m->k<=ts.length->
  ∃s',aX s0 s'/\((jP gs ts m k).2=0->(∃uA,eD s0 s' bp mp gs ts gk uA)/\EN ts)/\nu c F k1 k4 (m+1) [.ptr rp 0,.ptr bp 0,gL z2 ts,.int .i64 (ts.length:Int),.int .i64 (k:Int)] s=if(jP gs ts m k).2=0 then k4 [.ptr bp 0] s' else k1 [.jf,.int .i64 (jP gs ts m k).1,.int .i64 (jP gs ts m k).2] s':=by
 intro m;induction m with
 |zero=>
  intro k s tk B hs h1 h2;obtain rfl:k=ts.length:=by omega
  refine⟨s,B.keeps,λ_=>⟨⟨tk,by simpa using B⟩,by simpa using hs⟩,?_⟩;rw[xW];simp[jP]
 |succ m ih   =>
  intro k s tk B hs h1 h2;by_cases h:k<ts.length
  . have w:ax .i64 ((k:Int)+1)=((k+1:Nat):Int):=wrap64 (by omega) (by omega);have wg:ax .i64 ((gs.length:Int)+(k:Int))=(gs.length:Int)+k:=wrap64 (by omega) (by omega);have B1:=B.ai (Grew.ah B.wf (.cells ts[k].cells 0));have ke:(ah s (.cells ts[k].cells 0)).heap.get rp=some (.cells [dm z gs,gL z2 ts] 0):=B1.keeps _ _ Vv;have cO:=B1.wf;have aqJ:¬256<=k:=(by omega);have ec:jP gs ts (m+1) k=if eK gs ts k ts[k]≠0 then((gs.length:Int)+k,eK gs ts k ts[k])else jP gs ts m (k+1):=by rw[jP,H0 h];simp only[aqJ,Zh0];rw[aqM];unfold eK okT yK;rw[aba h];cases ZO ts[k]<;>cases aO ts[k].a ts[k].b<;>cases acC ts[k] (pg ts k)<;>cases qW gs ts[k]<;>cases vH ts[k] (pg ts k)<;>simp
    have aaw:okT ts[k] (pg ts k)=true->∃s',aX s0 s'/\(eK gs ts k ts[k]=0->(jP gs ts m (k+1)).2=0->(∃uA,eD s0 s' bp mp gs ts gk uA)/\EN ts)/\∃s2,c 131 [.ptr bp 0,.str ts[k].a,.str ts[k].b,.int .u8 ts[k].k] (ah s (.cells ts[k].cells 0))=some (.int .i64 (eK gs ts k ts[k]),s2)/\s2.heap.get rp=some (.cells [dm z gs,gL z2 ts] 0)/\
          (eK gs ts k ts[k]≠0->s'=s2)/\(eK gs ts k ts[k]=0->
            nu c F k1 k4 (m+1) [.ptr rp 0,.ptr bp 0,gL z2 ts,.int .i64 (ts.length:Int),.int .i64 ((k+1:Nat):Int)] s2=if(jP gs ts m (k+1)).2=0 then k4 [.ptr bp 0] s' else k1 [.jf,.int .i64 (jP gs ts m (k+1)).1,.int .i64 (jP gs ts m (k+1)).2] s'):=λcw=>by
        have ahW:=cw;simp only[okT,Zb2,Zj7]at ahW;obtain⟨b2,b3⟩:=ahW;have avf:∀u,(ts.take k).getLast? =some u->fE ts[k] u=false:=λu hu=>by rw[aba h]at hu;rw[hu]at b3;exact b3
        obtain⟨s2,a1,a2,a3⟩:=auj hc GM B1 (by simp;omega) ts[k] b2 hs avf;have et:eK gs ts k ts[k]=yK gs (ts.take k) ts[k]:=(by unfold eK;rw[Zb4 cw]);rw[<-et]at a1 a2 a3;by_cases h0:eK gs ts k ts[k]=0
        . obtain⟨uA,B2⟩:=a3 h0;have e1:ts.take k++[ts[k]]=ts.take (k+1):=(Zc7 h).symm;rw[e1]at B2;have hd:vH ts[k] (pg ts k)=false:=by
            rw[et,yK,aba h]at h0;cases hq:vH ts[k] (pg ts k)
            .rfl
            . rw[hq]at h0;split at h0
              .simp at h0
              .split at h0<;>simp at h0
          have tT:=aqL h hs (λu hu2=>by rw[hu2]at hd;simpa [vH]using hd);obtain⟨s',g1,gB,g2⟩:=ih (k+1) s2 uA B2 tT (by omega) (by omega);exact⟨s',g1,λ_=>gB,s2,a1,B2.keeps _ _ Vv,λe=>absurd h0 e,λ_=>g2⟩
        .obtain rfl:=a2 h0;exact⟨_,B1.keeps,λe=>absurd e h0,_,a1,ke,λ_=>rfl,λe=>absurd e h0⟩
    rw[ec];cases cw:okT ts[k] (pg ts k)
    ·
        have e23:eK gs ts k ts[k]=23:=(by unfold eK;rw[cw];rfl);refine⟨_,B1.keeps,λe=>(by rw[e23,Zb4 (by decide)]at e;cases e),?_⟩;rw[xW,e23];cases q1:aO ts[k].a ts[k].b
        .simp[gL,h,q1,iZ,ke,wg]
        . have q2:acC ts[k] (pg ts k)=true:=(by simpa [okT,q1]using cw);have rj:¬k=0:=λe=>by rw[pg,Zb4 e]at q2;cases q2
          have Aw:k - 1<ts.length:=(by omega);have wk:ax .i64 ((k:Int) - 1)=((k - 1:Nat):Int):=(by rw[wrap64 (by omega) (by omega)];omega);have q3:fE ts[k] ts[k - 1]=true:=(by rw[pg,Za6 rj,H0 Aw]at q2;exact q2);have ho:=Lr hc ts[k - 1] ts[k] _ cO;have EG:¬uG ts[k - 1] ts[k]<=0:=(by have:=Yu.2 q3;omega);simp[gL,h,q1,iZ,ke,wg,rj,Aw,wk,ho,EG]
    .   obtain⟨s',g1,gB,s2,t1,t2,t3,t4⟩:=aaw cw;refine⟨s',g1,λe=>by
          by_cases he:eK gs ts k ts[k]=0
          .exact gB he (by rw[Za6 (by simp[he])]at e;exact e)
          .rw[Zb4 he]at e;exact absurd e he,?_⟩
        rw[xW];have ahW:=cw;simp only[okT,Zb2,Zj7]at ahW;obtain⟨q1,q2⟩:=ahW;by_cases he:eK gs ts k ts[k]=0
        . have t4:=t4 he;rw[he]at t1;simp only[he,ne_eq,not_true,Zh0];rw[<-t4];by_cases rj:k=0
          .have dk:decide ((k:Int)=0)=true:=Za0 (by omega);have dk':decide (k=0)=true:=Za0 rj;clear rj;simp[gL,h,q1,iZ,ke,dk,dk',t1,w]
          . have Aw:k - 1<ts.length:=(by omega);have wk:ax .i64 ((k:Int) - 1)=((k - 1:Nat):Int):=(by rw[wrap64 (by omega) (by omega)];omega);have q3:fE ts[k] ts[k - 1]=false:=(by rw[pg,Za6 rj,H0 Aw]at q2;exact q2);have ho:=Lr hc ts[k - 1] ts[k] _ cO;have EG:uG ts[k - 1] ts[k]<=0:=by
              have:¬0<uG ts[k - 1] ts[k]:=λe=>by rw[Yu.1 e]at q3;cases q3
              omega
            simp[gL,h,q1,iZ,ke,rj,Aw,wk,ho,EG,t1,w]
        . obtain rfl:=t3 he;simp only[he,ne_eq,not_false_eq_true,Zh1,Zh0];by_cases rj:k=0
          .have dk:decide ((k:Int)=0)=true:=Za0 (by omega);have dk':decide (k=0)=true:=Za0 rj;clear rj;simp[gL,h,q1,iZ,ke,dk,dk',t1,t2,wg,he]
          . have Aw:k - 1<ts.length:=(by omega);have wk:ax .i64 ((k:Int) - 1)=((k - 1:Nat):Int):=(by rw[wrap64 (by omega) (by omega)];omega);have q3:fE ts[k] ts[k - 1]=false:=(by rw[pg,Za6 rj,H0 Aw]at q2;exact q2);have ho:=Lr hc ts[k - 1] ts[k] _ cO;have EG:uG ts[k - 1] ts[k]<=0:=by
              have:¬0<uG ts[k - 1] ts[k]:=λe=>by rw[Yu.1 e]at q3;cases q3
              omega
            simp[gL,h,q1,iZ,ke,rj,Aw,wk,ho,EG,t1,t2,wg,he]
  .obtain rfl:k=ts.length:=(by omega);refine⟨s,B.keeps,λ_=>⟨⟨tk,by simpa using B⟩,by simpa using hs⟩,?_⟩;rw[xW];have ec:jP gs ts (m+1) ts.length=(0,0):=(by rw[jP,Zc2 (by omega)]);simp[ec]
theorem Qg(hc:Sem c)(z z2:Bool)(gs:List aR)(ts:List Ty)(hl:gs.length<=100)(ri:ts.length<=100)(s:St)(hw:Wf s):
   ∃v s',c 68 [.agg [dm z gs,gL z2 ts]] s=some (.tuple [v,.int .i64 (dU gs ts).1,.int .i64 (dU gs ts).2],s')/\aX s s'/\((dU gs ts).2=0->∃bp mp gk tk,v= .ptr bp 0/\eD (ah s (.cells [dm z gs,gL z2 ts] 0)) s' bp mp gs ts gk tk/\EN ts):=by
 let s0:=ah s (.cells [dm z gs,gL z2 ts] 0)
 have GM:Wf s0:=bF hw;have k0:aX s s0:=cq hw;have Vv:s0.heap.get s.next=some (.cells [dm z gs,gL z2 ts] 0):=aA _ _;have aau:=aug hc s0;have B:=eD.start GM
 have finish:∀{v:AV}{s':St},Dh c 102 (.agg [dm z gs,gL z2 ts]) s=some (.tuple [v,.int .i64 (dU gs ts).1,.int .i64 (dU gs ts).2],s')->aX s0 s'->((dU gs ts).2=0->∃bp mp gk tk,v= .ptr bp 0/\eD s0 s' bp mp gs ts gk tk/\EN ts)->
     ∃v s',c 68 [.agg [dm z gs,gL z2 ts]] s=some (.tuple [v,.int .i64 (dU gs ts).1,.int .i64 (dU gs ts).2],s')/\aX s s'/\((dU gs ts).2=0->∃bp mp gk tk,v= .ptr bp 0/\eD s0 s' bp mp gs ts gk tk/\EN ts):=λ{v s'} h hk hB=>by
   have h2:=adU hc 102 h;unfold tidy at h2;split at h2
   .rename_i hp;exact⟨v,s,h2,aX.refl s,λe=>by obtain⟨bp,mp,gk,tk,rfl,_⟩:=hB e;exact absurd hp.1 TG⟩
   .exact⟨v,s',h2,k0.trans hk,hB⟩
 obtain⟨s1,g1,g2⟩:=asY hc GM z gs hl (ah s0 (.map [] 0)).next s0.next s.next 102 (λvs s30=>gV vs λx2 vs=>gV vs λx3 vs=>gV vs λx4 vs=>mo vs (some (.tuple [x2,x3,x4],s30))) (λvs s31=>gV vs λx1 vs=>gV vs λx5 vs=>mo vs (
   aq c (.fieldA 1) [x1] s31 λx29 s32=>aq c (.load none) [x29] s32 λx30 s33=>aq c (.lenB .l) [x30] s33 λx31 s34=>aq c .move [(.int .i64 0)] s34 λx32 s35=>
   nu c 102 (λvs s80=>gV vs λx2 vs=>gV vs λx3 vs=>gV vs λx4 vs=>mo vs (some (.tuple [x2,x3,x4],s80))) (λvs s81=>gV vs λx5 vs=>mo vs (
     aq c .move [x5] s81 λx74 s82=>aq c .move [x74] s82 λx2 s83=>aq c .move [(.int .i64 0)] s83 λx3 s84=>aq c .move [(.int .i64 0)] s84 λx4 s85=>some (.tuple [x2,x3,x4],s85))) 102 [x1,x5,x30,x31,x32] s35)) 101 0 _ none B (by omega) (by omega) (by omega)
 have an5:∀r,kO c 102 (λvs s30=>gV vs λx2 vs=>gV vs λx3 vs=>gV vs λx4 vs=>mo vs (some (.tuple [x2,x3,x4],s30))) (λvs s31=>gV vs λx1 vs=>gV vs λx5 vs=>mo vs (
   aq c (.fieldA 1) [x1] s31 λx29 s32=>aq c (.load none) [x29] s32 λx30 s33=>aq c (.lenB .l) [x30] s33 λx31 s34=>aq c .move [(.int .i64 0)] s34 λx32 s35=>
   nu c 102 (λvs s80=>gV vs λx2 vs=>gV vs λx3 vs=>gV vs λx4 vs=>mo vs (some (.tuple [x2,x3,x4],s80))) (λvs s81=>gV vs λx5 vs=>mo vs (
     aq c .move [x5] s81 λx74 s82=>aq c .move [x74] s82 λx2 s83=>aq c .move [(.int .i64 0)] s83 λx3 s84=>aq c .move [(.int .i64 0)] s84 λx4 s85=>some (.tuple [x2,x3,x4],s85))) 102 [x1,x5,x30,x31,x32] s35)) 102 [.ptr s.next 0,.ptr (ah s0 (.map [] 0)).next 0,dm z gs,.int .i64 (gs.length:Int),.int .i64 ((0:Nat):Int)] (ah (ah s0 (.map [] 0)) (.cells [.af,.af,.map s0.next] 0))=r->Dh c 102 (.agg [dm z gs,gL z2 ts]) s=r:=λr h=>by
   rw[<-h,ahX];have hb:=(B.keeps _ _ Vv)
   simp only[dy,WS,az,cY];show aaD (c 128 [] s0) _=_;rw[aau];simp only[cL,aT,aY,hb,aG,Zb1,Za4,Zb9,aW,aqy];rfl
 rcases g2 with⟨q1,⟨TM,B2⟩,q3⟩|⟨q1,q3⟩
 . have e:dU gs ts=jP gs ts 101 0:=(by rw[dU,Za6 (by simp[q1])]);obtain⟨s2,r1,rB,r2⟩:=asZ hc GM z z2 gs ts hl ri (ah s0 (.map [] 0)).next s0.next s.next Vv TM 102 (λvs s80=>gV vs λx2 vs=>gV vs λx3 vs=>gV vs λx4 vs=>mo vs (some (.tuple [x2,x3,x4],s80))) (λvs s81=>gV vs λx5 vs=>mo vs (
     aq c .move [x5] s81 λx74 s82=>aq c .move [x74] s82 λx2 s83=>aq c .move [(.int .i64 0)] s83 λx3 s84=>aq c .move [(.int .i64 0)] s84 λx4 s85=>some (.tuple [x2,x3,x4],s85))) 101 0 s1 none (by simpa using B2) (by intro i j hj;simp at hj) (by omega) (by omega)
   have kg:s1.heap.get s.next=some (.cells [dm z gs,gL z2 ts] 0):=B2.keeps _ _ Vv;have hL:=an5 _ q3;simp only[aL,bu,aT,aY,kg,aG,Zb1,Zb6,Za4,Zb9,aW,aqC,az]at hL;have r2':=r2;rw[show(((0:Nat):Int))=0 from rfl]at r2';simp only[az,Nat.reduceAdd]at r2';rw[r2']at hL;rw[e]at finish ⊢;by_cases h2:(jP gs ts 101 0).2=0
   . have h3:=acB gs ts 101 0 h2;rw[Zb4 h2]at hL;simp only[aL,bu]at hL;exact finish (by rw[h2,h3];exact hL) r1 (λe=>by
        obtain⟨⟨uA,B3⟩,hs⟩:=rB e;exact⟨_,_,_,_,rfl,B3,hs⟩)
   .rw[Za6 h2]at hL;simp only[aL,bu]at hL;exact finish hL r1 (λe=>absurd e h2)
 .have e:dU gs ts=oI gs 101 0:=(by rw[dU,Zb4 q1]);have hL:=an5 _ q3;simp only[aL,bu]at hL;rw[e]at finish ⊢;exact finish hL g1 (λe=>absurd e q1)
theorem ahY(hc:Sem c)(z z2:Bool)(gs:List aR)(ts:List Ty)(hl:gs.length<=100)(ri:ts.length<=100)(s:St)(hw:Wf s):c 89 [.agg [dm z gs,gL z2 ts]] s=some (.tuple [.int .i64 (dU gs ts).1,.int .i64 (dU gs ts).2],s):=by
 have GM:Wf (ah s (.cells [dm z gs,gL z2 ts] 0)):=bF hw;obtain⟨v,s',h1,h2,_⟩:=Qg hc z z2 gs ts hl ri _ GM;have hcc:cut [dm z gs,gL z2 ts] 0 2=some [dm z gs,gL z2 ts]:=cQ rfl;rw[UP hc 1 (r:=(.tuple [.int .i64 (dU gs ts).1,.int .i64 (dU gs ts).2],s')),aF (Plain.tuple (by simp[Plain.int])) ((cq hw).trans h2)];rw[Y6];simp[hcc,h1]
structure Rl where
 k:Int
 wt:Int
 a:List Nat
 b:List Nat
 t:List Nat
 n:Int
def Rl.cells(r:Rl):List AV:=[.int .u8 r.k,.int .i64 r.wt,.str r.a,.str r.b,.str r.t,.int .i64 r.n]
@[simp] theorem Rl.c0(t:Rl):t.cells[0]? =some (.int .u8 t.k):=id rfl
@[simp] theorem Rl.c1(t:Rl):t.cells[1]? =some (.int .i64 t.wt):=id rfl
@[simp] theorem Rl.c2(t:Rl):t.cells[2]? =some (.str t.a):=id rfl
@[simp] theorem Rl.c3(t:Rl):t.cells[3]? =some (.str t.b):=id rfl
@[simp] theorem Rl.c4(t:Rl):t.cells[4]? =some (.str t.t):=id rfl
@[simp] theorem Rl.c5(t:Rl):t.cells[5]? =some (.int .i64 t.n):=id rfl
@[simp] theorem Rl.cc(t:Rl):cut t.cells 0 6=some t.cells:=cQ rfl
@[simp] theorem Rl.one(t:Rl):aN t.cells=true:=id rfl
def jx(z:Bool)(rs:List Rl):AV:=ro 6 z (rs.map Rl.cells)
@[simp] theorem avL{R:Type}(c:aj)(K:AV->St->Option R)(st:St)(z:Bool)(l:List Rl):aq c (.lenB .l) [jx z l] st K=K (.int .i64 (l.length:Int)) st:=by unfold jx;rw[jv];simp
structure cr where
 tz:Bool
 ts:List aB
 gz:Bool
 gs:List aR
 yz:Bool
 ys:List Ty
 cz:Bool
 cs:List Int
 rz:Bool
 rs:List Rl
def cr.cells(p:cr):List AV:=[tabs p.tz p.ts,dm p.gz p.gs,gL p.yz p.ys,ints p.cz p.cs,jx p.rz p.rs]
@[simp] theorem cr.c0(p:cr):p.cells[0]? =some (tabs p.tz p.ts):=id rfl
@[simp] theorem cr.c1(p:cr):p.cells[1]? =some (dm p.gz p.gs):=id rfl
@[simp] theorem cr.c2(p:cr):p.cells[2]? =some (gL p.yz p.ys):=id rfl
@[simp] theorem cr.c3(p:cr):p.cells[3]? =some (ints p.cz p.cs):=id rfl
@[simp] theorem cr.c4(p:cr):p.cells[4]? =some (jx p.rz p.rs):=id rfl
@[simp] theorem cr.cc(p:cr):cut p.cells 0 5=some p.cells:=cQ rfl
structure cr.Gw(p:cr):Prop where
 ts:p.ts.length<=100
 gs:p.gs.length<=100
 ys:p.ys.length<=100
 cs:p.cs.length<=100
 rs:p.rs.length<=100
 ok:∀t∈p.ts,t.Ok
def zq(l:List Int):Bool:=l.all λc=>decide (0<=c)&&decide (c<64)
def jF(p:cr):Int×Int:=
 if(bR p.ts).2≠0 then bR p.ts else if(dU p.gs p.ys).2≠0 then dU p.gs p.ys
 else if p.cs.length≠0/\p.cs.length≠p.gs.length then(0,44)else if zq p.cs=false then(0,44)
 else if aU p.ts<p.gs.length then(0,45)else(0,0)
theorem ajc{p:cr}(h:(jF p).2=0):(jF p).1=0:=by
 unfold jF at h ⊢;by_cases h1:(bR p.ts).2≠0
 .rw[Zb4 h1]at h;exact absurd h h1
 rw[Za6 h1]at h ⊢;by_cases h2:(dU p.gs p.ys).2≠0
 .rw[Zb4 h2]at h;exact absurd h h2
 rw[Za6 h2]
 repeat' split
 all_goals rfl
theorem alG(p:cr)(hp:p.Gw)(q:Pos)(F:Nat)(s:St)(k1 k2):∀(m k:Nat),p.cs.length<=k+m->k<=p.cs.length->
  r9 c F k1 k2 (m+1) [.ptr q 0,ints p.cz p.cs,.int .i64 (p.cs.length:Int),.int .i64 (k:Int)] s=if zq (p.cs.drop k)=true then k2 [.ptr q 0] s else k1 [.int .i64 0,.int .i64 44] s:=by
 have hl:=hp.cs;intro m;induction m with
 |zero=>
  intro k h1 h2;obtain rfl:k=p.cs.length:=by omega
  rw[Nh];simp[zq]
 |succ m ih=>
  intro k h1 h2;rw[Nh];by_cases h:k<p.cs.length
  . have e:p.cs.drop k=p.cs[k]::p.cs.drop (k+1):=Ze2 h;have w:ax .i64 ((k:Int)+1)=((k+1:Nat):Int):=wrap64 (by omega) (by omega);have:=ih (k+1) (by omega) (by omega);have ec:zq (p.cs.drop k)=((decide (0<=p.cs[k])&&decide (p.cs[k]<64))&&zq (p.cs.drop (k+1))):=(by rw[e];rfl);rw[ec];generalize zq (p.cs.drop (k+1))=rest at this ⊢;by_cases h3:p.cs[k]<0
    .   have h4:(decide (0<=p.cs[k])&&decide (p.cs[k]<64))=false:=(by simp;omega);rw[h4];simp[ints,h,h3]
    .   by_cases h5:64<=p.cs[k]
        .have h4:(decide (0<=p.cs[k])&&decide (p.cs[k]<64))=false:=(by simp;omega);rw[h4];simp[ints,h,h3,h5]
        .have h4:(decide (0<=p.cs[k])&&decide (p.cs[k]<64))=true:=(by simp;omega);rw[h4,Zg5, <-this];simp[ints,h,h3,h5,w]
  .obtain rfl:k=p.cs.length:=(by omega);simp[zq]
theorem acD{d:Nat}(z:Bool)(l:List Int):fS (d+1) (ints z l):=fS.ro λr hr v hv=>by simp only[Zc6]at hr;obtain⟨i,_,rfl⟩:=hr;simp only[Zh9]at hv;subst hv;exact fS.int _ _
theorem alH{d:Nat}(z:Bool)(l:List (List Nat)):fS (d+1) (kY z l):=fS.ro λr hr v hv=>by simp only[Zc6]at hr;obtain⟨i,_,rfl⟩:=hr;simp only[Zh9]at hv;subst hv;exact fS.str _
theorem alI(z:Bool)(l:List aR):fS 3 (dm z l):=fS.ro λr hr v hv=>by simp only[Zc6]at hr;obtain⟨g,_,rfl⟩:=hr;simp only[aR.cells,Za9,Zc3,Zf0]at hv;rcases hv with rfl|rfl|rfl|rfl|rfl|rfl|rfl|rfl|rfl<;>first|exact fS.str _|exact fS.int _ _|exact fS.bool _|exact alH _ _
theorem an6(z:Bool)(l:List Rl):fS 3 (jx z l):=fS.ro λr hr v hv=>by simp only[Zc6]at hr;obtain⟨g,_,rfl⟩:=hr;simp only[Rl.cells,Za9,Zc3,Zf0]at hv;rcases hv with rfl|rfl|rfl|rfl|rfl|rfl<;>first|exact fS.str _|exact fS.int _ _|exact fS.bool _
theorem ve(z z2:Bool)(gs:List aR)(ts:List Ty):cF [.af,.af] [(0,1),(1,1)] [dm z gs,gL z2 ts]=some [dm z gs,gL z2 ts]:=by have e1:(dm z gs).cells=[dm z gs]:=agS _ _ _;have e2:(gL z2 ts).cells=[gL z2 ts]:=agS _ _ _;unfold cF;rw[e1];show cF [dm z gs,.af] [(1,1)] [gL z2 ts]=_;unfold cF;rw[e2];rfl
def acE(c:aj)(p:cr):Prop:=(∀st,Wf st->c 89 [.agg [dm p.gz p.gs,gL p.yz p.ys]] st=some (.tuple [.int .i64 (dU p.gs p.ys).1,.int .i64 (dU p.gs p.ys).2],st))
theorem aqN (hc:Sem c)(p:cr)(hp:p.Gw)(hR:acE c p)(st:St)(hw:Wf st):c 49 [.agg p.cells] st=some (.tuple [.int .i64 (jF p).1,.int .i64 (jF p).2],st):=by
 have cO:Wf (ah st (.cells p.cells 0)):=bF hw;have hg1:=Grew.ah hw (.cells p.cells 0);have ke:(ah st (.cells p.cells 0)).heap.get st.next=some (.cells p.cells 0):=aA _ _;have A:=ZN hc p.tz p.ts hp.ok _ cO;have B:=hR _ cO;have D:=FH hc p.tz p.ts hp.ok _ cO;have L:∀k1 k2,r9 c 101 k1 k2 101 [.ptr st.next 0,ints p.cz p.cs,.int .i64 (p.cs.length:Int),.int .i64 0] (ah st (.cells p.cells 0))=if zq p.cs=true then k2 [.ptr st.next 0] (ah st (.cells p.cells 0))else k1 [.int .i64 0,.int .i64 44] (ah st (.cells p.cells 0)):=
   λk1 k2=>alG (c:=c) p hp st.next 101 (ah st (.cells p.cells 0)) k1 k2 100 0 (by have:=hp.cs;omega) (by omega)
 have Lt:=λ(K:AV->Option (AV×St))=>kW K (p:=st.next) (o:=1) (h:=(ah st (.cells p.cells 0)).heap) (h2:=(ah st (.cells p.cells 0)).heap) (v:=dm p.gz p.gs) (by rw[ke];rfl) (by rw[ke];rfl) (VQ (alI _ _))
 rw[adV hc 101 (r:=(.tuple [.int .i64 (jF p).1,.int .i64 (jF p).2],ah st (.cells p.cells 0))),aF (Plain.tuple (by simp[Plain.int])) hg1.keeps];rw[ahZ];unfold jF;by_cases h1:(bR p.ts).2=0
 . by_cases h2:(dU p.gs p.ys).2=0
   . simp only[h1,Zh1]at D;by_cases h3:p.cs.length=0
     .  have h4:p.cs=[]:=(by simpa using h3);have L1:zq p.cs=true:=(by rw[h4];rfl);have e0:((p.cs.length:Nat):Int)=0:=(by omega);simp only[L1,Zh1,e0]at L;by_cases h6:aU p.ts<p.gs.length
        .simp[ve,h1,h2,h3,A,B,D,ke,L1,L,Lt,h6]
        .simp[ve,h1,h2,h3,A,B,D,ke,L1,L,Lt,h6]
     .  by_cases h4:p.cs.length=p.gs.length
        . cases h5:zq p.cs with
          | false=>
            simp only[h5,Zf4,Zh0,h4]at L;have h7:0<p.cs.length:=(by omega);have h8:0<p.gs.length:=(by omega);simp[ve,h1,h2,h3,h4,h5,h7,h8,A,B,ke,L]
          | true=>
            simp only[h5,Zh1,h4]at L;have h7:0<p.cs.length:=(by omega);have h8:0<p.gs.length:=(by omega);by_cases h6:aU p.ts<p.gs.length
            .simp[ve,h1,h2,h3,h4,h5,h7,h8,A,B,D,ke,L,Lt,h6]
            .simp[ve,h1,h2,h3,h4,h5,h7,h8,A,B,D,ke,L,Lt,h6]
        .have h7:0<p.cs.length:=(by omega);have h4i:¬((p.cs.length:Int)=(p.gs.length:Int)):=(by omega);simp[ve,h1,h2,h3,h4,h4i,h7,A,B,ke]
   .simp[ve,h1,h2,A,B,ke]
 .simp[h1,A,ke]
theorem as2(hc:Sem c){p:cr}(hp:p.Gw):acE c p:=λst hw=>ahY hc p.gz p.yz p.gs p.ys hp.gs hp.ys st hw
theorem an7(z:Bool)(rs:List (List AV))(hl:rs.length<wD)(dW:∀cs∈rs,cs.length=9)(g:Nat)(v:List AV)(P:Nat->Bool)(st:St)(F:Nat)(k1 k2)
  (hP:∀i (h:i<rs.length),c g (.agg rs[i]::v) st=some (.bool (P i),st)):∀(m k:Nat),rs.length<=k+m->k<=rs.length->
  cU c F k1 k2 (m+1) [ro 9 z rs,.func g [] v,.int .i64 (rs.length:Int),.int .i64 (k:Int)] st=if 0<=scan P (rs.length - k) k then k1 [.int .i64 (scan P (rs.length - k) k)] st else k2 [] st:=by
 intro m;induction m with
 |zero=>
  intro k h1 h2;obtain rfl:k=rs.length:=by omega
  rw[mz];simp[scan]
 |succ m ih=>
  intro k h1 h2;rw[mz];by_cases h:k<rs.length
  . have e:rs.length - k=(rs.length - (k+1))+1:=(by omega);have w:ax .i64 ((k:Int)+1)=((k+1:Nat):Int):=wrap64 (by omega) (by unfold wD at hl;omega);have hcut:cut rs[k] 0 9=some rs[k]:=cQ (dW _ (Zb8 h));have hp:=hP k h;rw[e,scan];cases hb:P k
    .   simp only[Zf4,Zh0];rw[<-ih (k+1) (by omega) (by omega)];simp[h,hcut,hp,hb,w]
    .   simp[h,hcut,hp,hb]
  .obtain rfl:k=rs.length:=(by omega);simp[scan]
theorem as3(hc:Sem c)(z:Bool)(rs:List (List AV))(hl:rs.length<wD)(dW:∀cs∈rs,cs.length=9)(g:Nat)(v:List AV)(P:Nat->Bool)(st:St)
   (hP:∀i (h:i<rs.length),c g (.agg rs[i]::v) st=some (.bool (P i),st)):c 175 [ro 9 z rs,.func g [] v] st=some (.int .i64 (scan P rs.length 0),st):=by
 rw[vK hc (rs.length+1) (r:=(.int .i64 (scan P rs.length 0),st)),aF (Plain.int _ _) (aX.refl st)];rw[xj];have L:∀k1 k2,cU c (rs.length+1) k1 k2 (rs.length+1) [ro 9 z rs,.func g [] v,.int .i64 (rs.length:Int),.int .i64 0] st=if 0<=scan P (rs.length - 0) 0 then k1 [.int .i64 (scan P (rs.length - 0) 0)] st else k2 [] st:=
   λk1 k2=>an7 z rs hl dW g v P st _ k1 k2 hP rs.length 0 (by omega) (by omega)
 rw[Zr4]at L;by_cases h:0<=scan P rs.length 0
 .simp[L,h]
 .have:=(adN P rs.length 0).2 (by omega);simp[L,this]
theorem as4(hc:Sem c)(g:aR)(s:List Nat)(p:Pos)(st:St)(hw:Wf st)(hp:st.heap.get p=some (.cells [.str s] 0)):c 176 [.agg g.cells,.ptr p 0] st=some (.bool (decide (g.name=s)),st):=by
 rw[adW hc 1 (r:=(.bool (decide (g.name=s)),ah st (.cells g.cells 0))),aF (Plain.bool _) (cq hw)];rw[ah0];have:(ah st (.cells g.cells 0)).heap.get p=some (.cells [.str s] 0):=cq hw _ _ hp;simp[this]
theorem anc(hc:Sem c)(p:cr)(hp:p.Gw)(s:List Nat)(st:St)(hw:Wf st):c 109 [.agg p.cells,.str s] st=some (.int .i64 (scan (nP p.gs s) p.gs.length 0),st):=by
 have cO:Wf (ah st (.cells p.cells 0)):=bF hw;have sH:=bF (b:= .cells [.str s] 0) cO;have hg:=(Grew.ah hw (.cells p.cells 0)).trans (Grew.ah cO (.cells [.str s] 0));have ke:(ah (ah st (.cells p.cells 0)) (.cells [.str s] 0)).heap.get st.next=some (.cells p.cells 0):=by have:=aA st (.cells p.cells 0);exact(Grew.ah cO (.cells [.str s] 0)).get this
 have hi:=as3 hc p.gz (p.gs.map aR.cells) (by have:=hp.gs;simp;unfold wD;omega) (λcs eW=>by
   simp only[Zc6]at eW;obtain⟨t,_,rfl⟩:=eW;rfl) 176 [.ptr (ah st (.cells p.cells 0)).next 0] (nP p.gs s) (ah (ah st (.cells p.cells 0)) (.cells [.str s] 0)) (λi hi=>by
   have hi3:i<p.gs.length:=(by simpa using hi);have:=as4 hc p.gs[i] s (ah st (.cells p.cells 0)).next _ sH (aA _ _);simp only[Zn0];rw[this];simp[nP,hi3])
 rw[Za5]at hi;rw[ah1 hc 1 (r:=(.int .i64 (scan (nP p.gs s) p.gs.length 0),ah (ah st (.cells p.cells 0)) (.cells [.str s] 0))),aF (Plain.int _ _) hg.keeps];rw[alJ];have e:(AV.str s).cells=[.str s]:=rfl;simp[e,hi,ke,dm]
structure Kd where
 w:List Nat
 a:Int
 b:Bool
 t:Int
 n:Bool
 lo:Int
 kB:Bool
 f:AV
def Kd.cells(k:Kd):List AV:=[.str k.w,.int .u8 k.a,.bool k.b,.int .u8 k.t,.bool k.n,.int .i64 k.lo,.bool k.kB,k.f]
@[simp] theorem Kd.c0(t:Kd):t.cells[0]? =some (.str t.w):=id rfl
@[simp] theorem Kd.c1(t:Kd):t.cells[1]? =some (.int .u8 t.a):=id rfl
@[simp] theorem Kd.c2(t:Kd):t.cells[2]? =some (.bool t.b):=id rfl
@[simp] theorem Kd.c3(t:Kd):t.cells[3]? =some (.int .u8 t.t):=id rfl
@[simp] theorem Kd.c4(t:Kd):t.cells[4]? =some (.bool t.n):=id rfl
@[simp] theorem Kd.c5(t:Kd):t.cells[5]? =some (.int .i64 t.lo):=id rfl
@[simp] theorem Kd.c6(t:Kd):t.cells[6]? =some (.bool t.kB):=id rfl
@[simp] theorem Kd.cc(t:Kd):cut t.cells 0 8=some t.cells:=cQ rfl
def Lf(k:Kd)(r:Rl):Bool:=(decide (k.a≠0)||decide (r.a=[]))&&(k.b||decide (r.b=[]))&&(decide (k.t≠0)||decide (r.t=[]))&&(k.n||decide (r.n=0))
theorem aqO (hc:Sem c)(k:Kd)(r:Rl)(st:St)(hw:Wf st):c 108 [.agg k.cells,.agg r.cells] st=some (.bool (Lf k r),st):=by
 have cO:Wf (ah st (.cells k.cells 0)):=bF hw;have zA:=Grew.ah cO (.cells r.cells 0);have hg:=(Grew.ah hw (.cells k.cells 0)).trans zA;have p1:=zA.get (aA st (.cells k.cells 0));have p2:=aA (ah st (.cells k.cells 0)) (.cells r.cells 0);rw[UQ hc 1 (r:=(.bool (Lf k r),ah (ah st (.cells k.cells 0)) (.cells r.cells 0))),aF (Plain.bool _) hg.keeps];rw[Y7];unfold Lf;by_cases h0:k.a=0;rotate_left
 . cases  h2:k.b with
   |true=>
    by_cases h4:k.t=0;rotate_left
    .   cases h6:k.n with
        | true=>
          simp[h0,h2,h4,h6]
        | false=>
          by_cases h7:r.n=0
          .simp[h0,h2,h4,h6,h7]
          .simp[h0,h2,h4,h6,h7]
    by_cases h5:r.t=[]
    .   cases h6:k.n with
        | true=>
          simp[h0,h2,h4,h5,h6]
        | false=>
          by_cases h7:r.n=0
          .simp[h0,h2,h4,h5,h6,h7]
          .simp[h0,h2,h4,h5,h6,h7]
    .   simp[h0,h2,h4,h5]
   |false   =>
    by_cases h3:r.b=[]
    .   by_cases h4:k.t=0;rotate_left
        . cases h6:k.n with
          | true=>
            simp[h0,h2,h3,h4,h6]
          | false=>
            by_cases h7:r.n=0
            .simp[h0,h2,h3,h4,h6,h7]
            .simp[h0,h2,h3,h4,h6,h7]
        by_cases h5:r.t=[]
        . cases h6:k.n with
          | true=>
            simp[h0,h2,h3,h4,h5,h6]
          | false=>
            by_cases h7:r.n=0
            .simp[h0,h2,h3,h4,h5,h6,h7]
            .simp[h0,h2,h3,h4,h5,h6,h7]
        .simp[h0,h2,h3,h4,h5]
    .   simp[h0,h2,h3]
 by_cases h1:r.a=[]
 . cases  h2:k.b with
   |true=>
    by_cases h4:k.t=0;rotate_left
    .   cases h6:k.n with
        | true=>
          simp[h0,h1,h2,h4,h6]
        | false=>
          by_cases h7:r.n=0
          .simp[h0,h1,h2,h4,h6,h7]
          .simp[h0,h1,h2,h4,h6,h7]
    by_cases h5:r.t=[]
    .   cases h6:k.n with
        | true=>
          simp[h0,h1,h2,h4,h5,h6]
        | false=>
          by_cases h7:r.n=0
          .simp[h0,h1,h2,h4,h5,h6,h7]
          .simp[h0,h1,h2,h4,h5,h6,h7]
    .   simp[h0,h1,h2,h4,h5]
   |false   =>
    by_cases h3:r.b=[]
    .   by_cases h4:k.t=0;rotate_left
        . cases h6:k.n with
          | true=>
            simp[h0,h1,h2,h3,h4,h6]
          | false=>
            by_cases h7:r.n=0
            .simp[h0,h1,h2,h3,h4,h6,h7]
            .simp[h0,h1,h2,h3,h4,h6,h7]
        by_cases h5:r.t=[]
        . cases h6:k.n with
          | true=>
            simp[h0,h1,h2,h3,h4,h5,h6]
          | false=>
            by_cases h7:r.n=0
            .simp[h0,h1,h2,h3,h4,h5,h6,h7]
            .simp[h0,h1,h2,h3,h4,h5,h6,h7]
        .simp[h0,h1,h2,h3,h4,h5]
    .   simp[h0,h1,h2,h3]
 .simp[h0,h1]
theorem B7{R:Type}(P:(List AV->St->Option R)->Prop){A:(List AV->St->Option R)->Option R}{T:List AV->St->Option R}{r:Option R}(hT:P T)(hA:∀j,P j->A j=r):dw A T=r:=hA T hT
theorem SC{R:Type}(c:aj)(K:AV->St->Option R)(st:St)(es:Nat)(z:Bool)(rs:List (List AV))(k k':IntKind)(i j:Nat)(h:i<j)(h2:j<=rs.length):
  aq c (.sliceL es true true false) [ro es z rs,.int k (i:Int),.int k' (j:Int)] st K=K (ro es false ((rs.take j).drop i)) st:=by
 have:∀H n,aE.run H n (.sliceL es true true false) [ro es z rs,.int k (i:Int),.int k' (j:Int)]=some (.val (ro es false ((rs.take j).drop i))):=λH n=>by
  rw[adl (by intro e;subst e;simp at h2;omega)];have h3:i<=j:=by omega
  simp[aE.run,iL,bounds,ju,cM,cK,h3,h2,ro]
 exact aS c K this st
theorem aeR(ts:List aB):∀(m k:Nat),(iD ts m k).2=0->∀i,k<=i->i<k+m->∀h:i<ts.length,rM ts[i]=0
 |0,k,_,i,h1,h2,_=>by omega
 |m +   1,k,h,i,h1,h2,hi=>by
  have hk:k<ts.length:=by omega
  rw[iD,H0 hk]at h;simp only at h;by_cases h3:rM ts[k]=0
  . rw[Za6 (by simp[h3])]at h;by_cases h4:0<=scan (uF ts ts[k].name) k 0
    .   rw[Zb4 h4]at h;simp at h
    .   rw[Za6 h4]at h;by_cases e:i=k
        .subst e;exact h3
        .exact aeR ts m (k+1) h i (by omega) (by omega) hi
  .rw[Zb4 h3]at h;exact absurd h h3
theorem GP{ts:List aB}(h:(bR ts).2=0)(i:Nat)(hi:i<ts.length):rM ts[i]=0:=by
 unfold bR at h;split at h
 .simp at h
 .exact aeR ts ts.length 0 h i (by omega) (by omega) hi
theorem GQ{t:aB}(h:rM t=0):(bR [t]).2=0:=by
 simp[bR,iD,h,scan]
def gi(p:cr)(s:List Nat):Int:=scan (nP p.gs s) p.gs.length 0
def ti(p:cr)(s:List Nat):Int:=scan (uF p.ts s) p.ts.length 0
def zS(p:cr)(i:Int):Int:=match p.ts[i.toNat]? with
 |some t=>bw t
 |none=>0
def Bp(k:Kd)(r:Rl)(m:Int):Int:=if k.n=true/\(r.n<k.lo\/m<r.n)then 42 else 0
def Yr(k:Kd)(p:cr)(r:Rl):Int:=
 if(k.t=116/\ti p r.t<0)\/(k.t=101/\r.t≠[]/\ti p r.t<0)then 6
 else Bp k r (if k.kB=true then zS p (ti p r.t) - 1 else 24)
def adB(k:Kd)(p:cr)(r:Rl):Int:=
 if k.a=100/\oD r.a=false then 4 else if k.b=true/\r.a=r.b then 5 else Yr k p r
def Sa(k:Kd)(p:cr)(r:Rl):Int:=
 if k.w=[]then 40 else if r.wt<0\/1000<r.wt then 41 else if Lf k r=false then 43
 else if(k.a=103/\gi p r.a<0)\/(k.a=101/\r.a≠[]/\gi p r.a<0)\/(k.b=true/\gi p r.b<0)then 6
 else adB k p r
theorem an8 (hc : Sem c)(k:Kd)(hk:k.kB=true->k.t=116)(p:cr)(hp:p.Gw)(hv:(bR p.ts).2=0)(r:Rl)(st:St)(hw:Wf st):
   c 51 [.agg k.cells,.agg p.cells,.agg r.cells] st=some (.int .i64 (Sa k p r),st):=by
 have cO:Wf (ah st (.cells k.cells 0)):=bF hw;have sH:=bF (b:= .cells p.cells 0) cO;have hg3:=Grew.ah sH (.cells r.cells 0);have zA:=Grew.ah cO (.cells p.cells 0);have hg:=((Grew.ah hw (.cells k.cells 0)).trans zA).trans hg3;have hw3:=hg.wf;have p1:=hg3.get (zA.get (aA st (.cells k.cells 0)));have p2:=hg3.get (aA (ah st (.cells k.cells 0)) (.cells p.cells 0));have p3:=aA (ah (ah st (.cells k.cells 0)) (.cells p.cells 0)) (.cells r.cells 0);have A:=λs=>anc hc p hp s _ hw3
 have B:=aqO hc k r _ hw3;have D:=asV hc p.tz p.ts hp.ok (by have:=hp.ts;unfold wD;omega) r.t _ hw3;have N:=ahI hc r.a (ah (ah (ah st (.cells k.cells 0)) (.cells p.cells 0)) (.cells r.cells 0));rw[UR hc 1 (r:=(.int .i64 (Sa k p r),ah (ah (ah st (.cells k.cells 0)) (.cells p.cells 0)) (.cells r.cells 0))),aF (Plain.int _ _) hg.keeps];rw[Y8];simp only[dy,az,AV.cells];generalize ah (ah (ah st (.cells k.cells 0)) (.cells p.cells 0)) (.cells r.cells 0)=s at*
 generalize (ah (ah st (.cells k.cells 0)) (.cells p.cells 0)).next=q3 at*
 generalize (ah st (.cells k.cells 0)).next=q2 at*
 generalize st.next=q1 at*
 refine B7 (P:=λj=>j [.ptr q1 0,.ptr q2 0,.ptr q3 0] s=some (.int .i64 (Yr k p r),s)) ?_ ?_
 . have D2  : c 111 [tabs p.tz p.ts,.str r.t] s=some (.tuple [.int .i64 (if 0<=ti p r.t then ti p r.t else 0),.bool (decide (0<=ti p r.t))],s):=(by simp only[hv,Zn5]at D;exact D);have hit:=Bq (P:=uF p.ts r.t) p.ts.length 0;clear D A B N hg zA hg3 hw cO sH;unfold Yr;by_cases ht:0<=ti p r.t
   . have WW  : ¬ ti p r.t<0:=(by omega);obtain⟨i,hi⟩:∃i:Nat,ti p r.t=(i:Int):=⟨(ti p r.t).toNat,by omega⟩
     have gJ:i<p.ts.length:=(by have:=(hit ht).2.1;unfold ti at hi;rw[hi]at this;simpa using this);simp only[ht,Zh1,Zg6]at D2;by_cases h1:k.t=116
     .  simp[ p1,p2,p3,D2,h1,WW];refine B7 (P:=λj=>∀m,j [.ptr q1 0,.ptr q3 0,.int .i64 m] s=some (.int .i64 (Bp k r m),s)) ?_ ?_
        . intro m;unfold Bp;cases hn:k.n with
          |false=>simp[p1,hn]
          | true=>
            by_cases e1:r.n<k.lo
            .simp[p1,p3,hn,e1]
            . by_cases e2:m<r.n
              .simp[p1,p3,hn,e1,e2]
              .simp[p1,p3,hn,e1,e2]
        . intro j hj;cases hs:k.kB with
          |false=>simp[p1,hs,hj]
          | true=>
            have w:ax .i64 ((i:Int)+1)=(i:Int)+1:=(by have:=hp.ts;exact wrap64 (by omega) (by omega));have cnt:=FH hc false [p.ts[i]] (λt ht=>by simp only[Zh9]at ht;subst ht;exact hp.ok _ (Zb8 gJ)) s hw3;rw[Zb4 (GQ (GP hv i gJ)),show aU [p.ts[i]]=bw p.ts[i]by simp[aU]]at cnt;have b:=Av p.ts[i];have w2:ax .i64 (bw p.ts[i] - 1)=bw p.ts[i] - 1:=wrap64 (by omega) (by omega);have hcut:∀K:AV->St->Option (AV×St),aq c (.sliceL 7 true true false) [tabs p.tz p.ts,.int .i64 (i:Int),.int .i64 ((i:Int)+1)] s K=K (tabs false [p.ts[i]]) s:=λK=>by
              (unfold tabs;have:=SC c K s 7 p.tz (p.ts.map aB.cells) .i64 .i64 i (i+1) (by omega) (by rw[Za5];omega);rw[show((i:Int)+1)=((i+1:Nat):Int)by omega,this];have e:((p.ts.map aB.cells).take (i+1)).drop i=[p.ts[i]].map aB.cells:=by rw[Zc7 (by simpa using gJ),Zg9 (by simp;omega)];simp);rw[e]
            have e3:zS p (i:Int)=bw p.ts[i]:=(by simp[zS,gJ]);simp[p1,p2,hs,hi,e3,w,hcut,cnt,hj,w2]
     .  by_cases h2 :k.t=101
        . by_cases h3:r.t=[]
          . simp only[h3]at D2 WW hi;simp[p1,p2,p3,D2,h1,h2,h3,WW];refine B7 (P:=λj=>∀m,j [.ptr q1 0,.ptr q3 0,.int .i64 m] s=some (.int .i64 (Bp k r m),s)) ?_ ?_
            . intro m;unfold Bp;cases hn:k.n with
              |false=>simp[p1,hn]
              | true=>
                by_cases e1:r.n<k.lo
                .simp[p1,p3,hn,e1]
                . by_cases e2:m<r.n
                  .simp[p1,p3,hn,e1,e2]
                  .simp[p1,p3,hn,e1,e2]
            . intro j hj;cases hs:k.kB with
              |false=>simp[p1,hs,hj]
              | true=>
                have w:ax .i64 ((i:Int)+1)=(i:Int)+1:=(by have:=hp.ts;exact wrap64 (by omega) (by omega));have cnt:=FH hc false [p.ts[i]] (λt ht=>by simp only[Zh9]at ht;subst ht;exact hp.ok _ (Zb8 gJ)) s hw3;rw[Zb4 (GQ (GP hv i gJ)),show aU [p.ts[i]]=bw p.ts[i]by simp[aU]]at cnt;have b:=Av p.ts[i];have w2:ax .i64 (bw p.ts[i] - 1)=bw p.ts[i] - 1:=wrap64 (by omega) (by omega);have hcut:∀K:AV->St->Option (AV×St),aq c (.sliceL 7 true true false) [tabs p.tz p.ts,.int .i64 (i:Int),.int .i64 ((i:Int)+1)] s K=K (tabs false [p.ts[i]]) s:=λK=>by
                  (unfold tabs;have:=SC c K s 7 p.tz (p.ts.map aB.cells) .i64 .i64 i (i+1) (by omega) (by rw[Za5];omega);rw[show((i:Int)+1)=((i+1:Nat):Int)by omega,this];have e:((p.ts.map aB.cells).take (i+1)).drop i=[p.ts[i]].map aB.cells:=by rw[Zc7 (by simpa using gJ),Zg9 (by simp;omega)];simp);rw[e]
                have e3:zS p (i:Int)=bw p.ts[i]:=(by simp[zS,gJ]);simp[p1,p2,hs,hi,e3,w,hcut,cnt,hj,w2]
          . simp[ p1,p2,p3,D2,h1,h2,h3,WW];refine B7 (P:=λj=>∀m,j [.ptr q1 0,.ptr q3 0,.int .i64 m] s=some (.int .i64 (Bp k r m),s)) ?_ ?_
            . intro m;unfold Bp;cases hn:k.n with
              |false=>simp[p1,hn]
              | true=>
                by_cases e1:r.n<k.lo
                .simp[p1,p3,hn,e1]
                . by_cases e2:m<r.n
                  .simp[p1,p3,hn,e1,e2]
                  .simp[p1,p3,hn,e1,e2]
            . intro j hj;cases hs:k.kB with
              |false=>simp[p1,hs,hj]
              | true=>
                have w:ax .i64 ((i:Int)+1)=(i:Int)+1:=(by have:=hp.ts;exact wrap64 (by omega) (by omega));have cnt:=FH hc false [p.ts[i]] (λt ht=>by simp only[Zh9]at ht;subst ht;exact hp.ok _ (Zb8 gJ)) s hw3;rw[Zb4 (GQ (GP hv i gJ)),show aU [p.ts[i]]=bw p.ts[i]by simp[aU]]at cnt;have b:=Av p.ts[i];have w2:ax .i64 (bw p.ts[i] - 1)=bw p.ts[i] - 1:=wrap64 (by omega) (by omega);have hcut:∀K:AV->St->Option (AV×St),aq c (.sliceL 7 true true false) [tabs p.tz p.ts,.int .i64 (i:Int),.int .i64 ((i:Int)+1)] s K=K (tabs false [p.ts[i]]) s:=λK=>by
                  (unfold tabs;have:=SC c K s 7 p.tz (p.ts.map aB.cells) .i64 .i64 i (i+1) (by omega) (by rw[Za5];omega);rw[show((i:Int)+1)=((i+1:Nat):Int)by omega,this];have e:((p.ts.map aB.cells).take (i+1)).drop i=[p.ts[i]].map aB.cells:=by rw[Zc7 (by simpa using gJ),Zg9 (by simp;omega)];simp);rw[e]
                have e3:zS p (i:Int)=bw p.ts[i]:=(by simp[zS,gJ]);simp[p1,p2,hs,hi,e3,w,hcut,cnt,hj,w2]
        . simp[ p1,p2,p3,D2,h1,h2,WW];refine B7 (P:=λj=>∀m,j [.ptr q1 0,.ptr q3 0,.int .i64 m] s=some (.int .i64 (Bp k r m),s)) ?_ ?_
          . intro m;unfold Bp;cases hn:k.n with
            |false=>simp[p1,hn]
            | true=>
              by_cases e1:r.n<k.lo
              .simp[p1,p3,hn,e1]
              . by_cases e2:m<r.n
                .simp[p1,p3,hn,e1,e2]
                .simp[p1,p3,hn,e1,e2]
          . intro j hj;cases hs:k.kB with
            |false=>simp[p1,hs,hj]
            | true=>
              have w:ax .i64 ((i:Int)+1)=(i:Int)+1:=(by have:=hp.ts;exact wrap64 (by omega) (by omega));have cnt:=FH hc false [p.ts[i]] (λt ht=>by simp only[Zh9]at ht;subst ht;exact hp.ok _ (Zb8 gJ)) s hw3;rw[Zb4 (GQ (GP hv i gJ)),show aU [p.ts[i]]=bw p.ts[i]by simp[aU]]at cnt;have b:=Av p.ts[i];have w2:ax .i64 (bw p.ts[i] - 1)=bw p.ts[i] - 1:=wrap64 (by omega) (by omega);have hcut:∀K:AV->St->Option (AV×St),aq c (.sliceL 7 true true false) [tabs p.tz p.ts,.int .i64 (i:Int),.int .i64 ((i:Int)+1)] s K=K (tabs false [p.ts[i]]) s:=λK=>by
                (unfold tabs;have:=SC c K s 7 p.tz (p.ts.map aB.cells) .i64 .i64 i (i+1) (by omega) (by rw[Za5];omega);rw[show((i:Int)+1)=((i+1:Nat):Int)by omega,this];have e:((p.ts.map aB.cells).take (i+1)).drop i=[p.ts[i]].map aB.cells:=by rw[Zc7 (by simpa using gJ),Zg9 (by simp;omega)];simp);rw[e]
              have e3:zS p (i:Int)=bw p.ts[i]:=(by simp[zS,gJ]);simp[p1,p2,hs,hi,e3,w,hcut,cnt,hj,w2]
   . have WW  : ti p r.t<0:=(by omega);simp only[ht,Zh0,decide_false]at D2;by_cases h1:k.t=116
     .  simp[p1,p2,p3,D2,h1,WW]
     .  by_cases h2:k.t=101
        . by_cases h3:r.t=[]
          . simp only[h3]at D2 WW;simp[p1,p2,p3,D2,h1,h2,h3,WW];refine B7 (P:=λj=>∀m,j [.ptr q1 0,.ptr q3 0,.int .i64 m] s=some (.int .i64 (Bp k r m),s)) ?_ ?_
            . intro m;unfold Bp;cases hn:k.n with
              |false=>simp[p1,hn]
              | true=>
                by_cases e1:r.n<k.lo
                .simp[p1,p3,hn,e1]
                . by_cases e2:m<r.n
                  .simp[p1,p3,hn,e1,e2]
                  .simp[p1,p3,hn,e1,e2]
            . intro j hj;have hs:k.kB=false:=by
                cases h:k.kB with
                |false=>rfl
                |true=>exact absurd (hk h) h1
              simp[p1,hs,hj]
          .simp[p1,p2,p3,D2,h1,h2,h3,WW]
        . simp[ p1,p2,p3,D2,h1,h2,WW];refine B7 (P:=λj=>∀m,j [.ptr q1 0,.ptr q3 0,.int .i64 m] s=some (.int .i64 (Bp k r m),s)) ?_ ?_
          . intro m;unfold Bp;cases hn:k.n with
            |false=>simp[p1,hn]
            | true=>
              by_cases e1:r.n<k.lo
              .simp[p1,p3,hn,e1]
              . by_cases e2:m<r.n
                .simp[p1,p3,hn,e1,e2]
                .simp[p1,p3,hn,e1,e2]
          . intro j hj;have hs:k.kB=false:=by
              cases h:k.kB with
              |false=>rfl
              |true=>exact absurd (hk h) h1
            simp[p1,hs,hj]
 . intro  j hj;have A2:∀nm,c 109 [.agg p.cells,.str nm] s=some (.int .i64 (gi p nm),s):=A;have cc:cut r.cells 0 6=some r.cells:=cQ rfl;clear A D hg zA hg3 hw cO sH;unfold Sa;by_cases h0:k.w=[]
   .simp[p1,h0]
   by_cases h1:r.wt<0
   .simp[p1,p3,h0,h1]
   by_cases h2:1000<r.wt
   .simp[p1,p3,h0,h1,h2]
   cases h3:Lf k r with
   |false=>simp[p1,p3,h0,h1,h2,B,h3]
   |true=>
   simp[p1,p3,h0,h1,h2,B,h3];refine B7 (P:=λj'=>∀b:Bool,j' [.ptr q1 0,.ptr q2 0,.ptr q3 0,.bool b] s=some (.int .i64 (if b=true then 6 else adB k p r),s)) ?_ ?_
   . intro  b;cases b with
     |true=>simp
     |  false =>
        unfold adB;by_cases a1:k.a=100
        . cases a2:oD r.a with
          |false=>simp[p1,p3,a1,a2,N]
          | true=>
            cases b1:k.b with
            |false=>simp[p1,p3,a1,a2,N,b1,hj]
            | true=>
              by_cases b2:r.a=r.b
              .rw[b2]at a2 N;simp[p1,p3,a1,a2,N,b1,b2]
              .simp[p1,p3,a1,a2,N,b1,b2,hj]
        . cases b1:k.b with
          |false=>simp[p1,p3,a1,b1,hj]
          | true=>
            by_cases b2:r.a=r.b
            .simp[p1,p3,a1,b1,b2]
            .simp[p1,p3,a1,b1,b2,hj]
   . intro  j' KE;have K6:=KE true;have K0:=KE false;simp only[Zh1,Zf4,Zh0]at K6 K0;clear KE hj;by_cases a1:k.a=103
     .  by_cases g1:gi p r.a<0
        .simp[p1,p2,p3,a1,A2,g1,K6]
        . cases b1:k.b with
          |false=>simp[p1,p2,p3,a1,A2,g1,b1,K0]
          | true=>
            by_cases g2:gi p r.b<0
            .simp[p1,p2,p3,a1,A2,g1,g2,b1,K6]
            .simp[p1,p2,p3,a1,A2,g1,g2,b1,K0]
     .  by_cases a2:k.a=101
        . by_cases e:r.a=[]
          . cases b1:k.b with
            |false=>simp[p1,p2,p3,a1,a2,e,A2,b1,K0]
            | true=>
              by_cases g2:gi p r.b<0
              .simp[p1,p2,p3,a1,a2,e,A2,g2,b1,K6]
              .simp[p1,p2,p3,a1,a2,e,A2,g2,b1,K0]
          . by_cases g1:gi p r.a<0
            .simp[p1,p2,p3,a1,a2,e,A2,g1,K6]
            . cases b1:k.b with
              |false=>simp[p1,p2,p3,a1,a2,e,A2,g1,b1,K0]
              | true=>
                by_cases g2:gi p r.b<0
                .simp[p1,p2,p3,a1,a2,e,A2,g1,g2,b1,K6]
                .simp[p1,p2,p3,a1,a2,e,A2,g1,g2,b1,K0]
        . cases b1:k.b with
          |false=>simp[p1,p2,p3,a1,a2,A2,b1,K0]
          | true=>
            by_cases g2:gi p r.b<0
            .simp[p1,p2,p3,a1,a2,A2,g2,b1,K6]
            .simp[p1,p2,p3,a1,a2,A2,g2,b1,K0]
end
end Go.Proofs.YtgihekklfnjkiaaGreatDoor
