/- Loops over maps in all orders, loops over functions. -/
import Derived.Test.YtlkadmkojjceiaaGreatDoorWEvalE
import Derived.Maps.RangeRun
import Derived.Laws.EntriesVeiled
import Derived.RangeFuncRecord
set_option linter.all false
namespace Go.Ai
noncomputable section
open Go Go.RowKit
section
variable{ρ ρ':Pos->Loc}{C:Cells}{st aM:St}{w w1 w':World}{nt r:Nat}{fr bO:Fr}{a a1:Act}
theorem aX.back(hW:aX ρ C st w)(hk:bu st aM)(aT:∀b:Pos,b.toNat<st.next.toNat->ρ' b=ρ b)(ew:aX ρ' C aM w1)(hs:w.heap.size<=w1.heap.size):aX ρ C st w1:=by
 refine⟨λb y hb=> ?_,hW.inj,λa u ha=>⟨(ew.dx a u ha).1,(hW.dx a u ha).2⟩,ew.whole⟩;obtain⟨g1,g2,g3⟩:=hW.live b y hb;obtain⟨_,_,k3⟩:=ew.live b y (hk b y hb);refine⟨g1,Zc7 g2 hs,?_⟩;rw[aT b g1]at k3;cases y with
 |cells cs fz=>
  obtain⟨c,e,fr,q1,q2,q3,q4,q5⟩:=k3;obtain⟨c0,e0,bP,p1,p2,p3,p4,p5⟩:=g3;refine⟨c,e,fr,q1,q2,q3,⟨q4.1,λi v x hv hx=> ?_⟩,q5⟩;obtain⟨y0,hy0,Ep⟩:=p4.get hv;exact(q4.2 i v x hv hx).down Ep aT
 |map es clock=>
  obtain⟨es',q1,q2,q3⟩:=k3;obtain⟨ZS,p1,p2,p3⟩:=g3;refine⟨es',q1,q2,λi e e' he ku=> ?_⟩;obtain⟨a1,a2,a3⟩:=q3 i e e' he ku;have hi:i<ZS.size:=by rw[<-p2];exact(Za0.1 he).1
  obtain⟨b1,b2,_⟩:=p3 i e _ he (Zf1 hi);exact⟨a1.down b1 aT,a2.down b2 aT,a3⟩
 |jq s pos=>exact k3
 |typed t cs=>
  obtain⟨c,fr,q1,q2,q3,q4,q5⟩:=k3;obtain⟨c0,bP,p1,p2,p3,p4,p5⟩:=g3;refine⟨c,fr,q1,q2,q3,⟨q4.1,λi v x hv hx=> ?_⟩,q5⟩;obtain⟨y0,hy0,Ep⟩:=p4.get hv;exact(q4.2 i v x hv hx).down Ep aT
theorem fh.sub{n:Nat}{tmps:Array Value}(h:fh ρ n C bO tmps)(hf:∀p v,fr.get p=some v->bO.get p=some v):fh ρ n C fr tmps:=λp v hp=>h p v (hf p v hp)
theorem mF.back(hS:mF nt ρ C fr st a w)(hf:∀p v,fr.get p=some v->bO.get p=some v)(hk:bu st aM)(h:fB nt ρ C st w bO aM a1 w1):
  mF nt ρ C fr st a1 w1/\jN ρ st w ρ st w1:=by
 obtain⟨dJ,S1,k1,k2,E⟩:=h;refine⟨⟨hS.W.back hk k1 S1.W E.size,λp v hp=> ?_,S1.size,S1.defers⟩,⟨E.os,E.tape,E.output,E.size,E.block,λb x hb=>.inl ⟨b,x,hb,rfl⟩⟩⟩;obtain⟨x,hx,hv⟩:=S1.F p v (hf p v hp);obtain⟨y,_,hy⟩:=hS.F p v hp;exact⟨x,hx,hv.down hy k1⟩
theorem aX.iter{m:Option Nat}{s c:Nat}{seen:Array Nat}(hW:aX ρ C st w)(hr:w.heap[r]? =some (.mapIter m s seen c))(hn:∀b x,st.heap.get b=some x->(ρ b).av≠r)
   (hs:w'.heap.size=w.heap.size) (hk:∀k,k≠r->w'.heap[k]? =w.heap[k]?):aX ρ C st w':=by
 have aV:∀a v,C a=some v->a.block≠r:=λa v ha e=>by have h:=(hW.dx a v ha).1;unfold World.cell? at h;rw[e,hr]at h;cases h
 refine⟨λb x hb=> ?_,hW.inj,λa v ha=> ?_,λa v ha o ho=> ?_⟩
 .obtain⟨h1,h2,h3⟩:=hW.live b x hb;exact⟨h1,by rw[hs];exact h2,h3.of_heap (hk _ (hn b x hb))⟩
 .obtain⟨h1,h2⟩:=hW.dx a v ha;exact⟨by rw[World.cell?_of_block (w:=w) (hk _ (aV a v ha))];exact h1,h2⟩
 .rw[World.cell?_of_block (w:=w) (a:=⟨a.block,o,none⟩) (hk _ (aV a v ha))];exact hW.whole a v ha o ho
end
def T.sub{α:Type}(f:α->α->Bool):T α->T α->Bool
 |.e,_=>true
 |.n l v r,.e=>(match v with|none=>true|some _=>false)&&T.sub f l .e&&T.sub f r .e
 |  .n l v r,.n l' v' r'=>(match v with
    |none=>true
    |some a=>match v' with
     |some b=>f a b
     |none=>false)&&T.sub f l l'&&T.sub f r r'
theorem T.yH{α:Type}{f:α->α->Bool}(hf:∀a b,f a b=true->a=b):∀{t u:T α},T.sub f t u=true->∀p v,t.get p=some v->u.get p=some v
 |.e,_,_,p,v,h=>by rw[T.dm]at h;cases h
 | .n l x r,.e,hs,p,v,h=>by
   simp only[T.sub,Za8]at hs;cases p with
   |h=>simp only[T.get]at h;subst h;simp at hs
   |o p=>have:=T.yH hf hs.1.2 p v h;rw[T.dm]at this;cases this
   |i p=>have:=T.yH hf hs.2 p v h;rw[T.dm]at this;cases this
 | .n l x r,.n l' x' r',hs,p,v,h=>by
   simp only[T.sub,Za8]at hs;cases p with
   |h=>
    simp only[T.get]at h ⊢; subst h;have h1:=hs.1.1;cases x' with
    |none=>simp at h1
    |some y=>simp at h1;rw[hf _ _ h1]
   |o p=>exact T.yH hf hs.1.2 p v h
   |i p=>exact T.yH hf hs.2 p v h
structure RG where
 t17:Nat
 t18:Nat
 t19:Nat
 t20:Nat
 l2:List bk
 x:dU
 l4:List bk
 body:AC
 ds:List Pos
abbrev XR:=Option (js×Fr×St)
section
variable(bf:iA XR)(m:Nat)(g:RG)
def exK(c:AC)(fr:Fr)(st:St):XR:=Nc none bf m c fr st (λfr st=>some (.normal,fr,st)) (λi fr st=>some (.exit i,fr,st)) (λfr st=>some (.ret,fr,st))
def abU(k v:AV)(fr:Fr)(st:St):XR:=
 nu (some (.tuple [.bool true,k,v])) (key g.t18) fr λfr=>nu (some (.bool true)) (key g.t19) fr λfr=>nu (some (.tuple [k,v])) (key g.t20) fr λfr=>
    OX none bf g.l4 fr st λfr st=>exK bf m g.body fr st
def Pq(clock:Nat):List (AV×AV×Nat)->Bool
 |[]=>true
 |e::es=>Nat.blt e.2.2 clock&&es.all (λx=> !Nat.beq x.2.2 e.2.2)&&Pq clock es
end
section
variable{P:Program}{tt:TT}{C:Cells}
def I4(P:Program)(C:Cells)(nt:Nat)(c:Code)(ex:Fr->St->XR):Prop:=
 ∀  (fr aY:Fr)(st st':St)(e:js)(ρ:Pos->Loc)(a:Act)(w:World)(Q:Exit->Act->World->Prop),ex fr st=some (e,aY,st')->mF nt ρ C fr st a w->
    (∀a' w',fB nt ρ C st w aY st' a' w'->Q (mN e) a' w')->eE P c Q a w
theorem aah{bf:iA XR}{call:ai}(hc:CK none bf call)(m:Nat)(c:AC)(fr:Fr)(st:St):exK bf m c fr st=exec call m c fr st:=by
 unfold exK;rw[L7 none hc];cases exec call m c fr st with
 |none=>rfl
 |some x=>obtain⟨e,fr,st⟩:=x;cases e<;>rfl
theorem I4.ac(hT:bM P tt){bf:iA XR}{call:ai}(hc:CK none bf call)(bH:eV P C call)(fL:p9 P tt C call){nt m:Nat}{c:Code}{a:AC}(h:qH tt nt c=some a):
 I4 P C nt c (exK bf m a):=λfr aY st st' e ρ ac w Q hx hS hQ=>(o9 hT bH fL m).1 c a fr aY st st' e ρ ac w Q h (by rw[<-aah hc];exact hx) hS hQ
def TZ:List Pos->Fr->Fr
 |[],fr=>fr
 |p::ps,fr=>TZ ps (fr.put none p)
theorem Pr:∀(ps:List Pos)(fr:Fr)(p:Pos)(v:AV),(TZ ps fr).get p=some v->fr.get p=some v
 |[],_,_,_,h=>h
 |q::ps,fr,p,v,h=>by
  have h:=Pr ps _ p v h;by_cases hq:q=p
  .subst hq;rw[T.eF]at h;cases h
  .rwa [T.bw _ hq]at h
theorem WG{clock:Nat}:∀{es:List (AV×AV×Nat)},Pq clock es=true->(∀e∈es,e.2.2<clock)/\(es.map (·.2.2)).Nodup
 |[],_=>⟨λ_ h=>by simp at h,by simp⟩
 |e ::es,h=>by
  simp only[Pq,Za8]at h;obtain⟨⟨h1,h2⟩,h3⟩:=h;obtain⟨i1,i2⟩:=WG h3;refine⟨λx hx=> ?_,?_⟩
  . rcases Zb0.1 hx with rfl|hx
    .exact Za4 h1
    .exact i1 x hx
  .rw[Zd5,Zn8];refine⟨λhm=> ?_,i2⟩;obtain⟨x,hx,he⟩:=Ze5.1 hm;have:=Zd1.1 h2 x hx;simp[he]at this
def Mv(bf:iA XR)(m:Nat)(g:RG)(A B:Fr×St)(e:AV×AV×Nat):Prop:=
 ∃f1 s1,abU bf m g e.1 e.2.1 A.1 A.2=some (.normal,f1,s1)/\(∀p v,B.1.get p=some v->f1.get p=some v)/\((B=A/\bu A.2 s1)\/B.2=s1)
section
variable{bf:iA XR}{call:ai}{nt m:Nat}{g:RG}{mG:Array Oper}{o0 o1 o4:Oper}{i3 i4 b0 b1:Nat}{rest:Code}{ED:List bk}{bs:List Nat}
def XZ(g:RG)(o0 o1:Oper)(mG:Array Oper)(rest:Code)(i3 i4 b0 b1:Nat):Code:=
 .seq (.region i3 #[o0,o1] false) (.seq (.cond (.tmp g.t19) .skip (.exit b0)) (.block b1 (.seq (.region i4 mG false) rest)))
structure abV(tt:TT)(nt:Nat)(g:RG)(o0 o1 o4:Oper)(mG:Array Oper)(rest:Code)(ED:List bk)(bs:List Nat):Prop where
 n0:o0.op= .next (.tmp g.t17) false/\o0.guard=none/\o0.dst=some g.t18
 n1:o1.op= .extract (.tmp g.t18) 0/\o1.guard=none/\o1.dst=some g.t19
 n4:mG[0]? =some o4/\o4.op= .entry (.tmp g.t17)/\o4.guard=none/\o4.dst=some g.t20
 lt:g.t17<nt/\g.t18<nt/\g.t19<nt/\g.t20<nt
 ne:g.t17≠g.t18/\g.t17≠g.t19/\g.t18≠g.t19
 c4:mT tt nt mG mG.toList bs=some ED
 l4:ED.tail=g.l4
 r4:qH tt nt rest=some g.body
structure LI(C:Cells)(nt:Nat)(g:RG)(X:Fr×St)(b An:Pos)(es:List (AV×AV×Nat))(since r:Nat)(j6:Pos->Loc)(I5:St)(w0:World)(seen:Array Nat)(ρ:Pos->Loc)(a:Act)(w:World):Prop where
 S:mF nt ρ C X.1 X.2 a w
 k1:∀p:Pos,p.toNat<I5.next.toNat->ρ p=j6 p
 k2:I5.next.toNat<=X.2.next.toNat
 E:jN j6 I5 w0 ρ X.2 w
 ip:(ρ An).av=r/\(ρ An).base=0/\An.toNat<X.2.next.toNat
 at17:X.1.get (key g.t17)=some (.ptr An 0)
 mp:X.2.heap.get b=some (.map es since)
 it:∃c,w.heap[r]? =some (.mapIter (some (ρ b).av) since seen c)/\since<=c
 tZ:∀p x,X.2.heap.get p=some x->(ρ p).av≠r
 late:w0.heap.size<=r
 cl:X.1.get (key g.t18)=none/\X.1.get (key g.t19)=none
theorem vq{ops:Array Oper}{K:Act->World->Prop}{i:Nat}{rest:List Nat}{o:Oper}{a:Act}{w w':World}{v:Value}(ho:ops[i]? =some o)(hg:o.guard=none)
  (hr:(execOp a.eval o).run P w= .ok (.value v) w') (hQ:o6 P ops K rest (a.put o.dst v) w'):o6 P ops K (i::rest) a w:=by
 unfold o6 Bu;rw[ho];simp only[Region.wanted,hg,Zg3];unfold O6;rw[hr];exact hQ
theorem eval_put{a:Act}{t:Nat}{v:Value}(h:t<a.tmps.size):(a.put (some t) v).eval (.tmp t)=v:=by
 simp[Act.put,Act.eval,h]
theorem Lh{a:Act}{t s:Nat}{v:Value}(h:t≠s):(a.put (some t) v).eval (.tmp s)=a.eval (.tmp s):=by
 simp[Act.put,Act.eval,Ze1 h]
theorem LI.round(hT:bM P tt)(hc:CK none bf call)(bH:eV P C call)(fL:p9 P tt C call)(hR:abV tt nt g o0 o1 o4 mG rest ED bs)
   {A:Fr×St} {b An:Pos} {es:List (AV×AV×Nat)} {since r:Nat} {j6:Pos->Loc} {I5:St} {w0:World} {seen:Array Nat} {ρ:Pos->Loc} {a:Act} {w:World}
   (L:LI C nt g A b An es since r j6 I5 w0 seen ρ a w) (dc:Pq since es=true) {Q:Exit->Act->World->Prop}
   (X0:(∀e∈es,seen.contains e.2.2=true)->∀a',mF nt ρ C A.1 A.2 a' w->Q (.exit b0) a' w)
   (afm:∀e∈es,seen.contains e.2.2=false->∃B,Mv bf m g A B e/\B.1.get (key g.t17)=some (.ptr An 0)/\B.2.heap.get b=some (.map es since)/\B.1.get (key g.t18)=none/\B.1.get (key g.t19)=none/\
     ∀ρ' a' w',LI C nt g B b An es since r j6 I5 w0 (seen.push e.2.2) ρ' a' w'->Q .normal a' w'):
   eE P (XZ g o0 o1 mG rest i3 i4 b0 b1) Q a w:=by
 obtain⟨c,hr,hsc⟩:=L.it;obtain⟨g1,g2,es',q1,q2,q3⟩:=L.S.W.live b _ L.mp;obtain⟨aN,CJ⟩:=WG dc;have Li:∀(i:Nat)(e':MapEntry),es'[i]? =some e'->∃e,es[i]? =some e/\aj ρ A.2.next.toNat C e.1 e'.key/\aj ρ A.2.next.toNat C e.2.1 e'.val/\e.2.2=e'.born:=λi e' h=>by
   have hi:i<es.length:=(by rw[q2];exact(Zd0.1 h).1);exact⟨_,H4 hi,q3 i _ e' (H4 hi) h⟩
 have hold:∀x∈es'.toList,x.born<since:=λx hx=>by
   obtain⟨i,hi⟩:=Zd9.1 hx;obtain⟨e,h1,_,_,h2⟩:=Li i x (by simpa using hi);rw[<-h2];exact aN e (Zb6 h1)
 have iX:es'.toList.map (·.born)=es.map (·.2.2):=by
   apply Zi0;intro i;simp only[Zb8,Zg4];cases h:es'[i]? with
   | none=>
     have:es.length<=i:=(by rw[q2];exact Array.getElem?_eq_none_iff.1 h);rw[Zb4 this];rfl
   | some x=>
     obtain⟨e,h1,_,_,h2⟩:=Li i x h;rw[h1];simp[h2]
 have Qt:a.eval (.tmp g.t17)= .pointer (some ⟨r,0,none⟩):=by
   have h:=oY (x:= .tmp g.t17) (o:= .t (key g.t17)) rfl L.S.F (v:= .ptr An 0) L.at17;obtain⟨_,h⟩:=h.eG;rw[h,L.ip.1,L.ip.2.1]
 have eW:=L.S.size;have s18:∀(v:Value),g.t18<(a.put (some g.t18) v).tmps.size:=λv=>by rw[Act.g9,eW];exact hR.lt.2.1
 have hrl:r<w.heap.size:=(Zd0.1 hr).1;unfold XZ;apply Bv;apply DC;show o6 P _ _ [0,1] a w;rcases run_next_at (P:=P) w o0.type r (ρ b).av since c seen es' since hr q1 hold hsc with⟨h0,bN⟩|⟨e',ku,w1,WH,bN⟩
 . refine vq (i:=0) (o:=o0) rfl hR.n0.2.1 (v:= .tuple #[.bool false]) (w':=w) (by simp[execOp,hR.n0.1,Qt,bN,Result.andThen]) ?_;rw[hR.n0.2.2];refine vq (i:=1) (o:=o1) rfl hR.n1.2.1 (v:= .bool false) (w':=w) (by simp[execOp,hR.n1.1,eval_put (eW ▸hR.lt.2.1),Instr.extract,Result.andThen]) ?_;rw[hR.n1.2.2];apply Bv;refine Ns (eval_put (by rw[Act.g9,eW];exact hR.lt.2.2.1)) (ZC ?_);refine X0 (λe he=> ?_) _ ⟨L.S.W,λp v hp=> ?_,by rw[Act.g9,Act.g9];exact eW,by rw[Act.jf,Act.jf];exact L.S.defers⟩
   .obtain⟨i,hi⟩:=Zd9.1 he;have Ho:i<es'.size:=(by rw[<-q2];exact(Za0.1 hi).1);obtain⟨e2,h1,_,_,h2⟩:=Li i _ (Zf1 Ho);rw[hi]at h1;cases h1;rw[h2];have hem:leftOf es' seen= #[]:=Zm8 h0;unfold leftOf at hem;rw[Array.filter_eq_empty_iff]at hem;have:=hem es'[i] (Array.getElem_mem Ho);simpa using this
   .rw[C3 (λh=>by simp at h;subst h;rw[L.cl.2]at hp;cases hp),C3 (λh=>by simp at h;subst h;rw[L.cl.1]at hp;cases hp)];exact L.S.F p v hp
 . have hr1:w1.heap[r]? =some (.mapIter (some (ρ b).av) since seen c):=(by rcases WH with rfl|rfl<;>exact hr);have Hq:w1.heap[(ρ b).av]? =some (.map es' since):=(by rcases WH with rfl|rfl<;>exact q1);have FH:=Go.MapKept.heap_set (o':= .mapIter (some (ρ b).av) since (seen.push e'.born) since) hr1;obtain⟨w2,nZ⟩:∃w2,w2=Go.ChangeMaps.setBlock w1 r (.mapIter (some (ρ b).av) since (seen.push e'.born) since):=⟨_,rfl⟩
   (change (Go.ChangeMaps.setBlock w1 r (.mapIter (some (ρ b).av) since (seen.push e'.born) since)).heap[r]? =_/\∀k,k≠r->(Go.ChangeMaps.setBlock w1 r (.mapIter (some (ρ b).av) since (seen.push e'.born) since)).heap[k]? =_ at FH;rw[<-nZ]at FH bN;have zu:w2.heap.size=w.heap.size:=(by rw[nZ];rcases WH with rfl|rfl<;>simp[Go.ChangeMaps.setBlock]<;>rfl);have kI:∀k,k≠r->w2.heap[k]? =w.heap[k]? :=λk hk=>(FH.2 k hk).trans (by rcases WH with rfl|rfl<;>rfl));have Bt:w2.os=w.os/\w2.tape=w.tape/\w2.output=w.output:=(by rw[nZ];rcases WH with rfl|rfl<;>exact⟨rfl,rfl,rfl⟩);clear nZ WH;have Es:aX ρ C A.2 w2:=L.S.W.iter hr L.tZ zu kI;have hen:(Instr.entry (.pointer (some ⟨r,0,none⟩))).run P w2= .ok (.tuple #[e'.key,e'.val]) w2:=
     run_entry_at _ r _ since seen es' since e' FH.1 ((kI _ (L.tZ b _ L.mp)).trans q1) (by simp[leftOf]at ku;simpa using ku.1) (iX ▸CJ)
   obtain⟨i,hi⟩:=Zd9.1 ku;have L6:e'∈es'.toList/\seen.contains e'.born=false:=(by simpa [leftOf]using ku);obtain⟨j,hj⟩:=Zd9.1 L6.1;obtain⟨e,h1,v1,v2,h2⟩:=Li j e' (by simpa using hj);obtain⟨B,⟨f1,s1,hx,hf,hB⟩,b17,bm,b18,b19,hQ⟩:=afm e (Zb6 h1) (by rw[h2];exact L6.2);refine vq (i:=0) (o:=o0) rfl hR.n0.2.1 (v:= .tuple #[.bool true,e'.key,e'.val]) (w':=w2) (by simp[execOp,hR.n0.1,Qt,bN,Result.andThen]) ?_;rw[hR.n0.2.2];refine vq (i:=1) (o:=o1) rfl hR.n1.2.1 (v:= .bool true) (w':=w2) (by simp[execOp,hR.n1.1,eval_put (eW ▸hR.lt.2.1),Instr.extract,Result.andThen]) ?_;rw[hR.n1.2.2];apply Bv;refine O7 (eval_put (by rw[Act.g9,eW];exact hR.lt.2.2.1)) (ZB ?_);apply Nr;apply Bv;apply DC;have Hs:mG.size=g.l4.length+1:=(by have h:ED.length=mG.size:=(by rw[(ny hR.c4).1,Zf4]);obtain⟨h4,_⟩:=Zd0.1 hR.n4.1;have h4:0<mG.size:=h4;rw[<-hR.l4,List.length_tail];omega);rw[Hs,Zk7,Zm9];refine vq (i:=0) (o:=o4) hR.n4.1 hR.n4.2.2.1 (v:= .tuple #[e'.key,e'.val]) (w':=w2) (by simp[execOp,hR.n4.2.1,Lh hR.ne.1.symm,Lh hR.ne.2.1.symm,Qt,hen,Result.andThen]) ?_;rw[hR.n4.2.2.2];unfold abU at hx;simp only[ir]at hx;rw[J8 none hc]at hx;unfold nD at hx;(split at hx<;>first|(cases hx;done)|skip);rename_i y hy;simp only[aah hc]at hx;have hvt:aj ρ A.2.next.toNat C (.tuple [.bool true,e.1,e.2.1]) (.tuple #[.bool true,e'.key,e'.val]):= .q8 ((au.nil.cons v2).cons v1 |>.cons (.bool true));have hve:aj ρ A.2.next.toNat C (.tuple [e.1,e.2.1]) (.tuple #[e'.key,e'.val]):= .q8 ((au.nil.cons v2).cons v1);have F1:=fh.put (nt:=nt) (d:=some g.t18) L.S.F eW (λ_ h=>by cases h;exact hR.lt.2.1) hvt;have F2:=fh.put (nt:=nt) (d:=some g.t19) F1 (by rw[Act.g9];exact eW) (λ_ h=>by cases h;exact hR.lt.2.2.1) (.bool true);have F3:=fh.put (nt:=nt) (d:=some g.t20) F2 (by rw[Act.g9,Act.g9];exact eW) (λ_ h=>by cases h;exact hR.lt.2.2.2) hve;refine o8 (nt:=nt) hT bH g.l4 1 _ y.1 A.2 y.2 ρ _ w2 (λi ao hi=> ?_) hy ⟨Es,F3,by rw[Act.g9,Act.g9,Act.g9];exact eW,by rw[Act.jf,Act.jf,Act.jf];exact L.S.defers⟩ λa3 w3 hp=> ?_
   .rw[<-hR.l4,List.getElem?_tail]at hi;obtain⟨o,k1,k2,_⟩:=yy hR.c4 (i+1) ao hi;exact⟨o,by rw[Nat.add_comm];exact k1,k2⟩
   obtain⟨zA,S3,k1,k2,k3⟩:=hp;(refine(o9 hT bH fL m).1 rest g.body y.1 f1 y.2 s1 .normal zA a3 w3 _ hR.r4 hx S3 λa4 w4 hp=> ?_);have hP:=fB.trans k1 k2 k3 hp;show Q .normal a4 w4;have S2:mF nt ρ C A.1 A.2 a w2:=⟨Es,L.S.F,eW,L.S.defers⟩
   have Zu:jN j6 I5 w0 ρ A.2 w2:=⟨Bt.1.trans L.E.os,Bt.2.1.trans L.E.tape,Bt.2.2.trans L.E.output,by rw[zu];exact L.E.size,λk hk hn=>(kI k (by have:=L.late;omega)).trans (L.E.block k hk hn),λb x hb=>L.E.nr b x hb⟩
   obtain⟨T6,S4,l1,l2,E4⟩:∃T6,mF nt T6 C B.1 B.2 a4 w4/\(∀p:Pos,p.toNat<A.2.next.toNat->T6 p=ρ p)/\A.2.next.toNat<=B.2.next.toNat/\jN ρ A.2 w2 T6 B.2 w4:=by
     rcases hB with⟨rfl,hk⟩|hB
     .  obtain⟨S,E⟩:=S2.back hf hk hP;exact⟨ρ,S,λ_ _=>rfl,Za5 _,E⟩
     .  obtain⟨T6,S,l1,l2,E⟩:=hP;rw[<-hB]at S l2 E;exact⟨T6,⟨S.W,S.F.sub hf,S.size,S.defers⟩,l1,l2,E⟩
   have h4r:w4.heap[r]? =some (.mapIter (some (ρ b).av) since (seen.push e.2.2) since):=(by rw[E4.block r (by rw[zu];exact hrl) L.tZ,h2];exact FH.1);refine hQ T6 a4 w4 ⟨S4,λp hp=>(l1 p (Zc7 hp L.k2)).trans (L.k1 p hp),Zc8 L.k2 l2,Zu.trans E4,?_,b17,bm,⟨since,?_,Za5 _⟩,λp x hp=> ?_,L.late,b18,b19⟩
   .rw[l1 An L.ip.2.2];exact⟨L.ip.1,L.ip.2.1,Zc7 L.ip.2.2 l2⟩
   .rw[l1 b g1];exact h4r
   . rcases E4.nr p x hp with⟨p',x',hp',e1⟩|h
     .  rw[<-e1];exact L.tZ p' x' hp'
     .  rw[zu]at h;omega
theorem BH:∀(ps:List Pos)(fr:Fr)(p:Pos),p∈ps\/fr.get p=none->(TZ ps fr).get p=none
 |[],_,_,h=>h.elim (λh=>by simp at h) id
 |q ::ps,fr,p,h=>BH ps _ p (by
  by_cases hq:q=p
  .subst hq;exact .inr (T.eF _ _ _)
  . rcases h with h|h
    .   rcases Zb0.1 h with h|h
        .exact(hq h.symm).elim
        .exact .inl h
    .   exact .inr (by rw[T.bw _ hq];exact h))
theorem aX.slot{ρ ρ':Pos->Loc}{st:St}{w:World}(hW:aX ρ C st w)(aT:∀p:Pos,p.toNat<st.next.toNat->ρ' p=ρ p):aX ρ' C ⟨st.heap,st.next.succ⟩ w:=by
 have hl:∀p x,st.heap.get p=some x->ρ' p=ρ p:=λp x hp=>aT p (hW.live p x hp).1
 refine⟨λp x hp=> ?_,λp q x y hp hq h=> ?_,λa v ha=>⟨(hW.dx a v ha).1,λp x hp=> ?_⟩,hW.whole⟩
 .obtain⟨h1,h2,h3⟩:=hW.live p x hp;rw[hl p x hp];exact⟨by rw[Pos.aB];exact Nat.lt_succ_of_lt h1,h2,h3.mono aT (by rw[Pos.aB];omega)⟩
 .rw[hl p x hp,hl q y hq]at h;exact hW.inj p q x y hp hq h
 .rw[hl p x hp];exact(hW.dx a v ha).2 p x hp
end
end
section
variable{P:Program}{tt:TT}{C:Cells}
def idxS:List AV->St->Option (AV×St)
 |[.str a,.int .u8 c],st=>some (.int .i64 (Lib.indexByte (a.map UInt8.ofNat) c.toNat.toUInt8),st)
 |_,_=>none
end
def ac9 (tt :TT)(nt:Nat)(ds:List Nat)(b0 b0' t19:Nat)(o2 o0 o1 o4:Oper)(Ob ED:List bk)(body:AC):Option (RG×Nat):=
 match o2.op,o0.op,o1.op,o4.op with
 |  .range ty x,.next (.tmp a0) false,.extract (.tmp a1) 0,.entry (.tmp a4)=>match o2.dst,o0.dst,o1.dst,o4.dst with
    |some t17,some t18,some c,some t20=>match o2.guard,o0.guard,o1.guard,o4.guard with
     |  none,none,none,none=>match kG x with
        |some xo=>match Nat.beq a0 t17&&Nat.beq a1 t18&&Nat.beq a4 t17&&Nat.beq c t19&&Nat.beq b0 b0'&&Nat.blt t17 nt&&Nat.blt t18 nt&&Nat.blt t19 nt&&Nat.blt t20 nt&&
            !Nat.beq t17 t18&& !Nat.beq t17 t19&& !Nat.beq t18 t19 with
         |true=>some (⟨t17,t18,t19,t20,Ob.dropLast,xo,ED.tail,body,key t18::key t19::ds.map key⟩,ty)
         |false=>none
        |_=>none
     |_,_,_,_=>none
    |_,_,_,_=>none
 |_,_,_,_=>none
def T7 (tt:TT)(nt:Nat):Code->Option (RG×Nat)
 |  .seq (.region _ wA false) (.block b0 (.loop (.seq (.region _ ⟨[o0,o1]⟩ false) (.seq (.cond (.tmp t19) .skip (.exit b0')) (.block _ (.seq (.region _ mG false) rest))))))=>
    match wA[wA.size - 1]?,mG[0]? with
    |some o2,some o4=>match mT tt nt wA wA.toList [],mT tt nt mG mG.toList []with
     |  some Ob,some ED=>match qH tt nt rest with
        |some body=>ac9 tt nt (mG.toList.filterMap (·.dst)++o7 rest) b0 b0' t19 o2 o0 o1 o4 Ob ED body
        |none=>none
     |_,_=>none
    |_,_=>none
 |_=>none
section
variable{P:Program}{tt:TT}{C:Cells}{bf:iA XR}{call:ai}{nt m:Nat}
def Mm:Code->Bool
 |.region _ ops _=>ops.toList.any λo=>match o.op with|.range _ _=>true|_=>false
 |.seq a b=>Mm a||Mm b
 |.cond _ a b=>Mm a||Mm b
 |.block _ a=>Mm a
 |.loop a=>Mm a
 |_=>false
end
abbrev XO:=js×Fr×St
abbrev XS:=Option (List XO)
def T8(y x:XO):Bool:=match y.1,x.1 with
 |.normal,.normal=>T.sub e9 y.2.1 x.2.1&&T.sub C7 y.2.2.heap x.2.2.heap&&Pos.beq y.2.2.next x.2.2.next
 |_,_=>false
def Pt:List XO->List XO->List XO
 |[],acc=>acc
 |  x::l,acc=>match acc.any (λy=>T8 y x)with
    |true=>Pt l acc
    |false=>Pt l (x::acc)
def Gg{α:Type}(k:α->XS):List α->List XO->XS
 |[],acc=>some acc
 |  e::l,acc=>match k e with
    |some a=>Gg k l (Pt a acc)
    |none=>none
structure Cv(y x:XO):Prop where
 e:y.1=x.1
 f:∀p v,y.2.1.get p=some v->x.2.1.get p=some v
 h:∀p v,y.2.2.heap.get p=some v->x.2.2.heap.get p=some v
 n:y.2.2.next=x.2.2.next
theorem Cv.refl(x:XO):Cv x x:=⟨rfl,λ_ _ h=>h,λ_ _ h=>h,rfl⟩
theorem aai{y x:XO}(h:T8 y x=true):Cv y x:=by
 unfold T8 at h;split at h<;>first|(cases h;done)|skip
 rename_i h1 h2;simp only[Za8]at h;exact⟨h1.trans h2.symm,T.yH (λ_ _=>pg) h.1.1,T.yH (λ_ _=>L8) h.1.2,Pos.beq_eq.1 h.2⟩
theorem I6:∀{l acc:List XO},(∀y∈acc,y∈Pt l acc)/\∀x∈l,∃y∈Pt l acc,Cv y x
 |[],acc=>⟨λy hy=>hy,λx hx=>by cases hx⟩
 |x ::l,acc=>by
  unfold Pt;split
  . rename_i h;obtain⟨h1,h2⟩:=I6 (l:=l) (acc:=acc);refine⟨h1,λz hz=> ?_⟩;rcases Zb0.1 hz with rfl|hz
    .   obtain⟨y,hy,hc⟩:=List.any_eq_true.1 h;exact⟨y,h1 y hy,aai hc⟩
    .   exact h2 z hz
  . obtain⟨h1,h2⟩:=I6 (l:=l) (acc:=x::acc);refine⟨λy hy=>h1 y (Za7 _ hy),λz hz=> ?_⟩;rcases Zb0.1 hz with rfl|hz
    .   exact⟨z,h1 z (Zc3 ..),.refl z⟩
    .   exact h2 z hz
theorem vr{α:Type}{k:α->XS}{outs:List XO}:∀{l:List α}{acc:List XO},Gg k l acc=some outs->(∀y∈acc,y∈outs)/\∀e∈l,∃a,k e=some a/\∀x∈a,∃y∈outs,Cv y x
 |[],acc,h=>by
  simp only[Gg,H0]at h;subst h;exact⟨λy hy=>hy,λe he=>by cases he⟩
 |e::l,acc,h=>by
  unfold Gg at h;split at h<;>first|(cases h;done)|skip
  rename_i a ha;obtain⟨h1,h2⟩:=vr h;obtain⟨n1,n2⟩:=I6 (l:=a) (acc:=acc);refine⟨λy hy=>h1 y (n1 y hy),λz hz=> ?_⟩;rcases Zb0.1 hz with rfl|hz
  .exact⟨a,ha,λx hx=>let⟨y,hy,hc⟩:=n2 x hx;⟨y,h1 y hy,hc⟩⟩
  .exact h2 z hz
section
variable{P:Program}{tt:TT}{C:Cells}{nt:Nat}{ρ:Pos->Loc}{st:St}{w:World}
theorem aX.zY{ρ:Pos->Loc}{st st':St}{w:World}(hW:aX ρ C st w)(h:∀p v,st'.heap.get p=some v->st.heap.get p=some v)(hn:st'.next=st.next):aX ρ C st' w:=
 ⟨λb x hb=>by rw[hn];exact hW.live b x (h b x hb),λb b' x x' hb iX=>hW.inj b b' x x' (h b x hb) (h b' x' iX),λa v ha=>⟨(hW.dx a v ha).1,λb x hb=>(hW.dx a v ha).2 b x (h b x hb)⟩,hW.whole⟩
theorem fB.Oc{y x:XO}{a':Act}{w':World}(hc:Cv y x)(h:fB nt ρ C st w x.2.1 x.2.2 a' w'):fB nt ρ C st w y.2.1 y.2.2 a' w':=by obtain⟨dJ,S,k1,k2,E⟩:=h;refine⟨dJ,⟨S.W.zY hc.h hc.n,?_,S.size,S.defers⟩,k1,by rw[hc.n];exact k2,⟨E.os,E.tape,E.output,E.size,E.block,λb v hb=>E.nr b v (hc.h b v hb)⟩⟩;rw[hc.n];exact S.F.sub hc.f
def A4(P:Program)(C:Cells)(nt:Nat)(c:Code)(ex:Fr->St->XS):Prop:=
 ∀  (fr:Fr)(st:St)(outs:List XO)(ρ:Pos->Loc)(a:Act)(w:World)(Q:Exit->Act->World->Prop),ex fr st=some outs->mF nt ρ C fr st a w->
    (∀o∈outs,∀a' w',fB nt ρ C st w o.2.1 o.2.2 a' w'->Q (mN o.1) a' w')->eE P c Q a w
def abW(ex:Fr->St->XR)(fr:Fr)(st:St):XS:=match ex fr st with
 |some o=>some [o]
 |none=>none
theorem I4.one{c:Code}{ex:Fr->St->XR}(h:I4 P C nt c ex):A4 P C nt c (abW ex):=by
 intro fr st outs ρ a w Q hx hS hQ;unfold abW at hx;split at hx<;>first|(cases hx;done)|skip
 rename_i o ho;simp only[H0]at hx;subst hx;exact h fr o.2.1 st o.2.2 o.1 ρ a w Q ho hS λa' w' hp=>hQ o (by simp) a' w' hp
end
section
variable(bf:iA XR)(m:Nat)(g:RG)
def T9{β:Type}:List Pos->Fr->(Fr->β)->β
 |[],fr,k=>k fr
 |p::ps,fr,k=>nu none p fr λfr=>T9 ps fr k
def Ua (b:Pos)(es:List (AV×AV×Nat))(clock:Nat)(An:Pos):Nat->List (AV×AV×Nat)->Fr->St->XS
 |  0,todo,fr,st=>match todo with
    |[]=>some [(.normal,fr,st)]
    |_=>none
 |  n+  1,todo,fr,st=>match todo with
    |[]=>some [(.normal,fr,st)]
    |_  =>Gg (λe=>match abU bf m g e.1 e.2.1 fr st with
     |  some (.normal,f1,s1)=>T9 g.ds f1 λf1=>match lW b s1.heap,lW (key g.t17) f1 with
        |some y,some v=>match C7 y (.map es clock)&&e9 v (.ptr An 0)with
         |true=>Ua b es clock An n (todo.filter λx=> !Nat.beq x.2.2 e.2.2) f1 s1
         |false=>none
        |_,_=>none
     |_=>none) todo []
def Ub(l:List bk)(fr:Fr)(st:St):XR:=OX none bf l fr st λfr st=>some (.normal,fr,st)
def rgS (fr:Fr)(st:St):XS:=match Ub bf g.l2 fr st with
 |  some (_,fr,st)=>Qo none fr g.x λ
    | .map b=>match lW b st.heap with
      | some (.map es clock)=>match Pq clock es with
        |true=>T9 g.ds fr λfr=>nu (some (.ptr st.next 0)) (key g.t17) fr λfr=>Nb st.next λn=>Ua bf m g b es clock st.next es.length es fr { heap:=st.heap,next:=n }
        |false=>none
      |_=>none
    |_=>none
 |none=>none
end
section
variable{P:Program}{tt:TT}{C:Cells}{bf:iA XR}{call:ai}{nt m:Nat}{g:RG}{mG:Array Oper}{o0 o1 o4:Oper}{i3 i4 b0 b1:Nat}{rest:Code}{ED:List bk}{bs:List Nat}
theorem Pu{β:Type}:∀(ps:List Pos)(fr:Fr)(k:Fr->β),T9 ps fr k=k (TZ ps fr)
 |[],_,_=>rfl
 |p::ps,fr,k=>by simp only[T9,ir,TZ];exact Pu ps _ k
theorem Pv(hc:CK none bf call){l:List bk}{fr aY:Fr}{st st':St}{e:js}(h:Ub bf l fr st=some (e,aY,st')):e= .normal/\iW call l fr st=some (aY,st'):=by
 unfold Ub at h;rw[J8 none hc]at h;unfold nD at h;split at h<;>first|(cases h;done)|skip
 rename_i y hy;simp only[H0,Zb3]at h;obtain⟨rfl,rfl,rfl⟩:=h;exact⟨rfl,hy⟩
theorem LI.aet(hT:bM P tt)(hc:CK none bf call)(bH:eV P C call)(fL:p9 P tt C call)(hR:abV tt nt g o0 o1 o4 mG rest ED bs)
  {b An:Pos} {es:List (AV×AV×Nat)} {since r:Nat} {j6:Pos->Loc} {I5:St} {w0:World} (dc:Pq since es=true) (sS:key g.t18∈g.ds/\key g.t19∈g.ds) {Q:Exit->Act->World->Prop}:
  ∀ (n:Nat)(todo:List (AV×AV×Nat))(fr:Fr)(st:St)(outs:List XO)(seen:Array Nat)(ρ:Pos->Loc)(a:Act)(w:World),Ua bf m g b es since An n todo fr st=some outs->
    (∀e,e∈todo↔e∈es/\seen.contains e.2.2=false)->LI C nt g (fr,st) b An es since r j6 I5 w0 seen ρ a w->
    (∀o∈outs,o.1= .normal->∀a' w',fB nt j6 C I5 w0 o.2.1 o.2.2 a' w'->Q (.exit b0) a' w')->Ix (eE P (XZ g o0 o1 mG rest i3 i4 b0 b1)) Q (n+1) a w:=by
 intro n;induction n with
 |zero=>
  intro todo fr st outs seen ρ a w h Ks L hQ;unfold Ua at h;split at h<;>first|(cases h;done)|skip
  simp only[H0]at h;subst h;rw[QA];refine L.round (m:=m) hT hc bH fL hR dc (λ_ a' S=>hQ (.normal,fr,st) (Zd3.2 rfl) rfl a' w ⟨ρ,S,L.k1,L.k2,L.E⟩) λe he hs=> ?_
  have:=(Ks e).2 ⟨he,hs⟩;cases this
 |succ n ih=>
  intro todo fr st outs seen ρ a w h Ks L hQ;rw[QA];unfold Ua at h;split at h
  .simp only[H0]at h;subst h;(refine L.round (m:=m) hT hc bH fL hR dc (λ_ a' S=>hQ (.normal,fr,st) (Zd3.2 rfl) rfl a' w ⟨ρ,S,L.k1,L.k2,L.E⟩) λe he hs=> ?_);have:=(Ks e).2 ⟨he,hs⟩;cases this
  . rename_i aV;obtain⟨_,cG⟩:=vr h;refine L.round (m:=m) hT hc bH fL hR dc (λX0 a' S=> ?_) λe he hs=> ?_
    .   cases todo with
        |nil=>exact(aV rfl).elim
        | cons e l=>
          obtain⟨he,hs⟩:=(Ks e).1 (Zc3 ..);rw[X0 e he]at hs;cases hs
    .   obtain⟨jz,h1,oe⟩:=cG e ((Ks e).2 ⟨he,hs⟩);(split at h1<;>first|(cases h1;done)|skip);rename_i f1 s1 hx;rw[Pu]at h1;simp only[sF]at h1;(split at h1<;>first|(cases h1;done)|skip);rename_i y v hy hv;(split at h1<;>first|(cases h1;done)|skip);rename_i hb;simp only[Za8]at hb;have e1:=L8 hb.1;have e2:=pg hb.2;subst e1;subst e2;refine⟨(TZ g.ds f1,s1),⟨f1,s1,hx,Pr _ _,.inr rfl⟩,hv,hy,BH _ _ _ (.inl sS.1),BH _ _ _ (.inl sS.2),λρ' a' w' L'=> ?_⟩;refine ih _ _ _ jz _ ρ' a' w' h1 (λx=> ?_) L' λo ho hn a2 w2 hp=> ?_
        .rw[Zl6,Ks x,Array.contains_push,Zl1,Zh4];rw[show Nat.beq x.2.2 e.2.2=(x.2.2==e.2.2)from by rw[Zk1];simp[Nat.beq_eq]];exact and_assoc
        .obtain⟨z,hz,hcv⟩:=oe o ho;exact hQ z hz (hcv.e.trans hn) a2 w2 (hp.Oc hcv)
theorem A4.rng(hT:bM P tt)(hc:CK none bf call)(bH:eV P C call)(fL:p9 P tt C call)(hR:abV tt nt g o0 o1 o4 mG rest ED bs)
   {wA:Array Oper} {Ob:List bk} {o2:Oper} {x:Operand} {ty kt et:TypeId} {i2:Nat} {bs2:List Nat} (h2:mT tt nt wA wA.toList bs2=some Ob) (mU:Ob.dropLast=g.l2)
   (Bt:wA[g.l2.length]? =some o2) (zu:wA.size=g.l2.length+1) (hop:o2.op= .range ty x) (zw:o2.guard=none) (Nq:o2.dst=some g.t17) (hx:kG x=some g.x) (abX:P.underlying ty=some (.map kt et))
   (sS:key g.t18∈g.ds/\key g.t19∈g.ds):A4 P C nt (.seq (.region i2 wA false) (.block b0 (.loop (XZ g o0 o1 mG rest i3 i4 b0 b1)))) (rgS bf m g):=by
 intro fr st outs ρ a w Q h hS hQ;unfold rgS at h;split at h<;>first|(cases h;done)|skip
 rename_i ex sU iy hy;obtain⟨rfl,hz⟩:=Pv hc hy;simp only[II]at h;unfold nD at h;split at h<;>first|(cases h;done)|skip
 rename_i v hv;dsimp only at h;split at h<;>first|(cases h;done)|skip
 rename_i b;simp only[sF]at h;split at h<;>first|(cases h;done)|skip
 rename_i es clock hb;split at h<;>first|(cases h;done)|skip
 rename_i dc;simp only[Pu,ir,FY]at h;apply Bv;apply DC;rw[zu,Zi7];apply Qz;rw[Zk7];refine o8 (nt:=nt) hT bH g.l2 0 fr sU st iy ρ a w (λi ao hi=> ?_) hz hS λa2 w2 hp=> ?_
 .rw[<-mU,List.getElem?_dropLast]at hi;(split at hi<;>first|(cases hi;done)|skip);obtain⟨o,k1,k2,_⟩:=yy h2 i ao hi;exact⟨o,by rw[Zc4];exact k1,k2⟩
 obtain⟨lV,S2,k1,k2,E2⟩:=hp;obtain⟨hbn,IB⟩:=(oY hx S2.F hv).u5;obtain⟨g1,g2,es',q1,q2,q3⟩:=S2.W.live b _ hb;obtain⟨Od,hf3⟩:∃f,f=(TZ g.ds sU).put (some (.ptr iy.next 0)) (key g.t17):=⟨_,rfl⟩
 rw[<-hf3]at h;obtain⟨yb,Db⟩:∃s:St,s=⟨iy.heap,iy.next.succ⟩:=⟨_,rfl⟩
 rw[<-Db]at h;have n18:key g.t17≠key g.t18:=λe=>hR.ne.1 (by have:=congrArg Pos.toNat e;rw[eO,eO]at this;omega)
 have n19:key g.t17≠key g.t19:=λe=>hR.ne.2.1 (by have:=congrArg Pos.toNat e;rw[eO,eO]at this;omega)
 have hX0:Od.get (key g.t17)=some (.ptr iy.next 0)/\yb.heap.get b=some (.map es clock)/\Od.get (key g.t18)=none/\Od.get (key g.t19)=none:=by
   rw[hf3,Db,T.eF,T.bw _ n18,T.bw _ n19];exact⟨rfl,hb,BH _ _ _ (.inl sS.1),BH _ _ _ (.inl sS.2)⟩
 show o6 P _ _ [g.l2.length] a2 w2
 refine vq Bt zw (v:= .pointer (some ⟨w2.heap.size,0,none⟩)) (w':=w2.alloc (.mapIter (some (lV b).av) clock #[] clock))
   (by simp[execOp,hop,IB,run_range_map (P:=P) w2 ty kt et (lV b).av es' clock abX q1,Result.andThen]) ?_
 rw[Nq];show eE P (Code.block b0 _) Q _ _;apply Nr;have hold:∀k,k<w2.heap.size->(w2.alloc (.mapIter (some (lV b).av) clock #[] clock)).heap[k]? =w2.heap[k]? :=λk hk=>heap_alloc_old w2 _ hk
 have eW:(w2.alloc (.mapIter (some (lV b).av) clock #[] clock)).heap.size=w2.heap.size+1:=by simp
 obtain⟨zA,h3,aT⟩:∃zA:Pos->Loc,zA iy.next=⟨w2.heap.size,0,0⟩/\∀p:Pos,p.toNat<iy.next.toNat->zA p=lV p:=
   ⟨λp=>if p=iy.next then⟨w2.heap.size,0,0⟩else lV p,Za6 rfl,λp hp=>Za3 λe=>by subst e;omega⟩
 have hW3:aX zA C yb (w2.alloc (.mapIter (some (lV b).av) clock #[] clock)):=by rw[Db];exact(S2.W.slot aT).grow (by omega) hold
 have IE:yb.next.toNat=iy.next.toNat+1:=by rw[Db];exact Pos.aB _
 have hF3:fh zA yb.next.toNat C Od (a2.put (some g.t17) (.pointer (some ⟨w2.heap.size,0,none⟩))).tmps:=by rw[hf3];refine fh.put (nt:=nt) (d:=some g.t17) ((S2.F.sub (Pr _ _)).mono aT (by omega)) S2.size (λ_ h=>by cases h;exact hR.lt.1) ?_;have:=aj.ptr (ρ:=zA) (C:=C) iy.next 0 (n:=yb.next.toNat) (by omega);rw[h3]at this;exact this
 refine ZD (es.length+1) (LI.aet (m:=m) (j6:=lV) (I5:=iy) (w0:=w2) (r:=w2.heap.size) hT hc bH fL hR dc sS es.length es Od yb outs #[] zA _ _ h (λe=>by simp) ?_ λo ho hn a' w' hp=> ?_)
 . refine⟨⟨hW3,hF3,by rw[Act.g9];exact S2.size,by rw[Act.jf];exact S2.defers⟩,aT,by show iy.next.toNat<=yb.next.toNat;omega,
     ⟨rfl,rfl,rfl,by rw[eW];omega,λk hk _=>hold k hk,λp x hp=>.inl ⟨p,x,by rw[Db]at hp;exact hp,by
        rw[Db]at hp;rw[aT p (S2.W.live p x hp).1]⟩⟩,⟨by rw[h3],by rw[h3],by show _<yb.next.toNat;omega⟩,hX0.1,hX0.2.1,⟨clock,?_,Za5 _⟩,λp x hp=> ?_,Za5 _,hX0.2.2⟩
   .rw[aT b g1];exact heap_alloc_new w2 _
   .rw[Db]at hp;obtain⟨l1,l2,_⟩:=S2.W.live p x hp;rw[aT p l1];omega
 . simp only[Exit.inBlock,Zg3];have:=hQ o ho a' w' (fB.trans k1 k2 E2 hp)
   rwa [hn]at this
theorem A4.T7(hT:bM P tt)(hc:CK none bf call)(bH:eV P C call)(fL:p9 P tt C call){c:Code}{g:RG}{ty:Nat}(h:T7 tt nt c=some (g,ty))
  {kt et:TypeId} (abX:P.underlying ty=some (.map kt et)) (ds:List Pos):A4 P C nt c (rgS bf m { g with ds:=key g.t18::key g.t19::ds }):=by
 unfold Go.Ai.T7 at h;split at h<;>first|(cases h;done)|skip
 rename_i i2 wA b0 i3 o0 o1 t19 b0' b1 i4 mG rest;split at h<;>first|(cases h;done)|skip
 rename_i o2 o4 Bt ho4;split at h<;>first|(cases h;done)|skip
 rename_i Ob ED mU hl4;split at h<;>first|(cases h;done)|skip
 rename_i body afn;unfold ac9 at h;split at h<;>first|(cases h;done)|skip
 rename_i ty' x a0 a1 a4 p2 p0 p1 p4;split at h<;>first|(cases h;done)|skip
 rename_i t17 t18 c t20 d2 d0 d1 d4;split at h<;>first|(cases h;done)|skip
 rename_i g2 g0 g1 g4;split at h<;>first|(cases h;done)|skip
 rename_i xo hxo;split at h<;>first|(cases h;done)|skip
 rename_i hb;simp only[H0,Zb3]at h;obtain⟨rfl,rfl⟩:=h;simp only[Za8,Zh4,Nat.beq_eq,Zo8]at hb;obtain⟨⟨⟨⟨⟨⟨⟨⟨⟨⟨⟨rfl,rfl⟩,rfl⟩,rfl⟩,rfl⟩,l17⟩,l18⟩,l19⟩,l20⟩,n1⟩,n2⟩,n3⟩:=hb;have hs:Ob.length=wA.size:=(ny mU).1.trans (Zf4 ..);have h0:0<wA.size:=by have:=(Zd0.1 Bt).1;omega
 exact A4.rng hT hc bH fL (i3:=i3) (i4:=i4) (b1:=b1) ⟨⟨p0,g0,d0⟩,⟨p1,g1,d1⟩,⟨ho4,p4,g4,d4⟩,⟨l17,l18,l19,l20⟩,⟨Zb7 n1,Zb7 n2,Zb7 n3⟩,hl4,rfl,afn⟩ mU rfl
  (by rw[List.length_dropLast,hs];exact Bt) (by show wA.size=Ob.dropLast.length+1;rw[List.length_dropLast,hs];omega) p2 g2 d2 hxo abX ⟨by simp,by simp⟩
end
end
noncomputable section
open Go Go.RowKit
abbrev zB:=(Pos->Loc)->St->World->List Deferred->Prop
def Oe(C:Cells)(J:zB):Prop:=
 ∀  (ρ:Pos->Loc)(st:St)(w:World)(D:List Deferred)(ρ':Pos->Loc)(st':St)(w':World),J ρ st w D->aX ρ C st w->aX ρ' C st' w'->(∀b:Pos,b.toNat<st.next.toNat->ρ' b=ρ b)->
    st.next.toNat<=st'.next.toNat->jN ρ st w ρ' st' w'->J ρ' st' w' D
section
variable{P:Program}{tt:TT}{C:Cells}{r:Option Nat}{J:zB}{ts:Nat->Prop}{x:Array Value}{nt:Nat}
def jA(C:Cells)(J:zB)(ts:Nat->Prop)(x:Array Value)(nt:Nat)(ρ:Pos->Loc)(st:St)(w:World)(aY:Fr)(st':St)(a':Act)(w':World):Prop:=
 ∃ρ',mF nt ρ' C aY st' ⟨a'.tmps,[]⟩ w'/\(∀b:Pos,b.toNat<st.next.toNat->ρ' b=ρ b)/\st.next.toNat<=st'.next.toNat/\jN ρ st w ρ' st' w'/\J ρ' st' w' a'.defers/\∀t,ts t->a'.tmps[t]? =x[t]?
theorem jA.trans{ρ dJ:Pos->Loc}{sU:Fr}{st aM iy:St}{a2:Act}{w w1 w2:World}(h1:∀b:Pos,b.toNat<st.next.toNat->dJ b=ρ b)(h2:st.next.toNat<=aM.next.toNat)(h3:jN ρ st w dJ aM w1)
  (h:jA C J ts x nt dJ aM w1 sU iy a2 w2):jA C J ts x nt ρ st w sU iy a2 w2:=by
 obtain⟨lV,S,k1,k2,E,hJ,hx⟩:=h;exact⟨lV,S,λb hb=>(k1 b (Zc7 hb h2)).trans (h1 b hb),Zc8 h2 k2,h3.trans E,hJ,hx⟩
def DM(J:zB):Prop:=∀(ρ:Pos->Loc)(st st':St)(w:World)(D:List Deferred),J ρ st w D->(∀p v,st'.heap.get p=some v->st.heap.get p=some v)->st'.next=st.next->J ρ st' w D
theorem jA.Oc(hw:DM J){y z:XO}{ρ:Pos->Loc}{st:St}{w:World}{a':Act}{w':World}(hc:Cv y z)(h:jA C J ts x nt ρ st w z.2.1 z.2.2 a' w'):jA C J ts x nt ρ st w y.2.1 y.2.2 a' w':=by obtain⟨dJ,S,k1,k2,E,hJ,hx⟩:=h;refine⟨dJ,⟨S.W.zY hc.h hc.n,?_,S.size,S.defers⟩,k1,by rw[hc.n];exact k2,⟨E.os,E.tape,E.output,E.size,E.block,λb v hb=>E.nr b v (hc.h b v hb)⟩,hw _ _ _ _ _ hJ hc.h hc.n,hx⟩;rw[hc.n];exact S.F.sub hc.f
def cY(P:Program)(C:Cells)(r:Option Nat)(J:zB)(ts:Nat->Prop)(x:Array Value)(nt:Nat)(c:Code)(ex:Fr->St->XS):Prop:=
 ∀  (fr:Fr)(st:St)(outs:List XO)(ρ:Pos->Loc)(a:Act)(w:World)(Q:Exit->Act->World->Prop),ex fr st=some outs->mF nt ρ C fr st ⟨a.tmps,[]⟩ w->J ρ st w a.defers->(∀t,ts t->a.tmps[t]? =x[t]?)->
    (∀o∈outs,∀a' w',jA C J ts x nt ρ st w o.2.1 o.2.2 a' w'->Q (mN o.1) a' w')->c.wpIn (Fc r) 0 P Q a w
theorem A4.g{c:Code}{ex:Fr->St->XS}(h:A4 P C nt c ex)(hJ:Oe C J)(cH:∀t∈o7 c,¬ts t):cY P C r J ts x nt c ex:=by
 intro fr st outs ρ a w Q he hS hj hx hQ;have h1:eE P c (λe a' w'=>∃o∈outs,e=mN o.1/\fB nt ρ C st w o.2.1 o.2.2 a' w') ⟨a.tmps,[]⟩ w:=h fr st outs ρ _ w _ he hS λo ho a' w' hp=>⟨o,ho,rfl,hp⟩
 refine wpIn_mono (eE.V8 (r:=r) (n:=0) (D:=a.defers) (ds:=[]) (ts:=ts) (x:=x) c _ a.tmps w cH hx h1) ?_;rintro e a' w' ⟨hd,hk,o,ho,rfl,ρ',S,k1,k2,E⟩;exact hQ o ho a' w' ⟨ρ',S,k1,k2,E,by rw[hd];exact hJ _ _ _ _ _ _ _ hj hS.W S.W k1 k2 E,hk⟩
def I7(f g:Fr->St->XS)(fr:Fr)(st:St):XS:=match f fr st with
 |  some outs=>Gg (λ|(e,fr,st)=>match e with
    |.normal=>g fr st
    |e=>some [(e,fr,st)]) outs []
 |none=>none
def abY(id:Nat)(f:Fr->St->XS)(fr:Fr)(st:St):XS:=match f fr st with
 |  some outs=>Gg (λ|(e,fr,st)=>match e with
    | .exit i=>match Nat.beq i id with
      |true=>some [(.normal,fr,st)]
      |false=>some [(.exit i,fr,st)]
    |e=>some [(e,fr,st)]) outs []
 |none=>none
def X4(c:dU)(f g:Fr->St->XS)(fr:Fr)(st:St):XS:=Qo none fr c λ
 |  .bool b=>match b with
    |true=>f fr st
    |false=>g fr st
 |_=>none
def Of(f:Fr->St->XS):Nat->Fr->St->XS
 |0,_,_=>none
 |n+1,fr,st=>I7 f (λfr st=>Of f n fr st) fr st
theorem cY.seq'(hw:DM J){c:Code}{f g:Fr->St->XS}{K:Act->World->Prop}{Q:Exit->Act->World->Prop}(hc:cY P C r J ts x nt c f)
  {fr:Fr} {st:St} {outs:List XO} {ρ:Pos->Loc} {a:Act} {w:World} (h:I7 f g fr st=some outs) (hS:mF nt ρ C fr st ⟨a.tmps,[]⟩ w) (hj:J ρ st w a.defers) (hx:∀t,ts t->a.tmps[t]? =x[t]?)
  (hK:∀bO aM jz a1 w1,g bO aM=some jz->(∀z∈jz,∃y∈outs,Cv y z)->jA C J ts x nt ρ st w bO aM a1 w1->K a1 w1)
  (hQ:∀o∈outs,o.1≠ .normal->∀a' w',jA C J ts x nt ρ st w o.2.1 o.2.2 a' w'->Q (mN o.1) a' w'):c.wpIn (Fc r) 0 P (Exit.then K Q) a w:=by
 unfold I7 at h;split at h<;>first|(cases h;done)|skip
 rename_i X5 h0;obtain⟨_,cG⟩:=vr h;refine hc fr st X5 ρ a w _ h0 hS hj hx λo ho a1 w1 hp=> ?_
 obtain⟨jz,h1,oe⟩:=cG o ho;obtain⟨e,bO,aM⟩:=o;dsimp only at h1 hp;cases e with
 |normal=>exact hK _ _ jz a1 w1 h1 oe hp
 |exit i=>
  simp only[H0]at h1;subst h1;obtain⟨y,hy,hcv⟩:=oe _ (Zd3.2 rfl);have:=hQ y hy (by rw[hcv.e];simp) a1 w1 (jA.Oc hw hcv hp);rw[hcv.e]at this;exact this
 |ret=>
  simp only[H0]at h1;subst h1;obtain⟨y,hy,hcv⟩:=oe _ (Zd3.2 rfl);have:=hQ y hy (by rw[hcv.e];simp) a1 w1 (jA.Oc hw hcv hp);rw[hcv.e]at this;exact this
theorem jA.go{ρ dJ:Pos->Loc}{st aM:St}{a1:Act}{w w1:World}{bO:Fr}(hw:DM J){d:Code}{g:Fr->St->XS}(hd:cY P C r J ts x nt d g){outs jz:List XO}{Q:Exit->Act->World->Prop}
  (h:g bO aM=some jz) (oe:∀z∈jz,∃y∈outs,Cv y z) (hp:jA C J ts x nt ρ st w bO aM a1 w1)
  (hQ:∀o∈outs,∀a' w',jA C J ts x nt ρ st w o.2.1 o.2.2 a' w'->Q (mN o.1) a' w'):d.wpIn (Fc r) 0 P Q a1 w1:=by
 obtain⟨dJ,S,k1,k2,E,hj,hx⟩:=hp;refine hd bO aM jz dJ a1 w1 Q h S hj hx λo ho a' w' hp=> ?_
 obtain⟨y,hy,hcv⟩:=oe o ho;have:=hQ y hy a' w' (jA.Oc hw hcv (jA.trans k1 k2 E hp));rw[hcv.e]at this;exact this
theorem cY.seq(hw:DM J){c d:Code}{f g:Fr->St->XS}(hc:cY P C r J ts x nt c f)(hd:cY P C r J ts x nt d g):cY P C r J ts x nt (.seq c d) (I7 f g):=
 λfr st outs ρ a w Q h hS hj hx hQ=>wpIn_seq (hc.seq' hw h hS hj hx (λbO aM jz a1 w1 h1 oe hp=>hp.go (dJ:=ρ) hw hd h1 oe hQ) λo ho _=>hQ o ho)
theorem cY.block(hw:DM J){id:Nat}{c:Code}{f:Fr->St->XS}(hc:cY P C r J ts x nt c f):cY P C r J ts x nt (.block id c) (abY id f):=by
 intro fr st outs ρ a w Q h hS hj hx hQ;unfold abY at h;split at h<;>first|(cases h;done)|skip
 rename_i X5 h0;obtain⟨_,cG⟩:=vr h;refine wpIn_block (hc fr st X5 ρ a w _ h0 hS hj hx λo ho a1 w1 hp=> ?_);obtain⟨jz,h1,oe⟩:=cG o ho;obtain⟨e,bO,aM⟩:=o;dsimp only at h1 hp;have fin:∀e',jz=[(e',bO,aM)]->Q (mN e') a1 w1:=λe' he=>by subst he;obtain⟨y,hy,hcv⟩:=oe _ (Zd3.2 rfl);have:=hQ y hy a1 w1 (jA.Oc hw hcv hp);rw[hcv.e]at this;exact this
 cases e with
 |normal=>simp only[H0]at h1;exact fin _ h1.symm
 |exit i=>
  dsimp only at h1;simp only[mN,Exit.inBlock];cases hb:Nat.beq i id with
  |true=>
   rw[hb]at h1;rw[Za6 (Za2 hb)];exact fin .normal (Zf5 h1).symm
  |false=>
   rw[hb]at h1;rw[Za3 (Zb7 hb)];exact fin (.exit i) (Zf5 h1).symm
 |ret=>simp only[H0]at h1;exact fin _ h1.symm
theorem cY.cond{c:Operand}{o:dU}{d e:Code}{f g:Fr->St->XS}(ho:kG c=some o)(hd:cY P C r J ts x nt d f)(he:cY P C r J ts x nt e g):cY P C r J ts x nt (.cond c d e) (X4 o f g):=by
 intro fr st outs ρ a w Q h hS hj hx hQ;unfold X4 at h;rw[II]at h;unfold nD at h;split at h<;>first|(cases h;done)|skip
 rename_i v hv;dsimp only at h;split at h<;>first|(cases h;done)|skip
 rename_i b;have hb:=(oY ho hS.F hv).gG;have hb:a.eval c= .bool b:=by rw[<-hb];exact Ew
 cases b
 .exact wpIn_cond_false hb (he fr st outs ρ a w Q h hS hj hx hQ)
 .exact wpIn_cond_true hb (hd fr st outs ρ a w Q h hS hj hx hQ)
theorem cY.loop(hw:DM J){c:Code}{f:Fr->St->XS}(hc:cY P C r J ts x nt c f)(n:Nat):cY P C r J ts x nt (.loop c) (Of f n):=by
 intro fr st outs ρ a w Q h hS hj hx hQ;refine wpIn_loop_rounds n ?_
 suffices H:∀(n:Nat)(bO:Fr)(aM:St)(jz:List XO)(a1:Act)(w1:World),Of f n bO aM=some jz->(∀z∈jz,∃y∈outs,Cv y z)->jA C J ts x nt ρ st w bO aM a1 w1->
    Code.roundsIn (Fc r) 0 P c Q n a1 w1 from
  H n fr st outs a w h (λz hz=>⟨z,hz,.refl z⟩) ⟨ρ,hS,λ_ _=>rfl,Za5 _,jN.refl _ _ _,hj,hx⟩
 intro n;induction n with
 |zero=>intro bO aM jz a1 w1 h;cases h
 |succ n ih=>
  intro bO aM jz a1 w1 h1 oe hp;obtain⟨dJ,S,k1,k2,E,hj1,VU⟩:=hp;rw[roundsIn_succ];refine hc.seq' hw (g:=λfr st=>Of f n fr st) h1 S hj1 VU (λsU iy X6 a2 w2 h2 afo xY=> ?_) λo ho _ a' w' xY=> ?_
  .refine ih sU iy X6 a2 w2 h2 (λz hz=> ?_) (jA.trans k1 k2 E xY);obtain⟨y,hy,hc1⟩:=afo z hz;obtain⟨y',QI,WI⟩:=oe y hy;exact⟨y',QI,⟨WI.e.trans hc1.e,λp v h=>hc1.f p v (WI.f p v h),λp v h=>hc1.h p v (WI.h p v h),WI.n.trans hc1.n⟩⟩
  .obtain⟨y,hy,hcv⟩:=oe o ho;have:=hQ y hy a' w' (jA.Oc hw hcv (jA.trans k1 k2 E xY));rw[hcv.e]at this;exact this
def noS:Fr->St->XS:=λ_ _=>none
theorem cY.no{c:Code}:cY P C r J ts x nt c noS:=λ_ _ _ _ _ _ _ h=>by cases h
def vt(base:Code->Option (Fr->St->XS))(n:Nat):Code->Fr->St->XS
 |  .seq a b=>match base (.seq a b)with
    |some f=>f
    |none=>I7 (vt base n a) (vt base n b)
 |  .block id a=>match base (.block id a)with
    |some f=>f
    |none=>abY id (vt base n a)
 |  .loop a=>match base (.loop a)with
    |some f=>f
    |none=>Of (vt base n a) n
 |  .cond c a b=>match base (.cond c a b)with
    |some f=>f
    |none=>match kG c with
     |some o=>X4 o (vt base n a) (vt base n b)
     |none=>noS
 |  c=>match base c with
    |some f=>f
    |none=>noS
theorem cY.sp(hw:DM J){base:Code->Option (Fr->St->XS)}{n:Nat}:∀c:Code,(∀t∈o7 c,¬ts t)->(∀c f,(∀t∈o7 c,¬ts t)->base c=some f->cY P C r J ts x nt c f)->cY P C r J ts x nt c (vt base n c):=by
 intro c cH hb;induction c with
 |seq a b SW SX=>
  unfold vt;split
  .exact hb _ _ cH (by assumption)
  .exact .seq hw (SW λt ht=>cH t (Zg7 _ ht)) (SX λt ht=>cH t (Zi3 _ ht))
 |block id a ih=>
  unfold vt;split
  .exact hb _ _ cH (by assumption)
  .exact .block hw (ih cH)
 |loop a ih=>
  unfold vt;split
  .exact hb _ _ cH (by assumption)
  .exact .loop hw (ih cH) n
 |cond c a b SW SX=>
  unfold vt;split
  .exact hb _ _ cH (by assumption)
  . split
    .exact .cond (by assumption) (SW λt ht=>cH t (Zg7 _ ht)) (SX λt ht=>cH t (Zi3 _ ht))
    .exact .no
 |_=>
  unfold vt;split
  .exact hb _ _ cH (by assumption)
  .exact .no
def zf(P:Program)(tt:TT)(bf:iA XR)(m:Nat)(kp:List Nat)(nt:Nat)(c:Code):Option (Fr->St->XS):=match Go.Ai.T7 tt nt c with
 |  some (g,ty)=>match P.underlying ty with
    |some (.map _ _)=>some (rgS bf m { g with ds:=key g.t18::key g.t19::g.ds.filter λp=> !(kp.any λt=>Pos.beq (key t) p) })
    |_=>none
 |  none=>match Mm c with
    |true=>none
    |false=>match qH tt nt c with
     |some ac=>some (abW (exK bf m ac))
     |none=>none
theorem Mn{bf:iA XR}{call:ai}{m:Nat}{kp:List Nat}(hT:bM P tt)(hc:CK none bf call)(bH:eV P C call)(fL:p9 P tt C call)(hJ:Oe C J){c:Code}{f:Fr->St->XS}
   (cH:∀t∈o7 c,¬ts t) (h:zf P tt bf m kp nt c=some f):cY P C r J ts x nt c f:=by
 unfold zf at h;split at h
 .rename_i hg;(split at h<;>first|(cases h;done)|skip);rename_i hu;simp only[H0]at h;subst h;exact(A4.T7 hT hc bH fL hg hu _).g hJ cH
 . (split at h<;>first|(cases h;done)|skip);(split at h<;>first|(cases h;done)|skip);rename_i S8;simp only[H0]at h;subst h;exact(I4.ac hT hc bH fL S8).one.g hJ cH
end
section
variable{P:Program}{tt:TT}{C:Cells}{ρ:Pos->Loc}{st:St}{w w':World}{nt:Nat}
theorem aX.tZ{L:Nat}(hW:aX ρ C st w)(hr:∀a:Addr,a.block=L->w.cell? a=none)(hn:∀b x,st.heap.get b=some x->(ρ b).av≠L)
   (hs:w'.heap.size=w.heap.size) (hk:∀k,k≠L->w'.heap[k]? =w.heap[k]?):aX ρ C st w':=by
 have aV:∀a v,C a=some v->a.block≠L:=λa v ha e=>by have h:=(hW.dx a v ha).1;rw[hr a e]at h;cases h
 refine⟨λb x hb=> ?_,hW.inj,λa v ha=> ?_,λa v ha o ho=> ?_⟩
 .obtain⟨h1,h2,h3⟩:=hW.live b x hb;exact⟨h1,by rw[hs];exact h2,h3.of_heap (hk _ (hn b x hb))⟩
 .obtain⟨h1,h2⟩:=hW.dx a v ha;exact⟨by rw[World.cell?_of_block (w:=w) (hk _ (aV a v ha))];exact h1,h2⟩
 .rw[World.cell?_of_block (w:=w) (a:=⟨a.block,o,none⟩) (hk _ (aV a v ha))];exact hW.whole a v ha o ho
theorem aX.Mp{L:Nat}{r:Loop}{o:Obj}(hW:aX ρ C st w)(hl:w.heap[L]? =some (.loop r))(hn:∀b x,st.heap.get b=some x->(ρ b).av≠L):aX ρ C st (w.putObj L o):=
 hW.tZ (λa ha=>by subst ha;simp[World.cell?,hl]) hn World.putObj_size λk hk=>World.putObj_heap_other hk
theorem aX.abZ{L:Nat}{r:Option (List Deferred)}{o:Obj}(hW:aX ρ C st w)(hl:w.heap[L]? =some (.deferred r))(hn:∀b x,st.heap.get b=some x->(ρ b).av≠L):aX ρ C st (w.putObj L o):=
 hW.tZ (λa ha=>by subst ha;simp[World.cell?,hl]) hn World.putObj_size λk hk=>World.putObj_heap_other hk
theorem Bf{ρ':Pos->Loc}{st':St}{L:Nat}(E:jN ρ st w ρ' st' w')(hL:L<w.heap.size)(hn:∀b x,st.heap.get b=some x->(ρ b).av≠L):(∀b x,st'.heap.get b=some x->(ρ' b).av≠L)/\w'.heap[L]? =w.heap[L]? :=
 ⟨λb x hb=>by
  rcases E.nr b x hb with⟨b',x',iX,e⟩|h
  .rw[<-e];exact hn b' x' iX
  .omega,E.block L hL hn⟩
def Lj:zB:=λ_ _ _ D=>D=[]
theorem Lj.stays:Oe C Lj:=λ_ _ _ _ _ _ _ h _ _ _ _ _=>h
theorem Lj.zY:DM Lj:=λ_ _ _ _ _ h _ _=>h
def EE(C:Cells)(L D0:Nat)(r:Loop)(rG:Fr):zB:=λρ st w D=>D=[]/\w.heap[L]? =some (.loop r)/\w.heap[D0]? =some (.deferred (some []))/\
 (∀b x,st.heap.get b=some x->(ρ b).av≠L)/\(∀b x,st.heap.get b=some x->(ρ b).av≠D0)/\fh ρ st.next.toNat C rG r.tmps
theorem Dc{k:Nat}{o:Obj}(h:w.heap[k]? =some o):k<w.heap.size:=(Zd0.1 h).1
theorem EE.stays{L D0:Nat}{r:Loop}{rG:Fr}:Oe C (EE C L D0 r rG):=λρ st w D ρ' st' w' h _ _ k1 k2 E=>by
 obtain⟨h1,h2,h3,h4,h5,h6⟩:=h;obtain⟨f1,f2⟩:=Bf E (Dc h2) h4;obtain⟨g1,g2⟩:=Bf E (Dc h3) h5;exact⟨h1,f2.trans h2,g2.trans h3,f1,g1,h6.mono k1 k2⟩
theorem EE.zY{L D0:Nat}{r:Loop}{rG:Fr}:DM (EE C L D0 r rG):=λρ st st' w D h hh hn=>by
 obtain⟨h1,h2,h3,h4,h5,h6⟩:=h;exact⟨h1,h2,h3,λb x hb=>h4 b x (hh b x hb),λb x hb=>h5 b x (hh b x hb),by rw[hn];exact h6⟩
abbrev mark(r:Nat):Deferred:={ target:= .collected r,args:= #[] }
def I8(B:Nat):zB:=λρ st w D=>B<=w.heap.size/\∃rs:List Nat,D=rs.map mark/\rs.Nodup/\∀r∈rs,B<=r/\w.heap[r]? =some (.deferred (some []))/\∀b x,st.heap.get b=some x->(ρ b).av≠r
theorem I8.stays{B:Nat}:Oe C (I8 B):=λρ st w D ρ' st' w' h _ _ k1 k2 E=>by
 obtain⟨hB,rs,h1,h2,h3⟩:=h;refine⟨Zc8 hB E.size,rs,h1,h2,λr hr=> ?_⟩;obtain⟨g0,g1,g2⟩:=h3 r hr;obtain⟨f1,f2⟩:=Bf E (Dc g1) g2;exact⟨g0,f2.trans g1,f1⟩
theorem I8.zY{B:Nat}:DM (I8 B):=λρ st st' w D h hh hn=>by
 obtain⟨hB,rs,h1,h2,h3⟩:=h;exact⟨hB,rs,h1,h2,λr hr=>let⟨g0,g1,g2⟩:=h3 r hr;⟨g0,g1,λb x hb=>g2 b x (hh b x hb)⟩⟩
def Uc:List XO->List St->Option (List St)
 |[],acc=>some acc
 |  (e,_,st)::l,acc=>match e with
    |.normal=>Uc l (st::acc)
    |_=>none
def Og{β:Type}:List Nat->List AV->Fr->(Fr->Option β)->Option β
 |[],[],fr,k=>k fr
 |p::ps,v::vs,fr,k=>nu (some v) (key p) fr λfr=>Og ps vs fr k
 |_,_,_,_=>none
def X7(ps:List Nat)(f:Fr->St->XS)(rG:Fr)(vs:List AV)(st:St):Option (List St):=Og ps vs rG λfr=>match f fr st with
 |some outs=>Uc outs []
 |none=>none
theorem Q6:∀{l:List XO}{acc EF:List St},Uc l acc=some EF->(∀s∈acc,s∈EF)/\∀o∈l,o.1= .normal/\o.2.2∈EF
 |[],acc,EF,h=>by
  simp only[Uc,H0]at h;subst h;exact⟨λ_ h=>h,λ_ h=>by cases h⟩
 |(e,fr,st)::l,acc,EF,h=>by
  unfold Uc at h;cases e with
  | normal=>
    obtain⟨h1,h2⟩:=Q6 (l:=l) h;refine⟨λs hs=>h1 s (Za7 _ hs),λo ho=> ?_⟩;rcases Zb0.1 ho with rfl|ho
    .exact⟨rfl,h1 _ (Zc3 ..)⟩
    .exact h2 o ho
  |_=>cases h
theorem Ll{β:Type}{k:Fr->Option β}{z:β}:∀{ps:List Nat}{vs:List AV}{xs:List Value}{fr:Fr}{T:Array Value},Og ps vs fr k=some z->au ρ st.next.toNat C vs xs->fh ρ st.next.toNat C fr T->T.size=nt->(∀p∈ps,p<nt)->
  ∃aY,k aY=some z/\fh ρ st.next.toNat C aY ((ps.zip xs).foldl (λt (p,v)=>t.setIfInBounds p v) T)/\((ps.zip xs).foldl (λt (p,v)=>t.setIfInBounds p v) T).size=nt/\xs.length=ps.length
 |[],[],xs,fr,T,h,hv,hF,hs,_=>by
  have:=hv.mL;subst this;exact⟨fr,h,hF,hs,rfl⟩
 |p::ps,v::vs,xs,fr,T,h,hv,hF,hs,hp=>by
  obtain⟨x,tT,rfl,h1,h2⟩:=hv.cons_inv;unfold Og at h;rw[ir]at h;have hF':=fh.put (nt:=nt) (a:=⟨T,[]⟩) (d:=some p) hF hs (λ_ h=>by cases h;exact hp p (Zc3 ..)) h1;obtain⟨aY,g1,g2,g3,g4⟩:=Ll (T:=T.setIfInBounds p x) h h2 hF' (by simpa using hs) λq hq=>hp q (Za7 _ hq)
  exact⟨aY,g1,g2,g3,by simp[g4]⟩
 |[],_::_,_,_,_,h,_,_,_,_=>by cases h
 |_::_,[],_,_,_,h,_,_,_,_=>by cases h
def X9(P:Program)(C:Cells)(L D0:Nat)(r:Loop)(rG:Fr)(Q7:List AV->St->Option (List St)):Prop:=
 ∀  (vs:List AV)(st:St)(EF:List St)(ρ:Pos->Loc)(w:World)(args:Array Value),Q7 vs st=some EF->aX ρ C st w->au ρ st.next.toNat C vs args.toList->EE C L D0 r rG ρ st w []->
    args.size=r.params.size/\RoundIn (Fc none) 0 P L r.fn ((r.params.zip args).foldl (λt (p,v)=>t.setIfInBounds p v) r.tmps) r.assign r.body w λe w'=>
     ∃s∈EF,e= .returned (.bool true)/\∃ρ',aX ρ' C s w'/\(∀b:Pos,b.toNat<st.next.toNat->ρ' b=ρ b)/\st.next.toNat<=s.next.toNat/\jN ρ st w ρ' s w'
theorem aeu{L D0:Nat}{r:Loop}{rG:Fr}{ps:List Nat}{f g:Fr->St->XS}(hp:r.params.toList=ps)(hr:r.state= .ready)(Nt:r.pending=none)(hs:r.tmps.size=nt)(aN:∀p∈ps,p<nt)
   (hA:cY P C (some L) Lj (λ_=>False) #[] nt r.assign f) (hB:cY P C (some L) Lj (λ_=>False) #[] nt r.body g):X9 P C L D0 r rG (X7 ps (I7 f g) rG):=by
 intro vs st EF ρ w args h hW hv hj;obtain⟨_,hl,_,tZ,_,hF⟩:=hj;unfold X7 at h;obtain⟨fr,h,hF1,Oh,hlen⟩:=Ll h hv hF hs aN;have afp:(ps.zip args.toList).foldl (λt (p,v)=>t.setIfInBounds p v) r.tmps=(r.params.zip args).foldl (λt (p,v)=>t.setIfInBounds p v) r.tmps:=by
   rw[<-hp, <-Array.foldl_toList,Array.toList_zip]
 rw[afp]at hF1 Oh;refine⟨by rw[<-Zf4, <-Zf4,hp,hlen],roundIn_of_wpIn (F:=Fc none) trivial ?_⟩;split at h<;>first|(cases h;done)|skip
 rename_i outs hx;have cG:=(Q6 h).2;show r.assign.wpIn (Fc (some L)) 0 P _ _ w;refine hA.seq' Lj.zY hx ⟨hW,hF1,Oh,rfl⟩ rfl (λ_ h=>h.elim) (λbO aM jz a1 w1 h1 oe eD=> ?_) λo ho aV=>(aV (cG o ho).1).elim
 obtain⟨dJ,S1,k1,k2,E1,hD1,_⟩:=eD;obtain⟨far1,ya⟩:=Bf E1 (Dc hl) tZ;rw[hl]at ya;refine⟨_,run_beginRound ya hr,?_⟩;have Ya:=Dc ya;refine hB bO aM jz dJ a1 _ _ h1 ⟨S1.W.Mp ya far1,S1.F,S1.size,rfl⟩ hD1 (λ_ h=>h.elim) λo ho a3 w3 WJ=> ?_
 obtain⟨y,hy,hcv⟩:=oe o ho;obtain⟨Aj,Bp⟩:=cG y hy;rw[<-hcv.e,Aj];obtain⟨zA,S3,j1,j2,E3,_,_⟩:=WJ;have mU:=World.putObj_heap_same (o:= .loop { r with state:= .busy }) Ya;obtain⟨far3,hl3⟩:=Bf E3 (by rw[World.putObj_size];exact Ya) far1;rw[mU]at hl3;refine⟨_,_,run_endRound (P:=P) none hl3,y.2.2,Bp,rfl,zA,?_,λb hb=>(j1 b (Zc7 hb k2)).trans (k1 b hb),by rw[hcv.n];exact Zc8 k2 j2,?_⟩
 .exact(S3.W.Mp hl3 far3).zY hcv.h hcv.n
 . have hrec:({ ({ r with state:= .busy }:Loop)with state:=if(none:Option Code).isNone then .ready else .done,pending:=none }:Loop)=r:=(by cases r;simp only at hr Nt;subst hr;subst Nt;rfl);rw[hrec];refine E1.trans ⟨E3.os,E3.tape,E3.output,by rw[World.putObj_size];have:=E3.size;rw[World.putObj_size]at this;exact this,λk hk hn=> ?_,λb x hb=> ?_⟩
   . by_cases e:k=L
     .  subst e;rw[World.putObj_heap_same (Dc hl3),ya]
     .  rw[World.putObj_heap_other e,E3.block k (by rw[World.putObj_size];exact hk) hn,World.putObj_heap_other e]
   .have:=E3.nr b x (hcv.h b x hb);rw[World.putObj_size]at this;exact this
end
structure YR where
 d:Nat
 dy:Nat
 xs:List dU
 l1:List bk
 l2:List bk
def Sk (d:Nat):List Oper->Nat->Option Nat
 |[],_=>none
 |  o ::l,i=>match o.op with
    | .call c=>match c.callee with
      | .value (.tmp e)=>match Nat.beq d e with
        |true=>some i
        |false=>Sk d l (i+1)
      |_=>Sk d l (i+1)
    |_=>Sk d l (i+1)
def aaj(d:Nat)(o:Oper):Bool:=match o.dst with
 |some e=> !Nat.beq d e
 |none=>true
def ab0 (tt : TT)(nt:Nat):Code->Option YR
 |  .region _ ops false=>match ops[0]? with
    |some o0  =>match o0.op,o0.dst,o0.guard with
     |  .move (.tmp 0),some d,none=>match Sk d ops.toList 0 with
        |some j=>match ops[j]? with
         |  some oj=>match oj.op,oj.dst,oj.guard with
            | .call c,some dy,none=>match c.callee,iT c.args.toList,mT tt nt ops ops.toList []with
              | .value (.tmp d'),some xs,some l=>match Nat.beq d' d&&Nat.blt d nt&&Nat.blt dy nt&&Nat.blt 0 j&&Nat.blt j ops.size&&((ops.toList.drop 1).take (j - 1)).all (aaj d)with
                |true=>some ⟨d,dy,xs,(l.drop 1).take (j - 1),l.drop (j+1)⟩
                |false=>none
              |_,_,_=>none
            |_,_,_=>none
         |none=>none
        |none=>none
     |_,_,_=>none
    |none=>none
 |_=>none
def Mr:Code->Bool
 |.region _ ops _=>ops.toList.any λo=>match o.op with|.move (.tmp 0)=>true|_=>false
 |.seq a b=>Mr a||Mr b
 |.cond _ a b=>Mr a||Mr b
 |.block _ a=>Mr a
 |.loop a=>Mr a
 |_=>false
section
variable(bf:iA XR)
def ab1(Q7:List AV->St->Option (List St))(y:YR)(fr:Fr)(st:St):XS:=nu none (key y.d) fr λfr=>match Ub bf y.l1 fr st with
 |  some (_,bO,aM)=>LQ none bO y.xs λvs=>match Q7 vs aM with
    |some EF=>nu (some (.bool true)) (key y.dy) bO λsU=>Gg (λs=>match Ub bf y.l2 sU s with
     |some o=>some [o]
     |none=>none) EF []
    |none=>none
 |none=>none
end
section
variable{P:Program}{tt:TT}{C:Cells}{bf:iA XR}{call:ai}{nt m:Nat}
theorem fh.drop{ρ:Pos->Loc}{n d:Nat}{fr:Fr}{X:Array Value}(h:fh ρ n C fr X)(v:Value):fh ρ n C (fr.put none (key d)) (X.setIfInBounds d v):=λp u hp=>by
 by_cases e:key d=p
 .subst e;rw[T.eF]at hp;cases hp
 .rw[T.bw _ e]at hp;obtain⟨y,hy,hr⟩:=h p u hp;refine⟨y,?_,hr⟩;rw[Ze1,hy];intro h';apply e;apply Pos.toNat_inj;rw[eO];have:=p.toNat_pos;omega
theorem Lm{r:Option Nat}{ops:Array Oper}{Q:Exit->Act->World->Prop}{i:Nat}{rest:List Nat}{o:Oper}{a:Act}{w:World}(ho:ops[i]? =some o)(hg:o.guard=none)
  (h:o.uponIn (Fc r) 0 P a (wpOpsIn (Fc r) 0 P ops Q rest) Q ((o.semAt r a.eval).run P w)):wpOpsIn (Fc r) 0 P ops Q (i::rest) a w:=by
 rw[wpOpsIn_cons];unfold wpOpIn;rw[ho];simp only[Region.wanted,hg,Zg3];exact⟨λ_ _=>trivial,h⟩
theorem Vy(j k:Nat):List.range (j+1+1+k)=0::(List.range' 1 j++(j+1)::List.range' (j+2) k):=by rw[Zk7,show j+1+1+k=(j+1)+(k+1)by omega, <-List.range'_append_1,Zm9,Zm9 (s:=0+(j+1))];simp
theorem cY.yld(hT:bM P tt)(hc:CK none bf call)(bH:eV P C call){L D0:Nat}{r:Loop}{rG:Fr}{x:Array Value}(Ln:x[0]? =some (.func (.yield L) #[] #[]))
   {Q7:List AV->St->Option (List St)} (ab2:X9 P C L D0 r rG Q7) {c:Code} {y:YR} (hy:ab0 tt nt c=some y) (cH:∀t∈o7 c,t≠0):
   cY P C none (EE C L D0 r rG) (λt=>t=0) x nt c (ab1 bf Q7 y):=by
 unfold ab0 at hy;split at hy<;>first|(cases hy;done)|skip
 rename_i id ops;split at hy<;>first|(cases hy;done)|skip
 rename_i o0 h0;split at hy<;>first|(cases hy;done)|skip
 rename_i d hop0 hd0 hg0;split at hy<;>first|(cases hy;done)|skip
 rename_i j hj;split at hy<;>first|(cases hy;done)|skip
 rename_i oj hoj;split at hy<;>first|(cases hy;done)|skip
 rename_i cl dy hopj hdj hgj;split at hy<;>first|(cases hy;done)|skip
 rename_i d' xs l LZ gJ hl;split at hy<;>first|(cases hy;done)|skip
 rename_i hb;simp only[H0]at hy;subst hy;simp only[Za8,Nat.beq_eq,Zo8]at hb;obtain⟨⟨⟨⟨⟨rfl,hd⟩,hdy⟩,hj0⟩,hjs⟩,CJ⟩:=hb;intro fr st outs ρ a w Q h hS hJ hx hQ;unfold ab1 at h;rw[ir]at h;dsimp only at h;split at h<;>first|(cases h;done)|skip
 rename_i e1 bO aM Aj;obtain⟨rfl,hz1⟩:=Pv hc Aj;rw[J7]at h;unfold nD at h;split at h<;>first|(cases h;done)|skip
 rename_i vs iz;dsimp only at h;split at h<;>first|(cases h;done)|skip
 rename_i EF hr;rw[ir]at h;obtain⟨_,cG⟩:=vr h;have hlen:l.length=ops.size:=by rw[(ny hl).1,Zf4]
 have ya:((l.drop 1).take (j - 1)).length=j - 1:=by rw[Zh6,List.length_drop,hlen];omega
 have mU:(l.drop (j+1)).length=ops.size - (j+1):=by rw[List.length_drop,hlen]
 apply wpIn_region;have aev:List.range ops.size=0::(List.range' 1 ((l.drop 1).take (j - 1)).length++(j::List.range' (j+1) (l.drop (j+1)).length)):=by rw[ya,mU];have:=Vy (j - 1) (ops.size - (j+1));rw[show j - 1+1+1+(ops.size - (j+1))=ops.size by omega,show j - 1+1=j by omega,show j - 1+2=j+1 by omega]at this;exact this
 rw[aev];refine Lm h0 hg0 ?_;have hev0:a.eval (.tmp 0)= .func (.yield L) #[] #[]:=by
   have:=hx 0 rfl;rw[Ln]at this;show a.tmps.getD 0 undef=_;simp[Zh7,this]
 have hsem:(o0.semAt none a.eval).run P w= .ok (.value (.func (.yield L) #[] #[])) w:=by
   show(execOp a.eval o0).run P w=_;unfold execOp;rw[hop0];simp only[Sem.run_pure,hev0]
 rw[hsem];show wpOpsIn (Fc none) 0 P ops Q _ (a.put o0.dst _) w;rw[hd0];show wpOpsIn (Fc none) 0 P ops Q _ ⟨a.tmps.setIfInBounds d' (.func (.yield L) #[] #[]),a.defers⟩ w;have afq:d'≠0:=cH d' (by
   show d'∈ops.toList.filterMap (·.dst);rw[Zm0];exact⟨o0,by rw[Zk6];exact Zk5 h0,hd0⟩)
 have Yb:∀(i:Nat)(o:Oper),ops[i]? =some o->∀t,o.dst=some t->t≠0:=λi o ho t ht=>cH t (by
   show t∈ops.toList.filterMap (·.dst);rw[Zm0];exact⟨o,by rw[Zk6];exact Zk5 ho,ht⟩)
 have hsz0:a.tmps.size=nt:=hS.size
 refine FL (ds:=[]) (ts:=λt=>t=0\/t=d') (x:=(a.tmps.setIfInBounds d' (.func (.yield L) #[] #[]))) (K:=λa' w'=>fB nt ρ C st w bO aM a' w') (λT' w1 hk hp=> ?_) _ _ w (λi hi o ho t ht=> ?_) (λ_ _=>rfl)
   (o8 (nt:=nt) hT bH _ 1 _ bO st aM ρ _ w (λi ao hi=> ?_) hz1 ⟨hS.W,hS.F.drop _,by simpa using hsz0,rfl⟩ λa' w' hp=>hp)
 . obtain⟨dJ,S1,k1,k2,E1⟩:=hp;have hJ1:=EE.stays _ _ _ _ _ _ _ hJ hS.W S1.W k1 k2 E1;have hD:a.defers=[]:=hJ.1;have Zz:=hJ1.2.1;have KP:=dM gJ S1.F iz;obtain⟨eW,aew⟩:=ab2 vs aM EF dJ w1 (cl.args.map (⟨T',a.defers⟩:Act).eval) hr S1.W (by
     (rw[Zp3];have:(⟨T',a.defers⟩:Act).eval=(⟨T',[]⟩:Act).eval:=funext λ_=>Ew);rw[this];exact KP) (by rw[<-hD];exact hJ1)
   refine Lm hoj hgj ?_;have hevd:(⟨T',a.defers⟩:Act).eval (.tmp d')= .func (.yield L) #[] #[]:=by
     have:=hk d' (.inr rfl);rw[Zk3]at this;simp[hsz0,hd]at this;show T'.getD d' undef=_;simp[Zh7,this]
   have afr:(oj.semAt none (⟨T',a.defers⟩:Act).eval).run P w1= .ok (.round L r.fn ((r.params.zip (cl.args.map (⟨T',a.defers⟩:Act).eval)).foldl (λt (p,v)=>t.setIfInBounds p v) r.tmps) r.assign r.body) w1:=(by show(execOp (⟨T',a.defers⟩:Act).eval oj).run P w1=_;unfold execOp;rw[hopj];simp only[resolve,LZ,hevd,Deferred.ofValue,invoke,Sem.run_bind,Sem.run_pure,Result.andThen];have:=run_yield (P:=P) (args:= #[]++cl.args.map (⟨T',a.defers⟩:Act).eval) Zz (by simpa using eW);simpa using this);rw[afr];refine⟨λhd=>by simp[Fence.wide]at hd,aew.mono ?_⟩;rintro e w2 ⟨s,hs,rfl,lV,Es,k3,k4,E2⟩;show wpOpsIn (Fc none) 0 P ops Q _ ((⟨T',a.defers⟩:Act).put oj.dst _) w2;rw[hdj];show wpOpsIn (Fc none) 0 P ops Q _ ⟨T'.setIfInBounds dy (.bool true),a.defers⟩ w2;obtain⟨jz,h1,oe⟩:=cG s hs;(split at h1<;>first|(cases h1;done)|skip);rename_i o ho;simp only[H0]at h1;subst h1;obtain⟨e3,Od,s3⟩:=o;obtain⟨rfl,hz3⟩:=Pv hc ho;obtain⟨y,hyo,hcv⟩:=oe _ (Zd3.2 rfl);have hF2:=fh.put (nt:=nt) (a:=⟨T',[]⟩) (d:=some dy) (S1.F.mono k3 k4) S1.size (λ_ h=>by cases h;exact hdy) (aj.bool (C:=C) true);have hdy0:dy≠0:=Yb j oj hoj dy hdj;rw[<-Zf3 (List.range' _ _)]
   refine FL (ds:=[]) (ts:=λt=>t=0) (x:=T'.setIfInBounds dy (.bool true)) (K:=λa' w'=>fB nt lV C s w2 Od s3 a' w') (λT2 w3 kI xY=> ?_) _ _ w2 (λi hi o ho t ht=>Yb i o ho t ht) (λ_ _=>rfl)
     (o8 (nt:=nt) hT bH _ (j+1) _ Od s s3 lV _ w2 (λi ao hi=> ?_) hz3 ⟨Es,hF2,by simpa using S1.size,rfl⟩ λa' w' hp=>hp)
   . obtain⟨zA,S3,k5,k6,E3⟩:=xY;have K1:∀b:Pos,b.toNat<st.next.toNat->zA b=ρ b:=λb hb=>(k5 b (by omega)).trans ((k3 b (by omega)).trans (k1 b hb))
     have K2:st.next.toNat<=s3.next.toNat:=(by omega);have E:=(E1.trans E2).trans E3;show Q .normal _ _;have:=hQ y hyo ⟨T2,a.defers⟩ w3 (jA.Oc EE.zY hcv ⟨zA,S3,K1,K2,E,EE.stays _ _ _ _ _ _ _ hJ hS.W S3.W K1 K2 E,λt ht=>by
        subst ht;rw[<-hx 0 rfl,kI 0 rfl,Ze1 hdy0,hk 0 (.inl rfl),Ze1 afq]⟩)
     rw[hcv.e]at this;exact this
   .rw[Zc6]at hi;obtain⟨o,q1,q2,_⟩:=yy hl _ ao hi;exact⟨o,q1,q2⟩
 . rintro(rfl|rfl)
   .exact Yb i o ho _ ht rfl
   . (rw[List.mem_range'_1,ya]at hi;have hm:o∈(ops.toList.drop 1).take (j - 1):=by rw[Zd9];refine⟨i - 1,?_⟩;rw[Zc0,Za6 (by omega),Zc6,show 1+(i - 1)=i by omega,Zg4];exact ho);have:=Zd1.1 CJ o hm;simp only[aaj,ht,Zh4]at this;exact Zb7 this rfl
 .rw[Zc0]at hi;(split at hi<;>first|(cases hi;done)|skip);rw[Zc6]at hi;obtain⟨o,q1,q2,_⟩:=yy hl _ ao hi;exact⟨o,q1,q2⟩
end
def rfS (gf ntg:Nat)(WM:Fr->Fr->St->XS)(og:dU)(fr:Fr)(st:St):XS:=Qo none fr og λ
 |  .func f [] Px=>match Nat.beq f gf&&Nat.ble (Px.length+1) ntg with
    |true=>yu Px 1 .e λfri=>match WM fr fri st with
     |  some outs=>Gg (λ|(e,_,s)=>match e with
        |.exit _=>none
        |_=>some [(.normal,fr,s)]) outs []
     |none=>none
    |false=>none
 |_=>none
section
variable{P:Program}{tt:TT}{C:Cells}{bf:iA XR}{call:ai}{nt m:Nat}{ts:Nat->Prop}{x:Array Value}
def ItOk(P:Program)(C:Cells)(nt:Nat)(ps:Array Nat)(assign body:Code)(ntg:Nat)(gc:Code)(WM:Fr->Fr->St->XS):Prop:=
 ∀  (L D0:Nat)(r:Loop)(rG:Fr)(x:Array Value),r.state= .ready->r.pending=none->r.params=ps->r.assign=assign->r.body=body->r.tmps.size=nt->x[0]? =some (.func (.yield L) #[] #[])->
    cY P C none (EE C L D0 r rG) (λt=>t=0) x ntg gc (WM rG)
theorem cY.rf{B gf:Nat}{lA:Func}{gc:Code}(hf:P.funcs[gf]? =some lA)(ji:(lA.name== "runtime.NumGoroutine")=false)(hb:lA.body=some gc)(abK:lA.results= #[]){g:Operand}{ps:Array Nat}{assign body:Code}{og:dU}
   (hg:kG g=some og) {WM:Fr->Fr->St->XS} (hI:ItOk P C nt ps assign body lA.ntmps gc WM):cY P C none (I8 B) ts x nt (.rangeFunc g ps assign body) (rfS gf lA.ntmps WM og):=by
 intro fr st outs ρ a w Q h hS hJ hx hQ;unfold rfS at h;rw[II]at h;unfold nD at h;split at h<;>first|(cases h;done)|skip
 rename_i v hv;dsimp only at h;split at h<;>first|(cases h;done)|skip
 rename_i f Px;split at h<;>first|(cases h;done)|skip
 rename_i Hj;simp only[Za8,Nat.beq_eq]at Hj;obtain⟨rfl,hle⟩:=Hj;have hle:=Za4 hle;rw[AW]at h;split at h<;>first|(cases h;done)|skip
 rename_i jz ho;obtain⟨_,cG⟩:=vr h;obtain⟨x',y',hval,kA,QI⟩:=(oY hg hS.F hv).yq;have Ln:x'= #[]:=by have:=kA.mL;exact Array.toList_eq_nil_iff.1 this
 subst Ln;have hval:a.eval g= .func (.func f) #[] y':=by rw[<-hval];exact Ew
 refine wpIn_rangeFunc λfn _=> ?_
 let L:Nat:=w.heap.size+1
 let r:Loop:={ state:= .ready,pending:=none,fn,tmps:=a.tmps,params:=ps,assign,body,defers:=w.heap.size }
 let W1:World:=(w.alloc (.deferred (some []))).alloc (.loop r)
 have hL1:W1.heap[L]? =some (.loop r):=by have:=World.alloc_heap_new (w.alloc (.deferred (some []))) (.loop r);rwa [World.size_alloc]at this
 have hold:∀k,k<w.heap.size->W1.heap[k]? =w.heap[k]? :=λk hk=>(heap_alloc_old _ _ (by simp;omega)).trans (heap_alloc_old w _ hk)
 have hK1:W1.heap[w.heap.size]? =some (.deferred (some [])):=(heap_alloc_old _ _ (by simp)).trans (World.alloc_heap_new w _);have hWs:W1.heap.size=w.heap.size+1+1:=by show((w.alloc _).alloc _).heap.size=_;simp
 have BA:¬lA.name= "runtime.NumGoroutine" :=by simpa using ji
 refine⟨L,[mark w.heap.size],W1,{ target:= .fn (.func f) y',args:= #[.func (.yield L) #[] #[]] },W1,f, #[.func (.yield L) #[] #[]]++y',W1,run_enterLoop_outer _ _ _ _ _,?_,λ_ _=>trivial,?_,λhd=>by simp[Fence.wide]at hd,?_⟩
 .simp only[resolve,rangeCall,hval,Deferred.ofValue,Sem.run_pure];simp[Act.eval]
 .simp[invoke,callFunc,hf,BA,hb]
 refine callsIn_of_wp hf hb trivial ?_;have S6:aX ρ C st W1:=hS.W.grow (by omega) hold;have hlen:(#[Value.func (.yield L) #[] #[]]++y').size=Px.length+1:=by have:=QI.1;simp at this ⊢; omega
 obtain⟨X,hX⟩:∃X,X=(#[Value.func (.yield L) #[] #[]]++y')++Array.replicate (lA.ntmps - (#[Value.func (.yield L) #[] #[]]++y').size) undef:=⟨_,rfl⟩
 rw[<-hX];have hX0:X[0]? =some (.func (.yield L) #[] #[]):=by rw[hX,Zg8 (by simp;omega),Zg8 (by simp)];rfl
 have hXs:X.size=lA.ntmps:=by rw[hX,Array.size_append,Array.size_replicate,hlen];omega
 have ab3:∀k,w.heap.size<=k->∀b z,st.heap.get b=some z->(ρ b).av≠k:=λk hk b z hb e=>by have:=(hS.W.live b z hb).2.1;omega
 have hJ0:EE C L w.heap.size r fr ρ st W1 []:=⟨rfl,hL1,hK1,ab3 L (by show w.heap.size<=w.heap.size+1;omega),ab3 _ (Za5 _),hS.F⟩
 have hF0:fh ρ st.next.toNat C (params 1 Px .e) X:=vY Px y'.toList 1 .e QI (λk z hz=>by
   rw[hX,Zg8,Array.getElem?_append_right]<;>simp at hz ⊢
   .exact hz
   .have:=(Zd0.1 hz).1;omega) (λp v hp=>by rw[T.dm]at hp;cases hp)
 refine hI L w.heap.size r fr X rfl rfl rfl rfl rfl hS.size hX0 _ st jz ρ ⟨X,[]⟩ W1 _ ho ⟨S6,hF0,hXs,rfl⟩ hJ0 (λt _=>rfl) λo Ud a3 w3 hp=> ?_
 obtain⟨zA,S3,k1,k2,E3,hJ3,_⟩:=hp;obtain⟨h3D,h3l,h3d,h3f,h3g,h3F⟩:=hJ3;obtain⟨X6,h2,oe⟩:=cG o Ud;obtain⟨e,Od,yb⟩:=o;dsimp only at h2 S3 k1 k2 E3 h3f h3g h3F;have ada:(results lA a3.tmps).run P w3= .ok (.tuple #[]) w3:=by
   simp[results,abK]
 have hend:=run_endLoop (P:=P) h3l (by show LoopState.ready≠LoopState.busy;simp);have fin:X6=[(.normal,fr,yb)]->rangePost (Fc none) 0 P L Q { a with defers:=[mark w.heap.size]++a.defers } (.returned (.tuple #[])) w3:=λhe=>by
   (subst he;obtain⟨y,hy,hcv⟩:=oe _ (Zd3.2 rfl);refine⟨_,_,hend,?_⟩;show Q .normal _ _;have hLne:∀k,k≠L->(w3.putObj L (.loop { r with state:= .exhausted })).heap[k]? =w3.heap[k]? :=λk hk=>World.putObj_heap_other hk);have E:jN ρ st w zA yb (w3.putObj L (.loop { r with state:= .exhausted })):=by
     refine⟨E3.os,E3.tape,E3.output,?_,λk hk hn=> ?_,λb z hb=> ?_⟩
     .  rw[World.putObj_size];have:=E3.size;omega
     .  rw[hLne k (by show k≠w.heap.size+1;omega),E3.block k (by omega) hn,hold k hk]
     .  rcases E3.nr b z hb with h|h
        .exact .inl h
        .exact .inr (by omega)
   have hW3:=S3.W.Mp (o:= .loop { r with state:= .exhausted }) h3l h3f;have:=hQ y hy { a with defers:=[mark w.heap.size]++a.defers } _ (jA.Oc I8.zY hcv ⟨zA,⟨hW3,h3F,hS.size,rfl⟩,k1,k2,E,?_,hx⟩)
   .rw[hcv.e]at this;exact this
   . obtain⟨hB,rs,h1,h2,h3⟩:=hJ;refine⟨Zc8 hB E.size,w.heap.size::rs,by show [mark w.heap.size]++a.defers=_;rw[h1];rfl,Zn8.2 ⟨λhm=> ?_,h2⟩,λk hk=> ?_⟩
     .  have:=Dc (h3 _ hm).2.1;omega
     .  rcases Zb0.1 hk with rfl|hk
        .exact⟨hB,(hLne _ (by show w.heap.size≠w.heap.size+1;omega)).trans h3d,h3g⟩
        .obtain⟨g0,g1,g2⟩:=h3 k hk;obtain⟨f1,f2⟩:=Bf E (Dc g1) g2;exact⟨g0,f2.trans g1,f1⟩
 cases e with
 |exit i=>cases h2
 |normal=>exact⟨h3D,_,ada,fin (Zf5 h2).symm⟩
 |ret=>exact⟨h3D,_,ada,fin (Zf5 h2).symm⟩
end
def uA:AV->Bool
 |.bool _=>true
 |.int _ _=>true
 |_=>false
def Sl(acc:Option AV)(v:AV):Bool:=match acc with
 |none=>true
 |some u=>e9 u v
def Kt (rs:List zh)(st:St):List XO->Option AV->Option AV
 |[],acc=>acc
 |  (e, bO,aM)::l,acc=>match e with
    |.exit _=>none
    | _ =>match cw (λb=>lW b aM.heap) bO rs with
      | some vs=>match vs.all uA&&T.sub C7 st.heap aM.heap&&Sl acc (gD vs)with
        |true=>Kt rs st l (some (gD vs))
        |false=>none
      |none=>none
def mfn (ex:Fr->St->XS)(np:Nat)(rs:List zh)(args:List AV)(st:St):Option (AV×St):=match Nat.beq args.length np with
 |  true=>yu args 0 .e λfr=>match ex fr st with
    |some outs=>match outs with
     |  [(e,bO,aM)]=>match e with
        |.exit _=>none
        | _=>match cw (λb=>lW b aM.heap) bO rs,Nat.ble st.next.toNat aM.next.toNat with
          |some vs,true=>some (gD vs,aM)
          |_,_=>none
     |  _=>match Kt rs st outs none with
        |some v=>some (v,st)
        |none=>none
    |none=>none
 |false=>none
theorem aj.flat{ρ ρ':Pos->Loc}{n n':Nat}{C:Cells}{v:AV}{x:Value}(hf:uA v=true)(h:aj ρ n C v x):aj ρ' n' C v x:=by
 cases v<;>first|(cases hf;done)|skip
 .have:=h.gG;subst this;exact .bool _
 .have:=h.iq;subst this;exact .int _ _
theorem aj.afs{ρ ρ':Pos->Loc}{n n':Nat}{C:Cells}{vs:List AV}{x:Value}(hf:vs.all uA=true)(h:aj ρ n C (gD vs) x):aj ρ' n' C (gD vs) x:=by
 have tup:∀{x},aj ρ n C (.tuple vs) x->aj ρ' n' C (.tuple vs) x:=λ{x} h=>by
   cases h with
   |tuple l cs hl hh=>exact .tuple _ cs hl λi v v' hv xT=>(hh i v v' hv xT).flat (Zd1.1 hf v (Zb6 hv))
 unfold gD at h ⊢;split at h
 .exact h.flat (Zd1.1 hf _ (by simp))
 .exact tup h
theorem Oi{rs:List zh}{st:St}{v:AV}:∀{l:List XO}{acc:Option AV},Kt rs st l acc=some v->(∀u,acc=some u->u=v)/\∀o∈l,(∀i,o.1≠ .exit i)/\∃vs,cw (λb=>lW b o.2.2.heap) o.2.1 rs=some vs/\v=gD vs/\vs.all uA=true/\∀p u,st.heap.get p=some u->o.2.2.heap.get p=some u
 |[],acc,h=>by
  simp only[Kt]at h;subst h;exact⟨λu h=>(Zf5 h).symm,λo ho=>by cases ho⟩
 |(e,   bO,aM)::l,acc,h=>by
  unfold Kt at h
  have key:∀vs,(cw (λb=>lW b aM.heap) bO rs=some vs)->(vs.all uA&&T.sub C7 st.heap aM.heap&&Sl acc (gD vs))=true->Kt rs st l (some (gD vs))=some v->(∀i,e≠ .exit i)->
        (∀u,acc=some u->u=v)/\∀o∈(e,bO,aM)::l,(∀i,o.1≠ .exit i)/\∃vs,cw (λb=>lW b o.2.2.heap) o.2.1 rs=some vs/\v=gD vs/\vs.all uA=true/\∀p u,st.heap.get p=some u->o.2.2.heap.get p=some u:=by
    intro vs iz hb hr he;simp only[Za8]at hb;obtain⟨h1,h2⟩:=Oi hr;have hv:=h1 _ rfl;refine⟨λu hu=> ?_,λo ho=> ?_⟩
    .   subst hu;rw[<-hv];exact pg hb.2
    .   rcases Zb0.1 ho with rfl|ho
        .exact⟨he,vs,iz,hv.symm,hb.1.1,T.yH (λ_ _=>L8) hb.1.2⟩
        .exact h2 o ho
  cases e with
  |exit i=>cases h
  | normal=>
    dsimp only at h;(split at h<;>first|(cases h;done)|skip);rename_i vs iz;cases hb:(vs.all uA&&T.sub C7 st.heap aM.heap&&Sl acc (gD vs))with
    |false=>rw[hb]at h;cases h
    |true=>rw[hb]at h;exact key vs iz hb h (λi=>by simp)
  | ret=>
    dsimp only at h;(split at h<;>first|(cases h;done)|skip);rename_i vs iz;cases hb:(vs.all uA&&T.sub C7 st.heap aM.heap&&Sl acc (gD vs))with
    |false=>rw[hb]at h;cases h
    |true=>rw[hb]at h;exact key vs iz hb h (λi=>by simp)
theorem Ue{ex:Fr->St->XS}{np:Nat}{rs:List zh}{args:List AV}{st st':St}{v:AV}(h:mfn ex np rs args st=some (v,st')):args.length=np/\st.next.toNat<=st'.next.toNat/\∃outs,ex (params 0 args .e) st=some outs/\
   ∀o∈outs,(∀i,o.1≠ .exit i)/\∃vs,cw (λb=>lW b o.2.2.heap) o.2.1 rs=some vs/\v=gD vs/\(st'=o.2.2\/(st'=st/\vs.all uA=true/\∀p u,st.heap.get p=some u->o.2.2.heap.get p=some u)):=by
 unfold mfn at h;split at h<;>first|(cases h;done)|skip
 rename_i hlen;rw[AW]at h;split at h<;>first|(cases h;done)|skip
 rename_i outs ho;refine⟨Za2 hlen,?_⟩;split at h
 . rename_i e bO aM
   have key:∀vs,cw (λb=>lW b aM.heap) bO rs=some vs->Nat.ble st.next.toNat aM.next.toNat=true->some (gD vs,aM)=some (v,st')->(∀i,e≠ .exit i)->
        st.next.toNat<=st'.next.toNat/\∃outs,ex (params 0 args .e) st=some outs/\∀o∈outs,(∀i,o.1≠ .exit i)/\∃vs,cw (λb=>lW b o.2.2.heap) o.2.1 rs=some vs/\v=gD vs/\(st'=o.2.2\/(st'=st/\vs.all uA=true/\∀p u,st.heap.get p=some u->o.2.2.heap.get p=some u)):=by
    intro vs iz hn he aV;simp only[H0,Zb3]at he;obtain⟨rfl,rfl⟩:=he;refine⟨Za4 hn,_,ho,λo Ud=> ?_⟩;have:=Zd3.1 Ud;subst this;exact⟨aV,vs,iz,rfl,.inl rfl⟩
   cases e with
   |exit i=>cases h
   |normal=>
    dsimp only at h;(split at h<;>first|(cases h;done)|skip);rename_i vs iz hn;exact key vs iz hn h (λi=>by simp)
   |ret=>
    dsimp only at h;(split at h<;>first|(cases h;done)|skip);rename_i vs iz hn;exact key vs iz hn h (λi=>by simp)
 . (split at h<;>first|(cases h;done)|skip);rename_i u hu;simp only[H0,Zb3]at h;obtain⟨rfl,rfl⟩:=h;refine⟨Za5 _,_,ho,λo Ud=> ?_⟩;obtain⟨h1,vs,h2,h3,h4,h5⟩:=(Oi hu).2 o Ud;exact⟨h1,vs,h2,h3,.inr ⟨rfl,h4,h5⟩⟩
section
variable{P:Program}{tt:TT}{C:Cells}
theorem I9{fn:Func}{tmps:Array Value}{R:Ending->World->Prop}{ρ:Pos->Loc}{st:St}:∀(rs:List Nat)(w:World),rs.Nodup->(∀r∈rs,w.heap[r]? =some (.deferred (some []))/\∀b x,st.heap.get b=some x->(ρ b).av≠r)->aX ρ C st w->
  (∀w2,aX ρ C st w2->w2.heap.size=w.heap.size->(∀k,k∉rs->w2.heap[k]? =w.heap[k]?)->w2.os=w.os->w2.tape=w.tape->w2.output=w.output->∃v,(results fn tmps).run P w2= .ok v w2/\R (.returned v) w2)->
  LeavesInM (Fc none) 0 P fn tmps R (rs.map mark) .returning w
 |[],w,_,_,hW,h=>h w hW rfl (λ_ _=>rfl) rfl rfl rfl
 |r ::rs,w,CJ,hr,hW,h=>by
  obtain⟨h1,h2⟩:=Zn8.1 CJ;obtain⟨g1,g2⟩:=hr r (Zc3 ..);refine⟨by simp,.inl ⟨r,_,rfl,run_takeDeferred g1,?_⟩⟩;refine I9 rs _ h2 (λk hk=> ?_) (hW.abZ g1 g2) λw2 Es hs hk ho ht Pb=> ?_
  .obtain⟨f1,f2⟩:=hr k (Za7 _ hk);exact⟨by rw[World.putObj_heap_other (λe=>h1 (by subst e;exact hk))];exact f1,f2⟩
  .refine h w2 Es (by rw[hs,World.putObj_size]) (λk kH=> ?_) ho ht Pb;rw[hk k (λhm=>kH (Za7 _ hm)),World.putObj_heap_other (λe=>kH (by subst e;exact Zc3 ..))]
theorem aex(hT:bM P tt){f np:Nat}{fn:Func}{c:Code}{ex:Fr->St->XS}{rs:List zh}(hf:P.funcs[f]? =some fn)(ji:(fn.name== "runtime.NumGoroutine")=false)(hb:fn.body=some c)
  (hx:∀B,cY P C none (I8 B) (λ_=>False) #[] fn.ntmps c ex) (hr:lS tt fn.results.toList=some rs) (hle:np<=fn.ntmps):mE P C f (mfn ex np rs) where
 mono args st v st' h:=(Ue h).2.1
 runs ρ st w args v st' bE h hW oW:=by
  obtain⟨hlen,hn,outs,ho,cG⟩:=Ue h;have bN:(callFunc f bE.toArray).run P w= .ok (.enter f bE.toArray) w:=by
   have BA:¬fn.name= "runtime.NumGoroutine" :=(by simpa using ji);simp[callFunc,hf,BA,hb]
  rw[bN];simp only[Reaches];refine callsIn_wide (n:=0) |>.1 (callsIn_of_wp_marks hf hb trivial ?_);have eW:bE.length<=fn.ntmps:=by rw[<-oW.1,hlen];exact hle
  have hS:mF fn.ntmps ρ C (params 0 args .e) st { tmps:=bE.toArray++Array.replicate (fn.ntmps - bE.toArray.size) undef,defers:=[] } w:=by
   refine⟨hW,?_,?_,rfl⟩
   .    refine vY args bE 0 .e oW (λj x hx=> ?_) (λp v hp=>by rw[T.dm]at hp;cases hp);have hj:j<bE.length:=(Za0.1 hx).1;rw[Zc4,Zg8 (by simpa using hj)];simpa using hx
   .    simp;omega
  show c.wpIn (Fc none) 0 P _ _ w;refine hx w.heap.size _ st outs ρ _ w _ ho hS ⟨Za5 _,[],rfl,List.nodup_nil,λ_ h=>by cases h⟩ (λ_ h=>h.elim) λo Ud a' w' hp=> ?_
  obtain⟨dJ,S1,k1,k2,E,⟨hB,ks,hD,CJ,Al⟩,_⟩:=hp;obtain⟨aV,vs,iz,hv,iY⟩:=cG o Ud;simp only[sF]at iz;have key:LeavesInM (Fc none) 0 P fn a'.tmps (λ|.returned v',w''=>l6 ρ C st w v st' v' w''|_,_=>False) a'.defers .returning w':=by
   (rw[hD];(refine I9 ks w' CJ (λr hr=>(Al r hr).2) S1.W λw2 Es hs Ak Bt ht Pb=> ?_);obtain⟨y,Aj,Bp⟩:=qc hT Es S1.F hr iz;refine⟨y,Aj,?_⟩;have tC:∀k,k<w.heap.size->w2.heap[k]? =w'.heap[k]? :=λk aN=>Ak k λhm=>by have:=(Al k hm).1;omega);rcases iY with rfl|⟨rfl,SP,XF⟩
   .    rw[hv];exact⟨dJ,Bp,k1,k2,Es,⟨Bt.trans E.os,ht.trans E.tape,Pb.trans E.output,by rw[hs];exact E.size,λk hk hn=>(tC k hk).trans (E.block k hk hn),E.nr⟩⟩
   .    rw[hv];refine⟨ρ,Bp.afs SP,λ_ _=>rfl,Za5 _,hW.back XF k1 Es (by rw[hs];exact E.size),⟨Bt.trans E.os,ht.trans E.tape,Pb.trans E.output,by rw[hs];exact E.size,λk hk hn=>(tC k hk).trans (E.block k hk hn),λb x hb=>.inl ⟨b,x,hb,rfl⟩⟩⟩
  obtain⟨e,bO,aM⟩:=o;cases e with
  |exit i=>exact(aV i rfl).elim
  |normal=>exact key
  |ret=>exact key
def adb(P:Program)(tt:TT)(bf:iA XR)(m:Nat)(nt:Nat)(Q7:List AV->St->Option (List St))(c:Code):Option (Fr->St->XS):=match ab0 tt nt c with
 |some y=>some (ab1 bf Q7 y)
 |  none=>match Mr c with
    |true=>none
    |false=>zf P tt bf m [] nt c
def Sm(P:Program)(tt:TT)(bf:iA XR)(m:Nat)(kp:List Nat)(nt gf:Nat)(lA:Func):Code->Option (Fr->St->XS)
 |  .rangeFunc g ps a b=>match kG g,lA.body with
    |some og,some gc=>match (o7 gc).all (λt=> !Nat.beq t 0)&&ps.toList.all (λp=>Nat.blt p nt)&&lA.results.isEmpty with
     |true=>some (rfS gf lA.ntmps (λrG=>vt (adb P tt bf m lA.ntmps (X7 ps.toList (I7 (vt (zf P tt bf m kp nt) m a) (vt (zf P tt bf m kp nt) m b)) rG)) m gc) og)
     |false=>none
    |_,_=>none
 |c=>zf P tt bf m kp nt c
def Xk(P:Program)(tt:TT)(O:dZ)(G:T cE)(m d:Nat)(kp:List Nat)(gf:Nat)(lA fn:Func):List AV->St->Option (AV×St):=
 match fn.body,lS tt fn.results.toList,Nat.ble (fn.params.size+fn.nfree) fn.ntmps with
 |some c,some rs,true=>mfn (vt (Sm P tt (CL none O G m d) m kp fn.ntmps gf lA) m c) (fn.params.size+fn.nfree) rs
 |_,_,_=>λ_ _=>none
theorem ab4{bf:iA XR}{call:ai}{m nt gf B:Nat}{kp:List Nat}{lA:Func}(hT:bM P tt)(hc:CK none bf call)(bH:eV P C call)(fL:p9 P tt C call)(hf:P.funcs[gf]? =some lA)(ji:(lA.name== "runtime.NumGoroutine")=false)
   {c:Code} {f:Fr->St->XS} (h:Sm P tt bf m kp nt gf lA c=some f):cY P C none (I8 B) (λ_=>False) #[] nt c f:=by
 have hR:∀{c f},zf P tt bf m kp nt c=some f->cY P C none (I8 B) (λ_=>False) #[] nt c f:=λh=>Mn hT hc bH fL I8.stays (λ_ _ h=>h) h
 unfold Sm at h;split at h
 . rename_i g ps a b;(split at h<;>first|(cases h;done)|skip);rename_i og gc hg hgb;(split at h<;>first|(cases h;done)|skip);rename_i Hj;simp only[H0]at h;subst h;simp only[Za8]at Hj;obtain⟨⟨c1,c2⟩,c3⟩:=Hj;have hd0:∀t∈o7 gc,¬(λt=>t=0) t:=λt ht e=>by have:=Zd1.1 c1 t ht;subst e;simp at this
   (refine cY.rf hf ji hgb (by simpa using c3) hg λL D0 r rG x hr hp VX ha hb hs Ln=> ?_);have rd:∀c,cY P C (some L) Lj (λ_=>False) #[] nt c (vt (zf P tt bf m kp nt) m c):=λc=>cY.sp Lj.zY c (λ_ _ h=>h) λc f _ h=>Mn hT hc bH fL Lj.stays (λ_ _ h=>h) h
   have ab2:X9 P C L D0 r rG (X7 ps.toList (I7 (vt (zf P tt bf m kp nt) m a) (vt (zf P tt bf m kp nt) m b)) rG):=aeu (by rw[VX]) hr hp hs (λp hp'=>by
     have:=Zd1.1 c2 p hp';simpa using this) (by rw[ha];exact rd a) (by rw[hb];exact rd b)
   (refine cY.sp EE.zY gc hd0 λc f cH h=> ?_);unfold adb at h;split at h
   .rename_i y hy;simp only[H0]at h;subst h;exact cY.yld hT hc bH Ln ab2 hy cH
   . (split at h<;>first|(cases h;done)|skip);exact Mn hT hc bH fL EE.stays cH h
 .exact hR h
theorem aa3(hm:P.follows .mixedOrders=true)(hT:bM P tt){O:dZ}{G:T cE}(hO:oV P C O)(IG:kC O)(hG:MU P tt G){f gf m d:Nat}{kp:List Nat}{fn lA:Func}(hf:P.funcs[f]? =some fn)
   (ji:(fn.name== "runtime.NumGoroutine")=false) (hgf:P.funcs[gf]? =some lA) (Ss:(lA.name== "runtime.NumGoroutine")=false):mE P C f (Xk P tt O G m d kp gf lA fn):=by
 have bH:=Fp (C:=C) hm hT hO IG hG m d;have I3:=FN (G:=G) IG m d
 have key:∀c rs,fn.body=some c->lS tt fn.results.toList=some rs->Nat.ble (fn.params.size+fn.nfree) fn.ntmps=true->
    mE P C f (mfn (vt (Sm P tt (CL none O G m d) m kp fn.ntmps gf lA) m c) (fn.params.size+fn.nfree) rs):=λc rs hb hr hle=>
   aex hT hf ji hb (λB=>cY.sp I8.zY c (λ_ _ h=>h) λc f _ h=>ab4 hT (F0 none O G m d) bH (FV hm hT bH I3) hgf Ss h) hr (Za4 hle)
 unfold Xk;split
 .exact key _ _ (by assumption) (by assumption) (by assumption)
 .exact⟨λ_ _ _ _ h=>(by cases h),λ_ _ _ _ _ _ _ h=>(by cases h)⟩
end
end
section
open Go
def MV:List AV->St->Option (AV×St)
 |[v],st=>some (v,st)
 |_,_=>none
theorem YY{P:Program}{C:Cells}{f:FuncId}{fn:Func}(hf:P.funcs[f]? =some fn)(ji:(fn.name== "runtime.NumGoroutine")=false)(hb:fn.body.isNone=true)(hx:Extern.findNext fn=none)
  (he:Extern.find fn=some Extern.AbiNoEscape.same):mE P C f MV where
 mono args st v st' h:=by unfold MV at h;split at h<;>cases h;exact Za5 _
 runs ρ st w args v st' bE h hW hv:=by
  unfold MV at h;split at h<;>cases h;obtain⟨x,xs,rfl,h1,h2⟩:=hv.cons_inv;have:=h2.mL;subst this;have bN:(callFunc f [x].toArray).run P w= .ok (.value x) w:=by rw[run_callFunc_extern hf ji hb hx he];show((Extern.AbiNoEscape.same #[x]).run P w).andThen _=_;have:Extern.AbiNoEscape.same #[x]=pure x:=rfl;rw[this];rfl
  rw[bN];exact⟨ρ,h1,λ_ _=>rfl,Za5 _,hW,jN.refl _ _ _⟩
theorem Sw{P:Program}{tt:TT}{O:dZ}{G:T cE}{m d f:Nat}{fn:Func}{c:Code}(hm:P.follows .mixedOrders=true)(hT:bM P tt)(hG:MU P tt G)
  (hO:oV P (λ_=>none) O) (IG:kC O) (hf:P.funcs[f]? =some fn) (ji:¬fn.name= "runtime.NumGoroutine") (hb:fn.body=some c) {b:Bool}
  (h:CL (R:=Bool) false O G m d f [] { heap:= .e,next:= .h } (λv _=>e9 v (.bool b))=true) (w:World):
  Calls P f #[] w λe w'=>e= .returned (.bool b)/\Go.RowKit.Below w.heap.size w w':=by
 rw[F0 false O G m d]at h;unfold nD at h;split at h<;>first|(cases h;done)|skip
 rename_i x hx;obtain⟨v,aM⟩:=x;have hv:=pg h;simp only at hv;subst hv;have hr:=Fp hm hT hO IG hG m d (λ_=>⟨0,0,0⟩) { heap:= .e,next:= .h } w f [] (.bool b) aM [] hx (zn (λ_ _ h=>by cases h) (λ_ _ h=>by cases h)) au.nil;have bN:(callFunc f ([]:List Value).toArray).run P w= .ok (.enter f #[]) w:=by simp[callFunc,hf,ji,hb]
 rw[bN]at hr;refine Calls.mono hr λe w' he=> ?_
 cases e with
 |returned x=>
  obtain⟨ρ',h1,_,_,_,hE⟩:=he;have:=h1.gG;subst this;exact⟨rfl,hE.os,hE.tape,hE.output,hE.size,λk hk=>hE.block k hk λb x hb=>by rw[T.dm]at hb;cases hb⟩
 |panicked c=>exact he.elim
 |outgrown=>exact he.elim
def Ed:Nat->AV->Bool
 |_,.bool _=>true
 |_,.int _ _=>true
 |_,.str _=>true
 |_,.ah=>true
 |n+1,.agg l=>l.all (Ed n)
 |n+1,.tuple l=>l.all (Ed n)
 |n+1,.fl xs _=>xs.all λr=>r.all (Ed n)
 |_,_=>false
theorem Dd:∀(n:Nat){v:AV},Ed n v=true->Plain v
 |0,v,h=>by cases v<;>first|(cases h;done)|exact .bool _|exact .int _ _|exact .str _|exact .ah
 |n+1,v,h=>by
  cases v<;>first|(cases h;done)|exact .bool _|exact .int _ _|exact .str _|exact .ah|skip
  .exact .fl λcs hc v hv=>Dd n (Zd1.1 (Zd1.1 h cs hc) v hv)
  .exact .agg λv hv=>Dd n (Zd1.1 h v hv)
  .exact .tuple λv hv=>Dd n (Zd1.1 h v hv)
theorem Plain.all{n:Nat}{l:List AV}(h:l.all (Ed n)=true):∀v∈l,Plain v:=λv hv=>Dd n (Zd1.1 h v hv)
theorem Y4{l:List AV}(h:l.all uA=true):oc (.tuple l):= .tuple λv hv=>by have:=Zd1.1 h v hv;cases v<;>first|(cases this;done)|exact .bool _|exact .int _ _
def LH(d:Nat)(A:List AV)(r:AV):List AV->St->Option (AV×St):=λargs st=>match zo (args.map (di st d)) A with
 |true=>some (r,st)
 |false=>none
theorem Y3{P:Program}{C:Cells}{O:dZ}{G:T cE}{m n f d:Nat}{A:List AV}{r:AV}(bH:∀C:Cells,eV P C (oX O G m n))(ha:∀a∈A,Plain a)(hr:Plain r)(hb:oc r)
  (h:CL (R:=Bool) false O G m n f A { heap:= .e,next:= .h } (λv _=>e9 v r)=true):mE P C f (LH d A r):=by
 have h1:=aac (C:=C) (d:=d) (As:=[A]) bH (λB hB=>by rw[Zd3.1 hB];exact ha) hr hb (by simpa using h);have key:∀args st x,LH d A r args st=some x->Pn d [A] r args st=some x:=λargs st x hx=>by
  unfold LH at hx;split at hx<;>first|(cases hx;done)|skip
  rename_i hq;simp only[H0]at hx;subst hx;exact adJ A (Zd3.2 rfl) (C6 hq)
 exact⟨λargs st v st' hs=>h1.mono args st v st' (key _ _ _ hs),λρ st w args v st' bE hs=>h1.runs ρ st w args v st' bE (key _ _ _ hs)⟩
end
end Go.Ai
