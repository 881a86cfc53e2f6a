/- Loops over maps in all orders, loops over functions. -/
import Derived.Test.YtlkadmkojjceiaaGreatDoorTEvalE
import Derived.Maps.RangeRun
import Derived.Laws.EntriesVeiled
import Derived.RangeFuncRecord
set_option linter.all false
namespace Go.Ai
noncomputable section
open Go Go.RowKit
section
variable{ρ ρ':Pos->Loc}{C:Cells}{st aL:St}{w w1 w':World}{nt r:Nat}{fr bI:Fr}{a a1:Act}
theorem aP.back(hW:aP ρ C st w)(hk:aV st aL)(aN:∀b:Pos,b.toNat<st.next.toNat->ρ' b=ρ b)(dN:aP ρ' C aL w1)(hs:w.heap.size<=w1.heap.size):aP ρ C st w1:=by
 refine⟨λb y hb=> ?_,hW.inj,λa u ha=>⟨(dN.cO a u ha).1,(hW.cO a u ha).2⟩,dN.whole⟩;obtain⟨g1,g2,g3⟩:=hW.live b y hb;obtain⟨_,_,k3⟩:=dN.live b y (hk b y hb);refine⟨g1,Zb7 g2 hs,?_⟩;rw[aN b g1]at k3;cases y with
 |cells cs fz=>
  obtain⟨c,e,fr,q1,q2,q3,q4,q5⟩:=k3;obtain⟨c0,e0,bJ,p1,p2,p3,p4,p5⟩:=g3;refine⟨c,e,fr,q1,q2,q3,⟨q4.1,λi v x hv hx=> ?_⟩,q5⟩;obtain⟨y0,hy0,ES⟩:=p4.get hv;exact(q4.2 i v x hv hx).down ES aN
 |map es clock=>
  obtain⟨es',q1,q2,q3⟩:=k3;obtain⟨Ze,p1,p2,p3⟩:=g3;refine⟨es',q1,q2,λi e e' he ji=> ?_⟩;obtain⟨a1,a2,a3⟩:=q3 i e e' he ji;have hi:i<Ze.size:=by rw[<-p2];exact(H3.1 he).1
  obtain⟨b1,b2,_⟩:=p3 i e _ he (Ze2 hi);exact⟨a1.down b1 aN,a2.down b2 aN,a3⟩
 |iu s pos=>exact k3
 |typed t cs=>
  obtain⟨c,fr,q1,q2,q3,q4,q5⟩:=k3;obtain⟨c0,bJ,p1,p2,p3,p4,p5⟩:=g3;refine⟨c,fr,q1,q2,q3,⟨q4.1,λi v x hv hx=> ?_⟩,q5⟩;obtain⟨y0,hy0,ES⟩:=p4.get hv;exact(q4.2 i v x hv hx).down ES aN
theorem eB.sub{n:Nat}{tmps:Array Value}(h:eB ρ n C bI tmps)(hf:∀p v,fr.get p=some v->bI.get p=some v):eB ρ n C fr tmps:=λp v hp=>h p v (hf p v hp)
theorem kL.back(hS:kL nt ρ C fr st a w)(hf:∀p v,fr.get p=some v->bI.get p=some v)(hk:aV st aL)(h:eG nt ρ C st w bI aL a1 w1):
  kL nt ρ C fr st a1 w1/\iL ρ st w ρ st w1:=by
 obtain⟨cY,S1,k1,k2,E⟩:=h;refine⟨⟨hS.W.back hk k1 S1.W E.size,λp v hp=> ?_,S1.size,S1.defers⟩,⟨E.os,E.tape,E.output,E.size,E.block,λb x hb=>.inl ⟨b,x,hb,rfl⟩⟩⟩;obtain⟨x,hx,hv⟩:=S1.F p v (hf p v hp);obtain⟨y,_,hy⟩:=hS.F p v hp;exact⟨x,hx,hv.down hy k1⟩
theorem aP.iter{m:Option Nat}{s c:Nat}{seen:Array Nat}(hW:aP ρ C st w)(hr:w.heap[r]? =some (.mapIter m s seen c))(hn:∀b x,st.heap.get b=some x->(ρ b).au≠r)
   (hs:w'.heap.size=w.heap.size) (hk:∀k,k≠r->w'.heap[k]? =w.heap[k]?):aP ρ C st w':=by
 have c9:∀a v,C a=some v->a.block≠r:=λa v ha e=>by have h:=(hW.cO a v ha).1;unfold World.cell? at h;rw[e,hr]at h;cases h
 refine⟨λb x hb=> ?_,hW.inj,λa v ha=> ?_,λa v ha o ho=> ?_⟩
 .obtain⟨h1,h2,h3⟩:=hW.live b x hb;exact⟨h1,by rw[hs];exact h2,h3.of_heap (hk _ (hn b x hb))⟩
 .obtain⟨h1,h2⟩:=hW.cO a v ha;exact⟨by rw[World.cell?_of_block (w:=w) (hk _ (c9 a v ha))];exact h1,h2⟩
 .rw[World.cell?_of_block (w:=w) (a:=⟨a.block,o,none⟩) (hk _ (c9 a v ha))];exact hW.whole a v ha o ho
end
def T.sub{α:Type}(f:α->α->Bool):T α->T α->Bool
 |.e,_=>true
 |.n l v r,.e=>(match v with|none=>true|some _=>false)&&T.sub f l .e&&T.sub f r .e
 |  .n l v r,.n l' v' r'=>(match v with
    |none=>true
    |some a=>match v' with
     |some b=>f a b
     |none=>false)&&T.sub f l l'&&T.sub f r r'
theorem T.yJ{α:Type}{f:α->α->Bool}(hf:∀a b,f a b=true->a=b):∀{t u:T α},T.sub f t u=true->∀p v,t.get p=some v->u.get p=some v
 |.e,_,_,p,v,h=>by rw[T.cT]at h;cases h
 | .n l x r,.e,hs,p,v,h=>by
   simp only[T.sub,Za4]at hs;cases p with
   |h=>simp only[T.get]at h;subst h;simp at hs
   |o p=>have:=T.yJ hf hs.1.2 p v h;rw[T.cT]at this;cases this
   |i p=>have:=T.yJ hf hs.2 p v h;rw[T.cT]at this;cases this
 | .n l x r,.n l' x' r',hs,p,v,h=>by
   simp only[T.sub,Za4]at hs;cases p with
   |h=>
    simp only[T.get]at h ⊢; subst h;have h1:=hs.1.1;cases x' with
    |none=>simp at h1
    |some y=>simp at h1;rw[hf _ _ h1]
   |o p=>exact T.yJ hf hs.1.2 p v h
   |i p=>exact T.yJ hf hs.2 p v h
structure RG where
 t17:Nat
 t18:Nat
 t19:Nat
 t20:Nat
 l2:List aX
 x:dA
 l4:List aX
 body:AC
 ds:List Pos
abbrev XR:=Option (iy×Fr×St)
section
variable(aS:gI XR)(m:Nat)(g:RG)
def Zw(c:AC)(fr:Fr)(st:St):XR:=Nt none aS m c fr st (λfr st=>some (.normal,fr,st)) (λi fr st=>some (.exit i,fr,st)) (λfr st=>some (.ret,fr,st))
def abe(k v:AV)(fr:Fr)(st:St):XR:=
 lQ (some (.tuple [.bool true,k,v])) (key g.t18) fr λfr=>lQ (some (.bool true)) (key g.t19) fr λfr=>lQ (some (.tuple [k,v])) (key g.t20) fr λfr=>
    O0 none aS g.l4 fr st λfr st=>Zw aS m g.body fr st
def Pp(clock:Nat):List (AV×AV×Nat)->Bool
 |[]=>true
 |e::es=>Nat.blt e.2.2 clock&&es.all (λx=> !Nat.beq x.2.2 e.2.2)&&Pp clock es
end
section
variable{P:Program}{tt:TT}{C:Cells}
def JC(P:Program)(C:Cells)(nt:Nat)(c:Code)(ex:Fr->St->XR):Prop:=
 ∀  (fr aQ:Fr)(st st':St)(e:iy)(ρ:Pos->Loc)(a:Act)(w:World)(Q:Exit->Act->World->Prop),ex fr st=some (e,aQ,st')->kL nt ρ C fr st a w->
    (∀a' w',eG nt ρ C st w aQ st' a' w'->Q (k9 e) a' w')->dO P c Q a w
theorem Zx{aS:gI XR}{call:ah}(hc:CK none aS call)(m:Nat)(c:AC)(fr:Fr)(st:St):Zw aS m c fr st=exec call m c fr st:=by
 unfold Zw;rw[ME none hc];cases exec call m c fr st with
 |none=>rfl
 |some x=>obtain⟨e,fr,st⟩:=x;cases e<;>rfl
theorem JC.ac(hT:bG P tt){aS:gI XR}{call:ah}(hc:CK none aS call)(bB:eg P C call)(eS:o9 P tt C call){nt m:Nat}{c:Code}{a:AC}(h:qg tt nt c=some a):
 JC P C nt c (Zw aS m a):=λfr aQ st st' e ρ ac w Q hx hS hQ=>(od hT bB eS m).1 c a fr aQ st st' e ρ ac w Q h (by rw[<-Zx hc];exact hx) hS hQ
def TJ:List Pos->Fr->Fr
 |[],fr=>fr
 |p::ps,fr=>TJ ps (fr.put none p)
theorem Pq:∀(ps:List Pos)(fr:Fr)(p:Pos)(v:AV),(TJ ps fr).get p=some v->fr.get p=some v
 |[],_,_,_,h=>h
 |q::ps,fr,p,v,h=>by
  have h:=Pq ps _ p v h;by_cases hq:q=p
  .subst hq;rw[T.dP]at h;cases h
  .rwa [T.bn _ hq]at h
theorem WA{clock:Nat}:∀{es:List (AV×AV×Nat)},Pp clock es=true->(∀e∈es,e.2.2<clock)/\(es.map (·.2.2)).Nodup
 |[],_=>⟨λ_ h=>by simp at h,by simp⟩
 |e ::es,h=>by
  simp only[Pp,Za4]at h;obtain⟨⟨h1,h2⟩,h3⟩:=h;obtain⟨i1,i2⟩:=WA h3;refine⟨λx hx=> ?_,?_⟩
  . rcases Za2.1 hx with rfl|hx
    .exact H4 h1
    .exact i1 x hx
  .rw[Zb1,Zo4];refine⟨λhm=> ?_,i2⟩;obtain⟨x,hx,he⟩:=Zf3.1 hm;have:=Zd6.1 h2 x hx;simp[he]at this
def Mv(aS:gI XR)(m:Nat)(g:RG)(A B:Fr×St)(e:AV×AV×Nat):Prop:=
 ∃f1 s1,abe aS m g e.1 e.2.1 A.1 A.2=some (.normal,f1,s1)/\(∀p v,B.1.get p=some v->f1.get p=some v)/\((B=A/\aV A.2 s1)\/B.2=s1)
section
variable{aS:gI XR}{call:ah}{nt m:Nat}{g:RG}{kM:Array Oper}{o0 o1 o4:Oper}{i3 i4 b0 b1:Nat}{rest:Code}{Ff:List aX}{bs:List Nat}
def XK(g:RG)(o0 o1:Oper)(kM:Array Oper)(rest:Code)(i3 i4 b0 b1:Nat):Code:=
 .seq (.region i3 #[o0,o1] false) (.seq (.cond (.tmp g.t19) .skip (.exit b0)) (.block b1 (.seq (.region i4 kM false) rest)))
structure abf(tt:TT)(nt:Nat)(g:RG)(o0 o1 o4:Oper)(kM:Array Oper)(rest:Code)(Ff:List aX)(bs:List Nat):Prop where
 n0:o0.op= .next (.tmp g.t17) false/\o0.guard=none/\o0.dst=some g.t18
 n1:o1.op= .extract (.tmp g.t18) 0/\o1.guard=none/\o1.dst=some g.t19
 n4:kM[0]? =some o4/\o4.op= .entry (.tmp g.t17)/\o4.guard=none/\o4.dst=some g.t20
 lt:g.t17<nt/\g.t18<nt/\g.t19<nt/\g.t20<nt
 ne:g.t17≠g.t18/\g.t17≠g.t19/\g.t18≠g.t19
 c4:lC tt nt kM kM.toList bs=some Ff
 l4:Ff.tail=g.l4
 r4:qg tt nt rest=some g.body
structure LI(C:Cells)(nt:Nat)(g:RG)(X:Fr×St)(b Ah:Pos)(es:List (AV×AV×Nat))(since r:Nat)(iY:Pos->Loc)(JD:St)(w0:World)(seen:Array Nat)(ρ:Pos->Loc)(a:Act)(w:World):Prop where
 S:kL nt ρ C X.1 X.2 a w
 k1:∀p:Pos,p.toNat<JD.next.toNat->ρ p=iY p
 k2:JD.next.toNat<=X.2.next.toNat
 E:iL iY JD w0 ρ X.2 w
 ip:(ρ Ah).au=r/\(ρ Ah).base=0/\Ah.toNat<X.2.next.toNat
 at17:X.1.get (key g.t17)=some (.ptr Ah 0)
 mp:X.2.heap.get b=some (.map es since)
 it:∃c,w.heap[r]? =some (.mapIter (some (ρ b).au) since seen c)/\since<=c
 BP:∀p x,X.2.heap.get p=some x->(ρ p).au≠r
 late:w0.heap.size<=r
 cl:X.1.get (key g.t18)=none/\X.1.get (key g.t19)=none
theorem vB{ops:Array Oper}{K:Act->World->Prop}{i:Nat}{rest:List Nat}{o:Oper}{a:Act}{w w':World}{v:Value}(ho:ops[i]? =some o)(hg:o.guard=none)
  (hr:(execOp a.eval o).run P w= .ok (.value v) w') (hQ:oa P ops K rest (a.put o.dst v) w'):oa P ops K (i::rest) a w:=by
 unfold oa By;rw[ho];simp only[Region.wanted,hg,Ze8];unfold O9;rw[hr];exact hQ
theorem eval_put{a:Act}{t:Nat}{v:Value}(h:t<a.tmps.size):(a.put (some t) v).eval (.tmp t)=v:=by
 simp[Act.put,Act.eval,h]
theorem LQ{a:Act}{t s:Nat}{v:Value}(h:t≠s):(a.put (some t) v).eval (.tmp s)=a.eval (.tmp s):=by
 simp[Act.put,Act.eval,Zd1 h]
theorem LI.round(hT:bG P tt)(hc:CK none aS call)(bB:eg P C call)(eS:o9 P tt C call)(hR:abf tt nt g o0 o1 o4 kM rest Ff bs)
   {A:Fr×St} {b Ah:Pos} {es:List (AV×AV×Nat)} {since r:Nat} {iY:Pos->Loc} {JD:St} {w0:World} {seen:Array Nat} {ρ:Pos->Loc} {a:Act} {w:World}
   (L:LI C nt g A b Ah es since r iY JD w0 seen ρ a w) (cX:Pp since es=true) {Q:Exit->Act->World->Prop}
   (XL:(∀e∈es,seen.contains e.2.2=true)->∀a',kL nt ρ C A.1 A.2 a' w->Q (.exit b0) a' w)
   (aeC:∀e∈es,seen.contains e.2.2=false->∃B,Mv aS m g A B e/\B.1.get (key g.t17)=some (.ptr Ah 0)/\B.2.heap.get b=some (.map es since)/\B.1.get (key g.t18)=none/\B.1.get (key g.t19)=none/\
     ∀ρ' a' w',LI C nt g B b Ah es since r iY JD w0 (seen.push e.2.2) ρ' a' w'->Q .normal a' w'):
   dO P (XK g o0 o1 kM rest i3 i4 b0 b1) Q a w:=by
 obtain⟨c,hr,hsc⟩:=L.it;obtain⟨g1,g2,es',q1,q2,q3⟩:=L.S.W.live b _ L.mp;obtain⟨aY,HV⟩:=WA cX;have LR:∀(i:Nat)(e':MapEntry),es'[i]? =some e'->∃e,es[i]? =some e/\aj ρ A.2.next.toNat C e.1 e'.key/\aj ρ A.2.next.toNat C e.2.1 e'.val/\e.2.2=e'.born:=λi e' h=>by
   have hi:i<es.length:=(by rw[q2];exact(Zb8.1 h).1);exact⟨_,H1 hi,q3 i _ e' (H1 hi) h⟩
 have hold:∀x∈es'.toList,x.born<since:=λx hx=>by
   obtain⟨i,hi⟩:=Zf2.1 hx;obtain⟨e,h1,_,_,h2⟩:=LR i x (by simpa using hi);rw[<-h2];exact aY e (Zc1 h1)
 have iz:es'.toList.map (·.born)=es.map (·.2.2):=by
   apply Zi3;intro i;simp only[Zb6,Zf1];cases h:es'[i]? with
   | none=>
     have:es.length<=i:=(by rw[q2];exact Array.getElem?_eq_none_iff.1 h);rw[Zb4 this];rfl
   | some x=>
     obtain⟨e,h1,_,_,h2⟩:=LR i x h;rw[h1];simp[h2]
 have H6:a.eval (.tmp g.t17)= .pointer (some ⟨r,0,none⟩):=by
   have h:=n8 (x:= .tmp g.t17) (o:= .t (key g.t17)) rfl L.S.F (v:= .ptr Ah 0) L.at17;obtain⟨_,h⟩:=h.dQ;rw[h,L.ip.1,L.ip.2.1]
 have ei:=L.S.size;have qm:∀(v:Value),g.t18<(a.put (some g.t18) v).tmps.size:=λv=>by rw[Act.fY,ei];exact hR.lt.2.1
 have hrl:r<w.heap.size:=(Zb8.1 hr).1;unfold XK;apply Bz;apply DX;show oa P _ _ [0,1] a w;rcases run_next_at (P:=P) w o0.type r (ρ b).au since c seen es' since hr q1 hold hsc with⟨h0,bQ⟩|⟨e',ji,w1,WB,bQ⟩
 . refine vB (i:=0) (o:=o0) rfl hR.n0.2.1 (v:= .tuple #[.bool false]) (w':=w) (by simp[execOp,hR.n0.1,H6,bQ,Result.andThen]) ?_;rw[hR.n0.2.2];refine vB (i:=1) (o:=o1) rfl hR.n1.2.1 (v:= .bool false) (w':=w) (by simp[execOp,hR.n1.1,eval_put (ei ▸hR.lt.2.1),Instr.extract,Result.andThen]) ?_;rw[hR.n1.2.2];apply Bz;refine NK (eval_put (by rw[Act.fY,ei];exact hR.lt.2.2.1)) (YW ?_);refine XL (λe he=> ?_) _ ⟨L.S.W,λp v hp=> ?_,by rw[Act.fY,Act.fY];exact ei,by rw[Act.iq,Act.iq];exact L.S.defers⟩
   .obtain⟨i,hi⟩:=Zf2.1 he;have NG:i<es'.size:=(by rw[<-q2];exact(H3.1 hi).1);obtain⟨e2,h1,_,_,h2⟩:=LR i _ (Ze2 NG);rw[hi]at h1;cases h1;rw[h2];have hem:leftOf es' seen= #[]:=Zm0 h0;unfold leftOf at hem;rw[Array.filter_eq_empty_iff]at hem;have:=hem es'[i] (Array.getElem_mem NG);simpa using this
   .rw[Dq (λh=>by simp at h;subst h;rw[L.cl.2]at hp;cases hp),Dq (λh=>by simp at h;subst h;rw[L.cl.1]at hp;cases hp)];exact L.S.F p v hp
 . have hr1:w1.heap[r]? =some (.mapIter (some (ρ b).au) since seen c):=(by rcases WB with rfl|rfl<;>exact hr);have u7:w1.heap[(ρ b).au]? =some (.map es' since):=(by rcases WB with rfl|rfl<;>exact q1);have Gn:=Go.MapKept.heap_set (o':= .mapIter (some (ρ b).au) since (seen.push e'.born) since) hr1;obtain⟨w2,eM⟩:∃w2,w2=Go.ChangeMaps.setBlock w1 r (.mapIter (some (ρ b).au) since (seen.push e'.born) since):=⟨_,rfl⟩
   (change (Go.ChangeMaps.setBlock w1 r (.mapIter (some (ρ b).au) since (seen.push e'.born) since)).heap[r]? =_/\∀k,k≠r->(Go.ChangeMaps.setBlock w1 r (.mapIter (some (ρ b).au) since (seen.push e'.born) since)).heap[k]? =_ at Gn;rw[<-eM]at Gn bQ;have zl:w2.heap.size=w.heap.size:=(by rw[eM];rcases WB with rfl|rfl<;>simp[Go.ChangeMaps.setBlock]<;>rfl);have mU:∀k,k≠r->w2.heap[k]? =w.heap[k]? :=λk hk=>(Gn.2 k hk).trans (by rcases WB with rfl|rfl<;>rfl));have Bx:w2.os=w.os/\w2.tape=w.tape/\w2.output=w.output:=(by rw[eM];rcases WB with rfl|rfl<;>exact⟨rfl,rfl,rfl⟩);clear eM WB;have EV:aP ρ C A.2 w2:=L.S.W.iter hr L.BP zl mU;have hen:(Instr.entry (.pointer (some ⟨r,0,none⟩))).run P w2= .ok (.tuple #[e'.key,e'.val]) w2:=
     run_entry_at _ r _ since seen es' since e' Gn.1 ((mU _ (L.BP b _ L.mp)).trans q1) (by simp[leftOf]at ji;simpa using ji.1) (iz ▸HV)
   obtain⟨i,hi⟩:=Zf2.1 ji;have D3:e'∈es'.toList/\seen.contains e'.born=false:=(by simpa [leftOf]using ji);obtain⟨j,hj⟩:=Zf2.1 D3.1;obtain⟨e,h1,v1,v2,h2⟩:=LR j e' (by simpa using hj);obtain⟨B,⟨f1,s1,hx,hf,hB⟩,b17,bm,b18,b19,hQ⟩:=aeC e (Zc1 h1) (by rw[h2];exact D3.2);refine vB (i:=0) (o:=o0) rfl hR.n0.2.1 (v:= .tuple #[.bool true,e'.key,e'.val]) (w':=w2) (by simp[execOp,hR.n0.1,H6,bQ,Result.andThen]) ?_;rw[hR.n0.2.2];refine vB (i:=1) (o:=o1) rfl hR.n1.2.1 (v:= .bool true) (w':=w2) (by simp[execOp,hR.n1.1,eval_put (ei ▸hR.lt.2.1),Instr.extract,Result.andThen]) ?_;rw[hR.n1.2.2];apply Bz;refine Pa (eval_put (by rw[Act.fY,ei];exact hR.lt.2.2.1)) (YV ?_);apply NJ;apply Bz;apply DX;have H8:kM.size=g.l4.length+1:=(by have h:Ff.length=kM.size:=(by rw[(lS hR.c4).1,Ze7]);obtain⟨h4,_⟩:=Zb8.1 hR.n4.1;have h4:0<kM.size:=h4;rw[<-hR.l4,List.length_tail];omega);rw[H8,Zk2,Zm1];refine vB (i:=0) (o:=o4) hR.n4.1 hR.n4.2.2.1 (v:= .tuple #[e'.key,e'.val]) (w':=w2) (by simp[execOp,hR.n4.2.1,LQ hR.ne.1.symm,LQ hR.ne.2.1.symm,H6,hen,Result.andThen]) ?_;rw[hR.n4.2.2.2];unfold abe at hx;simp only[gj]at hx;rw[KR none hc]at hx;unfold lU at hx;(split at hx<;>first|(cases hx;done)|skip);rename_i y hy;simp only[Zx hc]at hx;have hvt:aj ρ A.2.next.toNat C (.tuple [.bool true,e.1,e.2.1]) (.tuple #[.bool true,e'.key,e'.val]):= .qC ((ak.nil.cons v2).cons v1 |>.cons (.bool true));have hve:aj ρ A.2.next.toNat C (.tuple [e.1,e.2.1]) (.tuple #[e'.key,e'.val]):= .qC ((ak.nil.cons v2).cons v1);have F1:=eB.put (nt:=nt) (d:=some g.t18) L.S.F ei (λ_ h=>by cases h;exact hR.lt.2.1) hvt;have F2:=eB.put (nt:=nt) (d:=some g.t19) F1 (by rw[Act.fY];exact ei) (λ_ h=>by cases h;exact hR.lt.2.2.1) (.bool true);have F3:=eB.put (nt:=nt) (d:=some g.t20) F2 (by rw[Act.fY,Act.fY];exact ei) (λ_ h=>by cases h;exact hR.lt.2.2.2) hve;refine oc (nt:=nt) hT bB g.l4 1 _ y.1 A.2 y.2 ρ _ w2 (λi ao hi=> ?_) hy ⟨EV,F3,by rw[Act.fY,Act.fY,Act.fY];exact ei,by rw[Act.iq,Act.iq,Act.iq];exact L.S.defers⟩ λa3 w3 hp=> ?_
   .rw[<-hR.l4,List.getElem?_tail]at hi;obtain⟨o,k1,k2,_⟩:=yE hR.c4 (i+1) ao hi;exact⟨o,by rw[Nat.add_comm];exact k1,k2⟩
   obtain⟨zm,S3,k1,k2,k3⟩:=hp;(refine(od hT bB eS m).1 rest g.body y.1 f1 y.2 s1 .normal zm a3 w3 _ hR.r4 hx S3 λa4 w4 hp=> ?_);have hP:=eG.trans k1 k2 k3 hp;show Q .normal a4 w4;have S2:kL nt ρ C A.1 A.2 a w2:=⟨EV,L.S.F,ei,L.S.defers⟩
   have YM:iL iY JD w0 ρ A.2 w2:=⟨Bx.1.trans L.E.os,Bx.2.1.trans L.E.tape,Bx.2.2.trans L.E.output,by rw[zl];exact L.E.size,λk hk hn=>(mU k (by have:=L.late;omega)).trans (L.E.block k hk hn),λb x hb=>L.E.lO b x hb⟩
   obtain⟨TL,S4,l1,l2,E4⟩:∃TL,kL nt TL C B.1 B.2 a4 w4/\(∀p:Pos,p.toNat<A.2.next.toNat->TL p=ρ p)/\A.2.next.toNat<=B.2.next.toNat/\iL ρ A.2 w2 TL B.2 w4:=by
     rcases hB with⟨rfl,hk⟩|hB
     .  obtain⟨S,E⟩:=S2.back hf hk hP;exact⟨ρ,S,λ_ _=>rfl,Za1 _,E⟩
     .  obtain⟨TL,S,l1,l2,E⟩:=hP;rw[<-hB]at S l2 E;exact⟨TL,⟨S.W,S.F.sub hf,S.size,S.defers⟩,l1,l2,E⟩
   have h4r:w4.heap[r]? =some (.mapIter (some (ρ b).au) since (seen.push e.2.2) since):=(by rw[E4.block r (by rw[zl];exact hrl) L.BP,h2];exact Gn.1);refine hQ TL a4 w4 ⟨S4,λp hp=>(l1 p (Zb7 hp L.k2)).trans (L.k1 p hp),Zc4 L.k2 l2,YM.trans E4,?_,b17,bm,⟨since,?_,Za1 _⟩,λp x hp=> ?_,L.late,b18,b19⟩
   .rw[l1 Ah L.ip.2.2];exact⟨L.ip.1,L.ip.2.1,Zb7 L.ip.2.2 l2⟩
   .rw[l1 b g1];exact h4r
   . rcases E4.lO p x hp with⟨p',x',hp',e1⟩|h
     .  rw[<-e1];exact L.BP p' x' hp'
     .  rw[zl]at h;omega
theorem BQ:∀(ps:List Pos)(fr:Fr)(p:Pos),p∈ps\/fr.get p=none->(TJ ps fr).get p=none
 |[],_,_,h=>h.elim (λh=>by simp at h) id
 |q ::ps,fr,p,h=>BQ ps _ p (by
  by_cases hq:q=p
  .subst hq;exact .inr (T.dP _ _ _)
  . rcases h with h|h
    .   rcases Za2.1 h with h|h
        .exact(hq h.symm).elim
        .exact .inl h
    .   exact .inr (by rw[T.bn _ hq];exact h))
theorem aP.slot{ρ ρ':Pos->Loc}{st:St}{w:World}(hW:aP ρ C st w)(aN:∀p:Pos,p.toNat<st.next.toNat->ρ' p=ρ p):aP ρ' C ⟨st.heap,st.next.succ⟩ w:=by
 have hl:∀p x,st.heap.get p=some x->ρ' p=ρ p:=λp x hp=>aN p (hW.live p x hp).1
 refine⟨λp x hp=> ?_,λp q x y hp hq h=> ?_,λa v ha=>⟨(hW.cO a v ha).1,λp x hp=> ?_⟩,hW.whole⟩
 .obtain⟨h1,h2,h3⟩:=hW.live p x hp;rw[hl p x hp];exact⟨by rw[Pos.aB];exact Nat.lt_succ_of_lt h1,h2,h3.mono aN (by rw[Pos.aB];omega)⟩
 .rw[hl p x hp,hl q y hq]at h;exact hW.inj p q x y hp hq h
 .rw[hl p x hp];exact(hW.cO a v ha).2 p x hp
end
end
section
variable{P:Program}{tt:TT}{C:Cells}
def idxS:List AV->St->Option (AV×St)
 |[.str a,.int .u8 c],st=>some (.int .i64 (Lib.indexByte (a.map UInt8.ofNat) c.toNat.toUInt8),st)
 |_,_=>none
end
def aco (tt :TT)(nt:Nat)(ds:List Nat)(b0 b0' t19:Nat)(o2 o0 o1 o4:Oper)(Oi Ff:List aX)(body:AC):Option (RG×Nat):=
 match o2.op,o0.op,o1.op,o4.op with
 |  .range ty x,.next (.tmp a0) false,.extract (.tmp a1) 0,.entry (.tmp a4)=>match o2.dst,o0.dst,o1.dst,o4.dst with
    |some t17,some t18,some c,some t20=>match o2.guard,o0.guard,o1.guard,o4.guard with
     |  none,none,none,none=>match jx x with
        |some xo=>match Nat.beq a0 t17&&Nat.beq a1 t18&&Nat.beq a4 t17&&Nat.beq c t19&&Nat.beq b0 b0'&&Nat.blt t17 nt&&Nat.blt t18 nt&&Nat.blt t19 nt&&Nat.blt t20 nt&&
            !Nat.beq t17 t18&& !Nat.beq t17 t19&& !Nat.beq t18 t19 with
         |true=>some (⟨t17,t18,t19,t20,Oi.dropLast,xo,Ff.tail,body,key t18::key t19::ds.map key⟩,ty)
         |false=>none
        |_=>none
     |_,_,_,_=>none
    |_,_,_,_=>none
 |_,_,_,_=>none
def TM (tt:TT)(nt:Nat):Code->Option (RG×Nat)
 |  .seq (.region _ wU false) (.block b0 (.loop (.seq (.region _ ⟨[o0,o1]⟩ false) (.seq (.cond (.tmp t19) .skip (.exit b0')) (.block _ (.seq (.region _ kM false) rest))))))=>
    match wU[wU.size - 1]?,kM[0]? with
    |some o2,some o4=>match lC tt nt wU wU.toList [],lC tt nt kM kM.toList []with
     |  some Oi,some Ff=>match qg tt nt rest with
        |some body=>aco tt nt (kM.toList.filterMap (·.dst)++ob rest) b0 b0' t19 o2 o0 o1 o4 Oi Ff body
        |none=>none
     |_,_=>none
    |_,_=>none
 |_=>none
section
variable{P:Program}{tt:TT}{C:Cells}{aS:gI XR}{call:ah}{nt m:Nat}
def MP:Code->Bool
 |.region _ ops _=>ops.toList.any λo=>match o.op with|.range _ _=>true|_=>false
 |.seq a b=>MP a||MP b
 |.cond _ a b=>MP a||MP b
 |.block _ a=>MP a
 |.loop a=>MP a
 |_=>false
end
abbrev XO:=iy×Fr×St
abbrev XS:=Option (List XO)
def TN(y x:XO):Bool:=match y.1,x.1 with
 |.normal,.normal=>T.sub fB y.2.1 x.2.1&&T.sub Du y.2.2.heap x.2.2.heap&&Pos.beq y.2.2.next x.2.2.next
 |_,_=>false
def Pr:List XO->List XO->List XO
 |[],acc=>acc
 |  x::l,acc=>match acc.any (λy=>TN y x)with
    |true=>Pr l acc
    |false=>Pr l (x::acc)
def GZ{α:Type}(k:α->XS):List α->List XO->XS
 |[],acc=>some acc
 |  e::l,acc=>match k e with
    |some a=>GZ k l (Pr a acc)
    |none=>none
structure Cv(y x:XO):Prop where
 e:y.1=x.1
 f:∀p v,y.2.1.get p=some v->x.2.1.get p=some v
 h:∀p v,y.2.2.heap.get p=some v->x.2.2.heap.get p=some v
 n:y.2.2.next=x.2.2.next
theorem Cv.refl(x:XO):Cv x x:=⟨rfl,λ_ _ h=>h,λ_ _ h=>h,rfl⟩
theorem Zy{y x:XO}(h:TN y x=true):Cv y x:=by
 unfold TN at h;split at h<;>first|(cases h;done)|skip
 rename_i h1 h2;simp only[Za4]at h;exact⟨h1.trans h2.symm,T.yJ (λ_ _=>oe) h.1.1,T.yJ (λ_ _=>MF) h.1.2,Pos.beq_eq.1 h.2⟩
theorem JE:∀{l acc:List XO},(∀y∈acc,y∈Pr l acc)/\∀x∈l,∃y∈Pr l acc,Cv y x
 |[],acc=>⟨λy hy=>hy,λx hx=>by cases hx⟩
 |x ::l,acc=>by
  unfold Pr;split
  . rename_i h;obtain⟨h1,h2⟩:=JE (l:=l) (acc:=acc);refine⟨h1,λz hz=> ?_⟩;rcases Za2.1 hz with rfl|hz
    .   obtain⟨y,hy,hc⟩:=List.any_eq_true.1 h;exact⟨y,h1 y hy,Zy hc⟩
    .   exact h2 z hz
  . obtain⟨h1,h2⟩:=JE (l:=l) (acc:=x::acc);refine⟨λy hy=>h1 y (Za3 _ hy),λz hz=> ?_⟩;rcases Za2.1 hz with rfl|hz
    .   exact⟨z,h1 z (Zc2 ..),.refl z⟩
    .   exact h2 z hz
theorem vC{α:Type}{k:α->XS}{outs:List XO}:∀{l:List α}{acc:List XO},GZ k l acc=some outs->(∀y∈acc,y∈outs)/\∀e∈l,∃a,k e=some a/\∀x∈a,∃y∈outs,Cv y x
 |[],acc,h=>by
  simp only[GZ,H0]at h;subst h;exact⟨λy hy=>hy,λe he=>by cases he⟩
 |e::l,acc,h=>by
  unfold GZ at h;split at h<;>first|(cases h;done)|skip
  rename_i a ha;obtain⟨h1,h2⟩:=vC h;obtain⟨n1,n2⟩:=JE (l:=a) (acc:=acc);refine⟨λy hy=>h1 y (n1 y hy),λz hz=> ?_⟩;rcases Za2.1 hz with rfl|hz
  .exact⟨a,ha,λx hx=>let⟨y,hy,hc⟩:=n2 x hx;⟨y,h1 y hy,hc⟩⟩
  .exact h2 z hz
section
variable{P:Program}{tt:TT}{C:Cells}{nt:Nat}{ρ:Pos->Loc}{st:St}{w:World}
theorem aP.zP{ρ:Pos->Loc}{st st':St}{w:World}(hW:aP ρ C st w)(h:∀p v,st'.heap.get p=some v->st.heap.get p=some v)(hn:st'.next=st.next):aP ρ C st' w:=
 ⟨λb x hb=>by rw[hn];exact hW.live b x (h b x hb),λb b' x x' hb iz=>hW.inj b b' x x' (h b x hb) (h b' x' iz),λa v ha=>⟨(hW.cO a v ha).1,λb x hb=>(hW.cO a v ha).2 b x (h b x hb)⟩,hW.whole⟩
theorem eG.Oj{y x:XO}{a':Act}{w':World}(hc:Cv y x)(h:eG nt ρ C st w x.2.1 x.2.2 a' w'):eG nt ρ C st w y.2.1 y.2.2 a' w':=by obtain⟨cY,S,k1,k2,E⟩:=h;refine⟨cY,⟨S.W.zP hc.h hc.n,?_,S.size,S.defers⟩,k1,by rw[hc.n];exact k2,⟨E.os,E.tape,E.output,E.size,E.block,λb v hb=>E.lO b v (hc.h b v hb)⟩⟩;rw[hc.n];exact S.F.sub hc.f
def AP(P:Program)(C:Cells)(nt:Nat)(c:Code)(ex:Fr->St->XS):Prop:=
 ∀  (fr:Fr)(st:St)(outs:List XO)(ρ:Pos->Loc)(a:Act)(w:World)(Q:Exit->Act->World->Prop),ex fr st=some outs->kL nt ρ C fr st a w->
    (∀o∈outs,∀a' w',eG nt ρ C st w o.2.1 o.2.2 a' w'->Q (k9 o.1) a' w')->dO P c Q a w
def abg(ex:Fr->St->XR)(fr:Fr)(st:St):XS:=match ex fr st with
 |some o=>some [o]
 |none=>none
theorem JC.one{c:Code}{ex:Fr->St->XR}(h:JC P C nt c ex):AP P C nt c (abg ex):=by
 intro fr st outs ρ a w Q hx hS hQ;unfold abg at hx;split at hx<;>first|(cases hx;done)|skip
 rename_i o ho;simp only[H0]at hx;subst hx;exact h fr o.2.1 st o.2.2 o.1 ρ a w Q ho hS λa' w' hp=>hQ o (by simp) a' w' hp
end
section
variable(aS:gI XR)(m:Nat)(g:RG)
def TO{β:Type}:List Pos->Fr->(Fr->β)->β
 |[],fr,k=>k fr
 |p::ps,fr,k=>lQ none p fr λfr=>TO ps fr k
def TP (b:Pos)(es:List (AV×AV×Nat))(clock:Nat)(Ah:Pos):Nat->List (AV×AV×Nat)->Fr->St->XS
 |  0,todo,fr,st=>match todo with
    |[]=>some [(.normal,fr,st)]
    |_=>none
 |  n+  1,todo,fr,st=>match todo with
    |[]=>some [(.normal,fr,st)]
    |_  =>GZ (λe=>match abe aS m g e.1 e.2.1 fr st with
     |  some (.normal,f1,s1)=>TO g.ds f1 λf1=>match j9 b s1.heap,j9 (key g.t17) f1 with
        |some y,some v=>match Du y (.map es clock)&&fB v (.ptr Ah 0)with
         |true=>TP b es clock Ah n (todo.filter λx=> !Nat.beq x.2.2 e.2.2) f1 s1
         |false=>none
        |_,_=>none
     |_=>none) todo []
def TQ(l:List aX)(fr:Fr)(st:St):XR:=O0 none aS l fr st λfr st=>some (.normal,fr,st)
def rgS (fr:Fr)(st:St):XS:=match TQ aS g.l2 fr st with
 |  some (_,fr,st)=>Qn none fr g.x λ
    | .map b=>match j9 b st.heap with
      | some (.map es clock)=>match Pp clock es with
        |true=>TO g.ds fr λfr=>lQ (some (.ptr st.next 0)) (key g.t17) fr λfr=>Ns st.next λn=>TP aS m g b es clock st.next es.length es fr { heap:=st.heap,next:=n }
        |false=>none
      |_=>none
    |_=>none
 |none=>none
end
section
variable{P:Program}{tt:TT}{C:Cells}{aS:gI XR}{call:ah}{nt m:Nat}{g:RG}{kM:Array Oper}{o0 o1 o4:Oper}{i3 i4 b0 b1:Nat}{rest:Code}{Ff:List aX}{bs:List Nat}
theorem Pt{β:Type}:∀(ps:List Pos)(fr:Fr)(k:Fr->β),TO ps fr k=k (TJ ps fr)
 |[],_,_=>rfl
 |p::ps,fr,k=>by simp only[TO,gj,TJ];exact Pt ps _ k
theorem Pu(hc:CK none aS call){l:List aX}{fr aQ:Fr}{st st':St}{e:iy}(h:TQ aS l fr st=some (e,aQ,st')):e= .normal/\g7 call l fr st=some (aQ,st'):=by
 unfold TQ at h;rw[KR none hc]at h;unfold lU at h;split at h<;>first|(cases h;done)|skip
 rename_i y hy;simp only[H0,Za8]at h;obtain⟨rfl,rfl,rfl⟩:=h;exact⟨rfl,hy⟩
theorem LI.adJ(hT:bG P tt)(hc:CK none aS call)(bB:eg P C call)(eS:o9 P tt C call)(hR:abf tt nt g o0 o1 o4 kM rest Ff bs)
  {b Ah:Pos} {es:List (AV×AV×Nat)} {since r:Nat} {iY:Pos->Loc} {JD:St} {w0:World} (cX:Pp since es=true) (sw:key g.t18∈g.ds/\key g.t19∈g.ds) {Q:Exit->Act->World->Prop}:
  ∀ (n:Nat)(todo:List (AV×AV×Nat))(fr:Fr)(st:St)(outs:List XO)(seen:Array Nat)(ρ:Pos->Loc)(a:Act)(w:World),TP aS m g b es since Ah n todo fr st=some outs->
    (∀e,e∈todo↔e∈es/\seen.contains e.2.2=false)->LI C nt g (fr,st) b Ah es since r iY JD w0 seen ρ a w->
    (∀o∈outs,o.1= .normal->∀a' w',eG nt iY C JD w0 o.2.1 o.2.2 a' w'->Q (.exit b0) a' w')->Jc (dO P (XK g o0 o1 kM rest i3 i4 b0 b1)) Q (n+1) a w:=by
 intro n;induction n with
 |zero=>
  intro todo fr st outs seen ρ a w h K4 L hQ;unfold TP at h;split at h<;>first|(cases h;done)|skip
  simp only[H0]at h;subst h;rw[Qy];refine L.round (m:=m) hT hc bB eS hR cX (λ_ a' S=>hQ (.normal,fr,st) (Zc3.2 rfl) rfl a' w ⟨ρ,S,L.k1,L.k2,L.E⟩) λe he hs=> ?_
  have:=(K4 e).2 ⟨he,hs⟩;cases this
 |succ n ih=>
  intro todo fr st outs seen ρ a w h K4 L hQ;rw[Qy];unfold TP at h;split at h
  .simp only[H0]at h;subst h;(refine L.round (m:=m) hT hc bB eS hR cX (λ_ a' S=>hQ (.normal,fr,st) (Zc3.2 rfl) rfl a' w ⟨ρ,S,L.k1,L.k2,L.E⟩) λe he hs=> ?_);have:=(K4 e).2 ⟨he,hs⟩;cases this
  . rename_i c9;obtain⟨_,fE⟩:=vC h;refine L.round (m:=m) hT hc bB eS hR cX (λXL a' S=> ?_) λe he hs=> ?_
    .   cases todo with
        |nil=>exact(c9 rfl).elim
        | cons e l=>
          obtain⟨he,hs⟩:=(K4 e).1 (Zc2 ..);rw[XL e he]at hs;cases hs
    .   obtain⟨iE,h1,mY⟩:=fE e ((K4 e).2 ⟨he,hs⟩);(split at h1<;>first|(cases h1;done)|skip);rename_i f1 s1 hx;rw[Pt]at h1;simp only[rY]at h1;(split at h1<;>first|(cases h1;done)|skip);rename_i y v hy hv;(split at h1<;>first|(cases h1;done)|skip);rename_i hb;simp only[Za4]at hb;have e1:=MF hb.1;have e2:=oe hb.2;subst e1;subst e2;refine⟨(TJ g.ds f1,s1),⟨f1,s1,hx,Pq _ _,.inr rfl⟩,hv,hy,BQ _ _ _ (.inl sw.1),BQ _ _ _ (.inl sw.2),λρ' a' w' L'=> ?_⟩;refine ih _ _ _ iE _ ρ' a' w' h1 (λx=> ?_) L' λo ho hn a2 w2 hp=> ?_
        .rw[Zo3,K4 x,Array.contains_push,Zk3,Zg9];rw[show Nat.beq x.2.2 e.2.2=(x.2.2==e.2.2)from by rw[Zh5];simp[Nat.beq_eq]];exact and_assoc
        .obtain⟨z,hz,hcv⟩:=mY o ho;exact hQ z hz (hcv.e.trans hn) a2 w2 (hp.Oj hcv)
theorem AP.rng(hT:bG P tt)(hc:CK none aS call)(bB:eg P C call)(eS:o9 P tt C call)(hR:abf tt nt g o0 o1 o4 kM rest Ff bs)
   {wU:Array Oper} {Oi:List aX} {o2:Oper} {x:Operand} {ty kt et:TypeId} {i2:Nat} {bs2:List Nat} (h2:lC tt nt wU wU.toList bs2=some Oi) (jE:Oi.dropLast=g.l2)
   (Bx:wU[g.l2.length]? =some o2) (zl:wU.size=g.l2.length+1) (hop:o2.op= .range ty x) (vA:o2.guard=none) (hd2:o2.dst=some g.t17) (hx:jx x=some g.x) (abh:P.underlying ty=some (.map kt et))
   (sw:key g.t18∈g.ds/\key g.t19∈g.ds):AP P C nt (.seq (.region i2 wU false) (.block b0 (.loop (XK g o0 o1 kM rest i3 i4 b0 b1)))) (rgS aS m g):=by
 intro fr st outs ρ a w Q h hS hQ;unfold rgS at h;split at h<;>first|(cases h;done)|skip
 rename_i ex sx jk hy;obtain⟨rfl,hz⟩:=Pu hc hy;simp only[Jm]at h;unfold lU at h;split at h<;>first|(cases h;done)|skip
 rename_i v hv;dsimp only at h;split at h<;>first|(cases h;done)|skip
 rename_i b;simp only[rY]at h;split at h<;>first|(cases h;done)|skip
 rename_i es clock hb;split at h<;>first|(cases h;done)|skip
 rename_i cX;simp only[Pt,gj,GH]at h;apply Bz;apply DX;rw[zl,List.range_succ];apply Qx;rw[Zk2];refine oc (nt:=nt) hT bB g.l2 0 fr sx st jk ρ a w (λi ao hi=> ?_) hz hS λa2 w2 hp=> ?_
 .rw[<-jE,List.getElem?_dropLast]at hi;(split at hi<;>first|(cases hi;done)|skip);obtain⟨o,k1,k2,_⟩:=yE h2 i ao hi;exact⟨o,by rw[Zb9];exact k1,k2⟩
 obtain⟨j8,S2,k1,k2,E2⟩:=hp;obtain⟨hbn,Jg⟩:=(n8 hx S2.F hv).vn;obtain⟨g1,g2,es',q1,q2,q3⟩:=S2.W.live b _ hb;obtain⟨Ol,hf3⟩:∃f,f=(TJ g.ds sx).put (some (.ptr jk.next 0)) (key g.t17):=⟨_,rfl⟩
 rw[<-hf3]at h;obtain⟨JF,TR⟩:∃s:St,s=⟨jk.heap,jk.next.succ⟩:=⟨_,rfl⟩
 rw[<-TR]at h;have n18:key g.t17≠key g.t18:=λe=>hR.ne.1 (by have:=congrArg Pos.toNat e;rw[dU,dU]at this;omega)
 have n19:key g.t17≠key g.t19:=λe=>hR.ne.2.1 (by have:=congrArg Pos.toNat e;rw[dU,dU]at this;omega)
 have Zz:Ol.get (key g.t17)=some (.ptr jk.next 0)/\JF.heap.get b=some (.map es clock)/\Ol.get (key g.t18)=none/\Ol.get (key g.t19)=none:=by
   rw[hf3,TR,T.dP,T.bn _ n18,T.bn _ n19];exact⟨rfl,hb,BQ _ _ _ (.inl sw.1),BQ _ _ _ (.inl sw.2)⟩
 show oa P _ _ [g.l2.length] a2 w2
 refine vB Bx vA (v:= .pointer (some ⟨w2.heap.size,0,none⟩)) (w':=w2.alloc (.mapIter (some (j8 b).au) clock #[] clock))
   (by simp[execOp,hop,Jg,run_range_map (P:=P) w2 ty kt et (j8 b).au es' clock abh q1,Result.andThen]) ?_
 rw[hd2];show dO P (Code.block b0 _) Q _ _;apply NJ;have hold:∀k,k<w2.heap.size->(w2.alloc (.mapIter (some (j8 b).au) clock #[] clock)).heap[k]? =w2.heap[k]? :=λk hk=>heap_alloc_old w2 _ hk
 have ei:(w2.alloc (.mapIter (some (j8 b).au) clock #[] clock)).heap.size=w2.heap.size+1:=by simp
 obtain⟨zm,h3,aN⟩:∃zm:Pos->Loc,zm jk.next=⟨w2.heap.size,0,0⟩/\∀p:Pos,p.toNat<jk.next.toNat->zm p=j8 p:=
   ⟨λp=>if p=jk.next then⟨w2.heap.size,0,0⟩else j8 p,Za6 rfl,λp hp=>Za5 λe=>by subst e;omega⟩
 have hW3:aP zm C JF (w2.alloc (.mapIter (some (j8 b).au) clock #[] clock)):=by rw[TR];exact(S2.W.slot aN).grow (by omega) hold
 have Jj:JF.next.toNat=jk.next.toNat+1:=by rw[TR];exact Pos.aB _
 have hF3:eB zm JF.next.toNat C Ol (a2.put (some g.t17) (.pointer (some ⟨w2.heap.size,0,none⟩))).tmps:=by rw[hf3];refine eB.put (nt:=nt) (d:=some g.t17) ((S2.F.sub (Pq _ _)).mono aN (by omega)) S2.size (λ_ h=>by cases h;exact hR.lt.1) ?_;have:=aj.ptr (ρ:=zm) (C:=C) jk.next 0 (n:=JF.next.toNat) (by omega);rw[h3]at this;exact this
 refine YX (es.length+1) (LI.adJ (m:=m) (iY:=j8) (JD:=jk) (w0:=w2) (r:=w2.heap.size) hT hc bB eS hR cX sw es.length es Ol JF outs #[] zm _ _ h (λe=>by simp) ?_ λo ho hn a' w' hp=> ?_)
 . refine⟨⟨hW3,hF3,by rw[Act.fY];exact S2.size,by rw[Act.iq];exact S2.defers⟩,aN,by show jk.next.toNat<=JF.next.toNat;omega,
     ⟨rfl,rfl,rfl,by rw[ei];omega,λk hk _=>hold k hk,λp x hp=>.inl ⟨p,x,by rw[TR]at hp;exact hp,by
        rw[TR]at hp;rw[aN p (S2.W.live p x hp).1]⟩⟩,⟨by rw[h3],by rw[h3],by show _<JF.next.toNat;omega⟩,Zz.1,Zz.2.1,⟨clock,?_,Za1 _⟩,λp x hp=> ?_,Za1 _,Zz.2.2⟩
   .rw[aN b g1];exact heap_alloc_new w2 _
   .rw[TR]at hp;obtain⟨l1,l2,_⟩:=S2.W.live p x hp;rw[aN p l1];omega
 . simp only[Exit.inBlock,Ze8];have:=hQ o ho a' w' (eG.trans k1 k2 E2 hp)
   rwa [hn]at this
theorem AP.TM(hT:bG P tt)(hc:CK none aS call)(bB:eg P C call)(eS:o9 P tt C call){c:Code}{g:RG}{ty:Nat}(h:TM tt nt c=some (g,ty))
  {kt et:TypeId} (abh:P.underlying ty=some (.map kt et)) (ds:List Pos):AP P C nt c (rgS aS m { g with ds:=key g.t18::key g.t19::ds }):=by
 unfold Go.Ai.TM at h;split at h<;>first|(cases h;done)|skip
 rename_i i2 wU b0 i3 o0 o1 t19 b0' b1 i4 kM rest;split at h<;>first|(cases h;done)|skip
 rename_i o2 o4 Bx ho4;split at h<;>first|(cases h;done)|skip
 rename_i Oi Ff jE hl4;split at h<;>first|(cases h;done)|skip
 rename_i body aeD;unfold aco at h;split at h<;>first|(cases h;done)|skip
 rename_i ty' x a0 a1 a4 p2 p0 p1 p4;split at h<;>first|(cases h;done)|skip
 rename_i t17 t18 c t20 d2 d0 d1 d4;split at h<;>first|(cases h;done)|skip
 rename_i g2 g0 g1 g4;split at h<;>first|(cases h;done)|skip
 rename_i xo hxo;split at h<;>first|(cases h;done)|skip
 rename_i hb;simp only[H0,Za8]at h;obtain⟨rfl,rfl⟩:=h;simp only[Za4,Zg9,Nat.beq_eq,Nat.blt_eq]at hb;obtain⟨⟨⟨⟨⟨⟨⟨⟨⟨⟨⟨rfl,rfl⟩,rfl⟩,rfl⟩,rfl⟩,l17⟩,l18⟩,l19⟩,l20⟩,n1⟩,n2⟩,n3⟩:=hb;have hs:Oi.length=wU.size:=(lS jE).1.trans (Ze7 ..);have h0:0<wU.size:=by have:=(Zb8.1 Bx).1;omega
 exact AP.rng hT hc bB eS (i3:=i3) (i4:=i4) (b1:=b1) ⟨⟨p0,g0,d0⟩,⟨p1,g1,d1⟩,⟨ho4,p4,g4,d4⟩,⟨l17,l18,l19,l20⟩,⟨Zb0 n1,Zb0 n2,Zb0 n3⟩,hl4,rfl,aeD⟩ jE rfl
  (by rw[List.length_dropLast,hs];exact Bx) (by show wU.size=Oi.dropLast.length+1;rw[List.length_dropLast,hs];omega) p2 g2 d2 hxo abh ⟨by simp,by simp⟩
end
end
noncomputable section
open Go Go.RowKit
abbrev zn:=(Pos->Loc)->St->World->List Deferred->Prop
def Om(C:Cells)(J:zn):Prop:=
 ∀  (ρ:Pos->Loc)(st:St)(w:World)(D:List Deferred)(ρ':Pos->Loc)(st':St)(w':World),J ρ st w D->aP ρ C st w->aP ρ' C st' w'->(∀b:Pos,b.toNat<st.next.toNat->ρ' b=ρ b)->
    st.next.toNat<=st'.next.toNat->iL ρ st w ρ' st' w'->J ρ' st' w' D
section
variable{P:Program}{tt:TT}{C:Cells}{r:Option Nat}{J:zn}{ts:Nat->Prop}{x:Array Value}{nt:Nat}
def iF(C:Cells)(J:zn)(ts:Nat->Prop)(x:Array Value)(nt:Nat)(ρ:Pos->Loc)(st:St)(w:World)(aQ:Fr)(st':St)(a':Act)(w':World):Prop:=
 ∃ρ',kL nt ρ' C aQ st' ⟨a'.tmps,[]⟩ w'/\(∀b:Pos,b.toNat<st.next.toNat->ρ' b=ρ b)/\st.next.toNat<=st'.next.toNat/\iL ρ st w ρ' st' w'/\J ρ' st' w' a'.defers/\∀t,ts t->a'.tmps[t]? =x[t]?
theorem iF.trans{ρ cY:Pos->Loc}{sx:Fr}{st aL jk:St}{a2:Act}{w w1 w2:World}(h1:∀b:Pos,b.toNat<st.next.toNat->cY b=ρ b)(h2:st.next.toNat<=aL.next.toNat)(h3:iL ρ st w cY aL w1)
  (h:iF C J ts x nt cY aL w1 sx jk a2 w2):iF C J ts x nt ρ st w sx jk a2 w2:=by
 obtain⟨j8,S,k1,k2,E,hJ,hx⟩:=h;exact⟨j8,S,λb hb=>(k1 b (Zb7 hb h2)).trans (h1 b hb),Zc4 h2 k2,h3.trans E,hJ,hx⟩
def D6(J:zn):Prop:=∀(ρ:Pos->Loc)(st st':St)(w:World)(D:List Deferred),J ρ st w D->(∀p v,st'.heap.get p=some v->st.heap.get p=some v)->st'.next=st.next->J ρ st' w D
theorem iF.Oj(hw:D6 J){y z:XO}{ρ:Pos->Loc}{st:St}{w:World}{a':Act}{w':World}(hc:Cv y z)(h:iF C J ts x nt ρ st w z.2.1 z.2.2 a' w'):iF C J ts x nt ρ st w y.2.1 y.2.2 a' w':=by obtain⟨cY,S,k1,k2,E,hJ,hx⟩:=h;refine⟨cY,⟨S.W.zP hc.h hc.n,?_,S.size,S.defers⟩,k1,by rw[hc.n];exact k2,⟨E.os,E.tape,E.output,E.size,E.block,λb v hb=>E.lO b v (hc.h b v hb)⟩,hw _ _ _ _ _ hJ hc.h hc.n,hx⟩;rw[hc.n];exact S.F.sub hc.f
def cM(P:Program)(C:Cells)(r:Option Nat)(J:zn)(ts:Nat->Prop)(x:Array Value)(nt:Nat)(c:Code)(ex:Fr->St->XS):Prop:=
 ∀  (fr:Fr)(st:St)(outs:List XO)(ρ:Pos->Loc)(a:Act)(w:World)(Q:Exit->Act->World->Prop),ex fr st=some outs->kL nt ρ C fr st ⟨a.tmps,[]⟩ w->J ρ st w a.defers->(∀t,ts t->a.tmps[t]? =x[t]?)->
    (∀o∈outs,∀a' w',iF C J ts x nt ρ st w o.2.1 o.2.2 a' w'->Q (k9 o.1) a' w')->c.wpIn (Fc r) 0 P Q a w
theorem AP.g{c:Code}{ex:Fr->St->XS}(h:AP P C nt c ex)(hJ:Om C J)(cL:∀t∈ob c,¬ts t):cM P C r J ts x nt c ex:=by
 intro fr st outs ρ a w Q he hS hj hx hQ;have h1:dO P c (λe a' w'=>∃o∈outs,e=k9 o.1/\eG nt ρ C st w o.2.1 o.2.2 a' w') ⟨a.tmps,[]⟩ w:=h fr st outs ρ _ w _ he hS λo ho a' w' hp=>⟨o,ho,rfl,hp⟩
 refine wpIn_mono (dO.V9 (r:=r) (n:=0) (D:=a.defers) (ds:=[]) (ts:=ts) (x:=x) c _ a.tmps w cL hx h1) ?_;rintro e a' w' ⟨hd,hk,o,ho,rfl,ρ',S,k1,k2,E⟩;exact hQ o ho a' w' ⟨ρ',S,k1,k2,E,by rw[hd];exact hJ _ _ _ _ _ _ _ hj hS.W S.W k1 k2 E,hk⟩
def JG(f g:Fr->St->XS)(fr:Fr)(st:St):XS:=match f fr st with
 |  some outs=>GZ (λ|(e,fr,st)=>match e with
    |.normal=>g fr st
    |e=>some [(e,fr,st)]) outs []
 |none=>none
def abi(id:Nat)(f:Fr->St->XS)(fr:Fr)(st:St):XS:=match f fr st with
 |  some outs=>GZ (λ|(e,fr,st)=>match e with
    | .exit i=>match Nat.beq i id with
      |true=>some [(.normal,fr,st)]
      |false=>some [(.exit i,fr,st)]
    |e=>some [(e,fr,st)]) outs []
 |none=>none
def XM(c:dA)(f g:Fr->St->XS)(fr:Fr)(st:St):XS:=Qn none fr c λ
 |  .bool b=>match b with
    |true=>f fr st
    |false=>g fr st
 |_=>none
def On(f:Fr->St->XS):Nat->Fr->St->XS
 |0,_,_=>none
 |n+1,fr,st=>JG f (λfr st=>On f n fr st) fr st
theorem cM.seq'(hw:D6 J){c:Code}{f g:Fr->St->XS}{K:Act->World->Prop}{Q:Exit->Act->World->Prop}(hc:cM P C r J ts x nt c f)
  {fr:Fr} {st:St} {outs:List XO} {ρ:Pos->Loc} {a:Act} {w:World} (h:JG f g fr st=some outs) (hS:kL nt ρ C fr st ⟨a.tmps,[]⟩ w) (hj:J ρ st w a.defers) (hx:∀t,ts t->a.tmps[t]? =x[t]?)
  (hK:∀bI aL iE a1 w1,g bI aL=some iE->(∀z∈iE,∃y∈outs,Cv y z)->iF C J ts x nt ρ st w bI aL a1 w1->K a1 w1)
  (hQ:∀o∈outs,o.1≠ .normal->∀a' w',iF C J ts x nt ρ st w o.2.1 o.2.2 a' w'->Q (k9 o.1) a' w'):c.wpIn (Fc r) 0 P (Exit.then K Q) a w:=by
 unfold JG at h;split at h<;>first|(cases h;done)|skip
 rename_i XN h0;obtain⟨_,fE⟩:=vC h;refine hc fr st XN ρ a w _ h0 hS hj hx λo ho a1 w1 hp=> ?_
 obtain⟨iE,h1,mY⟩:=fE o ho;obtain⟨e,bI,aL⟩:=o;dsimp only at h1 hp;cases e with
 |normal=>exact hK _ _ iE a1 w1 h1 mY hp
 |exit i=>
  simp only[H0]at h1;subst h1;obtain⟨y,hy,hcv⟩:=mY _ (Zc3.2 rfl);have:=hQ y hy (by rw[hcv.e];simp) a1 w1 (iF.Oj hw hcv hp);rw[hcv.e]at this;exact this
 |ret=>
  simp only[H0]at h1;subst h1;obtain⟨y,hy,hcv⟩:=mY _ (Zc3.2 rfl);have:=hQ y hy (by rw[hcv.e];simp) a1 w1 (iF.Oj hw hcv hp);rw[hcv.e]at this;exact this
theorem iF.go{ρ cY:Pos->Loc}{st aL:St}{a1:Act}{w w1:World}{bI:Fr}(hw:D6 J){d:Code}{g:Fr->St->XS}(hd:cM P C r J ts x nt d g){outs iE:List XO}{Q:Exit->Act->World->Prop}
  (h:g bI aL=some iE) (mY:∀z∈iE,∃y∈outs,Cv y z) (hp:iF C J ts x nt ρ st w bI aL a1 w1)
  (hQ:∀o∈outs,∀a' w',iF C J ts x nt ρ st w o.2.1 o.2.2 a' w'->Q (k9 o.1) a' w'):d.wpIn (Fc r) 0 P Q a1 w1:=by
 obtain⟨cY,S,k1,k2,E,hj,hx⟩:=hp;refine hd bI aL iE cY a1 w1 Q h S hj hx λo ho a' w' hp=> ?_
 obtain⟨y,hy,hcv⟩:=mY o ho;have:=hQ y hy a' w' (iF.Oj hw hcv (iF.trans k1 k2 E hp));rw[hcv.e]at this;exact this
theorem cM.seq(hw:D6 J){c d:Code}{f g:Fr->St->XS}(hc:cM P C r J ts x nt c f)(hd:cM P C r J ts x nt d g):cM P C r J ts x nt (.seq c d) (JG f g):=
 λfr st outs ρ a w Q h hS hj hx hQ=>wpIn_seq (hc.seq' hw h hS hj hx (λbI aL iE a1 w1 h1 mY hp=>hp.go (cY:=ρ) hw hd h1 mY hQ) λo ho _=>hQ o ho)
theorem cM.block(hw:D6 J){id:Nat}{c:Code}{f:Fr->St->XS}(hc:cM P C r J ts x nt c f):cM P C r J ts x nt (.block id c) (abi id f):=by
 intro fr st outs ρ a w Q h hS hj hx hQ;unfold abi at h;split at h<;>first|(cases h;done)|skip
 rename_i XN h0;obtain⟨_,fE⟩:=vC h;refine wpIn_block (hc fr st XN ρ a w _ h0 hS hj hx λo ho a1 w1 hp=> ?_);obtain⟨iE,h1,mY⟩:=fE o ho;obtain⟨e,bI,aL⟩:=o;dsimp only at h1 hp;have fin:∀e',iE=[(e',bI,aL)]->Q (k9 e') a1 w1:=λe' he=>by subst he;obtain⟨y,hy,hcv⟩:=mY _ (Zc3.2 rfl);have:=hQ y hy a1 w1 (iF.Oj hw hcv hp);rw[hcv.e]at this;exact this
 cases e with
 |normal=>simp only[H0]at h1;exact fin _ h1.symm
 |exit i=>
  dsimp only at h1;simp only[k9,Exit.inBlock];cases hb:Nat.beq i id with
  |true=>
   rw[hb]at h1;rw[Za6 (H2 hb)];exact fin .normal (Zh0 h1).symm
  |false=>
   rw[hb]at h1;rw[Za5 (Zb0 hb)];exact fin (.exit i) (Zh0 h1).symm
 |ret=>simp only[H0]at h1;exact fin _ h1.symm
theorem cM.cond{c:Operand}{o:dA}{d e:Code}{f g:Fr->St->XS}(ho:jx c=some o)(hd:cM P C r J ts x nt d f)(he:cM P C r J ts x nt e g):cM P C r J ts x nt (.cond c d e) (XM o f g):=by
 intro fr st outs ρ a w Q h hS hj hx hQ;unfold XM at h;rw[Jm]at h;unfold lU at h;split at h<;>first|(cases h;done)|skip
 rename_i v hv;dsimp only at h;split at h<;>first|(cases h;done)|skip
 rename_i b;have hb:=(n8 ho hS.F hv).fD;have hb:a.eval c= .bool b:=by rw[<-hb];exact EY
 cases b
 .exact wpIn_cond_false hb (he fr st outs ρ a w Q h hS hj hx hQ)
 .exact wpIn_cond_true hb (hd fr st outs ρ a w Q h hS hj hx hQ)
theorem cM.loop(hw:D6 J){c:Code}{f:Fr->St->XS}(hc:cM P C r J ts x nt c f)(n:Nat):cM P C r J ts x nt (.loop c) (On f n):=by
 intro fr st outs ρ a w Q h hS hj hx hQ;refine wpIn_loop_rounds n ?_
 suffices H:∀(n:Nat)(bI:Fr)(aL:St)(iE:List XO)(a1:Act)(w1:World),On f n bI aL=some iE->(∀z∈iE,∃y∈outs,Cv y z)->iF C J ts x nt ρ st w bI aL a1 w1->
    Code.roundsIn (Fc r) 0 P c Q n a1 w1 from
  H n fr st outs a w h (λz hz=>⟨z,hz,.refl z⟩) ⟨ρ,hS,λ_ _=>rfl,Za1 _,iL.refl _ _ _,hj,hx⟩
 intro n;induction n with
 |zero=>intro bI aL iE a1 w1 h;cases h
 |succ n ih=>
  intro bI aL iE a1 w1 h1 mY hp;obtain⟨cY,S,k1,k2,E,hj1,hx1⟩:=hp;rw[roundsIn_succ];refine hc.seq' hw (g:=λfr st=>On f n fr st) h1 S hj1 hx1 (λsx jk XP a2 w2 h2 aeE zd=> ?_) λo ho _ a' w' zd=> ?_
  .refine ih sx jk XP a2 w2 h2 (λz hz=> ?_) (iF.trans k1 k2 E zd);obtain⟨y,hy,hc1⟩:=aeE z hz;obtain⟨y',QH,hc2⟩:=mY y hy;exact⟨y',QH,⟨hc2.e.trans hc1.e,λp v h=>hc1.f p v (hc2.f p v h),λp v h=>hc1.h p v (hc2.h p v h),hc2.n.trans hc1.n⟩⟩
  .obtain⟨y,hy,hcv⟩:=mY o ho;have:=hQ y hy a' w' (iF.Oj hw hcv (iF.trans k1 k2 E zd));rw[hcv.e]at this;exact this
def noS:Fr->St->XS:=λ_ _=>none
theorem cM.no{c:Code}:cM P C r J ts x nt c noS:=λ_ _ _ _ _ _ _ h=>by cases h
def vD(base:Code->Option (Fr->St->XS))(n:Nat):Code->Fr->St->XS
 |  .seq a b=>match base (.seq a b)with
    |some f=>f
    |none=>JG (vD base n a) (vD base n b)
 |  .block id a=>match base (.block id a)with
    |some f=>f
    |none=>abi id (vD base n a)
 |  .loop a=>match base (.loop a)with
    |some f=>f
    |none=>On (vD base n a) n
 |  .cond c a b=>match base (.cond c a b)with
    |some f=>f
    |none=>match jx c with
     |some o=>XM o (vD base n a) (vD base n b)
     |none=>noS
 |  c=>match base c with
    |some f=>f
    |none=>noS
theorem cM.sp(hw:D6 J){base:Code->Option (Fr->St->XS)}{n:Nat}:∀c:Code,(∀t∈ob c,¬ts t)->(∀c f,(∀t∈ob c,¬ts t)->base c=some f->cM P C r J ts x nt c f)->cM P C r J ts x nt c (vD base n c):=by
 intro c cL hb;induction c with
 |seq a b SZ S0=>
  unfold vD;split
  .exact hb _ _ cL (by assumption)
  .exact .seq hw (SZ λt ht=>cL t (Zg2 _ ht)) (S0 λt ht=>cL t (Zh8 _ ht))
 |block id a ih=>
  unfold vD;split
  .exact hb _ _ cL (by assumption)
  .exact .block hw (ih cL)
 |loop a ih=>
  unfold vD;split
  .exact hb _ _ cL (by assumption)
  .exact .loop hw (ih cL) n
 |cond c a b SZ S0=>
  unfold vD;split
  .exact hb _ _ cL (by assumption)
  . split
    .exact .cond (by assumption) (SZ λt ht=>cL t (Zg2 _ ht)) (S0 λt ht=>cL t (Zh8 _ ht))
    .exact .no
 |_=>
  unfold vD;split
  .exact hb _ _ cL (by assumption)
  .exact .no
def y8(P:Program)(tt:TT)(aS:gI XR)(m:Nat)(kp:List Nat)(nt:Nat)(c:Code):Option (Fr->St->XS):=match Go.Ai.TM tt nt c with
 |  some (g,ty)=>match P.underlying ty with
    |some (.map _ _)=>some (rgS aS m { g with ds:=key g.t18::key g.t19::g.ds.filter λp=> !(kp.any λt=>Pos.beq (key t) p) })
    |_=>none
 |  none=>match MP c with
    |true=>none
    |false=>match qg tt nt c with
     |some ac=>some (abg (Zw aS m ac))
     |none=>none
theorem MQ{aS:gI XR}{call:ah}{m:Nat}{kp:List Nat}(hT:bG P tt)(hc:CK none aS call)(bB:eg P C call)(eS:o9 P tt C call)(hJ:Om C J){c:Code}{f:Fr->St->XS}
   (cL:∀t∈ob c,¬ts t) (h:y8 P tt aS m kp nt c=some f):cM P C r J ts x nt c f:=by
 unfold y8 at h;split at h
 .rename_i hg;(split at h<;>first|(cases h;done)|skip);rename_i hu;simp only[H0]at h;subst h;exact(AP.TM hT hc bB eS hg hu _).g hJ cL
 . (split at h<;>first|(cases h;done)|skip);(split at h<;>first|(cases h;done)|skip);rename_i Ta;simp only[H0]at h;subst h;exact(JC.ac hT hc bB eS Ta).one.g hJ cL
end
section
variable{P:Program}{tt:TT}{C:Cells}{ρ:Pos->Loc}{st:St}{w w':World}{nt:Nat}
theorem aP.BP{L:Nat}(hW:aP ρ C st w)(hr:∀a:Addr,a.block=L->w.cell? a=none)(hn:∀b x,st.heap.get b=some x->(ρ b).au≠L)
   (hs:w'.heap.size=w.heap.size) (hk:∀k,k≠L->w'.heap[k]? =w.heap[k]?):aP ρ C st w':=by
 have c9:∀a v,C a=some v->a.block≠L:=λa v ha e=>by have h:=(hW.cO a v ha).1;rw[hr a e]at h;cases h
 refine⟨λb x hb=> ?_,hW.inj,λa v ha=> ?_,λa v ha o ho=> ?_⟩
 .obtain⟨h1,h2,h3⟩:=hW.live b x hb;exact⟨h1,by rw[hs];exact h2,h3.of_heap (hk _ (hn b x hb))⟩
 .obtain⟨h1,h2⟩:=hW.cO a v ha;exact⟨by rw[World.cell?_of_block (w:=w) (hk _ (c9 a v ha))];exact h1,h2⟩
 .rw[World.cell?_of_block (w:=w) (a:=⟨a.block,o,none⟩) (hk _ (c9 a v ha))];exact hW.whole a v ha o ho
theorem aP.MR{L:Nat}{r:Loop}{o:Obj}(hW:aP ρ C st w)(hl:w.heap[L]? =some (.loop r))(hn:∀b x,st.heap.get b=some x->(ρ b).au≠L):aP ρ C st (w.putObj L o):=
 hW.BP (λa ha=>by subst ha;simp[World.cell?,hl]) hn World.putObj_size λk hk=>World.putObj_heap_other hk
theorem aP.abj{L:Nat}{r:Option (List Deferred)}{o:Obj}(hW:aP ρ C st w)(hl:w.heap[L]? =some (.deferred r))(hn:∀b x,st.heap.get b=some x->(ρ b).au≠L):aP ρ C st (w.putObj L o):=
 hW.BP (λa ha=>by subst ha;simp[World.cell?,hl]) hn World.putObj_size λk hk=>World.putObj_heap_other hk
theorem Bk{ρ':Pos->Loc}{st':St}{L:Nat}(E:iL ρ st w ρ' st' w')(hL:L<w.heap.size)(hn:∀b x,st.heap.get b=some x->(ρ b).au≠L):(∀b x,st'.heap.get b=some x->(ρ' b).au≠L)/\w'.heap[L]? =w.heap[L]? :=
 ⟨λb x hb=>by
  rcases E.lO b x hb with⟨b',x',iz,e⟩|h
  .rw[<-e];exact hn b' x' iz
  .omega,E.block L hL hn⟩
def LU:zn:=λ_ _ _ D=>D=[]
theorem LU.stays:Om C LU:=λ_ _ _ _ _ _ _ h _ _ _ _ _=>h
theorem LU.zP:D6 LU:=λ_ _ _ _ _ h _ _=>h
def Fg(C:Cells)(L D0:Nat)(r:Loop)(qK:Fr):zn:=λρ st w D=>D=[]/\w.heap[L]? =some (.loop r)/\w.heap[D0]? =some (.deferred (some []))/\
 (∀b x,st.heap.get b=some x->(ρ b).au≠L)/\(∀b x,st.heap.get b=some x->(ρ b).au≠D0)/\eB ρ st.next.toNat C qK r.tmps
theorem Dx{k:Nat}{o:Obj}(h:w.heap[k]? =some o):k<w.heap.size:=(Zb8.1 h).1
theorem Fg.stays{L D0:Nat}{r:Loop}{qK:Fr}:Om C (Fg C L D0 r qK):=λρ st w D ρ' st' w' h _ _ k1 k2 E=>by
 obtain⟨h1,h2,h3,h4,h5,h6⟩:=h;obtain⟨f1,f2⟩:=Bk E (Dx h2) h4;obtain⟨g1,g2⟩:=Bk E (Dx h3) h5;exact⟨h1,f2.trans h2,g2.trans h3,f1,g1,h6.mono k1 k2⟩
theorem Fg.zP{L D0:Nat}{r:Loop}{qK:Fr}:D6 (Fg C L D0 r qK):=λρ st st' w D h hh hn=>by
 obtain⟨h1,h2,h3,h4,h5,h6⟩:=h;exact⟨h1,h2,h3,λb x hb=>h4 b x (hh b x hb),λb x hb=>h5 b x (hh b x hb),by rw[hn];exact h6⟩
abbrev mark(r:Nat):Deferred:={ target:= .collected r,args:= #[] }
def JH(B:Nat):zn:=λρ st w D=>B<=w.heap.size/\∃rs:List Nat,D=rs.map mark/\rs.Nodup/\∀r∈rs,B<=r/\w.heap[r]? =some (.deferred (some []))/\∀b x,st.heap.get b=some x->(ρ b).au≠r
theorem JH.stays{B:Nat}:Om C (JH B):=λρ st w D ρ' st' w' h _ _ k1 k2 E=>by
 obtain⟨hB,rs,h1,h2,h3⟩:=h;refine⟨Zc4 hB E.size,rs,h1,h2,λr hr=> ?_⟩;obtain⟨g0,g1,g2⟩:=h3 r hr;obtain⟨f1,f2⟩:=Bk E (Dx g1) g2;exact⟨g0,f2.trans g1,f1⟩
theorem JH.zP{B:Nat}:D6 (JH B):=λρ st st' w D h hh hn=>by
 obtain⟨hB,rs,h1,h2,h3⟩:=h;exact⟨hB,rs,h1,h2,λr hr=>let⟨g0,g1,g2⟩:=h3 r hr;⟨g0,g1,λb x hb=>g2 b x (hh b x hb)⟩⟩
def TU:List XO->List St->Option (List St)
 |[],acc=>some acc
 |  (e,_,st)::l,acc=>match e with
    |.normal=>TU l (st::acc)
    |_=>none
def Oo{β:Type}:List Nat->List AV->Fr->(Fr->Option β)->Option β
 |[],[],fr,k=>k fr
 |p::ps,v::vs,fr,k=>lQ (some v) (key p) fr λfr=>Oo ps vs fr k
 |_,_,_,_=>none
def XQ(ps:List Nat)(f:Fr->St->XS)(qK:Fr)(vs:List AV)(st:St):Option (List St):=Oo ps vs qK λfr=>match f fr st with
 |some outs=>TU outs []
 |none=>none
theorem Q6:∀{l:List XO}{acc Fh:List St},TU l acc=some Fh->(∀s∈acc,s∈Fh)/\∀o∈l,o.1= .normal/\o.2.2∈Fh
 |[],acc,Fh,h=>by
  simp only[TU,H0]at h;subst h;exact⟨λ_ h=>h,λ_ h=>by cases h⟩
 |(e,fr,st)::l,acc,Fh,h=>by
  unfold TU at h;cases e with
  | normal=>
    obtain⟨h1,h2⟩:=Q6 (l:=l) h;refine⟨λs hs=>h1 s (Za3 _ hs),λo ho=> ?_⟩;rcases Za2.1 ho with rfl|ho
    .exact⟨rfl,h1 _ (Zc2 ..)⟩
    .exact h2 o ho
  |_=>cases h
theorem LV{β:Type}{k:Fr->Option β}{z:β}:∀{ps:List Nat}{vs:List AV}{xs:List Value}{fr:Fr}{T:Array Value},Oo ps vs fr k=some z->ak ρ st.next.toNat C vs xs->eB ρ st.next.toNat C fr T->T.size=nt->(∀p∈ps,p<nt)->
  ∃aQ,k aQ=some z/\eB ρ st.next.toNat C aQ ((ps.zip xs).foldl (λt (p,v)=>t.setIfInBounds p v) T)/\((ps.zip xs).foldl (λt (p,v)=>t.setIfInBounds p v) T).size=nt/\xs.length=ps.length
 |[],[],xs,fr,T,h,hv,hF,hs,_=>by
  have:=hv.k8;subst this;exact⟨fr,h,hF,hs,rfl⟩
 |p::ps,v::vs,xs,fr,T,h,hv,hF,hs,hp=>by
  obtain⟨x,tD,rfl,h1,h2⟩:=hv.cons_inv;unfold Oo at h;rw[gj]at h;have hF':=eB.put (nt:=nt) (a:=⟨T,[]⟩) (d:=some p) hF hs (λ_ h=>by cases h;exact hp p (Zc2 ..)) h1;obtain⟨aQ,g1,g2,g3,g4⟩:=LV (T:=T.setIfInBounds p x) h h2 hF' (by simpa using hs) λq hq=>hp q (Za3 _ hq)
  exact⟨aQ,g1,g2,g3,by simp[g4]⟩
 |[],_::_,_,_,_,h,_,_,_,_=>by cases h
 |_::_,[],_,_,_,h,_,_,_,_=>by cases h
def XT(P:Program)(C:Cells)(L D0:Nat)(r:Loop)(qK:Fr)(Q7:List AV->St->Option (List St)):Prop:=
 ∀  (vs:List AV)(st:St)(Fh:List St)(ρ:Pos->Loc)(w:World)(args:Array Value),Q7 vs st=some Fh->aP ρ C st w->ak ρ st.next.toNat C vs args.toList->Fg C L D0 r qK ρ st w []->
    args.size=r.params.size/\RoundIn (Fc none) 0 P L r.fn ((r.params.zip args).foldl (λt (p,v)=>t.setIfInBounds p v) r.tmps) r.assign r.body w λe w'=>
     ∃s∈Fh,e= .returned (.bool true)/\∃ρ',aP ρ' C s w'/\(∀b:Pos,b.toNat<st.next.toNat->ρ' b=ρ b)/\st.next.toNat<=s.next.toNat/\iL ρ st w ρ' s w'
theorem adK{L D0:Nat}{r:Loop}{qK:Fr}{ps:List Nat}{f g:Fr->St->XS}(hp:r.params.toList=ps)(hr:r.state= .ready)(NL:r.pending=none)(hs:r.tmps.size=nt)(aY:∀p∈ps,p<nt)
   (hA:cM P C (some L) LU (λ_=>False) #[] nt r.assign f) (hB:cM P C (some L) LU (λ_=>False) #[] nt r.body g):XT P C L D0 r qK (XQ ps (JG f g) qK):=by
 intro vs st Fh ρ w args h hW hv hj;obtain⟨_,hl,_,BP,_,hF⟩:=hj;unfold XQ at h;obtain⟨fr,h,hF1,JI,hlen⟩:=LV h hv hF hs aY;have aeF:(ps.zip args.toList).foldl (λt (p,v)=>t.setIfInBounds p v) r.tmps=(r.params.zip args).foldl (λt (p,v)=>t.setIfInBounds p v) r.tmps:=by
   rw[<-hp, <-Array.foldl_toList,Array.toList_zip]
 rw[aeF]at hF1 JI;refine⟨by rw[<-Ze7, <-Ze7,hp,hlen],roundIn_of_wpIn (F:=Fc none) trivial ?_⟩;split at h<;>first|(cases h;done)|skip
 rename_i outs hx;have fE:=(Q6 h).2;show r.assign.wpIn (Fc (some L)) 0 P _ _ w;refine hA.seq' LU.zP hx ⟨hW,hF1,JI,rfl⟩ rfl (λ_ h=>h.elim) (λbI aL iE a1 w1 h1 mY dm=> ?_) λo ho c9=>(c9 (fE o ho).1).elim
 obtain⟨cY,S1,k1,k2,E1,hD1,_⟩:=dm;obtain⟨far1,tH⟩:=Bk E1 (Dx hl) BP;rw[hl]at tH;refine⟨_,run_beginRound tH hr,?_⟩;have XU:=Dx tH;refine hB bI aL iE cY a1 _ _ h1 ⟨S1.W.MR tH far1,S1.F,S1.size,rfl⟩ hD1 (λ_ h=>h.elim) λo ho a3 w3 hp3=> ?_
 obtain⟨y,hy,hcv⟩:=mY o ho;obtain⟨Ae,Bt⟩:=fE y hy;rw[<-hcv.e,Ae];obtain⟨zm,S3,j1,j2,E3,_,_⟩:=hp3;have jE:=World.putObj_heap_same (o:= .loop { r with state:= .busy }) XU;obtain⟨far3,hl3⟩:=Bk E3 (by rw[World.putObj_size];exact XU) far1;rw[jE]at hl3;refine⟨_,_,run_endRound (P:=P) none hl3,y.2.2,Bt,rfl,zm,?_,λb hb=>(j1 b (Zb7 hb k2)).trans (k1 b hb),by rw[hcv.n];exact Zc4 k2 j2,?_⟩
 .exact(S3.W.MR hl3 far3).zP hcv.h hcv.n
 . have hrec:({ ({ r with state:= .busy }:Loop)with state:=if(none:Option Code).isNone then .ready else .done,pending:=none }:Loop)=r:=(by cases r;simp only at hr NL;subst hr;subst NL;rfl);rw[hrec];refine E1.trans ⟨E3.os,E3.tape,E3.output,by rw[World.putObj_size];have:=E3.size;rw[World.putObj_size]at this;exact this,λk hk hn=> ?_,λb x hb=> ?_⟩
   . by_cases e:k=L
     .  subst e;rw[World.putObj_heap_same (Dx hl3),tH]
     .  rw[World.putObj_heap_other e,E3.block k (by rw[World.putObj_size];exact hk) hn,World.putObj_heap_other e]
   .have:=E3.lO b x (hcv.h b x hb);rw[World.putObj_size]at this;exact this
end
structure YR where
 d:Nat
 dy:Nat
 xs:List dA
 l1:List aX
 l2:List aX
def Sl (d:Nat):List Oper->Nat->Option Nat
 |[],_=>none
 |  o ::l,i=>match o.op with
    | .call c=>match c.callee with
      | .value (.tmp e)=>match Nat.beq d e with
        |true=>some i
        |false=>Sl d l (i+1)
      |_=>Sl d l (i+1)
    |_=>Sl d l (i+1)
def ZA(d:Nat)(o:Oper):Bool:=match o.dst with
 |some e=> !Nat.beq d e
 |none=>true
def abk (tt : TT)(nt:Nat):Code->Option YR
 |  .region _ ops false=>match ops[0]? with
    |some o0  =>match o0.op,o0.dst,o0.guard with
     |  .move (.tmp 0),some d,none=>match Sl d ops.toList 0 with
        |some j=>match ops[j]? with
         |  some oj=>match oj.op,oj.dst,oj.guard with
            | .call c,some dy,none=>match c.callee,gZ c.args.toList,lC tt nt ops ops.toList []with
              | .value (.tmp d'),some xs,some l=>match Nat.beq d' d&&Nat.blt d nt&&Nat.blt dy nt&&Nat.blt 0 j&&Nat.blt j ops.size&&((ops.toList.drop 1).take (j - 1)).all (ZA d)with
                |true=>some ⟨d,dy,xs,(l.drop 1).take (j - 1),l.drop (j+1)⟩
                |false=>none
              |_,_,_=>none
            |_,_,_=>none
         |none=>none
        |none=>none
     |_,_,_=>none
    |none=>none
 |_=>none
def MS:Code->Bool
 |.region _ ops _=>ops.toList.any λo=>match o.op with|.move (.tmp 0)=>true|_=>false
 |.seq a b=>MS a||MS b
 |.cond _ a b=>MS a||MS b
 |.block _ a=>MS a
 |.loop a=>MS a
 |_=>false
section
variable(aS:gI XR)
def abl(Q7:List AV->St->Option (List St))(y:YR)(fr:Fr)(st:St):XS:=lQ none (key y.d) fr λfr=>match TQ aS y.l1 fr st with
 |  some (_,bI,aL)=>Ms none bI y.xs λvs=>match Q7 vs aL with
    |some Fh=>lQ (some (.bool true)) (key y.dy) bI λsx=>GZ (λs=>match TQ aS y.l2 sx s with
     |some o=>some [o]
     |none=>none) Fh []
    |none=>none
 |none=>none
end
section
variable{P:Program}{tt:TT}{C:Cells}{aS:gI XR}{call:ah}{nt m:Nat}
theorem eB.drop{ρ:Pos->Loc}{n d:Nat}{fr:Fr}{X:Array Value}(h:eB ρ n C fr X)(v:Value):eB ρ n C (fr.put none (key d)) (X.setIfInBounds d v):=λp u hp=>by
 by_cases e:key d=p
 .subst e;rw[T.dP]at hp;cases hp
 .rw[T.bn _ e]at hp;obtain⟨y,hy,hr⟩:=h p u hp;refine⟨y,?_,hr⟩;rw[Zd1,hy];intro h';apply e;apply Pos.toNat_inj;rw[dU];have:=p.toNat_pos;omega
theorem LW{r:Option Nat}{ops:Array Oper}{Q:Exit->Act->World->Prop}{i:Nat}{rest:List Nat}{o:Oper}{a:Act}{w:World}(ho:ops[i]? =some o)(hg:o.guard=none)
  (h:o.uponIn (Fc r) 0 P a (wpOpsIn (Fc r) 0 P ops Q rest) Q ((o.semAt r a.eval).run P w)):wpOpsIn (Fc r) 0 P ops Q (i::rest) a w:=by
 rw[wpOpsIn_cons];unfold wpOpIn;rw[ho];simp only[Region.wanted,hg,Ze8];exact⟨λ_ _=>trivial,h⟩
theorem Vx(j k:Nat):List.range (j+1+1+k)=0::(List.range' 1 j++(j+1)::List.range' (j+2) k):=by rw[Zk2,show j+1+1+k=(j+1)+(k+1)by omega, <-List.range'_append_1,Zm1,Zm1 (s:=0+(j+1))];simp
theorem cM.yld(hT:bG P tt)(hc:CK none aS call)(bB:eg P C call){L D0:Nat}{r:Loop}{qK:Fr}{x:Array Value}(ZB:x[0]? =some (.func (.yield L) #[] #[]))
   {Q7:List AV->St->Option (List St)} (abm:XT P C L D0 r qK Q7) {c:Code} {y:YR} (hy:abk tt nt c=some y) (cL:∀t∈ob c,t≠0):
   cM P C none (Fg C L D0 r qK) (λt=>t=0) x nt c (abl aS Q7 y):=by
 unfold abk at hy;split at hy<;>first|(cases hy;done)|skip
 rename_i id ops;split at hy<;>first|(cases hy;done)|skip
 rename_i o0 h0;split at hy<;>first|(cases hy;done)|skip
 rename_i d hop0 hd0 Oc;split at hy<;>first|(cases hy;done)|skip
 rename_i j hj;split at hy<;>first|(cases hy;done)|skip
 rename_i oj hoj;split at hy<;>first|(cases hy;done)|skip
 rename_i cl dy hopj hdj hgj;split at hy<;>first|(cases hy;done)|skip
 rename_i d' xs l MA fM hl;split at hy<;>first|(cases hy;done)|skip
 rename_i hb;simp only[H0]at hy;subst hy;simp only[Za4,Nat.beq_eq,Nat.blt_eq]at hb;obtain⟨⟨⟨⟨⟨rfl,hd⟩,hdy⟩,hj0⟩,hjs⟩,HV⟩:=hb;intro fr st outs ρ a w Q h hS hJ hx hQ;unfold abl at h;rw[gj]at h;dsimp only at h;split at h<;>first|(cases h;done)|skip
 rename_i e1 bI aL Ae;obtain⟨rfl,hz1⟩:=Pu hc Ae;rw[KQ]at h;unfold lU at h;split at h<;>first|(cases h;done)|skip
 rename_i vs gu;dsimp only at h;split at h<;>first|(cases h;done)|skip
 rename_i Fh hr;rw[gj]at h;obtain⟨_,fE⟩:=vC h;have hlen:l.length=ops.size:=by rw[(lS hl).1,Ze7]
 have tH:((l.drop 1).take (j - 1)).length=j - 1:=by rw[Zh9,List.length_drop,hlen];omega
 have jE:(l.drop (j+1)).length=ops.size - (j+1):=by rw[List.length_drop,hlen]
 apply wpIn_region;have adL:List.range ops.size=0::(List.range' 1 ((l.drop 1).take (j - 1)).length++(j::List.range' (j+1) (l.drop (j+1)).length)):=by rw[tH,jE];have:=Vx (j - 1) (ops.size - (j+1));rw[show j - 1+1+1+(ops.size - (j+1))=ops.size by omega,show j - 1+1=j by omega,show j - 1+2=j+1 by omega]at this;exact this
 rw[adL];refine LW h0 Oc ?_;have hev0:a.eval (.tmp 0)= .func (.yield L) #[] #[]:=by
   have:=hx 0 rfl;rw[ZB]at this;show a.tmps.getD 0 undef=_;simp[Zh4,this]
 have hsem:(o0.semAt none a.eval).run P w= .ok (.value (.func (.yield L) #[] #[])) w:=by
   show(execOp a.eval o0).run P w=_;unfold execOp;rw[hop0];simp only[Sem.run_pure,hev0]
 rw[hsem];show wpOpsIn (Fc none) 0 P ops Q _ (a.put o0.dst _) w;rw[hd0];show wpOpsIn (Fc none) 0 P ops Q _ ⟨a.tmps.setIfInBounds d' (.func (.yield L) #[] #[]),a.defers⟩ w;have aeG:d'≠0:=cL d' (by
   show d'∈ops.toList.filterMap (·.dst);rw[Zk7];exact⟨o0,by rw[Zk1];exact Zj8 h0,hd0⟩)
 have XV:∀(i:Nat)(o:Oper),ops[i]? =some o->∀t,o.dst=some t->t≠0:=λi o ho t ht=>cL t (by
   show t∈ops.toList.filterMap (·.dst);rw[Zk7];exact⟨o,by rw[Zk1];exact Zj8 ho,ht⟩)
 have hsz0:a.tmps.size=nt:=hS.size
 refine Gs (ds:=[]) (ts:=λt=>t=0\/t=d') (x:=(a.tmps.setIfInBounds d' (.func (.yield L) #[] #[]))) (K:=λa' w'=>eG nt ρ C st w bI aL a' w') (λT' w1 hk hp=> ?_) _ _ w (λi hi o ho t ht=> ?_) (λ_ _=>rfl)
   (oc (nt:=nt) hT bB _ 1 _ bI st aL ρ _ w (λi ao hi=> ?_) hz1 ⟨hS.W,hS.F.drop _,by simpa using hsz0,rfl⟩ λa' w' hp=>hp)
 . obtain⟨cY,S1,k1,k2,E1⟩:=hp;have hJ1:=Fg.stays _ _ _ _ _ _ _ hJ hS.W S1.W k1 k2 E1;have hD:a.defers=[]:=hJ.1;have YT:=hJ1.2.1;have Lo:=di fM S1.F gu;obtain⟨ei,adM⟩:=abm vs aL Fh cY w1 (cl.args.map (⟨T',a.defers⟩:Act).eval) hr S1.W (by
     (rw[Zn6];have:(⟨T',a.defers⟩:Act).eval=(⟨T',[]⟩:Act).eval:=funext λ_=>EY);rw[this];exact Lo) (by rw[<-hD];exact hJ1)
   refine LW hoj hgj ?_;have hevd:(⟨T',a.defers⟩:Act).eval (.tmp d')= .func (.yield L) #[] #[]:=by
     have:=hk d' (.inr rfl);rw[Zj7]at this;simp[hsz0,hd]at this;show T'.getD d' undef=_;simp[Zh4,this]
   have aeH:(oj.semAt none (⟨T',a.defers⟩:Act).eval).run P w1= .ok (.round L r.fn ((r.params.zip (cl.args.map (⟨T',a.defers⟩:Act).eval)).foldl (λt (p,v)=>t.setIfInBounds p v) r.tmps) r.assign r.body) w1:=(by show(execOp (⟨T',a.defers⟩:Act).eval oj).run P w1=_;unfold execOp;rw[hopj];simp only[resolve,MA,hevd,Deferred.ofValue,invoke,Sem.run_bind,Sem.run_pure,Result.andThen];have:=run_yield (P:=P) (args:= #[]++cl.args.map (⟨T',a.defers⟩:Act).eval) YT (by simpa using ei);simpa using this);rw[aeH];refine⟨λhd=>by simp[Fence.wide]at hd,adM.mono ?_⟩;rintro e w2 ⟨s,hs,rfl,j8,EV,k3,k4,E2⟩;show wpOpsIn (Fc none) 0 P ops Q _ ((⟨T',a.defers⟩:Act).put oj.dst _) w2;rw[hdj];show wpOpsIn (Fc none) 0 P ops Q _ ⟨T'.setIfInBounds dy (.bool true),a.defers⟩ w2;obtain⟨iE,h1,mY⟩:=fE s hs;(split at h1<;>first|(cases h1;done)|skip);rename_i o ho;simp only[H0]at h1;subst h1;obtain⟨e3,Ol,s3⟩:=o;obtain⟨rfl,hz3⟩:=Pu hc ho;obtain⟨y,hyo,hcv⟩:=mY _ (Zc3.2 rfl);have hF2:=eB.put (nt:=nt) (a:=⟨T',[]⟩) (d:=some dy) (S1.F.mono k3 k4) S1.size (λ_ h=>by cases h;exact hdy) (aj.bool (C:=C) true);have hdy0:dy≠0:=XV j oj hoj dy hdj;rw[<-Zf7 (List.range' _ _)]
   refine Gs (ds:=[]) (ts:=λt=>t=0) (x:=T'.setIfInBounds dy (.bool true)) (K:=λa' w'=>eG nt j8 C s w2 Ol s3 a' w') (λT2 w3 mU zd=> ?_) _ _ w2 (λi hi o ho t ht=>XV i o ho t ht) (λ_ _=>rfl)
     (oc (nt:=nt) hT bB _ (j+1) _ Ol s s3 j8 _ w2 (λi ao hi=> ?_) hz3 ⟨EV,hF2,by simpa using S1.size,rfl⟩ λa' w' hp=>hp)
   . obtain⟨zm,S3,k5,k6,E3⟩:=zd;have K1:∀b:Pos,b.toNat<st.next.toNat->zm b=ρ b:=λb hb=>(k5 b (by omega)).trans ((k3 b (by omega)).trans (k1 b hb))
     have K2:st.next.toNat<=s3.next.toNat:=(by omega);have E:=(E1.trans E2).trans E3;show Q .normal _ _;have:=hQ y hyo ⟨T2,a.defers⟩ w3 (iF.Oj Fg.zP hcv ⟨zm,S3,K1,K2,E,Fg.stays _ _ _ _ _ _ _ hJ hS.W S3.W K1 K2 E,λt ht=>by
        subst ht;rw[<-hx 0 rfl,mU 0 rfl,Zd1 hdy0,hk 0 (.inl rfl),Zd1 aeG]⟩)
     rw[hcv.e]at this;exact this
   .rw[Zc9]at hi;obtain⟨o,q1,q2,_⟩:=yE hl _ ao hi;exact⟨o,q1,q2⟩
 . rintro(rfl|rfl)
   .exact XV i o ho _ ht rfl
   . (rw[List.mem_range'_1,tH]at hi;have hm:o∈(ops.toList.drop 1).take (j - 1):=by rw[Zf2];refine⟨i - 1,?_⟩;rw[Za9,Za6 (by omega),Zc9,show 1+(i - 1)=i by omega,Zf1];exact ho);have:=Zd6.1 HV o hm;simp only[ZA,ht,Zg9]at this;exact Zb0 this rfl
 .rw[Za9]at hi;(split at hi<;>first|(cases hi;done)|skip);rw[Zc9]at hi;obtain⟨o,q1,q2,_⟩:=yE hl _ ao hi;exact⟨o,q1,q2⟩
end
def rfS (gf ntg:Nat)(WC:Fr->Fr->St->XS)(og:dA)(fr:Fr)(st:St):XS:=Qn none fr og λ
 |  .func f [] Pv=>match Nat.beq f gf&&Nat.ble (Pv.length+1) ntg with
    |true=>yB Pv 1 .e λfri=>match WC fr fri st with
     |  some outs=>GZ (λ|(e,_,s)=>match e with
        |.exit _=>none
        |_=>some [(.normal,fr,s)]) outs []
     |none=>none
    |false=>none
 |_=>none
section
variable{P:Program}{tt:TT}{C:Cells}{aS:gI XR}{call:ah}{nt m:Nat}{ts:Nat->Prop}{x:Array Value}
def ItOk(P:Program)(C:Cells)(nt:Nat)(ps:Array Nat)(assign body:Code)(ntg:Nat)(gc:Code)(WC:Fr->Fr->St->XS):Prop:=
 ∀  (L D0:Nat)(r:Loop)(qK:Fr)(x:Array Value),r.state= .ready->r.pending=none->r.params=ps->r.assign=assign->r.body=body->r.tmps.size=nt->x[0]? =some (.func (.yield L) #[] #[])->
    cM P C none (Fg C L D0 r qK) (λt=>t=0) x ntg gc (WC qK)
theorem cM.rf{B gf:Nat}{jW:Func}{gc:Code}(hf:P.funcs[gf]? =some jW)(gH:(jW.name== "runtime.NumGoroutine")=false)(hb:jW.body=some gc)(aa8:jW.results= #[]){g:Operand}{ps:Array Nat}{assign body:Code}{og:dA}
   (hg:jx g=some og) {WC:Fr->Fr->St->XS} (hI:ItOk P C nt ps assign body jW.ntmps gc WC):cM P C none (JH B) ts x nt (.rangeFunc g ps assign body) (rfS gf jW.ntmps WC og):=by
 intro fr st outs ρ a w Q h hS hJ hx hQ;unfold rfS at h;rw[Jm]at h;unfold lU at h;split at h<;>first|(cases h;done)|skip
 rename_i v hv;dsimp only at h;split at h<;>first|(cases h;done)|skip
 rename_i f Pv;split at h<;>first|(cases h;done)|skip
 rename_i HY;simp only[Za4,Nat.beq_eq]at HY;obtain⟨rfl,hle⟩:=HY;have hle:=H4 hle;rw[AN]at h;split at h<;>first|(cases h;done)|skip
 rename_i iE ho;obtain⟨_,fE⟩:=vC h;obtain⟨x',y',hval,nT,QH⟩:=(n8 hg hS.F hv).yA;have ZB:x'= #[]:=by have:=nT.k8;exact Array.toList_eq_nil_iff.1 this
 subst ZB;have hval:a.eval g= .func (.func f) #[] y':=by rw[<-hval];exact EY
 refine wpIn_rangeFunc λfn _=> ?_
 let L:Nat:=w.heap.size+1
 let r:Loop:={ state:= .ready,pending:=none,fn,tmps:=a.tmps,params:=ps,assign,body,defers:=w.heap.size }
 let W1:World:=(w.alloc (.deferred (some []))).alloc (.loop r)
 have hL1:W1.heap[L]? =some (.loop r):=by have:=World.alloc_heap_new (w.alloc (.deferred (some []))) (.loop r);rwa [World.size_alloc]at this
 have hold:∀k,k<w.heap.size->W1.heap[k]? =w.heap[k]? :=λk hk=>(heap_alloc_old _ _ (by simp;omega)).trans (heap_alloc_old w _ hk)
 have hK1:W1.heap[w.heap.size]? =some (.deferred (some [])):=(heap_alloc_old _ _ (by simp)).trans (World.alloc_heap_new w _);have hWs:W1.heap.size=w.heap.size+1+1:=by show((w.alloc _).alloc _).heap.size=_;simp
 have BE:¬jW.name= "runtime.NumGoroutine" :=by simpa using gH
 refine⟨L,[mark w.heap.size],W1,{ target:= .fn (.func f) y',args:= #[.func (.yield L) #[] #[]] },W1,f, #[.func (.yield L) #[] #[]]++y',W1,run_enterLoop_outer _ _ _ _ _,?_,λ_ _=>trivial,?_,λhd=>by simp[Fence.wide]at hd,?_⟩
 .simp only[resolve,rangeCall,hval,Deferred.ofValue,Sem.run_pure];simp[Act.eval]
 .simp[invoke,callFunc,hf,BE,hb]
 refine callsIn_of_wp hf hb trivial ?_;have S8:aP ρ C st W1:=hS.W.grow (by omega) hold;have hlen:(#[Value.func (.yield L) #[] #[]]++y').size=Pv.length+1:=by have:=QH.1;simp at this ⊢; omega
 obtain⟨X,hX⟩:∃X,X=(#[Value.func (.yield L) #[] #[]]++y')++Array.replicate (jW.ntmps - (#[Value.func (.yield L) #[] #[]]++y').size) undef:=⟨_,rfl⟩
 rw[<-hX];have Zz:X[0]? =some (.func (.yield L) #[] #[]):=by rw[hX,Zg3 (by simp;omega),Zg3 (by simp)];rfl
 have hXs:X.size=jW.ntmps:=by rw[hX,Array.size_append,Array.size_replicate,hlen];omega
 have hfar:∀k,w.heap.size<=k->∀b z,st.heap.get b=some z->(ρ b).au≠k:=λk hk b z hb e=>by have:=(hS.W.live b z hb).2.1;omega
 have hJ0:Fg C L w.heap.size r fr ρ st W1 []:=⟨rfl,hL1,hK1,hfar L (by show w.heap.size<=w.heap.size+1;omega),hfar _ (Za1 _),hS.F⟩
 have hF0:eB ρ st.next.toNat C (params 1 Pv .e) X:=wH Pv y'.toList 1 .e QH (λk z hz=>by
   rw[hX,Zg3,Array.getElem?_append_right]<;>simp at hz ⊢
   .exact hz
   .have:=(Zb8.1 hz).1;omega) (λp v hp=>by rw[T.cT]at hp;cases hp)
 refine hI L w.heap.size r fr X rfl rfl rfl rfl rfl hS.size Zz _ st iE ρ ⟨X,[]⟩ W1 _ ho ⟨S8,hF0,hXs,rfl⟩ hJ0 (λt _=>rfl) λo TV a3 w3 hp=> ?_
 obtain⟨zm,S3,k1,k2,E3,hJ3,_⟩:=hp;obtain⟨h3D,h3l,h3d,h3f,h3g,h3F⟩:=hJ3;obtain⟨XP,h2,mY⟩:=fE o TV;obtain⟨e,Ol,JF⟩:=o;dsimp only at h2 S3 k1 k2 E3 h3f h3g h3F;have acp:(results jW a3.tmps).run P w3= .ok (.tuple #[]) w3:=by
   simp[results,aa8]
 have hend:=run_endLoop (P:=P) h3l (by show LoopState.ready≠LoopState.busy;simp);have fin:XP=[(.normal,fr,JF)]->rangePost (Fc none) 0 P L Q { a with defers:=[mark w.heap.size]++a.defers } (.returned (.tuple #[])) w3:=λhe=>by
   (subst he;obtain⟨y,hy,hcv⟩:=mY _ (Zc3.2 rfl);refine⟨_,_,hend,?_⟩;show Q .normal _ _;have hLne:∀k,k≠L->(w3.putObj L (.loop { r with state:= .exhausted })).heap[k]? =w3.heap[k]? :=λk hk=>World.putObj_heap_other hk);have E:iL ρ st w zm JF (w3.putObj L (.loop { r with state:= .exhausted })):=by
     refine⟨E3.os,E3.tape,E3.output,?_,λk hk hn=> ?_,λb z hb=> ?_⟩
     .  rw[World.putObj_size];have:=E3.size;omega
     .  rw[hLne k (by show k≠w.heap.size+1;omega),E3.block k (by omega) hn,hold k hk]
     .  rcases E3.lO b z hb with h|h
        .exact .inl h
        .exact .inr (by omega)
   have hW3:=S3.W.MR (o:= .loop { r with state:= .exhausted }) h3l h3f;have:=hQ y hy { a with defers:=[mark w.heap.size]++a.defers } _ (iF.Oj JH.zP hcv ⟨zm,⟨hW3,h3F,hS.size,rfl⟩,k1,k2,E,?_,hx⟩)
   .rw[hcv.e]at this;exact this
   . obtain⟨hB,rs,h1,h2,h3⟩:=hJ;refine⟨Zc4 hB E.size,w.heap.size::rs,by show [mark w.heap.size]++a.defers=_;rw[h1];rfl,Zo4.2 ⟨λhm=> ?_,h2⟩,λk hk=> ?_⟩
     .  have:=Dx (h3 _ hm).2.1;omega
     .  rcases Za2.1 hk with rfl|hk
        .exact⟨hB,(hLne _ (by show w.heap.size≠w.heap.size+1;omega)).trans h3d,h3g⟩
        .obtain⟨g0,g1,g2⟩:=h3 k hk;obtain⟨f1,f2⟩:=Bk E (Dx g1) g2;exact⟨g0,f2.trans g1,f1⟩
 cases e with
 |exit i=>cases h2
 |normal=>exact⟨h3D,_,acp,fin (Zh0 h2).symm⟩
 |ret=>exact⟨h3D,_,acp,fin (Zh0 h2).symm⟩
end
def ux:AV->Bool
 |.bool _=>true
 |.int _ _=>true
 |_=>false
def Sm(acc:Option AV)(v:AV):Bool:=match acc with
 |none=>true
 |some u=>fB u v
def K5 (rs:List za)(st:St):List XO->Option AV->Option AV
 |[],acc=>acc
 |  (e, bI,aL)::l,acc=>match e with
    |.exit _=>none
    | _ =>match cm (λb=>j9 b aL.heap) bI rs with
      | some vs=>match vs.all ux&&T.sub Du st.heap aL.heap&&Sm acc (fC vs)with
        |true=>K5 rs st l (some (fC vs))
        |false=>none
      |none=>none
def ZC (ex:Fr->St->XS)(np:Nat)(rs:List za)(args:List AV)(st:St):Option (AV×St):=match Nat.beq args.length np with
 |  true=>yB args 0 .e λfr=>match ex fr st with
    |some outs=>match outs with
     |  [(e,bI,aL)]=>match e with
        |.exit _=>none
        | _=>match cm (λb=>j9 b aL.heap) bI rs,Nat.ble st.next.toNat aL.next.toNat with
          |some vs,true=>some (fC vs,aL)
          |_,_=>none
     |  _=>match K5 rs st outs none with
        |some v=>some (v,st)
        |none=>none
    |none=>none
 |false=>none
theorem aj.flat{ρ ρ':Pos->Loc}{n n':Nat}{C:Cells}{v:AV}{x:Value}(hf:ux v=true)(h:aj ρ n C v x):aj ρ' n' C v x:=by
 cases v<;>first|(cases hf;done)|skip
 .have:=h.fD;subst this;exact .bool _
 .have:=h.gh;subst this;exact .int _ _
theorem aj.aeI{ρ ρ':Pos->Loc}{n n':Nat}{C:Cells}{vs:List AV}{x:Value}(hf:vs.all ux=true)(h:aj ρ n C (fC vs) x):aj ρ' n' C (fC vs) x:=by
 have tup:∀{x},aj ρ n C (.tuple vs) x->aj ρ' n' C (.tuple vs) x:=λ{x} h=>by
   cases h with
   |tuple l cs hl hh=>exact .tuple _ cs hl λi v v' hv xZ=>(hh i v v' hv xZ).flat (Zd6.1 hf v (Zc1 hv))
 unfold fC at h ⊢;split at h
 .exact h.flat (Zd6.1 hf _ (by simp))
 .exact tup h
theorem Oq{rs:List za}{st:St}{v:AV}:∀{l:List XO}{acc:Option AV},K5 rs st l acc=some v->(∀u,acc=some u->u=v)/\∀o∈l,(∀i,o.1≠ .exit i)/\∃vs,cm (λb=>j9 b o.2.2.heap) o.2.1 rs=some vs/\v=fC vs/\vs.all ux=true/\∀p u,st.heap.get p=some u->o.2.2.heap.get p=some u
 |[],acc,h=>by
  simp only[K5]at h;subst h;exact⟨λu h=>(Zh0 h).symm,λo ho=>by cases ho⟩
 |(e,   bI,aL)::l,acc,h=>by
  unfold K5 at h
  have key:∀vs,(cm (λb=>j9 b aL.heap) bI rs=some vs)->(vs.all ux&&T.sub Du st.heap aL.heap&&Sm acc (fC vs))=true->K5 rs st l (some (fC vs))=some v->(∀i,e≠ .exit i)->
        (∀u,acc=some u->u=v)/\∀o∈(e,bI,aL)::l,(∀i,o.1≠ .exit i)/\∃vs,cm (λb=>j9 b o.2.2.heap) o.2.1 rs=some vs/\v=fC vs/\vs.all ux=true/\∀p u,st.heap.get p=some u->o.2.2.heap.get p=some u:=by
    intro vs gu hb hr he;simp only[Za4]at hb;obtain⟨h1,h2⟩:=Oq hr;have hv:=h1 _ rfl;refine⟨λu hu=> ?_,λo ho=> ?_⟩
    .   subst hu;rw[<-hv];exact oe hb.2
    .   rcases Za2.1 ho with rfl|ho
        .exact⟨he,vs,gu,hv.symm,hb.1.1,T.yJ (λ_ _=>MF) hb.1.2⟩
        .exact h2 o ho
  cases e with
  |exit i=>cases h
  | normal=>
    dsimp only at h;(split at h<;>first|(cases h;done)|skip);rename_i vs gu;cases hb:(vs.all ux&&T.sub Du st.heap aL.heap&&Sm acc (fC vs))with
    |false=>rw[hb]at h;cases h
    |true=>rw[hb]at h;exact key vs gu hb h (λi=>by simp)
  | ret=>
    dsimp only at h;(split at h<;>first|(cases h;done)|skip);rename_i vs gu;cases hb:(vs.all ux&&T.sub Du st.heap aL.heap&&Sm acc (fC vs))with
    |false=>rw[hb]at h;cases h
    |true=>rw[hb]at h;exact key vs gu hb h (λi=>by simp)
theorem TW{ex:Fr->St->XS}{np:Nat}{rs:List za}{args:List AV}{st st':St}{v:AV}(h:ZC ex np rs args st=some (v,st')):args.length=np/\st.next.toNat<=st'.next.toNat/\∃outs,ex (params 0 args .e) st=some outs/\
   ∀o∈outs,(∀i,o.1≠ .exit i)/\∃vs,cm (λb=>j9 b o.2.2.heap) o.2.1 rs=some vs/\v=fC vs/\(st'=o.2.2\/(st'=st/\vs.all ux=true/\∀p u,st.heap.get p=some u->o.2.2.heap.get p=some u)):=by
 unfold ZC at h;split at h<;>first|(cases h;done)|skip
 rename_i hlen;rw[AN]at h;split at h<;>first|(cases h;done)|skip
 rename_i outs ho;refine⟨H2 hlen,?_⟩;split at h
 . rename_i e bI aL
   have key:∀vs,cm (λb=>j9 b aL.heap) bI rs=some vs->Nat.ble st.next.toNat aL.next.toNat=true->some (fC vs,aL)=some (v,st')->(∀i,e≠ .exit i)->
        st.next.toNat<=st'.next.toNat/\∃outs,ex (params 0 args .e) st=some outs/\∀o∈outs,(∀i,o.1≠ .exit i)/\∃vs,cm (λb=>j9 b o.2.2.heap) o.2.1 rs=some vs/\v=fC vs/\(st'=o.2.2\/(st'=st/\vs.all ux=true/\∀p u,st.heap.get p=some u->o.2.2.heap.get p=some u)):=by
    intro vs gu hn he c9;simp only[H0,Za8]at he;obtain⟨rfl,rfl⟩:=he;refine⟨H4 hn,_,ho,λo TV=> ?_⟩;have:=Zc3.1 TV;subst this;exact⟨c9,vs,gu,rfl,.inl rfl⟩
   cases e with
   |exit i=>cases h
   |normal=>
    dsimp only at h;(split at h<;>first|(cases h;done)|skip);rename_i vs gu hn;exact key vs gu hn h (λi=>by simp)
   |ret=>
    dsimp only at h;(split at h<;>first|(cases h;done)|skip);rename_i vs gu hn;exact key vs gu hn h (λi=>by simp)
 . (split at h<;>first|(cases h;done)|skip);rename_i u hu;simp only[H0,Za8]at h;obtain⟨rfl,rfl⟩:=h;refine⟨Za1 _,_,ho,λo TV=> ?_⟩;obtain⟨h1,vs,h2,h3,h4,h5⟩:=(Oq hu).2 o TV;exact⟨h1,vs,h2,h3,.inr ⟨rfl,h4,h5⟩⟩
section
variable{P:Program}{tt:TT}{C:Cells}
theorem JJ{fn:Func}{tmps:Array Value}{R:Ending->World->Prop}{ρ:Pos->Loc}{st:St}:∀(rs:List Nat)(w:World),rs.Nodup->(∀r∈rs,w.heap[r]? =some (.deferred (some []))/\∀b x,st.heap.get b=some x->(ρ b).au≠r)->aP ρ C st w->
  (∀w2,aP ρ C st w2->w2.heap.size=w.heap.size->(∀k,k∉rs->w2.heap[k]? =w.heap[k]?)->w2.os=w.os->w2.tape=w.tape->w2.output=w.output->∃v,(results fn tmps).run P w2= .ok v w2/\R (.returned v) w2)->
  LeavesInM (Fc none) 0 P fn tmps R (rs.map mark) .returning w
 |[],w,_,_,hW,h=>h w hW rfl (λ_ _=>rfl) rfl rfl rfl
 |r ::rs,w,HV,hr,hW,h=>by
  obtain⟨h1,h2⟩:=Zo4.1 HV;obtain⟨g1,g2⟩:=hr r (Zc2 ..);refine⟨by simp,.inl ⟨r,_,rfl,run_takeDeferred g1,?_⟩⟩;refine JJ rs _ h2 (λk hk=> ?_) (hW.abj g1 g2) λw2 EV hs hk ho ht Pe=> ?_
  .obtain⟨f1,f2⟩:=hr k (Za3 _ hk);exact⟨by rw[World.putObj_heap_other (λe=>h1 (by subst e;exact hk))];exact f1,f2⟩
  .refine h w2 EV (by rw[hs,World.putObj_size]) (λk jy=> ?_) ho ht Pe;rw[hk k (λhm=>jy (Za3 _ hm)),World.putObj_heap_other (λe=>jy (by subst e;exact Zc2 ..))]
theorem adN(hT:bG P tt){f np:Nat}{fn:Func}{c:Code}{ex:Fr->St->XS}{rs:List za}(hf:P.funcs[f]? =some fn)(gH:(fn.name== "runtime.NumGoroutine")=false)(hb:fn.body=some c)
  (hx:∀B,cM P C none (JH B) (λ_=>False) #[] fn.ntmps c ex) (hr:j6 tt fn.results.toList=some rs) (hle:np<=fn.ntmps):kK P C f (ZC ex np rs) where
 mono args st v st' h:=(TW h).2.1
 runs ρ st w args v st' bu h hW nZ:=by
  obtain⟨hlen,hn,outs,ho,fE⟩:=TW h;have bQ:(callFunc f bu.toArray).run P w= .ok (.enter f bu.toArray) w:=by
   have BE:¬fn.name= "runtime.NumGoroutine" :=(by simpa using gH);simp[callFunc,hf,BE,hb]
  rw[bQ];simp only[Reaches];refine callsIn_wide (n:=0) |>.1 (callsIn_of_wp_marks hf hb trivial ?_);have ei:bu.length<=fn.ntmps:=by rw[<-nZ.1,hlen];exact hle
  have hS:kL fn.ntmps ρ C (params 0 args .e) st { tmps:=bu.toArray++Array.replicate (fn.ntmps - bu.toArray.size) undef,defers:=[] } w:=by
   refine⟨hW,?_,?_,rfl⟩
   .    refine wH args bu 0 .e nZ (λj x hx=> ?_) (λp v hp=>by rw[T.cT]at hp;cases hp);have hj:j<bu.length:=(H3.1 hx).1;rw[Zb9,Zg3 (by simpa using hj)];simpa using hx
   .    simp;omega
  show c.wpIn (Fc none) 0 P _ _ w;refine hx w.heap.size _ st outs ρ _ w _ ho hS ⟨Za1 _,[],rfl,List.nodup_nil,λ_ h=>by cases h⟩ (λ_ h=>h.elim) λo TV a' w' hp=> ?_
  obtain⟨cY,S1,k1,k2,E,⟨hB,ks,hD,HV,Ag⟩,_⟩:=hp;obtain⟨c9,vs,gu,hv,nU⟩:=fE o TV;simp only[rY]at gu;have key:LeavesInM (Fc none) 0 P fn a'.tmps (λ|.returned v',w''=>ki ρ C st w v st' v' w''|_,_=>False) a'.defers .returning w':=by
   (rw[hD];(refine JJ ks w' HV (λr hr=>(Ag r hr).2) S1.W λw2 EV hs Af Bx ht Pe=> ?_);obtain⟨y,Ae,Bt⟩:=pg hT EV S1.F hr gu;refine⟨y,Ae,?_⟩;have sY:∀k,k<w.heap.size->w2.heap[k]? =w'.heap[k]? :=λk aY=>Af k λhm=>by have:=(Ag k hm).1;omega);rcases nU with rfl|⟨rfl,SU,Xs⟩
   .    rw[hv];exact⟨cY,Bt,k1,k2,EV,⟨Bx.trans E.os,ht.trans E.tape,Pe.trans E.output,by rw[hs];exact E.size,λk hk hn=>(sY k hk).trans (E.block k hk hn),E.lO⟩⟩
   .    rw[hv];refine⟨ρ,Bt.aeI SU,λ_ _=>rfl,Za1 _,hW.back Xs k1 EV (by rw[hs];exact E.size),⟨Bx.trans E.os,ht.trans E.tape,Pe.trans E.output,by rw[hs];exact E.size,λk hk hn=>(sY k hk).trans (E.block k hk hn),λb x hb=>.inl ⟨b,x,hb,rfl⟩⟩⟩
  obtain⟨e,bI,aL⟩:=o;cases e with
  |exit i=>exact(c9 i rfl).elim
  |normal=>exact key
  |ret=>exact key
def acq(P:Program)(tt:TT)(aS:gI XR)(m:Nat)(nt:Nat)(Q7:List AV->St->Option (List St))(c:Code):Option (Fr->St->XS):=match abk tt nt c with
 |some y=>some (abl aS Q7 y)
 |  none=>match MS c with
    |true=>none
    |false=>y8 P tt aS m [] nt c
def Sn(P:Program)(tt:TT)(aS:gI XR)(m:Nat)(kp:List Nat)(nt gf:Nat)(jW:Func):Code->Option (Fr->St->XS)
 |  .rangeFunc g ps a b=>match jx g,jW.body with
    |some og,some gc=>match (ob gc).all (λt=> !Nat.beq t 0)&&ps.toList.all (λp=>Nat.blt p nt)&&jW.results.isEmpty with
     |true=>some (rfS gf jW.ntmps (λqK=>vD (acq P tt aS m jW.ntmps (XQ ps.toList (JG (vD (y8 P tt aS m kp nt) m a) (vD (y8 P tt aS m kp nt) m b)) qK)) m gc) og)
     |false=>none
    |_,_=>none
 |c=>y8 P tt aS m kp nt c
def W8(P:Program)(tt:TT)(O:dG)(G:T cq)(m d:Nat)(kp:List Nat)(gf:Nat)(jW fn:Func):List AV->St->Option (AV×St):=
 match fn.body,j6 tt fn.results.toList,Nat.ble (fn.params.size+fn.nfree) fn.ntmps with
 |some c,some rs,true=>ZC (vD (Sn P tt (C9 none O G m d) m kp fn.ntmps gf jW) m c) (fn.params.size+fn.nfree) rs
 |_,_,_=>λ_ _=>none
theorem abn{aS:gI XR}{call:ah}{m nt gf B:Nat}{kp:List Nat}{jW:Func}(hT:bG P tt)(hc:CK none aS call)(bB:eg P C call)(eS:o9 P tt C call)(hf:P.funcs[gf]? =some jW)(gH:(jW.name== "runtime.NumGoroutine")=false)
   {c:Code} {f:Fr->St->XS} (h:Sn P tt aS m kp nt gf jW c=some f):cM P C none (JH B) (λ_=>False) #[] nt c f:=by
 have hR:∀{c f},y8 P tt aS m kp nt c=some f->cM P C none (JH B) (λ_=>False) #[] nt c f:=λh=>MQ hT hc bB eS JH.stays (λ_ _ h=>h) h
 unfold Sn at h;split at h
 . rename_i g ps a b;(split at h<;>first|(cases h;done)|skip);rename_i og gc hg hgb;(split at h<;>first|(cases h;done)|skip);rename_i HY;simp only[H0]at h;subst h;simp only[Za4]at HY;obtain⟨⟨c1,c2⟩,c3⟩:=HY;have hd0:∀t∈ob gc,¬(λt=>t=0) t:=λt ht e=>by have:=Zd6.1 c1 t ht;subst e;simp at this
   (refine cM.rf hf gH hgb (by simpa using c3) hg λL D0 r qK x hr hp V0 ha hb hs ZB=> ?_);have rd:∀c,cM P C (some L) LU (λ_=>False) #[] nt c (vD (y8 P tt aS m kp nt) m c):=λc=>cM.sp LU.zP c (λ_ _ h=>h) λc f _ h=>MQ hT hc bB eS LU.stays (λ_ _ h=>h) h
   have abm:XT P C L D0 r qK (XQ ps.toList (JG (vD (y8 P tt aS m kp nt) m a) (vD (y8 P tt aS m kp nt) m b)) qK):=adK (by rw[V0]) hr hp hs (λp hp'=>by
     have:=Zd6.1 c2 p hp';simpa using this) (by rw[ha];exact rd a) (by rw[hb];exact rd b)
   (refine cM.sp Fg.zP gc hd0 λc f cL h=> ?_);unfold acq at h;split at h
   .rename_i y hy;simp only[H0]at h;subst h;exact cM.yld hT hc bB ZB abm hy cL
   . (split at h<;>first|(cases h;done)|skip);exact MQ hT hc bB eS Fg.stays cL h
 .exact hR h
theorem aaq(hm:P.follows .mixedOrders=true)(hT:bG P tt){O:dG}{G:T cq}(hO:nY P C O)(Jl:jr O)(hG:Nk P tt G){f gf m d:Nat}{kp:List Nat}{fn jW:Func}(hf:P.funcs[f]? =some fn)
   (gH:(fn.name== "runtime.NumGoroutine")=false) (hgf:P.funcs[gf]? =some jW) (Sv:(jW.name== "runtime.NumGoroutine")=false):kK P C f (W8 P tt O G m d kp gf jW fn):=by
 have bB:=FZ (C:=C) hm hT hO Jl hG m d;have hcm:=Gu (G:=G) Jl m d
 have key:∀c rs,fn.body=some c->j6 tt fn.results.toList=some rs->Nat.ble (fn.params.size+fn.nfree) fn.ntmps=true->
    kK P C f (ZC (vD (Sn P tt (C9 none O G m d) m kp fn.ntmps gf jW) m c) (fn.params.size+fn.nfree) rs):=λc rs hb hr hle=>
   adN hT hf gH hb (λB=>cM.sp JH.zP c (λ_ _ h=>h) λc f _ h=>abn hT (GJ none O G m d) bB (GD hm hT bB hcm) hgf Sv h) hr (H4 hle)
 unfold W8;split
 .exact key _ _ (by assumption) (by assumption) (by assumption)
 .exact⟨λ_ _ _ _ h=>(by cases h),λ_ _ _ _ _ _ _ h=>(by cases h)⟩
end
end
section
open Go
def Nl:List AV->St->Option (AV×St)
 |[v],st=>some (v,st)
 |_,_=>none
theorem Yk{P:Program}{C:Cells}{f:FuncId}{fn:Func}(hf:P.funcs[f]? =some fn)(gH:(fn.name== "runtime.NumGoroutine")=false)(hb:fn.body.isNone=true)(hx:Extern.findNext fn=none)
  (he:Extern.find fn=some Extern.AbiNoEscape.same):kK P C f Nl where
 mono args st v st' h:=by unfold Nl at h;split at h<;>cases h;exact Za1 _
 runs ρ st w args v st' bu h hW hv:=by
  unfold Nl at h;split at h<;>cases h;obtain⟨x,xs,rfl,h1,h2⟩:=hv.cons_inv;have:=h2.k8;subst this;have bQ:(callFunc f [x].toArray).run P w= .ok (.value x) w:=by rw[run_callFunc_extern hf gH hb hx he];show((Extern.AbiNoEscape.same #[x]).run P w).andThen _=_;have:Extern.AbiNoEscape.same #[x]=pure x:=rfl;rw[this];rfl
  rw[bQ];exact⟨ρ,h1,λ_ _=>rfl,Za1 _,hW,iL.refl _ _ _⟩
theorem Sy{P:Program}{tt:TT}{O:dG}{G:T cq}{m d f:Nat}{fn:Func}{c:Code}(hm:P.follows .mixedOrders=true)(hT:bG P tt)(hG:Nk P tt G)
  (hO:nY P (λ_=>none) O) (Jl:jr O) (hf:P.funcs[f]? =some fn) (gH:¬fn.name= "runtime.NumGoroutine") (hb:fn.body=some c) {b:Bool}
  (h:C9 (R:=Bool) false O G m d f [] { heap:= .e,next:= .h } (λv _=>fB v (.bool b))=true) (w:World):
  Calls P f #[] w λe w'=>e= .returned (.bool b)/\Go.RowKit.Below w.heap.size w w':=by
 rw[GJ false O G m d]at h;unfold lU at h;split at h<;>first|(cases h;done)|skip
 rename_i x hx;obtain⟨v,aL⟩:=x;have hv:=oe h;simp only at hv;subst hv;have hr:=FZ hm hT hO Jl hG m d (λ_=>⟨0,0,0⟩) { heap:= .e,next:= .h } w f [] (.bool b) aL [] hx (zg (λ_ _ h=>by cases h) (λ_ _ h=>by cases h)) ak.nil;have bQ:(callFunc f ([]:List Value).toArray).run P w= .ok (.enter f #[]) w:=by simp[callFunc,hf,gH,hb]
 rw[bQ]at hr;refine Calls.mono hr λe w' he=> ?_
 cases e with
 |returned x=>
  obtain⟨ρ',h1,_,_,_,hE⟩:=he;have:=h1.fD;subst this;exact⟨rfl,hE.os,hE.tape,hE.output,hE.size,λk hk=>hE.block k hk λb x hb=>by rw[T.cT]at hb;cases hb⟩
 |panicked c=>exact he.elim
 |outgrown=>exact he.elim
def EG:Nat->AV->Bool
 |_,.bool _=>true
 |_,.int _ _=>true
 |_,.str _=>true
 |_,.ax=>true
 |n+1,.agg l=>l.all (EG n)
 |n+1,.tuple l=>l.all (EG n)
 |n+1,.fl xs _=>xs.all λr=>r.all (EG n)
 |_,_=>false
theorem Dy:∀(n:Nat){v:AV},EG n v=true->Plain v
 |0,v,h=>by cases v<;>first|(cases h;done)|exact .bool _|exact .int _ _|exact .str _|exact .ax
 |n+1,v,h=>by
  cases v<;>first|(cases h;done)|exact .bool _|exact .int _ _|exact .str _|exact .ax|skip
  .exact .fl λcs hc v hv=>Dy n (Zd6.1 (Zd6.1 h cs hc) v hv)
  .exact .agg λv hv=>Dy n (Zd6.1 h v hv)
  .exact .tuple λv hv=>Dy n (Zd6.1 h v hv)
theorem Plain.all{n:Nat}{l:List AV}(h:l.all (EG n)=true):∀v∈l,Plain v:=λv hv=>Dy n (Zd6.1 h v hv)
theorem Yo{l:List AV}(h:l.all ux=true):bK (.tuple l):= .tuple λv hv=>by have:=Zd6.1 h v hv;cases v<;>first|(cases this;done)|exact .bool _|exact .int _ _
def Mn(d:Nat)(A:List AV)(r:AV):List AV->St->Option (AV×St):=λargs st=>match zh (args.map (cv st d)) A with
 |true=>some (r,st)
 |false=>none
theorem Yn{P:Program}{C:Cells}{O:dG}{G:T cq}{m n f d:Nat}{A:List AV}{r:AV}(bB:∀C:Cells,eg P C (n6 O G m n))(ha:∀a∈A,Plain a)(hr:Plain r)(hb:bK r)
  (h:C9 (R:=Bool) false O G m n f A { heap:= .e,next:= .h } (λv _=>fB v r)=true):kK P C f (Mn d A r):=by
 have h1:=Zu (C:=C) (d:=d) (As:=[A]) bB (λB hB=>by rw[Zc3.1 hB];exact ha) hr hb (by simpa using h);have key:∀args st x,Mn d A r args st=some x->Pn d [A] r args st=some x:=λargs st x hx=>by
  unfold Mn at hx;split at hx<;>first|(cases hx;done)|skip
  rename_i hq;simp only[H0]at hx;subst hx;exact acS A (Zc3.2 rfl) (Dt hq)
 exact⟨λargs st v st' hs=>h1.mono args st v st' (key _ _ _ hs),λρ st w args v st' bu hs=>h1.runs ρ st w args v st' bu (key _ _ _ hs)⟩
end
end Go.Ai
