/- Loops over maps in all orders, loops over functions. -/
import Derived.Test.YtgjikjcfjddloaaGreatDoorXEvalE
import Derived.Maps.RangeRun
import Derived.Laws.EntriesVeiled
import Derived.RangeFuncRecord
set_option linter.all false
namespace Go.Ai
noncomputable section
open Go Go.RowKit
section
variable{ρ ρ':Pos->Loc}{C:Cells}{st aW:St}{w w1 w':World}{nt r:Nat}{fr cD:Fr}{a a1:Act}
theorem bn.back(hW:bn ρ C st w)(hk:aM st aW)(aY:∀b:Pos,b.toNat<st.next.toNat->ρ' b=ρ b)(fA:bn ρ' C aW w1)(hs:w.heap.size<=w1.heap.size):bn ρ C st w1:=by
 refine⟨λb y hb=> ?_,hW.inj,λa u ha=>⟨(fA.ek a u ha).1,(hW.ek a u ha).2⟩,fA.whole⟩;obtain⟨g1,g2,g3⟩:=hW.live b y hb;obtain⟨_,_,k3⟩:=fA.live b y (hk b y hb);refine⟨g1,Zc8 g2 hs,?_⟩;rw[aY b g1]at k3;cases y with
 |cells cs fz=>
  obtain⟨c,e,fr,q1,q2,q3,q4,q5⟩:=k3;obtain⟨c0,e0,cE,p1,p2,p3,p4,p5⟩:=g3;refine⟨c,e,fr,q1,q2,q3,⟨q4.1,λi v x hv hx=> ?_⟩,q5⟩;obtain⟨y0,hy0,JM⟩:=p4.get hv;exact(q4.2 i v x hv hx).down JM aY
 |map es clock=>
  obtain⟨es',q1,q2,q3⟩:=k3;obtain⟨es0,p1,p2,p3⟩:=g3;refine⟨es',q1,q2,λi e e' he kX=> ?_⟩;obtain⟨a1,a2,a3⟩:=q3 i e e' he kX;have hi:i<es0.size:=by rw[<-p2];exact(H5.1 he).1
  obtain⟨b1,b2,_⟩:=p3 i e _ he (Zf5 hi);exact⟨a1.down b1 aY,a2.down b2 aY,a3⟩
 |jS s pos=>exact k3
 |typed t cs=>
  obtain⟨c,fr,q1,q2,q3,q4,q5⟩:=k3;obtain⟨c0,cE,p1,p2,p3,p4,p5⟩:=g3;refine⟨c,fr,q1,q2,q3,⟨q4.1,λi v x hv hx=> ?_⟩,q5⟩;obtain⟨y0,hy0,JM⟩:=p4.get hv;exact(q4.2 i v x hv hx).down JM aY
theorem fS.sub{n:Nat}{tmps:Array Value}(h:fS ρ n C cD tmps)(hf:∀p v,fr.get p=some v->cD.get p=some v):fS ρ n C fr tmps:=λp v hp=>h p v (hf p v hp)
theorem nH.back(hS:nH nt ρ C fr st a w)(hf:∀p v,fr.get p=some v->cD.get p=some v)(hk:aM st aW)(h:gh nt ρ C st w cD aW a1 w1):
  nH nt ρ C fr st a1 w1/\jW ρ st w ρ st w1:=by
 obtain⟨eI,S1,k1,k2,E⟩:=h;refine⟨⟨hS.W.back hk k1 S1.W E.size,λp v hp=> ?_,S1.size,S1.defers⟩,⟨E.os,E.tape,E.output,E.size,E.block,λb x hb=>.inl ⟨b,x,hb,rfl⟩⟩⟩;obtain⟨x,hx,hv⟩:=S1.F p v (hf p v hp);obtain⟨y,_,hy⟩:=hS.F p v hp;exact⟨x,hx,hv.down hy k1⟩
theorem bn.iter{m:Option Nat}{s c:Nat}{seen:Array Nat}(hW:bn ρ C st w)(hr:w.heap[r]? =some (.mapIter m s seen c))(hn:∀b x,st.heap.get b=some x->(ρ b).aA≠r)
   (hs:w'.heap.size=w.heap.size) (hk:∀k,k≠r->w'.heap[k]? =w.heap[k]?):bn ρ C st w':=by
 have cU:∀a v,C a=some v->a.block≠r:=λa v ha e=>by have h:=(hW.ek a v ha).1;unfold World.cell? at h;rw[e,hr]at h;cases h
 refine⟨λb x hb=> ?_,hW.inj,λa v ha=> ?_,λa v ha o ho=> ?_⟩
 .obtain⟨h1,h2,h3⟩:=hW.live b x hb;exact⟨h1,by rw[hs];exact h2,h3.of_heap (hk _ (hn b x hb))⟩
 .obtain⟨h1,h2⟩:=hW.ek a v ha;exact⟨by rw[World.cell?_of_block (w:=w) (hk _ (cU a v ha))];exact h1,h2⟩
 .rw[World.cell?_of_block (w:=w) (a:=⟨a.block,o,none⟩) (hk _ (cU a v ha))];exact hW.whole a v ha o ho
end
def T.sub{α:Type}(f:α->α->Bool):T α->T α->Bool
 |.e,_=>true
 |.n l v r,.e=>(match v with|none=>true|some _=>false)&&T.sub f l .e&&T.sub f r .e
 |  .n l v r,.n l' v' r'=>(match v with
    |none=>true
    |some a=>match v' with
     |some b=>f a b
     |none=>false)&&T.sub f l l'&&T.sub f r r'
theorem T.CE{α:Type}{f:α->α->Bool}(hf:∀a b,f a b=true->a=b):∀{t u:T α},T.sub f t u=true->∀p v,t.get p=some v->u.get p=some v
 |.e,_,_,p,v,h=>by rw[T.ej]at h;cases h
 | .n l x r,.e,hs,p,v,h=>by
   simp only[T.sub,Za9]at hs;cases p with
   |h=>simp only[T.get]at h;subst h;simp at hs
   |o p=>have:=T.CE hf hs.1.2 p v h;rw[T.ej]at this;cases this
   |i p=>have:=T.CE hf hs.2 p v h;rw[T.ej]at this;cases this
 | .n l x r,.n l' x' r',hs,p,v,h=>by
   simp only[T.sub,Za9]at hs;cases p with
   |h=>
    simp only[T.get]at h ⊢; subst h;have h1:=hs.1.1;cases x' with
    |none=>simp at h1
    |some y=>simp at h1;rw[hf _ _ h1]
   |o p=>exact T.CE hf hs.1.2 p v h
   |i p=>exact T.CE hf hs.2 p v h
structure RG where
 t17:Nat
 t18:Nat
 t19:Nat
 t20:Nat
 l2:List bD
 x:eZ
 l4:List bD
 body:AC
 ds:List Pos
abbrev XR:=Option (jV×Fr×St)
section
variable(bu:jt XR)(m:Nat)(g:RG)
def exK(c:AC)(fr:Fr)(st:St):XR:=Tn none bu m c fr st (λfr st=>some (.normal,fr,st)) (λi fr st=>some (.exit i,fr,st)) (λfr st=>some (.ret,fr,st))
def agG(k v:AV)(fr:Fr)(st:St):XR:=
 oV (some (.tuple [.bool true,k,v])) (key g.t18) fr λfr=>oV (some (.bool true)) (key g.t19) fr λfr=>oV (some (.tuple [k,v])) (key g.t20) fr λfr=>
    Va none bu g.l4 fr st λfr st=>exK bu m g.body fr st
def VA(clock:Nat):List (AV×AV×Nat)->Bool
 |[]=>true
 |e::es=>Nat.blt e.2.2 clock&&es.all (λx=> !Nat.beq x.2.2 e.2.2)&&VA clock es
end
section
variable{P:Program}{tt:TT}{C:Cells}
def OP(P:Program)(C:Cells)(nt:Nat)(c:Code)(ex:Fr->St->XR):Prop:=
 ∀  (fr br:Fr)(st st':St)(e:jV)(ρ:Pos->Loc)(a:Act)(w:World)(Q:Exit->Act->World->Prop),ex fr st=some (e,br,st')->nH nt ρ C fr st a w->
    (∀a' w',gh nt ρ C st w br st' a' w'->Q (n9 e) a' w')->fB P c Q a w
theorem aeQ{bu:jt XR}{call:ah}(hc:CK none bu call)(m:Nat)(c:AC)(fr:Fr)(st:St):exK bu m c fr st=exec call m c fr st:=by
 unfold exK;rw[Sr none hc];cases exec call m c fr st with
 |none=>rfl
 |some x=>obtain⟨e,fr,st⟩:=x;cases e<;>rfl
theorem OP.ac(hT:cB P tt){bu:jt XR}{call:ah}(hc:CK none bu call)(cg:fG P C call)(gy:tj P tt C call){nt m:Nat}{c:Code}{a:AC}(h:uz tt nt c=some a):
 OP P C nt c (exK bu m a):=λfr br st st' e ρ ac w Q hx hS hQ=>(rL hT cg gy m).1 c a fr br st st' e ρ ac w Q h (by rw[<-aeQ hc];exact hx) hS hQ
def ZS:List Pos->Fr->Fr
 |[],fr=>fr
 |p::ps,fr=>ZS ps (fr.put none p)
theorem VB:∀(ps:List Pos)(fr:Fr)(p:Pos)(v:AV),(ZS ps fr).get p=some v->fr.get p=some v
 |[],_,_,_,h=>h
 |q::ps,fr,p,v,h=>by
  have h:=VB ps _ p v h;by_cases hq:q=p
  .subst hq;rw[T.eB]at h;cases h
  .rwa [T.bH _ hq]at h
theorem ab6{clock:Nat}:∀{es:List (AV×AV×Nat)},VA clock es=true->(∀e∈es,e.2.2<clock)/\(es.map (·.2.2)).Nodup
 |[],_=>⟨λ_ h=>by simp at h,by simp⟩
 |e ::es,h=>by
  simp only[VA,Za9]at h;obtain⟨⟨h1,h2⟩,h3⟩:=h;obtain⟨i1,i2⟩:=ab6 h3;refine⟨λx hx=> ?_,?_⟩
  . rcases Za7.1 hx with rfl|hx
    .exact Za1 h1
    .exact i1 x hx
  .rw[Zb4,Zq6];refine⟨λhm=> ?_,i2⟩;obtain⟨x,hx,he⟩:=Zf2.1 hm;have:=Ze5.1 h2 x hx;simp[he]at this
def Mv(bu:jt XR)(m:Nat)(g:RG)(A B:Fr×St)(e:AV×AV×Nat):Prop:=
 ∃f1 s1,agG bu m g e.1 e.2.1 A.1 A.2=some (.normal,f1,s1)/\(∀p v,B.1.get p=some v->f1.get p=some v)/\((B=A/\aM A.2 s1)\/B.2=s1)
section
variable{bu:jt XR}{call:ah}{nt m:Nat}{g:RG}{nI:Array Oper}{o0 o1 o4:Oper}{i3 i4 b0 b1:Nat}{rest:Code}{J0:List bD}{bs:List Nat}
def ada(g:RG)(o0 o1:Oper)(nI:Array Oper)(rest:Code)(i3 i4 b0 b1:Nat):Code:=
 .seq (.region i3 #[o0,o1] false) (.seq (.cond (.tmp g.t19) .skip (.exit b0)) (.block b1 (.seq (.region i4 nI false) rest)))
structure agH(tt:TT)(nt:Nat)(g:RG)(o0 o1 o4:Oper)(nI:Array Oper)(rest:Code)(J0:List bD)(bs:List Nat):Prop where
 n0:o0.op= .next (.tmp g.t17) false/\o0.guard=none/\o0.dst=some g.t18
 n1:o1.op= .extract (.tmp g.t18) 0/\o1.guard=none/\o1.dst=some g.t19
 n4:nI[0]? =some o4/\o4.op= .entry (.tmp g.t17)/\o4.guard=none/\o4.dst=some g.t20
 lt:g.t17<nt/\g.t18<nt/\g.t19<nt/\g.t20<nt
 ne:g.t17≠g.t18/\g.t17≠g.t19/\g.t18≠g.t19
 c4:oI tt nt nI nI.toList bs=some J0
 l4:J0.tail=g.l4
 r4:uz tt nt rest=some g.body
structure LI(C:Cells)(nt:Nat)(g:RG)(X:Fr×St)(b Eo:Pos)(es:List (AV×AV×Nat))(since r:Nat)(kJ:Pos->Loc)(OQ:St)(w0:World)(seen:Array Nat)(ρ:Pos->Loc)(a:Act)(w:World):Prop where
 S:nH nt ρ C X.1 X.2 a w
 k1:∀p:Pos,p.toNat<OQ.next.toNat->ρ p=kJ p
 k2:OQ.next.toNat<=X.2.next.toNat
 E:jW kJ OQ w0 ρ X.2 w
 ip:(ρ Eo).aA=r/\(ρ Eo).base=0/\Eo.toNat<X.2.next.toNat
 at17:X.1.get (key g.t17)=some (.ptr Eo 0)
 mp:X.2.heap.get b=some (.map es since)
 it:∃c,w.heap[r]? =some (.mapIter (some (ρ b).aA) since seen c)/\since<=c
 Em:∀p x,X.2.heap.get p=some x->(ρ p).aA≠r
 late:w0.heap.size<=r
 cl:X.1.get (key g.t18)=none/\X.1.get (key g.t19)=none
theorem zK{ops:Array Oper}{K:Act->World->Prop}{i:Nat}{rest:List Nat}{o:Oper}{a:Act}{w w':World}{v:Value}(ho:ops[i]? =some o)(hg:o.guard=none)
  (hr:(execOp a.eval o).run P w= .ok (.value v) w') (hQ:rI P ops K rest (a.put o.dst v) w'):rI P ops K (i::rest) a w:=by
 unfold rI FH;rw[ho];simp only[Region.wanted,hg,Zf9];unfold Vh;rw[hr];exact hQ
theorem eval_put{a:Act}{t:Nat}{v:Value}(h:t<a.tmps.size):(a.put (some t) v).eval (.tmp t)=v:=by
 simp[Act.put,Act.eval,h]
theorem RK{a:Act}{t s:Nat}{v:Value}(h:t≠s):(a.put (some t) v).eval (.tmp s)=a.eval (.tmp s):=by
 simp[Act.put,Act.eval,Ze2 h]
theorem LI.round(hT:cB P tt)(hc:CK none bu call)(cg:fG P C call)(gy:tj P tt C call)(hR:agH tt nt g o0 o1 o4 nI rest J0 bs)
   {A:Fr×St} {b Eo:Pos} {es:List (AV×AV×Nat)} {since r:Nat} {kJ:Pos->Loc} {OQ:St} {w0:World} {seen:Array Nat} {ρ:Pos->Loc} {a:Act} {w:World}
   (L:LI C nt g A b Eo es since r kJ OQ w0 seen ρ a w) (eF:VA since es=true) {Q:Exit->Act->World->Prop}
   (adb:(∀e∈es,seen.contains e.2.2=true)->∀a',nH nt ρ C A.1 A.2 a' w->Q (.exit b0) a' w)
   (akz:∀e∈es,seen.contains e.2.2=false->∃B,Mv bu m g A B e/\B.1.get (key g.t17)=some (.ptr Eo 0)/\B.2.heap.get b=some (.map es since)/\B.1.get (key g.t18)=none/\B.1.get (key g.t19)=none/\
     ∀ρ' a' w',LI C nt g B b Eo es since r kJ OQ w0 (seen.push e.2.2) ρ' a' w'->Q .normal a' w'):
   fB P (ada g o0 o1 nI rest i3 i4 b0 b1) Q a w:=by
 obtain⟨c,hr,hsc⟩:=L.it;obtain⟨g1,g2,es',q1,q2,q3⟩:=L.S.W.live b _ L.mp;obtain⟨bw,M7⟩:=ab6 eF;have RL:∀(i:Nat)(e':MapEntry),es'[i]? =some e'->∃e,es[i]? =some e/\aq ρ A.2.next.toNat C e.1 e'.key/\aq ρ A.2.next.toNat C e.2.1 e'.val/\e.2.2=e'.born:=λi e' h=>by
   have hi:i<es.length:=(by rw[q2];exact(Zd2.1 h).1);exact⟨_,H1 hi,q3 i _ e' (H1 hi) h⟩
 have hold:∀x∈es'.toList,x.born<since:=λx hx=>by
   obtain⟨i,hi⟩:=Zg7.1 hx;obtain⟨e,h1,_,_,h2⟩:=RL i x (by simpa using hi);rw[<-h2];exact bw e (Zc5 h1)
 have jw:es'.toList.map (·.born)=es.map (·.2.2):=by
   apply Zi4;intro i;simp only[Zb5,Zg6];cases h:es'[i]? with
   | none=>
     have:es.length<=i:=(by rw[q2];exact Array.getElem?_eq_none_iff.1 h);rw[Zc4 this];rfl
   | some x=>
     obtain⟨e,h1,_,_,h2⟩:=RL i x h;rw[h1];simp[h2]
 have Na:a.eval (.tmp g.t17)= .pointer (some ⟨r,0,none⟩):=by
   have h:=rF (x:= .tmp g.t17) (o:= .t (key g.t17)) rfl L.S.F (v:= .ptr Eo 0) L.at17;obtain⟨_,h⟩:=h.fJ;rw[h,L.ip.1,L.ip.2.1]
 have ew:=L.S.size;have uF:∀(v:Value),g.t18<(a.put (some g.t18) v).tmps.size:=λv=>by rw[Act.iQ,ew];exact hR.lt.2.1
 have hrl:r<w.heap.size:=(Zd2.1 hr).1;unfold ada;apply FI;apply IM;show rI P _ _ [0,1] a w;rcases run_next_at (P:=P) w o0.type r (ρ b).aA since c seen es' since hr q1 hold hsc with⟨h0,cC⟩|⟨e',kX,w1,AY,cC⟩
 . refine zK (i:=0) (o:=o0) rfl hR.n0.2.1 (v:= .tuple #[.bool false]) (w':=w) (by simp[execOp,hR.n0.1,Na,cC,Result.andThen]) ?_;rw[hR.n0.2.2];refine zK (i:=1) (o:=o1) rfl hR.n1.2.1 (v:= .bool false) (w':=w) (by simp[execOp,hR.n1.1,eval_put (ew ▸hR.lt.2.1),Instr.extract,Result.andThen]) ?_;rw[hR.n1.2.2];apply FI;refine TF (eval_put (by rw[Act.iQ,ew];exact hR.lt.2.2.1)) (aei ?_);refine adb (λe he=> ?_) _ ⟨L.S.W,λp v hp=> ?_,by rw[Act.iQ,Act.iQ];exact ew,by rw[Act.jQ,Act.jQ];exact L.S.defers⟩
   .obtain⟨i,hi⟩:=Zg7.1 he;have TB:i<es'.size:=(by rw[<-q2];exact(H5.1 hi).1);obtain⟨e2,h1,_,_,h2⟩:=RL i _ (Zf5 TB);rw[hi]at h1;cases h1;rw[h2];have hem:leftOf es' seen= #[]:=Zo2 h0;unfold leftOf at hem;rw[Array.filter_eq_empty_iff]at hem;have:=hem es'[i] (Array.getElem_mem TB);simpa using this
   .rw[HO (λh=>by simp at h;subst h;rw[L.cl.2]at hp;cases hp),HO (λh=>by simp at h;subst h;rw[L.cl.1]at hp;cases hp)];exact L.S.F p v hp
 . have hr1:w1.heap[r]? =some (.mapIter (some (ρ b).aA) since seen c):=(by rcases AY with rfl|rfl<;>exact hr);have nD:w1.heap[(ρ b).aA]? =some (.map es' since):=(by rcases AY with rfl|rfl<;>exact q1);have Lb:=Go.MapKept.heap_set (o':= .mapIter (some (ρ b).aA) since (seen.push e'.born) since) hr1;obtain⟨w2,cZ⟩:∃w2,w2=Go.ChangeMaps.setBlock w1 r (.mapIter (some (ρ b).aA) since (seen.push e'.born) since):=⟨_,rfl⟩
   (change (Go.ChangeMaps.setBlock w1 r (.mapIter (some (ρ b).aA) since (seen.push e'.born) since)).heap[r]? =_/\∀k,k≠r->(Go.ChangeMaps.setBlock w1 r (.mapIter (some (ρ b).aA) since (seen.push e'.born) since)).heap[k]? =_ at Lb;rw[<-cZ]at Lb cC;have Dg:w2.heap.size=w.heap.size:=(by rw[cZ];rcases AY with rfl|rfl<;>simp[Go.ChangeMaps.setBlock]<;>rfl);have qh:∀k,k≠r->w2.heap[k]? =w.heap[k]? :=λk hk=>(Lb.2 k hk).trans (by rcases AY with rfl|rfl<;>rfl));have FG:w2.os=w.os/\w2.tape=w.tape/\w2.output=w.output:=(by rw[cZ];rcases AY with rfl|rfl<;>exact⟨rfl,rfl,rfl⟩);clear cZ AY;have JO:bn ρ C A.2 w2:=L.S.W.iter hr L.Em Dg qh;have hen:(Instr.entry (.pointer (some ⟨r,0,none⟩))).run P w2= .ok (.tuple #[e'.key,e'.val]) w2:=
     run_entry_at _ r _ since seen es' since e' Lb.1 ((qh _ (L.Em b _ L.mp)).trans q1) (by simp[leftOf]at kX;simpa using kX.1) (jw ▸M7)
   obtain⟨i,hi⟩:=Zg7.1 kX;have IQ:e'∈es'.toList/\seen.contains e'.born=false:=(by simpa [leftOf]using kX);obtain⟨j,hj⟩:=Zg7.1 IQ.1;obtain⟨e,h1,v1,v2,h2⟩:=RL j e' (by simpa using hj);obtain⟨B,⟨f1,s1,hx,hf,hB⟩,b17,bm,b18,b19,hQ⟩:=akz e (Zc5 h1) (by rw[h2];exact IQ.2);refine zK (i:=0) (o:=o0) rfl hR.n0.2.1 (v:= .tuple #[.bool true,e'.key,e'.val]) (w':=w2) (by simp[execOp,hR.n0.1,Na,cC,Result.andThen]) ?_;rw[hR.n0.2.2];refine zK (i:=1) (o:=o1) rfl hR.n1.2.1 (v:= .bool true) (w':=w2) (by simp[execOp,hR.n1.1,eval_put (ew ▸hR.lt.2.1),Instr.extract,Result.andThen]) ?_;rw[hR.n1.2.2];apply FI;refine Vi (eval_put (by rw[Act.iQ,ew];exact hR.lt.2.2.1)) (aeh ?_);apply TE;apply FI;apply IM;have Nc:nI.size=g.l4.length+1:=(by have h:J0.length=nI.size:=(by rw[(oX hR.c4).1,Zg4]);obtain⟨h4,_⟩:=Zd2.1 hR.n4.1;have h4:0<nI.size:=h4;rw[<-hR.l4,List.length_tail];omega);rw[Nc,Zm3,Zo3];refine zK (i:=0) (o:=o4) hR.n4.1 hR.n4.2.2.1 (v:= .tuple #[e'.key,e'.val]) (w':=w2) (by simp[execOp,hR.n4.2.1,RK hR.ne.1.symm,RK hR.ne.2.1.symm,Na,hen,Result.andThen]) ?_;rw[hR.n4.2.2.2];unfold agG at hx;simp only[jd]at hx;rw[Qy none hc]at hx;unfold oY at hx;(split at hx<;>first|(cases hx;done)|skip);rename_i y hy;simp only[aeQ hc]at hx;have hvt:aq ρ A.2.next.toNat C (.tuple [.bool true,e.1,e.2.1]) (.tuple #[.bool true,e'.key,e'.val]):= .uV ((az.nil.cons v2).cons v1 |>.cons (.bool true));have hve:aq ρ A.2.next.toNat C (.tuple [e.1,e.2.1]) (.tuple #[e'.key,e'.val]):= .uV ((az.nil.cons v2).cons v1);have F1:=fS.put (nt:=nt) (d:=some g.t18) L.S.F ew (λ_ h=>by cases h;exact hR.lt.2.1) hvt;have F2:=fS.put (nt:=nt) (d:=some g.t19) F1 (by rw[Act.iQ];exact ew) (λ_ h=>by cases h;exact hR.lt.2.2.1) (.bool true);have F3:=fS.put (nt:=nt) (d:=some g.t20) F2 (by rw[Act.iQ,Act.iQ];exact ew) (λ_ h=>by cases h;exact hR.lt.2.2.2) hve;refine rK (nt:=nt) hT cg g.l4 1 _ y.1 A.2 y.2 ρ _ w2 (λi ao hi=> ?_) hy ⟨JO,F3,by rw[Act.iQ,Act.iQ,Act.iQ];exact ew,by rw[Act.jQ,Act.jQ,Act.jQ];exact L.S.defers⟩ λa3 w3 hp=> ?_
   .rw[<-hR.l4,List.getElem?_tail]at hi;obtain⟨o,k1,k2,_⟩:=Cx hR.c4 (i+1) ao hi;exact⟨o,by rw[Nat.add_comm];exact k1,k2⟩
   obtain⟨Di,S3,k1,k2,k3⟩:=hp;(refine(rL hT cg gy m).1 rest g.body y.1 f1 y.2 s1 .normal Di a3 w3 _ hR.r4 hx S3 λa4 w4 hp=> ?_);have hP:=gh.trans k1 k2 k3 hp;show Q .normal a4 w4;have S2:nH nt ρ C A.1 A.2 a w2:=⟨JO,L.S.F,ew,L.S.defers⟩
   have hE2:jW kJ OQ w0 ρ A.2 w2:=⟨FG.1.trans L.E.os,FG.2.1.trans L.E.tape,FG.2.2.trans L.E.output,by rw[Dg];exact L.E.size,λk hk hn=>(qh k (by have:=L.late;omega)).trans (L.E.block k hk hn),λb x hb=>L.E.oU b x hb⟩
   obtain⟨ZT,S4,l1,l2,E4⟩:∃ZT,nH nt ZT C B.1 B.2 a4 w4/\(∀p:Pos,p.toNat<A.2.next.toNat->ZT p=ρ p)/\A.2.next.toNat<=B.2.next.toNat/\jW ρ A.2 w2 ZT B.2 w4:=by
     rcases hB with⟨rfl,hk⟩|hB
     .  obtain⟨S,E⟩:=S2.back hf hk hP;exact⟨ρ,S,λ_ _=>rfl,Za3 _,E⟩
     .  obtain⟨ZT,S,l1,l2,E⟩:=hP;rw[<-hB]at S l2 E;exact⟨ZT,⟨S.W,S.F.sub hf,S.size,S.defers⟩,l1,l2,E⟩
   have h4r:w4.heap[r]? =some (.mapIter (some (ρ b).aA) since (seen.push e.2.2) since):=(by rw[E4.block r (by rw[Dg];exact hrl) L.Em,h2];exact Lb.1);refine hQ ZT a4 w4 ⟨S4,λp hp=>(l1 p (Zc8 hp L.k2)).trans (L.k1 p hp),Zd6 L.k2 l2,hE2.trans E4,?_,b17,bm,⟨since,?_,Za3 _⟩,λp x hp=> ?_,L.late,b18,b19⟩
   .rw[l1 Eo L.ip.2.2];exact⟨L.ip.1,L.ip.2.1,Zc8 L.ip.2.2 l2⟩
   .rw[l1 b g1];exact h4r
   . rcases E4.oU p x hp with⟨p',x',hp',e1⟩|h
     .  rw[<-e1];exact L.Em p' x' hp'
     .  rw[Dg]at h;omega
theorem FZ:∀(ps:List Pos)(fr:Fr)(p:Pos),p∈ps\/fr.get p=none->(ZS ps fr).get p=none
 |[],_,_,h=>h.elim (λh=>by simp at h) id
 |q ::ps,fr,p,h=>FZ ps _ p (by
  by_cases hq:q=p
  .subst hq;exact .inr (T.eB _ _ _)
  . rcases h with h|h
    .   rcases Za7.1 h with h|h
        .exact(hq h.symm).elim
        .exact .inl h
    .   exact .inr (by rw[T.bH _ hq];exact h))
theorem bn.slot{ρ ρ':Pos->Loc}{st:St}{w:World}(hW:bn ρ C st w)(aY:∀p:Pos,p.toNat<st.next.toNat->ρ' p=ρ p):bn ρ' C ⟨st.heap,st.next.succ⟩ w:=by
 have hl:∀p x,st.heap.get p=some x->ρ' p=ρ p:=λp x hp=>aY p (hW.live p x hp).1
 refine⟨λp x hp=> ?_,λp q x y hp hq h=> ?_,λa v ha=>⟨(hW.ek a v ha).1,λp x hp=> ?_⟩,hW.whole⟩
 .obtain⟨h1,h2,h3⟩:=hW.live p x hp;rw[hl p x hp];exact⟨by rw[Pos.aB];exact Nat.lt_succ_of_lt h1,h2,h3.mono aY (by rw[Pos.aB];omega)⟩
 .rw[hl p x hp,hl q y hq]at h;exact hW.inj p q x y hp hq h
 .rw[hl p x hp];exact(hW.ek a v ha).2 p x hp
end
end
section
variable{P:Program}{tt:TT}{C:Cells}
def idxS:List AV->St->Option (AV×St)
 |[.str a,.int .u8 c],st=>some (.int .i64 (Lib.indexByte (a.map UInt8.ofNat) c.toNat.toUInt8),st)
 |_,_=>none
def YL:List AV->St->Option (AV×St)
 |[.str a,.int .u8 c],st=>some (.int .i64 (Lib.countByte (a.map UInt8.ofNat) c.toNat.toUInt8),st)
 |_,_=>none
theorem ajE{bs:ByteArray}{a:List Nat}(h:bs.data.toList.map UInt8.toNat=a):a.map UInt8.ofNat=bs.data.toList:=by
 rw[<-h,Zh1];have:(UInt8.ofNat∘UInt8.toNat)=id:=by funext c;simp
 rw[this,Zq7]
theorem Xg{f:FuncId}{fn:Func}{s:List AV->St->Option (AV×St)}{X:List UInt8->UInt8->Int}{e:Array Value->Sem Value}(hs:∀args st,s args st=match args with
   |[.str a,.int .u8 c]=>some (.int .i64 (X (a.map UInt8.ofNat) c.toNat.toUInt8),st)
   |_=>none)
  (hr:∀(b:ByteArray)(c:Int)(w:World),(e #[.string b,.int .u8 c]).run P w= .ok (.int .i64 (X b.data.toList c.toNat.toUInt8)) w)
  (hf:P.funcs[f]? =some fn) (fY:(fn.name== "runtime.NumGoroutine")=false) (hb:fn.body.isNone=true) (hx:Extern.findNext fn=none) (he:Extern.find fn=some e):kT P C f s where
 mono args st v st' h:=by rw[hs]at h;split at h<;>cases h;exact Za3 _
 runs ρ st w args v st' bQ h hW hv:=by
  rw[hs]at h;split at h<;>cases h;rename_i a c;obtain⟨x,xs,rfl,h1,h2⟩:=hv.cons_inv;obtain⟨y,ys,rfl,h3,h4⟩:=h2.cons_inv;have:=h4.mL;subst this;obtain⟨b,rfl,jw⟩:=h1.eU;have:=h3.iF;subst this;have cC:(callFunc f [Value.string b,Value.int .u8 c].toArray).run P w= .ok (.value (.int .i64 (X b.data.toList c.toNat.toUInt8))) w:=by rw[run_callFunc_extern hf fY hb hx he];show((e #[.string b,.int .u8 c]).run P w).andThen _=_;rw[hr];rfl
  rw[cC];refine⟨ρ,?_,λ_ _=>rfl,Za3 _,hW,jW.refl _ _ _⟩;rw[ajE jw];exact .int _ _
theorem afM{f:FuncId}{fn:Func}(hf:P.funcs[f]? =some fn)(fY:(fn.name== "runtime.NumGoroutine")=false)(hb:fn.body.isNone=true)(hx:Extern.findNext fn=none)
  (he:Extern.find fn=some Extern.BytealgIndexByte.indexByte):kT P C f idxS:=
 Xg (X:=Lib.indexByte) (λargs st=>by unfold idxS;split<;>first|rfl|(split<;>first|rfl|simp_all)) (λb c w=>Lib.run_indexByteString b c w) hf fY hb hx he
theorem afN{f:FuncId}{fn:Func}(hf:P.funcs[f]? =some fn)(fY:(fn.name== "runtime.NumGoroutine")=false)(hb:fn.body.isNone=true)(hx:Extern.findNext fn=none)
  (he:Extern.find fn=some Extern.BytealgCount.count):kT P C f YL:=
 Xg (X:=λl c=>Lib.countByte l c) (λargs st=>by unfold YL;split<;>first|rfl|(split<;>first|rfl|simp_all)) (λb c w=>Lib.run_countString b c w) hf fY hb hx he
end
def aid (tt :TT)(nt:Nat)(ds:List Nat)(b0 b0' t19:Nat)(o2 o0 o1 o4:Oper)(Ul J0:List bD)(body:AC):Option (RG×Nat):=
 match o2.op,o0.op,o1.op,o4.op with
 |  .range ty x,.next (.tmp a0) false,.extract (.tmp a1) 0,.entry (.tmp a4)=>match o2.dst,o0.dst,o1.dst,o4.dst with
    |some t17,some t18,some c,some t20=>match o2.guard,o0.guard,o1.guard,o4.guard with
     |  none,none,none,none=>match lA x with
        |some xo=>match Nat.beq a0 t17&&Nat.beq a1 t18&&Nat.beq a4 t17&&Nat.beq c t19&&Nat.beq b0 b0'&&Nat.blt t17 nt&&Nat.blt t18 nt&&Nat.blt t19 nt&&Nat.blt t20 nt&&
            !Nat.beq t17 t18&& !Nat.beq t17 t19&& !Nat.beq t18 t19 with
         |true=>some (⟨t17,t18,t19,t20,Ul.dropLast,xo,J0.tail,body,key t18::key t19::ds.map key⟩,ty)
         |false=>none
        |_=>none
     |_,_,_,_=>none
    |_,_,_,_=>none
 |_,_,_,_=>none
def ZU (tt:TT)(nt:Nat):Code->Option (RG×Nat)
 |  .seq (.region _ AZ false) (.block b0 (.loop (.seq (.region _ ⟨[o0,o1]⟩ false) (.seq (.cond (.tmp t19) .skip (.exit b0')) (.block _ (.seq (.region _ nI false) rest))))))=>
    match AZ[AZ.size - 1]?,nI[0]? with
    |some o2,some o4=>match oI tt nt AZ AZ.toList [],oI tt nt nI nI.toList []with
     |  some Ul,some J0=>match uz tt nt rest with
        |some body=>aid tt nt (nI.toList.filterMap (·.dst)++rJ rest) b0 b0' t19 o2 o0 o1 o4 Ul J0 body
        |none=>none
     |_,_=>none
    |_,_=>none
 |_=>none
section
variable{P:Program}{tt:TT}{C:Cells}{bu:jt XR}{call:ah}{nt m:Nat}
def SH:Code->Bool
 |.region _ ops _=>ops.toList.any λo=>match o.op with|.range _ _=>true|_=>false
 |.seq a b=>SH a||SH b
 |.cond _ a b=>SH a||SH b
 |.block _ a=>SH a
 |.loop a=>SH a
 |_=>false
end
abbrev XO:=jV×Fr×St
abbrev XS:=Option (List XO)
def ZV(y x:XO):Bool:=match y.1,x.1 with
 |.normal,.normal=>T.sub dN y.2.1 x.2.1&&T.sub HS y.2.2.heap x.2.2.heap&&Pos.beq y.2.2.next x.2.2.next
 |_,_=>false
def VC:List XO->List XO->List XO
 |[],acc=>acc
 |  x::l,acc=>match acc.any (λy=>ZV y x)with
    |true=>VC l acc
    |false=>VC l (x::acc)
def LO{α:Type}(k:α->XS):List α->List XO->XS
 |[],acc=>some acc
 |  e::l,acc=>match k e with
    |some a=>LO k l (VC a acc)
    |none=>none
structure Cv(y x:XO):Prop where
 e:y.1=x.1
 f:∀p v,y.2.1.get p=some v->x.2.1.get p=some v
 h:∀p v,y.2.2.heap.get p=some v->x.2.2.heap.get p=some v
 n:y.2.2.next=x.2.2.next
theorem Cv.refl(x:XO):Cv x x:=⟨rfl,λ_ _ h=>h,λ_ _ h=>h,rfl⟩
theorem aeR{y x:XO}(h:ZV y x=true):Cv y x:=by
 unfold ZV at h;split at h<;>first|(cases h;done)|skip
 rename_i h1 h2;simp only[Za9]at h;exact⟨h1.trans h2.symm,T.CE (λ_ _=>rM) h.1.1,T.CE (λ_ _=>Ss) h.1.2,Pos.beq_eq.1 h.2⟩
theorem OR:∀{l acc:List XO},(∀y∈acc,y∈VC l acc)/\∀x∈l,∃y∈VC l acc,Cv y x
 |[],acc=>⟨λy hy=>hy,λx hx=>by cases hx⟩
 |x ::l,acc=>by
  unfold VC;split
  . rename_i h;obtain⟨h1,h2⟩:=OR (l:=l) (acc:=acc);refine⟨h1,λz hz=> ?_⟩;rcases Za7.1 hz with rfl|hz
    .   obtain⟨y,hy,hc⟩:=List.any_eq_true.1 h;exact⟨y,h1 y hy,aeR hc⟩
    .   exact h2 z hz
  . obtain⟨h1,h2⟩:=OR (l:=l) (acc:=x::acc);refine⟨λy hy=>h1 y (Za0 _ hy),λz hz=> ?_⟩;rcases Za7.1 hz with rfl|hz
    .   exact⟨z,h1 z (Zd8 ..),.refl z⟩
    .   exact h2 z hz
theorem zL{α:Type}{k:α->XS}{outs:List XO}:∀{l:List α}{acc:List XO},LO k l acc=some outs->(∀y∈acc,y∈outs)/\∀e∈l,∃a,k e=some a/\∀x∈a,∃y∈outs,Cv y x
 |[],acc,h=>by
  simp only[LO,H0]at h;subst h;exact⟨λy hy=>hy,λe he=>by cases he⟩
 |e::l,acc,h=>by
  unfold LO at h;split at h<;>first|(cases h;done)|skip
  rename_i a ha;obtain⟨h1,h2⟩:=zL h;obtain⟨n1,n2⟩:=OR (l:=a) (acc:=acc);refine⟨λy hy=>h1 y (n1 y hy),λz hz=> ?_⟩;rcases Za7.1 hz with rfl|hz
  .exact⟨a,ha,λx hx=>let⟨y,hy,hc⟩:=n2 x hx;⟨y,h1 y hy,hc⟩⟩
  .exact h2 z hz
section
variable{P:Program}{tt:TT}{C:Cells}{nt:Nat}{ρ:Pos->Loc}{st:St}{w:World}
theorem bn.DR{ρ:Pos->Loc}{st st':St}{w:World}(hW:bn ρ C st w)(h:∀p v,st'.heap.get p=some v->st.heap.get p=some v)(hn:st'.next=st.next):bn ρ C st' w:=
 ⟨λb x hb=>by rw[hn];exact hW.live b x (h b x hb),λb b' x x' hb jw=>hW.inj b b' x x' (h b x hb) (h b' x' jw),λa v ha=>⟨(hW.ek a v ha).1,λb x hb=>(hW.ek a v ha).2 b x (h b x hb)⟩,hW.whole⟩
theorem gh.Um{y x:XO}{a':Act}{w':World}(hc:Cv y x)(h:gh nt ρ C st w x.2.1 x.2.2 a' w'):gh nt ρ C st w y.2.1 y.2.2 a' w':=by obtain⟨eI,S,k1,k2,E⟩:=h;refine⟨eI,⟨S.W.DR hc.h hc.n,?_,S.size,S.defers⟩,k1,by rw[hc.n];exact k2,⟨E.os,E.tape,E.output,E.size,E.block,λb v hb=>E.oU b v (hc.h b v hb)⟩⟩;rw[hc.n];exact S.F.sub hc.f
def EY(P:Program)(C:Cells)(nt:Nat)(c:Code)(ex:Fr->St->XS):Prop:=
 ∀  (fr:Fr)(st:St)(outs:List XO)(ρ:Pos->Loc)(a:Act)(w:World)(Q:Exit->Act->World->Prop),ex fr st=some outs->nH nt ρ C fr st a w->
    (∀o∈outs,∀a' w',gh nt ρ C st w o.2.1 o.2.2 a' w'->Q (n9 o.1) a' w')->fB P c Q a w
def agI(ex:Fr->St->XR)(fr:Fr)(st:St):XS:=match ex fr st with
 |some o=>some [o]
 |none=>none
theorem OP.one{c:Code}{ex:Fr->St->XR}(h:OP P C nt c ex):EY P C nt c (agI ex):=by
 intro fr st outs ρ a w Q hx hS hQ;unfold agI at hx;split at hx<;>first|(cases hx;done)|skip
 rename_i o ho;simp only[H0]at hx;subst hx;exact h fr o.2.1 st o.2.2 o.1 ρ a w Q ho hS λa' w' hp=>hQ o (by simp) a' w' hp
end
section
variable(bu:jt XR)(m:Nat)(g:RG)
def ZW{β:Type}:List Pos->Fr->(Fr->β)->β
 |[],fr,k=>k fr
 |p::ps,fr,k=>oV none p fr λfr=>ZW ps fr k
def ZX (b:Pos)(es:List (AV×AV×Nat))(clock:Nat)(Eo:Pos):Nat->List (AV×AV×Nat)->Fr->St->XS
 |  0,todo,fr,st=>match todo with
    |[]=>some [(.normal,fr,st)]
    |_=>none
 |  n+  1,todo,fr,st=>match todo with
    |[]=>some [(.normal,fr,st)]
    |_  =>LO (λe=>match agG bu m g e.1 e.2.1 fr st with
     |  some (.normal,f1,s1)=>ZW g.ds f1 λf1=>match mS b s1.heap,mS (key g.t17) f1 with
        |some y,some v=>match HS y (.map es clock)&&dN v (.ptr Eo 0)with
         |true=>ZX b es clock Eo n (todo.filter λx=> !Nat.beq x.2.2 e.2.2) f1 s1
         |false=>none
        |_,_=>none
     |_=>none) todo []
def ZY(l:List bD)(fr:Fr)(st:St):XR:=Va none bu l fr st λfr st=>some (.normal,fr,st)
def rgS (fr:Fr)(st:St):XS:=match ZY bu g.l2 fr st with
 |  some (_,fr,st)=>Ww none fr g.x λ
    | .map b=>match mS b st.heap with
      | some (.map es clock)=>match VA clock es with
        |true=>ZW g.ds fr λfr=>oV (some (.ptr st.next 0)) (key g.t17) fr λfr=>Tm st.next λn=>ZX bu m g b es clock st.next es.length es fr { heap:=st.heap,next:=n }
        |false=>none
      |_=>none
    |_=>none
 |none=>none
end
section
variable{P:Program}{tt:TT}{C:Cells}{bu:jt XR}{call:ah}{nt m:Nat}{g:RG}{nI:Array Oper}{o0 o1 o4:Oper}{i3 i4 b0 b1:Nat}{rest:Code}{J0:List bD}{bs:List Nat}
theorem VD{β:Type}:∀(ps:List Pos)(fr:Fr)(k:Fr->β),ZW ps fr k=k (ZS ps fr)
 |[],_,_=>rfl
 |p::ps,fr,k=>by simp only[ZW,jd,ZS];exact VD ps _ k
theorem VE(hc:CK none bu call){l:List bD}{fr br:Fr}{st st':St}{e:jV}(h:ZY bu l fr st=some (e,br,st')):e= .normal/\jM call l fr st=some (br,st'):=by
 unfold ZY at h;rw[Qy none hc]at h;unfold oY at h;split at h<;>first|(cases h;done)|skip
 rename_i y hy;simp only[H0,Zb6]at h;obtain⟨rfl,rfl,rfl⟩:=h;exact⟨rfl,hy⟩
theorem LI.ajF(hT:cB P tt)(hc:CK none bu call)(cg:fG P C call)(gy:tj P tt C call)(hR:agH tt nt g o0 o1 o4 nI rest J0 bs)
  {b Eo:Pos} {es:List (AV×AV×Nat)} {since r:Nat} {kJ:Pos->Loc} {OQ:St} {w0:World} (eF:VA since es=true) (wM:key g.t18∈g.ds/\key g.t19∈g.ds) {Q:Exit->Act->World->Prop}:
  ∀ (n:Nat)(todo:List (AV×AV×Nat))(fr:Fr)(st:St)(outs:List XO)(seen:Array Nat)(ρ:Pos->Loc)(a:Act)(w:World),ZX bu m g b es since Eo n todo fr st=some outs->
    (∀e,e∈todo↔e∈es/\seen.contains e.2.2=false)->LI C nt g (fr,st) b Eo es since r kJ OQ w0 seen ρ a w->
    (∀o∈outs,o.1= .normal->∀a' w',gh nt kJ C OQ w0 o.2.1 o.2.2 a' w'->Q (.exit b0) a' w')->Ol (fB P (ada g o0 o1 nI rest i3 i4 b0 b1)) Q (n+1) a w:=by
 intro n;induction n with
 |zero=>
  intro todo fr st outs seen ρ a w h QJ L hQ;unfold ZX at h;split at h<;>first|(cases h;done)|skip
  simp only[H0]at h;subst h;rw[WM];refine L.round (m:=m) hT hc cg gy hR eF (λ_ a' S=>hQ (.normal,fr,st) (Zc9.2 rfl) rfl a' w ⟨ρ,S,L.k1,L.k2,L.E⟩) λe he hs=> ?_
  have:=(QJ e).2 ⟨he,hs⟩;cases this
 |succ n ih=>
  intro todo fr st outs seen ρ a w h QJ L hQ;rw[WM];unfold ZX at h;split at h
  .simp only[H0]at h;subst h;(refine L.round (m:=m) hT hc cg gy hR eF (λ_ a' S=>hQ (.normal,fr,st) (Zc9.2 rfl) rfl a' w ⟨ρ,S,L.k1,L.k2,L.E⟩) λe he hs=> ?_);have:=(QJ e).2 ⟨he,hs⟩;cases this
  . rename_i cU;obtain⟨_,iu⟩:=zL h;refine L.round (m:=m) hT hc cg gy hR eF (λadb a' S=> ?_) λe he hs=> ?_
    .   cases todo with
        |nil=>exact(cU rfl).elim
        | cons e l=>
          obtain⟨he,hs⟩:=(QJ e).1 (Zd8 ..);rw[adb e he]at hs;cases hs
    .   obtain⟨j4,h1,qm⟩:=iu e ((QJ e).2 ⟨he,hs⟩);(split at h1<;>first|(cases h1;done)|skip);rename_i f1 s1 hx;rw[VD]at h1;simp only[wI]at h1;(split at h1<;>first|(cases h1;done)|skip);rename_i y v hy hv;(split at h1<;>first|(cases h1;done)|skip);rename_i hb;simp only[Za9]at hb;have e1:=Ss hb.1;have e2:=rM hb.2;subst e1;subst e2;refine⟨(ZS g.ds f1,s1),⟨f1,s1,hx,VB _ _,.inr rfl⟩,hv,hy,FZ _ _ _ (.inl wM.1),FZ _ _ _ (.inl wM.2),λρ' a' w' L'=> ?_⟩;refine ih _ _ _ j4 _ ρ' a' w' h1 (λx=> ?_) L' λo ho hn a2 w2 hp=> ?_
        .rw[Zq4,QJ x,Array.contains_push,Zm4,Zi6];rw[show Nat.beq x.2.2 e.2.2=(x.2.2==e.2.2)from by rw[Zk5];simp[Nat.beq_eq]];exact and_assoc
        .obtain⟨z,hz,hcv⟩:=qm o ho;exact hQ z hz (hcv.e.trans hn) a2 w2 (hp.Um hcv)
theorem EY.rng(hT:cB P tt)(hc:CK none bu call)(cg:fG P C call)(gy:tj P tt C call)(hR:agH tt nt g o0 o1 o4 nI rest J0 bs)
   {AZ:Array Oper} {Ul:List bD} {o2:Oper} {x:Operand} {ty kt et:TypeId} {i2:Nat} {bs2:List Nat} (h2:oI tt nt AZ AZ.toList bs2=some Ul) (kF:Ul.dropLast=g.l2)
   (FG:AZ[g.l2.length]? =some o2) (Dg:AZ.size=g.l2.length+1) (hop:o2.op= .range ty x) (zI:o2.guard=none) (hd2:o2.dst=some g.t17) (hx:lA x=some g.x) (agJ:P.underlying ty=some (.map kt et))
   (wM:key g.t18∈g.ds/\key g.t19∈g.ds):EY P C nt (.seq (.region i2 AZ false) (.block b0 (.loop (ada g o0 o1 nI rest i3 i4 b0 b1)))) (rgS bu m g):=by
 intro fr st outs ρ a w Q h hS hQ;unfold rgS at h;split at h<;>first|(cases h;done)|skip
 rename_i ex wN kY hy;obtain⟨rfl,hz⟩:=VE hc hy;simp only[Oy]at h;unfold oY at h;split at h<;>first|(cases h;done)|skip
 rename_i v hv;dsimp only at h;split at h<;>first|(cases h;done)|skip
 rename_i b;simp only[wI]at h;split at h<;>first|(cases h;done)|skip
 rename_i es clock hb;split at h<;>first|(cases h;done)|skip
 rename_i eF;simp only[VD,jd,Lu]at h;apply FI;apply IM;rw[Dg,List.range_succ];apply WL;rw[Zm3];refine rK (nt:=nt) hT cg g.l2 0 fr wN st kY ρ a w (λi ao hi=> ?_) hz hS λa2 w2 hp=> ?_
 .rw[<-kF,List.getElem?_dropLast]at hi;(split at hi<;>first|(cases hi;done)|skip);obtain⟨o,k1,k2,_⟩:=Cx h2 i ao hi;exact⟨o,by rw[Zc7];exact k1,k2⟩
 obtain⟨mR,S2,k1,k2,E2⟩:=hp;obtain⟨hbn,Oq⟩:=(rF hx S2.F hv).zB;obtain⟨g1,g2,es',q1,q2,q3⟩:=S2.W.live b _ hb;obtain⟨Uo,hf3⟩:∃f,f=(ZS g.ds wN).put (some (.ptr kY.next 0)) (key g.t17):=⟨_,rfl⟩
 rw[<-hf3]at h;obtain⟨OS,ZZ⟩:∃s:St,s=⟨kY.heap,kY.next.succ⟩:=⟨_,rfl⟩
 rw[<-ZZ]at h;have n18:key g.t17≠key g.t18:=λe=>hR.ne.1 (by have:=congrArg Pos.toNat e;rw[fD,fD]at this;omega)
 have n19:key g.t17≠key g.t19:=λe=>hR.ne.2.1 (by have:=congrArg Pos.toNat e;rw[fD,fD]at this;omega)
 have hX0:Uo.get (key g.t17)=some (.ptr kY.next 0)/\OS.heap.get b=some (.map es clock)/\Uo.get (key g.t18)=none/\Uo.get (key g.t19)=none:=by
   rw[hf3,ZZ,T.eB,T.bH _ n18,T.bH _ n19];exact⟨rfl,hb,FZ _ _ _ (.inl wM.1),FZ _ _ _ (.inl wM.2)⟩
 show rI P _ _ [g.l2.length] a2 w2
 refine zK FG zI (v:= .pointer (some ⟨w2.heap.size,0,none⟩)) (w':=w2.alloc (.mapIter (some (mR b).aA) clock #[] clock))
   (by simp[execOp,hop,Oq,run_range_map (P:=P) w2 ty kt et (mR b).aA es' clock agJ q1,Result.andThen]) ?_
 rw[hd2];show fB P (Code.block b0 _) Q _ _;apply TE;have hold:∀k,k<w2.heap.size->(w2.alloc (.mapIter (some (mR b).aA) clock #[] clock)).heap[k]? =w2.heap[k]? :=λk hk=>heap_alloc_old w2 _ hk
 have ew:(w2.alloc (.mapIter (some (mR b).aA) clock #[] clock)).heap.size=w2.heap.size+1:=by simp
 obtain⟨Di,h3,aY⟩:∃Di:Pos->Loc,Di kY.next=⟨w2.heap.size,0,0⟩/\∀p:Pos,p.toNat<kY.next.toNat->Di p=mR p:=
   ⟨λp=>if p=kY.next then⟨w2.heap.size,0,0⟩else mR p,Za4 rfl,λp hp=>Za2 λe=>by subst e;omega⟩
 have hW3:bn Di C OS (w2.alloc (.mapIter (some (mR b).aA) clock #[] clock)):=by rw[ZZ];exact(S2.W.slot aY).grow (by omega) hold
 have Ov:OS.next.toNat=kY.next.toNat+1:=by rw[ZZ];exact Pos.aB _
 have hF3:fS Di OS.next.toNat C Uo (a2.put (some g.t17) (.pointer (some ⟨w2.heap.size,0,none⟩))).tmps:=by rw[hf3];refine fS.put (nt:=nt) (d:=some g.t17) ((S2.F.sub (VB _ _)).mono aY (by omega)) S2.size (λ_ h=>by cases h;exact hR.lt.1) ?_;have:=aq.ptr (ρ:=Di) (C:=C) kY.next 0 (n:=OS.next.toNat) (by omega);rw[h3]at this;exact this
 refine aej (es.length+1) (LI.ajF (m:=m) (kJ:=mR) (OQ:=kY) (w0:=w2) (r:=w2.heap.size) hT hc cg gy hR eF wM es.length es Uo OS outs #[] Di _ _ h (λe=>by simp) ?_ λo ho hn a' w' hp=> ?_)
 . refine⟨⟨hW3,hF3,by rw[Act.iQ];exact S2.size,by rw[Act.jQ];exact S2.defers⟩,aY,by show kY.next.toNat<=OS.next.toNat;omega,
     ⟨rfl,rfl,rfl,by rw[ew];omega,λk hk _=>hold k hk,λp x hp=>.inl ⟨p,x,by rw[ZZ]at hp;exact hp,by
        rw[ZZ]at hp;rw[aY p (S2.W.live p x hp).1]⟩⟩,⟨by rw[h3],by rw[h3],by show _<OS.next.toNat;omega⟩,hX0.1,hX0.2.1,⟨clock,?_,Za3 _⟩,λp x hp=> ?_,Za3 _,hX0.2.2⟩
   .rw[aY b g1];exact heap_alloc_new w2 _
   .rw[ZZ]at hp;obtain⟨l1,l2,_⟩:=S2.W.live p x hp;rw[aY p l1];omega
 . simp only[Exit.inBlock,Zf9];have:=hQ o ho a' w' (gh.trans k1 k2 E2 hp)
   rwa [hn]at this
theorem EY.ZU(hT:cB P tt)(hc:CK none bu call)(cg:fG P C call)(gy:tj P tt C call){c:Code}{g:RG}{ty:Nat}(h:ZU tt nt c=some (g,ty))
  {kt et:TypeId} (agJ:P.underlying ty=some (.map kt et)) (ds:List Pos):EY P C nt c (rgS bu m { g with ds:=key g.t18::key g.t19::ds }):=by
 unfold Go.Ai.ZU at h;split at h<;>first|(cases h;done)|skip
 rename_i i2 AZ b0 i3 o0 o1 t19 b0' b1 i4 nI rest;split at h<;>first|(cases h;done)|skip
 rename_i o2 o4 FG ho4;split at h<;>first|(cases h;done)|skip
 rename_i Ul J0 kF Xh;split at h<;>first|(cases h;done)|skip
 rename_i body akA;unfold aid at h;split at h<;>first|(cases h;done)|skip
 rename_i ty' x a0 a1 a4 p2 p0 p1 p4;split at h<;>first|(cases h;done)|skip
 rename_i t17 t18 c t20 d2 d0 d1 d4;split at h<;>first|(cases h;done)|skip
 rename_i g2 g0 g1 g4;split at h<;>first|(cases h;done)|skip
 rename_i xo hxo;split at h<;>first|(cases h;done)|skip
 rename_i hb;simp only[H0,Zb6]at h;obtain⟨rfl,rfl⟩:=h;simp only[Za9,Zi6,Nat.beq_eq,Zp6]at hb;obtain⟨⟨⟨⟨⟨⟨⟨⟨⟨⟨⟨rfl,rfl⟩,rfl⟩,rfl⟩,rfl⟩,l17⟩,l18⟩,l19⟩,l20⟩,n1⟩,n2⟩,n3⟩:=hb;have hs:Ul.length=AZ.size:=(oX kF).1.trans (Zg4 ..);have h0:0<AZ.size:=by have:=(Zd2.1 FG).1;omega
 exact EY.rng hT hc cg gy (i3:=i3) (i4:=i4) (b1:=b1) ⟨⟨p0,g0,d0⟩,⟨p1,g1,d1⟩,⟨ho4,p4,g4,d4⟩,⟨l17,l18,l19,l20⟩,⟨Zc0 n1,Zc0 n2,Zc0 n3⟩,Xh,rfl,akA⟩ kF rfl
  (by rw[List.length_dropLast,hs];exact FG) (by show AZ.size=Ul.dropLast.length+1;rw[List.length_dropLast,hs];omega) p2 g2 d2 hxo agJ ⟨by simp,by simp⟩
end
end
noncomputable section
open Go Go.RowKit
abbrev Dj:=(Pos->Loc)->St->World->List Deferred->Prop
def Up(C:Cells)(J:Dj):Prop:=
 ∀  (ρ:Pos->Loc)(st:St)(w:World)(D:List Deferred)(ρ':Pos->Loc)(st':St)(w':World),J ρ st w D->bn ρ C st w->bn ρ' C st' w'->(∀b:Pos,b.toNat<st.next.toNat->ρ' b=ρ b)->
    st.next.toNat<=st'.next.toNat->jW ρ st w ρ' st' w'->J ρ' st' w' D
section
variable{P:Program}{tt:TT}{C:Cells}{r:Option Nat}{J:Dj}{ts:Nat->Prop}{x:Array Value}{nt:Nat}
def j5(C:Cells)(J:Dj)(ts:Nat->Prop)(x:Array Value)(nt:Nat)(ρ:Pos->Loc)(st:St)(w:World)(br:Fr)(st':St)(a':Act)(w':World):Prop:=
 ∃ρ',nH nt ρ' C br st' ⟨a'.tmps,[]⟩ w'/\(∀b:Pos,b.toNat<st.next.toNat->ρ' b=ρ b)/\st.next.toNat<=st'.next.toNat/\jW ρ st w ρ' st' w'/\J ρ' st' w' a'.defers/\∀t,ts t->a'.tmps[t]? =x[t]?
theorem j5.trans{ρ eI:Pos->Loc}{wN:Fr}{st aW kY:St}{a2:Act}{w w1 w2:World}(h1:∀b:Pos,b.toNat<st.next.toNat->eI b=ρ b)(h2:st.next.toNat<=aW.next.toNat)(h3:jW ρ st w eI aW w1)
  (h:j5 C J ts x nt eI aW w1 wN kY a2 w2):j5 C J ts x nt ρ st w wN kY a2 w2:=by
 obtain⟨mR,S,k1,k2,E,hJ,hx⟩:=h;exact⟨mR,S,λb hb=>(k1 b (Zc8 hb h2)).trans (h1 b hb),Zd6 h2 k2,h3.trans E,hJ,hx⟩
def IX(J:Dj):Prop:=∀(ρ:Pos->Loc)(st st':St)(w:World)(D:List Deferred),J ρ st w D->(∀p v,st'.heap.get p=some v->st.heap.get p=some v)->st'.next=st.next->J ρ st' w D
theorem j5.Um(hw:IX J){y z:XO}{ρ:Pos->Loc}{st:St}{w:World}{a':Act}{w':World}(hc:Cv y z)(h:j5 C J ts x nt ρ st w z.2.1 z.2.2 a' w'):j5 C J ts x nt ρ st w y.2.1 y.2.2 a' w':=by obtain⟨eI,S,k1,k2,E,hJ,hx⟩:=h;refine⟨eI,⟨S.W.DR hc.h hc.n,?_,S.size,S.defers⟩,k1,by rw[hc.n];exact k2,⟨E.os,E.tape,E.output,E.size,E.block,λb v hb=>E.oU b v (hc.h b v hb)⟩,hw _ _ _ _ _ hJ hc.h hc.n,hx⟩;rw[hc.n];exact S.F.sub hc.f
def ei(P:Program)(C:Cells)(r:Option Nat)(J:Dj)(ts:Nat->Prop)(x:Array Value)(nt:Nat)(c:Code)(ex:Fr->St->XS):Prop:=
 ∀  (fr:Fr)(st:St)(outs:List XO)(ρ:Pos->Loc)(a:Act)(w:World)(Q:Exit->Act->World->Prop),ex fr st=some outs->nH nt ρ C fr st ⟨a.tmps,[]⟩ w->J ρ st w a.defers->(∀t,ts t->a.tmps[t]? =x[t]?)->
    (∀o∈outs,∀a' w',j5 C J ts x nt ρ st w o.2.1 o.2.2 a' w'->Q (n9 o.1) a' w')->c.wpIn (Fc r) 0 P Q a w
theorem EY.g{c:Code}{ex:Fr->St->XS}(h:EY P C nt c ex)(hJ:Up C J)(dF:∀t∈rJ c,¬ts t):ei P C r J ts x nt c ex:=by
 intro fr st outs ρ a w Q he hS hj hx hQ;have h1:fB P c (λe a' w'=>∃o∈outs,e=n9 o.1/\gh nt ρ C st w o.2.1 o.2.2 a' w') ⟨a.tmps,[]⟩ w:=h fr st outs ρ _ w _ he hS λo ho a' w' hp=>⟨o,ho,rfl,hp⟩
 refine wpIn_mono (fB.abI (r:=r) (n:=0) (D:=a.defers) (ds:=[]) (ts:=ts) (x:=x) c _ a.tmps w dF hx h1) ?_;rintro e a' w' ⟨hd,hk,o,ho,rfl,ρ',S,k1,k2,E⟩;exact hQ o ho a' w' ⟨ρ',S,k1,k2,E,by rw[hd];exact hJ _ _ _ _ _ _ _ hj hS.W S.W k1 k2 E,hk⟩
def OT(f g:Fr->St->XS)(fr:Fr)(st:St):XS:=match f fr st with
 |  some outs=>LO (λ|(e,fr,st)=>match e with
    |.normal=>g fr st
    |e=>some [(e,fr,st)]) outs []
 |none=>none
def agK(id:Nat)(f:Fr->St->XS)(fr:Fr)(st:St):XS:=match f fr st with
 |  some outs=>LO (λ|(e,fr,st)=>match e with
    | .exit i=>match Nat.beq i id with
      |true=>some [(.normal,fr,st)]
      |false=>some [(.exit i,fr,st)]
    |e=>some [(e,fr,st)]) outs []
 |none=>none
def ade(c:eZ)(f g:Fr->St->XS)(fr:Fr)(st:St):XS:=Ww none fr c λ
 |  .bool b=>match b with
    |true=>f fr st
    |false=>g fr st
 |_=>none
def Uq(f:Fr->St->XS):Nat->Fr->St->XS
 |0,_,_=>none
 |n+1,fr,st=>OT f (λfr st=>Uq f n fr st) fr st
theorem ei.seq'(hw:IX J){c:Code}{f g:Fr->St->XS}{K:Act->World->Prop}{Q:Exit->Act->World->Prop}(hc:ei P C r J ts x nt c f)
  {fr:Fr} {st:St} {outs:List XO} {ρ:Pos->Loc} {a:Act} {w:World} (h:OT f g fr st=some outs) (hS:nH nt ρ C fr st ⟨a.tmps,[]⟩ w) (hj:J ρ st w a.defers) (hx:∀t,ts t->a.tmps[t]? =x[t]?)
  (hK:∀cD aW j4 a1 w1,g cD aW=some j4->(∀z∈j4,∃y∈outs,Cv y z)->j5 C J ts x nt ρ st w cD aW a1 w1->K a1 w1)
  (hQ:∀o∈outs,o.1≠ .normal->∀a' w',j5 C J ts x nt ρ st w o.2.1 o.2.2 a' w'->Q (n9 o.1) a' w'):c.wpIn (Fc r) 0 P (Exit.then K Q) a w:=by
 unfold OT at h;split at h<;>first|(cases h;done)|skip
 rename_i adf h0;obtain⟨_,iu⟩:=zL h;refine hc fr st adf ρ a w _ h0 hS hj hx λo ho a1 w1 hp=> ?_
 obtain⟨j4,h1,qm⟩:=iu o ho;obtain⟨e,cD,aW⟩:=o;dsimp only at h1 hp;cases e with
 |normal=>exact hK _ _ j4 a1 w1 h1 qm hp
 |exit i=>
  simp only[H0]at h1;subst h1;obtain⟨y,hy,hcv⟩:=qm _ (Zc9.2 rfl);have:=hQ y hy (by rw[hcv.e];simp) a1 w1 (j5.Um hw hcv hp);rw[hcv.e]at this;exact this
 |ret=>
  simp only[H0]at h1;subst h1;obtain⟨y,hy,hcv⟩:=qm _ (Zc9.2 rfl);have:=hQ y hy (by rw[hcv.e];simp) a1 w1 (j5.Um hw hcv hp);rw[hcv.e]at this;exact this
theorem j5.go{ρ eI:Pos->Loc}{st aW:St}{a1:Act}{w w1:World}{cD:Fr}(hw:IX J){d:Code}{g:Fr->St->XS}(hd:ei P C r J ts x nt d g){outs j4:List XO}{Q:Exit->Act->World->Prop}
  (h:g cD aW=some j4) (qm:∀z∈j4,∃y∈outs,Cv y z) (hp:j5 C J ts x nt ρ st w cD aW a1 w1)
  (hQ:∀o∈outs,∀a' w',j5 C J ts x nt ρ st w o.2.1 o.2.2 a' w'->Q (n9 o.1) a' w'):d.wpIn (Fc r) 0 P Q a1 w1:=by
 obtain⟨eI,S,k1,k2,E,hj,hx⟩:=hp;refine hd cD aW j4 eI a1 w1 Q h S hj hx λo ho a' w' hp=> ?_
 obtain⟨y,hy,hcv⟩:=qm o ho;have:=hQ y hy a' w' (j5.Um hw hcv (j5.trans k1 k2 E hp));rw[hcv.e]at this;exact this
theorem ei.seq(hw:IX J){c d:Code}{f g:Fr->St->XS}(hc:ei P C r J ts x nt c f)(hd:ei P C r J ts x nt d g):ei P C r J ts x nt (.seq c d) (OT f g):=
 λfr st outs ρ a w Q h hS hj hx hQ=>wpIn_seq (hc.seq' hw h hS hj hx (λcD aW j4 a1 w1 h1 qm hp=>hp.go (eI:=ρ) hw hd h1 qm hQ) λo ho _=>hQ o ho)
theorem ei.block(hw:IX J){id:Nat}{c:Code}{f:Fr->St->XS}(hc:ei P C r J ts x nt c f):ei P C r J ts x nt (.block id c) (agK id f):=by
 intro fr st outs ρ a w Q h hS hj hx hQ;unfold agK at h;split at h<;>first|(cases h;done)|skip
 rename_i adf h0;obtain⟨_,iu⟩:=zL h;refine wpIn_block (hc fr st adf ρ a w _ h0 hS hj hx λo ho a1 w1 hp=> ?_);obtain⟨j4,h1,qm⟩:=iu o ho;obtain⟨e,cD,aW⟩:=o;dsimp only at h1 hp;have fin:∀e',j4=[(e',cD,aW)]->Q (n9 e') a1 w1:=λe' he=>by subst he;obtain⟨y,hy,hcv⟩:=qm _ (Zc9.2 rfl);have:=hQ y hy a1 w1 (j5.Um hw hcv hp);rw[hcv.e]at this;exact this
 cases e with
 |normal=>simp only[H0]at h1;exact fin _ h1.symm
 |exit i=>
  dsimp only at h1;simp only[n9,Exit.inBlock];cases hb:Nat.beq i id with
  |true=>
   rw[hb]at h1;rw[Za4 (H4 hb)];exact fin .normal (Zf4 h1).symm
  |false=>
   rw[hb]at h1;rw[Za2 (Zc0 hb)];exact fin (.exit i) (Zf4 h1).symm
 |ret=>simp only[H0]at h1;exact fin _ h1.symm
theorem ei.cond{c:Operand}{o:eZ}{d e:Code}{f g:Fr->St->XS}(ho:lA c=some o)(hd:ei P C r J ts x nt d f)(he:ei P C r J ts x nt e g):ei P C r J ts x nt (.cond c d e) (ade o f g):=by
 intro fr st outs ρ a w Q h hS hj hx hQ;unfold ade at h;rw[Oy]at h;unfold oY at h;split at h<;>first|(cases h;done)|skip
 rename_i v hv;dsimp only at h;split at h<;>first|(cases h;done)|skip
 rename_i b;have hb:=(rF ho hS.F hv).ir;have hb:a.eval c= .bool b:=by rw[<-hb];exact JR
 cases b
 .exact wpIn_cond_false hb (he fr st outs ρ a w Q h hS hj hx hQ)
 .exact wpIn_cond_true hb (hd fr st outs ρ a w Q h hS hj hx hQ)
theorem ei.loop(hw:IX J){c:Code}{f:Fr->St->XS}(hc:ei P C r J ts x nt c f)(n:Nat):ei P C r J ts x nt (.loop c) (Uq f n):=by
 intro fr st outs ρ a w Q h hS hj hx hQ;refine wpIn_loop_rounds n ?_
 suffices H:∀(n:Nat)(cD:Fr)(aW:St)(j4:List XO)(a1:Act)(w1:World),Uq f n cD aW=some j4->(∀z∈j4,∃y∈outs,Cv y z)->j5 C J ts x nt ρ st w cD aW a1 w1->
    Code.roundsIn (Fc r) 0 P c Q n a1 w1 from
  H n fr st outs a w h (λz hz=>⟨z,hz,.refl z⟩) ⟨ρ,hS,λ_ _=>rfl,Za3 _,jW.refl _ _ _,hj,hx⟩
 intro n;induction n with
 |zero=>intro cD aW j4 a1 w1 h;cases h
 |succ n ih=>
  intro cD aW j4 a1 w1 h1 qm hp;obtain⟨eI,S,k1,k2,E,hj1,hx1⟩:=hp;rw[roundsIn_succ];refine hc.seq' hw (g:=λfr st=>Uq f n fr st) h1 S hj1 hx1 (λwN kY adg a2 w2 h2 akB C8=> ?_) λo ho _ a' w' C8=> ?_
  .refine ih wN kY adg a2 w2 h2 (λz hz=> ?_) (j5.trans k1 k2 E C8);obtain⟨y,hy,hc1⟩:=akB z hz;obtain⟨y',WW,hc2⟩:=qm y hy;exact⟨y',WW,⟨hc2.e.trans hc1.e,λp v h=>hc1.f p v (hc2.f p v h),λp v h=>hc1.h p v (hc2.h p v h),hc2.n.trans hc1.n⟩⟩
  .obtain⟨y,hy,hcv⟩:=qm o ho;have:=hQ y hy a' w' (j5.Um hw hcv (j5.trans k1 k2 E C8));rw[hcv.e]at this;exact this
def noS:Fr->St->XS:=λ_ _=>none
theorem ei.no{c:Code}:ei P C r J ts x nt c noS:=λ_ _ _ _ _ _ _ h=>by cases h
def zM(base:Code->Option (Fr->St->XS))(n:Nat):Code->Fr->St->XS
 |  .seq a b=>match base (.seq a b)with
    |some f=>f
    |none=>OT (zM base n a) (zM base n b)
 |  .block id a=>match base (.block id a)with
    |some f=>f
    |none=>agK id (zM base n a)
 |  .loop a=>match base (.loop a)with
    |some f=>f
    |none=>Uq (zM base n a) n
 |  .cond c a b=>match base (.cond c a b)with
    |some f=>f
    |none=>match lA c with
     |some o=>ade o (zM base n a) (zM base n b)
     |none=>noS
 |  c=>match base c with
    |some f=>f
    |none=>noS
theorem ei.sp(hw:IX J){base:Code->Option (Fr->St->XS)}{n:Nat}:∀c:Code,(∀t∈rJ c,¬ts t)->(∀c f,(∀t∈rJ c,¬ts t)->base c=some f->ei P C r J ts x nt c f)->ei P C r J ts x nt c (zM base n c):=by
 intro c dF hb;induction c with
 |seq a b Zc Zd=>
  unfold zM;split
  .exact hb _ _ dF (by assumption)
  .exact .seq hw (Zc λt ht=>dF t (Zg1 _ ht)) (Zd λt ht=>dF t (Zh5 _ ht))
 |block id a ih=>
  unfold zM;split
  .exact hb _ _ dF (by assumption)
  .exact .block hw (ih dF)
 |loop a ih=>
  unfold zM;split
  .exact hb _ _ dF (by assumption)
  .exact .loop hw (ih dF) n
 |cond c a b Zc Zd=>
  unfold zM;split
  .exact hb _ _ dF (by assumption)
  . split
    .exact .cond (by assumption) (Zc λt ht=>dF t (Zg1 _ ht)) (Zd λt ht=>dF t (Zh5 _ ht))
    .exact .no
 |_=>
  unfold zM;split
  .exact hb _ _ dF (by assumption)
  .exact .no
def CW(P:Program)(tt:TT)(bu:jt XR)(m:Nat)(kp:List Nat)(nt:Nat)(c:Code):Option (Fr->St->XS):=match Go.Ai.ZU tt nt c with
 |  some (g,ty)=>match P.underlying ty with
    |some (.map _ _)=>some (rgS bu m { g with ds:=key g.t18::key g.t19::g.ds.filter λp=> !(kp.any λt=>Pos.beq (key t) p) })
    |_=>none
 |  none=>match SH c with
    |true=>none
    |false=>match uz tt nt c with
     |some ac=>some (agI (exK bu m ac))
     |none=>none
theorem SI{bu:jt XR}{call:ah}{m:Nat}{kp:List Nat}(hT:cB P tt)(hc:CK none bu call)(cg:fG P C call)(gy:tj P tt C call)(hJ:Up C J){c:Code}{f:Fr->St->XS}
   (dF:∀t∈rJ c,¬ts t) (h:CW P tt bu m kp nt c=some f):ei P C r J ts x nt c f:=by
 unfold CW at h;split at h
 .rename_i hg;(split at h<;>first|(cases h;done)|skip);rename_i hu;simp only[H0]at h;subst h;exact(EY.ZU hT hc cg gy hg hu _).g hJ dF
 . (split at h<;>first|(cases h;done)|skip);(split at h<;>first|(cases h;done)|skip);rename_i Zi;simp only[H0]at h;subst h;exact(OP.ac hT hc cg gy Zi).one.g hJ dF
end
section
variable{P:Program}{tt:TT}{C:Cells}{ρ:Pos->Loc}{st:St}{w w':World}{nt:Nat}
theorem bn.Em{L:Nat}(hW:bn ρ C st w)(hr:∀a:Addr,a.block=L->w.cell? a=none)(hn:∀b x,st.heap.get b=some x->(ρ b).aA≠L)
   (hs:w'.heap.size=w.heap.size) (hk:∀k,k≠L->w'.heap[k]? =w.heap[k]?):bn ρ C st w':=by
 have cU:∀a v,C a=some v->a.block≠L:=λa v ha e=>by have h:=(hW.ek a v ha).1;rw[hr a e]at h;cases h
 refine⟨λb x hb=> ?_,hW.inj,λa v ha=> ?_,λa v ha o ho=> ?_⟩
 .obtain⟨h1,h2,h3⟩:=hW.live b x hb;exact⟨h1,by rw[hs];exact h2,h3.of_heap (hk _ (hn b x hb))⟩
 .obtain⟨h1,h2⟩:=hW.ek a v ha;exact⟨by rw[World.cell?_of_block (w:=w) (hk _ (cU a v ha))];exact h1,h2⟩
 .rw[World.cell?_of_block (w:=w) (a:=⟨a.block,o,none⟩) (hk _ (cU a v ha))];exact hW.whole a v ha o ho
theorem bn.SJ{L:Nat}{r:Loop}{o:Obj}(hW:bn ρ C st w)(hl:w.heap[L]? =some (.loop r))(hn:∀b x,st.heap.get b=some x->(ρ b).aA≠L):bn ρ C st (w.putObj L o):=
 hW.Em (λa ha=>by subst ha;simp[World.cell?,hl]) hn World.putObj_size λk hk=>World.putObj_heap_other hk
theorem bn.agL{L:Nat}{r:Option (List Deferred)}{o:Obj}(hW:bn ρ C st w)(hl:w.heap[L]? =some (.deferred r))(hn:∀b x,st.heap.get b=some x->(ρ b).aA≠L):bn ρ C st (w.putObj L o):=
 hW.Em (λa ha=>by subst ha;simp[World.cell?,hl]) hn World.putObj_size λk hk=>World.putObj_heap_other hk
theorem Fo{ρ':Pos->Loc}{st':St}{L:Nat}(E:jW ρ st w ρ' st' w')(hL:L<w.heap.size)(hn:∀b x,st.heap.get b=some x->(ρ b).aA≠L):(∀b x,st'.heap.get b=some x->(ρ' b).aA≠L)/\w'.heap[L]? =w.heap[L]? :=
 ⟨λb x hb=>by
  rcases E.oU b x hb with⟨b',x',jw,e⟩|h
  .rw[<-e];exact hn b' x' jw
  .omega,E.block L hL hn⟩
def RM:Dj:=λ_ _ _ D=>D=[]
theorem RM.stays:Up C RM:=λ_ _ _ _ _ _ _ h _ _ _ _ _=>h
theorem RM.DR:IX RM:=λ_ _ _ _ _ h _ _=>h
def J1(C:Cells)(L D0:Nat)(r:Loop)(u5:Fr):Dj:=λρ st w D=>D=[]/\w.heap[L]? =some (.loop r)/\w.heap[D0]? =some (.deferred (some []))/\
 (∀b x,st.heap.get b=some x->(ρ b).aA≠L)/\(∀b x,st.heap.get b=some x->(ρ b).aA≠D0)/\fS ρ st.next.toNat C u5 r.tmps
theorem HZ{k:Nat}{o:Obj}(h:w.heap[k]? =some o):k<w.heap.size:=(Zd2.1 h).1
theorem J1.stays{L D0:Nat}{r:Loop}{u5:Fr}:Up C (J1 C L D0 r u5):=λρ st w D ρ' st' w' h _ _ k1 k2 E=>by
 obtain⟨h1,h2,h3,h4,h5,h6⟩:=h;obtain⟨f1,f2⟩:=Fo E (HZ h2) h4;obtain⟨g1,g2⟩:=Fo E (HZ h3) h5;exact⟨h1,f2.trans h2,g2.trans h3,f1,g1,h6.mono k1 k2⟩
theorem J1.DR{L D0:Nat}{r:Loop}{u5:Fr}:IX (J1 C L D0 r u5):=λρ st st' w D h hh hn=>by
 obtain⟨h1,h2,h3,h4,h5,h6⟩:=h;exact⟨h1,h2,h3,λb x hb=>h4 b x (hh b x hb),λb x hb=>h5 b x (hh b x hb),by rw[hn];exact h6⟩
abbrev mark(r:Nat):Deferred:={ target:= .collected r,args:= #[] }
def OU(B:Nat):Dj:=λρ st w D=>B<=w.heap.size/\∃rs:List Nat,D=rs.map mark/\rs.Nodup/\∀r∈rs,B<=r/\w.heap[r]? =some (.deferred (some []))/\∀b x,st.heap.get b=some x->(ρ b).aA≠r
theorem OU.stays{B:Nat}:Up C (OU B):=λρ st w D ρ' st' w' h _ _ k1 k2 E=>by
 obtain⟨hB,rs,h1,h2,h3⟩:=h;refine⟨Zd6 hB E.size,rs,h1,h2,λr hr=> ?_⟩;obtain⟨g0,g1,g2⟩:=h3 r hr;obtain⟨f1,f2⟩:=Fo E (HZ g1) g2;exact⟨g0,f2.trans g1,f1⟩
theorem OU.DR{B:Nat}:IX (OU B):=λρ st st' w D h hh hn=>by
 obtain⟨hB,rs,h1,h2,h3⟩:=h;exact⟨hB,rs,h1,h2,λr hr=>let⟨g0,g1,g2⟩:=h3 r hr;⟨g0,g1,λb x hb=>g2 b x (hh b x hb)⟩⟩
def Z0:List XO->List St->Option (List St)
 |[],acc=>some acc
 |  (e,_,st)::l,acc=>match e with
    |.normal=>Z0 l (st::acc)
    |_=>none
def Ur{β:Type}:List Nat->List AV->Fr->(Fr->Option β)->Option β
 |[],[],fr,k=>k fr
 |p::ps,v::vs,fr,k=>oV (some v) (key p) fr λfr=>Ur ps vs fr k
 |_,_,_,_=>none
def adh(ps:List Nat)(f:Fr->St->XS)(u5:Fr)(vs:List AV)(st:St):Option (List St):=Ur ps vs u5 λfr=>match f fr st with
 |some outs=>Z0 outs []
 |none=>none
theorem Xi:∀{l:List XO}{acc J2:List St},Z0 l acc=some J2->(∀s∈acc,s∈J2)/\∀o∈l,o.1= .normal/\o.2.2∈J2
 |[],acc,J2,h=>by
  simp only[Z0,H0]at h;subst h;exact⟨λ_ h=>h,λ_ h=>by cases h⟩
 |(e,fr,st)::l,acc,J2,h=>by
  unfold Z0 at h;cases e with
  | normal=>
    obtain⟨h1,h2⟩:=Xi (l:=l) h;refine⟨λs hs=>h1 s (Za0 _ hs),λo ho=> ?_⟩;rcases Za7.1 ho with rfl|ho
    .exact⟨rfl,h1 _ (Zd8 ..)⟩
    .exact h2 o ho
  |_=>cases h
theorem RN{β:Type}{k:Fr->Option β}{z:β}:∀{ps:List Nat}{vs:List AV}{xs:List Value}{fr:Fr}{T:Array Value},Ur ps vs fr k=some z->az ρ st.next.toNat C vs xs->fS ρ st.next.toNat C fr T->T.size=nt->(∀p∈ps,p<nt)->
  ∃br,k br=some z/\fS ρ st.next.toNat C br ((ps.zip xs).foldl (λt (p,v)=>t.setIfInBounds p v) T)/\((ps.zip xs).foldl (λt (p,v)=>t.setIfInBounds p v) T).size=nt/\xs.length=ps.length
 |[],[],xs,fr,T,h,hv,hF,hs,_=>by
  have:=hv.mL;subst this;exact⟨fr,h,hF,hs,rfl⟩
 |p::ps,v::vs,xs,fr,T,h,hv,hF,hs,hp=>by
  obtain⟨x,xQ,rfl,h1,h2⟩:=hv.cons_inv;unfold Ur at h;rw[jd]at h;have hF':=fS.put (nt:=nt) (a:=⟨T,[]⟩) (d:=some p) hF hs (λ_ h=>by cases h;exact hp p (Zd8 ..)) h1;obtain⟨br,g1,g2,g3,g4⟩:=RN (T:=T.setIfInBounds p x) h h2 hF' (by simpa using hs) λq hq=>hp q (Za0 _ hq)
  exact⟨br,g1,g2,g3,by simp[g4]⟩
 |[],_::_,_,_,_,h,_,_,_,_=>by cases h
 |_::_,[],_,_,_,h,_,_,_,_=>by cases h
def adi(P:Program)(C:Cells)(L D0:Nat)(r:Loop)(u5:Fr)(Xj:List AV->St->Option (List St)):Prop:=
 ∀  (vs:List AV)(st:St)(J2:List St)(ρ:Pos->Loc)(w:World)(args:Array Value),Xj vs st=some J2->bn ρ C st w->az ρ st.next.toNat C vs args.toList->J1 C L D0 r u5 ρ st w []->
    args.size=r.params.size/\RoundIn (Fc none) 0 P L r.fn ((r.params.zip args).foldl (λt (p,v)=>t.setIfInBounds p v) r.tmps) r.assign r.body w λe w'=>
     ∃s∈J2,e= .returned (.bool true)/\∃ρ',bn ρ' C s w'/\(∀b:Pos,b.toNat<st.next.toNat->ρ' b=ρ b)/\st.next.toNat<=s.next.toNat/\jW ρ st w ρ' s w'
theorem ajG{L D0:Nat}{r:Loop}{u5:Fr}{ps:List Nat}{f g:Fr->St->XS}(hp:r.params.toList=ps)(hr:r.state= .ready)(TG:r.pending=none)(hs:r.tmps.size=nt)(bw:∀p∈ps,p<nt)
   (hA:ei P C (some L) RM (λ_=>False) #[] nt r.assign f) (hB:ei P C (some L) RM (λ_=>False) #[] nt r.body g):adi P C L D0 r u5 (adh ps (OT f g) u5):=by
 intro vs st J2 ρ w args h hW hv hj;obtain⟨_,hl,_,Em,_,hF⟩:=hj;unfold adh at h;obtain⟨fr,h,hF1,J3,hlen⟩:=RN h hv hF hs bw;have akC:(ps.zip args.toList).foldl (λt (p,v)=>t.setIfInBounds p v) r.tmps=(r.params.zip args).foldl (λt (p,v)=>t.setIfInBounds p v) r.tmps:=by
   rw[<-hp, <-Array.foldl_toList,Array.toList_zip]
 rw[akC]at hF1 J3;refine⟨by rw[<-Zg4, <-Zg4,hp,hlen],roundIn_of_wpIn (F:=Fc none) trivial ?_⟩;split at h<;>first|(cases h;done)|skip
 rename_i outs hx;have iu:=(Xi h).2;show r.assign.wpIn (Fc (some L)) 0 P _ _ w;refine hA.seq' RM.DR hx ⟨hW,hF1,J3,rfl⟩ rfl (λ_ h=>h.elim) (λcD aW j4 a1 w1 h1 qm eG=> ?_) λo ho cU=>(cU (iu o ho).1).elim
 obtain⟨eI,S1,k1,k2,E1,hD1,_⟩:=eG;obtain⟨far1,xU⟩:=Fo E1 (HZ hl) Em;rw[hl]at xU;refine⟨_,run_beginRound xU hr,?_⟩;have adj:=HZ xU;refine hB cD aW j4 eI a1 _ _ h1 ⟨S1.W.SJ xU far1,S1.F,S1.size,rfl⟩ hD1 (λ_ h=>h.elim) λo ho a3 w3 hp3=> ?_
 obtain⟨y,hy,hcv⟩:=qm o ho;obtain⟨Ej,FA⟩:=iu y hy;rw[<-hcv.e,Ej];obtain⟨Di,S3,j1,j2,E3,_,_⟩:=hp3;have kF:=World.putObj_heap_same (o:= .loop { r with state:= .busy }) adj;obtain⟨far3,hl3⟩:=Fo E3 (by rw[World.putObj_size];exact adj) far1;rw[kF]at hl3;refine⟨_,_,run_endRound (P:=P) none hl3,y.2.2,FA,rfl,Di,?_,λb hb=>(j1 b (Zc8 hb k2)).trans (k1 b hb),by rw[hcv.n];exact Zd6 k2 j2,?_⟩
 .exact(S3.W.SJ hl3 far3).DR hcv.h hcv.n
 . have hrec:({ ({ r with state:= .busy }:Loop)with state:=if(none:Option Code).isNone then .ready else .done,pending:=none }:Loop)=r:=(by cases r;simp only at hr TG;subst hr;subst TG;rfl);rw[hrec];refine E1.trans ⟨E3.os,E3.tape,E3.output,by rw[World.putObj_size];have:=E3.size;rw[World.putObj_size]at this;exact this,λk hk hn=> ?_,λb x hb=> ?_⟩
   . by_cases e:k=L
     .  subst e;rw[World.putObj_heap_same (HZ hl3),xU]
     .  rw[World.putObj_heap_other e,E3.block k (by rw[World.putObj_size];exact hk) hn,World.putObj_heap_other e]
   .have:=E3.oU b x (hcv.h b x hb);rw[World.putObj_size]at this;exact this
end
structure YR where
 d:Nat
 dy:Nat
 xs:List eZ
 l1:List bD
 l2:List bD
def YA (d:Nat):List Oper->Nat->Option Nat
 |[],_=>none
 |  o ::l,i=>match o.op with
    | .call c=>match c.callee with
      | .value (.tmp e)=>match Nat.beq d e with
        |true=>some i
        |false=>YA d l (i+1)
      |_=>YA d l (i+1)
    |_=>YA d l (i+1)
def aeS(d:Nat)(o:Oper):Bool:=match o.dst with
 |some e=> !Nat.beq d e
 |none=>true
def agM (tt : TT)(nt:Nat):Code->Option YR
 |  .region _ ops false=>match ops[0]? with
    |some o0  =>match o0.op,o0.dst,o0.guard with
     |  .move (.tmp 0),some d,none=>match YA d ops.toList 0 with
        |some j=>match ops[j]? with
         |  some oj=>match oj.op,oj.dst,oj.guard with
            | .call c,some dy,none=>match c.callee,jJ c.args.toList,oI tt nt ops ops.toList []with
              | .value (.tmp d'),some xs,some l=>match Nat.beq d' d&&Nat.blt d nt&&Nat.blt dy nt&&Nat.blt 0 j&&Nat.blt j ops.size&&((ops.toList.drop 1).take (j - 1)).all (aeS d)with
                |true=>some ⟨d,dy,xs,(l.drop 1).take (j - 1),l.drop (j+1)⟩
                |false=>none
              |_,_,_=>none
            |_,_,_=>none
         |none=>none
        |none=>none
     |_,_,_=>none
    |none=>none
 |_=>none
def SK:Code->Bool
 |.region _ ops _=>ops.toList.any λo=>match o.op with|.move (.tmp 0)=>true|_=>false
 |.seq a b=>SK a||SK b
 |.cond _ a b=>SK a||SK b
 |.block _ a=>SK a
 |.loop a=>SK a
 |_=>false
section
variable(bu:jt XR)
def agN(Xj:List AV->St->Option (List St))(y:YR)(fr:Fr)(st:St):XS:=oV none (key y.d) fr λfr=>match ZY bu y.l1 fr st with
 |  some (_,cD,aW)=>Sf none cD y.xs λvs=>match Xj vs aW with
    |some J2=>oV (some (.bool true)) (key y.dy) cD λwN=>LO (λs=>match ZY bu y.l2 wN s with
     |some o=>some [o]
     |none=>none) J2 []
    |none=>none
 |none=>none
end
section
variable{P:Program}{tt:TT}{C:Cells}{bu:jt XR}{call:ah}{nt m:Nat}
theorem fS.drop{ρ:Pos->Loc}{n d:Nat}{fr:Fr}{X:Array Value}(h:fS ρ n C fr X)(v:Value):fS ρ n C (fr.put none (key d)) (X.setIfInBounds d v):=λp u hp=>by
 by_cases e:key d=p
 .subst e;rw[T.eB]at hp;cases hp
 .rw[T.bH _ e]at hp;obtain⟨y,hy,hr⟩:=h p u hp;refine⟨y,?_,hr⟩;rw[Ze2,hy];intro h';apply e;apply Pos.toNat_inj;rw[fD];have:=p.toNat_pos;omega
theorem RO{r:Option Nat}{ops:Array Oper}{Q:Exit->Act->World->Prop}{i:Nat}{rest:List Nat}{o:Oper}{a:Act}{w:World}(ho:ops[i]? =some o)(hg:o.guard=none)
  (h:o.uponIn (Fc r) 0 P a (wpOpsIn (Fc r) 0 P ops Q rest) Q ((o.semAt r a.eval).run P w)):wpOpsIn (Fc r) 0 P ops Q (i::rest) a w:=by
 rw[wpOpsIn_cons];unfold wpOpIn;rw[ho];simp only[Region.wanted,hg,Zf9];exact⟨λ_ _=>trivial,h⟩
theorem abk(j k:Nat):List.range (j+1+1+k)=0::(List.range' 1 j++(j+1)::List.range' (j+2) k):=by rw[Zm3,show j+1+1+k=(j+1)+(k+1)by omega, <-List.range'_append_1,Zo3,Zo3 (s:=0+(j+1))];simp
theorem ei.yld(hT:cB P tt)(hc:CK none bu call)(cg:fG P C call){L D0:Nat}{r:Loop}{u5:Fr}{x:Array Value}(Dk:x[0]? =some (.func (.yield L) #[] #[]))
   {Xj:List AV->St->Option (List St)} (agO:adi P C L D0 r u5 Xj) {c:Code} {y:YR} (hy:agM tt nt c=some y) (dF:∀t∈rJ c,t≠0):
   ei P C none (J1 C L D0 r u5) (λt=>t=0) x nt c (agN bu Xj y):=by
 unfold agM at hy;split at hy<;>first|(cases hy;done)|skip
 rename_i id ops;split at hy<;>first|(cases hy;done)|skip
 rename_i o0 h0;split at hy<;>first|(cases hy;done)|skip
 rename_i d hop0 hd0 HX;split at hy<;>first|(cases hy;done)|skip
 rename_i j hj;split at hy<;>first|(cases hy;done)|skip
 rename_i oj hoj;split at hy<;>first|(cases hy;done)|skip
 rename_i cl dy hopj hdj hgj;split at hy<;>first|(cases hy;done)|skip
 rename_i d' xs l So iD hl;split at hy<;>first|(cases hy;done)|skip
 rename_i hb;simp only[H0]at hy;subst hy;simp only[Za9,Nat.beq_eq,Zp6]at hb;obtain⟨⟨⟨⟨⟨rfl,hd⟩,hdy⟩,hj0⟩,hjs⟩,M7⟩:=hb;intro fr st outs ρ a w Q h hS hJ hx hQ;unfold agN at h;rw[jd]at h;dsimp only at h;split at h<;>first|(cases h;done)|skip
 rename_i e1 cD aW Ej;obtain⟨rfl,hz1⟩:=VE hc Ej;rw[Qx]at h;unfold oY at h;split at h<;>first|(cases h;done)|skip
 rename_i vs jf;dsimp only at h;split at h<;>first|(cases h;done)|skip
 rename_i J2 hr;rw[jd]at h;obtain⟨_,iu⟩:=zL h;have hlen:l.length=ops.size:=by rw[(oX hl).1,Zg4]
 have xU:((l.drop 1).take (j - 1)).length=j - 1:=by rw[Zl2,List.length_drop,hlen];omega
 have kF:(l.drop (j+1)).length=ops.size - (j+1):=by rw[List.length_drop,hlen]
 apply wpIn_region;have ajH:List.range ops.size=0::(List.range' 1 ((l.drop 1).take (j - 1)).length++(j::List.range' (j+1) (l.drop (j+1)).length)):=by rw[xU,kF];have:=abk (j - 1) (ops.size - (j+1));rw[show j - 1+1+1+(ops.size - (j+1))=ops.size by omega,show j - 1+1=j by omega,show j - 1+2=j+1 by omega]at this;exact this
 rw[ajH];refine RO h0 HX ?_;have hev0:a.eval (.tmp 0)= .func (.yield L) #[] #[]:=by
   have:=hx 0 rfl;rw[Dk]at this;show a.tmps.getD 0 undef=_;simp[Zi9,this]
 have hsem:(o0.semAt none a.eval).run P w= .ok (.value (.func (.yield L) #[] #[])) w:=by
   show(execOp a.eval o0).run P w=_;unfold execOp;rw[hop0];simp only[Sem.run_pure,hev0]
 rw[hsem];show wpOpsIn (Fc none) 0 P ops Q _ (a.put o0.dst _) w;rw[hd0];show wpOpsIn (Fc none) 0 P ops Q _ ⟨a.tmps.setIfInBounds d' (.func (.yield L) #[] #[]),a.defers⟩ w;have akD:d'≠0:=dF d' (by
   show d'∈ops.toList.filterMap (·.dst);rw[Zn0];exact⟨o0,by rw[Zm2];exact Zl8 h0,hd0⟩)
 have adk:∀(i:Nat)(o:Oper),ops[i]? =some o->∀t,o.dst=some t->t≠0:=λi o ho t ht=>dF t (by
   show t∈ops.toList.filterMap (·.dst);rw[Zn0];exact⟨o,by rw[Zm2];exact Zl8 ho,ht⟩)
 have hsz0:a.tmps.size=nt:=hS.size
 refine Lg (ds:=[]) (ts:=λt=>t=0\/t=d') (x:=(a.tmps.setIfInBounds d' (.func (.yield L) #[] #[]))) (K:=λa' w'=>gh nt ρ C st w cD aW a' w') (λT' w1 hk hp=> ?_) _ _ w (λi hi o ho t ht=> ?_) (λ_ _=>rfl)
   (rK (nt:=nt) hT cg _ 1 _ cD st aW ρ _ w (λi ao hi=> ?_) hz1 ⟨hS.W,hS.F.drop _,by simpa using hsz0,rfl⟩ λa' w' hp=>hp)
 . obtain⟨eI,S1,k1,k2,E1⟩:=hp;have hJ1:=J1.stays _ _ _ _ _ _ _ hJ hS.W S1.W k1 k2 E1;have hD:a.defers=[]:=hJ.1;have WI:=hJ1.2.1;have Rc:=eT iD S1.F jf;obtain⟨ew,ajI⟩:=agO vs aW J2 eI w1 (cl.args.map (⟨T',a.defers⟩:Act).eval) hr S1.W (by
     (rw[Zp9];have:(⟨T',a.defers⟩:Act).eval=(⟨T',[]⟩:Act).eval:=funext λ_=>JR);rw[this];exact Rc) (by rw[<-hD];exact hJ1)
   refine RO hoj hgj ?_;have hevd:(⟨T',a.defers⟩:Act).eval (.tmp d')= .func (.yield L) #[] #[]:=by
     have:=hk d' (.inr rfl);rw[Zl7]at this;simp[hsz0,hd]at this;show T'.getD d' undef=_;simp[Zi9,this]
   have akE:(oj.semAt none (⟨T',a.defers⟩:Act).eval).run P w1= .ok (.round L r.fn ((r.params.zip (cl.args.map (⟨T',a.defers⟩:Act).eval)).foldl (λt (p,v)=>t.setIfInBounds p v) r.tmps) r.assign r.body) w1:=(by show(execOp (⟨T',a.defers⟩:Act).eval oj).run P w1=_;unfold execOp;rw[hopj];simp only[resolve,So,hevd,Deferred.ofValue,invoke,Sem.run_bind,Sem.run_pure,Result.andThen];have:=run_yield (P:=P) (args:= #[]++cl.args.map (⟨T',a.defers⟩:Act).eval) WI (by simpa using ew);simpa using this);rw[akE];refine⟨λhd=>by simp[Fence.wide]at hd,ajI.mono ?_⟩;rintro e w2 ⟨s,hs,rfl,mR,JO,k3,k4,E2⟩;show wpOpsIn (Fc none) 0 P ops Q _ ((⟨T',a.defers⟩:Act).put oj.dst _) w2;rw[hdj];show wpOpsIn (Fc none) 0 P ops Q _ ⟨T'.setIfInBounds dy (.bool true),a.defers⟩ w2;obtain⟨j4,h1,qm⟩:=iu s hs;(split at h1<;>first|(cases h1;done)|skip);rename_i o ho;simp only[H0]at h1;subst h1;obtain⟨e3,Uo,s3⟩:=o;obtain⟨rfl,hz3⟩:=VE hc ho;obtain⟨y,hyo,hcv⟩:=qm _ (Zc9.2 rfl);have hF2:=fS.put (nt:=nt) (a:=⟨T',[]⟩) (d:=some dy) (S1.F.mono k3 k4) S1.size (λ_ h=>by cases h;exact hdy) (aq.bool (C:=C) true);have hdy0:dy≠0:=adk j oj hoj dy hdj;rw[<-Ze9 (List.range' _ _)]
   refine Lg (ds:=[]) (ts:=λt=>t=0) (x:=T'.setIfInBounds dy (.bool true)) (K:=λa' w'=>gh nt mR C s w2 Uo s3 a' w') (λT2 w3 qh C8=> ?_) _ _ w2 (λi hi o ho t ht=>adk i o ho t ht) (λ_ _=>rfl)
     (rK (nt:=nt) hT cg _ (j+1) _ Uo s s3 mR _ w2 (λi ao hi=> ?_) hz3 ⟨JO,hF2,by simpa using S1.size,rfl⟩ λa' w' hp=>hp)
   . obtain⟨Di,S3,k5,k6,E3⟩:=C8;have K1:∀b:Pos,b.toNat<st.next.toNat->Di b=ρ b:=λb hb=>(k5 b (by omega)).trans ((k3 b (by omega)).trans (k1 b hb))
     have K2:st.next.toNat<=s3.next.toNat:=(by omega);have E:=(E1.trans E2).trans E3;show Q .normal _ _;have:=hQ y hyo ⟨T2,a.defers⟩ w3 (j5.Um J1.DR hcv ⟨Di,S3,K1,K2,E,J1.stays _ _ _ _ _ _ _ hJ hS.W S3.W K1 K2 E,λt ht=>by
        subst ht;rw[<-hx 0 rfl,qh 0 rfl,Ze2 hdy0,hk 0 (.inl rfl),Ze2 akD]⟩)
     rw[hcv.e]at this;exact this
   .rw[Zd7]at hi;obtain⟨o,q1,q2,_⟩:=Cx hl _ ao hi;exact⟨o,q1,q2⟩
 . rintro(rfl|rfl)
   .exact adk i o ho _ ht rfl
   . (rw[List.mem_range'_1,xU]at hi;have hm:o∈(ops.toList.drop 1).take (j - 1):=by rw[Zg7];refine⟨i - 1,?_⟩;rw[Zb8,Za4 (by omega),Zd7,show 1+(i - 1)=i by omega,Zg6];exact ho);have:=Ze5.1 M7 o hm;simp only[aeS,ht,Zi6]at this;exact Zc0 this rfl
 .rw[Zb8]at hi;(split at hi<;>first|(cases hi;done)|skip);rw[Zd7]at hi;obtain⟨o,q1,q2,_⟩:=Cx hl _ ao hi;exact⟨o,q1,q2⟩
end
def rfS (gf ntg:Nat)(exI:Fr->Fr->St->XS)(og:eZ)(fr:Fr)(st:St):XS:=Ww none fr og λ
 |  .func f [] VF=>match Nat.beq f gf&&Nat.ble (VF.length+1) ntg with
    |true=>Ct VF 1 .e λfri=>match exI fr fri st with
     |  some outs=>LO (λ|(e,_,s)=>match e with
        |.exit _=>none
        |_=>some [(.normal,fr,s)]) outs []
     |none=>none
    |false=>none
 |_=>none
section
variable{P:Program}{tt:TT}{C:Cells}{bu:jt XR}{call:ah}{nt m:Nat}{ts:Nat->Prop}{x:Array Value}
def ItOk(P:Program)(C:Cells)(nt:Nat)(ps:Array Nat)(assign body:Code)(ntg:Nat)(gc:Code)(exI:Fr->Fr->St->XS):Prop:=
 ∀  (L D0:Nat)(r:Loop)(u5:Fr)(x:Array Value),r.state= .ready->r.pending=none->r.params=ps->r.assign=assign->r.body=body->r.tmps.size=nt->x[0]? =some (.func (.yield L) #[] #[])->
    ei P C none (J1 C L D0 r u5) (λt=>t=0) x ntg gc (exI u5)
theorem ei.rf{B gf:Nat}{mD:Func}{gc:Code}(hf:P.funcs[gf]? =some mD)(fY:(mD.name== "runtime.NumGoroutine")=false)(hb:mD.body=some gc)(agy:mD.results= #[]){g:Operand}{ps:Array Nat}{assign body:Code}{og:eZ}
   (hg:lA g=some og) {exI:Fr->Fr->St->XS} (hI:ItOk P C nt ps assign body mD.ntmps gc exI):ei P C none (OU B) ts x nt (.rangeFunc g ps assign body) (rfS gf mD.ntmps exI og):=by
 intro fr st outs ρ a w Q h hS hJ hx hQ;unfold rfS at h;rw[Oy]at h;unfold oY at h;split at h<;>first|(cases h;done)|skip
 rename_i v hv;dsimp only at h;split at h<;>first|(cases h;done)|skip
 rename_i f VF;split at h<;>first|(cases h;done)|skip
 rename_i qg;simp only[Za9,Nat.beq_eq]at qg;obtain⟨rfl,hle⟩:=qg;have hle:=Za1 hle;rw[EV]at h;split at h<;>first|(cases h;done)|skip
 rename_i j4 ho;obtain⟨_,iu⟩:=zL h;obtain⟨x',y',hval,kg,WW⟩:=(rF hg hS.F hv).Fw;have Dk:x'= #[]:=by have:=kg.mL;exact Array.toList_eq_nil_iff.1 this
 subst Dk;have hval:a.eval g= .func (.func f) #[] y':=by rw[<-hval];exact JR
 refine wpIn_rangeFunc λfn _=> ?_
 let L:Nat:=w.heap.size+1
 let r:Loop:={ state:= .ready,pending:=none,fn,tmps:=a.tmps,params:=ps,assign,body,defers:=w.heap.size }
 let W1:World:=(w.alloc (.deferred (some []))).alloc (.loop r)
 have hL1:W1.heap[L]? =some (.loop r):=by have:=World.alloc_heap_new (w.alloc (.deferred (some []))) (.loop r);rwa [World.size_alloc]at this
 have hold:∀k,k<w.heap.size->W1.heap[k]? =w.heap[k]? :=λk hk=>(heap_alloc_old _ _ (by simp;omega)).trans (heap_alloc_old w _ hk)
 have hK1:W1.heap[w.heap.size]? =some (.deferred (some [])):=(heap_alloc_old _ _ (by simp)).trans (World.alloc_heap_new w _);have hWs:W1.heap.size=w.heap.size+1+1:=by show((w.alloc _).alloc _).heap.size=_;simp
 have FN:¬mD.name= "runtime.NumGoroutine" :=by simpa using fY
 refine⟨L,[mark w.heap.size],W1,{ target:= .fn (.func f) y',args:= #[.func (.yield L) #[] #[]] },W1,f, #[.func (.yield L) #[] #[]]++y',W1,run_enterLoop_outer _ _ _ _ _,?_,λ_ _=>trivial,?_,λhd=>by simp[Fence.wide]at hd,?_⟩
 .simp only[resolve,rangeCall,hval,Deferred.ofValue,Sem.run_pure];simp[Act.eval]
 .simp[invoke,callFunc,hf,FN,hb]
 refine callsIn_of_wp hf hb trivial ?_;have Zg:bn ρ C st W1:=hS.W.grow (by omega) hold;have hlen:(#[Value.func (.yield L) #[] #[]]++y').size=VF.length+1:=by have:=WW.1;simp at this ⊢; omega
 obtain⟨X,hX⟩:∃X,X=(#[Value.func (.yield L) #[] #[]]++y')++Array.replicate (mD.ntmps - (#[Value.func (.yield L) #[] #[]]++y').size) undef:=⟨_,rfl⟩
 rw[<-hX];have hX0:X[0]? =some (.func (.yield L) #[] #[]):=by rw[hX,Zh9 (by simp;omega),Zh9 (by simp)];rfl
 have hXs:X.size=mD.ntmps:=by rw[hX,Array.size_append,Array.size_replicate,hlen];omega
 have hfar:∀k,w.heap.size<=k->∀b z,st.heap.get b=some z->(ρ b).aA≠k:=λk hk b z hb e=>by have:=(hS.W.live b z hb).2.1;omega
 have hJ0:J1 C L w.heap.size r fr ρ st W1 []:=⟨rfl,hL1,hK1,hfar L (by show w.heap.size<=w.heap.size+1;omega),hfar _ (Za3 _),hS.F⟩
 have hF0:fS ρ st.next.toNat C (params 1 VF .e) X:=AH VF y'.toList 1 .e WW (λk z hz=>by
   rw[hX,Zh9,Array.getElem?_append_right]<;>simp at hz ⊢
   .exact hz
   .have:=(Zd2.1 hz).1;omega) (λp v hp=>by rw[T.ej]at hp;cases hp)
 refine hI L w.heap.size r fr X rfl rfl rfl rfl rfl hS.size hX0 _ st j4 ρ ⟨X,[]⟩ W1 _ ho ⟨Zg,hF0,hXs,rfl⟩ hJ0 (λt _=>rfl) λo Z3 a3 w3 hp=> ?_
 obtain⟨Di,S3,k1,k2,E3,hJ3,_⟩:=hp;obtain⟨h3D,h3l,h3d,h3f,h3g,h3F⟩:=hJ3;obtain⟨adg,h2,qm⟩:=iu o Z3;obtain⟨e,Uo,OS⟩:=o;dsimp only at h2 S3 k1 k2 E3 h3f h3g h3F;have aie:(results mD a3.tmps).run P w3= .ok (.tuple #[]) w3:=by
   simp[results,agy]
 have hend:=run_endLoop (P:=P) h3l (by show LoopState.ready≠LoopState.busy;simp);have fin:adg=[(.normal,fr,OS)]->rangePost (Fc none) 0 P L Q { a with defers:=[mark w.heap.size]++a.defers } (.returned (.tuple #[])) w3:=λhe=>by
   (subst he;obtain⟨y,hy,hcv⟩:=qm _ (Zc9.2 rfl);refine⟨_,_,hend,?_⟩;show Q .normal _ _;have hLne:∀k,k≠L->(w3.putObj L (.loop { r with state:= .exhausted })).heap[k]? =w3.heap[k]? :=λk hk=>World.putObj_heap_other hk);have E:jW ρ st w Di OS (w3.putObj L (.loop { r with state:= .exhausted })):=by
     refine⟨E3.os,E3.tape,E3.output,?_,λk hk hn=> ?_,λb z hb=> ?_⟩
     .  rw[World.putObj_size];have:=E3.size;omega
     .  rw[hLne k (by show k≠w.heap.size+1;omega),E3.block k (by omega) hn,hold k hk]
     .  rcases E3.oU b z hb with h|h
        .exact .inl h
        .exact .inr (by omega)
   have hW3:=S3.W.SJ (o:= .loop { r with state:= .exhausted }) h3l h3f;have:=hQ y hy { a with defers:=[mark w.heap.size]++a.defers } _ (j5.Um OU.DR hcv ⟨Di,⟨hW3,h3F,hS.size,rfl⟩,k1,k2,E,?_,hx⟩)
   .rw[hcv.e]at this;exact this
   . obtain⟨hB,rs,h1,h2,h3⟩:=hJ;refine⟨Zd6 hB E.size,w.heap.size::rs,by show [mark w.heap.size]++a.defers=_;rw[h1];rfl,Zq6.2 ⟨λhm=> ?_,h2⟩,λk hk=> ?_⟩
     .  have:=HZ (h3 _ hm).2.1;omega
     .  rcases Za7.1 hk with rfl|hk
        .exact⟨hB,(hLne _ (by show w.heap.size≠w.heap.size+1;omega)).trans h3d,h3g⟩
        .obtain⟨g0,g1,g2⟩:=h3 k hk;obtain⟨f1,f2⟩:=Fo E (HZ g1) g2;exact⟨g0,f2.trans g1,f1⟩
 cases e with
 |exit i=>cases h2
 |normal=>exact⟨h3D,_,aie,fin (Zf4 h2).symm⟩
 |ret=>exact⟨h3D,_,aie,fin (Zf4 h2).symm⟩
end
def yJ:AV->Bool
 |.bool _=>true
 |.int _ _=>true
 |_=>false
def YB(acc:Option AV)(v:AV):Bool:=match acc with
 |none=>true
 |some u=>dN u v
def QK (rs:List C0)(st:St):List XO->Option AV->Option AV
 |[],acc=>acc
 |  (e, cD,aW)::l,acc=>match e with
    |.exit _=>none
    | _ =>match dA (λb=>mS b aW.heap) cD rs with
      | some vs=>match vs.all yJ&&T.sub HS st.heap aW.heap&&YB acc (iq vs)with
        |true=>QK rs st l (some (iq vs))
        |false=>none
      |none=>none
def mfn (ex:Fr->St->XS)(np:Nat)(rs:List C0)(args:List AV)(st:St):Option (AV×St):=match Nat.beq args.length np with
 |  true=>Ct args 0 .e λfr=>match ex fr st with
    |some outs=>match outs with
     |  [(e,cD,aW)]=>match e with
        |.exit _=>none
        | _=>match dA (λb=>mS b aW.heap) cD rs,Nat.ble st.next.toNat aW.next.toNat with
          |some vs,true=>some (iq vs,aW)
          |_,_=>none
     |  _=>match QK rs st outs none with
        |some v=>some (v,st)
        |none=>none
    |none=>none
 |false=>none
theorem aq.flat{ρ ρ':Pos->Loc}{n n':Nat}{C:Cells}{v:AV}{x:Value}(hf:yJ v=true)(h:aq ρ n C v x):aq ρ' n' C v x:=by
 cases v<;>first|(cases hf;done)|skip
 .have:=h.ir;subst this;exact .bool _
 .have:=h.iF;subst this;exact .int _ _
theorem aq.akF{ρ ρ':Pos->Loc}{n n':Nat}{C:Cells}{vs:List AV}{x:Value}(hf:vs.all yJ=true)(h:aq ρ n C (iq vs) x):aq ρ' n' C (iq vs) x:=by
 have tup:∀{x},aq ρ n C (.tuple vs) x->aq ρ' n' C (.tuple vs) x:=λ{x} h=>by
   cases h with
   |tuple l cs hl hh=>exact .tuple _ cs hl λi v v' hv FD=>(hh i v v' hv FD).flat (Ze5.1 hf v (Zc5 hv))
 unfold iq at h ⊢;split at h
 .exact h.flat (Ze5.1 hf _ (by simp))
 .exact tup h
theorem Us{rs:List C0}{st:St}{v:AV}:∀{l:List XO}{acc:Option AV},QK rs st l acc=some v->(∀u,acc=some u->u=v)/\∀o∈l,(∀i,o.1≠ .exit i)/\∃vs,dA (λb=>mS b o.2.2.heap) o.2.1 rs=some vs/\v=iq vs/\vs.all yJ=true/\∀p u,st.heap.get p=some u->o.2.2.heap.get p=some u
 |[],acc,h=>by
  simp only[QK]at h;subst h;exact⟨λu h=>(Zf4 h).symm,λo ho=>by cases ho⟩
 |(e,   cD,aW)::l,acc,h=>by
  unfold QK at h
  have key:∀vs,(dA (λb=>mS b aW.heap) cD rs=some vs)->(vs.all yJ&&T.sub HS st.heap aW.heap&&YB acc (iq vs))=true->QK rs st l (some (iq vs))=some v->(∀i,e≠ .exit i)->
        (∀u,acc=some u->u=v)/\∀o∈(e,cD,aW)::l,(∀i,o.1≠ .exit i)/\∃vs,dA (λb=>mS b o.2.2.heap) o.2.1 rs=some vs/\v=iq vs/\vs.all yJ=true/\∀p u,st.heap.get p=some u->o.2.2.heap.get p=some u:=by
    intro vs jf hb hr he;simp only[Za9]at hb;obtain⟨h1,h2⟩:=Us hr;have hv:=h1 _ rfl;refine⟨λu hu=> ?_,λo ho=> ?_⟩
    .   subst hu;rw[<-hv];exact rM hb.2
    .   rcases Za7.1 ho with rfl|ho
        .exact⟨he,vs,jf,hv.symm,hb.1.1,T.CE (λ_ _=>Ss) hb.1.2⟩
        .exact h2 o ho
  cases e with
  |exit i=>cases h
  | normal=>
    dsimp only at h;(split at h<;>first|(cases h;done)|skip);rename_i vs jf;cases hb:(vs.all yJ&&T.sub HS st.heap aW.heap&&YB acc (iq vs))with
    |false=>rw[hb]at h;cases h
    |true=>rw[hb]at h;exact key vs jf hb h (λi=>by simp)
  | ret=>
    dsimp only at h;(split at h<;>first|(cases h;done)|skip);rename_i vs jf;cases hb:(vs.all yJ&&T.sub HS st.heap aW.heap&&YB acc (iq vs))with
    |false=>rw[hb]at h;cases h
    |true=>rw[hb]at h;exact key vs jf hb h (λi=>by simp)
theorem Z4{ex:Fr->St->XS}{np:Nat}{rs:List C0}{args:List AV}{st st':St}{v:AV}(h:mfn ex np rs args st=some (v,st')):args.length=np/\st.next.toNat<=st'.next.toNat/\∃outs,ex (params 0 args .e) st=some outs/\
   ∀o∈outs,(∀i,o.1≠ .exit i)/\∃vs,dA (λb=>mS b o.2.2.heap) o.2.1 rs=some vs/\v=iq vs/\(st'=o.2.2\/(st'=st/\vs.all yJ=true/\∀p u,st.heap.get p=some u->o.2.2.heap.get p=some u)):=by
 unfold mfn at h;split at h<;>first|(cases h;done)|skip
 rename_i hlen;rw[EV]at h;split at h<;>first|(cases h;done)|skip
 rename_i outs ho;refine⟨H4 hlen,?_⟩;split at h
 . rename_i e cD aW
   have key:∀vs,dA (λb=>mS b aW.heap) cD rs=some vs->Nat.ble st.next.toNat aW.next.toNat=true->some (iq vs,aW)=some (v,st')->(∀i,e≠ .exit i)->
        st.next.toNat<=st'.next.toNat/\∃outs,ex (params 0 args .e) st=some outs/\∀o∈outs,(∀i,o.1≠ .exit i)/\∃vs,dA (λb=>mS b o.2.2.heap) o.2.1 rs=some vs/\v=iq vs/\(st'=o.2.2\/(st'=st/\vs.all yJ=true/\∀p u,st.heap.get p=some u->o.2.2.heap.get p=some u)):=by
    intro vs jf hn he cU;simp only[H0,Zb6]at he;obtain⟨rfl,rfl⟩:=he;refine⟨Za1 hn,_,ho,λo Z3=> ?_⟩;have:=Zc9.1 Z3;subst this;exact⟨cU,vs,jf,rfl,.inl rfl⟩
   cases e with
   |exit i=>cases h
   |normal=>
    dsimp only at h;(split at h<;>first|(cases h;done)|skip);rename_i vs jf hn;exact key vs jf hn h (λi=>by simp)
   |ret=>
    dsimp only at h;(split at h<;>first|(cases h;done)|skip);rename_i vs jf hn;exact key vs jf hn h (λi=>by simp)
 . (split at h<;>first|(cases h;done)|skip);rename_i u hu;simp only[H0,Zb6]at h;obtain⟨rfl,rfl⟩:=h;refine⟨Za3 _,_,ho,λo Z3=> ?_⟩;obtain⟨h1,vs,h2,h3,h4,h5⟩:=(Us hu).2 o Z3;exact⟨h1,vs,h2,h3,.inr ⟨rfl,h4,h5⟩⟩
section
variable{P:Program}{tt:TT}{C:Cells}
theorem OV{fn:Func}{tmps:Array Value}{R:Ending->World->Prop}{ρ:Pos->Loc}{st:St}:∀(rs:List Nat)(w:World),rs.Nodup->(∀r∈rs,w.heap[r]? =some (.deferred (some []))/\∀b x,st.heap.get b=some x->(ρ b).aA≠r)->bn ρ C st w->
  (∀w2,bn ρ C st w2->w2.heap.size=w.heap.size->(∀k,k∉rs->w2.heap[k]? =w.heap[k]?)->w2.os=w.os->w2.tape=w.tape->w2.output=w.output->∃v,(results fn tmps).run P w2= .ok v w2/\R (.returned v) w2)->
  LeavesInM (Fc none) 0 P fn tmps R (rs.map mark) .returning w
 |[],w,_,_,hW,h=>h w hW rfl (λ_ _=>rfl) rfl rfl rfl
 |r ::rs,w,M7,hr,hW,h=>by
  obtain⟨h1,h2⟩:=Zq6.1 M7;obtain⟨g1,g2⟩:=hr r (Zd8 ..);refine⟨by simp,.inl ⟨r,_,rfl,run_takeDeferred g1,?_⟩⟩;refine OV rs _ h2 (λk hk=> ?_) (hW.agL g1 g2) λw2 JO hs hk ho ht Vm=> ?_
  .obtain⟨f1,f2⟩:=hr k (Za0 _ hk);exact⟨by rw[World.putObj_heap_other (λe=>h1 (by subst e;exact hk))];exact f1,f2⟩
  .refine h w2 JO (by rw[hs,World.putObj_size]) (λk lB=> ?_) ho ht Vm;rw[hk k (λhm=>lB (Za0 _ hm)),World.putObj_heap_other (λe=>lB (by subst e;exact Zd8 ..))]
theorem ajJ(hT:cB P tt){f np:Nat}{fn:Func}{c:Code}{ex:Fr->St->XS}{rs:List C0}(hf:P.funcs[f]? =some fn)(fY:(fn.name== "runtime.NumGoroutine")=false)(hb:fn.body=some c)
  (hx:∀B,ei P C none (OU B) (λ_=>False) #[] fn.ntmps c ex) (hr:mP tt fn.results.toList=some rs) (hle:np<=fn.ntmps):kT P C f (mfn ex np rs) where
 mono args st v st' h:=(Z4 h).2.1
 runs ρ st w args v st' bQ h hW rD:=by
  obtain⟨hlen,hn,outs,ho,iu⟩:=Z4 h;have cC:(callFunc f bQ.toArray).run P w= .ok (.enter f bQ.toArray) w:=by
   have FN:¬fn.name= "runtime.NumGoroutine" :=(by simpa using fY);simp[callFunc,hf,FN,hb]
  rw[cC];simp only[Reaches];refine callsIn_wide (n:=0) |>.1 (callsIn_of_wp_marks hf hb trivial ?_);have ew:bQ.length<=fn.ntmps:=by rw[<-rD.1,hlen];exact hle
  have hS:nH fn.ntmps ρ C (params 0 args .e) st { tmps:=bQ.toArray++Array.replicate (fn.ntmps - bQ.toArray.size) undef,defers:=[] } w:=by
   refine⟨hW,?_,?_,rfl⟩
   .    refine AH args bQ 0 .e rD (λj x hx=> ?_) (λp v hp=>by rw[T.ej]at hp;cases hp);have hj:j<bQ.length:=(H5.1 hx).1;rw[Zc7,Zh9 (by simpa using hj)];simpa using hx
   .    simp;omega
  show c.wpIn (Fc none) 0 P _ _ w;refine hx w.heap.size _ st outs ρ _ w _ ho hS ⟨Za3 _,[],rfl,List.nodup_nil,λ_ h=>by cases h⟩ (λ_ h=>h.elim) λo Z3 a' w' hp=> ?_
  obtain⟨eI,S1,k1,k2,E,⟨hB,ks,hD,M7,El⟩,_⟩:=hp;obtain⟨cU,vs,jf,hv,q8⟩:=iu o Z3;simp only[wI]at jf;have key:LeavesInM (Fc none) 0 P fn a'.tmps (λ|.returned v',w''=>mW ρ C st w v st' v' w''|_,_=>False) a'.defers .returning w':=by
   (rw[hD];(refine OV ks w' M7 (λr hr=>(El r hr).2) S1.W λw2 JO hs Ek FG ht Vm=> ?_);obtain⟨y,Ej,FA⟩:=tq hT JO S1.F hr jf;refine⟨y,Ej,?_⟩;have xC:∀k,k<w.heap.size->w2.heap[k]? =w'.heap[k]? :=λk bw=>Ek k λhm=>by have:=(El k hm).1;omega);rcases q8 with rfl|⟨rfl,Y7,acP⟩
   .    rw[hv];exact⟨eI,FA,k1,k2,JO,⟨FG.trans E.os,ht.trans E.tape,Vm.trans E.output,by rw[hs];exact E.size,λk hk hn=>(xC k hk).trans (E.block k hk hn),E.oU⟩⟩
   .    rw[hv];refine⟨ρ,FA.akF Y7,λ_ _=>rfl,Za3 _,hW.back acP k1 JO (by rw[hs];exact E.size),⟨FG.trans E.os,ht.trans E.tape,Vm.trans E.output,by rw[hs];exact E.size,λk hk hn=>(xC k hk).trans (E.block k hk hn),λb x hb=>.inl ⟨b,x,hb,rfl⟩⟩⟩
  obtain⟨e,cD,aW⟩:=o;cases e with
  |exit i=>exact(cU i rfl).elim
  |normal=>exact key
  |ret=>exact key
def aif(P:Program)(tt:TT)(bu:jt XR)(m:Nat)(nt:Nat)(Xj:List AV->St->Option (List St))(c:Code):Option (Fr->St->XS):=match agM tt nt c with
 |some y=>some (agN bu Xj y)
 |  none=>match SK c with
    |true=>none
    |false=>CW P tt bu m [] nt c
def YC(P:Program)(tt:TT)(bu:jt XR)(m:Nat)(kp:List Nat)(nt gf:Nat)(mD:Func):Code->Option (Fr->St->XS)
 |  .rangeFunc g ps a b=>match lA g,mD.body with
    |some og,some gc=>match (rJ gc).all (λt=> !Nat.beq t 0)&&ps.toList.all (λp=>Nat.blt p nt)&&mD.results.isEmpty with
     |true=>some (rfS gf mD.ntmps (λu5=>zM (aif P tt bu m mD.ntmps (adh ps.toList (OT (zM (CW P tt bu m kp nt) m a) (zM (CW P tt bu m kp nt) m b)) u5)) m gc) og)
     |false=>none
    |_,_=>none
 |c=>CW P tt bu m kp nt c
def acr(P:Program)(tt:TT)(O:ff)(G:T dB)(m d:Nat)(kp:List Nat)(gf:Nat)(mD fn:Func):List AV->St->Option (AV×St):=
 match fn.body,mP tt fn.results.toList,Nat.ble (fn.params.size+fn.nfree) fn.ntmps with
 |some c,some rs,true=>mfn (zM (YC P tt (Hw none O G m d) m kp fn.ntmps gf mD) m c) (fn.params.size+fn.nfree) rs
 |_,_,_=>λ_ _=>none
theorem agP{bu:jt XR}{call:ah}{m nt gf B:Nat}{kp:List Nat}{mD:Func}(hT:cB P tt)(hc:CK none bu call)(cg:fG P C call)(gy:tj P tt C call)(hf:P.funcs[gf]? =some mD)(fY:(mD.name== "runtime.NumGoroutine")=false)
   {c:Code} {f:Fr->St->XS} (h:YC P tt bu m kp nt gf mD c=some f):ei P C none (OU B) (λ_=>False) #[] nt c f:=by
 have hR:∀{c f},CW P tt bu m kp nt c=some f->ei P C none (OU B) (λ_=>False) #[] nt c f:=λh=>SI hT hc cg gy OU.stays (λ_ _ h=>h) h
 unfold YC at h;split at h
 . rename_i g ps a b;(split at h<;>first|(cases h;done)|skip);rename_i og gc hg hgb;(split at h<;>first|(cases h;done)|skip);rename_i qg;simp only[H0]at h;subst h;simp only[Za9]at qg;obtain⟨⟨c1,c2⟩,c3⟩:=qg;have hd0:∀t∈rJ gc,¬(λt=>t=0) t:=λt ht e=>by have:=Ze5.1 c1 t ht;subst e;simp at this
   (refine ei.rf hf fY hgb (by simpa using c3) hg λL D0 r u5 x hr hp hps ha hb hs Dk=> ?_);have rd:∀c,ei P C (some L) RM (λ_=>False) #[] nt c (zM (CW P tt bu m kp nt) m c):=λc=>ei.sp RM.DR c (λ_ _ h=>h) λc f _ h=>SI hT hc cg gy RM.stays (λ_ _ h=>h) h
   have agO:adi P C L D0 r u5 (adh ps.toList (OT (zM (CW P tt bu m kp nt) m a) (zM (CW P tt bu m kp nt) m b)) u5):=ajG (by rw[hps]) hr hp hs (λp hp'=>by
     have:=Ze5.1 c2 p hp';simpa using this) (by rw[ha];exact rd a) (by rw[hb];exact rd b)
   (refine ei.sp J1.DR gc hd0 λc f dF h=> ?_);unfold aif at h;split at h
   .rename_i y hy;simp only[H0]at h;subst h;exact ei.yld hT hc cg Dk agO hy dF
   . (split at h<;>first|(cases h;done)|skip);exact SI hT hc cg gy J1.stays dF h
 .exact hR h
theorem afK(hm:P.follows .mixedOrders=true)(hT:cB P tt){O:ff}{G:T dB}(hO:rC P C O)(Ox:k8 O)(hG:Te P tt G){f gf m d:Nat}{kp:List Nat}{fn mD:Func}(hf:P.funcs[f]? =some fn)
   (fY:(fn.name== "runtime.NumGoroutine")=false) (hgf:P.funcs[gf]? =some mD) (YG:(mD.name== "runtime.NumGoroutine")=false):kT P C f (acr P tt O G m d kp gf mD fn):=by
 have cg:=KR (C:=C) hm hT hO Ox hG m d;have hcm:=Li (G:=G) Ox m d
 have key:∀c rs,fn.body=some c->mP tt fn.results.toList=some rs->Nat.ble (fn.params.size+fn.nfree) fn.ntmps=true->
    kT P C f (mfn (zM (YC P tt (Hw none O G m d) m kp fn.ntmps gf mD) m c) (fn.params.size+fn.nfree) rs):=λc rs hb hr hle=>
   ajJ hT hf fY hb (λB=>ei.sp OU.DR c (λ_ _ h=>h) λc f _ h=>agP hT (Lw none O G m d) cg (Lq hm hT cg hcm) hgf YG h) hr (Za1 hle)
 unfold acr;split
 .exact key _ _ (by assumption) (by assumption) (by assumption)
 .exact⟨λ_ _ _ _ h=>(by cases h),λ_ _ _ _ _ _ _ h=>(by cases h)⟩
end
end
section
open Go
def KQ:List AV->St->Option (AV×St)
 |[v],st=>some (v,st)
 |_,_=>none
theorem adU{P:Program}{C:Cells}{f:FuncId}{fn:Func}(hf:P.funcs[f]? =some fn)(fY:(fn.name== "runtime.NumGoroutine")=false)(hb:fn.body.isNone=true)(hx:Extern.findNext fn=none)
  (he:Extern.find fn=some Extern.AbiNoEscape.same):kT P C f KQ where
 mono args st v st' h:=by unfold KQ at h;split at h<;>cases h;exact Za3 _
 runs ρ st w args v st' bQ h hW hv:=by
  unfold KQ at h;split at h<;>cases h;obtain⟨x,xs,rfl,h1,h2⟩:=hv.cons_inv;have:=h2.mL;subst this;have cC:(callFunc f [x].toArray).run P w= .ok (.value x) w:=by rw[run_callFunc_extern hf fY hb hx he];show((Extern.AbiNoEscape.same #[x]).run P w).andThen _=_;have:Extern.AbiNoEscape.same #[x]=pure x:=rfl;rw[this];rfl
  rw[cC];exact⟨ρ,h1,λ_ _=>rfl,Za3 _,hW,jW.refl _ _ _⟩
theorem YJ{P:Program}{tt:TT}{O:ff}{G:T dB}{m d f:Nat}{fn:Func}{c:Code}(hm:P.follows .mixedOrders=true)(hT:cB P tt)(hG:Te P tt G)
  (hO:rC P (λ_=>none) O) (Ox:k8 O) (hf:P.funcs[f]? =some fn) (fY:¬fn.name= "runtime.NumGoroutine") (hb:fn.body=some c) {b:Bool}
  (h:Hw (R:=Bool) false O G m d f [] { heap:= .e,next:= .h } (λv _=>dN v (.bool b))=true) (w:World):
  Calls P f #[] w λe w'=>e= .returned (.bool b)/\Go.RowKit.Below w.heap.size w w':=by
 rw[Lw false O G m d]at h;unfold oY at h;split at h<;>first|(cases h;done)|skip
 rename_i x hx;obtain⟨v,aW⟩:=x;have hv:=rM h;simp only at hv;subst hv;have hr:=KR hm hT hO Ox hG m d (λ_=>⟨0,0,0⟩) { heap:= .e,next:= .h } w f [] (.bool b) aW [] hx (Db (λ_ _ h=>by cases h) (λ_ _ h=>by cases h)) az.nil;have cC:(callFunc f ([]:List Value).toArray).run P w= .ok (.enter f #[]) w:=by simp[callFunc,hf,fY,hb]
 rw[cC]at hr;refine Calls.mono hr λe w' he=> ?_
 cases e with
 |returned x=>
  obtain⟨ρ',h1,_,_,_,hE⟩:=he;have:=h1.ir;subst this;exact⟨rfl,hE.os,hE.tape,hE.output,hE.size,λk hk=>hE.block k hk λb x hb=>by rw[T.ej]at hb;cases hb⟩
 |panicked c=>exact he.elim
 |outgrown=>exact he.elim
def JB:Nat->AV->Bool
 |_,.bool _=>true
 |_,.int _ _=>true
 |_,.str _=>true
 |_,.av=>true
 |n+1,.agg l=>l.all (JB n)
 |n+1,.tuple l=>l.all (JB n)
 |n+1,.fl xs _=>xs.all λr=>r.all (JB n)
 |_,_=>false
theorem H6:∀(n:Nat){v:AV},JB n v=true->Plain v
 |0,v,h=>by cases v<;>first|(cases h;done)|exact .bool _|exact .int _ _|exact .str _|exact .av
 |n+1,v,h=>by
  cases v<;>first|(cases h;done)|exact .bool _|exact .int _ _|exact .str _|exact .av|skip
  .exact .fl λcs hc v hv=>H6 n (Ze5.1 (Ze5.1 h cs hc) v hv)
  .exact .agg λv hv=>H6 n (Ze5.1 h v hv)
  .exact .tuple λv hv=>H6 n (Ze5.1 h v hv)
theorem Plain.all{n:Nat}{l:List AV}(h:l.all (JB n)=true):∀v∈l,Plain v:=λv hv=>H6 n (Ze5.1 h v hv)
theorem adX{l:List AV}(h:l.all yJ=true):bR (.tuple l):= .tuple λv hv=>by have:=Ze5.1 h v hv;cases v<;>first|(cases this;done)|exact .bool _|exact .int _ _
def R9(d:Nat)(A:List AV)(r:AV):List AV->St->Option (AV×St):=λargs st=>match Dc (args.map (dJ st d)) A with
 |true=>some (r,st)
 |false=>none
theorem adW{P:Program}{C:Cells}{O:ff}{G:T dB}{m n f d:Nat}{A:List AV}{r:AV}(cg:∀C:Cells,fG P C (rE O G m n))(ha:∀a∈A,Plain a)(hr:Plain r)(hb:bR r)
  (h:Hw (R:=Bool) false O G m n f A { heap:= .e,next:= .h } (λv _=>dN v r)=true):kT P C f (R9 d A r):=by
 have h1:=aeK (C:=C) (d:=d) (As:=[A]) cg (λB hB=>by rw[Zc9.1 hB];exact ha) hr hb (by simpa using h);have key:∀args st x,R9 d A r args st=some x->Vw d [A] r args st=some x:=λargs st x hx=>by
  unfold R9 at hx;split at hx<;>first|(cases hx;done)|skip
  rename_i hq;simp only[H0]at hx;subst hx;exact aiK A (Zc9.2 rfl) (HR hq)
 exact⟨λargs st v st' hs=>h1.mono args st v st' (key _ _ _ hs),λρ st w args v st' bQ hs=>h1.runs ρ st w args v st' bQ (key _ _ _ hs)⟩
end
end Go.Ai
