/- Loops over maps in all orders, loops over functions. -/
import Derived.Test.YtlkadmkojjceiaaGreatDoorQEvalE
import Derived.Maps.RangeRun
import Derived.Laws.EntriesVeiled
import Derived.RangeFuncRecord
set_option linter.all false
namespace Go.Ai
noncomputable section
open Go Go.RowKit
section
variable{ρ ρ':Pos->Loc}{C:Cells}{st aN:St}{w w1 w':World}{nt r:Nat}{fr bO:Fr}{a a1:Act}
theorem aV.back(hW:aV ρ C st w)(hk:bt st aN)(aS:∀b:Pos,b.toNat<st.next.toNat->ρ' b=ρ b)(ey:aV ρ' C aN w1)(hs:w.heap.size<=w1.heap.size):aV ρ C st w1:=by
 refine⟨λb y hb=> ?_,hW.inj,λa u ha=>⟨(ey.dB a u ha).1,(hW.dB a u ha).2⟩,ey.whole⟩;obtain⟨g1,g2,g3⟩:=hW.live b y hb;obtain⟨_,_,k3⟩:=ey.live b y (hk b y hb);refine⟨g1,Zd0 g2 hs,?_⟩;rw[aS b g1]at k3;cases y with
 |cells cs fz=>
  obtain⟨c,e,fr,q1,q2,q3,q4,q5⟩:=k3;obtain⟨c0,e0,bP,p1,p2,p3,p4,p5⟩:=g3;refine⟨c,e,fr,q1,q2,q3,⟨q4.1,λi v x hv hx=> ?_⟩,q5⟩;obtain⟨y0,hy0,Ed⟩:=p4.get hv;exact(q4.2 i v x hv hx).down Ed aS
 |map es clock=>
  obtain⟨es',q1,q2,q3⟩:=k3;obtain⟨ZQ,p1,p2,p3⟩:=g3;refine⟨es',q1,q2,λi e e' he j9=> ?_⟩;obtain⟨a1,a2,a3⟩:=q3 i e e' he j9;have hi:i<ZQ.size:=by rw[<-p2];exact(Za3.1 he).1
  obtain⟨b1,b2,_⟩:=p3 i e _ he (Zf2 hi);exact⟨a1.down b1 aS,a2.down b2 aS,a3⟩
 |jq s pos=>exact k3
 |typed t cs=>
  obtain⟨c,fr,q1,q2,q3,q4,q5⟩:=k3;obtain⟨c0,bP,p1,p2,p3,p4,p5⟩:=g3;refine⟨c,fr,q1,q2,q3,⟨q4.1,λi v x hv hx=> ?_⟩,q5⟩;obtain⟨y0,hy0,Ed⟩:=p4.get hv;exact(q4.2 i v x hv hx).down Ed aS
theorem fo.sub{n:Nat}{tmps:Array Value}(h:fo ρ n C bO tmps)(hf:∀p v,fr.get p=some v->bO.get p=some v):fo ρ n C fr tmps:=λp v hp=>h p v (hf p v hp)
theorem mj.back(hS:mj nt ρ C fr st a w)(hf:∀p v,fr.get p=some v->bO.get p=some v)(hk:bt st aN)(h:fB nt ρ C st w bO aN a1 w1):
  mj nt ρ C fr st a1 w1/\jJ ρ st w ρ st w1:=by
 obtain⟨dM,S1,k1,k2,E⟩:=h;refine⟨⟨hS.W.back hk k1 S1.W E.size,λp v hp=> ?_,S1.size,S1.defers⟩,⟨E.os,E.tape,E.output,E.size,E.block,λb x hb=>.inl ⟨b,x,hb,rfl⟩⟩⟩;obtain⟨x,hx,hv⟩:=S1.F p v (hf p v hp);obtain⟨y,_,hy⟩:=hS.F p v hp;exact⟨x,hx,hv.down hy k1⟩
theorem aV.iter{m:Option Nat}{s c:Nat}{seen:Array Nat}(hW:aV ρ C st w)(hr:w.heap[r]? =some (.mapIter m s seen c))(hn:∀b x,st.heap.get b=some x->(ρ b).ax≠r)
   (hs:w'.heap.size=w.heap.size) (hk:∀k,k≠r->w'.heap[k]? =w.heap[k]?):aV ρ C st w':=by
 have cF:∀a v,C a=some v->a.block≠r:=λa v ha e=>by have h:=(hW.dB a v ha).1;unfold World.cell? at h;rw[e,hr]at h;cases h
 refine⟨λb x hb=> ?_,hW.inj,λa v ha=> ?_,λa v ha o ho=> ?_⟩
 .obtain⟨h1,h2,h3⟩:=hW.live b x hb;exact⟨h1,by rw[hs];exact h2,h3.of_heap (hk _ (hn b x hb))⟩
 .obtain⟨h1,h2⟩:=hW.dB a v ha;exact⟨by rw[World.cell?_of_block (w:=w) (hk _ (cF a v ha))];exact h1,h2⟩
 .rw[World.cell?_of_block (w:=w) (a:=⟨a.block,o,none⟩) (hk _ (cF a v ha))];exact hW.whole a v ha o ho
end
def T.sub{α:Type}(f:α->α->Bool):T α->T α->Bool
 |.e,_=>true
 |.n l v r,.e=>(match v with|none=>true|some _=>false)&&T.sub f l .e&&T.sub f r .e
 |  .n l v r,.n l' v' r'=>(match v with
    |none=>true
    |some a=>match v' with
     |some b=>f a b
     |none=>false)&&T.sub f l l'&&T.sub f r r'
theorem T.xW{α:Type}{f:α->α->Bool}(hf:∀a b,f a b=true->a=b):∀{t u:T α},T.sub f t u=true->∀p v,t.get p=some v->u.get p=some v
 |.e,_,_,p,v,h=>by rw[T.dD]at h;cases h
 | .n l x r,.e,hs,p,v,h=>by
   simp only[T.sub,Za8]at hs;cases p with
   |h=>simp only[T.get]at h;subst h;simp at hs
   |o p=>have:=T.xW hf hs.1.2 p v h;rw[T.dD]at this;cases this
   |i p=>have:=T.xW hf hs.2 p v h;rw[T.dD]at this;cases this
 | .n l x r,.n l' x' r',hs,p,v,h=>by
   simp only[T.sub,Za8]at hs;cases p with
   |h=>
    simp only[T.get]at h ⊢; subst h;have h1:=hs.1.1;cases x' with
    |none=>simp at h1
    |some y=>simp at h1;rw[hf _ _ h1]
   |o p=>exact T.xW hf hs.1.2 p v h
   |i p=>exact T.xW hf hs.2 p v h
structure RG where
 t17:Nat
 t18:Nat
 t19:Nat
 t20:Nat
 l2:List bh
 x:dU
 l4:List bh
 body:AC
 ds:List Pos
abbrev XR:=Option (js×Fr×St)
section
variable(aY:iF XR)(m:Nat)(g:RG)
def exK(c:AC)(fr:Fr)(st:St):XR:=M9 none aY m c fr st (λfr st=>some (.normal,fr,st)) (λi fr st=>some (.exit i,fr,st)) (λfr st=>some (.ret,fr,st))
def abP(k v:AV)(fr:Fr)(st:St):XR:=
 mX (some (.tuple [.bool true,k,v])) (key g.t18) fr λfr=>mX (some (.bool true)) (key g.t19) fr λfr=>mX (some (.tuple [k,v])) (key g.t20) fr λfr=>
    OU none aY g.l4 fr st λfr st=>exK aY m g.body fr st
def Pm(clock:Nat):List (AV×AV×Nat)->Bool
 |[]=>true
 |e::es=>Nat.blt e.2.2 clock&&es.all (λx=> !Nat.beq x.2.2 e.2.2)&&Pm clock es
end
section
variable{P:Program}{tt:TT}{C:Cells}
def IY(P:Program)(C:Cells)(nt:Nat)(c:Code)(ex:Fr->St->XR):Prop:=
 ∀  (fr aW:Fr)(st st':St)(e:js)(ρ:Pos->Loc)(a:Act)(w:World)(Q:Exit->Act->World->Prop),ex fr st=some (e,aW,st')->mj nt ρ C fr st a w->
    (∀a' w',fB nt ρ C st w aW st' a' w'->Q (mC e) a' w')->eE P c Q a w
theorem aaf{aY:iF XR}{call:ai}(hc:CK none aY call)(m:Nat)(c:AC)(fr:Fr)(st:St):exK aY m c fr st=exec call m c fr st:=by
 unfold exK;rw[Me none hc];cases exec call m c fr st with
 |none=>rfl
 |some x=>obtain⟨e,fr,st⟩:=x;cases e<;>rfl
theorem IY.ac(hT:bL P tt){aY:iF XR}{call:ai}(hc:CK none aY call)(bI:eO P C call)(fJ:pF P tt C call){nt m:Nat}{c:Code}{a:AC}(h:qe tt nt c=some a):
 IY P C nt c (exK aY m a):=λfr aW st st' e ρ ac w Q hx hS hQ=>(oF hT bI fJ m).1 c a fr aW st st' e ρ ac w Q h (by rw[<-aaf hc];exact hx) hS hQ
def TQ:List Pos->Fr->Fr
 |[],fr=>fr
 |p::ps,fr=>TQ ps (fr.put none p)
theorem Pn:∀(ps:List Pos)(fr:Fr)(p:Pos)(v:AV),(TQ ps fr).get p=some v->fr.get p=some v
 |[],_,_,_,h=>h
 |q::ps,fr,p,v,h=>by
  have h:=Pn ps _ p v h;by_cases hq:q=p
  .subst hq;rw[T.eH]at h;cases h
  .rwa [T.bw _ hq]at h
theorem Wx{clock:Nat}:∀{es:List (AV×AV×Nat)},Pm clock es=true->(∀e∈es,e.2.2<clock)/\(es.map (·.2.2)).Nodup
 |[],_=>⟨λ_ h=>by simp at h,by simp⟩
 |e ::es,h=>by
  simp only[Pm,Za8]at h;obtain⟨⟨h1,h2⟩,h3⟩:=h;obtain⟨i1,i2⟩:=Wx h3;refine⟨λx hx=> ?_,?_⟩
  . rcases Zb1.1 hx with rfl|hx
    .exact Za4 h1
    .exact i1 x hx
  .rw[Zd6,Zq6];refine⟨λhm=> ?_,i2⟩;obtain⟨x,hx,he⟩:=Zg0.1 hm;have:=Zd3.1 h2 x hx;simp[he]at this
def Mv(aY:iF XR)(m:Nat)(g:RG)(A B:Fr×St)(e:AV×AV×Nat):Prop:=
 ∃f1 s1,abP aY m g e.1 e.2.1 A.1 A.2=some (.normal,f1,s1)/\(∀p v,B.1.get p=some v->f1.get p=some v)/\((B=A/\bt A.2 s1)\/B.2=s1)
section
variable{aY:iF XR}{call:ai}{nt m:Nat}{g:RG}{mo:Array Oper}{o0 o1 o4:Oper}{i3 i4 b0 b1:Nat}{rest:Code}{Ex:List bh}{bs:List Nat}
def XV(g:RG)(o0 o1:Oper)(mo:Array Oper)(rest:Code)(i3 i4 b0 b1:Nat):Code:=
 .seq (.region i3 #[o0,o1] false) (.seq (.cond (.tmp g.t19) .skip (.exit b0)) (.block b1 (.seq (.region i4 mo false) rest)))
structure abQ(tt:TT)(nt:Nat)(g:RG)(o0 o1 o4:Oper)(mo:Array Oper)(rest:Code)(Ex:List bh)(bs:List Nat):Prop where
 n0:o0.op= .next (.tmp g.t17) false/\o0.guard=none/\o0.dst=some g.t18
 n1:o1.op= .extract (.tmp g.t18) 0/\o1.guard=none/\o1.dst=some g.t19
 n4:mo[0]? =some o4/\o4.op= .entry (.tmp g.t17)/\o4.guard=none/\o4.dst=some g.t20
 lt:g.t17<nt/\g.t18<nt/\g.t19<nt/\g.t20<nt
 ne:g.t17≠g.t18/\g.t17≠g.t19/\g.t18≠g.t19
 c4:mH tt nt mo mo.toList bs=some Ex
 l4:Ex.tail=g.l4
 r4:qe tt nt rest=some g.body
structure LI(C:Cells)(nt:Nat)(g:RG)(X:Fr×St)(b zM:Pos)(es:List (AV×AV×Nat))(since r:Nat)(jW:Pos->Loc)(Ey:St)(w0:World)(seen:Array Nat)(ρ:Pos->Loc)(a:Act)(w:World):Prop where
 S:mj nt ρ C X.1 X.2 a w
 k1:∀p:Pos,p.toNat<Ey.next.toNat->ρ p=jW p
 k2:Ey.next.toNat<=X.2.next.toNat
 E:jJ jW Ey w0 ρ X.2 w
 ip:(ρ zM).ax=r/\(ρ zM).base=0/\zM.toNat<X.2.next.toNat
 at17:X.1.get (key g.t17)=some (.ptr zM 0)
 mp:X.2.heap.get b=some (.map es since)
 it:∃c,w.heap[r]? =some (.mapIter (some (ρ b).ax) since seen c)/\since<=c
 Ld:∀p x,X.2.heap.get p=some x->(ρ p).ax≠r
 late:w0.heap.size<=r
 cl:X.1.get (key g.t18)=none/\X.1.get (key g.t19)=none
theorem uU{ops:Array Oper}{K:Act->World->Prop}{i:Nat}{rest:List Nat}{o:Oper}{a:Act}{w w':World}{v:Value}(ho:ops[i]? =some o)(hg:o.guard=none)
  (hr:(execOp a.eval o).run P w= .ok (.value v) w') (hQ:oC P ops K rest (a.put o.dst v) w'):oC P ops K (i::rest) a w:=by
 unfold oC Bf;rw[ho];simp only[Region.wanted,hg,Zg5];unfold O3;rw[hr];exact hQ
theorem eval_put{a:Act}{t:Nat}{v:Value}(h:t<a.tmps.size):(a.put (some t) v).eval (.tmp t)=v:=by
 simp[Act.put,Act.eval,h]
theorem Lf{a:Act}{t s:Nat}{v:Value}(h:t≠s):(a.put (some t) v).eval (.tmp s)=a.eval (.tmp s):=by
 simp[Act.put,Act.eval,Ze4 h]
theorem LI.round(hT:bL P tt)(hc:CK none aY call)(bI:eO P C call)(fJ:pF P tt C call)(hR:abQ tt nt g o0 o1 o4 mo rest Ex bs)
   {A:Fr×St} {b zM:Pos} {es:List (AV×AV×Nat)} {since r:Nat} {jW:Pos->Loc} {Ey:St} {w0:World} {seen:Array Nat} {ρ:Pos->Loc} {a:Act} {w:World}
   (L:LI C nt g A b zM es since r jW Ey w0 seen ρ a w) (dF:Pm since es=true) {Q:Exit->Act->World->Prop}
   (XW:(∀e∈es,seen.contains e.2.2=true)->∀a',mj nt ρ C A.1 A.2 a' w->Q (.exit b0) a' w)
   (afm:∀e∈es,seen.contains e.2.2=false->∃B,Mv aY m g A B e/\B.1.get (key g.t17)=some (.ptr zM 0)/\B.2.heap.get b=some (.map es since)/\B.1.get (key g.t18)=none/\B.1.get (key g.t19)=none/\
     ∀ρ' a' w',LI C nt g B b zM es since r jW Ey w0 (seen.push e.2.2) ρ' a' w'->Q .normal a' w'):
   eE P (XV g o0 o1 mo rest i3 i4 b0 b1) Q a w:=by
 obtain⟨c,hr,hsc⟩:=L.it;obtain⟨g1,g2,es',q1,q2,q3⟩:=L.S.W.live b _ L.mp;obtain⟨aT,Hs⟩:=Wx dF;have Lg:∀(i:Nat)(e':MapEntry),es'[i]? =some e'->∃e,es[i]? =some e/\aj ρ A.2.next.toNat C e.1 e'.key/\aj ρ A.2.next.toNat C e.2.1 e'.val/\e.2.2=e'.born:=λi e' h=>by
   have hi:i<es.length:=(by rw[q2];exact(Zd2.1 h).1);exact⟨_,H5 hi,q3 i _ e' (H5 hi) h⟩
 have hold:∀x∈es'.toList,x.born<since:=λx hx=>by
   obtain⟨i,hi⟩:=Zf5.1 hx;obtain⟨e,h1,_,_,h2⟩:=Lg i x (by simpa using hi);rw[<-h2];exact aT e (Zb5 h1)
 have jK:es'.toList.map (·.born)=es.map (·.2.2):=by
   apply Zi3;intro i;simp only[Zc1,Zg7];cases h:es'[i]? with
   | none=>
     have:es.length<=i:=(by rw[q2];exact Array.getElem?_eq_none_iff.1 h);rw[Zc0 this];rfl
   | some x=>
     obtain⟨e,h1,_,_,h2⟩:=Lg i x h;rw[h1];simp[h2]
 have Ql:a.eval (.tmp g.t17)= .pointer (some ⟨r,0,none⟩):=by
   have h:=ov (x:= .tmp g.t17) (o:= .t (key g.t17)) rfl L.S.F (v:= .ptr zM 0) L.at17;obtain⟨_,h⟩:=h.e9;rw[h,L.ip.1,L.ip.2.1]
 have fc:=L.S.size;have s18:∀(v:Value),g.t18<(a.put (some g.t18) v).tmps.size:=λv=>by rw[Act.ij,fc];exact hR.lt.2.1
 have hrl:r<w.heap.size:=(Zd2.1 hr).1;unfold XV;apply Bg;apply Dr;show oC P _ _ [0,1] a w;rcases run_next_at (P:=P) w o0.type r (ρ b).ax since c seen es' since hr q1 hold hsc with⟨h0,b6⟩|⟨e',j9,w1,Wy,b6⟩
 . refine uU (i:=0) (o:=o0) rfl hR.n0.2.1 (v:= .tuple #[.bool false]) (w':=w) (by simp[execOp,hR.n0.1,Ql,b6,Result.andThen]) ?_;rw[hR.n0.2.2];refine uU (i:=1) (o:=o1) rfl hR.n1.2.1 (v:= .bool false) (w':=w) (by simp[execOp,hR.n1.1,eval_put (fc ▸hR.lt.2.1),Instr.extract,Result.andThen]) ?_;rw[hR.n1.2.2];apply Bg;refine Nt (eval_put (by rw[Act.ij,fc];exact hR.lt.2.2.1)) (ZA ?_);refine XW (λe he=> ?_) _ ⟨L.S.W,λp v hp=> ?_,by rw[Act.ij,Act.ij];exact fc,by rw[Act.jf,Act.jf];exact L.S.defers⟩
   .obtain⟨i,hi⟩:=Zf5.1 he;have KR:i<es'.size:=(by rw[<-q2];exact(Za3.1 hi).1);obtain⟨e2,h1,_,_,h2⟩:=Lg i _ (Zf2 KR);rw[hi]at h1;cases h1;rw[h2];have hem:leftOf es' seen= #[]:=Zn9 h0;unfold leftOf at hem;rw[Array.filter_eq_empty_iff]at hem;have:=hem es'[i] (Array.getElem_mem KR);simpa using this
   .rw[CH (λh=>by simp at h;subst h;rw[L.cl.2]at hp;cases hp),CH (λh=>by simp at h;subst h;rw[L.cl.1]at hp;cases hp)];exact L.S.F p v hp
 . have hr1:w1.heap[r]? =some (.mapIter (some (ρ b).ax) since seen c):=(by rcases Wy with rfl|rfl<;>exact hr);have yJ:w1.heap[(ρ b).ax]? =some (.map es' since):=(by rcases Wy with rfl|rfl<;>exact q1);have FF:=Go.MapKept.heap_set (o':= .mapIter (some (ρ b).ax) since (seen.push e'.born) since) hr1;obtain⟨w2,nI⟩:∃w2,w2=Go.ChangeMaps.setBlock w1 r (.mapIter (some (ρ b).ax) since (seen.push e'.born) since):=⟨_,rfl⟩
   (change (Go.ChangeMaps.setBlock w1 r (.mapIter (some (ρ b).ax) since (seen.push e'.born) since)).heap[r]? =_/\∀k,k≠r->(Go.ChangeMaps.setBlock w1 r (.mapIter (some (ρ b).ax) since (seen.push e'.born) since)).heap[k]? =_ at FF;rw[<-nI]at FF b6;have pI:w2.heap.size=w.heap.size:=(by rw[nI];rcases Wy with rfl|rfl<;>simp[Go.ChangeMaps.setBlock]<;>rfl);have iu:∀k,k≠r->w2.heap[k]? =w.heap[k]? :=λk hk=>(FF.2 k hk).trans (by rcases Wy with rfl|rfl<;>rfl));have Be:w2.os=w.os/\w2.tape=w.tape/\w2.output=w.output:=(by rw[nI];rcases Wy with rfl|rfl<;>exact⟨rfl,rfl,rfl⟩);clear nI Wy;have Ef:aV ρ C A.2 w2:=L.S.W.iter hr L.Ld pI iu;have hen:(Instr.entry (.pointer (some ⟨r,0,none⟩))).run P w2= .ok (.tuple #[e'.key,e'.val]) w2:=
     run_entry_at _ r _ since seen es' since e' FF.1 ((iu _ (L.Ld b _ L.mp)).trans q1) (by simp[leftOf]at j9;simpa using j9.1) (jK ▸Hs)
   obtain⟨i,hi⟩:=Zf5.1 j9;have Md:e'∈es'.toList/\seen.contains e'.born=false:=(by simpa [leftOf]using j9);obtain⟨j,hj⟩:=Zf5.1 Md.1;obtain⟨e,h1,v1,v2,h2⟩:=Lg j e' (by simpa using hj);obtain⟨B,⟨f1,s1,hx,hf,hB⟩,b17,bm,b18,b19,hQ⟩:=afm e (Zb5 h1) (by rw[h2];exact Md.2);refine uU (i:=0) (o:=o0) rfl hR.n0.2.1 (v:= .tuple #[.bool true,e'.key,e'.val]) (w':=w2) (by simp[execOp,hR.n0.1,Ql,b6,Result.andThen]) ?_;rw[hR.n0.2.2];refine uU (i:=1) (o:=o1) rfl hR.n1.2.1 (v:= .bool true) (w':=w2) (by simp[execOp,hR.n1.1,eval_put (fc ▸hR.lt.2.1),Instr.extract,Result.andThen]) ?_;rw[hR.n1.2.2];apply Bg;refine O4 (eval_put (by rw[Act.ij,fc];exact hR.lt.2.2.1)) (Zz ?_);apply Ns;apply Bg;apply Dr;have CA:mo.size=g.l4.length+1:=(by have h:Ex.length=mo.size:=(by rw[(mZ hR.c4).1,Zf6]);obtain⟨h4,_⟩:=Zd2.1 hR.n4.1;have h4:0<mo.size:=h4;rw[<-hR.l4,List.length_tail];omega);rw[CA,Zl3,Zl8];refine uU (i:=0) (o:=o4) hR.n4.1 hR.n4.2.2.1 (v:= .tuple #[e'.key,e'.val]) (w':=w2) (by simp[execOp,hR.n4.2.1,Lf hR.ne.1.symm,Lf hR.ne.2.1.symm,Ql,hen,Result.andThen]) ?_;rw[hR.n4.2.2.2];unfold abP at hx;simp only[iz]at hx;rw[J9 none hc]at hx;unfold m5 at hx;(split at hx<;>first|(cases hx;done)|skip);rename_i y hy;simp only[aaf hc]at hx;have hvt:aj ρ A.2.next.toNat C (.tuple [.bool true,e.1,e.2.1]) (.tuple #[.bool true,e'.key,e'.val]):= .qE ((au.nil.cons v2).cons v1 |>.cons (.bool true));have hve:aj ρ A.2.next.toNat C (.tuple [e.1,e.2.1]) (.tuple #[e'.key,e'.val]):= .qE ((au.nil.cons v2).cons v1);have F1:=fo.put (nt:=nt) (d:=some g.t18) L.S.F fc (λ_ h=>by cases h;exact hR.lt.2.1) hvt;have F2:=fo.put (nt:=nt) (d:=some g.t19) F1 (by rw[Act.ij];exact fc) (λ_ h=>by cases h;exact hR.lt.2.2.1) (.bool true);have F3:=fo.put (nt:=nt) (d:=some g.t20) F2 (by rw[Act.ij,Act.ij];exact fc) (λ_ h=>by cases h;exact hR.lt.2.2.2) hve;refine oE (nt:=nt) hT bI g.l4 1 _ y.1 A.2 y.2 ρ _ w2 (λi ao hi=> ?_) hy ⟨Ef,F3,by rw[Act.ij,Act.ij,Act.ij];exact fc,by rw[Act.jf,Act.jf,Act.jf];exact L.S.defers⟩ λa3 w3 hp=> ?_
   .rw[<-hR.l4,List.getElem?_tail]at hi;obtain⟨o,k1,k2,_⟩:=xR hR.c4 (i+1) ao hi;exact⟨o,by rw[Nat.add_comm];exact k1,k2⟩
   obtain⟨yS,S3,k1,k2,k3⟩:=hp;(refine(oF hT bI fJ m).1 rest g.body y.1 f1 y.2 s1 .normal yS a3 w3 _ hR.r4 hx S3 λa4 w4 hp=> ?_);have hP:=fB.trans k1 k2 k3 hp;show Q .normal a4 w4;have S2:mj nt ρ C A.1 A.2 a w2:=⟨Ef,L.S.F,fc,L.S.defers⟩
   have Zr:jJ jW Ey w0 ρ A.2 w2:=⟨Be.1.trans L.E.os,Be.2.1.trans L.E.tape,Be.2.2.trans L.E.output,by rw[pI];exact L.E.size,λk hk hn=>(iu k (by have:=L.late;omega)).trans (L.E.block k hk hn),λb x hb=>L.E.mW b x hb⟩
   obtain⟨TR,S4,l1,l2,E4⟩:∃TR,mj nt TR C B.1 B.2 a4 w4/\(∀p:Pos,p.toNat<A.2.next.toNat->TR p=ρ p)/\A.2.next.toNat<=B.2.next.toNat/\jJ ρ A.2 w2 TR B.2 w4:=by
     rcases hB with⟨rfl,hk⟩|hB
     .  obtain⟨S,E⟩:=S2.back hf hk hP;exact⟨ρ,S,λ_ _=>rfl,Za6 _,E⟩
     .  obtain⟨TR,S,l1,l2,E⟩:=hP;rw[<-hB]at S l2 E;exact⟨TR,⟨S.W,S.F.sub hf,S.size,S.defers⟩,l1,l2,E⟩
   have h4r:w4.heap[r]? =some (.mapIter (some (ρ b).ax) since (seen.push e.2.2) since):=(by rw[E4.block r (by rw[pI];exact hrl) L.Ld,h2];exact FF.1);refine hQ TR a4 w4 ⟨S4,λp hp=>(l1 p (Zd0 hp L.k2)).trans (L.k1 p hp),Zc8 L.k2 l2,Zr.trans E4,?_,b17,bm,⟨since,?_,Za6 _⟩,λp x hp=> ?_,L.late,b18,b19⟩
   .rw[l1 zM L.ip.2.2];exact⟨L.ip.1,L.ip.2.1,Zd0 L.ip.2.2 l2⟩
   .rw[l1 b g1];exact h4r
   . rcases E4.mW p x hp with⟨p',x',hp',e1⟩|h
     .  rw[<-e1];exact L.Ld p' x' hp'
     .  rw[pI]at h;omega
theorem Bt:∀(ps:List Pos)(fr:Fr)(p:Pos),p∈ps\/fr.get p=none->(TQ ps fr).get p=none
 |[],_,_,h=>h.elim (λh=>by simp at h) id
 |q ::ps,fr,p,h=>Bt ps _ p (by
  by_cases hq:q=p
  .subst hq;exact .inr (T.eH _ _ _)
  . rcases h with h|h
    .   rcases Zb1.1 h with h|h
        .exact(hq h.symm).elim
        .exact .inl h
    .   exact .inr (by rw[T.bw _ hq];exact h))
theorem aV.slot{ρ ρ':Pos->Loc}{st:St}{w:World}(hW:aV ρ C st w)(aS:∀p:Pos,p.toNat<st.next.toNat->ρ' p=ρ p):aV ρ' C ⟨st.heap,st.next.succ⟩ w:=by
 have hl:∀p x,st.heap.get p=some x->ρ' p=ρ p:=λp x hp=>aS p (hW.live p x hp).1
 refine⟨λp x hp=> ?_,λp q x y hp hq h=> ?_,λa v ha=>⟨(hW.dB a v ha).1,λp x hp=> ?_⟩,hW.whole⟩
 .obtain⟨h1,h2,h3⟩:=hW.live p x hp;rw[hl p x hp];exact⟨by rw[Pos.az];exact Nat.lt_succ_of_lt h1,h2,h3.mono aS (by rw[Pos.az];omega)⟩
 .rw[hl p x hp,hl q y hq]at h;exact hW.inj p q x y hp hq h
 .rw[hl p x hp];exact(hW.dB a v ha).2 p x hp
end
end
section
variable{P:Program}{tt:TT}{C:Cells}
def idxS:List AV->St->Option (AV×St)
 |[.str a,.int .u8 c],st=>some (.int .i64 (Lib.indexByte (a.map UInt8.ofNat) c.toNat.toUInt8),st)
 |_,_=>none
end
def acY (tt :TT)(nt:Nat)(ds:List Nat)(b0 b0' t19:Nat)(o2 o0 o1 o4:Oper)(Od Ex:List bh)(body:AC):Option (RG×Nat):=
 match o2.op,o0.op,o1.op,o4.op with
 |  .range ty x,.next (.tmp a0) false,.extract (.tmp a1) 0,.entry (.tmp a4)=>match o2.dst,o0.dst,o1.dst,o4.dst with
    |some t17,some t18,some c,some t20=>match o2.guard,o0.guard,o1.guard,o4.guard with
     |  none,none,none,none=>match kz x with
        |some xo=>match Nat.beq a0 t17&&Nat.beq a1 t18&&Nat.beq a4 t17&&Nat.beq c t19&&Nat.beq b0 b0'&&Nat.blt t17 nt&&Nat.blt t18 nt&&Nat.blt t19 nt&&Nat.blt t20 nt&&
            !Nat.beq t17 t18&& !Nat.beq t17 t19&& !Nat.beq t18 t19 with
         |true=>some (⟨t17,t18,t19,t20,Od.dropLast,xo,Ex.tail,body,key t18::key t19::ds.map key⟩,ty)
         |false=>none
        |_=>none
     |_,_,_,_=>none
    |_,_,_,_=>none
 |_,_,_,_=>none
def TU (tt:TT)(nt:Nat):Code->Option (RG×Nat)
 |  .seq (.region _ vW false) (.block b0 (.loop (.seq (.region _ ⟨[o0,o1]⟩ false) (.seq (.cond (.tmp t19) .skip (.exit b0')) (.block _ (.seq (.region _ mo false) rest))))))=>
    match vW[vW.size - 1]?,mo[0]? with
    |some o2,some o4=>match mH tt nt vW vW.toList [],mH tt nt mo mo.toList []with
     |  some Od,some Ex=>match qe tt nt rest with
        |some body=>acY tt nt (mo.toList.filterMap (·.dst)++oD rest) b0 b0' t19 o2 o0 o1 o4 Od Ex body
        |none=>none
     |_,_=>none
    |_,_=>none
 |_=>none
section
variable{P:Program}{tt:TT}{C:Cells}{aY:iF XR}{call:ai}{nt m:Nat}
def Mu:Code->Bool
 |.region _ ops _=>ops.toList.any λo=>match o.op with|.range _ _=>true|_=>false
 |.seq a b=>Mu a||Mu b
 |.cond _ a b=>Mu a||Mu b
 |.block _ a=>Mu a
 |.loop a=>Mu a
 |_=>false
end
abbrev XO:=js×Fr×St
abbrev XS:=Option (List XO)
def TV(y x:XO):Bool:=match y.1,x.1 with
 |.normal,.normal=>T.sub fj y.2.1 x.2.1&&T.sub CN y.2.2.heap x.2.2.heap&&Pos.beq y.2.2.next x.2.2.next
 |_,_=>false
def Po:List XO->List XO->List XO
 |[],acc=>acc
 |  x::l,acc=>match acc.any (λy=>TV y x)with
    |true=>Po l acc
    |false=>Po l (x::acc)
def Gh{α:Type}(k:α->XS):List α->List XO->XS
 |[],acc=>some acc
 |  e::l,acc=>match k e with
    |some a=>Gh k l (Po a acc)
    |none=>none
structure Cv(y x:XO):Prop where
 e:y.1=x.1
 f:∀p v,y.2.1.get p=some v->x.2.1.get p=some v
 h:∀p v,y.2.2.heap.get p=some v->x.2.2.heap.get p=some v
 n:y.2.2.next=x.2.2.next
theorem Cv.refl(x:XO):Cv x x:=⟨rfl,λ_ _ h=>h,λ_ _ h=>h,rfl⟩
theorem aag{y x:XO}(h:TV y x=true):Cv y x:=by
 unfold TV at h;split at h<;>first|(cases h;done)|skip
 rename_i h1 h2;simp only[Za8]at h;exact⟨h1.trans h2.symm,T.xW (λ_ _=>oI) h.1.1,T.xW (λ_ _=>Mf) h.1.2,Pos.beq_eq.1 h.2⟩
theorem IZ:∀{l acc:List XO},(∀y∈acc,y∈Po l acc)/\∀x∈l,∃y∈Po l acc,Cv y x
 |[],acc=>⟨λy hy=>hy,λx hx=>by cases hx⟩
 |x ::l,acc=>by
  unfold Po;split
  . rename_i h;obtain⟨h1,h2⟩:=IZ (l:=l) (acc:=acc);refine⟨h1,λz hz=> ?_⟩;rcases Zb1.1 hz with rfl|hz
    .   obtain⟨y,hy,hc⟩:=List.any_eq_true.1 h;exact⟨y,h1 y hy,aag hc⟩
    .   exact h2 z hz
  . obtain⟨h1,h2⟩:=IZ (l:=l) (acc:=x::acc);refine⟨λy hy=>h1 y (Zb0 _ hy),λz hz=> ?_⟩;rcases Zb1.1 hz with rfl|hz
    .   exact⟨z,h1 z (Zd8 ..),.refl z⟩
    .   exact h2 z hz
theorem uV{α:Type}{k:α->XS}{outs:List XO}:∀{l:List α}{acc:List XO},Gh k l acc=some outs->(∀y∈acc,y∈outs)/\∀e∈l,∃a,k e=some a/\∀x∈a,∃y∈outs,Cv y x
 |[],acc,h=>by
  simp only[Gh,H4]at h;subst h;exact⟨λy hy=>hy,λe he=>by cases he⟩
 |e::l,acc,h=>by
  unfold Gh at h;split at h<;>first|(cases h;done)|skip
  rename_i a ha;obtain⟨h1,h2⟩:=uV h;obtain⟨n1,n2⟩:=IZ (l:=a) (acc:=acc);refine⟨λy hy=>h1 y (n1 y hy),λz hz=> ?_⟩;rcases Zb1.1 hz with rfl|hz
  .exact⟨a,ha,λx hx=>let⟨y,hy,hc⟩:=n2 x hx;⟨y,h1 y hy,hc⟩⟩
  .exact h2 z hz
section
variable{P:Program}{tt:TT}{C:Cells}{nt:Nat}{ρ:Pos->Loc}{st:St}{w:World}
theorem aV.zn{ρ:Pos->Loc}{st st':St}{w:World}(hW:aV ρ C st w)(h:∀p v,st'.heap.get p=some v->st.heap.get p=some v)(hn:st'.next=st.next):aV ρ C st' w:=
 ⟨λb x hb=>by rw[hn];exact hW.live b x (h b x hb),λb b' x x' hb jK=>hW.inj b b' x x' (h b x hb) (h b' x' jK),λa v ha=>⟨(hW.dB a v ha).1,λb x hb=>(hW.dB a v ha).2 b x (h b x hb)⟩,hW.whole⟩
theorem fB.Oe{y x:XO}{a':Act}{w':World}(hc:Cv y x)(h:fB nt ρ C st w x.2.1 x.2.2 a' w'):fB nt ρ C st w y.2.1 y.2.2 a' w':=by obtain⟨dM,S,k1,k2,E⟩:=h;refine⟨dM,⟨S.W.zn hc.h hc.n,?_,S.size,S.defers⟩,k1,by rw[hc.n];exact k2,⟨E.os,E.tape,E.output,E.size,E.block,λb v hb=>E.mW b v (hc.h b v hb)⟩⟩;rw[hc.n];exact S.F.sub hc.f
def Ar(P:Program)(C:Cells)(nt:Nat)(c:Code)(ex:Fr->St->XS):Prop:=
 ∀  (fr:Fr)(st:St)(outs:List XO)(ρ:Pos->Loc)(a:Act)(w:World)(Q:Exit->Act->World->Prop),ex fr st=some outs->mj nt ρ C fr st a w->
    (∀o∈outs,∀a' w',fB nt ρ C st w o.2.1 o.2.2 a' w'->Q (mC o.1) a' w')->eE P c Q a w
def abR(ex:Fr->St->XR)(fr:Fr)(st:St):XS:=match ex fr st with
 |some o=>some [o]
 |none=>none
theorem IY.one{c:Code}{ex:Fr->St->XR}(h:IY P C nt c ex):Ar P C nt c (abR ex):=by
 intro fr st outs ρ a w Q hx hS hQ;unfold abR at hx;split at hx<;>first|(cases hx;done)|skip
 rename_i o ho;simp only[H4]at hx;subst hx;exact h fr o.2.1 st o.2.2 o.1 ρ a w Q ho hS λa' w' hp=>hQ o (by simp) a' w' hp
end
section
variable(aY:iF XR)(m:Nat)(g:RG)
def TW{β:Type}:List Pos->Fr->(Fr->β)->β
 |[],fr,k=>k fr
 |p::ps,fr,k=>mX none p fr λfr=>TW ps fr k
def TX (b:Pos)(es:List (AV×AV×Nat))(clock:Nat)(zM:Pos):Nat->List (AV×AV×Nat)->Fr->St->XS
 |  0,todo,fr,st=>match todo with
    |[]=>some [(.normal,fr,st)]
    |_=>none
 |  n+  1,todo,fr,st=>match todo with
    |[]=>some [(.normal,fr,st)]
    |_  =>Gh (λe=>match abP aY m g e.1 e.2.1 fr st with
     |  some (.normal,f1,s1)=>TW g.ds f1 λf1=>match lK b s1.heap,lK (key g.t17) f1 with
        |some y,some v=>match CN y (.map es clock)&&fj v (.ptr zM 0)with
         |true=>TX b es clock zM n (todo.filter λx=> !Nat.beq x.2.2 e.2.2) f1 s1
         |false=>none
        |_,_=>none
     |_=>none) todo []
def TY(l:List bh)(fr:Fr)(st:St):XR:=OU none aY l fr st λfr st=>some (.normal,fr,st)
def rgS (fr:Fr)(st:St):XS:=match TY aY g.l2 fr st with
 |  some (_,fr,st)=>Qg none fr g.x λ
    | .map b=>match lK b st.heap with
      | some (.map es clock)=>match Pm clock es with
        |true=>TW g.ds fr λfr=>mX (some (.ptr st.next 0)) (key g.t17) fr λfr=>M8 st.next λn=>TX aY m g b es clock st.next es.length es fr { heap:=st.heap,next:=n }
        |false=>none
      |_=>none
    |_=>none
 |none=>none
end
section
variable{P:Program}{tt:TT}{C:Cells}{aY:iF XR}{call:ai}{nt m:Nat}{g:RG}{mo:Array Oper}{o0 o1 o4:Oper}{i3 i4 b0 b1:Nat}{rest:Code}{Ex:List bh}{bs:List Nat}
theorem Pp{β:Type}:∀(ps:List Pos)(fr:Fr)(k:Fr->β),TW ps fr k=k (TQ ps fr)
 |[],_,_=>rfl
 |p::ps,fr,k=>by simp only[TW,iz,TQ];exact Pp ps _ k
theorem Pq(hc:CK none aY call){l:List bh}{fr aW:Fr}{st st':St}{e:js}(h:TY aY l fr st=some (e,aW,st')):e= .normal/\iX call l fr st=some (aW,st'):=by
 unfold TY at h;rw[J9 none hc]at h;unfold m5 at h;split at h<;>first|(cases h;done)|skip
 rename_i y hy;simp only[H4,Zb6]at h;obtain⟨rfl,rfl,rfl⟩:=h;exact⟨rfl,hy⟩
theorem LI.aeu(hT:bL P tt)(hc:CK none aY call)(bI:eO P C call)(fJ:pF P tt C call)(hR:abQ tt nt g o0 o1 o4 mo rest Ex bs)
  {b zM:Pos} {es:List (AV×AV×Nat)} {since r:Nat} {jW:Pos->Loc} {Ey:St} {w0:World} (dF:Pm since es=true) (sg:key g.t18∈g.ds/\key g.t19∈g.ds) {Q:Exit->Act->World->Prop}:
  ∀ (n:Nat)(todo:List (AV×AV×Nat))(fr:Fr)(st:St)(outs:List XO)(seen:Array Nat)(ρ:Pos->Loc)(a:Act)(w:World),TX aY m g b es since zM n todo fr st=some outs->
    (∀e,e∈todo↔e∈es/\seen.contains e.2.2=false)->LI C nt g (fr,st) b zM es since r jW Ey w0 seen ρ a w->
    (∀o∈outs,o.1= .normal->∀a' w',fB nt jW C Ey w0 o.2.1 o.2.2 a' w'->Q (.exit b0) a' w')->It (eE P (XV g o0 o1 mo rest i3 i4 b0 b1)) Q (n+1) a w:=by
 intro n;induction n with
 |zero=>
  intro todo fr st outs seen ρ a w h Ko L hQ;unfold TX at h;split at h<;>first|(cases h;done)|skip
  simp only[H4]at h;subst h;rw[Qt];refine L.round (m:=m) hT hc bI fJ hR dF (λ_ a' S=>hQ (.normal,fr,st) (Zc3.2 rfl) rfl a' w ⟨ρ,S,L.k1,L.k2,L.E⟩) λe he hs=> ?_
  have:=(Ko e).2 ⟨he,hs⟩;cases this
 |succ n ih=>
  intro todo fr st outs seen ρ a w h Ko L hQ;rw[Qt];unfold TX at h;split at h
  .simp only[H4]at h;subst h;(refine L.round (m:=m) hT hc bI fJ hR dF (λ_ a' S=>hQ (.normal,fr,st) (Zc3.2 rfl) rfl a' w ⟨ρ,S,L.k1,L.k2,L.E⟩) λe he hs=> ?_);have:=(Ko e).2 ⟨he,hs⟩;cases this
  . rename_i cF;obtain⟨_,gL⟩:=uV h;refine L.round (m:=m) hT hc bI fJ hR dF (λXW a' S=> ?_) λe he hs=> ?_
    .   cases todo with
        |nil=>exact(cF rfl).elim
        | cons e l=>
          obtain⟨he,hs⟩:=(Ko e).1 (Zd8 ..);rw[XW e he]at hs;cases hs
    .   obtain⟨jw,h1,nM⟩:=gL e ((Ko e).2 ⟨he,hs⟩);(split at h1<;>first|(cases h1;done)|skip);rename_i f1 s1 hx;rw[Pp]at h1;simp only[rP]at h1;(split at h1<;>first|(cases h1;done)|skip);rename_i y v hy hv;(split at h1<;>first|(cases h1;done)|skip);rename_i hb;simp only[Za8]at hb;have e1:=Mf hb.1;have e2:=oI hb.2;subst e1;subst e2;refine⟨(TQ g.ds f1,s1),⟨f1,s1,hx,Pn _ _,.inr rfl⟩,hv,hy,Bt _ _ _ (.inl sg.1),Bt _ _ _ (.inl sg.2),λρ' a' w' L'=> ?_⟩;refine ih _ _ _ jw _ ρ' a' w' h1 (λx=> ?_) L' λo ho hn a2 w2 hp=> ?_
        .rw[Zq4,Ko x,Array.contains_push,Zl6,Zh7];rw[show Nat.beq x.2.2 e.2.2=(x.2.2==e.2.2)from by rw[Zk5];simp[Nat.beq_eq]];exact and_assoc
        .obtain⟨z,hz,hcv⟩:=nM o ho;exact hQ z hz (hcv.e.trans hn) a2 w2 (hp.Oe hcv)
theorem Ar.rng(hT:bL P tt)(hc:CK none aY call)(bI:eO P C call)(fJ:pF P tt C call)(hR:abQ tt nt g o0 o1 o4 mo rest Ex bs)
   {vW:Array Oper} {Od:List bh} {o2:Oper} {x:Operand} {ty kt et:TypeId} {i2:Nat} {bs2:List Nat} (h2:mH tt nt vW vW.toList bs2=some Od) (kZ:Od.dropLast=g.l2)
   (Be:vW[g.l2.length]? =some o2) (pI:vW.size=g.l2.length+1) (hop:o2.op= .range ty x) (yP:o2.guard=none) (Nr:o2.dst=some g.t17) (hx:kz x=some g.x) (abS:P.underlying ty=some (.map kt et))
   (sg:key g.t18∈g.ds/\key g.t19∈g.ds):Ar P C nt (.seq (.region i2 vW false) (.block b0 (.loop (XV g o0 o1 mo rest i3 i4 b0 b1)))) (rgS aY m g):=by
 intro fr st outs ρ a w Q h hS hQ;unfold rgS at h;split at h<;>first|(cases h;done)|skip
 rename_i ex sk jT hy;obtain⟨rfl,hz⟩:=Pq hc hy;simp only[IC]at h;unfold m5 at h;split at h<;>first|(cases h;done)|skip
 rename_i v hv;dsimp only at h;split at h<;>first|(cases h;done)|skip
 rename_i b;simp only[rP]at h;split at h<;>first|(cases h;done)|skip
 rename_i es clock hb;split at h<;>first|(cases h;done)|skip
 rename_i dF;simp only[Pp,iz,FX]at h;apply Bg;apply Dr;rw[pI,Zj2];apply Qr;rw[Zl3];refine oE (nt:=nt) hT bI g.l2 0 fr sk st jT ρ a w (λi ao hi=> ?_) hz hS λa2 w2 hp=> ?_
 .rw[<-kZ,List.getElem?_dropLast]at hi;(split at hi<;>first|(cases hi;done)|skip);obtain⟨o,k1,k2,_⟩:=xR h2 i ao hi;exact⟨o,by rw[Zd9];exact k1,k2⟩
 obtain⟨lJ,S2,k1,k2,E2⟩:=hp;obtain⟨hbn,Ix⟩:=(ov hx S2.F hv).uK;obtain⟨g1,g2,es',q1,q2,q3⟩:=S2.W.live b _ hb;obtain⟨Of,hf3⟩:∃f,f=(TQ g.ds sk).put (some (.ptr jT.next 0)) (key g.t17):=⟨_,rfl⟩
 rw[<-hf3]at h;obtain⟨Ez,qN⟩:∃s:St,s=⟨jT.heap,jT.next.succ⟩:=⟨_,rfl⟩
 rw[<-qN]at h;have n18:key g.t17≠key g.t18:=λe=>hR.ne.1 (by have:=congrArg Pos.toNat e;rw[eW,eW]at this;omega)
 have n19:key g.t17≠key g.t19:=λe=>hR.ne.2.1 (by have:=congrArg Pos.toNat e;rw[eW,eW]at this;omega)
 have hX0:Of.get (key g.t17)=some (.ptr jT.next 0)/\Ez.heap.get b=some (.map es clock)/\Of.get (key g.t18)=none/\Of.get (key g.t19)=none:=by
   rw[hf3,qN,T.eH,T.bw _ n18,T.bw _ n19];exact⟨rfl,hb,Bt _ _ _ (.inl sg.1),Bt _ _ _ (.inl sg.2)⟩
 show oC P _ _ [g.l2.length] a2 w2
 refine uU Be yP (v:= .pointer (some ⟨w2.heap.size,0,none⟩)) (w':=w2.alloc (.mapIter (some (lJ b).ax) clock #[] clock))
   (by simp[execOp,hop,Ix,run_range_map (P:=P) w2 ty kt et (lJ b).ax es' clock abS q1,Result.andThen]) ?_
 rw[Nr];show eE P (Code.block b0 _) Q _ _;apply Ns;have hold:∀k,k<w2.heap.size->(w2.alloc (.mapIter (some (lJ b).ax) clock #[] clock)).heap[k]? =w2.heap[k]? :=λk hk=>heap_alloc_old w2 _ hk
 have fc:(w2.alloc (.mapIter (some (lJ b).ax) clock #[] clock)).heap.size=w2.heap.size+1:=by simp
 obtain⟨yS,h3,aS⟩:∃yS:Pos->Loc,yS jT.next=⟨w2.heap.size,0,0⟩/\∀p:Pos,p.toNat<jT.next.toNat->yS p=lJ p:=
   ⟨λp=>if p=jT.next then⟨w2.heap.size,0,0⟩else lJ p,Za7 rfl,λp hp=>Za5 λe=>by subst e;omega⟩
 have hW3:aV yS C Ez (w2.alloc (.mapIter (some (lJ b).ax) clock #[] clock)):=by rw[qN];exact(S2.W.slot aS).grow (by omega) hold
 have CI:Ez.next.toNat=jT.next.toNat+1:=by rw[qN];exact Pos.az _
 have hF3:fo yS Ez.next.toNat C Of (a2.put (some g.t17) (.pointer (some ⟨w2.heap.size,0,none⟩))).tmps:=by rw[hf3];refine fo.put (nt:=nt) (d:=some g.t17) ((S2.F.sub (Pn _ _)).mono aS (by omega)) S2.size (λ_ h=>by cases h;exact hR.lt.1) ?_;have:=aj.ptr (ρ:=yS) (C:=C) jT.next 0 (n:=Ez.next.toNat) (by omega);rw[h3]at this;exact this
 refine ZB (es.length+1) (LI.aeu (m:=m) (jW:=lJ) (Ey:=jT) (w0:=w2) (r:=w2.heap.size) hT hc bI fJ hR dF sg es.length es Of Ez outs #[] yS _ _ h (λe=>by simp) ?_ λo ho hn a' w' hp=> ?_)
 . refine⟨⟨hW3,hF3,by rw[Act.ij];exact S2.size,by rw[Act.jf];exact S2.defers⟩,aS,by show jT.next.toNat<=Ez.next.toNat;omega,
     ⟨rfl,rfl,rfl,by rw[fc];omega,λk hk _=>hold k hk,λp x hp=>.inl ⟨p,x,by rw[qN]at hp;exact hp,by
        rw[qN]at hp;rw[aS p (S2.W.live p x hp).1]⟩⟩,⟨by rw[h3],by rw[h3],by show _<Ez.next.toNat;omega⟩,hX0.1,hX0.2.1,⟨clock,?_,Za6 _⟩,λp x hp=> ?_,Za6 _,hX0.2.2⟩
   .rw[aS b g1];exact heap_alloc_new w2 _
   .rw[qN]at hp;obtain⟨l1,l2,_⟩:=S2.W.live p x hp;rw[aS p l1];omega
 . simp only[Exit.inBlock,Zg5];have:=hQ o ho a' w' (fB.trans k1 k2 E2 hp)
   rwa [hn]at this
theorem Ar.TU(hT:bL P tt)(hc:CK none aY call)(bI:eO P C call)(fJ:pF P tt C call){c:Code}{g:RG}{ty:Nat}(h:TU tt nt c=some (g,ty))
  {kt et:TypeId} (abS:P.underlying ty=some (.map kt et)) (ds:List Pos):Ar P C nt c (rgS aY m { g with ds:=key g.t18::key g.t19::ds }):=by
 unfold Go.Ai.TU at h;split at h<;>first|(cases h;done)|skip
 rename_i i2 vW b0 i3 o0 o1 t19 b0' b1 i4 mo rest;split at h<;>first|(cases h;done)|skip
 rename_i o2 o4 Be ho4;split at h<;>first|(cases h;done)|skip
 rename_i Od Ex kZ hl4;split at h<;>first|(cases h;done)|skip
 rename_i body afn;unfold acY at h;split at h<;>first|(cases h;done)|skip
 rename_i ty' x a0 a1 a4 p2 p0 p1 p4;split at h<;>first|(cases h;done)|skip
 rename_i t17 t18 c t20 d2 d0 d1 d4;split at h<;>first|(cases h;done)|skip
 rename_i g2 g0 g1 g4;split at h<;>first|(cases h;done)|skip
 rename_i xo hxo;split at h<;>first|(cases h;done)|skip
 rename_i hb;simp only[H4,Zb6]at h;obtain⟨rfl,rfl⟩:=h;simp only[Za8,Zh7,Nat.beq_eq,Zq0]at hb;obtain⟨⟨⟨⟨⟨⟨⟨⟨⟨⟨⟨rfl,rfl⟩,rfl⟩,rfl⟩,rfl⟩,l17⟩,l18⟩,l19⟩,l20⟩,n1⟩,n2⟩,n3⟩:=hb;have hs:Od.length=vW.size:=(mZ kZ).1.trans (Zf6 ..);have h0:0<vW.size:=by have:=(Zd2.1 Be).1;omega
 exact Ar.rng hT hc bI fJ (i3:=i3) (i4:=i4) (b1:=b1) ⟨⟨p0,g0,d0⟩,⟨p1,g1,d1⟩,⟨ho4,p4,g4,d4⟩,⟨l17,l18,l19,l20⟩,⟨Zb9 n1,Zb9 n2,Zb9 n3⟩,hl4,rfl,afn⟩ kZ rfl
  (by rw[List.length_dropLast,hs];exact Be) (by show vW.size=Od.dropLast.length+1;rw[List.length_dropLast,hs];omega) p2 g2 d2 hxo abS ⟨by simp,by simp⟩
end
end
noncomputable section
open Go Go.RowKit
abbrev yT:=(Pos->Loc)->St->World->List Deferred->Prop
def Og(C:Cells)(J:yT):Prop:=
 ∀  (ρ:Pos->Loc)(st:St)(w:World)(D:List Deferred)(ρ':Pos->Loc)(st':St)(w':World),J ρ st w D->aV ρ C st w->aV ρ' C st' w'->(∀b:Pos,b.toNat<st.next.toNat->ρ' b=ρ b)->
    st.next.toNat<=st'.next.toNat->jJ ρ st w ρ' st' w'->J ρ' st' w' D
section
variable{P:Program}{tt:TT}{C:Cells}{r:Option Nat}{J:yT}{ts:Nat->Prop}{x:Array Value}{nt:Nat}
def jx(C:Cells)(J:yT)(ts:Nat->Prop)(x:Array Value)(nt:Nat)(ρ:Pos->Loc)(st:St)(w:World)(aW:Fr)(st':St)(a':Act)(w':World):Prop:=
 ∃ρ',mj nt ρ' C aW st' ⟨a'.tmps,[]⟩ w'/\(∀b:Pos,b.toNat<st.next.toNat->ρ' b=ρ b)/\st.next.toNat<=st'.next.toNat/\jJ ρ st w ρ' st' w'/\J ρ' st' w' a'.defers/\∀t,ts t->a'.tmps[t]? =x[t]?
theorem jx.trans{ρ dM:Pos->Loc}{sk:Fr}{st aN jT:St}{a2:Act}{w w1 w2:World}(h1:∀b:Pos,b.toNat<st.next.toNat->dM b=ρ b)(h2:st.next.toNat<=aN.next.toNat)(h3:jJ ρ st w dM aN w1)
  (h:jx C J ts x nt dM aN w1 sk jT a2 w2):jx C J ts x nt ρ st w sk jT a2 w2:=by
 obtain⟨lJ,S,k1,k2,E,hJ,hx⟩:=h;exact⟨lJ,S,λb hb=>(k1 b (Zd0 hb h2)).trans (h1 b hb),Zc8 h2 k2,h3.trans E,hJ,hx⟩
def Dy(J:yT):Prop:=∀(ρ:Pos->Loc)(st st':St)(w:World)(D:List Deferred),J ρ st w D->(∀p v,st'.heap.get p=some v->st.heap.get p=some v)->st'.next=st.next->J ρ st' w D
theorem jx.Oe(hw:Dy J){y z:XO}{ρ:Pos->Loc}{st:St}{w:World}{a':Act}{w':World}(hc:Cv y z)(h:jx C J ts x nt ρ st w z.2.1 z.2.2 a' w'):jx C J ts x nt ρ st w y.2.1 y.2.2 a' w':=by obtain⟨dM,S,k1,k2,E,hJ,hx⟩:=h;refine⟨dM,⟨S.W.zn hc.h hc.n,?_,S.size,S.defers⟩,k1,by rw[hc.n];exact k2,⟨E.os,E.tape,E.output,E.size,E.block,λb v hb=>E.mW b v (hc.h b v hb)⟩,hw _ _ _ _ _ hJ hc.h hc.n,hx⟩;rw[hc.n];exact S.F.sub hc.f
def dm(P:Program)(C:Cells)(r:Option Nat)(J:yT)(ts:Nat->Prop)(x:Array Value)(nt:Nat)(c:Code)(ex:Fr->St->XS):Prop:=
 ∀  (fr:Fr)(st:St)(outs:List XO)(ρ:Pos->Loc)(a:Act)(w:World)(Q:Exit->Act->World->Prop),ex fr st=some outs->mj nt ρ C fr st ⟨a.tmps,[]⟩ w->J ρ st w a.defers->(∀t,ts t->a.tmps[t]? =x[t]?)->
    (∀o∈outs,∀a' w',jx C J ts x nt ρ st w o.2.1 o.2.2 a' w'->Q (mC o.1) a' w')->c.wpIn (Fc r) 0 P Q a w
theorem Ar.g{c:Code}{ex:Fr->St->XS}(h:Ar P C nt c ex)(hJ:Og C J)(cV:∀t∈oD c,¬ts t):dm P C r J ts x nt c ex:=by
 intro fr st outs ρ a w Q he hS hj hx hQ;have h1:eE P c (λe a' w'=>∃o∈outs,e=mC o.1/\fB nt ρ C st w o.2.1 o.2.2 a' w') ⟨a.tmps,[]⟩ w:=h fr st outs ρ _ w _ he hS λo ho a' w' hp=>⟨o,ho,rfl,hp⟩
 refine wpIn_mono (eE.VT (r:=r) (n:=0) (D:=a.defers) (ds:=[]) (ts:=ts) (x:=x) c _ a.tmps w cV hx h1) ?_;rintro e a' w' ⟨hd,hk,o,ho,rfl,ρ',S,k1,k2,E⟩;exact hQ o ho a' w' ⟨ρ',S,k1,k2,E,by rw[hd];exact hJ _ _ _ _ _ _ _ hj hS.W S.W k1 k2 E,hk⟩
def I0(f g:Fr->St->XS)(fr:Fr)(st:St):XS:=match f fr st with
 |  some outs=>Gh (λ|(e,fr,st)=>match e with
    |.normal=>g fr st
    |e=>some [(e,fr,st)]) outs []
 |none=>none
def abT(id:Nat)(f:Fr->St->XS)(fr:Fr)(st:St):XS:=match f fr st with
 |  some outs=>Gh (λ|(e,fr,st)=>match e with
    | .exit i=>match Nat.beq i id with
      |true=>some [(.normal,fr,st)]
      |false=>some [(.exit i,fr,st)]
    |e=>some [(e,fr,st)]) outs []
 |none=>none
def XX(c:dU)(f g:Fr->St->XS)(fr:Fr)(st:St):XS:=Qg none fr c λ
 |  .bool b=>match b with
    |true=>f fr st
    |false=>g fr st
 |_=>none
def Oh(f:Fr->St->XS):Nat->Fr->St->XS
 |0,_,_=>none
 |n+1,fr,st=>I0 f (λfr st=>Oh f n fr st) fr st
theorem dm.seq'(hw:Dy J){c:Code}{f g:Fr->St->XS}{K:Act->World->Prop}{Q:Exit->Act->World->Prop}(hc:dm P C r J ts x nt c f)
  {fr:Fr} {st:St} {outs:List XO} {ρ:Pos->Loc} {a:Act} {w:World} (h:I0 f g fr st=some outs) (hS:mj nt ρ C fr st ⟨a.tmps,[]⟩ w) (hj:J ρ st w a.defers) (hx:∀t,ts t->a.tmps[t]? =x[t]?)
  (hK:∀bO aN jw a1 w1,g bO aN=some jw->(∀z∈jw,∃y∈outs,Cv y z)->jx C J ts x nt ρ st w bO aN a1 w1->K a1 w1)
  (hQ:∀o∈outs,o.1≠ .normal->∀a' w',jx C J ts x nt ρ st w o.2.1 o.2.2 a' w'->Q (mC o.1) a' w'):c.wpIn (Fc r) 0 P (Exit.then K Q) a w:=by
 unfold I0 at h;split at h<;>first|(cases h;done)|skip
 rename_i XY h0;obtain⟨_,gL⟩:=uV h;refine hc fr st XY ρ a w _ h0 hS hj hx λo ho a1 w1 hp=> ?_
 obtain⟨jw,h1,nM⟩:=gL o ho;obtain⟨e,bO,aN⟩:=o;dsimp only at h1 hp;cases e with
 |normal=>exact hK _ _ jw a1 w1 h1 nM hp
 |exit i=>
  simp only[H4]at h1;subst h1;obtain⟨y,hy,hcv⟩:=nM _ (Zc3.2 rfl);have:=hQ y hy (by rw[hcv.e];simp) a1 w1 (jx.Oe hw hcv hp);rw[hcv.e]at this;exact this
 |ret=>
  simp only[H4]at h1;subst h1;obtain⟨y,hy,hcv⟩:=nM _ (Zc3.2 rfl);have:=hQ y hy (by rw[hcv.e];simp) a1 w1 (jx.Oe hw hcv hp);rw[hcv.e]at this;exact this
theorem jx.go{ρ dM:Pos->Loc}{st aN:St}{a1:Act}{w w1:World}{bO:Fr}(hw:Dy J){d:Code}{g:Fr->St->XS}(hd:dm P C r J ts x nt d g){outs jw:List XO}{Q:Exit->Act->World->Prop}
  (h:g bO aN=some jw) (nM:∀z∈jw,∃y∈outs,Cv y z) (hp:jx C J ts x nt ρ st w bO aN a1 w1)
  (hQ:∀o∈outs,∀a' w',jx C J ts x nt ρ st w o.2.1 o.2.2 a' w'->Q (mC o.1) a' w'):d.wpIn (Fc r) 0 P Q a1 w1:=by
 obtain⟨dM,S,k1,k2,E,hj,hx⟩:=hp;refine hd bO aN jw dM a1 w1 Q h S hj hx λo ho a' w' hp=> ?_
 obtain⟨y,hy,hcv⟩:=nM o ho;have:=hQ y hy a' w' (jx.Oe hw hcv (jx.trans k1 k2 E hp));rw[hcv.e]at this;exact this
theorem dm.seq(hw:Dy J){c d:Code}{f g:Fr->St->XS}(hc:dm P C r J ts x nt c f)(hd:dm P C r J ts x nt d g):dm P C r J ts x nt (.seq c d) (I0 f g):=
 λfr st outs ρ a w Q h hS hj hx hQ=>wpIn_seq (hc.seq' hw h hS hj hx (λbO aN jw a1 w1 h1 nM hp=>hp.go (dM:=ρ) hw hd h1 nM hQ) λo ho _=>hQ o ho)
theorem dm.block(hw:Dy J){id:Nat}{c:Code}{f:Fr->St->XS}(hc:dm P C r J ts x nt c f):dm P C r J ts x nt (.block id c) (abT id f):=by
 intro fr st outs ρ a w Q h hS hj hx hQ;unfold abT at h;split at h<;>first|(cases h;done)|skip
 rename_i XY h0;obtain⟨_,gL⟩:=uV h;refine wpIn_block (hc fr st XY ρ a w _ h0 hS hj hx λo ho a1 w1 hp=> ?_);obtain⟨jw,h1,nM⟩:=gL o ho;obtain⟨e,bO,aN⟩:=o;dsimp only at h1 hp;have fin:∀e',jw=[(e',bO,aN)]->Q (mC e') a1 w1:=λe' he=>by subst he;obtain⟨y,hy,hcv⟩:=nM _ (Zc3.2 rfl);have:=hQ y hy a1 w1 (jx.Oe hw hcv hp);rw[hcv.e]at this;exact this
 cases e with
 |normal=>simp only[H4]at h1;exact fin _ h1.symm
 |exit i=>
  dsimp only at h1;simp only[mC,Exit.inBlock];cases hb:Nat.beq i id with
  |true=>
   rw[hb]at h1;rw[Za7 (Za1 hb)];exact fin .normal (Zh4 h1).symm
  |false=>
   rw[hb]at h1;rw[Za5 (Zb9 hb)];exact fin (.exit i) (Zh4 h1).symm
 |ret=>simp only[H4]at h1;exact fin _ h1.symm
theorem dm.cond{c:Operand}{o:dU}{d e:Code}{f g:Fr->St->XS}(ho:kz c=some o)(hd:dm P C r J ts x nt d f)(he:dm P C r J ts x nt e g):dm P C r J ts x nt (.cond c d e) (XX o f g):=by
 intro fr st outs ρ a w Q h hS hj hx hQ;unfold XX at h;rw[IC]at h;unfold m5 at h;split at h<;>first|(cases h;done)|skip
 rename_i v hv;dsimp only at h;split at h<;>first|(cases h;done)|skip
 rename_i b;have hb:=(ov ho hS.F hv).gJ;have hb:a.eval c= .bool b:=by rw[<-hb];exact Ei
 cases b
 .exact wpIn_cond_false hb (he fr st outs ρ a w Q h hS hj hx hQ)
 .exact wpIn_cond_true hb (hd fr st outs ρ a w Q h hS hj hx hQ)
theorem dm.loop(hw:Dy J){c:Code}{f:Fr->St->XS}(hc:dm P C r J ts x nt c f)(n:Nat):dm P C r J ts x nt (.loop c) (Oh f n):=by
 intro fr st outs ρ a w Q h hS hj hx hQ;refine wpIn_loop_rounds n ?_
 suffices H:∀(n:Nat)(bO:Fr)(aN:St)(jw:List XO)(a1:Act)(w1:World),Oh f n bO aN=some jw->(∀z∈jw,∃y∈outs,Cv y z)->jx C J ts x nt ρ st w bO aN a1 w1->
    Code.roundsIn (Fc r) 0 P c Q n a1 w1 from
  H n fr st outs a w h (λz hz=>⟨z,hz,.refl z⟩) ⟨ρ,hS,λ_ _=>rfl,Za6 _,jJ.refl _ _ _,hj,hx⟩
 intro n;induction n with
 |zero=>intro bO aN jw a1 w1 h;cases h
 |succ n ih=>
  intro bO aN jw a1 w1 h1 nM hp;obtain⟨dM,S,k1,k2,E,hj1,VL⟩:=hp;rw[roundsIn_succ];refine hc.seq' hw (g:=λfr st=>Oh f n fr st) h1 S hj1 VL (λsk jT XZ a2 w2 h2 afo xx=> ?_) λo ho _ a' w' xx=> ?_
  .refine ih sk jT XZ a2 w2 h2 (λz hz=> ?_) (jx.trans k1 k2 E xx);obtain⟨y,hy,hc1⟩:=afo z hz;obtain⟨y',QB,hc2⟩:=nM y hy;exact⟨y',QB,⟨hc2.e.trans hc1.e,λp v h=>hc1.f p v (hc2.f p v h),λp v h=>hc1.h p v (hc2.h p v h),hc2.n.trans hc1.n⟩⟩
  .obtain⟨y,hy,hcv⟩:=nM o ho;have:=hQ y hy a' w' (jx.Oe hw hcv (jx.trans k1 k2 E xx));rw[hcv.e]at this;exact this
def noS:Fr->St->XS:=λ_ _=>none
theorem dm.no{c:Code}:dm P C r J ts x nt c noS:=λ_ _ _ _ _ _ _ h=>by cases h
def uW(base:Code->Option (Fr->St->XS))(n:Nat):Code->Fr->St->XS
 |  .seq a b=>match base (.seq a b)with
    |some f=>f
    |none=>I0 (uW base n a) (uW base n b)
 |  .block id a=>match base (.block id a)with
    |some f=>f
    |none=>abT id (uW base n a)
 |  .loop a=>match base (.loop a)with
    |some f=>f
    |none=>Oh (uW base n a) n
 |  .cond c a b=>match base (.cond c a b)with
    |some f=>f
    |none=>match kz c with
     |some o=>XX o (uW base n a) (uW base n b)
     |none=>noS
 |  c=>match base c with
    |some f=>f
    |none=>noS
theorem dm.sp(hw:Dy J){base:Code->Option (Fr->St->XS)}{n:Nat}:∀c:Code,(∀t∈oD c,¬ts t)->(∀c f,(∀t∈oD c,¬ts t)->base c=some f->dm P C r J ts x nt c f)->dm P C r J ts x nt c (uW base n c):=by
 intro c cV hb;induction c with
 |seq a b SI SJ=>
  unfold uW;split
  .exact hb _ _ cV (by assumption)
  .exact .seq hw (SI λt ht=>cV t (Zh0 _ ht)) (SJ λt ht=>cV t (Zi6 _ ht))
 |block id a ih=>
  unfold uW;split
  .exact hb _ _ cV (by assumption)
  .exact .block hw (ih cV)
 |loop a ih=>
  unfold uW;split
  .exact hb _ _ cV (by assumption)
  .exact .loop hw (ih cV) n
 |cond c a b SI SJ=>
  unfold uW;split
  .exact hb _ _ cV (by assumption)
  . split
    .exact .cond (by assumption) (SI λt ht=>cV t (Zh0 _ ht)) (SJ λt ht=>cV t (Zi6 _ ht))
    .exact .no
 |_=>
  unfold uW;split
  .exact hb _ _ cV (by assumption)
  .exact .no
def yA(P:Program)(tt:TT)(aY:iF XR)(m:Nat)(kp:List Nat)(nt:Nat)(c:Code):Option (Fr->St->XS):=match Go.Ai.TU tt nt c with
 |  some (g,ty)=>match P.underlying ty with
    |some (.map _ _)=>some (rgS aY m { g with ds:=key g.t18::key g.t19::g.ds.filter λp=> !(kp.any λt=>Pos.beq (key t) p) })
    |_=>none
 |  none=>match Mu c with
    |true=>none
    |false=>match qe tt nt c with
     |some ac=>some (abR (exK aY m ac))
     |none=>none
theorem Mw{aY:iF XR}{call:ai}{m:Nat}{kp:List Nat}(hT:bL P tt)(hc:CK none aY call)(bI:eO P C call)(fJ:pF P tt C call)(hJ:Og C J){c:Code}{f:Fr->St->XS}
   (cV:∀t∈oD c,¬ts t) (h:yA P tt aY m kp nt c=some f):dm P C r J ts x nt c f:=by
 unfold yA at h;split at h
 .rename_i hg;(split at h<;>first|(cases h;done)|skip);rename_i hu;simp only[H4]at h;subst h;exact(Ar.TU hT hc bI fJ hg hu _).g hJ cV
 . (split at h<;>first|(cases h;done)|skip);(split at h<;>first|(cases h;done)|skip);rename_i SP;simp only[H4]at h;subst h;exact(IY.ac hT hc bI fJ SP).one.g hJ cV
end
section
variable{P:Program}{tt:TT}{C:Cells}{ρ:Pos->Loc}{st:St}{w w':World}{nt:Nat}
theorem aV.Ld{L:Nat}(hW:aV ρ C st w)(hr:∀a:Addr,a.block=L->w.cell? a=none)(hn:∀b x,st.heap.get b=some x->(ρ b).ax≠L)
   (hs:w'.heap.size=w.heap.size) (hk:∀k,k≠L->w'.heap[k]? =w.heap[k]?):aV ρ C st w':=by
 have cF:∀a v,C a=some v->a.block≠L:=λa v ha e=>by have h:=(hW.dB a v ha).1;rw[hr a e]at h;cases h
 refine⟨λb x hb=> ?_,hW.inj,λa v ha=> ?_,λa v ha o ho=> ?_⟩
 .obtain⟨h1,h2,h3⟩:=hW.live b x hb;exact⟨h1,by rw[hs];exact h2,h3.of_heap (hk _ (hn b x hb))⟩
 .obtain⟨h1,h2⟩:=hW.dB a v ha;exact⟨by rw[World.cell?_of_block (w:=w) (hk _ (cF a v ha))];exact h1,h2⟩
 .rw[World.cell?_of_block (w:=w) (a:=⟨a.block,o,none⟩) (hk _ (cF a v ha))];exact hW.whole a v ha o ho
theorem aV.Mx{L:Nat}{r:Loop}{o:Obj}(hW:aV ρ C st w)(hl:w.heap[L]? =some (.loop r))(hn:∀b x,st.heap.get b=some x->(ρ b).ax≠L):aV ρ C st (w.putObj L o):=
 hW.Ld (λa ha=>by subst ha;simp[World.cell?,hl]) hn World.putObj_size λk hk=>World.putObj_heap_other hk
theorem aV.abU{L:Nat}{r:Option (List Deferred)}{o:Obj}(hW:aV ρ C st w)(hl:w.heap[L]? =some (.deferred r))(hn:∀b x,st.heap.get b=some x->(ρ b).ax≠L):aV ρ C st (w.putObj L o):=
 hW.Ld (λa ha=>by subst ha;simp[World.cell?,hl]) hn World.putObj_size λk hk=>World.putObj_heap_other hk
theorem AU{ρ':Pos->Loc}{st':St}{L:Nat}(E:jJ ρ st w ρ' st' w')(hL:L<w.heap.size)(hn:∀b x,st.heap.get b=some x->(ρ b).ax≠L):(∀b x,st'.heap.get b=some x->(ρ' b).ax≠L)/\w'.heap[L]? =w.heap[L]? :=
 ⟨λb x hb=>by
  rcases E.mW b x hb with⟨b',x',jK,e⟩|h
  .rw[<-e];exact hn b' x' jK
  .omega,E.block L hL hn⟩
def Lh:yT:=λ_ _ _ D=>D=[]
theorem Lh.stays:Og C Lh:=λ_ _ _ _ _ _ _ h _ _ _ _ _=>h
theorem Lh.zn:Dy Lh:=λ_ _ _ _ _ h _ _=>h
def EA(C:Cells)(L D0:Nat)(r:Loop)(qO:Fr):yT:=λρ st w D=>D=[]/\w.heap[L]? =some (.loop r)/\w.heap[D0]? =some (.deferred (some []))/\
 (∀b x,st.heap.get b=some x->(ρ b).ax≠L)/\(∀b x,st.heap.get b=some x->(ρ b).ax≠D0)/\fo ρ st.next.toNat C qO r.tmps
theorem CR{k:Nat}{o:Obj}(h:w.heap[k]? =some o):k<w.heap.size:=(Zd2.1 h).1
theorem EA.stays{L D0:Nat}{r:Loop}{qO:Fr}:Og C (EA C L D0 r qO):=λρ st w D ρ' st' w' h _ _ k1 k2 E=>by
 obtain⟨h1,h2,h3,h4,h5,h6⟩:=h;obtain⟨f1,f2⟩:=AU E (CR h2) h4;obtain⟨g1,g2⟩:=AU E (CR h3) h5;exact⟨h1,f2.trans h2,g2.trans h3,f1,g1,h6.mono k1 k2⟩
theorem EA.zn{L D0:Nat}{r:Loop}{qO:Fr}:Dy (EA C L D0 r qO):=λρ st st' w D h hh hn=>by
 obtain⟨h1,h2,h3,h4,h5,h6⟩:=h;exact⟨h1,h2,h3,λb x hb=>h4 b x (hh b x hb),λb x hb=>h5 b x (hh b x hb),by rw[hn];exact h6⟩
abbrev mark(r:Nat):Deferred:={ target:= .collected r,args:= #[] }
def I1(B:Nat):yT:=λρ st w D=>B<=w.heap.size/\∃rs:List Nat,D=rs.map mark/\rs.Nodup/\∀r∈rs,B<=r/\w.heap[r]? =some (.deferred (some []))/\∀b x,st.heap.get b=some x->(ρ b).ax≠r
theorem I1.stays{B:Nat}:Og C (I1 B):=λρ st w D ρ' st' w' h _ _ k1 k2 E=>by
 obtain⟨hB,rs,h1,h2,h3⟩:=h;refine⟨Zc8 hB E.size,rs,h1,h2,λr hr=> ?_⟩;obtain⟨g0,g1,g2⟩:=h3 r hr;obtain⟨f1,f2⟩:=AU E (CR g1) g2;exact⟨g0,f2.trans g1,f1⟩
theorem I1.zn{B:Nat}:Dy (I1 B):=λρ st st' w D h hh hn=>by
 obtain⟨hB,rs,h1,h2,h3⟩:=h;exact⟨hB,rs,h1,h2,λr hr=>let⟨g0,g1,g2⟩:=h3 r hr;⟨g0,g1,λb x hb=>g2 b x (hh b x hb)⟩⟩
def TZ:List XO->List St->Option (List St)
 |[],acc=>some acc
 |  (e,_,st)::l,acc=>match e with
    |.normal=>TZ l (st::acc)
    |_=>none
def Oi{β:Type}:List Nat->List AV->Fr->(Fr->Option β)->Option β
 |[],[],fr,k=>k fr
 |p::ps,v::vs,fr,k=>mX (some v) (key p) fr λfr=>Oi ps vs fr k
 |_,_,_,_=>none
def X0(ps:List Nat)(f:Fr->St->XS)(qO:Fr)(vs:List AV)(st:St):Option (List St):=Oi ps vs qO λfr=>match f fr st with
 |some outs=>TZ outs []
 |none=>none
theorem Q3:∀{l:List XO}{acc EB:List St},TZ l acc=some EB->(∀s∈acc,s∈EB)/\∀o∈l,o.1= .normal/\o.2.2∈EB
 |[],acc,EB,h=>by
  simp only[TZ,H4]at h;subst h;exact⟨λ_ h=>h,λ_ h=>by cases h⟩
 |(e,fr,st)::l,acc,EB,h=>by
  unfold TZ at h;cases e with
  | normal=>
    obtain⟨h1,h2⟩:=Q3 (l:=l) h;refine⟨λs hs=>h1 s (Zb0 _ hs),λo ho=> ?_⟩;rcases Zb1.1 ho with rfl|ho
    .exact⟨rfl,h1 _ (Zd8 ..)⟩
    .exact h2 o ho
  |_=>cases h
theorem Li{β:Type}{k:Fr->Option β}{z:β}:∀{ps:List Nat}{vs:List AV}{xs:List Value}{fr:Fr}{T:Array Value},Oi ps vs fr k=some z->au ρ st.next.toNat C vs xs->fo ρ st.next.toNat C fr T->T.size=nt->(∀p∈ps,p<nt)->
  ∃aW,k aW=some z/\fo ρ st.next.toNat C aW ((ps.zip xs).foldl (λt (p,v)=>t.setIfInBounds p v) T)/\((ps.zip xs).foldl (λt (p,v)=>t.setIfInBounds p v) T).size=nt/\xs.length=ps.length
 |[],[],xs,fr,T,h,hv,hF,hs,_=>by
  have:=hv.mB;subst this;exact⟨fr,h,hF,hs,rfl⟩
 |p::ps,v::vs,xs,fr,T,h,hv,hF,hs,hp=>by
  obtain⟨x,tu,rfl,h1,h2⟩:=hv.cons_inv;unfold Oi at h;rw[iz]at h;have hF':=fo.put (nt:=nt) (a:=⟨T,[]⟩) (d:=some p) hF hs (λ_ h=>by cases h;exact hp p (Zd8 ..)) h1;obtain⟨aW,g1,g2,g3,g4⟩:=Li (T:=T.setIfInBounds p x) h h2 hF' (by simpa using hs) λq hq=>hp q (Zb0 _ hq)
  exact⟨aW,g1,g2,g3,by simp[g4]⟩
 |[],_::_,_,_,_,h,_,_,_,_=>by cases h
 |_::_,[],_,_,_,h,_,_,_,_=>by cases h
def X4(P:Program)(C:Cells)(L D0:Nat)(r:Loop)(qO:Fr)(Q4:List AV->St->Option (List St)):Prop:=
 ∀  (vs:List AV)(st:St)(EB:List St)(ρ:Pos->Loc)(w:World)(args:Array Value),Q4 vs st=some EB->aV ρ C st w->au ρ st.next.toNat C vs args.toList->EA C L D0 r qO ρ st w []->
    args.size=r.params.size/\RoundIn (Fc none) 0 P L r.fn ((r.params.zip args).foldl (λt (p,v)=>t.setIfInBounds p v) r.tmps) r.assign r.body w λe w'=>
     ∃s∈EB,e= .returned (.bool true)/\∃ρ',aV ρ' C s w'/\(∀b:Pos,b.toNat<st.next.toNat->ρ' b=ρ b)/\st.next.toNat<=s.next.toNat/\jJ ρ st w ρ' s w'
theorem aev{L D0:Nat}{r:Loop}{qO:Fr}{ps:List Nat}{f g:Fr->St->XS}(hp:r.params.toList=ps)(hr:r.state= .ready)(Nu:r.pending=none)(hs:r.tmps.size=nt)(aT:∀p∈ps,p<nt)
   (hA:dm P C (some L) Lh (λ_=>False) #[] nt r.assign f) (hB:dm P C (some L) Lh (λ_=>False) #[] nt r.body g):X4 P C L D0 r qO (X0 ps (I0 f g) qO):=by
 intro vs st EB ρ w args h hW hv hj;obtain⟨_,hl,_,Ld,_,hF⟩:=hj;unfold X0 at h;obtain⟨fr,h,hF1,Oj,hlen⟩:=Li h hv hF hs aT;have afp:(ps.zip args.toList).foldl (λt (p,v)=>t.setIfInBounds p v) r.tmps=(r.params.zip args).foldl (λt (p,v)=>t.setIfInBounds p v) r.tmps:=by
   rw[<-hp, <-Array.foldl_toList,Array.toList_zip]
 rw[afp]at hF1 Oj;refine⟨by rw[<-Zf6, <-Zf6,hp,hlen],roundIn_of_wpIn (F:=Fc none) trivial ?_⟩;split at h<;>first|(cases h;done)|skip
 rename_i outs hx;have gL:=(Q3 h).2;show r.assign.wpIn (Fc (some L)) 0 P _ _ w;refine hA.seq' Lh.zn hx ⟨hW,hF1,Oj,rfl⟩ rfl (λ_ h=>h.elim) (λbO aN jw a1 w1 h1 nM fE=> ?_) λo ho cF=>(cF (gL o ho).1).elim
 obtain⟨dM,S1,k1,k2,E1,hD1,_⟩:=fE;obtain⟨far1,uM⟩:=AU E1 (CR hl) Ld;rw[hl]at uM;refine⟨_,run_beginRound uM hr,?_⟩;have X5:=CR uM;refine hB bO aN jw dM a1 _ _ h1 ⟨S1.W.Mx uM far1,S1.F,S1.size,rfl⟩ hD1 (λ_ h=>h.elim) λo ho a3 w3 Wz=> ?_
 obtain⟨y,hy,hcv⟩:=nM o ho;obtain⟨zH,A8⟩:=gL y hy;rw[<-hcv.e,zH];obtain⟨yS,S3,j1,j2,E3,_,_⟩:=Wz;have kZ:=World.putObj_heap_same (o:= .loop { r with state:= .busy }) X5;obtain⟨far3,hl3⟩:=AU E3 (by rw[World.putObj_size];exact X5) far1;rw[kZ]at hl3;refine⟨_,_,run_endRound (P:=P) none hl3,y.2.2,A8,rfl,yS,?_,λb hb=>(j1 b (Zd0 hb k2)).trans (k1 b hb),by rw[hcv.n];exact Zc8 k2 j2,?_⟩
 .exact(S3.W.Mx hl3 far3).zn hcv.h hcv.n
 . have hrec:({ ({ r with state:= .busy }:Loop)with state:=if(none:Option Code).isNone then .ready else .done,pending:=none }:Loop)=r:=(by cases r;simp only at hr Nu;subst hr;subst Nu;rfl);rw[hrec];refine E1.trans ⟨E3.os,E3.tape,E3.output,by rw[World.putObj_size];have:=E3.size;rw[World.putObj_size]at this;exact this,λk hk hn=> ?_,λb x hb=> ?_⟩
   . by_cases e:k=L
     .  subst e;rw[World.putObj_heap_same (CR hl3),uM]
     .  rw[World.putObj_heap_other e,E3.block k (by rw[World.putObj_size];exact hk) hn,World.putObj_heap_other e]
   .have:=E3.mW b x (hcv.h b x hb);rw[World.putObj_size]at this;exact this
end
structure YR where
 d:Nat
 dy:Nat
 xs:List dU
 l1:List bh
 l2:List bh
def R8 (d:Nat):List Oper->Nat->Option Nat
 |[],_=>none
 |  o ::l,i=>match o.op with
    | .call c=>match c.callee with
      | .value (.tmp e)=>match Nat.beq d e with
        |true=>some i
        |false=>R8 d l (i+1)
      |_=>R8 d l (i+1)
    |_=>R8 d l (i+1)
def aah(d:Nat)(o:Oper):Bool:=match o.dst with
 |some e=> !Nat.beq d e
 |none=>true
def abV (tt : TT)(nt:Nat):Code->Option YR
 |  .region _ ops false=>match ops[0]? with
    |some o0  =>match o0.op,o0.dst,o0.guard with
     |  .move (.tmp 0),some d,none=>match R8 d ops.toList 0 with
        |some j=>match ops[j]? with
         |  some oj=>match oj.op,oj.dst,oj.guard with
            | .call c,some dy,none=>match c.callee,iV c.args.toList,mH tt nt ops ops.toList []with
              | .value (.tmp d'),some xs,some l=>match Nat.beq d' d&&Nat.blt d nt&&Nat.blt dy nt&&Nat.blt 0 j&&Nat.blt j ops.size&&((ops.toList.drop 1).take (j - 1)).all (aah d)with
                |true=>some ⟨d,dy,xs,(l.drop 1).take (j - 1),l.drop (j+1)⟩
                |false=>none
              |_,_,_=>none
            |_,_,_=>none
         |none=>none
        |none=>none
     |_,_,_=>none
    |none=>none
 |_=>none
def My:Code->Bool
 |.region _ ops _=>ops.toList.any λo=>match o.op with|.move (.tmp 0)=>true|_=>false
 |.seq a b=>My a||My b
 |.cond _ a b=>My a||My b
 |.block _ a=>My a
 |.loop a=>My a
 |_=>false
section
variable(aY:iF XR)
def abW(Q4:List AV->St->Option (List St))(y:YR)(fr:Fr)(st:St):XS:=mX none (key y.d) fr λfr=>match TY aY y.l1 fr st with
 |  some (_,bO,aN)=>LY none bO y.xs λvs=>match Q4 vs aN with
    |some EB=>mX (some (.bool true)) (key y.dy) bO λsk=>Gh (λs=>match TY aY y.l2 sk s with
     |some o=>some [o]
     |none=>none) EB []
    |none=>none
 |none=>none
end
section
variable{P:Program}{tt:TT}{C:Cells}{aY:iF XR}{call:ai}{nt m:Nat}
theorem fo.drop{ρ:Pos->Loc}{n d:Nat}{fr:Fr}{X:Array Value}(h:fo ρ n C fr X)(v:Value):fo ρ n C (fr.put none (key d)) (X.setIfInBounds d v):=λp u hp=>by
 by_cases e:key d=p
 .subst e;rw[T.eH]at hp;cases hp
 .rw[T.bw _ e]at hp;obtain⟨y,hy,hr⟩:=h p u hp;refine⟨y,?_,hr⟩;rw[Ze4,hy];intro h';apply e;apply Pos.toNat_inj;rw[eW];have:=p.toNat_pos;omega
theorem Lj{r:Option Nat}{ops:Array Oper}{Q:Exit->Act->World->Prop}{i:Nat}{rest:List Nat}{o:Oper}{a:Act}{w:World}(ho:ops[i]? =some o)(hg:o.guard=none)
  (h:o.uponIn (Fc r) 0 P a (wpOpsIn (Fc r) 0 P ops Q rest) Q ((o.semAt r a.eval).run P w)):wpOpsIn (Fc r) 0 P ops Q (i::rest) a w:=by
 rw[wpOpsIn_cons];unfold wpOpIn;rw[ho];simp only[Region.wanted,hg,Zg5];exact⟨λ_ _=>trivial,h⟩
theorem Vk(j k:Nat):List.range (j+1+1+k)=0::(List.range' 1 j++(j+1)::List.range' (j+2) k):=by rw[Zl3,show j+1+1+k=(j+1)+(k+1)by omega, <-List.range'_append_1,Zl8,Zl8 (s:=0+(j+1))];simp
theorem dm.yld(hT:bL P tt)(hc:CK none aY call)(bI:eO P C call){L D0:Nat}{r:Loop}{qO:Fr}{x:Array Value}(Ll:x[0]? =some (.func (.yield L) #[] #[]))
   {Q4:List AV->St->Option (List St)} (abX:X4 P C L D0 r qO Q4) {c:Code} {y:YR} (hy:abV tt nt c=some y) (cV:∀t∈oD c,t≠0):
   dm P C none (EA C L D0 r qO) (λt=>t=0) x nt c (abW aY Q4 y):=by
 unfold abV at hy;split at hy<;>first|(cases hy;done)|skip
 rename_i id ops;split at hy<;>first|(cases hy;done)|skip
 rename_i o0 h0;split at hy<;>first|(cases hy;done)|skip
 rename_i d hop0 hd0 zK;split at hy<;>first|(cases hy;done)|skip
 rename_i j hj;split at hy<;>first|(cases hy;done)|skip
 rename_i oj hoj;split at hy<;>first|(cases hy;done)|skip
 rename_i cl dy hopj hdj hgj;split at hy<;>first|(cases hy;done)|skip
 rename_i d' xs l Ma gR hl;split at hy<;>first|(cases hy;done)|skip
 rename_i hb;simp only[H4]at hy;subst hy;simp only[Za8,Nat.beq_eq,Zq0]at hb;obtain⟨⟨⟨⟨⟨rfl,hd⟩,hdy⟩,hj0⟩,hjs⟩,Hs⟩:=hb;intro fr st outs ρ a w Q h hS hJ hx hQ;unfold abW at h;rw[iz]at h;dsimp only at h;split at h<;>first|(cases h;done)|skip
 rename_i e1 bO aN zH;obtain⟨rfl,hz1⟩:=Pq hc zH;rw[J8]at h;unfold m5 at h;split at h<;>first|(cases h;done)|skip
 rename_i vs iD;dsimp only at h;split at h<;>first|(cases h;done)|skip
 rename_i EB hr;rw[iz]at h;obtain⟨_,gL⟩:=uV h;have hlen:l.length=ops.size:=by rw[(mZ hl).1,Zf6]
 have uM:((l.drop 1).take (j - 1)).length=j - 1:=by rw[Zd5,Zj5,hlen];omega
 have kZ:(l.drop (j+1)).length=ops.size - (j+1):=by rw[Zj5,hlen]
 apply wpIn_region;have aew:List.range ops.size=0::(List.range' 1 ((l.drop 1).take (j - 1)).length++(j::List.range' (j+1) (l.drop (j+1)).length)):=by rw[uM,kZ];have:=Vk (j - 1) (ops.size - (j+1));rw[show j - 1+1+1+(ops.size - (j+1))=ops.size by omega,show j - 1+1=j by omega,show j - 1+2=j+1 by omega]at this;exact this
 rw[aew];refine Lj h0 zK ?_;have hev0:a.eval (.tmp 0)= .func (.yield L) #[] #[]:=by
   have:=hx 0 rfl;rw[Ll]at this;show a.tmps.getD 0 undef=_;simp[Zh8,this]
 have hsem:(o0.semAt none a.eval).run P w= .ok (.value (.func (.yield L) #[] #[])) w:=by
   show(execOp a.eval o0).run P w=_;unfold execOp;rw[hop0];simp only[Sem.run_pure,hev0]
 rw[hsem];show wpOpsIn (Fc none) 0 P ops Q _ (a.put o0.dst _) w;rw[hd0];show wpOpsIn (Fc none) 0 P ops Q _ ⟨a.tmps.setIfInBounds d' (.func (.yield L) #[] #[]),a.defers⟩ w;have afq:d'≠0:=cV d' (by
   show d'∈ops.toList.filterMap (·.dst);rw[Zm6];exact⟨o0,by rw[Zl2];exact Zk9 h0,hd0⟩)
 have X6:∀(i:Nat)(o:Oper),ops[i]? =some o->∀t,o.dst=some t->t≠0:=λi o ho t ht=>cV t (by
   show t∈ops.toList.filterMap (·.dst);rw[Zm6];exact⟨o,by rw[Zl2];exact Zk9 ho,ht⟩)
 have hsz0:a.tmps.size=nt:=hS.size
 refine FJ (ds:=[]) (ts:=λt=>t=0\/t=d') (x:=(a.tmps.setIfInBounds d' (.func (.yield L) #[] #[]))) (K:=λa' w'=>fB nt ρ C st w bO aN a' w') (λT' w1 hk hp=> ?_) _ _ w (λi hi o ho t ht=> ?_) (λ_ _=>rfl)
   (oE (nt:=nt) hT bI _ 1 _ bO st aN ρ _ w (λi ao hi=> ?_) hz1 ⟨hS.W,hS.F.drop _,by simpa using hsz0,rfl⟩ λa' w' hp=>hp)
 . obtain⟨dM,S1,k1,k2,E1⟩:=hp;have hJ1:=EA.stays _ _ _ _ _ _ _ hJ hS.W S1.W k1 k2 E1;have hD:a.defers=[]:=hJ.1;have Zx:=hJ1.2.1;have KM:=dQ gR S1.F iD;obtain⟨fc,aex⟩:=abX vs aN EB dM w1 (cl.args.map (⟨T',a.defers⟩:Act).eval) hr S1.W (by
     (rw[Zp7];have:(⟨T',a.defers⟩:Act).eval=(⟨T',[]⟩:Act).eval:=funext λ_=>Ei);rw[this];exact KM) (by rw[<-hD];exact hJ1)
   refine Lj hoj hgj ?_;have hevd:(⟨T',a.defers⟩:Act).eval (.tmp d')= .func (.yield L) #[] #[]:=by
     have:=hk d' (.inr rfl);rw[Zk7]at this;simp[hsz0,hd]at this;show T'.getD d' undef=_;simp[Zh8,this]
   have afr:(oj.semAt none (⟨T',a.defers⟩:Act).eval).run P w1= .ok (.round L r.fn ((r.params.zip (cl.args.map (⟨T',a.defers⟩:Act).eval)).foldl (λt (p,v)=>t.setIfInBounds p v) r.tmps) r.assign r.body) w1:=(by show(execOp (⟨T',a.defers⟩:Act).eval oj).run P w1=_;unfold execOp;rw[hopj];simp only[resolve,Ma,hevd,Deferred.ofValue,invoke,Sem.run_bind,Sem.run_pure,Result.andThen];have:=run_yield (P:=P) (args:= #[]++cl.args.map (⟨T',a.defers⟩:Act).eval) Zx (by simpa using fc);simpa using this);rw[afr];refine⟨λhd=>by simp[Fence.wide]at hd,aex.mono ?_⟩;rintro e w2 ⟨s,hs,rfl,lJ,Ef,k3,k4,E2⟩;show wpOpsIn (Fc none) 0 P ops Q _ ((⟨T',a.defers⟩:Act).put oj.dst _) w2;rw[hdj];show wpOpsIn (Fc none) 0 P ops Q _ ⟨T'.setIfInBounds dy (.bool true),a.defers⟩ w2;obtain⟨jw,h1,nM⟩:=gL s hs;(split at h1<;>first|(cases h1;done)|skip);rename_i o ho;simp only[H4]at h1;subst h1;obtain⟨e3,Of,s3⟩:=o;obtain⟨rfl,hz3⟩:=Pq hc ho;obtain⟨y,hyo,hcv⟩:=nM _ (Zc3.2 rfl);have hF2:=fo.put (nt:=nt) (a:=⟨T',[]⟩) (d:=some dy) (S1.F.mono k3 k4) S1.size (λ_ h=>by cases h;exact hdy) (aj.bool (C:=C) true);have hdy0:dy≠0:=X6 j oj hoj dy hdj;rw[<-Zf0 (List.range' _ _)]
   refine FJ (ds:=[]) (ts:=λt=>t=0) (x:=T'.setIfInBounds dy (.bool true)) (K:=λa' w'=>fB nt lJ C s w2 Of s3 a' w') (λT2 w3 iu xx=> ?_) _ _ w2 (λi hi o ho t ht=>X6 i o ho t ht) (λ_ _=>rfl)
     (oE (nt:=nt) hT bI _ (j+1) _ Of s s3 lJ _ w2 (λi ao hi=> ?_) hz3 ⟨Ef,hF2,by simpa using S1.size,rfl⟩ λa' w' hp=>hp)
   . obtain⟨yS,S3,k5,k6,E3⟩:=xx;have K1:∀b:Pos,b.toNat<st.next.toNat->yS b=ρ b:=λb hb=>(k5 b (by omega)).trans ((k3 b (by omega)).trans (k1 b hb))
     have K2:st.next.toNat<=s3.next.toNat:=(by omega);have E:=(E1.trans E2).trans E3;show Q .normal _ _;have:=hQ y hyo ⟨T2,a.defers⟩ w3 (jx.Oe EA.zn hcv ⟨yS,S3,K1,K2,E,EA.stays _ _ _ _ _ _ _ hJ hS.W S3.W K1 K2 E,λt ht=>by
        subst ht;rw[<-hx 0 rfl,iu 0 rfl,Ze4 hdy0,hk 0 (.inl rfl),Ze4 afq]⟩)
     rw[hcv.e]at this;exact this
   .rw[Zc5]at hi;obtain⟨o,q1,q2,_⟩:=xR hl _ ao hi;exact⟨o,q1,q2⟩
 . rintro(rfl|rfl)
   .exact X6 i o ho _ ht rfl
   . (rw[List.mem_range'_1,uM]at hi;have hm:o∈(ops.toList.drop 1).take (j - 1):=by rw[Zf5];refine⟨i - 1,?_⟩;rw[Zb8,Za7 (by omega),Zc5,show 1+(i - 1)=i by omega,Zg7];exact ho);have:=Zd3.1 Hs o hm;simp only[aah,ht,Zh7]at this;exact Zb9 this rfl
 .rw[Zb8]at hi;(split at hi<;>first|(cases hi;done)|skip);rw[Zc5]at hi;obtain⟨o,q1,q2,_⟩:=xR hl _ ao hi;exact⟨o,q1,q2⟩
end
def rfS (gf ntg:Nat)(WA:Fr->Fr->St->XS)(og:dU)(fr:Fr)(st:St):XS:=Qg none fr og λ
 |  .func f [] Pr=>match Nat.beq f gf&&Nat.ble (Pr.length+1) ntg with
    |true=>xO Pr 1 .e λfri=>match WA fr fri st with
     |  some outs=>Gh (λ|(e,_,s)=>match e with
        |.exit _=>none
        |_=>some [(.normal,fr,s)]) outs []
     |none=>none
    |false=>none
 |_=>none
section
variable{P:Program}{tt:TT}{C:Cells}{aY:iF XR}{call:ai}{nt m:Nat}{ts:Nat->Prop}{x:Array Value}
def ItOk(P:Program)(C:Cells)(nt:Nat)(ps:Array Nat)(assign body:Code)(ntg:Nat)(gc:Code)(WA:Fr->Fr->St->XS):Prop:=
 ∀  (L D0:Nat)(r:Loop)(qO:Fr)(x:Array Value),r.state= .ready->r.pending=none->r.params=ps->r.assign=assign->r.body=body->r.tmps.size=nt->x[0]? =some (.func (.yield L) #[] #[])->
    dm P C none (EA C L D0 r qO) (λt=>t=0) x ntg gc (WA qO)
theorem dm.rf{B gf:Nat}{kX:Func}{gc:Code}(hf:P.funcs[gf]? =some kX)(ji:(kX.name== "runtime.NumGoroutine")=false)(hb:kX.body=some gc)(abD:kX.results= #[]){g:Operand}{ps:Array Nat}{assign body:Code}{og:dU}
   (hg:kz g=some og) {WA:Fr->Fr->St->XS} (hI:ItOk P C nt ps assign body kX.ntmps gc WA):dm P C none (I1 B) ts x nt (.rangeFunc g ps assign body) (rfS gf kX.ntmps WA og):=by
 intro fr st outs ρ a w Q h hS hJ hx hQ;unfold rfS at h;rw[IC]at h;unfold m5 at h;split at h<;>first|(cases h;done)|skip
 rename_i v hv;dsimp only at h;split at h<;>first|(cases h;done)|skip
 rename_i f Pr;split at h<;>first|(cases h;done)|skip
 rename_i Hl;simp only[Za8,Nat.beq_eq]at Hl;obtain⟨rfl,hle⟩:=Hl;have hle:=Za4 hle;rw[Ao]at h;split at h<;>first|(cases h;done)|skip
 rename_i jw ho;obtain⟨_,gL⟩:=uV h;obtain⟨x',y',hval,kG,QB⟩:=(ov hg hS.F hv).A4;have Ll:x'= #[]:=by have:=kG.mB;exact Array.toList_eq_nil_iff.1 this
 subst Ll;have hval:a.eval g= .func (.func f) #[] y':=by rw[<-hval];exact Ei
 refine wpIn_rangeFunc λfn _=> ?_
 let L:Nat:=w.heap.size+1
 let r:Loop:={ state:= .ready,pending:=none,fn,tmps:=a.tmps,params:=ps,assign,body,defers:=w.heap.size }
 let W1:World:=(w.alloc (.deferred (some []))).alloc (.loop r)
 have hL1:W1.heap[L]? =some (.loop r):=by have:=World.alloc_heap_new (w.alloc (.deferred (some []))) (.loop r);rwa [World.size_alloc]at this
 have hold:∀k,k<w.heap.size->W1.heap[k]? =w.heap[k]? :=λk hk=>(heap_alloc_old _ _ (by simp;omega)).trans (heap_alloc_old w _ hk)
 have hK1:W1.heap[w.heap.size]? =some (.deferred (some [])):=(heap_alloc_old _ _ (by simp)).trans (World.alloc_heap_new w _);have hWs:W1.heap.size=w.heap.size+1+1:=by show((w.alloc _).alloc _).heap.size=_;simp
 have Bl:¬kX.name= "runtime.NumGoroutine" :=by simpa using ji
 refine⟨L,[mark w.heap.size],W1,{ target:= .fn (.func f) y',args:= #[.func (.yield L) #[] #[]] },W1,f, #[.func (.yield L) #[] #[]]++y',W1,run_enterLoop_outer _ _ _ _ _,?_,λ_ _=>trivial,?_,λhd=>by simp[Fence.wide]at hd,?_⟩
 .simp only[resolve,rangeCall,hval,Deferred.ofValue,Sem.run_pure];simp[Act.eval]
 .simp[invoke,callFunc,hf,Bl,hb]
 refine callsIn_of_wp hf hb trivial ?_;have SM:aV ρ C st W1:=hS.W.grow (by omega) hold;have hlen:(#[Value.func (.yield L) #[] #[]]++y').size=Pr.length+1:=by have:=QB.1;simp at this ⊢; omega
 obtain⟨X,hX⟩:∃X,X=(#[Value.func (.yield L) #[] #[]]++y')++Array.replicate (kX.ntmps - (#[Value.func (.yield L) #[] #[]]++y').size) undef:=⟨_,rfl⟩
 rw[<-hX];have hX0:X[0]? =some (.func (.yield L) #[] #[]):=by rw[hX,Zh1 (by simp;omega),Zh1 (by simp)];rfl
 have hXs:X.size=kX.ntmps:=by rw[hX,Array.size_append,Array.size_replicate,hlen];omega
 have hfar:∀k,w.heap.size<=k->∀b z,st.heap.get b=some z->(ρ b).ax≠k:=λk hk b z hb e=>by have:=(hS.W.live b z hb).2.1;omega
 have hJ0:EA C L w.heap.size r fr ρ st W1 []:=⟨rfl,hL1,hK1,hfar L (by show w.heap.size<=w.heap.size+1;omega),hfar _ (Za6 _),hS.F⟩
 have hF0:fo ρ st.next.toNat C (params 1 Pr .e) X:=vH Pr y'.toList 1 .e QB (λk z hz=>by
   rw[hX,Zh1,Array.getElem?_append_right]<;>simp at hz ⊢
   .exact hz
   .have:=(Zd2.1 hz).1;omega) (λp v hp=>by rw[T.dD]at hp;cases hp)
 refine hI L w.heap.size r fr X rfl rfl rfl rfl rfl hS.size hX0 _ st jw ρ ⟨X,[]⟩ W1 _ ho ⟨SM,hF0,hXs,rfl⟩ hJ0 (λt _=>rfl) λo T3 a3 w3 hp=> ?_
 obtain⟨yS,S3,k1,k2,E3,hJ3,_⟩:=hp;obtain⟨h3D,h3l,h3d,h3f,h3g,h3F⟩:=hJ3;obtain⟨XZ,h2,nM⟩:=gL o T3;obtain⟨e,Of,Ez⟩:=o;dsimp only at h2 S3 k1 k2 E3 h3f h3g h3F;have acZ:(results kX a3.tmps).run P w3= .ok (.tuple #[]) w3:=by
   simp[results,abD]
 have hend:=run_endLoop (P:=P) h3l (by show LoopState.ready≠LoopState.busy;simp);have fin:XZ=[(.normal,fr,Ez)]->rangePost (Fc none) 0 P L Q { a with defers:=[mark w.heap.size]++a.defers } (.returned (.tuple #[])) w3:=λhe=>by
   (subst he;obtain⟨y,hy,hcv⟩:=nM _ (Zc3.2 rfl);refine⟨_,_,hend,?_⟩;show Q .normal _ _;have hLne:∀k,k≠L->(w3.putObj L (.loop { r with state:= .exhausted })).heap[k]? =w3.heap[k]? :=λk hk=>World.putObj_heap_other hk);have E:jJ ρ st w yS Ez (w3.putObj L (.loop { r with state:= .exhausted })):=by
     refine⟨E3.os,E3.tape,E3.output,?_,λk hk hn=> ?_,λb z hb=> ?_⟩
     .  rw[World.putObj_size];have:=E3.size;omega
     .  rw[hLne k (by show k≠w.heap.size+1;omega),E3.block k (by omega) hn,hold k hk]
     .  rcases E3.mW b z hb with h|h
        .exact .inl h
        .exact .inr (by omega)
   have hW3:=S3.W.Mx (o:= .loop { r with state:= .exhausted }) h3l h3f;have:=hQ y hy { a with defers:=[mark w.heap.size]++a.defers } _ (jx.Oe I1.zn hcv ⟨yS,⟨hW3,h3F,hS.size,rfl⟩,k1,k2,E,?_,hx⟩)
   .rw[hcv.e]at this;exact this
   . obtain⟨hB,rs,h1,h2,h3⟩:=hJ;refine⟨Zc8 hB E.size,w.heap.size::rs,by show [mark w.heap.size]++a.defers=_;rw[h1];rfl,Zq6.2 ⟨λhm=> ?_,h2⟩,λk hk=> ?_⟩
     .  have:=CR (h3 _ hm).2.1;omega
     .  rcases Zb1.1 hk with rfl|hk
        .exact⟨hB,(hLne _ (by show w.heap.size≠w.heap.size+1;omega)).trans h3d,h3g⟩
        .obtain⟨g0,g1,g2⟩:=h3 k hk;obtain⟨f1,f2⟩:=AU E (CR g1) g2;exact⟨g0,f2.trans g1,f1⟩
 cases e with
 |exit i=>cases h2
 |normal=>exact⟨h3D,_,acZ,fin (Zh4 h2).symm⟩
 |ret=>exact⟨h3D,_,acZ,fin (Zh4 h2).symm⟩
end
def tX:AV->Bool
 |.bool _=>true
 |.int _ _=>true
 |_=>false
def R9(acc:Option AV)(v:AV):Bool:=match acc with
 |none=>true
 |some u=>fj u v
def Kp (rs:List yD)(st:St):List XO->Option AV->Option AV
 |[],acc=>acc
 |  (e, bO,aN)::l,acc=>match e with
    |.exit _=>none
    | _ =>match cG (λb=>lK b aN.heap) bO rs with
      | some vs=>match vs.all tX&&T.sub CN st.heap aN.heap&&R9 acc (gH vs)with
        |true=>Kp rs st l (some (gH vs))
        |false=>none
      |none=>none
def mfn (ex:Fr->St->XS)(np:Nat)(rs:List yD)(args:List AV)(st:St):Option (AV×St):=match Nat.beq args.length np with
 |  true=>xO args 0 .e λfr=>match ex fr st with
    |some outs=>match outs with
     |  [(e,bO,aN)]=>match e with
        |.exit _=>none
        | _=>match cG (λb=>lK b aN.heap) bO rs,Nat.ble st.next.toNat aN.next.toNat with
          |some vs,true=>some (gH vs,aN)
          |_,_=>none
     |  _=>match Kp rs st outs none with
        |some v=>some (v,st)
        |none=>none
    |none=>none
 |false=>none
theorem aj.flat{ρ ρ':Pos->Loc}{n n':Nat}{C:Cells}{v:AV}{x:Value}(hf:tX v=true)(h:aj ρ n C v x):aj ρ' n' C v x:=by
 cases v<;>first|(cases hf;done)|skip
 .have:=h.gJ;subst this;exact .bool _
 .have:=h.iy;subst this;exact .int _ _
theorem aj.afs{ρ ρ':Pos->Loc}{n n':Nat}{C:Cells}{vs:List AV}{x:Value}(hf:vs.all tX=true)(h:aj ρ n C (gH vs) x):aj ρ' n' C (gH vs) x:=by
 have tup:∀{x},aj ρ n C (.tuple vs) x->aj ρ' n' C (.tuple vs) x:=λ{x} h=>by
   cases h with
   |tuple l cs hl hh=>exact .tuple _ cs hl λi v v' hv Ba=>(hh i v v' hv Ba).flat (Zd3.1 hf v (Zb5 hv))
 unfold gH at h ⊢;split at h
 .exact h.flat (Zd3.1 hf _ (by simp))
 .exact tup h
theorem Ol{rs:List yD}{st:St}{v:AV}:∀{l:List XO}{acc:Option AV},Kp rs st l acc=some v->(∀u,acc=some u->u=v)/\∀o∈l,(∀i,o.1≠ .exit i)/\∃vs,cG (λb=>lK b o.2.2.heap) o.2.1 rs=some vs/\v=gH vs/\vs.all tX=true/\∀p u,st.heap.get p=some u->o.2.2.heap.get p=some u
 |[],acc,h=>by
  simp only[Kp]at h;subst h;exact⟨λu h=>(Zh4 h).symm,λo ho=>by cases ho⟩
 |(e,   bO,aN)::l,acc,h=>by
  unfold Kp at h
  have key:∀vs,(cG (λb=>lK b aN.heap) bO rs=some vs)->(vs.all tX&&T.sub CN st.heap aN.heap&&R9 acc (gH vs))=true->Kp rs st l (some (gH vs))=some v->(∀i,e≠ .exit i)->
        (∀u,acc=some u->u=v)/\∀o∈(e,bO,aN)::l,(∀i,o.1≠ .exit i)/\∃vs,cG (λb=>lK b o.2.2.heap) o.2.1 rs=some vs/\v=gH vs/\vs.all tX=true/\∀p u,st.heap.get p=some u->o.2.2.heap.get p=some u:=by
    intro vs iD hb hr he;simp only[Za8]at hb;obtain⟨h1,h2⟩:=Ol hr;have hv:=h1 _ rfl;refine⟨λu hu=> ?_,λo ho=> ?_⟩
    .   subst hu;rw[<-hv];exact oI hb.2
    .   rcases Zb1.1 ho with rfl|ho
        .exact⟨he,vs,iD,hv.symm,hb.1.1,T.xW (λ_ _=>Mf) hb.1.2⟩
        .exact h2 o ho
  cases e with
  |exit i=>cases h
  | normal=>
    dsimp only at h;(split at h<;>first|(cases h;done)|skip);rename_i vs iD;cases hb:(vs.all tX&&T.sub CN st.heap aN.heap&&R9 acc (gH vs))with
    |false=>rw[hb]at h;cases h
    |true=>rw[hb]at h;exact key vs iD hb h (λi=>by simp)
  | ret=>
    dsimp only at h;(split at h<;>first|(cases h;done)|skip);rename_i vs iD;cases hb:(vs.all tX&&T.sub CN st.heap aN.heap&&R9 acc (gH vs))with
    |false=>rw[hb]at h;cases h
    |true=>rw[hb]at h;exact key vs iD hb h (λi=>by simp)
theorem T4{ex:Fr->St->XS}{np:Nat}{rs:List yD}{args:List AV}{st st':St}{v:AV}(h:mfn ex np rs args st=some (v,st')):args.length=np/\st.next.toNat<=st'.next.toNat/\∃outs,ex (params 0 args .e) st=some outs/\
   ∀o∈outs,(∀i,o.1≠ .exit i)/\∃vs,cG (λb=>lK b o.2.2.heap) o.2.1 rs=some vs/\v=gH vs/\(st'=o.2.2\/(st'=st/\vs.all tX=true/\∀p u,st.heap.get p=some u->o.2.2.heap.get p=some u)):=by
 unfold mfn at h;split at h<;>first|(cases h;done)|skip
 rename_i hlen;rw[Ao]at h;split at h<;>first|(cases h;done)|skip
 rename_i outs ho;refine⟨Za1 hlen,?_⟩;split at h
 . rename_i e bO aN
   have key:∀vs,cG (λb=>lK b aN.heap) bO rs=some vs->Nat.ble st.next.toNat aN.next.toNat=true->some (gH vs,aN)=some (v,st')->(∀i,e≠ .exit i)->
        st.next.toNat<=st'.next.toNat/\∃outs,ex (params 0 args .e) st=some outs/\∀o∈outs,(∀i,o.1≠ .exit i)/\∃vs,cG (λb=>lK b o.2.2.heap) o.2.1 rs=some vs/\v=gH vs/\(st'=o.2.2\/(st'=st/\vs.all tX=true/\∀p u,st.heap.get p=some u->o.2.2.heap.get p=some u)):=by
    intro vs iD hn he cF;simp only[H4,Zb6]at he;obtain⟨rfl,rfl⟩:=he;refine⟨Za4 hn,_,ho,λo T3=> ?_⟩;have:=Zc3.1 T3;subst this;exact⟨cF,vs,iD,rfl,.inl rfl⟩
   cases e with
   |exit i=>cases h
   |normal=>
    dsimp only at h;(split at h<;>first|(cases h;done)|skip);rename_i vs iD hn;exact key vs iD hn h (λi=>by simp)
   |ret=>
    dsimp only at h;(split at h<;>first|(cases h;done)|skip);rename_i vs iD hn;exact key vs iD hn h (λi=>by simp)
 . (split at h<;>first|(cases h;done)|skip);rename_i u hu;simp only[H4,Zb6]at h;obtain⟨rfl,rfl⟩:=h;refine⟨Za6 _,_,ho,λo T3=> ?_⟩;obtain⟨h1,vs,h2,h3,h4,h5⟩:=(Ol hu).2 o T3;exact⟨h1,vs,h2,h3,.inr ⟨rfl,h4,h5⟩⟩
section
variable{P:Program}{tt:TT}{C:Cells}
theorem I2{fn:Func}{tmps:Array Value}{R:Ending->World->Prop}{ρ:Pos->Loc}{st:St}:∀(rs:List Nat)(w:World),rs.Nodup->(∀r∈rs,w.heap[r]? =some (.deferred (some []))/\∀b x,st.heap.get b=some x->(ρ b).ax≠r)->aV ρ C st w->
  (∀w2,aV ρ C st w2->w2.heap.size=w.heap.size->(∀k,k∉rs->w2.heap[k]? =w.heap[k]?)->w2.os=w.os->w2.tape=w.tape->w2.output=w.output->∃v,(results fn tmps).run P w2= .ok v w2/\R (.returned v) w2)->
  LeavesInM (Fc none) 0 P fn tmps R (rs.map mark) .returning w
 |[],w,_,_,hW,h=>h w hW rfl (λ_ _=>rfl) rfl rfl rfl
 |r ::rs,w,Hs,hr,hW,h=>by
  obtain⟨h1,h2⟩:=Zq6.1 Hs;obtain⟨g1,g2⟩:=hr r (Zd8 ..);refine⟨by simp,.inl ⟨r,_,rfl,run_takeDeferred g1,?_⟩⟩;refine I2 rs _ h2 (λk hk=> ?_) (hW.abU g1 g2) λw2 Ef hs hk ho ht O8=> ?_
  .obtain⟨f1,f2⟩:=hr k (Zb0 _ hk);exact⟨by rw[World.putObj_heap_other (λe=>h1 (by subst e;exact hk))];exact f1,f2⟩
  .refine h w2 Ef (by rw[hs,World.putObj_size]) (λk kA=> ?_) ho ht O8;rw[hk k (λhm=>kA (Zb0 _ hm)),World.putObj_heap_other (λe=>kA (by subst e;exact Zd8 ..))]
theorem aey(hT:bL P tt){f np:Nat}{fn:Func}{c:Code}{ex:Fr->St->XS}{rs:List yD}(hf:P.funcs[f]? =some fn)(ji:(fn.name== "runtime.NumGoroutine")=false)(hb:fn.body=some c)
  (hx:∀B,dm P C none (I1 B) (λ_=>False) #[] fn.ntmps c ex) (hr:lF tt fn.results.toList=some rs) (hle:np<=fn.ntmps):lA P C f (mfn ex np rs) where
 mono args st v st' h:=(T4 h).2.1
 runs ρ st w args v st' bC h hW oH:=by
  obtain⟨hlen,hn,outs,ho,gL⟩:=T4 h;have b6:(callFunc f bC.toArray).run P w= .ok (.enter f bC.toArray) w:=by
   have Bl:¬fn.name= "runtime.NumGoroutine" :=(by simpa using ji);simp[callFunc,hf,Bl,hb]
  rw[b6];simp only[Reaches];refine callsIn_wide (n:=0) |>.1 (callsIn_of_wp_marks hf hb trivial ?_);have fc:bC.length<=fn.ntmps:=by rw[<-oH.1,hlen];exact hle
  have hS:mj fn.ntmps ρ C (params 0 args .e) st { tmps:=bC.toArray++Array.replicate (fn.ntmps - bC.toArray.size) undef,defers:=[] } w:=by
   refine⟨hW,?_,?_,rfl⟩
   .    refine vH args bC 0 .e oH (λj x hx=> ?_) (λp v hp=>by rw[T.dD]at hp;cases hp);have hj:j<bC.length:=(Za3.1 hx).1;rw[Zd9,Zh1 (by simpa using hj)];simpa using hx
   .    simp;omega
  show c.wpIn (Fc none) 0 P _ _ w;refine hx w.heap.size _ st outs ρ _ w _ ho hS ⟨Za6 _,[],rfl,Zj7,λ_ h=>by cases h⟩ (λ_ h=>h.elim) λo T3 a' w' hp=> ?_
  obtain⟨dM,S1,k1,k2,E,⟨hB,ks,hD,Hs,zI⟩,_⟩:=hp;obtain⟨cF,vs,iD,hv,kf⟩:=gL o T3;simp only[rP]at iD;have key:LeavesInM (Fc none) 0 P fn a'.tmps (λ|.returned v',w''=>lO ρ C st w v st' v' w''|_,_=>False) a'.defers .returning w':=by
   (rw[hD];(refine I2 ks w' Hs (λr hr=>(zI r hr).2) S1.W λw2 Ef hs xj Be ht O8=> ?_);obtain⟨y,zH,A8⟩:=pG hT Ef S1.F hr iD;refine⟨y,zH,?_⟩;have sN:∀k,k<w.heap.size->w2.heap[k]? =w'.heap[k]? :=λk aT=>xj k λhm=>by have:=(zI k hm).1;omega);rcases kf with rfl|⟨rfl,Bd,XF⟩
   .    rw[hv];exact⟨dM,A8,k1,k2,Ef,⟨Be.trans E.os,ht.trans E.tape,O8.trans E.output,by rw[hs];exact E.size,λk hk hn=>(sN k hk).trans (E.block k hk hn),E.mW⟩⟩
   .    rw[hv];refine⟨ρ,A8.afs Bd,λ_ _=>rfl,Za6 _,hW.back XF k1 Ef (by rw[hs];exact E.size),⟨Be.trans E.os,ht.trans E.tape,O8.trans E.output,by rw[hs];exact E.size,λk hk hn=>(sN k hk).trans (E.block k hk hn),λb x hb=>.inl ⟨b,x,hb,rfl⟩⟩⟩
  obtain⟨e,bO,aN⟩:=o;cases e with
  |exit i=>exact(cF i rfl).elim
  |normal=>exact key
  |ret=>exact key
def ac0(P:Program)(tt:TT)(aY:iF XR)(m:Nat)(nt:Nat)(Q4:List AV->St->Option (List St))(c:Code):Option (Fr->St->XS):=match abV tt nt c with
 |some y=>some (abW aY Q4 y)
 |  none=>match My c with
    |true=>none
    |false=>yA P tt aY m [] nt c
def Sa(P:Program)(tt:TT)(aY:iF XR)(m:Nat)(kp:List Nat)(nt gf:Nat)(kX:Func):Code->Option (Fr->St->XS)
 |  .rangeFunc g ps a b=>match kz g,kX.body with
    |some og,some gc=>match (oD gc).all (λt=> !Nat.beq t 0)&&ps.toList.all (λp=>Nat.blt p nt)&&kX.results.isEmpty with
     |true=>some (rfS gf kX.ntmps (λqO=>uW (ac0 P tt aY m kX.ntmps (X0 ps.toList (I0 (uW (yA P tt aY m kp nt) m a) (uW (yA P tt aY m kp nt) m b)) qO)) m gc) og)
     |false=>none
    |_,_=>none
 |c=>yA P tt aY m kp nt c
def Xl(P:Program)(tt:TT)(O:dZ)(G:T cI)(m d:Nat)(kp:List Nat)(gf:Nat)(kX fn:Func):List AV->St->Option (AV×St):=
 match fn.body,lF tt fn.results.toList,Nat.ble (fn.params.size+fn.nfree) fn.ntmps with
 |some c,some rs,true=>mfn (uW (Sa P tt (Cm none O G m d) m kp fn.ntmps gf kX) m c) (fn.params.size+fn.nfree) rs
 |_,_,_=>λ_ _=>none
theorem abY{aY:iF XR}{call:ai}{m nt gf B:Nat}{kp:List Nat}{kX:Func}(hT:bL P tt)(hc:CK none aY call)(bI:eO P C call)(fJ:pF P tt C call)(hf:P.funcs[gf]? =some kX)(ji:(kX.name== "runtime.NumGoroutine")=false)
   {c:Code} {f:Fr->St->XS} (h:Sa P tt aY m kp nt gf kX c=some f):dm P C none (I1 B) (λ_=>False) #[] nt c f:=by
 have hR:∀{c f},yA P tt aY m kp nt c=some f->dm P C none (I1 B) (λ_=>False) #[] nt c f:=λh=>Mw hT hc bI fJ I1.stays (λ_ _ h=>h) h
 unfold Sa at h;split at h
 . rename_i g ps a b;(split at h<;>first|(cases h;done)|skip);rename_i og gc hg hgb;(split at h<;>first|(cases h;done)|skip);rename_i Hl;simp only[H4]at h;subst h;simp only[Za8]at Hl;obtain⟨⟨c1,c2⟩,c3⟩:=Hl;have hd0:∀t∈oD gc,¬(λt=>t=0) t:=λt ht e=>by have:=Zd3.1 c1 t ht;subst e;simp at this
   (refine dm.rf hf ji hgb (by simpa using c3) hg λL D0 r qO x hr hp VO ha hb hs Ll=> ?_);have rd:∀c,dm P C (some L) Lh (λ_=>False) #[] nt c (uW (yA P tt aY m kp nt) m c):=λc=>dm.sp Lh.zn c (λ_ _ h=>h) λc f _ h=>Mw hT hc bI fJ Lh.stays (λ_ _ h=>h) h
   have abX:X4 P C L D0 r qO (X0 ps.toList (I0 (uW (yA P tt aY m kp nt) m a) (uW (yA P tt aY m kp nt) m b)) qO):=aev (by rw[VO]) hr hp hs (λp hp'=>by
     have:=Zd3.1 c2 p hp';simpa using this) (by rw[ha];exact rd a) (by rw[hb];exact rd b)
   (refine dm.sp EA.zn gc hd0 λc f cV h=> ?_);unfold ac0 at h;split at h
   .rename_i y hy;simp only[H4]at h;subst h;exact dm.yld hT hc bI Ll abX hy cV
   . (split at h<;>first|(cases h;done)|skip);exact Mw hT hc bI fJ EA.stays cV h
 .exact hR h
theorem aaU(hm:P.follows .mixedOrders=true)(hT:bL P tt){O:dZ}{G:T cI}(hO:oG P C O)(IB:ku O)(hG:MV P tt G){f gf m d:Nat}{kp:List Nat}{fn kX:Func}(hf:P.funcs[f]? =some fn)
   (ji:(fn.name== "runtime.NumGoroutine")=false) (hgf:P.funcs[gf]? =some kX) (Sg:(kX.name== "runtime.NumGoroutine")=false):lA P C f (Xl P tt O G m d kp gf kX fn):=by
 have bI:=Fm (C:=C) hm hT hO IB hG m d;have hcm:=FM (G:=G) IB m d
 have key:∀c rs,fn.body=some c->lF tt fn.results.toList=some rs->Nat.ble (fn.params.size+fn.nfree) fn.ntmps=true->
    lA P C f (mfn (uW (Sa P tt (Cm none O G m d) m kp fn.ntmps gf kX) m c) (fn.params.size+fn.nfree) rs):=λc rs hb hr hle=>
   aey hT hf ji hb (λB=>dm.sp I1.zn c (λ_ _ h=>h) λc f _ h=>abY hT (FZ none O G m d) bI (FU hm hT bI hcm) hgf Sg h) hr (Za4 hle)
 unfold Xl;split
 .exact key _ _ (by assumption) (by assumption) (by assumption)
 .exact⟨λ_ _ _ _ h=>(by cases h),λ_ _ _ _ _ _ _ h=>(by cases h)⟩
end
end
section
open Go
def MW:List AV->St->Option (AV×St)
 |[v],st=>some (v,st)
 |_,_=>none
theorem YU{P:Program}{C:Cells}{f:FuncId}{fn:Func}(hf:P.funcs[f]? =some fn)(ji:(fn.name== "runtime.NumGoroutine")=false)(hb:fn.body.isNone=true)(hx:Extern.findNext fn=none)
  (he:Extern.find fn=some Extern.AbiNoEscape.same):lA P C f MW where
 mono args st v st' h:=by unfold MW at h;split at h<;>cases h;exact Za6 _
 runs ρ st w args v st' bC h hW hv:=by
  unfold MW at h;split at h<;>cases h;obtain⟨x,xs,rfl,h1,h2⟩:=hv.cons_inv;have:=h2.mB;subst this;have b6:(callFunc f [x].toArray).run P w= .ok (.value x) w:=by rw[run_callFunc_extern hf ji hb hx he];show((Extern.AbiNoEscape.same #[x]).run P w).andThen _=_;have:Extern.AbiNoEscape.same #[x]=pure x:=rfl;rw[this];rfl
  rw[b6];exact⟨ρ,h1,λ_ _=>rfl,Za6 _,hW,jJ.refl _ _ _⟩
theorem Sk{P:Program}{tt:TT}{O:dZ}{G:T cI}{m d f:Nat}{fn:Func}{c:Code}(hm:P.follows .mixedOrders=true)(hT:bL P tt)(hG:MV P tt G)
  (hO:oG P (λ_=>none) O) (IB:ku O) (hf:P.funcs[f]? =some fn) (ji:¬fn.name= "runtime.NumGoroutine") (hb:fn.body=some c) {b:Bool}
  (h:Cm (R:=Bool) false O G m d f [] { heap:= .e,next:= .h } (λv _=>fj v (.bool b))=true) (w:World):
  Calls P f #[] w λe w'=>e= .returned (.bool b)/\Go.RowKit.Below w.heap.size w w':=by
 rw[FZ false O G m d]at h;unfold m5 at h;split at h<;>first|(cases h;done)|skip
 rename_i x hx;obtain⟨v,aN⟩:=x;have hv:=oI h;simp only at hv;subst hv;have hr:=Fm hm hT hO IB hG m d (λ_=>⟨0,0,0⟩) { heap:= .e,next:= .h } w f [] (.bool b) aN [] hx (yL (λ_ _ h=>by cases h) (λ_ _ h=>by cases h)) au.nil;have b6:(callFunc f ([]:List Value).toArray).run P w= .ok (.enter f #[]) w:=by simp[callFunc,hf,ji,hb]
 rw[b6]at hr;refine Calls.mono hr λe w' he=> ?_
 cases e with
 |returned x=>
  obtain⟨ρ',h1,_,_,_,hE⟩:=he;have:=h1.gJ;subst this;exact⟨rfl,hE.os,hE.tape,hE.output,hE.size,λk hk=>hE.block k hk λb x hb=>by rw[T.dD]at hb;cases hb⟩
 |panicked c=>exact he.elim
 |outgrown=>exact he.elim
def DW:Nat->AV->Bool
 |_,.bool _=>true
 |_,.int _ _=>true
 |_,.str _=>true
 |_,.af=>true
 |n+1,.agg l=>l.all (DW n)
 |n+1,.tuple l=>l.all (DW n)
 |n+1,.fl xs _=>xs.all λr=>r.all (DW n)
 |_,_=>false
theorem CS:∀(n:Nat){v:AV},DW n v=true->Plain v
 |0,v,h=>by cases v<;>first|(cases h;done)|exact .bool _|exact .int _ _|exact .str _|exact .af
 |n+1,v,h=>by
  cases v<;>first|(cases h;done)|exact .bool _|exact .int _ _|exact .str _|exact .af|skip
  .exact .fl λcs hc v hv=>CS n (Zd3.1 (Zd3.1 h cs hc) v hv)
  .exact .agg λv hv=>CS n (Zd3.1 h v hv)
  .exact .tuple λv hv=>CS n (Zd3.1 h v hv)
theorem Plain.all{n:Nat}{l:List AV}(h:l.all (DW n)=true):∀v∈l,Plain v:=λv hv=>CS n (Zd3.1 h v hv)
theorem YY{l:List AV}(h:l.all tX=true):nL (.tuple l):= .tuple λv hv=>by have:=Zd3.1 h v hv;cases v<;>first|(cases this;done)|exact .bool _|exact .int _ _
def LR(d:Nat)(A:List AV)(r:AV):List AV->St->Option (AV×St):=λargs st=>match yM (args.map (dz st d)) A with
 |true=>some (r,st)
 |false=>none
theorem YX{P:Program}{C:Cells}{O:dZ}{G:T cI}{m n f d:Nat}{A:List AV}{r:AV}(bI:∀C:Cells,eO P C (ou O G m n))(ha:∀a∈A,Plain a)(hr:Plain r)(hb:nL r)
  (h:Cm (R:=Bool) false O G m n f A { heap:= .e,next:= .h } (λv _=>fj v r)=true):lA P C f (LR d A r):=by
 have h1:=aaa (C:=C) (d:=d) (As:=[A]) bI (λB hB=>by rw[Zc3.1 hB];exact ha) hr hb (by simpa using h);have key:∀args st x,LR d A r args st=some x->Pd d [A] r args st=some x:=λargs st x hx=>by
  unfold LR at hx;split at hx<;>first|(cases hx;done)|skip
  rename_i hq;simp only[H4]at hx;subst hx;exact adB A (Zc3.2 rfl) (CM hq)
 exact⟨λargs st v st' hs=>h1.mono args st v st' (key _ _ _ hs),λρ st w args v st' bC hs=>h1.runs ρ st w args v st' bC (key _ _ _ hs)⟩
end
end Go.Ai
