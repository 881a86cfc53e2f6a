/- Loops over maps in all orders, loops over functions. -/
import Derived.Test.YtoeleelojgimfaaGreatDoorPEvalE
import Derived.Maps.RangeRun
import Derived.Laws.EntriesVeiled
import Derived.RangeFuncRecord
set_option linter.all false
namespace Go.Ai
noncomputable section
open Go Go.RowKit
section
variable{ρ ρ':Pos->Loc}{C:Cells}{st aK:St}{w w1 w':World}{nt r:Nat}{fr bI:Fr}{a a1:Act}
theorem aU.back(hW:aU ρ C st w)(hk:bD st aK)(aQ:∀b:Pos,b.toNat<st.next.toNat->ρ' b=ρ b)(dY:aU ρ' C aK w1)(hs:w.heap.size<=w1.heap.size):aU ρ C st w1:=by
 refine⟨λb y hb=> ?_,hW.inj,λa u ha=>⟨(dY.cY a u ha).1,(hW.cY a u ha).2⟩,dY.whole⟩;obtain⟨g1,g2,g3⟩:=hW.live b y hb;obtain⟨_,_,k3⟩:=dY.live b y (hk b y hb);refine⟨g1,Zc5 g2 hs,?_⟩;rw[aQ b g1]at k3;cases y with
 |cells cs fz=>
  obtain⟨c,e,fr,q1,q2,q3,q4,q5⟩:=k3;obtain⟨c0,e0,bJ,p1,p2,p3,p4,p5⟩:=g3;refine⟨c,e,fr,q1,q2,q3,⟨q4.1,λi v x hv hx=> ?_⟩,q5⟩;obtain⟨y0,hy0,Cl⟩:=p4.get hv;exact(q4.2 i v x hv hx).down Cl aQ
 |map es clock=>
  obtain⟨es',q1,q2,q3⟩:=k3;obtain⟨WJ,p1,p2,p3⟩:=g3;refine⟨es',q1,q2,λi e e' he jE=> ?_⟩;obtain⟨a1,a2,a3⟩:=q3 i e e' he jE;have hi:i<WJ.size:=by rw[<-p2];exact(Za0.1 he).1
  obtain⟨b1,b2,_⟩:=p3 i e _ he (Ze7 hi);exact⟨a1.down b1 aQ,a2.down b2 aQ,a3⟩
 |iD s pos=>exact k3
 |typed t cs=>
  obtain⟨c,fr,q1,q2,q3,q4,q5⟩:=k3;obtain⟨c0,bJ,p1,p2,p3,p4,p5⟩:=g3;refine⟨c,fr,q1,q2,q3,⟨q4.1,λi v x hv hx=> ?_⟩,q5⟩;obtain⟨y0,hy0,Cl⟩:=p4.get hv;exact(q4.2 i v x hv hx).down Cl aQ
theorem eJ.sub{n:Nat}{tmps:Array Value}(h:eJ ρ n C bI tmps)(hf:∀p v,fr.get p=some v->bI.get p=some v):eJ ρ n C fr tmps:=λp v hp=>h p v (hf p v hp)
theorem lf.back(hS:lf nt ρ C fr st a w)(hf:∀p v,fr.get p=some v->bI.get p=some v)(hk:bD st aK)(h:eR nt ρ C st w bI aK a1 w1):
  lf nt ρ C fr st a1 w1/\iT ρ st w ρ st w1:=by
 obtain⟨dx,S1,k1,k2,E⟩:=h;refine⟨⟨hS.W.back hk k1 S1.W E.size,λp v hp=> ?_,S1.size,S1.defers⟩,⟨E.os,E.tape,E.output,E.size,E.block,λb x hb=>.inl ⟨b,x,hb,rfl⟩⟩⟩;obtain⟨x,hx,hv⟩:=S1.F p v (hf p v hp);obtain⟨y,_,hy⟩:=hS.F p v hp;exact⟨x,hx,hv.down hy k1⟩
theorem aU.iter{m:Option Nat}{s c:Nat}{seen:Array Nat}(hW:aU ρ C st w)(hr:w.heap[r]? =some (.mapIter m s seen c))(hn:∀b x,st.heap.get b=some x->(ρ b).au≠r)
   (hs:w'.heap.size=w.heap.size) (hk:∀k,k≠r->w'.heap[k]? =w.heap[k]?):aU ρ C st w':=by
 have cj:∀a v,C a=some v->a.block≠r:=λa v ha e=>by have h:=(hW.cY a v ha).1;unfold World.cell? at h;rw[e,hr]at h;cases h
 refine⟨λb x hb=> ?_,hW.inj,λa v ha=> ?_,λa v ha o ho=> ?_⟩
 .obtain⟨h1,h2,h3⟩:=hW.live b x hb;exact⟨h1,by rw[hs];exact h2,h3.of_heap (hk _ (hn b x hb))⟩
 .obtain⟨h1,h2⟩:=hW.cY a v ha;exact⟨by rw[World.cell?_of_block (w:=w) (hk _ (cj a v ha))];exact h1,h2⟩
 .rw[World.cell?_of_block (w:=w) (a:=⟨a.block,o,none⟩) (hk _ (cj a v ha))];exact hW.whole a v ha o ho
end
def T.sub{α:Type}(f:α->α->Bool):T α->T α->Bool
 |.e,_=>true
 |.n l v r,.e=>(match v with|none=>true|some _=>false)&&T.sub f l .e&&T.sub f r .e
 |  .n l v r,.n l' v' r'=>(match v with
    |none=>true
    |some a=>match v' with
     |some b=>f a b
     |none=>false)&&T.sub f l l'&&T.sub f r r'
theorem T.wq{α:Type}{f:α->α->Bool}(hf:∀a b,f a b=true->a=b):∀{t u:T α},T.sub f t u=true->∀p v,t.get p=some v->u.get p=some v
 |.e,_,_,p,v,h=>by rw[T.cZ]at h;cases h
 | .n l x r,.e,hs,p,v,h=>by
   simp only[T.sub,Za8]at hs;cases p with
   |h=>simp only[T.get]at h;subst h;simp at hs
   |o p=>have:=T.wq hf hs.1.2 p v h;rw[T.cZ]at this;cases this
   |i p=>have:=T.wq hf hs.2 p v h;rw[T.cZ]at this;cases this
 | .n l x r,.n l' x' r',hs,p,v,h=>by
   simp only[T.sub,Za8]at hs;cases p with
   |h=>
    simp only[T.get]at h ⊢; subst h;have h1:=hs.1.1;cases x' with
    |none=>simp at h1
    |some y=>simp at h1;rw[hf _ _ h1]
   |o p=>exact T.wq hf hs.1.2 p v h
   |i p=>exact T.wq hf hs.2 p v h
structure RG where
 t17:Nat
 t18:Nat
 t19:Nat
 t20:Nat
 l2:List bh
 x:dL
 l4:List bh
 body:AC
 ds:List Pos
abbrev XR:=Option (iF×Fr×St)
section
variable(aY:gJ XR)(m:Nat)(g:RG)
def Xe(c:AC)(fr:Fr)(st:St):XR:=Kj none aY m c fr st (λfr st=>some (.normal,fr,st)) (λi fr st=>some (.exit i,fr,st)) (λfr st=>some (.ret,fr,st))
def ZA(k v:AV)(fr:Fr)(st:St):XR:=
 mo (some (.tuple [.bool true,k,v])) (key g.t18) fr λfr=>mo (some (.bool true)) (key g.t19) fr λfr=>mo (some (.tuple [k,v])) (key g.t20) fr λfr=>
    LZ none aY g.l4 fr st λfr st=>Xe aY m g.body fr st
def MD(clock:Nat):List (AV×AV×Nat)->Bool
 |[]=>true
 |e::es=>Nat.blt e.2.2 clock&&es.all (λx=> !Nat.beq x.2.2 e.2.2)&&MD clock es
end
section
variable{P:Program}{tt:TT}{C:Cells}
def Gi(P:Program)(C:Cells)(nt:Nat)(c:Code)(ex:Fr->St->XR):Prop:=
 ∀  (fr aW:Fr)(st st':St)(e:iF)(ρ:Pos->Loc)(a:Act)(w:World)(Q:Exit->Act->World->Prop),ex fr st=some (e,aW,st')->lf nt ρ C fr st a w->
    (∀a' w',eR nt ρ C st w aW st' a' w'->Q (lF e) a' w')->dZ P c Q a w
theorem Xf{aY:gJ XR}{call:ai}(hc:CK none aY call)(m:Nat)(c:AC)(fr:Fr)(st:St):Xe aY m c fr st=exec call m c fr st:=by
 unfold Xe;rw[Ju none hc];cases exec call m c fr st with
 |none=>rfl
 |some x=>obtain⟨e,fr,st⟩:=x;cases e<;>rfl
theorem Gi.ac(hT:bH P tt){aY:gJ XR}{call:ai}(hc:CK none aY call)(bE:ew P C call)(fh:oH P tt C call){nt m:Nat}{c:Code}{a:AC}(h:pH tt nt c=some a):
 Gi P C nt c (Xe aY m a):=λfr aW st st' e ρ ac w Q hx hS hQ=>(nS hT bE fh m).1 c a fr aW st st' e ρ ac w Q h (by rw[<-Xf hc];exact hx) hS hQ
def Q4:List Pos->Fr->Fr
 |[],fr=>fr
 |p::ps,fr=>Q4 ps (fr.put none p)
theorem ME:∀(ps:List Pos)(fr:Fr)(p:Pos)(v:AV),(Q4 ps fr).get p=some v->fr.get p=some v
 |[],_,_,_,h=>h
 |q::ps,fr,p,v,h=>by
  have h:=ME ps _ p v h;by_cases hq:q=p
  .subst hq;rw[T.ee]at h;cases h
  .rwa [T.bn _ hq]at h
theorem TA{clock:Nat}:∀{es:List (AV×AV×Nat)},MD clock es=true->(∀e∈es,e.2.2<clock)/\(es.map (·.2.2)).Nodup
 |[],_=>⟨λ_ h=>by simp at h,by simp⟩
 |e ::es,h=>by
  simp only[MD,Za8]at h;obtain⟨⟨h1,h2⟩,h3⟩:=h;obtain⟨i1,i2⟩:=TA h3;refine⟨λx hx=> ?_,?_⟩
  . rcases Za9.1 hx with rfl|hx
    .exact Za3 h1
    .exact i1 x hx
  .rw[Zd4,Zp0];refine⟨λhm=> ?_,i2⟩;obtain⟨x,hx,he⟩:=Zf3.1 hm;have:=Zc9.1 h2 x hx;simp[he]at this
def Mv(aY:gJ XR)(m:Nat)(g:RG)(A B:Fr×St)(e:AV×AV×Nat):Prop:=
 ∃f1 s1,ZA aY m g e.1 e.2.1 A.1 A.2=some (.normal,f1,s1)/\(∀p v,B.1.get p=some v->f1.get p=some v)/\((B=A/\bD A.2 s1)\/B.2=s1)
section
variable{aY:gJ XR}{call:ai}{nt m:Nat}{g:RG}{lq:Array Oper}{o0 o1 o4:Oper}{i3 i4 b0 b1:Nat}{rest:Code}{Cw:List bh}{bs:List Nat}
def UT(g:RG)(o0 o1:Oper)(lq:Array Oper)(rest:Code)(i3 i4 b0 b1:Nat):Code:=
 .seq (.region i3 #[o0,o1] false) (.seq (.cond (.tmp g.t19) .skip (.exit b0)) (.block b1 (.seq (.region i4 lq false) rest)))
structure ZB(tt:TT)(nt:Nat)(g:RG)(o0 o1 o4:Oper)(lq:Array Oper)(rest:Code)(Cw:List bh)(bs:List Nat):Prop where
 n0:o0.op= .next (.tmp g.t17) false/\o0.guard=none/\o0.dst=some g.t18
 n1:o1.op= .extract (.tmp g.t18) 0/\o1.guard=none/\o1.dst=some g.t19
 n4:lq[0]? =some o4/\o4.op= .entry (.tmp g.t17)/\o4.guard=none/\o4.dst=some g.t20
 lt:g.t17<nt/\g.t18<nt/\g.t19<nt/\g.t20<nt
 ne:g.t17≠g.t18/\g.t17≠g.t19/\g.t18≠g.t19
 c4:lO tt nt lq lq.toList bs=some Cw
 l4:Cw.tail=g.l4
 r4:pH tt nt rest=some g.body
structure LI(C:Cells)(nt:Nat)(g:RG)(X:Fr×St)(b yj:Pos)(es:List (AV×AV×Nat))(since r:Nat)(jr:Pos->Loc)(Gj:St)(w0:World)(seen:Array Nat)(ρ:Pos->Loc)(a:Act)(w:World):Prop where
 S:lf nt ρ C X.1 X.2 a w
 k1:∀p:Pos,p.toNat<Gj.next.toNat->ρ p=jr p
 k2:Gj.next.toNat<=X.2.next.toNat
 E:iT jr Gj w0 ρ X.2 w
 ip:(ρ yj).au=r/\(ρ yj).base=0/\yj.toNat<X.2.next.toNat
 at17:X.1.get (key g.t17)=some (.ptr yj 0)
 mp:X.2.heap.get b=some (.map es since)
 it:∃c,w.heap[r]? =some (.mapIter (some (ρ b).au) since seen c)/\since<=c
 Lf:∀p x,X.2.heap.get p=some x->(ρ p).au≠r
 late:w0.heap.size<=r
 cl:X.1.get (key g.t18)=none/\X.1.get (key g.t19)=none
theorem tO{ops:Array Oper}{K:Act->World->Prop}{i:Nat}{rest:List Nat}{o:Oper}{a:Act}{w w':World}{v:Value}(ho:ops[i]? =some o)(hg:o.guard=none)
  (hr:(execOp a.eval o).run P w= .ok (.value v) w') (hQ:nP P ops K rest (a.put o.dst v) w'):nP P ops K (i::rest) a w:=by
 unfold nP zx;rw[ho];simp only[Region.wanted,hg,Zg8];unfold Ma;rw[hr];exact hQ
theorem eval_put{a:Act}{t:Nat}{v:Value}(h:t<a.tmps.size):(a.put (some t) v).eval (.tmp t)=v:=by
 simp[Act.put,Act.eval,h]
theorem IL{a:Act}{t s:Nat}{v:Value}(h:t≠s):(a.put (some t) v).eval (.tmp s)=a.eval (.tmp s):=by
 simp[Act.put,Act.eval,Zd6 h]
theorem LI.round(hT:bH P tt)(hc:CK none aY call)(bE:ew P C call)(fh:oH P tt C call)(hR:ZB tt nt g o0 o1 o4 lq rest Cw bs)
   {A:Fr×St} {b yj:Pos} {es:List (AV×AV×Nat)} {since r:Nat} {jr:Pos->Loc} {Gj:St} {w0:World} {seen:Array Nat} {ρ:Pos->Loc} {a:Act} {w:World}
   (L:LI C nt g A b yj es since r jr Gj w0 seen ρ a w) (cW:MD since es=true) {Q:Exit->Act->World->Prop}
   (UU:(∀e∈es,seen.contains e.2.2=true)->∀a',lf nt ρ C A.1 A.2 a' w->Q (.exit b0) a' w)
   (acZ:∀e∈es,seen.contains e.2.2=false->∃B,Mv aY m g A B e/\B.1.get (key g.t17)=some (.ptr yj 0)/\B.2.heap.get b=some (.map es since)/\B.1.get (key g.t18)=none/\B.1.get (key g.t19)=none/\
     ∀ρ' a' w',LI C nt g B b yj es since r jr Gj w0 (seen.push e.2.2) ρ' a' w'->Q .normal a' w'):
   dZ P (UT g o0 o1 lq rest i3 i4 b0 b1) Q a w:=by
 obtain⟨c,hr,hsc⟩:=L.it;obtain⟨g1,g2,es',q1,q2,q3⟩:=L.S.W.live b _ L.mp;obtain⟨aV,ER⟩:=TA cW;have hat:∀(i:Nat)(e':MapEntry),es'[i]? =some e'->∃e,es[i]? =some e/\aj ρ A.2.next.toNat C e.1 e'.key/\aj ρ A.2.next.toNat C e.2.1 e'.val/\e.2.2=e'.born:=λi e' h=>by
   have hi:i<es.length:=(by rw[q2];exact(Zc8.1 h).1);exact⟨_,H4 hi,q3 i _ e' (H4 hi) h⟩
 have hold:∀x∈es'.toList,x.born<since:=λx hx=>by
   obtain⟨i,hi⟩:=Zd5.1 hx;obtain⟨e,h1,_,_,h2⟩:=hat i x (by simpa using hi);rw[<-h2];exact aV e (Zb5 h1)
 have gQ:es'.toList.map (·.born)=es.map (·.2.2):=by
   apply Zh1;intro i;simp only[Zc0,Zg1];cases h:es'[i]? with
   | none=>
     have:es.length<=i:=(by rw[q2];exact Array.getElem?_eq_none_iff.1 h);rw[Zb7 this];rfl
   | some x=>
     obtain⟨e,h1,_,_,h2⟩:=hat i x h;rw[h1];simp[h2]
 have Nu:a.eval (.tmp g.t17)= .pointer (some ⟨r,0,none⟩):=by
   have h:=nN (x:= .tmp g.t17) (o:= .t (key g.t17)) rfl L.S.F (v:= .ptr yj 0) L.at17;obtain⟨_,h⟩:=h.ei;rw[h,L.ip.1,L.ip.2.1]
 have eu:=L.S.size;have s18:∀(v:Value),g.t18<(a.put (some g.t18) v).tmps.size:=λv=>by rw[Act.gw,eu];exact hR.lt.2.1
 have hrl:r<w.heap.size:=(Zc8.1 hr).1;unfold UT;apply zz;apply BE;show nP P _ _ [0,1] a w;rcases run_next_at (P:=P) w o0.type r (ρ b).au since c seen es' since hr q1 hold hsc with⟨h0,bP⟩|⟨e',jE,w1,TE,bP⟩
 . refine tO (i:=0) (o:=o0) rfl hR.n0.2.1 (v:= .tuple #[.bool false]) (w':=w) (by simp[execOp,hR.n0.1,Nu,bP,Result.andThen]) ?_;rw[hR.n0.2.2];refine tO (i:=1) (o:=o1) rfl hR.n1.2.1 (v:= .bool false) (w':=w) (by simp[execOp,hR.n1.1,eval_put (eu ▸hR.lt.2.1),Instr.extract,Result.andThen]) ?_;rw[hR.n1.2.2];apply zz;refine KC (eval_put (by rw[Act.gw,eu];exact hR.lt.2.2.1)) (Wp ?_);refine UU (λe he=> ?_) _ ⟨L.S.W,λp v hp=> ?_,by rw[Act.gw,Act.gw];exact eu,by rw[Act.iz,Act.iz];exact L.S.defers⟩
   .obtain⟨i,hi⟩:=Zd5.1 he;have Is:i<es'.size:=(by rw[<-q2];exact(Za0.1 hi).1);obtain⟨e2,h1,_,_,h2⟩:=hat i _ (Ze7 Is);rw[hi]at h1;cases h1;rw[h2];have hem:leftOf es' seen= #[]:=Zm3 h0;unfold leftOf at hem;rw[Array.filter_eq_empty_iff]at hem;have:=hem es'[i] (Array.getElem_mem Is);simpa using this
   .rw[A6 (λh=>by simp at h;subst h;rw[L.cl.2]at hp;cases hp),A6 (λh=>by simp at h;subst h;rw[L.cl.1]at hp;cases hp)];exact L.S.F p v hp
 . have hr1:w1.heap[r]? =some (.mapIter (some (ρ b).au) since seen c):=(by rcases TE with rfl|rfl<;>exact hr);have EM:w1.heap[(ρ b).au]? =some (.map es' since):=(by rcases TE with rfl|rfl<;>exact q1);have Dt:=Go.MapKept.heap_set (o':= .mapIter (some (ρ b).au) since (seen.push e'.born) since) hr1;obtain⟨w2,mT⟩:∃w2,w2=Go.ChangeMaps.setBlock w1 r (.mapIter (some (ρ b).au) since (seen.push e'.born) since):=⟨_,rfl⟩
   (change (Go.ChangeMaps.setBlock w1 r (.mapIter (some (ρ b).au) since (seen.push e'.born) since)).heap[r]? =_/\∀k,k≠r->(Go.ChangeMaps.setBlock w1 r (.mapIter (some (ρ b).au) since (seen.push e'.born) since)).heap[k]? =_ at Dt;rw[<-mT]at Dt bP;have xp:w2.heap.size=w.heap.size:=(by rw[mT];rcases TE with rfl|rfl<;>simp[Go.ChangeMaps.setBlock]<;>rfl);have kW:∀k,k≠r->w2.heap[k]? =w.heap[k]? :=λk hk=>(Dt.2 k hk).trans (by rcases TE with rfl|rfl<;>rfl));have zw:w2.os=w.os/\w2.tape=w.tape/\w2.output=w.output:=(by rw[mT];rcases TE with rfl|rfl<;>exact⟨rfl,rfl,rfl⟩);clear mT TE;have Cn:aU ρ C A.2 w2:=L.S.W.iter hr L.Lf xp kW;have hen:(Instr.entry (.pointer (some ⟨r,0,none⟩))).run P w2= .ok (.tuple #[e'.key,e'.val]) w2:=
     run_entry_at _ r _ since seen es' since e' Dt.1 ((kW _ (L.Lf b _ L.mp)).trans q1) (by simp[leftOf]at jE;simpa using jE.1) (gQ ▸ER)
   obtain⟨i,hi⟩:=Zd5.1 jE;have Jt:e'∈es'.toList/\seen.contains e'.born=false:=(by simpa [leftOf]using jE);obtain⟨j,hj⟩:=Zd5.1 Jt.1;obtain⟨e,h1,v1,v2,h2⟩:=hat j e' (by simpa using hj);obtain⟨B,⟨f1,s1,hx,hf,hB⟩,b17,bm,b18,b19,hQ⟩:=acZ e (Zb5 h1) (by rw[h2];exact Jt.2);refine tO (i:=0) (o:=o0) rfl hR.n0.2.1 (v:= .tuple #[.bool true,e'.key,e'.val]) (w':=w2) (by simp[execOp,hR.n0.1,Nu,bP,Result.andThen]) ?_;rw[hR.n0.2.2];refine tO (i:=1) (o:=o1) rfl hR.n1.2.1 (v:= .bool true) (w':=w2) (by simp[execOp,hR.n1.1,eval_put (eu ▸hR.lt.2.1),Instr.extract,Result.andThen]) ?_;rw[hR.n1.2.2];apply zz;refine Mb (eval_put (by rw[Act.gw,eu];exact hR.lt.2.2.1)) (Wo ?_);apply KB;apply zz;apply BE;have EN:lq.size=g.l4.length+1:=(by have h:Cw.length=lq.size:=(by rw[(mz hR.c4).1,Zf0]);obtain⟨h4,_⟩:=Zc8.1 hR.n4.1;have h4:0<lq.size:=h4;rw[<-hR.l4,List.length_tail];omega);rw[EN,Zk4,Zm4];refine tO (i:=0) (o:=o4) hR.n4.1 hR.n4.2.2.1 (v:= .tuple #[e'.key,e'.val]) (w':=w2) (by simp[execOp,hR.n4.2.1,IL hR.ne.1.symm,IL hR.ne.2.1.symm,Nu,hen,Result.andThen]) ?_;rw[hR.n4.2.2.2];unfold ZA at hx;simp only[gF]at hx;rw[HP none hc]at hx;unfold mA at hx;(split at hx<;>first|(cases hx;done)|skip);rename_i y hy;simp only[Xf hc]at hx;have hvt:aj ρ A.2.next.toNat C (.tuple [.bool true,e.1,e.2.1]) (.tuple #[.bool true,e'.key,e'.val]):= .pT ((aq.nil.cons v2).cons v1 |>.cons (.bool true));have hve:aj ρ A.2.next.toNat C (.tuple [e.1,e.2.1]) (.tuple #[e'.key,e'.val]):= .pT ((aq.nil.cons v2).cons v1);have F1:=eJ.put (nt:=nt) (d:=some g.t18) L.S.F eu (λ_ h=>by cases h;exact hR.lt.2.1) hvt;have F2:=eJ.put (nt:=nt) (d:=some g.t19) F1 (by rw[Act.gw];exact eu) (λ_ h=>by cases h;exact hR.lt.2.2.1) (.bool true);have F3:=eJ.put (nt:=nt) (d:=some g.t20) F2 (by rw[Act.gw,Act.gw];exact eu) (λ_ h=>by cases h;exact hR.lt.2.2.2) hve;refine nR (nt:=nt) hT bE g.l4 1 _ y.1 A.2 y.2 ρ _ w2 (λi ao hi=> ?_) hy ⟨Cn,F3,by rw[Act.gw,Act.gw,Act.gw];exact eu,by rw[Act.iz,Act.iz,Act.iz];exact L.S.defers⟩ λa3 w3 hp=> ?_
   .rw[<-hR.l4,List.getElem?_tail]at hi;obtain⟨o,k1,k2,_⟩:=vY hR.c4 (i+1) ao hi;exact⟨o,by rw[Nat.add_comm];exact k1,k2⟩
   obtain⟨xx,S3,k1,k2,k3⟩:=hp;(refine(nS hT bE fh m).1 rest g.body y.1 f1 y.2 s1 .normal xx a3 w3 _ hR.r4 hx S3 λa4 w4 hp=> ?_);have hP:=eR.trans k1 k2 k3 hp;show Q .normal a4 w4;have S2:lf nt ρ C A.1 A.2 a w2:=⟨Cn,L.S.F,eu,L.S.defers⟩
   have Wg:iT jr Gj w0 ρ A.2 w2:=⟨zw.1.trans L.E.os,zw.2.1.trans L.E.tape,zw.2.2.trans L.E.output,by rw[xp];exact L.E.size,λk hk hn=>(kW k (by have:=L.late;omega)).trans (L.E.block k hk hn),λb x hb=>L.E.mj b x hb⟩
   obtain⟨Q5,S4,l1,l2,E4⟩:∃Q5,lf nt Q5 C B.1 B.2 a4 w4/\(∀p:Pos,p.toNat<A.2.next.toNat->Q5 p=ρ p)/\A.2.next.toNat<=B.2.next.toNat/\iT ρ A.2 w2 Q5 B.2 w4:=by
     rcases hB with⟨rfl,hk⟩|hB
     .  obtain⟨S,E⟩:=S2.back hf hk hP;exact⟨ρ,S,λ_ _=>rfl,Za4 _,E⟩
     .  obtain⟨Q5,S,l1,l2,E⟩:=hP;rw[<-hB]at S l2 E;exact⟨Q5,⟨S.W,S.F.sub hf,S.size,S.defers⟩,l1,l2,E⟩
   have h4r:w4.heap[r]? =some (.mapIter (some (ρ b).au) since (seen.push e.2.2) since):=(by rw[E4.block r (by rw[xp];exact hrl) L.Lf,h2];exact Dt.1);refine hQ Q5 a4 w4 ⟨S4,λp hp=>(l1 p (Zc5 hp L.k2)).trans (L.k1 p hp),Zc7 L.k2 l2,Wg.trans E4,?_,b17,bm,⟨since,?_,Za4 _⟩,λp x hp=> ?_,L.late,b18,b19⟩
   .rw[l1 yj L.ip.2.2];exact⟨L.ip.1,L.ip.2.1,Zc5 L.ip.2.2 l2⟩
   .rw[l1 b g1];exact h4r
   . rcases E4.mj p x hp with⟨p',x',hp',e1⟩|h
     .  rw[<-e1];exact L.Lf p' x' hp'
     .  rw[xp]at h;omega
theorem zO:∀(ps:List Pos)(fr:Fr)(p:Pos),p∈ps\/fr.get p=none->(Q4 ps fr).get p=none
 |[],_,_,h=>h.elim (λh=>by simp at h) id
 |q ::ps,fr,p,h=>zO ps _ p (by
  by_cases hq:q=p
  .subst hq;exact .inr (T.ee _ _ _)
  . rcases h with h|h
    .   rcases Za9.1 h with h|h
        .exact(hq h.symm).elim
        .exact .inl h
    .   exact .inr (by rw[T.bn _ hq];exact h))
theorem aU.slot{ρ ρ':Pos->Loc}{st:St}{w:World}(hW:aU ρ C st w)(aQ:∀p:Pos,p.toNat<st.next.toNat->ρ' p=ρ p):aU ρ' C ⟨st.heap,st.next.succ⟩ w:=by
 have hl:∀p x,st.heap.get p=some x->ρ' p=ρ p:=λp x hp=>aQ p (hW.live p x hp).1
 refine⟨λp x hp=> ?_,λp q x y hp hq h=> ?_,λa v ha=>⟨(hW.cY a v ha).1,λp x hp=> ?_⟩,hW.whole⟩
 .obtain⟨h1,h2,h3⟩:=hW.live p x hp;rw[hl p x hp];exact⟨by rw[Pos.ax];exact Nat.lt_succ_of_lt h1,h2,h3.mono aQ (by rw[Pos.ax];omega)⟩
 .rw[hl p x hp,hl q y hq]at h;exact hW.inj p q x y hp hq h
 .rw[hl p x hp];exact(hW.cY a v ha).2 p x hp
end
end
section
variable{P:Program}{tt:TT}{C:Cells}
def idxS:List AV->St->Option (AV×St)
 |[.str a,.int .u8 c],st=>some (.int .i64 (Lib.indexByte (a.map UInt8.ofNat) c.toNat.toUInt8),st)
 |_,_=>none
end
def aaR (tt :TT)(nt:Nat)(ds:List Nat)(b0 b0' t19:Nat)(o2 o0 o1 o4:Oper)(Lg Cw:List bh)(body:AC):Option (RG×Nat):=
 match o2.op,o0.op,o1.op,o4.op with
 |  .range ty x,.next (.tmp a0) false,.extract (.tmp a1) 0,.entry (.tmp a4)=>match o2.dst,o0.dst,o1.dst,o4.dst with
    |some t17,some t18,some c,some t20=>match o2.guard,o0.guard,o1.guard,o4.guard with
     |  none,none,none,none=>match jN x with
        |some xo=>match Nat.beq a0 t17&&Nat.beq a1 t18&&Nat.beq a4 t17&&Nat.beq c t19&&Nat.beq b0 b0'&&Nat.blt t17 nt&&Nat.blt t18 nt&&Nat.blt t19 nt&&Nat.blt t20 nt&&
            !Nat.beq t17 t18&& !Nat.beq t17 t19&& !Nat.beq t18 t19 with
         |true=>some (⟨t17,t18,t19,t20,Lg.dropLast,xo,Cw.tail,body,key t18::key t19::ds.map key⟩,ty)
         |false=>none
        |_=>none
     |_,_,_,_=>none
    |_,_,_,_=>none
 |_,_,_,_=>none
def Q6 (tt:TT)(nt:Nat):Code->Option (RG×Nat)
 |  .seq (.region _ uD false) (.block b0 (.loop (.seq (.region _ ⟨[o0,o1]⟩ false) (.seq (.cond (.tmp t19) .skip (.exit b0')) (.block _ (.seq (.region _ lq false) rest))))))=>
    match uD[uD.size - 1]?,lq[0]? with
    |some o2,some o4=>match lO tt nt uD uD.toList [],lO tt nt lq lq.toList []with
     |  some Lg,some Cw=>match pH tt nt rest with
        |some body=>aaR tt nt (lq.toList.filterMap (·.dst)++nQ rest) b0 b0' t19 o2 o0 o1 o4 Lg Cw body
        |none=>none
     |_,_=>none
    |_,_=>none
 |_=>none
section
variable{P:Program}{tt:TT}{C:Cells}{aY:gJ XR}{call:ai}{nt m:Nat}
def JG:Code->Bool
 |.region _ ops _=>ops.toList.any λo=>match o.op with|.range _ _=>true|_=>false
 |.seq a b=>JG a||JG b
 |.cond _ a b=>JG a||JG b
 |.block _ a=>JG a
 |.loop a=>JG a
 |_=>false
end
abbrev XO:=iF×Fr×St
abbrev XS:=Option (List XO)
def Q7(y x:XO):Bool:=match y.1,x.1 with
 |.normal,.normal=>T.sub dJ y.2.1 x.2.1&&T.sub Ba y.2.2.heap x.2.2.heap&&Pos.beq y.2.2.next x.2.2.next
 |_,_=>false
def MF:List XO->List XO->List XO
 |[],acc=>acc
 |  x::l,acc=>match acc.any (λy=>Q7 y x)with
    |true=>MF l acc
    |false=>MF l (x::acc)
def DX{α:Type}(k:α->XS):List α->List XO->XS
 |[],acc=>some acc
 |  e::l,acc=>match k e with
    |some a=>DX k l (MF a acc)
    |none=>none
structure Cv(y x:XO):Prop where
 e:y.1=x.1
 f:∀p v,y.2.1.get p=some v->x.2.1.get p=some v
 h:∀p v,y.2.2.heap.get p=some v->x.2.2.heap.get p=some v
 n:y.2.2.next=x.2.2.next
theorem Cv.refl(x:XO):Cv x x:=⟨rfl,λ_ _ h=>h,λ_ _ h=>h,rfl⟩
theorem Xg{y x:XO}(h:Q7 y x=true):Cv y x:=by
 unfold Q7 at h;split at h<;>first|(cases h;done)|skip
 rename_i h1 h2;simp only[Za8]at h;exact⟨h1.trans h2.symm,T.wq (λ_ _=>nX) h.1.1,T.wq (λ_ _=>Jv) h.1.2,Pos.beq_eq.1 h.2⟩
theorem Gk:∀{l acc:List XO},(∀y∈acc,y∈MF l acc)/\∀x∈l,∃y∈MF l acc,Cv y x
 |[],acc=>⟨λy hy=>hy,λx hx=>by cases hx⟩
 |x ::l,acc=>by
  unfold MF;split
  . rename_i h;obtain⟨h1,h2⟩:=Gk (l:=l) (acc:=acc);refine⟨h1,λz hz=> ?_⟩;rcases Za9.1 hz with rfl|hz
    .   obtain⟨y,hy,hc⟩:=List.any_eq_true.1 h;exact⟨y,h1 y hy,Xg hc⟩
    .   exact h2 z hz
  . obtain⟨h1,h2⟩:=Gk (l:=l) (acc:=x::acc);refine⟨λy hy=>h1 y (Za6 _ hy),λz hz=> ?_⟩;rcases Za9.1 hz with rfl|hz
    .   exact⟨z,h1 z (Zc6 ..),.refl z⟩
    .   exact h2 z hz
theorem tP{α:Type}{k:α->XS}{outs:List XO}:∀{l:List α}{acc:List XO},DX k l acc=some outs->(∀y∈acc,y∈outs)/\∀e∈l,∃a,k e=some a/\∀x∈a,∃y∈outs,Cv y x
 |[],acc,h=>by
  simp only[DX,H0]at h;subst h;exact⟨λy hy=>hy,λe he=>by cases he⟩
 |e::l,acc,h=>by
  unfold DX at h;split at h<;>first|(cases h;done)|skip
  rename_i a ha;obtain⟨h1,h2⟩:=tP h;obtain⟨n1,n2⟩:=Gk (l:=a) (acc:=acc);refine⟨λy hy=>h1 y (n1 y hy),λz hz=> ?_⟩;rcases Za9.1 hz with rfl|hz
  .exact⟨a,ha,λx hx=>let⟨y,hy,hc⟩:=n2 x hx;⟨y,h1 y hy,hc⟩⟩
  .exact h2 z hz
section
variable{P:Program}{tt:TT}{C:Cells}{nt:Nat}{ρ:Pos->Loc}{st:St}{w:World}
theorem aU.xS{ρ:Pos->Loc}{st st':St}{w:World}(hW:aU ρ C st w)(h:∀p v,st'.heap.get p=some v->st.heap.get p=some v)(hn:st'.next=st.next):aU ρ C st' w:=
 ⟨λb x hb=>by rw[hn];exact hW.live b x (h b x hb),λb b' x x' hb gQ=>hW.inj b b' x x' (h b x hb) (h b' x' gQ),λa v ha=>⟨(hW.cY a v ha).1,λb x hb=>(hW.cY a v ha).2 b x (h b x hb)⟩,hW.whole⟩
theorem eR.Lh{y x:XO}{a':Act}{w':World}(hc:Cv y x)(h:eR nt ρ C st w x.2.1 x.2.2 a' w'):eR nt ρ C st w y.2.1 y.2.2 a' w':=by obtain⟨dx,S,k1,k2,E⟩:=h;refine⟨dx,⟨S.W.xS hc.h hc.n,?_,S.size,S.defers⟩,k1,by rw[hc.n];exact k2,⟨E.os,E.tape,E.output,E.size,E.block,λb v hb=>E.mj b v (hc.h b v hb)⟩⟩;rw[hc.n];exact S.F.sub hc.f
def yU(P:Program)(C:Cells)(nt:Nat)(c:Code)(ex:Fr->St->XS):Prop:=
 ∀  (fr:Fr)(st:St)(outs:List XO)(ρ:Pos->Loc)(a:Act)(w:World)(Q:Exit->Act->World->Prop),ex fr st=some outs->lf nt ρ C fr st a w->
    (∀o∈outs,∀a' w',eR nt ρ C st w o.2.1 o.2.2 a' w'->Q (lF o.1) a' w')->dZ P c Q a w
def ZC(ex:Fr->St->XR)(fr:Fr)(st:St):XS:=match ex fr st with
 |some o=>some [o]
 |none=>none
theorem Gi.one{c:Code}{ex:Fr->St->XR}(h:Gi P C nt c ex):yU P C nt c (ZC ex):=by
 intro fr st outs ρ a w Q hx hS hQ;unfold ZC at hx;split at hx<;>first|(cases hx;done)|skip
 rename_i o ho;simp only[H0]at hx;subst hx;exact h fr o.2.1 st o.2.2 o.1 ρ a w Q ho hS λa' w' hp=>hQ o (by simp) a' w' hp
end
section
variable(aY:gJ XR)(m:Nat)(g:RG)
def Q8{β:Type}:List Pos->Fr->(Fr->β)->β
 |[],fr,k=>k fr
 |p::ps,fr,k=>mo none p fr λfr=>Q8 ps fr k
def Q9 (b:Pos)(es:List (AV×AV×Nat))(clock:Nat)(yj:Pos):Nat->List (AV×AV×Nat)->Fr->St->XS
 |  0,todo,fr,st=>match todo with
    |[]=>some [(.normal,fr,st)]
    |_=>none
 |  n+  1,todo,fr,st=>match todo with
    |[]=>some [(.normal,fr,st)]
    |_  =>DX (λe=>match ZA aY m g e.1 e.2.1 fr st with
     |  some (.normal,f1,s1)=>Q8 g.ds f1 λf1=>match kI b s1.heap,kI (key g.t17) f1 with
        |some y,some v=>match Ba y (.map es clock)&&dJ v (.ptr yj 0)with
         |true=>Q9 b es clock yj n (todo.filter λx=> !Nat.beq x.2.2 e.2.2) f1 s1
         |false=>none
        |_,_=>none
     |_=>none) todo []
def Ra(l:List bh)(fr:Fr)(st:St):XR:=LZ none aY l fr st λfr st=>some (.normal,fr,st)
def rgS (fr:Fr)(st:St):XS:=match Ra aY g.l2 fr st with
 |  some (_,fr,st)=>Nq none fr g.x λ
    | .map b=>match kI b st.heap with
      | some (.map es clock)=>match MD clock es with
        |true=>Q8 g.ds fr λfr=>mo (some (.ptr st.next 0)) (key g.t17) fr λfr=>Ki st.next λn=>Q9 aY m g b es clock st.next es.length es fr { heap:=st.heap,next:=n }
        |false=>none
      |_=>none
    |_=>none
 |none=>none
end
section
variable{P:Program}{tt:TT}{C:Cells}{aY:gJ XR}{call:ai}{nt m:Nat}{g:RG}{lq:Array Oper}{o0 o1 o4:Oper}{i3 i4 b0 b1:Nat}{rest:Code}{Cw:List bh}{bs:List Nat}
theorem MG{β:Type}:∀(ps:List Pos)(fr:Fr)(k:Fr->β),Q8 ps fr k=k (Q4 ps fr)
 |[],_,_=>rfl
 |p::ps,fr,k=>by simp only[Q8,gF,Q4];exact MG ps _ k
theorem MH(hc:CK none aY call){l:List bh}{fr aW:Fr}{st st':St}{e:iF}(h:Ra aY l fr st=some (e,aW,st')):e= .normal/\iq call l fr st=some (aW,st'):=by
 unfold Ra at h;rw[HP none hc]at h;unfold mA at h;split at h<;>first|(cases h;done)|skip
 rename_i y hy;simp only[H0,Zb2]at h;obtain⟨rfl,rfl,rfl⟩:=h;exact⟨rfl,hy⟩
theorem LI.ab3(hT:bH P tt)(hc:CK none aY call)(bE:ew P C call)(fh:oH P tt C call)(hR:ZB tt nt g o0 o1 o4 lq rest Cw bs)
  {b yj:Pos} {es:List (AV×AV×Nat)} {since r:Nat} {jr:Pos->Loc} {Gj:St} {w0:World} (cW:MD since es=true) (qO:key g.t18∈g.ds/\key g.t19∈g.ds) {Q:Exit->Act->World->Prop}:
  ∀ (n:Nat)(todo:List (AV×AV×Nat))(fr:Fr)(st:St)(outs:List XO)(seen:Array Nat)(ρ:Pos->Loc)(a:Act)(w:World),Q9 aY m g b es since yj n todo fr st=some outs->
    (∀e,e∈todo↔e∈es/\seen.contains e.2.2=false)->LI C nt g (fr,st) b yj es since r jr Gj w0 seen ρ a w->
    (∀o∈outs,o.1= .normal->∀a' w',eR nt jr C Gj w0 o.2.1 o.2.2 a' w'->Q (.exit b0) a' w')->FM (dZ P (UT g o0 o1 lq rest i3 i4 b0 b1)) Q (n+1) a w:=by
 intro n;induction n with
 |zero=>
  intro todo fr st outs seen ρ a w h HY L hQ;unfold Q9 at h;split at h<;>first|(cases h;done)|skip
  simp only[H0]at h;subst h;rw[NB];refine L.round (m:=m) hT hc bE fh hR cW (λ_ a' S=>hQ (.normal,fr,st) (Zd2.2 rfl) rfl a' w ⟨ρ,S,L.k1,L.k2,L.E⟩) λe he hs=> ?_
  have:=(HY e).2 ⟨he,hs⟩;cases this
 |succ n ih=>
  intro todo fr st outs seen ρ a w h HY L hQ;rw[NB];unfold Q9 at h;split at h
  .simp only[H0]at h;subst h;(refine L.round (m:=m) hT hc bE fh hR cW (λ_ a' S=>hQ (.normal,fr,st) (Zd2.2 rfl) rfl a' w ⟨ρ,S,L.k1,L.k2,L.E⟩) λe he hs=> ?_);have:=(HY e).2 ⟨he,hs⟩;cases this
  . rename_i cj;obtain⟨_,fN⟩:=tP h;refine L.round (m:=m) hT hc bE fh hR cW (λUU a' S=> ?_) λe he hs=> ?_
    .   cases todo with
        |nil=>exact(cj rfl).elim
        | cons e l=>
          obtain⟨he,hs⟩:=(HY e).1 (Zc6 ..);rw[UU e he]at hs;cases hs
    .   obtain⟨iJ,h1,mX⟩:=fN e ((HY e).2 ⟨he,hs⟩);(split at h1<;>first|(cases h1;done)|skip);rename_i f1 s1 hx;rw[MG]at h1;simp only[qF]at h1;(split at h1<;>first|(cases h1;done)|skip);rename_i y v hy hv;(split at h1<;>first|(cases h1;done)|skip);rename_i hb;simp only[Za8]at hb;have e1:=Jv hb.1;have e2:=nX hb.2;subst e1;subst e2;refine⟨(Q4 g.ds f1,s1),⟨f1,s1,hx,ME _ _,.inr rfl⟩,hv,hy,zO _ _ _ (.inl qO.1),zO _ _ _ (.inl qO.2),λρ' a' w' L'=> ?_⟩;refine ih _ _ _ iJ _ ρ' a' w' h1 (λx=> ?_) L' λo ho hn a2 w2 hp=> ?_
        .rw[Zo8,HY x,Array.contains_push,Bool.or_eq_false_iff,Zh2];rw[show Nat.beq x.2.2 e.2.2=(x.2.2==e.2.2)from by rw[Zj0];simp[Nat.beq_eq]];exact and_assoc
        .obtain⟨z,hz,hcv⟩:=mX o ho;exact hQ z hz (hcv.e.trans hn) a2 w2 (hp.Lh hcv)
theorem yU.rng(hT:bH P tt)(hc:CK none aY call)(bE:ew P C call)(fh:oH P tt C call)(hR:ZB tt nt g o0 o1 o4 lq rest Cw bs)
   {uD:Array Oper} {Lg:List bh} {o2:Oper} {x:Operand} {ty kt et:TypeId} {i2:Nat} {bs2:List Nat} (h2:lO tt nt uD uD.toList bs2=some Lg) (nF:Lg.dropLast=g.l2)
   (zw:uD[g.l2.length]? =some o2) (xp:uD.size=g.l2.length+1) (hop:o2.op= .range ty x) (xq:o2.guard=none) (KA:o2.dst=some g.t17) (hx:jN x=some g.x) (ZD:P.underlying ty=some (.map kt et))
   (qO:key g.t18∈g.ds/\key g.t19∈g.ds):yU P C nt (.seq (.region i2 uD false) (.block b0 (.loop (UT g o0 o1 lq rest i3 i4 b0 b1)))) (rgS aY m g):=by
 intro fr st outs ρ a w Q h hS hQ;unfold rgS at h;split at h<;>first|(cases h;done)|skip
 rename_i ex qQ ji hy;obtain⟨rfl,hz⟩:=MH hc hy;simp only[FX]at h;unfold mA at h;split at h<;>first|(cases h;done)|skip
 rename_i v hv;dsimp only at h;split at h<;>first|(cases h;done)|skip
 rename_i b;simp only[qF]at h;split at h<;>first|(cases h;done)|skip
 rename_i es clock hb;split at h<;>first|(cases h;done)|skip
 rename_i cW;simp only[MG,gF,DJ]at h;apply zz;apply BE;rw[xp,Zi4];apply NA;rw[Zk4];refine nR (nt:=nt) hT bE g.l2 0 fr qQ st ji ρ a w (λi ao hi=> ?_) hz hS λa2 w2 hp=> ?_
 .rw[<-nF,List.getElem?_dropLast]at hi;(split at hi<;>first|(cases hi;done)|skip);obtain⟨o,k1,k2,_⟩:=vY h2 i ao hi;exact⟨o,by rw[Zc3];exact k1,k2⟩
 obtain⟨kH,S2,k1,k2,E2⟩:=hp;obtain⟨hbn,FQ⟩:=(nN hx S2.F hv).tF;obtain⟨g1,g2,es',q1,q2,q3⟩:=S2.W.live b _ hb;obtain⟨Li,hf3⟩:∃f,f=(Q4 g.ds qQ).put (some (.ptr ji.next 0)) (key g.t17):=⟨_,rfl⟩
 rw[<-hf3]at h;obtain⟨Cx,Be⟩:∃s:St,s=⟨ji.heap,ji.next.succ⟩:=⟨_,rfl⟩
 rw[<-Be]at h;have n18:key g.t17≠key g.t18:=λe=>hR.ne.1 (by have:=congrArg Pos.toNat e;rw[ej,ej]at this;omega)
 have n19:key g.t17≠key g.t19:=λe=>hR.ne.2.1 (by have:=congrArg Pos.toNat e;rw[ej,ej]at this;omega)
 have Xh:Li.get (key g.t17)=some (.ptr ji.next 0)/\Cx.heap.get b=some (.map es clock)/\Li.get (key g.t18)=none/\Li.get (key g.t19)=none:=by
   rw[hf3,Be,T.ee,T.bn _ n18,T.bn _ n19];exact⟨rfl,hb,zO _ _ _ (.inl qO.1),zO _ _ _ (.inl qO.2)⟩
 show nP P _ _ [g.l2.length] a2 w2
 refine tO zw xq (v:= .pointer (some ⟨w2.heap.size,0,none⟩)) (w':=w2.alloc (.mapIter (some (kH b).au) clock #[] clock))
   (by simp[execOp,hop,FQ,run_range_map (P:=P) w2 ty kt et (kH b).au es' clock ZD q1,Result.andThen]) ?_
 rw[KA];show dZ P (Code.block b0 _) Q _ _;apply KB;have hold:∀k,k<w2.heap.size->(w2.alloc (.mapIter (some (kH b).au) clock #[] clock)).heap[k]? =w2.heap[k]? :=λk hk=>heap_alloc_old w2 _ hk
 have eu:(w2.alloc (.mapIter (some (kH b).au) clock #[] clock)).heap.size=w2.heap.size+1:=by simp
 obtain⟨xx,h3,aQ⟩:∃xx:Pos->Loc,xx ji.next=⟨w2.heap.size,0,0⟩/\∀p:Pos,p.toNat<ji.next.toNat->xx p=kH p:=
   ⟨λp=>if p=ji.next then⟨w2.heap.size,0,0⟩else kH p,Za7 rfl,λp hp=>Za5 λe=>by subst e;omega⟩
 have hW3:aU xx C Cx (w2.alloc (.mapIter (some (kH b).au) clock #[] clock)):=by rw[Be];exact(S2.W.slot aQ).grow (by omega) hold
 have FU:Cx.next.toNat=ji.next.toNat+1:=by rw[Be];exact Pos.ax _
 have hF3:eJ xx Cx.next.toNat C Li (a2.put (some g.t17) (.pointer (some ⟨w2.heap.size,0,none⟩))).tmps:=by rw[hf3];refine eJ.put (nt:=nt) (d:=some g.t17) ((S2.F.sub (ME _ _)).mono aQ (by omega)) S2.size (λ_ h=>by cases h;exact hR.lt.1) ?_;have:=aj.ptr (ρ:=xx) (C:=C) ji.next 0 (n:=Cx.next.toNat) (by omega);rw[h3]at this;exact this
 refine Wq (es.length+1) (LI.ab3 (m:=m) (jr:=kH) (Gj:=ji) (w0:=w2) (r:=w2.heap.size) hT hc bE fh hR cW qO es.length es Li Cx outs #[] xx _ _ h (λe=>by simp) ?_ λo ho hn a' w' hp=> ?_)
 . refine⟨⟨hW3,hF3,by rw[Act.gw];exact S2.size,by rw[Act.iz];exact S2.defers⟩,aQ,by show ji.next.toNat<=Cx.next.toNat;omega,
     ⟨rfl,rfl,rfl,by rw[eu];omega,λk hk _=>hold k hk,λp x hp=>.inl ⟨p,x,by rw[Be]at hp;exact hp,by
        rw[Be]at hp;rw[aQ p (S2.W.live p x hp).1]⟩⟩,⟨by rw[h3],by rw[h3],by show _<Cx.next.toNat;omega⟩,Xh.1,Xh.2.1,⟨clock,?_,Za4 _⟩,λp x hp=> ?_,Za4 _,Xh.2.2⟩
   .rw[aQ b g1];exact heap_alloc_new w2 _
   .rw[Be]at hp;obtain⟨l1,l2,_⟩:=S2.W.live p x hp;rw[aQ p l1];omega
 . simp only[Exit.inBlock,Zg8];have:=hQ o ho a' w' (eR.trans k1 k2 E2 hp)
   rwa [hn]at this
theorem yU.Q6(hT:bH P tt)(hc:CK none aY call)(bE:ew P C call)(fh:oH P tt C call){c:Code}{g:RG}{ty:Nat}(h:Q6 tt nt c=some (g,ty))
  {kt et:TypeId} (ZD:P.underlying ty=some (.map kt et)) (ds:List Pos):yU P C nt c (rgS aY m { g with ds:=key g.t18::key g.t19::ds }):=by
 unfold Go.Ai.Q6 at h;split at h<;>first|(cases h;done)|skip
 rename_i i2 uD b0 i3 o0 o1 t19 b0' b1 i4 lq rest;split at h<;>first|(cases h;done)|skip
 rename_i o2 o4 zw ho4;split at h<;>first|(cases h;done)|skip
 rename_i Lg Cw nF hl4;split at h<;>first|(cases h;done)|skip
 rename_i body ac0;unfold aaR at h;split at h<;>first|(cases h;done)|skip
 rename_i ty' x a0 a1 a4 p2 p0 p1 p4;split at h<;>first|(cases h;done)|skip
 rename_i t17 t18 c t20 d2 d0 d1 d4;split at h<;>first|(cases h;done)|skip
 rename_i g2 g0 g1 g4;split at h<;>first|(cases h;done)|skip
 rename_i xo hxo;split at h<;>first|(cases h;done)|skip
 rename_i hb;simp only[H0,Zb2]at h;obtain⟨rfl,rfl⟩:=h;simp only[Za8,Zh2,Nat.beq_eq,Zn7]at hb;obtain⟨⟨⟨⟨⟨⟨⟨⟨⟨⟨⟨rfl,rfl⟩,rfl⟩,rfl⟩,rfl⟩,l17⟩,l18⟩,l19⟩,l20⟩,n1⟩,n2⟩,n3⟩:=hb;have hs:Lg.length=uD.size:=(mz nF).1.trans (Zf0 ..);have h0:0<uD.size:=by have:=(Zc8.1 zw).1;omega
 exact yU.rng hT hc bE fh (i3:=i3) (i4:=i4) (b1:=b1) ⟨⟨p0,g0,d0⟩,⟨p1,g1,d1⟩,⟨ho4,p4,g4,d4⟩,⟨l17,l18,l19,l20⟩,⟨Zb6 n1,Zb6 n2,Zb6 n3⟩,hl4,rfl,ac0⟩ nF rfl
  (by rw[List.length_dropLast,hs];exact zw) (by show uD.size=Lg.dropLast.length+1;rw[List.length_dropLast,hs];omega) p2 g2 d2 hxo ZD ⟨by simp,by simp⟩
end
end
noncomputable section
open Go Go.RowKit
abbrev xz:=(Pos->Loc)->St->World->List Deferred->Prop
def Lj(C:Cells)(J:xz):Prop:=
 ∀  (ρ:Pos->Loc)(st:St)(w:World)(D:List Deferred)(ρ':Pos->Loc)(st':St)(w':World),J ρ st w D->aU ρ C st w->aU ρ' C st' w'->(∀b:Pos,b.toNat<st.next.toNat->ρ' b=ρ b)->
    st.next.toNat<=st'.next.toNat->iT ρ st w ρ' st' w'->J ρ' st' w' D
section
variable{P:Program}{tt:TT}{C:Cells}{r:Option Nat}{J:xz}{ts:Nat->Prop}{x:Array Value}{nt:Nat}
def iK(C:Cells)(J:xz)(ts:Nat->Prop)(x:Array Value)(nt:Nat)(ρ:Pos->Loc)(st:St)(w:World)(aW:Fr)(st':St)(a':Act)(w':World):Prop:=
 ∃ρ',lf nt ρ' C aW st' ⟨a'.tmps,[]⟩ w'/\(∀b:Pos,b.toNat<st.next.toNat->ρ' b=ρ b)/\st.next.toNat<=st'.next.toNat/\iT ρ st w ρ' st' w'/\J ρ' st' w' a'.defers/\∀t,ts t->a'.tmps[t]? =x[t]?
theorem iK.trans{ρ dx:Pos->Loc}{qQ:Fr}{st aK ji:St}{a2:Act}{w w1 w2:World}(h1:∀b:Pos,b.toNat<st.next.toNat->dx b=ρ b)(h2:st.next.toNat<=aK.next.toNat)(h3:iT ρ st w dx aK w1)
  (h:iK C J ts x nt dx aK w1 qQ ji a2 w2):iK C J ts x nt ρ st w qQ ji a2 w2:=by
 obtain⟨kH,S,k1,k2,E,hJ,hx⟩:=h;exact⟨kH,S,λb hb=>(k1 b (Zc5 hb h2)).trans (h1 b hb),Zc7 h2 k2,h3.trans E,hJ,hx⟩
def BM(J:xz):Prop:=∀(ρ:Pos->Loc)(st st':St)(w:World)(D:List Deferred),J ρ st w D->(∀p v,st'.heap.get p=some v->st.heap.get p=some v)->st'.next=st.next->J ρ st' w D
theorem iK.Lh(hw:BM J){y z:XO}{ρ:Pos->Loc}{st:St}{w:World}{a':Act}{w':World}(hc:Cv y z)(h:iK C J ts x nt ρ st w z.2.1 z.2.2 a' w'):iK C J ts x nt ρ st w y.2.1 y.2.2 a' w':=by obtain⟨dx,S,k1,k2,E,hJ,hx⟩:=h;refine⟨dx,⟨S.W.xS hc.h hc.n,?_,S.size,S.defers⟩,k1,by rw[hc.n];exact k2,⟨E.os,E.tape,E.output,E.size,E.block,λb v hb=>E.mj b v (hc.h b v hb)⟩,hw _ _ _ _ _ hJ hc.h hc.n,hx⟩;rw[hc.n];exact S.F.sub hc.f
def cO(P:Program)(C:Cells)(r:Option Nat)(J:xz)(ts:Nat->Prop)(x:Array Value)(nt:Nat)(c:Code)(ex:Fr->St->XS):Prop:=
 ∀  (fr:Fr)(st:St)(outs:List XO)(ρ:Pos->Loc)(a:Act)(w:World)(Q:Exit->Act->World->Prop),ex fr st=some outs->lf nt ρ C fr st ⟨a.tmps,[]⟩ w->J ρ st w a.defers->(∀t,ts t->a.tmps[t]? =x[t]?)->
    (∀o∈outs,∀a' w',iK C J ts x nt ρ st w o.2.1 o.2.2 a' w'->Q (lF o.1) a' w')->c.wpIn (Fc r) 0 P Q a w
theorem yU.g{c:Code}{ex:Fr->St->XS}(h:yU P C nt c ex)(hJ:Lj C J)(cv:∀t∈nQ c,¬ts t):cO P C r J ts x nt c ex:=by
 intro fr st outs ρ a w Q he hS hj hx hQ;have h1:dZ P c (λe a' w'=>∃o∈outs,e=lF o.1/\eR nt ρ C st w o.2.1 o.2.2 a' w') ⟨a.tmps,[]⟩ w:=h fr st outs ρ _ w _ he hS λo ho a' w' hp=>⟨o,ho,rfl,hp⟩
 refine wpIn_mono (dZ.SY (r:=r) (n:=0) (D:=a.defers) (ds:=[]) (ts:=ts) (x:=x) c _ a.tmps w cv hx h1) ?_;rintro e a' w' ⟨hd,hk,o,ho,rfl,ρ',S,k1,k2,E⟩;exact hQ o ho a' w' ⟨ρ',S,k1,k2,E,by rw[hd];exact hJ _ _ _ _ _ _ _ hj hS.W S.W k1 k2 E,hk⟩
def Gl(f g:Fr->St->XS)(fr:Fr)(st:St):XS:=match f fr st with
 |  some outs=>DX (λ|(e,fr,st)=>match e with
    |.normal=>g fr st
    |e=>some [(e,fr,st)]) outs []
 |none=>none
def ZE(id:Nat)(f:Fr->St->XS)(fr:Fr)(st:St):XS:=match f fr st with
 |  some outs=>DX (λ|(e,fr,st)=>match e with
    | .exit i=>match Nat.beq i id with
      |true=>some [(.normal,fr,st)]
      |false=>some [(.exit i,fr,st)]
    |e=>some [(e,fr,st)]) outs []
 |none=>none
def UW(c:dL)(f g:Fr->St->XS)(fr:Fr)(st:St):XS:=Nq none fr c λ
 |  .bool b=>match b with
    |true=>f fr st
    |false=>g fr st
 |_=>none
def Ll(f:Fr->St->XS):Nat->Fr->St->XS
 |0,_,_=>none
 |n+1,fr,st=>Gl f (λfr st=>Ll f n fr st) fr st
theorem cO.seq'(hw:BM J){c:Code}{f g:Fr->St->XS}{K:Act->World->Prop}{Q:Exit->Act->World->Prop}(hc:cO P C r J ts x nt c f)
  {fr:Fr} {st:St} {outs:List XO} {ρ:Pos->Loc} {a:Act} {w:World} (h:Gl f g fr st=some outs) (hS:lf nt ρ C fr st ⟨a.tmps,[]⟩ w) (hj:J ρ st w a.defers) (hx:∀t,ts t->a.tmps[t]? =x[t]?)
  (hK:∀bI aK iJ a1 w1,g bI aK=some iJ->(∀z∈iJ,∃y∈outs,Cv y z)->iK C J ts x nt ρ st w bI aK a1 w1->K a1 w1)
  (hQ:∀o∈outs,o.1≠ .normal->∀a' w',iK C J ts x nt ρ st w o.2.1 o.2.2 a' w'->Q (lF o.1) a' w'):c.wpIn (Fc r) 0 P (Exit.then K Q) a w:=by
 unfold Gl at h;split at h<;>first|(cases h;done)|skip
 rename_i UX h0;obtain⟨_,fN⟩:=tP h;refine hc fr st UX ρ a w _ h0 hS hj hx λo ho a1 w1 hp=> ?_
 obtain⟨iJ,h1,mX⟩:=fN o ho;obtain⟨e,bI,aK⟩:=o;dsimp only at h1 hp;cases e with
 |normal=>exact hK _ _ iJ a1 w1 h1 mX hp
 |exit i=>
  simp only[H0]at h1;subst h1;obtain⟨y,hy,hcv⟩:=mX _ (Zd2.2 rfl);have:=hQ y hy (by rw[hcv.e];simp) a1 w1 (iK.Lh hw hcv hp);rw[hcv.e]at this;exact this
 |ret=>
  simp only[H0]at h1;subst h1;obtain⟨y,hy,hcv⟩:=mX _ (Zd2.2 rfl);have:=hQ y hy (by rw[hcv.e];simp) a1 w1 (iK.Lh hw hcv hp);rw[hcv.e]at this;exact this
theorem iK.go{ρ dx:Pos->Loc}{st aK:St}{a1:Act}{w w1:World}{bI:Fr}(hw:BM J){d:Code}{g:Fr->St->XS}(hd:cO P C r J ts x nt d g){outs iJ:List XO}{Q:Exit->Act->World->Prop}
  (h:g bI aK=some iJ) (mX:∀z∈iJ,∃y∈outs,Cv y z) (hp:iK C J ts x nt ρ st w bI aK a1 w1)
  (hQ:∀o∈outs,∀a' w',iK C J ts x nt ρ st w o.2.1 o.2.2 a' w'->Q (lF o.1) a' w'):d.wpIn (Fc r) 0 P Q a1 w1:=by
 obtain⟨dx,S,k1,k2,E,hj,hx⟩:=hp;refine hd bI aK iJ dx a1 w1 Q h S hj hx λo ho a' w' hp=> ?_
 obtain⟨y,hy,hcv⟩:=mX o ho;have:=hQ y hy a' w' (iK.Lh hw hcv (iK.trans k1 k2 E hp));rw[hcv.e]at this;exact this
theorem cO.seq(hw:BM J){c d:Code}{f g:Fr->St->XS}(hc:cO P C r J ts x nt c f)(hd:cO P C r J ts x nt d g):cO P C r J ts x nt (.seq c d) (Gl f g):=
 λfr st outs ρ a w Q h hS hj hx hQ=>wpIn_seq (hc.seq' hw h hS hj hx (λbI aK iJ a1 w1 h1 mX hp=>hp.go (dx:=ρ) hw hd h1 mX hQ) λo ho _=>hQ o ho)
theorem cO.block(hw:BM J){id:Nat}{c:Code}{f:Fr->St->XS}(hc:cO P C r J ts x nt c f):cO P C r J ts x nt (.block id c) (ZE id f):=by
 intro fr st outs ρ a w Q h hS hj hx hQ;unfold ZE at h;split at h<;>first|(cases h;done)|skip
 rename_i UX h0;obtain⟨_,fN⟩:=tP h;refine wpIn_block (hc fr st UX ρ a w _ h0 hS hj hx λo ho a1 w1 hp=> ?_);obtain⟨iJ,h1,mX⟩:=fN o ho;obtain⟨e,bI,aK⟩:=o;dsimp only at h1 hp;have fin:∀e',iJ=[(e',bI,aK)]->Q (lF e') a1 w1:=λe' he=>by subst he;obtain⟨y,hy,hcv⟩:=mX _ (Zd2.2 rfl);have:=hQ y hy a1 w1 (iK.Lh hw hcv hp);rw[hcv.e]at this;exact this
 cases e with
 |normal=>simp only[H0]at h1;exact fin _ h1.symm
 |exit i=>
  dsimp only at h1;simp only[lF,Exit.inBlock];cases hb:Nat.beq i id with
  |true=>
   rw[hb]at h1;rw[Za7 (Za1 hb)];exact fin .normal (Zg0 h1).symm
  |false=>
   rw[hb]at h1;rw[Za5 (Zb6 hb)];exact fin (.exit i) (Zg0 h1).symm
 |ret=>simp only[H0]at h1;exact fin _ h1.symm
theorem cO.cond{c:Operand}{o:dL}{d e:Code}{f g:Fr->St->XS}(ho:jN c=some o)(hd:cO P C r J ts x nt d f)(he:cO P C r J ts x nt e g):cO P C r J ts x nt (.cond c d e) (UW o f g):=by
 intro fr st outs ρ a w Q h hS hj hx hQ;unfold UW at h;rw[FX]at h;unfold mA at h;split at h<;>first|(cases h;done)|skip
 rename_i v hv;dsimp only at h;split at h<;>first|(cases h;done)|skip
 rename_i b;have hb:=(nN ho hS.F hv).fM;have hb:a.eval c= .bool b:=by rw[<-hb];exact Cq
 cases b
 .exact wpIn_cond_false hb (he fr st outs ρ a w Q h hS hj hx hQ)
 .exact wpIn_cond_true hb (hd fr st outs ρ a w Q h hS hj hx hQ)
theorem cO.loop(hw:BM J){c:Code}{f:Fr->St->XS}(hc:cO P C r J ts x nt c f)(n:Nat):cO P C r J ts x nt (.loop c) (Ll f n):=by
 intro fr st outs ρ a w Q h hS hj hx hQ;refine wpIn_loop_rounds n ?_
 suffices H:∀(n:Nat)(bI:Fr)(aK:St)(iJ:List XO)(a1:Act)(w1:World),Ll f n bI aK=some iJ->(∀z∈iJ,∃y∈outs,Cv y z)->iK C J ts x nt ρ st w bI aK a1 w1->
    Code.roundsIn (Fc r) 0 P c Q n a1 w1 from
  H n fr st outs a w h (λz hz=>⟨z,hz,.refl z⟩) ⟨ρ,hS,λ_ _=>rfl,Za4 _,iT.refl _ _ _,hj,hx⟩
 intro n;induction n with
 |zero=>intro bI aK iJ a1 w1 h;cases h
 |succ n ih=>
  intro bI aK iJ a1 w1 h1 mX hp;obtain⟨dx,S,k1,k2,E,hj1,SN⟩:=hp;rw[roundsIn_succ];refine hc.seq' hw (g:=λfr st=>Ll f n fr st) h1 S hj1 SN (λqQ ji UY a2 w2 h2 ac1 vF=> ?_) λo ho _ a' w' vF=> ?_
  .refine ih qQ ji UY a2 w2 h2 (λz hz=> ?_) (iK.trans k1 k2 E vF);obtain⟨y,hy,hc1⟩:=ac1 z hz;obtain⟨y',NK,hc2⟩:=mX y hy;exact⟨y',NK,⟨hc2.e.trans hc1.e,λp v h=>hc1.f p v (hc2.f p v h),λp v h=>hc1.h p v (hc2.h p v h),hc2.n.trans hc1.n⟩⟩
  .obtain⟨y,hy,hcv⟩:=mX o ho;have:=hQ y hy a' w' (iK.Lh hw hcv (iK.trans k1 k2 E vF));rw[hcv.e]at this;exact this
def noS:Fr->St->XS:=λ_ _=>none
theorem cO.no{c:Code}:cO P C r J ts x nt c noS:=λ_ _ _ _ _ _ _ h=>by cases h
def tQ(base:Code->Option (Fr->St->XS))(n:Nat):Code->Fr->St->XS
 |  .seq a b=>match base (.seq a b)with
    |some f=>f
    |none=>Gl (tQ base n a) (tQ base n b)
 |  .block id a=>match base (.block id a)with
    |some f=>f
    |none=>ZE id (tQ base n a)
 |  .loop a=>match base (.loop a)with
    |some f=>f
    |none=>Ll (tQ base n a) n
 |  .cond c a b=>match base (.cond c a b)with
    |some f=>f
    |none=>match jN c with
     |some o=>UW o (tQ base n a) (tQ base n b)
     |none=>noS
 |  c=>match base c with
    |some f=>f
    |none=>noS
theorem cO.sp(hw:BM J){base:Code->Option (Fr->St->XS)}{n:Nat}:∀c:Code,(∀t∈nQ c,¬ts t)->(∀c f,(∀t∈nQ c,¬ts t)->base c=some f->cO P C r J ts x nt c f)->cO P C r J ts x nt c (tQ base n c):=by
 intro c cv hb;induction c with
 |seq a b P2 P8=>
  unfold tQ;split
  .exact hb _ _ cv (by assumption)
  .exact .seq hw (P2 λt ht=>cv t (Zg4 _ ht)) (P8 λt ht=>cv t (Zi1 _ ht))
 |block id a ih=>
  unfold tQ;split
  .exact hb _ _ cv (by assumption)
  .exact .block hw (ih cv)
 |loop a ih=>
  unfold tQ;split
  .exact hb _ _ cv (by assumption)
  .exact .loop hw (ih cv) n
 |cond c a b P2 P8=>
  unfold tQ;split
  .exact hb _ _ cv (by assumption)
  . split
    .exact .cond (by assumption) (P2 λt ht=>cv t (Zg4 _ ht)) (P8 λt ht=>cv t (Zi1 _ ht))
    .exact .no
 |_=>
  unfold tQ;split
  .exact hb _ _ cv (by assumption)
  .exact .no
def wS(P:Program)(tt:TT)(aY:gJ XR)(m:Nat)(kp:List Nat)(nt:Nat)(c:Code):Option (Fr->St->XS):=match Go.Ai.Q6 tt nt c with
 |  some (g,ty)=>match P.underlying ty with
    |some (.map _ _)=>some (rgS aY m { g with ds:=key g.t18::key g.t19::g.ds.filter λp=> !(kp.any λt=>Pos.beq (key t) p) })
    |_=>none
 |  none=>match JG c with
    |true=>none
    |false=>match pH tt nt c with
     |some ac=>some (ZC (Xe aY m ac))
     |none=>none
theorem JH{aY:gJ XR}{call:ai}{m:Nat}{kp:List Nat}(hT:bH P tt)(hc:CK none aY call)(bE:ew P C call)(fh:oH P tt C call)(hJ:Lj C J){c:Code}{f:Fr->St->XS}
   (cv:∀t∈nQ c,¬ts t) (h:wS P tt aY m kp nt c=some f):cO P C r J ts x nt c f:=by
 unfold wS at h;split at h
 .rename_i hg;(split at h<;>first|(cases h;done)|skip);rename_i hu;simp only[H0]at h;subst h;exact(yU.Q6 hT hc bE fh hg hu _).g hJ cv
 . (split at h<;>first|(cases h;done)|skip);(split at h<;>first|(cases h;done)|skip);rename_i Qd;simp only[H0]at h;subst h;exact(Gi.ac hT hc bE fh Qd).one.g hJ cv
end
section
variable{P:Program}{tt:TT}{C:Cells}{ρ:Pos->Loc}{st:St}{w w':World}{nt:Nat}
theorem aU.Lf{L:Nat}(hW:aU ρ C st w)(hr:∀a:Addr,a.block=L->w.cell? a=none)(hn:∀b x,st.heap.get b=some x->(ρ b).au≠L)
   (hs:w'.heap.size=w.heap.size) (hk:∀k,k≠L->w'.heap[k]? =w.heap[k]?):aU ρ C st w':=by
 have cj:∀a v,C a=some v->a.block≠L:=λa v ha e=>by have h:=(hW.cY a v ha).1;rw[hr a e]at h;cases h
 refine⟨λb x hb=> ?_,hW.inj,λa v ha=> ?_,λa v ha o ho=> ?_⟩
 .obtain⟨h1,h2,h3⟩:=hW.live b x hb;exact⟨h1,by rw[hs];exact h2,h3.of_heap (hk _ (hn b x hb))⟩
 .obtain⟨h1,h2⟩:=hW.cY a v ha;exact⟨by rw[World.cell?_of_block (w:=w) (hk _ (cj a v ha))];exact h1,h2⟩
 .rw[World.cell?_of_block (w:=w) (a:=⟨a.block,o,none⟩) (hk _ (cj a v ha))];exact hW.whole a v ha o ho
theorem aU.JI{L:Nat}{r:Loop}{o:Obj}(hW:aU ρ C st w)(hl:w.heap[L]? =some (.loop r))(hn:∀b x,st.heap.get b=some x->(ρ b).au≠L):aU ρ C st (w.putObj L o):=
 hW.Lf (λa ha=>by subst ha;simp[World.cell?,hl]) hn World.putObj_size λk hk=>World.putObj_heap_other hk
theorem aU.ZF{L:Nat}{r:Option (List Deferred)}{o:Obj}(hW:aU ρ C st w)(hl:w.heap[L]? =some (.deferred r))(hn:∀b x,st.heap.get b=some x->(ρ b).au≠L):aU ρ C st (w.putObj L o):=
 hW.Lf (λa ha=>by subst ha;simp[World.cell?,hl]) hn World.putObj_size λk hk=>World.putObj_heap_other hk
theorem ze{ρ':Pos->Loc}{st':St}{L:Nat}(E:iT ρ st w ρ' st' w')(hL:L<w.heap.size)(hn:∀b x,st.heap.get b=some x->(ρ b).au≠L):(∀b x,st'.heap.get b=some x->(ρ' b).au≠L)/\w'.heap[L]? =w.heap[L]? :=
 ⟨λb x hb=>by
  rcases E.mj b x hb with⟨b',x',gQ,e⟩|h
  .rw[<-e];exact hn b' x' gQ
  .omega,E.block L hL hn⟩
def IM:xz:=λ_ _ _ D=>D=[]
theorem IM.stays:Lj C IM:=λ_ _ _ _ _ _ _ h _ _ _ _ _=>h
theorem IM.xS:BM IM:=λ_ _ _ _ _ h _ _=>h
def Cy(C:Cells)(L D0:Nat)(r:Loop)(qc:Fr):xz:=λρ st w D=>D=[]/\w.heap[L]? =some (.loop r)/\w.heap[D0]? =some (.deferred (some []))/\
 (∀b x,st.heap.get b=some x->(ρ b).au≠L)/\(∀b x,st.heap.get b=some x->(ρ b).au≠D0)/\eJ ρ st.next.toNat C qc r.tmps
theorem Bf{k:Nat}{o:Obj}(h:w.heap[k]? =some o):k<w.heap.size:=(Zc8.1 h).1
theorem Cy.stays{L D0:Nat}{r:Loop}{qc:Fr}:Lj C (Cy C L D0 r qc):=λρ st w D ρ' st' w' h _ _ k1 k2 E=>by
 obtain⟨h1,h2,h3,h4,h5,h6⟩:=h;obtain⟨f1,f2⟩:=ze E (Bf h2) h4;obtain⟨g1,g2⟩:=ze E (Bf h3) h5;exact⟨h1,f2.trans h2,g2.trans h3,f1,g1,h6.mono k1 k2⟩
theorem Cy.xS{L D0:Nat}{r:Loop}{qc:Fr}:BM (Cy C L D0 r qc):=λρ st st' w D h hh hn=>by
 obtain⟨h1,h2,h3,h4,h5,h6⟩:=h;exact⟨h1,h2,h3,λb x hb=>h4 b x (hh b x hb),λb x hb=>h5 b x (hh b x hb),by rw[hn];exact h6⟩
abbrev mark(r:Nat):Deferred:={ target:= .collected r,args:= #[] }
def Gm(B:Nat):xz:=λρ st w D=>B<=w.heap.size/\∃rs:List Nat,D=rs.map mark/\rs.Nodup/\∀r∈rs,B<=r/\w.heap[r]? =some (.deferred (some []))/\∀b x,st.heap.get b=some x->(ρ b).au≠r
theorem Gm.stays{B:Nat}:Lj C (Gm B):=λρ st w D ρ' st' w' h _ _ k1 k2 E=>by
 obtain⟨hB,rs,h1,h2,h3⟩:=h;refine⟨Zc7 hB E.size,rs,h1,h2,λr hr=> ?_⟩;obtain⟨g0,g1,g2⟩:=h3 r hr;obtain⟨f1,f2⟩:=ze E (Bf g1) g2;exact⟨g0,f2.trans g1,f1⟩
theorem Gm.xS{B:Nat}:BM (Gm B):=λρ st st' w D h hh hn=>by
 obtain⟨hB,rs,h1,h2,h3⟩:=h;exact⟨hB,rs,h1,h2,λr hr=>let⟨g0,g1,g2⟩:=h3 r hr;⟨g0,g1,λb x hb=>g2 b x (hh b x hb)⟩⟩
def Rb:List XO->List St->Option (List St)
 |[],acc=>some acc
 |  (e,_,st)::l,acc=>match e with
    |.normal=>Rb l (st::acc)
    |_=>none
def Lm{β:Type}:List Nat->List AV->Fr->(Fr->Option β)->Option β
 |[],[],fr,k=>k fr
 |p::ps,v::vs,fr,k=>mo (some v) (key p) fr λfr=>Lm ps vs fr k
 |_,_,_,_=>none
def UZ(ps:List Nat)(f:Fr->St->XS)(qc:Fr)(vs:List AV)(st:St):Option (List St):=Lm ps vs qc λfr=>match f fr st with
 |some outs=>Rb outs []
 |none=>none
theorem Ob:∀{l:List XO}{acc Cz:List St},Rb l acc=some Cz->(∀s∈acc,s∈Cz)/\∀o∈l,o.1= .normal/\o.2.2∈Cz
 |[],acc,Cz,h=>by
  simp only[Rb,H0]at h;subst h;exact⟨λ_ h=>h,λ_ h=>by cases h⟩
 |(e,fr,st)::l,acc,Cz,h=>by
  unfold Rb at h;cases e with
  | normal=>
    obtain⟨h1,h2⟩:=Ob (l:=l) h;refine⟨λs hs=>h1 s (Za6 _ hs),λo ho=> ?_⟩;rcases Za9.1 ho with rfl|ho
    .exact⟨rfl,h1 _ (Zc6 ..)⟩
    .exact h2 o ho
  |_=>cases h
theorem IN{β:Type}{k:Fr->Option β}{z:β}:∀{ps:List Nat}{vs:List AV}{xs:List Value}{fr:Fr}{T:Array Value},Lm ps vs fr k=some z->aq ρ st.next.toNat C vs xs->eJ ρ st.next.toNat C fr T->T.size=nt->(∀p∈ps,p<nt)->
  ∃aW,k aW=some z/\eJ ρ st.next.toNat C aW ((ps.zip xs).foldl (λt (p,v)=>t.setIfInBounds p v) T)/\((ps.zip xs).foldl (λt (p,v)=>t.setIfInBounds p v) T).size=nt/\xs.length=ps.length
 |[],[],xs,fr,T,h,hv,hF,hs,_=>by
  have:=hv.lC;subst this;exact⟨fr,h,hF,hs,rfl⟩
 |p::ps,v::vs,xs,fr,T,h,hv,hF,hs,hp=>by
  obtain⟨x,rE,rfl,h1,h2⟩:=hv.cons_inv;unfold Lm at h;rw[gF]at h;have hF':=eJ.put (nt:=nt) (a:=⟨T,[]⟩) (d:=some p) hF hs (λ_ h=>by cases h;exact hp p (Zc6 ..)) h1;obtain⟨aW,g1,g2,g3,g4⟩:=IN (T:=T.setIfInBounds p x) h h2 hF' (by simpa using hs) λq hq=>hp q (Za6 _ hq)
  exact⟨aW,g1,g2,g3,by simp[g4]⟩
 |[],_::_,_,_,_,h,_,_,_,_=>by cases h
 |_::_,[],_,_,_,h,_,_,_,_=>by cases h
def U0(P:Program)(C:Cells)(L D0:Nat)(r:Loop)(qc:Fr)(Oc:List AV->St->Option (List St)):Prop:=
 ∀  (vs:List AV)(st:St)(Cz:List St)(ρ:Pos->Loc)(w:World)(args:Array Value),Oc vs st=some Cz->aU ρ C st w->aq ρ st.next.toNat C vs args.toList->Cy C L D0 r qc ρ st w []->
    args.size=r.params.size/\RoundIn (Fc none) 0 P L r.fn ((r.params.zip args).foldl (λt (p,v)=>t.setIfInBounds p v) r.tmps) r.assign r.body w λe w'=>
     ∃s∈Cz,e= .returned (.bool true)/\∃ρ',aU ρ' C s w'/\(∀b:Pos,b.toNat<st.next.toNat->ρ' b=ρ b)/\st.next.toNat<=s.next.toNat/\iT ρ st w ρ' s w'
theorem ab4{L D0:Nat}{r:Loop}{qc:Fr}{ps:List Nat}{f g:Fr->St->XS}(hp:r.params.toList=ps)(hr:r.state= .ready)(KD:r.pending=none)(hs:r.tmps.size=nt)(aV:∀p∈ps,p<nt)
   (hA:cO P C (some L) IM (λ_=>False) #[] nt r.assign f) (hB:cO P C (some L) IM (λ_=>False) #[] nt r.body g):U0 P C L D0 r qc (UZ ps (Gl f g) qc):=by
 intro vs st Cz ρ w args h hW hv hj;obtain⟨_,hl,_,Lf,_,hF⟩:=hj;unfold UZ at h;obtain⟨fr,h,hF1,Ln,hlen⟩:=IN h hv hF hs aV;have ac2:(ps.zip args.toList).foldl (λt (p,v)=>t.setIfInBounds p v) r.tmps=(r.params.zip args).foldl (λt (p,v)=>t.setIfInBounds p v) r.tmps:=by
   rw[<-hp, <-Array.foldl_toList,Array.toList_zip]
 rw[ac2]at hF1 Ln;refine⟨by rw[<-Zf0, <-Zf0,hp,hlen],roundIn_of_wpIn (F:=Fc none) trivial ?_⟩;split at h<;>first|(cases h;done)|skip
 rename_i outs hx;have fN:=(Ob h).2;show r.assign.wpIn (Fc (some L)) 0 P _ _ w;refine hA.seq' IM.xS hx ⟨hW,hF1,Ln,rfl⟩ rfl (λ_ h=>h.elim) (λbI aK iJ a1 w1 h1 mX gR=> ?_) λo ho cj=>(cj (fN o ho).1).elim
 obtain⟨dx,S1,k1,k2,E1,hD1,_⟩:=gR;obtain⟨far1,vH⟩:=ze E1 (Bf hl) Lf;rw[hl]at vH;refine⟨_,run_beginRound vH hr,?_⟩;have U1:=Bf vH;refine hB bI aK iJ dx a1 _ _ h1 ⟨S1.W.JI vH far1,S1.F,S1.size,rfl⟩ hD1 (λ_ h=>h.elim) λo ho a3 w3 TF=> ?_
 obtain⟨y,hy,hcv⟩:=mX o ho;obtain⟨yd,zo⟩:=fN y hy;rw[<-hcv.e,yd];obtain⟨xx,S3,j1,j2,E3,_,_⟩:=TF;have nF:=World.putObj_heap_same (o:= .loop { r with state:= .busy }) U1;obtain⟨far3,hl3⟩:=ze E3 (by rw[World.putObj_size];exact U1) far1;rw[nF]at hl3;refine⟨_,_,run_endRound (P:=P) none hl3,y.2.2,zo,rfl,xx,?_,λb hb=>(j1 b (Zc5 hb k2)).trans (k1 b hb),by rw[hcv.n];exact Zc7 k2 j2,?_⟩
 .exact(S3.W.JI hl3 far3).xS hcv.h hcv.n
 . have hrec:({ ({ r with state:= .busy }:Loop)with state:=if(none:Option Code).isNone then .ready else .done,pending:=none }:Loop)=r:=(by cases r;simp only at hr KD;subst hr;subst KD;rfl);rw[hrec];refine E1.trans ⟨E3.os,E3.tape,E3.output,by rw[World.putObj_size];have:=E3.size;rw[World.putObj_size]at this;exact this,λk hk hn=> ?_,λb x hb=> ?_⟩
   . by_cases e:k=L
     .  subst e;rw[World.putObj_heap_same (Bf hl3),vH]
     .  rw[World.putObj_heap_other e,E3.block k (by rw[World.putObj_size];exact hk) hn,World.putObj_heap_other e]
   .have:=E3.mj b x (hcv.h b x hb);rw[World.putObj_size]at this;exact this
end
structure YR where
 d:Nat
 dy:Nat
 xs:List dL
 l1:List bh
 l2:List bh
def Pn (d:Nat):List Oper->Nat->Option Nat
 |[],_=>none
 |  o ::l,i=>match o.op with
    | .call c=>match c.callee with
      | .value (.tmp e)=>match Nat.beq d e with
        |true=>some i
        |false=>Pn d l (i+1)
      |_=>Pn d l (i+1)
    |_=>Pn d l (i+1)
def Xi(d:Nat)(o:Oper):Bool:=match o.dst with
 |some e=> !Nat.beq d e
 |none=>true
def ZG (tt:TT) (nt:Nat):Code->Option YR
 |  .region _ ops false=>match ops[0]? with
    |some o0  =>match o0.op,o0.dst,o0.guard with
     |  .move (.tmp 0),some d,none=>match Pn d ops.toList 0 with
        |some j=>match ops[j]? with
         |  some oj=>match oj.op,oj.dst,oj.guard with
            | .call c,some dy,none=>match c.callee,ij c.args.toList,lO tt nt ops ops.toList []with
              | .value (.tmp d'),some xs,some l=>match Nat.beq d' d&&Nat.blt d nt&&Nat.blt dy nt&&Nat.blt 0 j&&Nat.blt j ops.size&&((ops.toList.drop 1).take (j - 1)).all (Xi d)with
                |true=>some ⟨d,dy,xs,(l.drop 1).take (j - 1),l.drop (j+1)⟩
                |false=>none
              |_,_,_=>none
            |_,_,_=>none
         |none=>none
        |none=>none
     |_,_,_=>none
    |none=>none
 |_=>none
def JJ:Code->Bool
 |.region _ ops _=>ops.toList.any λo=>match o.op with|.move (.tmp 0)=>true|_=>false
 |.seq a b=>JJ a||JJ b
 |.cond _ a b=>JJ a||JJ b
 |.block _ a=>JJ a
 |.loop a=>JJ a
 |_=>false
section
variable(aY:gJ XR)
def ZH(Oc:List AV->St->Option (List St))(y:YR)(fr:Fr)(st:St):XS:=mo none (key y.d) fr λfr=>match Ra aY y.l1 fr st with
 |  some (_,bI,aK)=>Ji none bI y.xs λvs=>match Oc vs aK with
    |some Cz=>mo (some (.bool true)) (key y.dy) bI λqQ=>DX (λs=>match Ra aY y.l2 qQ s with
     |some o=>some [o]
     |none=>none) Cz []
    |none=>none
 |none=>none
end
section
variable{P:Program}{tt:TT}{C:Cells}{aY:gJ XR}{call:ai}{nt m:Nat}
theorem eJ.drop{ρ:Pos->Loc}{n d:Nat}{fr:Fr}{X:Array Value}(h:eJ ρ n C fr X)(v:Value):eJ ρ n C (fr.put none (key d)) (X.setIfInBounds d v):=λp u hp=>by
 by_cases e:key d=p
 .subst e;rw[T.ee]at hp;cases hp
 .rw[T.bn _ e]at hp;obtain⟨y,hy,hr⟩:=h p u hp;refine⟨y,?_,hr⟩;rw[Zd6,hy];intro h';apply e;apply Pos.toNat_inj;rw[ej];have:=p.toNat_pos;omega
theorem IP{r:Option Nat}{ops:Array Oper}{Q:Exit->Act->World->Prop}{i:Nat}{rest:List Nat}{o:Oper}{a:Act}{w:World}(ho:ops[i]? =some o)(hg:o.guard=none)
  (h:o.uponIn (Fc r) 0 P a (wpOpsIn (Fc r) 0 P ops Q rest) Q ((o.semAt r a.eval).run P w)):wpOpsIn (Fc r) 0 P ops Q (i::rest) a w:=by
 rw[wpOpsIn_cons];unfold wpOpIn;rw[ho];simp only[Region.wanted,hg,Zg8];exact⟨λ_ _=>trivial,h⟩
theorem Sr(j k:Nat):List.range (j+1+1+k)=0::(List.range' 1 j++(j+1)::List.range' (j+2) k):=by rw[Zk4,show j+1+1+k=(j+1)+(k+1)by omega, <-List.range'_append_1,Zm4,Zm4 (s:=0+(j+1))];simp
theorem cO.yld(hT:bH P tt)(hc:CK none aY call)(bE:ew P C call){L D0:Nat}{r:Loop}{qc:Fr}{x:Array Value}(IQ:x[0]? =some (.func (.yield L) #[] #[]))
   {Oc:List AV->St->Option (List St)} (ZI:U0 P C L D0 r qc Oc) {c:Code} {y:YR} (hy:ZG tt nt c=some y) (cv:∀t∈nQ c,t≠0):
   cO P C none (Cy C L D0 r qc) (λt=>t=0) x nt c (ZH aY Oc y):=by
 unfold ZG at hy;split at hy<;>first|(cases hy;done)|skip
 rename_i id ops;split at hy<;>first|(cases hy;done)|skip
 rename_i o0 h0;split at hy<;>first|(cases hy;done)|skip
 rename_i d hop0 hd0 hg0;split at hy<;>first|(cases hy;done)|skip
 rename_i j hj;split at hy<;>first|(cases hy;done)|skip
 rename_i oj hoj;split at hy<;>first|(cases hy;done)|skip
 rename_i cl dy hopj hdj hgj;split at hy<;>first|(cases hy;done)|skip
 rename_i d' xs l Jq fQ hl;split at hy<;>first|(cases hy;done)|skip
 rename_i hb;simp only[H0]at hy;subst hy;simp only[Za8,Nat.beq_eq,Zn7]at hb;obtain⟨⟨⟨⟨⟨rfl,hd⟩,hdy⟩,hj0⟩,hjs⟩,ER⟩:=hb;intro fr st outs ρ a w Q h hS hJ hx hQ;unfold ZH at h;rw[gF]at h;dsimp only at h;split at h<;>first|(cases h;done)|skip
 rename_i e1 bI aK yd;obtain⟨rfl,hz1⟩:=MH hc yd;rw[HO]at h;unfold mA at h;split at h<;>first|(cases h;done)|skip
 rename_i vs gI;dsimp only at h;split at h<;>first|(cases h;done)|skip
 rename_i Cz hr;rw[gF]at h;obtain⟨_,fN⟩:=tP h;have hlen:l.length=ops.size:=by rw[(mz hl).1,Zf0]
 have vH:((l.drop 1).take (j - 1)).length=j - 1:=by rw[Zi7,List.length_drop,hlen];omega
 have nF:(l.drop (j+1)).length=ops.size - (j+1):=by rw[List.length_drop,hlen]
 apply wpIn_region;have ab5:List.range ops.size=0::(List.range' 1 ((l.drop 1).take (j - 1)).length++(j::List.range' (j+1) (l.drop (j+1)).length)):=by rw[vH,nF];have:=Sr (j - 1) (ops.size - (j+1));rw[show j - 1+1+1+(ops.size - (j+1))=ops.size by omega,show j - 1+1=j by omega,show j - 1+2=j+1 by omega]at this;exact this
 rw[ab5];refine IP h0 hg0 ?_;have hev0:a.eval (.tmp 0)= .func (.yield L) #[] #[]:=by
   have:=hx 0 rfl;rw[IQ]at this;show a.tmps.getD 0 undef=_;simp[Zh7,this]
 have hsem:(o0.semAt none a.eval).run P w= .ok (.value (.func (.yield L) #[] #[])) w:=by
   show(execOp a.eval o0).run P w=_;unfold execOp;rw[hop0];simp only[Sem.run_pure,hev0]
 rw[hsem];show wpOpsIn (Fc none) 0 P ops Q _ (a.put o0.dst _) w;rw[hd0];show wpOpsIn (Fc none) 0 P ops Q _ ⟨a.tmps.setIfInBounds d' (.func (.yield L) #[] #[]),a.defers⟩ w;have ac3:d'≠0:=cv d' (by
   show d'∈ops.toList.filterMap (·.dst);rw[Zl5];exact⟨o0,by rw[Zk3];exact Zk1 h0,hd0⟩)
 have U2:∀(i:Nat)(o:Oper),ops[i]? =some o->∀t,o.dst=some t->t≠0:=λi o ho t ht=>cv t (by
   show t∈ops.toList.filterMap (·.dst);rw[Zl5];exact⟨o,by rw[Zk3];exact Zk1 ho,ht⟩)
 have hsz0:a.tmps.size=nt:=hS.size
 refine Dx (ds:=[]) (ts:=λt=>t=0\/t=d') (x:=(a.tmps.setIfInBounds d' (.func (.yield L) #[] #[]))) (K:=λa' w'=>eR nt ρ C st w bI aK a' w') (λT' w1 hk hp=> ?_) _ _ w (λi hi o ho t ht=> ?_) (λ_ _=>rfl)
   (nR (nt:=nt) hT bE _ 1 _ bI st aK ρ _ w (λi ao hi=> ?_) hz1 ⟨hS.W,hS.F.drop _,by simpa using hsz0,rfl⟩ λa' w' hp=>hp)
 . obtain⟨dx,S1,k1,k2,E1⟩:=hp;have hJ1:=Cy.stays _ _ _ _ _ _ _ hJ hS.W S1.W k1 k2 E1;have hD:a.defers=[]:=hJ.1;have Wm:=hJ1.2.1;have Im:=dB fQ S1.F gI;obtain⟨eu,ab6⟩:=ZI vs aK Cz dx w1 (cl.args.map (⟨T',a.defers⟩:Act).eval) hr S1.W (by
     (rw[Zo2];have:(⟨T',a.defers⟩:Act).eval=(⟨T',[]⟩:Act).eval:=funext λ_=>Cq);rw[this];exact Im) (by rw[<-hD];exact hJ1)
   refine IP hoj hgj ?_;have hevd:(⟨T',a.defers⟩:Act).eval (.tmp d')= .func (.yield L) #[] #[]:=by
     have:=hk d' (.inr rfl);rw[Zj8]at this;simp[hsz0,hd]at this;show T'.getD d' undef=_;simp[Zh7,this]
   have ac4:(oj.semAt none (⟨T',a.defers⟩:Act).eval).run P w1= .ok (.round L r.fn ((r.params.zip (cl.args.map (⟨T',a.defers⟩:Act).eval)).foldl (λt (p,v)=>t.setIfInBounds p v) r.tmps) r.assign r.body) w1:=(by show(execOp (⟨T',a.defers⟩:Act).eval oj).run P w1=_;unfold execOp;rw[hopj];simp only[resolve,Jq,hevd,Deferred.ofValue,invoke,Sem.run_bind,Sem.run_pure,Result.andThen];have:=run_yield (P:=P) (args:= #[]++cl.args.map (⟨T',a.defers⟩:Act).eval) Wm (by simpa using eu);simpa using this);rw[ac4];refine⟨λhd=>by simp[Fence.wide]at hd,ab6.mono ?_⟩;rintro e w2 ⟨s,hs,rfl,kH,Cn,k3,k4,E2⟩;show wpOpsIn (Fc none) 0 P ops Q _ ((⟨T',a.defers⟩:Act).put oj.dst _) w2;rw[hdj];show wpOpsIn (Fc none) 0 P ops Q _ ⟨T'.setIfInBounds dy (.bool true),a.defers⟩ w2;obtain⟨iJ,h1,mX⟩:=fN s hs;(split at h1<;>first|(cases h1;done)|skip);rename_i o ho;simp only[H0]at h1;subst h1;obtain⟨e3,Li,s3⟩:=o;obtain⟨rfl,hz3⟩:=MH hc ho;obtain⟨y,hyo,hcv⟩:=mX _ (Zd2.2 rfl);have hF2:=eJ.put (nt:=nt) (a:=⟨T',[]⟩) (d:=some dy) (S1.F.mono k3 k4) S1.size (λ_ h=>by cases h;exact hdy) (aj.bool (C:=C) true);have hdy0:dy≠0:=U2 j oj hoj dy hdj;rw[<-Ze8 (List.range' _ _)]
   refine Dx (ds:=[]) (ts:=λt=>t=0) (x:=T'.setIfInBounds dy (.bool true)) (K:=λa' w'=>eR nt kH C s w2 Li s3 a' w') (λT2 w3 kW vF=> ?_) _ _ w2 (λi hi o ho t ht=>U2 i o ho t ht) (λ_ _=>rfl)
     (nR (nt:=nt) hT bE _ (j+1) _ Li s s3 kH _ w2 (λi ao hi=> ?_) hz3 ⟨Cn,hF2,by simpa using S1.size,rfl⟩ λa' w' hp=>hp)
   . obtain⟨xx,S3,k5,k6,E3⟩:=vF;have K1:∀b:Pos,b.toNat<st.next.toNat->xx b=ρ b:=λb hb=>(k5 b (by omega)).trans ((k3 b (by omega)).trans (k1 b hb))
     have K2:st.next.toNat<=s3.next.toNat:=(by omega);have E:=(E1.trans E2).trans E3;show Q .normal _ _;have:=hQ y hyo ⟨T2,a.defers⟩ w3 (iK.Lh Cy.xS hcv ⟨xx,S3,K1,K2,E,Cy.stays _ _ _ _ _ _ _ hJ hS.W S3.W K1 K2 E,λt ht=>by
        subst ht;rw[<-hx 0 rfl,kW 0 rfl,Zd6 hdy0,hk 0 (.inl rfl),Zd6 ac3]⟩)
     rw[hcv.e]at this;exact this
   .rw[Zc4]at hi;obtain⟨o,q1,q2,_⟩:=vY hl _ ao hi;exact⟨o,q1,q2⟩
 . rintro(rfl|rfl)
   .exact U2 i o ho _ ht rfl
   . (rw[List.mem_range'_1,vH]at hi;have hm:o∈(ops.toList.drop 1).take (j - 1):=by rw[Zd5];refine⟨i - 1,?_⟩;rw[Zb8,Za7 (by omega),Zc4,show 1+(i - 1)=i by omega,Zg1];exact ho);have:=Zc9.1 ER o hm;simp only[Xi,ht,Zh2]at this;exact Zb6 this rfl
 .rw[Zb8]at hi;(split at hi<;>first|(cases hi;done)|skip);rw[Zc4]at hi;obtain⟨o,q1,q2,_⟩:=vY hl _ ao hi;exact⟨o,q1,q2⟩
end
def rfS (gf ntg:Nat)(TG:Fr->Fr->St->XS)(og:dL)(fr:Fr)(st:St):XS:=Nq none fr og λ
 |  .func f [] MI=>match Nat.beq f gf&&Nat.ble (MI.length+1) ntg with
    |true=>vU MI 1 .e λfri=>match TG fr fri st with
     |  some outs=>DX (λ|(e,_,s)=>match e with
        |.exit _=>none
        |_=>some [(.normal,fr,s)]) outs []
     |none=>none
    |false=>none
 |_=>none
section
variable{P:Program}{tt:TT}{C:Cells}{aY:gJ XR}{call:ai}{nt m:Nat}{ts:Nat->Prop}{x:Array Value}
def ItOk(P:Program)(C:Cells)(nt:Nat)(ps:Array Nat)(assign body:Code)(ntg:Nat)(gc:Code)(TG:Fr->Fr->St->XS):Prop:=
 ∀  (L D0:Nat)(r:Loop)(qc:Fr)(x:Array Value),r.state= .ready->r.pending=none->r.params=ps->r.assign=assign->r.body=body->r.tmps.size=nt->x[0]? =some (.func (.yield L) #[] #[])->
    cO P C none (Cy C L D0 r qc) (λt=>t=0) x ntg gc (TG qc)
theorem cO.rf{B gf:Nat}{kj:Func}{gc:Code}(hf:P.funcs[gf]? =some kj)(iB:(kj.name== "runtime.NumGoroutine")=false)(hb:kj.body=some gc)(Zr:kj.results= #[]){g:Operand}{ps:Array Nat}{assign body:Code}{og:dL}
   (hg:jN g=some og) {TG:Fr->Fr->St->XS} (hI:ItOk P C nt ps assign body kj.ntmps gc TG):cO P C none (Gm B) ts x nt (.rangeFunc g ps assign body) (rfS gf kj.ntmps TG og):=by
 intro fr st outs ρ a w Q h hS hJ hx hQ;unfold rfS at h;rw[FX]at h;unfold mA at h;split at h<;>first|(cases h;done)|skip
 rename_i v hv;dsimp only at h;split at h<;>first|(cases h;done)|skip
 rename_i f MI;split at h<;>first|(cases h;done)|skip
 rename_i EJ;simp only[Za8,Nat.beq_eq]at EJ;obtain⟨rfl,hle⟩:=EJ;have hle:=Za3 hle;rw[yP]at h;split at h<;>first|(cases h;done)|skip
 rename_i iJ ho;obtain⟨_,fN⟩:=tP h;obtain⟨x',y',hval,lR,NK⟩:=(nN hg hS.F hv).vS;have IQ:x'= #[]:=by have:=lR.lC;exact Array.toList_eq_nil_iff.1 this
 subst IQ;have hval:a.eval g= .func (.func f) #[] y':=by rw[<-hval];exact Cq
 refine wpIn_rangeFunc λfn _=> ?_
 let L:Nat:=w.heap.size+1
 let r:Loop:={ state:= .ready,pending:=none,fn,tmps:=a.tmps,params:=ps,assign,body,defers:=w.heap.size }
 let W1:World:=(w.alloc (.deferred (some []))).alloc (.loop r)
 have hL1:W1.heap[L]? =some (.loop r):=by have:=World.alloc_heap_new (w.alloc (.deferred (some []))) (.loop r);rwa [World.size_alloc]at this
 have hold:∀k,k<w.heap.size->W1.heap[k]? =w.heap[k]? :=λk hk=>(heap_alloc_old _ _ (by simp;omega)).trans (heap_alloc_old w _ hk)
 have hK1:W1.heap[w.heap.size]? =some (.deferred (some [])):=(heap_alloc_old _ _ (by simp)).trans (World.alloc_heap_new w _);have hWs:W1.heap.size=w.heap.size+1+1:=by show((w.alloc _).alloc _).heap.size=_;simp
 have zE:¬kj.name= "runtime.NumGoroutine" :=by simpa using iB
 refine⟨L,[mark w.heap.size],W1,{ target:= .fn (.func f) y',args:= #[.func (.yield L) #[] #[]] },W1,f, #[.func (.yield L) #[] #[]]++y',W1,run_enterLoop_outer _ _ _ _ _,?_,λ_ _=>trivial,?_,λhd=>by simp[Fence.wide]at hd,?_⟩
 .simp only[resolve,rangeCall,hval,Deferred.ofValue,Sem.run_pure];simp[Act.eval]
 .simp[invoke,callFunc,hf,zE,hb]
 refine callsIn_of_wp hf hb trivial ?_;have Qb:aU ρ C st W1:=hS.W.grow (by omega) hold;have hlen:(#[Value.func (.yield L) #[] #[]]++y').size=MI.length+1:=by have:=NK.1;simp at this ⊢; omega
 obtain⟨X,hX⟩:∃X,X=(#[Value.func (.yield L) #[] #[]]++y')++Array.replicate (kj.ntmps - (#[Value.func (.yield L) #[] #[]]++y').size) undef:=⟨_,rfl⟩
 rw[<-hX];have Xh:X[0]? =some (.func (.yield L) #[] #[]):=by rw[hX,Zg5 (by simp;omega),Zg5 (by simp)];rfl
 have hXs:X.size=kj.ntmps:=by rw[hX,Array.size_append,Array.size_replicate,hlen];omega
 have hfar:∀k,w.heap.size<=k->∀b z,st.heap.get b=some z->(ρ b).au≠k:=λk hk b z hb e=>by have:=(hS.W.live b z hb).2.1;omega
 have hJ0:Cy C L w.heap.size r fr ρ st W1 []:=⟨rfl,hL1,hK1,hfar L (by show w.heap.size<=w.heap.size+1;omega),hfar _ (Za4 _),hS.F⟩
 have hF0:eJ ρ st.next.toNat C (params 1 MI .e) X:=uq MI y'.toList 1 .e NK (λk z hz=>by
   rw[hX,Zg5,Array.getElem?_append_right]<;>simp at hz ⊢
   .exact hz
   .have:=(Zc8.1 hz).1;omega) (λp v hp=>by rw[T.cZ]at hp;cases hp)
 refine hI L w.heap.size r fr X rfl rfl rfl rfl rfl hS.size Xh _ st iJ ρ ⟨X,[]⟩ W1 _ ho ⟨Qb,hF0,hXs,rfl⟩ hJ0 (λt _=>rfl) λo Rc a3 w3 hp=> ?_
 obtain⟨xx,S3,k1,k2,E3,hJ3,_⟩:=hp;obtain⟨h3D,h3l,h3d,h3f,Xj,h3F⟩:=hJ3;obtain⟨UY,h2,mX⟩:=fN o Rc;obtain⟨e,Li,Cx⟩:=o;dsimp only at h2 S3 k1 k2 E3 h3f Xj h3F;have aaS:(results kj a3.tmps).run P w3= .ok (.tuple #[]) w3:=by
   simp[results,Zr]
 have hend:=run_endLoop (P:=P) h3l (by show LoopState.ready≠LoopState.busy;simp);have fin:UY=[(.normal,fr,Cx)]->rangePost (Fc none) 0 P L Q { a with defers:=[mark w.heap.size]++a.defers } (.returned (.tuple #[])) w3:=λhe=>by
   (subst he;obtain⟨y,hy,hcv⟩:=mX _ (Zd2.2 rfl);refine⟨_,_,hend,?_⟩;show Q .normal _ _;have hLne:∀k,k≠L->(w3.putObj L (.loop { r with state:= .exhausted })).heap[k]? =w3.heap[k]? :=λk hk=>World.putObj_heap_other hk);have E:iT ρ st w xx Cx (w3.putObj L (.loop { r with state:= .exhausted })):=by
     refine⟨E3.os,E3.tape,E3.output,?_,λk hk hn=> ?_,λb z hb=> ?_⟩
     .  rw[World.putObj_size];have:=E3.size;omega
     .  rw[hLne k (by show k≠w.heap.size+1;omega),E3.block k (by omega) hn,hold k hk]
     .  rcases E3.mj b z hb with h|h
        .exact .inl h
        .exact .inr (by omega)
   have hW3:=S3.W.JI (o:= .loop { r with state:= .exhausted }) h3l h3f;have:=hQ y hy { a with defers:=[mark w.heap.size]++a.defers } _ (iK.Lh Gm.xS hcv ⟨xx,⟨hW3,h3F,hS.size,rfl⟩,k1,k2,E,?_,hx⟩)
   .rw[hcv.e]at this;exact this
   . obtain⟨hB,rs,h1,h2,h3⟩:=hJ;refine⟨Zc7 hB E.size,w.heap.size::rs,by show [mark w.heap.size]++a.defers=_;rw[h1];rfl,Zp0.2 ⟨λhm=> ?_,h2⟩,λk hk=> ?_⟩
     .  have:=Bf (h3 _ hm).2.1;omega
     .  rcases Za9.1 hk with rfl|hk
        .exact⟨hB,(hLne _ (by show w.heap.size≠w.heap.size+1;omega)).trans h3d,Xj⟩
        .obtain⟨g0,g1,g2⟩:=h3 k hk;obtain⟨f1,f2⟩:=ze E (Bf g1) g2;exact⟨g0,f2.trans g1,f1⟩
 cases e with
 |exit i=>cases h2
 |normal=>exact⟨h3D,_,aaS,fin (Zg0 h2).symm⟩
 |ret=>exact⟨h3D,_,aaS,fin (Zg0 h2).symm⟩
end
def sv:AV->Bool
 |.bool _=>true
 |.int _ _=>true
 |_=>false
def Po(acc:Option AV)(v:AV):Bool:=match acc with
 |none=>true
 |some u=>dJ u v
def HZ (rs:List wT)(st:St):List XO->Option AV->Option AV
 |[],acc=>acc
 |  (e, bI,aK)::l,acc=>match e with
    |.exit _=>none
    | _ =>match bY (λb=>kI b aK.heap) bI rs with
      | some vs=>match vs.all sv&&T.sub Ba st.heap aK.heap&&Po acc (fL vs)with
        |true=>HZ rs st l (some (fL vs))
        |false=>none
      |none=>none
def Xk (ex:Fr->St->XS)(np:Nat)(rs:List wT)(args:List AV)(st:St):Option (AV×St):=match Nat.beq args.length np with
 |  true=>vU args 0 .e λfr=>match ex fr st with
    |some outs=>match outs with
     |  [(e,bI,aK)]=>match e with
        |.exit _=>none
        | _=>match bY (λb=>kI b aK.heap) bI rs,Nat.ble st.next.toNat aK.next.toNat with
          |some vs,true=>some (fL vs,aK)
          |_,_=>none
     |  _=>match HZ rs st outs none with
        |some v=>some (v,st)
        |none=>none
    |none=>none
 |false=>none
theorem aj.flat{ρ ρ':Pos->Loc}{n n':Nat}{C:Cells}{v:AV}{x:Value}(hf:sv v=true)(h:aj ρ n C v x):aj ρ' n' C v x:=by
 cases v<;>first|(cases hf;done)|skip
 .have:=h.fM;subst this;exact .bool _
 .have:=h.gD;subst this;exact .int _ _
theorem aj.ac5{ρ ρ':Pos->Loc}{n n':Nat}{C:Cells}{vs:List AV}{x:Value}(hf:vs.all sv=true)(h:aj ρ n C (fL vs) x):aj ρ' n' C (fL vs) x:=by
 have tup:∀{x},aj ρ n C (.tuple vs) x->aj ρ' n' C (.tuple vs) x:=λ{x} h=>by
   cases h with
   |tuple l cs hl hh=>exact .tuple _ cs hl λi v v' hv vw=>(hh i v v' hv vw).flat (Zc9.1 hf v (Zb5 hv))
 unfold fL at h ⊢;split at h
 .exact h.flat (Zc9.1 hf _ (by simp))
 .exact tup h
theorem Lo{rs:List wT}{st:St}{v:AV}:∀{l:List XO}{acc:Option AV},HZ rs st l acc=some v->(∀u,acc=some u->u=v)/\∀o∈l,(∀i,o.1≠ .exit i)/\∃vs,bY (λb=>kI b o.2.2.heap) o.2.1 rs=some vs/\v=fL vs/\vs.all sv=true/\∀p u,st.heap.get p=some u->o.2.2.heap.get p=some u
 |[],acc,h=>by
  simp only[HZ]at h;subst h;exact⟨λu h=>(Zg0 h).symm,λo ho=>by cases ho⟩
 |(e,   bI,aK)::l,acc,h=>by
  unfold HZ at h
  have key:∀vs,(bY (λb=>kI b aK.heap) bI rs=some vs)->(vs.all sv&&T.sub Ba st.heap aK.heap&&Po acc (fL vs))=true->HZ rs st l (some (fL vs))=some v->(∀i,e≠ .exit i)->
        (∀u,acc=some u->u=v)/\∀o∈(e,bI,aK)::l,(∀i,o.1≠ .exit i)/\∃vs,bY (λb=>kI b o.2.2.heap) o.2.1 rs=some vs/\v=fL vs/\vs.all sv=true/\∀p u,st.heap.get p=some u->o.2.2.heap.get p=some u:=by
    intro vs gI hb hr he;simp only[Za8]at hb;obtain⟨h1,h2⟩:=Lo hr;have hv:=h1 _ rfl;refine⟨λu hu=> ?_,λo ho=> ?_⟩
    .   subst hu;rw[<-hv];exact nX hb.2
    .   rcases Za9.1 ho with rfl|ho
        .exact⟨he,vs,gI,hv.symm,hb.1.1,T.wq (λ_ _=>Jv) hb.1.2⟩
        .exact h2 o ho
  cases e with
  |exit i=>cases h
  | normal=>
    dsimp only at h;(split at h<;>first|(cases h;done)|skip);rename_i vs gI;cases hb:(vs.all sv&&T.sub Ba st.heap aK.heap&&Po acc (fL vs))with
    |false=>rw[hb]at h;cases h
    |true=>rw[hb]at h;exact key vs gI hb h (λi=>by simp)
  | ret=>
    dsimp only at h;(split at h<;>first|(cases h;done)|skip);rename_i vs gI;cases hb:(vs.all sv&&T.sub Ba st.heap aK.heap&&Po acc (fL vs))with
    |false=>rw[hb]at h;cases h
    |true=>rw[hb]at h;exact key vs gI hb h (λi=>by simp)
theorem Re{ex:Fr->St->XS}{np:Nat}{rs:List wT}{args:List AV}{st st':St}{v:AV}(h:Xk ex np rs args st=some (v,st')):args.length=np/\st.next.toNat<=st'.next.toNat/\∃outs,ex (params 0 args .e) st=some outs/\
   ∀o∈outs,(∀i,o.1≠ .exit i)/\∃vs,bY (λb=>kI b o.2.2.heap) o.2.1 rs=some vs/\v=fL vs/\(st'=o.2.2\/(st'=st/\vs.all sv=true/\∀p u,st.heap.get p=some u->o.2.2.heap.get p=some u)):=by
 unfold Xk at h;split at h<;>first|(cases h;done)|skip
 rename_i hlen;rw[yP]at h;split at h<;>first|(cases h;done)|skip
 rename_i outs ho;refine⟨Za1 hlen,?_⟩;split at h
 . rename_i e bI aK
   have key:∀vs,bY (λb=>kI b aK.heap) bI rs=some vs->Nat.ble st.next.toNat aK.next.toNat=true->some (fL vs,aK)=some (v,st')->(∀i,e≠ .exit i)->
        st.next.toNat<=st'.next.toNat/\∃outs,ex (params 0 args .e) st=some outs/\∀o∈outs,(∀i,o.1≠ .exit i)/\∃vs,bY (λb=>kI b o.2.2.heap) o.2.1 rs=some vs/\v=fL vs/\(st'=o.2.2\/(st'=st/\vs.all sv=true/\∀p u,st.heap.get p=some u->o.2.2.heap.get p=some u)):=by
    intro vs gI hn he cj;simp only[H0,Zb2]at he;obtain⟨rfl,rfl⟩:=he;refine⟨Za3 hn,_,ho,λo Rc=> ?_⟩;have:=Zd2.1 Rc;subst this;exact⟨cj,vs,gI,rfl,.inl rfl⟩
   cases e with
   |exit i=>cases h
   |normal=>
    dsimp only at h;(split at h<;>first|(cases h;done)|skip);rename_i vs gI hn;exact key vs gI hn h (λi=>by simp)
   |ret=>
    dsimp only at h;(split at h<;>first|(cases h;done)|skip);rename_i vs gI hn;exact key vs gI hn h (λi=>by simp)
 . (split at h<;>first|(cases h;done)|skip);rename_i u hu;simp only[H0,Zb2]at h;obtain⟨rfl,rfl⟩:=h;refine⟨Za4 _,_,ho,λo Rc=> ?_⟩;obtain⟨h1,vs,h2,h3,h4,h5⟩:=(Lo hu).2 o Rc;exact⟨h1,vs,h2,h3,.inr ⟨rfl,h4,h5⟩⟩
section
variable{P:Program}{tt:TT}{C:Cells}
theorem Gn{fn:Func}{tmps:Array Value}{R:Ending->World->Prop}{ρ:Pos->Loc}{st:St}:∀(rs:List Nat)(w:World),rs.Nodup->(∀r∈rs,w.heap[r]? =some (.deferred (some []))/\∀b x,st.heap.get b=some x->(ρ b).au≠r)->aU ρ C st w->
  (∀w2,aU ρ C st w2->w2.heap.size=w.heap.size->(∀k,k∉rs->w2.heap[k]? =w.heap[k]?)->w2.os=w.os->w2.tape=w.tape->w2.output=w.output->∃v,(results fn tmps).run P w2= .ok v w2/\R (.returned v) w2)->
  LeavesInM (Fc none) 0 P fn tmps R (rs.map mark) .returning w
 |[],w,_,_,hW,h=>h w hW rfl (λ_ _=>rfl) rfl rfl rfl
 |r ::rs,w,ER,hr,hW,h=>by
  obtain⟨h1,h2⟩:=Zp0.1 ER;obtain⟨g1,g2⟩:=hr r (Zc6 ..);refine⟨by simp,.inl ⟨r,_,rfl,run_takeDeferred g1,?_⟩⟩;refine Gn rs _ h2 (λk hk=> ?_) (hW.ZF g1 g2) λw2 Cn hs hk ho ht Mf=> ?_
  .obtain⟨f1,f2⟩:=hr k (Za6 _ hk);exact⟨by rw[World.putObj_heap_other (λe=>h1 (by subst e;exact hk))];exact f1,f2⟩
  .refine h w2 Cn (by rw[hs,World.putObj_size]) (λk jO=> ?_) ho ht Mf;rw[hk k (λhm=>jO (Za6 _ hm)),World.putObj_heap_other (λe=>jO (by subst e;exact Zc6 ..))]
theorem ab7(hT:bH P tt){f np:Nat}{fn:Func}{c:Code}{ex:Fr->St->XS}{rs:List wT}(hf:P.funcs[f]? =some fn)(iB:(fn.name== "runtime.NumGoroutine")=false)(hb:fn.body=some c)
  (hx:∀B,cO P C none (Gm B) (λ_=>False) #[] fn.ntmps c ex) (hr:kF tt fn.results.toList=some rs) (hle:np<=fn.ntmps):kZ P C f (Xk ex np rs) where
 mono args st v st' h:=(Re h).2.1
 runs ρ st w args v st' bw h hW nW:=by
  obtain⟨hlen,hn,outs,ho,fN⟩:=Re h;have bP:(callFunc f bw.toArray).run P w= .ok (.enter f bw.toArray) w:=by
   have zE:¬fn.name= "runtime.NumGoroutine" :=(by simpa using iB);simp[callFunc,hf,zE,hb]
  rw[bP];simp only[Reaches];refine callsIn_wide (n:=0) |>.1 (callsIn_of_wp_marks hf hb trivial ?_);have eu:bw.length<=fn.ntmps:=by rw[<-nW.1,hlen];exact hle
  have hS:lf fn.ntmps ρ C (params 0 args .e) st { tmps:=bw.toArray++Array.replicate (fn.ntmps - bw.toArray.size) undef,defers:=[] } w:=by
   refine⟨hW,?_,?_,rfl⟩
   .    refine uq args bw 0 .e nW (λj x hx=> ?_) (λp v hp=>by rw[T.cZ]at hp;cases hp);have hj:j<bw.length:=(Za0.1 hx).1;rw[Zc3,Zg5 (by simpa using hj)];simpa using hx
   .    simp;omega
  show c.wpIn (Fc none) 0 P _ _ w;refine hx w.heap.size _ st outs ρ _ w _ ho hS ⟨Za4 _,[],rfl,List.nodup_nil,λ_ h=>by cases h⟩ (λ_ h=>h.elim) λo Rc a' w' hp=> ?_
  obtain⟨dx,S1,k1,k2,E,⟨hB,ks,hD,ER,yg⟩,_⟩:=hp;obtain⟨cj,vs,gI,hv,iU⟩:=fN o Rc;simp only[qF]at gI;have key:LeavesInM (Fc none) 0 P fn a'.tmps (λ|.returned v',w''=>kL ρ C st w v st' v' w''|_,_=>False) a'.defers .returning w':=by
   (rw[hD];(refine Gn ks w' ER (λr hr=>(yg r hr).2) S1.W λw2 Cn hs ye zw ht Mf=> ?_);obtain⟨y,yd,zo⟩:=oI hT Cn S1.F hr gI;refine⟨y,yd,?_⟩;have q9:∀k,k<w.heap.size->w2.heap[k]? =w'.heap[k]? :=λk aV=>ye k λhm=>by have:=(yg k hm).1;omega);rcases iU with rfl|⟨rfl,Kz,UB⟩
   .    rw[hv];exact⟨dx,zo,k1,k2,Cn,⟨zw.trans E.os,ht.trans E.tape,Mf.trans E.output,by rw[hs];exact E.size,λk hk hn=>(q9 k hk).trans (E.block k hk hn),E.mj⟩⟩
   .    rw[hv];refine⟨ρ,zo.ac5 Kz,λ_ _=>rfl,Za4 _,hW.back UB k1 Cn (by rw[hs];exact E.size),⟨zw.trans E.os,ht.trans E.tape,Mf.trans E.output,by rw[hs];exact E.size,λk hk hn=>(q9 k hk).trans (E.block k hk hn),λb x hb=>.inl ⟨b,x,hb,rfl⟩⟩⟩
  obtain⟨e,bI,aK⟩:=o;cases e with
  |exit i=>exact(cj i rfl).elim
  |normal=>exact key
  |ret=>exact key
def aaT(P:Program)(tt:TT)(aY:gJ XR)(m:Nat)(nt:Nat)(Oc:List AV->St->Option (List St))(c:Code):Option (Fr->St->XS):=match ZG tt nt c with
 |some y=>some (ZH aY Oc y)
 |  none=>match JJ c with
    |true=>none
    |false=>wS P tt aY m [] nt c
def Pp(P:Program)(tt:TT)(aY:gJ XR)(m:Nat)(kp:List Nat)(nt gf:Nat)(kj:Func):Code->Option (Fr->St->XS)
 |  .rangeFunc g ps a b=>match jN g,kj.body with
    |some og,some gc=>match (nQ gc).all (λt=> !Nat.beq t 0)&&ps.toList.all (λp=>Nat.blt p nt)&&kj.results.isEmpty with
     |true=>some (rfS gf kj.ntmps (λqc=>tQ (aaT P tt aY m kj.ntmps (UZ ps.toList (Gl (tQ (wS P tt aY m kp nt) m a) (tQ (wS P tt aY m kp nt) m b)) qc)) m gc) og)
     |false=>none
    |_,_=>none
 |c=>wS P tt aY m kp nt c
def Uf(P:Program)(tt:TT)(O:dR)(G:T b7)(m d:Nat)(kp:List Nat)(gf:Nat)(kj fn:Func):List AV->St->Option (AV×St):=
 match fn.body,kF tt fn.results.toList,Nat.ble (fn.params.size+fn.nfree) fn.ntmps with
 |some c,some rs,true=>Xk (tQ (Pp P tt (AM none O G m d) m kp fn.ntmps gf kj) m c) (fn.params.size+fn.nfree) rs
 |_,_,_=>λ_ _=>none
theorem ZJ{aY:gJ XR}{call:ai}{m nt gf B:Nat}{kp:List Nat}{kj:Func}(hT:bH P tt)(hc:CK none aY call)(bE:ew P C call)(fh:oH P tt C call)(hf:P.funcs[gf]? =some kj)(iB:(kj.name== "runtime.NumGoroutine")=false)
   {c:Code} {f:Fr->St->XS} (h:Pp P tt aY m kp nt gf kj c=some f):cO P C none (Gm B) (λ_=>False) #[] nt c f:=by
 have hR:∀{c f},wS P tt aY m kp nt c=some f->cO P C none (Gm B) (λ_=>False) #[] nt c f:=λh=>JH hT hc bE fh Gm.stays (λ_ _ h=>h) h
 unfold Pp at h;split at h
 . rename_i g ps a b;(split at h<;>first|(cases h;done)|skip);rename_i og gc hg hgb;(split at h<;>first|(cases h;done)|skip);rename_i EJ;simp only[H0]at h;subst h;simp only[Za8]at EJ;obtain⟨⟨c1,c2⟩,c3⟩:=EJ;have hd0:∀t∈nQ gc,¬(λt=>t=0) t:=λt ht e=>by have:=Zc9.1 c1 t ht;subst e;simp at this
   (refine cO.rf hf iB hgb (by simpa using c3) hg λL D0 r qc x hr hp SS ha hb hs IQ=> ?_);have rd:∀c,cO P C (some L) IM (λ_=>False) #[] nt c (tQ (wS P tt aY m kp nt) m c):=λc=>cO.sp IM.xS c (λ_ _ h=>h) λc f _ h=>JH hT hc bE fh IM.stays (λ_ _ h=>h) h
   have ZI:U0 P C L D0 r qc (UZ ps.toList (Gl (tQ (wS P tt aY m kp nt) m a) (tQ (wS P tt aY m kp nt) m b)) qc):=ab4 (by rw[SS]) hr hp hs (λp hp'=>by
     have:=Zc9.1 c2 p hp';simpa using this) (by rw[ha];exact rd a) (by rw[hb];exact rd b)
   (refine cO.sp Cy.xS gc hd0 λc f cv h=> ?_);unfold aaT at h;split at h
   .rename_i y hy;simp only[H0]at h;subst h;exact cO.yld hT hc bE IQ ZI hy cv
   . (split at h<;>first|(cases h;done)|skip);exact JH hT hc bE fh Cy.stays cv h
 .exact hR h
theorem YF(hm:P.follows .mixedOrders=true)(hT:bH P tt){O:dR}{G:T b7}(hO:nU P C O)(FW:jK O)(hG:Ka P tt G){f gf m d:Nat}{kp:List Nat}{fn kj:Func}(hf:P.funcs[f]? =some fn)
   (iB:(fn.name== "runtime.NumGoroutine")=false) (hgf:P.funcs[gf]? =some kj) (Px:(kj.name== "runtime.NumGoroutine")=false):kZ P C f (Uf P tt O G m d kp gf kj fn):=by
 have bE:=Da (C:=C) hm hT hO FW hG m d;have hcm:=Dz (G:=G) FW m d
 have key:∀c rs,fn.body=some c->kF tt fn.results.toList=some rs->Nat.ble (fn.params.size+fn.nfree) fn.ntmps=true->
    kZ P C f (Xk (tQ (Pp P tt (AM none O G m d) m kp fn.ntmps gf kj) m c) (fn.params.size+fn.nfree) rs):=λc rs hb hr hle=>
   ab7 hT hf iB hb (λB=>cO.sp Gm.xS c (λ_ _ h=>h) λc f _ h=>ZJ hT (DM none O G m d) bE (DG hm hT bE hcm) hgf Px h) hr (Za3 hle)
 unfold Uf;split
 .exact key _ _ (by assumption) (by assumption) (by assumption)
 .exact⟨λ_ _ _ _ h=>(by cases h),λ_ _ _ _ _ _ _ h=>(by cases h)⟩
end
end
section
open Go
def Kb:List AV->St->Option (AV×St)
 |[v],st=>some (v,st)
 |_,_=>none
theorem VE{P:Program}{C:Cells}{f:FuncId}{fn:Func}(hf:P.funcs[f]? =some fn)(iB:(fn.name== "runtime.NumGoroutine")=false)(hb:fn.body.isNone=true)(hx:Extern.findNext fn=none)
  (he:Extern.find fn=some Extern.AbiNoEscape.same):kZ P C f Kb where
 mono args st v st' h:=by unfold Kb at h;split at h<;>cases h;exact Za4 _
 runs ρ st w args v st' bw h hW hv:=by
  unfold Kb at h;split at h<;>cases h;obtain⟨x,xs,rfl,h1,h2⟩:=hv.cons_inv;have:=h2.lC;subst this;have bP:(callFunc f [x].toArray).run P w= .ok (.value x) w:=by rw[run_callFunc_extern hf iB hb hx he];show((Extern.AbiNoEscape.same #[x]).run P w).andThen _=_;have:Extern.AbiNoEscape.same #[x]=pure x:=rfl;rw[this];rfl
  rw[bP];exact⟨ρ,h1,λ_ _=>rfl,Za4 _,hW,iT.refl _ _ _⟩
theorem PA{P:Program}{tt:TT}{O:dR}{G:T b7}{m d f:Nat}{fn:Func}{c:Code}(hm:P.follows .mixedOrders=true)(hT:bH P tt)(hG:Ka P tt G)
  (hO:nU P (λ_=>none) O) (FW:jK O) (hf:P.funcs[f]? =some fn) (iB:¬fn.name= "runtime.NumGoroutine") (hb:fn.body=some c) {b:Bool}
  (h:AM (R:=Bool) false O G m d f [] { heap:= .e,next:= .h } (λv _=>dJ v (.bool b))=true) (w:World):
  Calls P f #[] w λe w'=>e= .returned (.bool b)/\Go.RowKit.Below w.heap.size w w':=by
 rw[DM false O G m d]at h;unfold mA at h;split at h<;>first|(cases h;done)|skip
 rename_i x hx;obtain⟨v,aK⟩:=x;have hv:=nX h;simp only at hv;subst hv;have hr:=Da hm hT hO FW hG m d (λ_=>⟨0,0,0⟩) { heap:= .e,next:= .h } w f [] (.bool b) aK [] hx (w7 (λ_ _ h=>by cases h) (λ_ _ h=>by cases h)) aq.nil;have bP:(callFunc f ([]:List Value).toArray).run P w= .ok (.enter f #[]) w:=by simp[callFunc,hf,iB,hb]
 rw[bP]at hr;refine Calls.mono hr λe w' he=> ?_
 cases e with
 |returned x=>
  obtain⟨ρ',h1,_,_,_,hE⟩:=he;have:=h1.fM;subst this;exact⟨rfl,hE.os,hE.tape,hE.output,hE.size,λk hk=>hE.block k hk λb x hb=>by rw[T.cZ]at hb;cases hb⟩
 |panicked c=>exact he.elim
 |outgrown=>exact he.elim
def B8:Nat->AV->Bool
 |_,.bool _=>true
 |_,.int _ _=>true
 |_,.str _=>true
 |_,.ah=>true
 |n+1,.agg l=>l.all (B8 n)
 |n+1,.tuple l=>l.all (B8 n)
 |n+1,.fl xs _=>xs.all λr=>r.all (B8 n)
 |_,_=>false
theorem Bg:∀(n:Nat){v:AV},B8 n v=true->Plain v
 |0,v,h=>by cases v<;>first|(cases h;done)|exact .bool _|exact .int _ _|exact .str _|exact .ah
 |n+1,v,h=>by
  cases v<;>first|(cases h;done)|exact .bool _|exact .int _ _|exact .str _|exact .ah|skip
  .exact .fl λcs hc v hv=>Bg n (Zc9.1 (Zc9.1 h cs hc) v hv)
  .exact .agg λv hv=>Bg n (Zc9.1 h v hv)
  .exact .tuple λv hv=>Bg n (Zc9.1 h v hv)
theorem Plain.all{n:Nat}{l:List AV}(h:l.all (B8 n)=true):∀v∈l,Plain v:=λv hv=>Bg n (Zc9.1 h v hv)
theorem VI{l:List AV}(h:l.all sv=true):mW (.tuple l):= .tuple λv hv=>by have:=Zc9.1 h v hv;cases v<;>first|(cases this;done)|exact .bool _|exact .int _ _
def Jc(d:Nat)(A:List AV)(r:AV):List AV->St->Option (AV×St):=λargs st=>match w9 (args.map (cX st d)) A with
 |true=>some (r,st)
 |false=>none
theorem VH{P:Program}{C:Cells}{O:dR}{G:T b7}{m n f d:Nat}{A:List AV}{r:AV}(bE:∀C:Cells,ew P C (nM O G m n))(ha:∀a∈A,Plain a)(hr:Plain r)(hb:mW r)
  (h:AM (R:=Bool) false O G m n f A { heap:= .e,next:= .h } (λv _=>dJ v r)=true):kZ P C f (Jc d A r):=by
 have h1:=Xb (C:=C) (d:=d) (As:=[A]) bE (λB hB=>by rw[Zd2.1 hB];exact ha) hr hb (by simpa using h);have key:∀args st x,Jc d A r args st=some x->Mn d [A] r args st=some x:=λargs st x hx=>by
  unfold Jc at hx;split at hx<;>first|(cases hx;done)|skip
  rename_i hq;simp only[H0]at hx;subst hx;exact abp A (Zd2.2 rfl) (A9 hq)
 exact⟨λargs st v st' hs=>h1.mono args st v st' (key _ _ _ hs),λρ st w args v st' bw hs=>h1.runs ρ st w args v st' bw (key _ _ _ hs)⟩
end
end Go.Ai
