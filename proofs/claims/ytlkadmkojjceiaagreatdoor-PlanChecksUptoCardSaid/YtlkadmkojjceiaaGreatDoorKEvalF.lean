/- Loops over maps in all orders, loops over functions. -/
import Derived.Test.YtlkadmkojjceiaaGreatDoorKEvalE
import Derived.Maps.RangeRun
import Derived.Laws.EntriesVeiled
import Derived.RangeFuncRecord
set_option linter.all false
namespace Go.Ai
noncomputable section
open Go Go.RowKit
section
variable{ρ ρ':Pos->Loc}{C:Cells}{st aJ:St}{w w1 w':World}{nt r:Nat}{fr bF:Fr}{a a1:Act}
theorem aM.back(hW:aM ρ C st w)(hk:aV st aJ)(aL:∀b:Pos,b.toNat<st.next.toNat->ρ' b=ρ b)(dG:aM ρ' C aJ w1)(hs:w.heap.size<=w1.heap.size):aM ρ C st w1:=by
 refine⟨λb y hb=> ?_,hW.inj,λa u ha=>⟨(dG.cL a u ha).1,(hW.cL a u ha).2⟩,dG.whole⟩;obtain⟨g1,g2,g3⟩:=hW.live b y hb;obtain⟨_,_,k3⟩:=dG.live b y (hk b y hb);refine⟨g1,Zb5 g2 hs,?_⟩;rw[aL b g1]at k3;cases y with
 |cells cs fz=>
  obtain⟨c,e,fr,q1,q2,q3,q4,q5⟩:=k3;obtain⟨c0,e0,bG,p1,p2,p3,p4,p5⟩:=g3;refine⟨c,e,fr,q1,q2,q3,⟨q4.1,λi v x hv hx=> ?_⟩,q5⟩;obtain⟨y0,hy0,Ds⟩:=p4.get hv;exact(q4.2 i v x hv hx).down Ds aL
 |map es clock=>
  obtain⟨es',q1,q2,q3⟩:=k3;obtain⟨WS,p1,p2,p3⟩:=g3;refine⟨es',q1,q2,λi e e' he iT=> ?_⟩;obtain⟨a1,a2,a3⟩:=q3 i e e' he iT;have hi:i<WS.size:=by rw[<-p2];exact(H3.1 he).1
  obtain⟨b1,b2,_⟩:=p3 i e _ he (Ze0 hi);exact⟨a1.down b1 aL,a2.down b2 aL,a3⟩
 |gW s pos=>exact k3
 |typed t cs=>
  obtain⟨c,fr,q1,q2,q3,q4,q5⟩:=k3;obtain⟨c0,bG,p1,p2,p3,p4,p5⟩:=g3;refine⟨c,fr,q1,q2,q3,⟨q4.1,λi v x hv hx=> ?_⟩,q5⟩;obtain⟨y0,hy0,Ds⟩:=p4.get hv;exact(q4.2 i v x hv hx).down Ds aL
theorem eg.sub{n:Nat}{tmps:Array Value}(h:eg ρ n C bF tmps)(hf:∀p v,fr.get p=some v->bF.get p=some v):eg ρ n C fr tmps:=λp v hp=>h p v (hf p v hp)
theorem kg.back(hS:kg nt ρ C fr st a w)(hf:∀p v,fr.get p=some v->bF.get p=some v)(hk:aV st aJ)(h:ew nt ρ C st w bF aJ a1 w1):
  kg nt ρ C fr st a1 w1/\iy ρ st w ρ st w1:=by
 obtain⟨cV,S1,k1,k2,E⟩:=h;refine⟨⟨hS.W.back hk k1 S1.W E.size,λp v hp=> ?_,S1.size,S1.defers⟩,⟨E.os,E.tape,E.output,E.size,E.block,λb x hb=>.inl ⟨b,x,hb,rfl⟩⟩⟩;obtain⟨x,hx,hv⟩:=S1.F p v (hf p v hp);obtain⟨y,_,hy⟩:=hS.F p v hp;exact⟨x,hx,hv.down hy k1⟩
theorem aM.iter{m:Option Nat}{s c:Nat}{seen:Array Nat}(hW:aM ρ C st w)(hr:w.heap[r]? =some (.mapIter m s seen c))(hn:∀b x,st.heap.get b=some x->(ρ b).aq≠r)
   (hs:w'.heap.size=w.heap.size) (hk:∀k,k≠r->w'.heap[k]? =w.heap[k]?):aM ρ C st w':=by
 have cW:∀a v,C a=some v->a.block≠r:=λa v ha e=>by have h:=(hW.cL a v ha).1;unfold World.cell? at h;rw[e,hr]at h;cases h
 refine⟨λb x hb=> ?_,hW.inj,λa v ha=> ?_,λa v ha o ho=> ?_⟩
 .obtain⟨h1,h2,h3⟩:=hW.live b x hb;exact⟨h1,by rw[hs];exact h2,h3.of_heap (hk _ (hn b x hb))⟩
 .obtain⟨h1,h2⟩:=hW.cL a v ha;exact⟨by rw[World.cell?_of_block (w:=w) (hk _ (cW a v ha))];exact h1,h2⟩
 .rw[World.cell?_of_block (w:=w) (a:=⟨a.block,o,none⟩) (hk _ (cW a v ha))];exact hW.whole a v ha o ho
end
def T.sub{α:Type}(f:α->α->Bool):T α->T α->Bool
 |.e,_=>true
 |.n l v r,.e=>(match v with|none=>true|some _=>false)&&T.sub f l .e&&T.sub f r .e
 |  .n l v r,.n l' v' r'=>(match v with
    |none=>true
    |some a=>match v' with
     |some b=>f a b
     |none=>false)&&T.sub f l l'&&T.sub f r r'
theorem T.xw{α:Type}{f:α->α->Bool}(hf:∀a b,f a b=true->a=b):∀{t u:T α},T.sub f t u=true->∀p v,t.get p=some v->u.get p=some v
 |.e,_,_,p,v,h=>by rw[T.cR]at h;cases h
 | .n l x r,.e,hs,p,v,h=>by
   simp only[T.sub,Za2]at hs;cases p with
   |h=>simp only[T.get]at h;subst h;simp at hs
   |o p=>have:=T.xw hf hs.1.2 p v h;rw[T.cR]at this;cases this
   |i p=>have:=T.xw hf hs.2 p v h;rw[T.cR]at this;cases this
 | .n l x r,.n l' x' r',hs,p,v,h=>by
   simp only[T.sub,Za2]at hs;cases p with
   |h=>
    simp only[T.get]at h ⊢; subst h;have h1:=hs.1.1;cases x' with
    |none=>simp at h1
    |some y=>simp at h1;rw[hf _ _ h1]
   |o p=>exact T.xw hf hs.1.2 p v h
   |i p=>exact T.xw hf hs.2 p v h
structure RG where
 t17:Nat
 t18:Nat
 t19:Nat
 t20:Nat
 l2:List aU
 x:dh
 l4:List aU
 body:AC
 ds:List Pos
abbrev XR:=Option (gY×Fr×St)
section
variable(aP:gp XR)(m:Nat)(g:RG)
def Xb(c:AC)(fr:Fr)(st:St):XR:=Lo none aP m c fr st (λfr st=>some (.normal,fr,st)) (λi fr st=>some (.exit i,fr,st)) (λfr st=>some (.ret,fr,st))
def YT(k v:AV)(fr:Fr)(st:St):XR:=
 k8 (some (.tuple [.bool true,k,v])) (key g.t18) fr λfr=>k8 (some (.bool true)) (key g.t19) fr λfr=>k8 (some (.tuple [k,v])) (key g.t20) fr λfr=>
    MW none aP g.l4 fr st λfr st=>Xb aP m g.body fr st
def Nn(clock:Nat):List (AV×AV×Nat)->Bool
 |[]=>true
 |e::es=>Nat.blt e.2.2 clock&&es.all (λx=> !Nat.beq x.2.2 e.2.2)&&Nn clock es
end
section
variable{P:Program}{tt:TT}{C:Cells}
def HX(P:Program)(C:Cells)(nt:Nat)(c:Code)(ex:Fr->St->XR):Prop:=
 ∀  (fr aN:Fr)(st st':St)(e:gY)(ρ:Pos->Loc)(a:Act)(w:World)(Q:Exit->Act->World->Prop),ex fr st=some (e,aN,st')->kg nt ρ C fr st a w->
    (∀a' w',ew nt ρ C st w aN st' a' w'->Q (kL e) a' w')->dI P c Q a w
theorem Xc{aP:gp XR}{call:ah}(hc:CK none aP call)(m:Nat)(c:AC)(fr:Fr)(st:St):Xb aP m c fr st=exec call m c fr st:=by
 unfold Xb;rw[KD none hc];cases exec call m c fr st with
 |none=>rfl
 |some x=>obtain⟨e,fr,st⟩:=x;cases e<;>rfl
theorem HX.ac(hT:bE P tt){aP:gp XR}{call:ah}(hc:CK none aP call)(bw:dS P C call)(eG:oD P tt C call){nt m:Nat}{c:Code}{a:AC}(h:pK tt nt c=some a):
 HX P C nt c (Xb aP m a):=λfr aN st st' e ρ ac w Q hx hS hQ=>(nI hT bw eG m).1 c a fr aN st st' e ρ ac w Q h (by rw[<-Xc hc];exact hx) hS hQ
def Ru:List Pos->Fr->Fr
 |[],fr=>fr
 |p::ps,fr=>Ru ps (fr.put none p)
theorem Np:∀(ps:List Pos)(fr:Fr)(p:Pos)(v:AV),(Ru ps fr).get p=some v->fr.get p=some v
 |[],_,_,_,h=>h
 |q::ps,fr,p,v,h=>by
  have h:=Np ps _ p v h;by_cases hq:q=p
  .subst hq;rw[T.dJ]at h;cases h
  .rwa [T.bk _ hq]at h
theorem Uj{clock:Nat}:∀{es:List (AV×AV×Nat)},Nn clock es=true->(∀e∈es,e.2.2<clock)/\(es.map (·.2.2)).Nodup
 |[],_=>⟨λ_ h=>by simp at h,by simp⟩
 |e ::es,h=>by
  simp only[Nn,Za2]at h;obtain⟨⟨h1,h2⟩,h3⟩:=h;obtain⟨i1,i2⟩:=Uj h3;refine⟨λx hx=> ?_,?_⟩
  . rcases Za0.1 hx with rfl|hx
    .exact H4 h1
    .exact i1 x hx
  .rw[Zb4,Zo2];refine⟨λhm=> ?_,i2⟩;obtain⟨x,hx,he⟩:=Zf1.1 hm;have:=Zd4.1 h2 x hx;simp[he]at this
def Mv(aP:gp XR)(m:Nat)(g:RG)(A B:Fr×St)(e:AV×AV×Nat):Prop:=
 ∃f1 s1,YT aP m g e.1 e.2.1 A.1 A.2=some (.normal,f1,s1)/\(∀p v,B.1.get p=some v->f1.get p=some v)/\((B=A/\aV A.2 s1)\/B.2=s1)
section
variable{aP:gp XR}{call:ah}{nt m:Nat}{g:RG}{ki:Array Oper}{o0 o1 o4:Oper}{i3 i4 b0 b1:Nat}{rest:Code}{DP:List aU}{bs:List Nat}
def Vn(g:RG)(o0 o1:Oper)(ki:Array Oper)(rest:Code)(i3 i4 b0 b1:Nat):Code:=
 .seq (.region i3 #[o0,o1] false) (.seq (.cond (.tmp g.t19) .skip (.exit b0)) (.block b1 (.seq (.region i4 ki false) rest)))
structure YU(tt:TT)(nt:Nat)(g:RG)(o0 o1 o4:Oper)(ki:Array Oper)(rest:Code)(DP:List aU)(bs:List Nat):Prop where
 n0:o0.op= .next (.tmp g.t17) false/\o0.guard=none/\o0.dst=some g.t18
 n1:o1.op= .extract (.tmp g.t18) 0/\o1.guard=none/\o1.dst=some g.t19
 n4:ki[0]? =some o4/\o4.op= .entry (.tmp g.t17)/\o4.guard=none/\o4.dst=some g.t20
 lt:g.t17<nt/\g.t18<nt/\g.t19<nt/\g.t20<nt
 ne:g.t17≠g.t18/\g.t17≠g.t19/\g.t18≠g.t19
 c4:kR tt nt ki ki.toList bs=some DP
 l4:DP.tail=g.l4
 r4:pK tt nt rest=some g.body
structure LI(C:Cells)(nt:Nat)(g:RG)(X:Fr×St)(b yW:Pos)(es:List (AV×AV×Nat))(since r:Nat)(iK:Pos->Loc)(HY:St)(w0:World)(seen:Array Nat)(ρ:Pos->Loc)(a:Act)(w:World):Prop where
 S:kg nt ρ C X.1 X.2 a w
 k1:∀p:Pos,p.toNat<HY.next.toNat->ρ p=iK p
 k2:HY.next.toNat<=X.2.next.toNat
 E:iy iK HY w0 ρ X.2 w
 ip:(ρ yW).aq=r/\(ρ yW).base=0/\yW.toNat<X.2.next.toNat
 at17:X.1.get (key g.t17)=some (.ptr yW 0)
 mp:X.2.heap.get b=some (.map es since)
 it:∃c,w.heap[r]? =some (.mapIter (some (ρ b).aq) since seen c)/\since<=c
 Ar:∀p x,X.2.heap.get p=some x->(ρ p).aq≠r
 late:w0.heap.size<=r
 cl:X.1.get (key g.t18)=none/\X.1.get (key g.t19)=none
theorem uv{ops:Array Oper}{K:Act->World->Prop}{i:Nat}{rest:List Nat}{o:Oper}{a:Act}{w w':World}{v:Value}(ho:ops[i]? =some o)(hg:o.guard=none)
  (hr:(execOp a.eval o).run P w= .ok (.value v) w') (hQ:nF P ops K rest (a.put o.dst v) w'):nF P ops K (i::rest) a w:=by
 unfold nF z9;rw[ho];simp only[Region.wanted,hg,Ze5];unfold M9;rw[hr];exact hQ
theorem eval_put{a:Act}{t:Nat}{v:Value}(h:t<a.tmps.size):(a.put (some t) v).eval (.tmp t)=v:=by
 simp[Act.put,Act.eval,h]
theorem J0{a:Act}{t s:Nat}{v:Value}(h:t≠s):(a.put (some t) v).eval (.tmp s)=a.eval (.tmp s):=by
 simp[Act.put,Act.eval,Zd0 h]
theorem LI.round(hT:bE P tt)(hc:CK none aP call)(bw:dS P C call)(eG:oD P tt C call)(hR:YU tt nt g o0 o1 o4 ki rest DP bs)
   {A:Fr×St} {b yW:Pos} {es:List (AV×AV×Nat)} {since r:Nat} {iK:Pos->Loc} {HY:St} {w0:World} {seen:Array Nat} {ρ:Pos->Loc} {a:Act} {w:World}
   (L:LI C nt g A b yW es since r iK HY w0 seen ρ a w) (cU:Nn since es=true) {Q:Exit->Act->World->Prop}
   (Vo:(∀e∈es,seen.contains e.2.2=true)->∀a',kg nt ρ C A.1 A.2 a' w->Q (.exit b0) a' w)
   (acp:∀e∈es,seen.contains e.2.2=false->∃B,Mv aP m g A B e/\B.1.get (key g.t17)=some (.ptr yW 0)/\B.2.heap.get b=some (.map es since)/\B.1.get (key g.t18)=none/\B.1.get (key g.t19)=none/\
     ∀ρ' a' w',LI C nt g B b yW es since r iK HY w0 (seen.push e.2.2) ρ' a' w'->Q .normal a' w'):
   dI P (Vn g o0 o1 ki rest i3 i4 b0 b1) Q a w:=by
 obtain⟨c,hr,hsc⟩:=L.it;obtain⟨g1,g2,es',q1,q2,q3⟩:=L.S.W.live b _ L.mp;obtain⟨aW,Gj⟩:=Uj cU;have J1:∀(i:Nat)(e':MapEntry),es'[i]? =some e'->∃e,es[i]? =some e/\aj ρ A.2.next.toNat C e.1 e'.key/\aj ρ A.2.next.toNat C e.2.1 e'.val/\e.2.2=e'.born:=λi e' h=>by
   have hi:i<es.length:=(by rw[q2];exact(Zb6.1 h).1);exact⟨_,H1 hi,q3 i _ e' (H1 hi) h⟩
 have hold:∀x∈es'.toList,x.born<since:=λx hx=>by
   obtain⟨i,hi⟩:=Zi1.1 hx;obtain⟨e,h1,_,_,h2⟩:=J1 i x (by simpa using hi);rw[<-h2];exact aW e (Zb8 h1)
 have gZ:es'.toList.map (·.born)=es.map (·.2.2):=by
   apply Zi5;intro i;simp only[Zb7,Ze9];cases h:es'[i]? with
   | none=>
     have:es.length<=i:=(by rw[q2];exact Array.getElem?_eq_none_iff.1 h);rw[Zb1 this];rfl
   | some x=>
     obtain⟨e,h1,_,_,h2⟩:=J1 i x h;rw[h1];simp[h2]
 have Gp:a.eval (.tmp g.t17)= .pointer (some ⟨r,0,none⟩):=by
   have h:=nD (x:= .tmp g.t17) (o:= .t (key g.t17)) rfl L.S.F (v:= .ptr yW 0) L.at17;obtain⟨_,h⟩:=h.dU;rw[h,L.ip.1,L.ip.2.1]
 have dV:=L.S.size;have pR:∀(v:Value),g.t18<(a.put (some g.t18) v).tmps.size:=λv=>by rw[Act.fP,dV];exact hR.lt.2.1
 have hrl:r<w.heap.size:=(Zb6.1 hr).1;unfold Vn;apply Aa;apply Cx;show nF P _ _ [0,1] a w;rcases run_next_at (P:=P) w o0.type r (ρ b).aq since c seen es' since hr q1 hold hsc with⟨h0,bL⟩|⟨e',iT,w1,Uk,bL⟩
 . refine uv (i:=0) (o:=o0) rfl hR.n0.2.1 (v:= .tuple #[.bool false]) (w':=w) (by simp[execOp,hR.n0.1,Gp,bL,Result.andThen]) ?_;rw[hR.n0.2.2];refine uv (i:=1) (o:=o1) rfl hR.n1.2.1 (v:= .bool false) (w':=w) (by simp[execOp,hR.n1.1,eval_put (dV ▸hR.lt.2.1),Instr.extract,Result.andThen]) ?_;rw[hR.n1.2.2];apply Aa;refine LG (eval_put (by rw[Act.fP,dV];exact hR.lt.2.2.1)) (Wz ?_);refine Vo (λe he=> ?_) _ ⟨L.S.W,λp v hp=> ?_,by rw[Act.fP,Act.fP];exact dV,by rw[Act.gU,Act.gU];exact L.S.defers⟩
   .obtain⟨i,hi⟩:=Zi1.1 he;have LB:i<es'.size:=(by rw[<-q2];exact(H3.1 hi).1);obtain⟨e2,h1,_,_,h2⟩:=J1 i _ (Ze0 LB);rw[hi]at h1;cases h1;rw[h2];have hem:leftOf es' seen= #[]:=Zl8 h0;unfold leftOf at hem;rw[Array.filter_eq_empty_iff]at hem;have:=hem es'[i] (Array.getElem_mem LB);simpa using this
   .rw[BQ (λh=>by simp at h;subst h;rw[L.cl.2]at hp;cases hp),BQ (λh=>by simp at h;subst h;rw[L.cl.1]at hp;cases hp)];exact L.S.F p v hp
 . have hr1:w1.heap[r]? =some (.mapIter (some (ρ b).aq) since seen c):=(by rcases Uk with rfl|rfl<;>exact hr);have tX:w1.heap[(ρ b).aq]? =some (.map es' since):=(by rcases Uk with rfl|rfl<;>exact q1);have EP:=Go.MapKept.heap_set (o':= .mapIter (some (ρ b).aq) since (seen.push e'.born) since) hr1;obtain⟨w2,eB⟩:∃w2,w2=Go.ChangeMaps.setBlock w1 r (.mapIter (some (ρ b).aq) since (seen.push e'.born) since):=⟨_,rfl⟩
   (change (Go.ChangeMaps.setBlock w1 r (.mapIter (some (ρ b).aq) since (seen.push e'.born) since)).heap[r]? =_/\∀k,k≠r->(Go.ChangeMaps.setBlock w1 r (.mapIter (some (ρ b).aq) since (seen.push e'.born) since)).heap[k]? =_ at EP;rw[<-eB]at EP bL;have xW:w2.heap.size=w.heap.size:=(by rw[eB];rcases Uk with rfl|rfl<;>simp[Go.ChangeMaps.setBlock]<;>rfl);have mq:∀k,k≠r->w2.heap[k]? =w.heap[k]? :=λk hk=>(EP.2 k hk).trans (by rcases Uk with rfl|rfl<;>rfl));have z8:w2.os=w.os/\w2.tape=w.tape/\w2.output=w.output:=(by rw[eB];rcases Uk with rfl|rfl<;>exact⟨rfl,rfl,rfl⟩);clear eB Uk;have Dv:aM ρ C A.2 w2:=L.S.W.iter hr L.Ar xW mq;have hen:(Instr.entry (.pointer (some ⟨r,0,none⟩))).run P w2= .ok (.tuple #[e'.key,e'.val]) w2:=
     run_entry_at _ r _ since seen es' since e' EP.1 ((mq _ (L.Ar b _ L.mp)).trans q1) (by simp[leftOf]at iT;simpa using iT.1) (gZ ▸Gj)
   obtain⟨i,hi⟩:=Zi1.1 iT;have KC:e'∈es'.toList/\seen.contains e'.born=false:=(by simpa [leftOf]using iT);obtain⟨j,hj⟩:=Zi1.1 KC.1;obtain⟨e,h1,v1,v2,h2⟩:=J1 j e' (by simpa using hj);obtain⟨B,⟨f1,s1,hx,hf,hB⟩,b17,bm,b18,b19,hQ⟩:=acp e (Zb8 h1) (by rw[h2];exact KC.2);refine uv (i:=0) (o:=o0) rfl hR.n0.2.1 (v:= .tuple #[.bool true,e'.key,e'.val]) (w':=w2) (by simp[execOp,hR.n0.1,Gp,bL,Result.andThen]) ?_;rw[hR.n0.2.2];refine uv (i:=1) (o:=o1) rfl hR.n1.2.1 (v:= .bool true) (w':=w2) (by simp[execOp,hR.n1.1,eval_put (dV ▸hR.lt.2.1),Instr.extract,Result.andThen]) ?_;rw[hR.n1.2.2];apply Aa;refine Na (eval_put (by rw[Act.fP,dV];exact hR.lt.2.2.1)) (Wy ?_);apply LF;apply Aa;apply Cx;have Gr:ki.size=g.l4.length+1:=(by have h:DP.length=ki.size:=(by rw[(lf hR.c4).1,Ze4]);obtain⟨h4,_⟩:=Zb6.1 hR.n4.1;have h4:0<ki.size:=h4;rw[<-hR.l4,List.length_tail];omega);rw[Gr,Zk1,Zl9];refine uv (i:=0) (o:=o4) hR.n4.1 hR.n4.2.2.1 (v:= .tuple #[e'.key,e'.val]) (w':=w2) (by simp[execOp,hR.n4.2.1,J0 hR.ne.1.symm,J0 hR.ne.2.1.symm,Gp,hen,Result.andThen]) ?_;rw[hR.n4.2.2.2];unfold YT at hx;simp only[fT]at hx;rw[Je none hc]at hx;unfold lq at hx;(split at hx<;>first|(cases hx;done)|skip);rename_i y hy;simp only[Xc hc]at hx;have hvt:aj ρ A.2.next.toNat C (.tuple [.bool true,e.1,e.2.1]) (.tuple #[.bool true,e'.key,e'.val]):= .qa ((ak.nil.cons v2).cons v1 |>.cons (.bool true));have hve:aj ρ A.2.next.toNat C (.tuple [e.1,e.2.1]) (.tuple #[e'.key,e'.val]):= .qa ((ak.nil.cons v2).cons v1);have F1:=eg.put (nt:=nt) (d:=some g.t18) L.S.F dV (λ_ h=>by cases h;exact hR.lt.2.1) hvt;have F2:=eg.put (nt:=nt) (d:=some g.t19) F1 (by rw[Act.fP];exact dV) (λ_ h=>by cases h;exact hR.lt.2.2.1) (.bool true);have F3:=eg.put (nt:=nt) (d:=some g.t20) F2 (by rw[Act.fP,Act.fP];exact dV) (λ_ h=>by cases h;exact hR.lt.2.2.2) hve;refine nH (nt:=nt) hT bw g.l4 1 _ y.1 A.2 y.2 ρ _ w2 (λi ao hi=> ?_) hy ⟨Dv,F3,by rw[Act.fP,Act.fP,Act.fP];exact dV,by rw[Act.gU,Act.gU,Act.gU];exact L.S.defers⟩ λa3 w3 hp=> ?_
   .rw[<-hR.l4,List.getElem?_tail]at hi;obtain⟨o,k1,k2,_⟩:=xe hR.c4 (i+1) ao hi;exact⟨o,by rw[Nat.add_comm];exact k1,k2⟩
   obtain⟨xY,S3,k1,k2,k3⟩:=hp;(refine(nI hT bw eG m).1 rest g.body y.1 f1 y.2 s1 .normal xY a3 w3 _ hR.r4 hx S3 λa4 w4 hp=> ?_);have hP:=ew.trans k1 k2 k3 hp;show Q .normal a4 w4;have S2:kg nt ρ C A.1 A.2 a w2:=⟨Dv,L.S.F,dV,L.S.defers⟩
   have Wq:iy iK HY w0 ρ A.2 w2:=⟨z8.1.trans L.E.os,z8.2.1.trans L.E.tape,z8.2.2.trans L.E.output,by rw[xW];exact L.E.size,λk hk hn=>(mq k (by have:=L.late;omega)).trans (L.E.block k hk hn),λb x hb=>L.E.kZ b x hb⟩
   obtain⟨Rv,S4,l1,l2,E4⟩:∃Rv,kg nt Rv C B.1 B.2 a4 w4/\(∀p:Pos,p.toNat<A.2.next.toNat->Rv p=ρ p)/\A.2.next.toNat<=B.2.next.toNat/\iy ρ A.2 w2 Rv B.2 w4:=by
     rcases hB with⟨rfl,hk⟩|hB
     .  obtain⟨S,E⟩:=S2.back hf hk hP;exact⟨ρ,S,λ_ _=>rfl,H5 _,E⟩
     .  obtain⟨Rv,S,l1,l2,E⟩:=hP;rw[<-hB]at S l2 E;exact⟨Rv,⟨S.W,S.F.sub hf,S.size,S.defers⟩,l1,l2,E⟩
   have h4r:w4.heap[r]? =some (.mapIter (some (ρ b).aq) since (seen.push e.2.2) since):=(by rw[E4.block r (by rw[xW];exact hrl) L.Ar,h2];exact EP.1);refine hQ Rv a4 w4 ⟨S4,λp hp=>(l1 p (Zb5 hp L.k2)).trans (L.k1 p hp),Zc1 L.k2 l2,Wq.trans E4,?_,b17,bm,⟨since,?_,H5 _⟩,λp x hp=> ?_,L.late,b18,b19⟩
   .rw[l1 yW L.ip.2.2];exact⟨L.ip.1,L.ip.2.1,Zb5 L.ip.2.2 l2⟩
   .rw[l1 b g1];exact h4r
   . rcases E4.kZ p x hp with⟨p',x',hp',e1⟩|h
     .  rw[<-e1];exact L.Ar p' x' hp'
     .  rw[xW]at h;omega
theorem At:∀(ps:List Pos)(fr:Fr)(p:Pos),p∈ps\/fr.get p=none->(Ru ps fr).get p=none
 |[],_,_,h=>h.elim (λh=>by simp at h) id
 |q ::ps,fr,p,h=>At ps _ p (by
  by_cases hq:q=p
  .subst hq;exact .inr (T.dJ _ _ _)
  . rcases h with h|h
    .   rcases Za0.1 h with h|h
        .exact(hq h.symm).elim
        .exact .inl h
    .   exact .inr (by rw[T.bk _ hq];exact h))
theorem aM.slot{ρ ρ':Pos->Loc}{st:St}{w:World}(hW:aM ρ C st w)(aL:∀p:Pos,p.toNat<st.next.toNat->ρ' p=ρ p):aM ρ' C ⟨st.heap,st.next.succ⟩ w:=by
 have hl:∀p x,st.heap.get p=some x->ρ' p=ρ p:=λp x hp=>aL p (hW.live p x hp).1
 refine⟨λp x hp=> ?_,λp q x y hp hq h=> ?_,λa v ha=>⟨(hW.cL a v ha).1,λp x hp=> ?_⟩,hW.whole⟩
 .obtain⟨h1,h2,h3⟩:=hW.live p x hp;rw[hl p x hp];exact⟨by rw[Pos.ay];exact Nat.lt_succ_of_lt h1,h2,h3.mono aL (by rw[Pos.ay];omega)⟩
 .rw[hl p x hp,hl q y hq]at h;exact hW.inj p q x y hp hq h
 .rw[hl p x hp];exact(hW.cL a v ha).2 p x hp
end
end
section
variable{P:Program}{tt:TT}{C:Cells}
def idxS:List AV->St->Option (AV×St)
 |[.str a,.int .u8 c],st=>some (.int .i64 (Lib.indexByte (a.map UInt8.ofNat) c.toNat.toUInt8),st)
 |_,_=>none
end
def aaf (tt :TT)(nt:Nat)(ds:List Nat)(b0 b0' t19:Nat)(o2 o0 o1 o4:Oper)(Mn DP:List aU)(body:AC):Option (RG×Nat):=
 match o2.op,o0.op,o1.op,o4.op with
 |  .range ty x,.next (.tmp a0) false,.extract (.tmp a1) 0,.entry (.tmp a4)=>match o2.dst,o0.dst,o1.dst,o4.dst with
    |some t17,some t18,some c,some t20=>match o2.guard,o0.guard,o1.guard,o4.guard with
     |  none,none,none,none=>match jd x with
        |some xo=>match Nat.beq a0 t17&&Nat.beq a1 t18&&Nat.beq a4 t17&&Nat.beq c t19&&Nat.beq b0 b0'&&Nat.blt t17 nt&&Nat.blt t18 nt&&Nat.blt t19 nt&&Nat.blt t20 nt&&
            !Nat.beq t17 t18&& !Nat.beq t17 t19&& !Nat.beq t18 t19 with
         |true=>some (⟨t17,t18,t19,t20,Mn.dropLast,xo,DP.tail,body,key t18::key t19::ds.map key⟩,ty)
         |false=>none
        |_=>none
     |_,_,_,_=>none
    |_,_,_,_=>none
 |_,_,_,_=>none
def Rw (tt:TT)(nt:Nat):Code->Option (RG×Nat)
 |  .seq (.region _ vI false) (.block b0 (.loop (.seq (.region _ ⟨[o0,o1]⟩ false) (.seq (.cond (.tmp t19) .skip (.exit b0')) (.block _ (.seq (.region _ ki false) rest))))))=>
    match vI[vI.size - 1]?,ki[0]? with
    |some o2,some o4=>match kR tt nt vI vI.toList [],kR tt nt ki ki.toList []with
     |  some Mn,some DP=>match pK tt nt rest with
        |some body=>aaf tt nt (ki.toList.filterMap (·.dst)++nG rest) b0 b0' t19 o2 o0 o1 o4 Mn DP body
        |none=>none
     |_,_=>none
    |_,_=>none
 |_=>none
section
variable{P:Program}{tt:TT}{C:Cells}{aP:gp XR}{call:ah}{nt m:Nat}
def KO:Code->Bool
 |.region _ ops _=>ops.toList.any λo=>match o.op with|.range _ _=>true|_=>false
 |.seq a b=>KO a||KO b
 |.cond _ a b=>KO a||KO b
 |.block _ a=>KO a
 |.loop a=>KO a
 |_=>false
end
abbrev XO:=gY×Fr×St
abbrev XS:=Option (List XO)
def Ry(y x:XO):Bool:=match y.1,x.1 with
 |.normal,.normal=>T.sub fj y.2.1 x.2.1&&T.sub BU y.2.2.heap x.2.2.heap&&Pos.beq y.2.2.next x.2.2.next
 |_,_=>false
def Nq:List XO->List XO->List XO
 |[],acc=>acc
 |  x::l,acc=>match acc.any (λy=>Ry y x)with
    |true=>Nq l acc
    |false=>Nq l (x::acc)
def Fs{α:Type}(k:α->XS):List α->List XO->XS
 |[],acc=>some acc
 |  e::l,acc=>match k e with
    |some a=>Fs k l (Nq a acc)
    |none=>none
structure Cv(y x:XO):Prop where
 e:y.1=x.1
 f:∀p v,y.2.1.get p=some v->x.2.1.get p=some v
 h:∀p v,y.2.2.heap.get p=some v->x.2.2.heap.get p=some v
 n:y.2.2.next=x.2.2.next
theorem Cv.refl(x:XO):Cv x x:=⟨rfl,λ_ _ h=>h,λ_ _ h=>h,rfl⟩
theorem Xd{y x:XO}(h:Ry y x=true):Cv y x:=by
 unfold Ry at h;split at h<;>first|(cases h;done)|skip
 rename_i h1 h2;simp only[Za2]at h;exact⟨h1.trans h2.symm,T.xw (λ_ _=>nJ) h.1.1,T.xw (λ_ _=>KE) h.1.2,Pos.beq_eq.1 h.2⟩
theorem HZ:∀{l acc:List XO},(∀y∈acc,y∈Nq l acc)/\∀x∈l,∃y∈Nq l acc,Cv y x
 |[],acc=>⟨λy hy=>hy,λx hx=>by cases hx⟩
 |x ::l,acc=>by
  unfold Nq;split
  . rename_i h;obtain⟨h1,h2⟩:=HZ (l:=l) (acc:=acc);refine⟨h1,λz hz=> ?_⟩;rcases Za0.1 hz with rfl|hz
    .   obtain⟨y,hy,hc⟩:=List.any_eq_true.1 h;exact⟨y,h1 y hy,Xd hc⟩
    .   exact h2 z hz
  . obtain⟨h1,h2⟩:=HZ (l:=l) (acc:=x::acc);refine⟨λy hy=>h1 y (Za1 _ hy),λz hz=> ?_⟩;rcases Za0.1 hz with rfl|hz
    .   exact⟨z,h1 z (Zb9 ..),.refl z⟩
    .   exact h2 z hz
theorem uw{α:Type}{k:α->XS}{outs:List XO}:∀{l:List α}{acc:List XO},Fs k l acc=some outs->(∀y∈acc,y∈outs)/\∀e∈l,∃a,k e=some a/\∀x∈a,∃y∈outs,Cv y x
 |[],acc,h=>by
  simp only[Fs,H0]at h;subst h;exact⟨λy hy=>hy,λe he=>by cases he⟩
 |e::l,acc,h=>by
  unfold Fs at h;split at h<;>first|(cases h;done)|skip
  rename_i a ha;obtain⟨h1,h2⟩:=uw h;obtain⟨n1,n2⟩:=HZ (l:=a) (acc:=acc);refine⟨λy hy=>h1 y (n1 y hy),λz hz=> ?_⟩;rcases Za0.1 hz with rfl|hz
  .exact⟨a,ha,λx hx=>let⟨y,hy,hc⟩:=n2 x hx;⟨y,h1 y hy,hc⟩⟩
  .exact h2 z hz
section
variable{P:Program}{tt:TT}{C:Cells}{nt:Nat}{ρ:Pos->Loc}{st:St}{w:World}
theorem aM.yD{ρ:Pos->Loc}{st st':St}{w:World}(hW:aM ρ C st w)(h:∀p v,st'.heap.get p=some v->st.heap.get p=some v)(hn:st'.next=st.next):aM ρ C st' w:=
 ⟨λb x hb=>by rw[hn];exact hW.live b x (h b x hb),λb b' x x' hb gZ=>hW.inj b b' x x' (h b x hb) (h b' x' gZ),λa v ha=>⟨(hW.cL a v ha).1,λb x hb=>(hW.cL a v ha).2 b x (h b x hb)⟩,hW.whole⟩
theorem ew.Mo{y x:XO}{a':Act}{w':World}(hc:Cv y x)(h:ew nt ρ C st w x.2.1 x.2.2 a' w'):ew nt ρ C st w y.2.1 y.2.2 a' w':=by obtain⟨cV,S,k1,k2,E⟩:=h;refine⟨cV,⟨S.W.yD hc.h hc.n,?_,S.size,S.defers⟩,k1,by rw[hc.n];exact k2,⟨E.os,E.tape,E.output,E.size,E.block,λb v hb=>E.kZ b v (hc.h b v hb)⟩⟩;rw[hc.n];exact S.F.sub hc.f
def zx(P:Program)(C:Cells)(nt:Nat)(c:Code)(ex:Fr->St->XS):Prop:=
 ∀  (fr:Fr)(st:St)(outs:List XO)(ρ:Pos->Loc)(a:Act)(w:World)(Q:Exit->Act->World->Prop),ex fr st=some outs->kg nt ρ C fr st a w->
    (∀o∈outs,∀a' w',ew nt ρ C st w o.2.1 o.2.2 a' w'->Q (kL o.1) a' w')->dI P c Q a w
def YV(ex:Fr->St->XR)(fr:Fr)(st:St):XS:=match ex fr st with
 |some o=>some [o]
 |none=>none
theorem HX.one{c:Code}{ex:Fr->St->XR}(h:HX P C nt c ex):zx P C nt c (YV ex):=by
 intro fr st outs ρ a w Q hx hS hQ;unfold YV at hx;split at hx<;>first|(cases hx;done)|skip
 rename_i o ho;simp only[H0]at hx;subst hx;exact h fr o.2.1 st o.2.2 o.1 ρ a w Q ho hS λa' w' hp=>hQ o (by simp) a' w' hp
end
section
variable(aP:gp XR)(m:Nat)(g:RG)
def Rz{β:Type}:List Pos->Fr->(Fr->β)->β
 |[],fr,k=>k fr
 |p::ps,fr,k=>k8 none p fr λfr=>Rz ps fr k
def RA (b:Pos)(es:List (AV×AV×Nat))(clock:Nat)(yW:Pos):Nat->List (AV×AV×Nat)->Fr->St->XS
 |  0,todo,fr,st=>match todo with
    |[]=>some [(.normal,fr,st)]
    |_=>none
 |  n+  1,todo,fr,st=>match todo with
    |[]=>some [(.normal,fr,st)]
    |_  =>Fs (λe=>match YT aP m g e.1 e.2.1 fr st with
     |  some (.normal,f1,s1)=>Rz g.ds f1 λf1=>match jS b s1.heap,jS (key g.t17) f1 with
        |some y,some v=>match BU y (.map es clock)&&fj v (.ptr yW 0)with
         |true=>RA b es clock yW n (todo.filter λx=> !Nat.beq x.2.2 e.2.2) f1 s1
         |false=>none
        |_,_=>none
     |_=>none) todo []
def RB(l:List aU)(fr:Fr)(st:St):XR:=MW none aP l fr st λfr st=>some (.normal,fr,st)
def rgS (fr:Fr)(st:St):XS:=match RB aP g.l2 fr st with
 |  some (_,fr,st)=>Oa none fr g.x λ
    | .map b=>match jS b st.heap with
      | some (.map es clock)=>match Nn clock es with
        |true=>Rz g.ds fr λfr=>k8 (some (.ptr st.next 0)) (key g.t17) fr λfr=>Ln st.next λn=>RA aP m g b es clock st.next es.length es fr { heap:=st.heap,next:=n }
        |false=>none
      |_=>none
    |_=>none
 |none=>none
end
section
variable{P:Program}{tt:TT}{C:Cells}{aP:gp XR}{call:ah}{nt m:Nat}{g:RG}{ki:Array Oper}{o0 o1 o4:Oper}{i3 i4 b0 b1:Nat}{rest:Code}{DP:List aU}{bs:List Nat}
theorem Nr{β:Type}:∀(ps:List Pos)(fr:Fr)(k:Fr->β),Rz ps fr k=k (Ru ps fr)
 |[],_,_=>rfl
 |p::ps,fr,k=>by simp only[Rz,fT,Ru];exact Nr ps _ k
theorem Ns(hc:CK none aP call){l:List aU}{fr aN:Fr}{st st':St}{e:gY}(h:RB aP l fr st=some (e,aN,st')):e= .normal/\gM call l fr st=some (aN,st'):=by
 unfold RB at h;rw[Je none hc]at h;unfold lq at h;split at h<;>first|(cases h;done)|skip
 rename_i y hy;simp only[H0,Za8]at h;obtain⟨rfl,rfl,rfl⟩:=h;exact⟨rfl,hy⟩
theorem LI.abt(hT:bE P tt)(hc:CK none aP call)(bw:dS P C call)(eG:oD P tt C call)(hR:YU tt nt g o0 o1 o4 ki rest DP bs)
  {b yW:Pos} {es:List (AV×AV×Nat)} {since r:Nat} {iK:Pos->Loc} {HY:St} {w0:World} (cU:Nn since es=true) (rq:key g.t18∈g.ds/\key g.t19∈g.ds) {Q:Exit->Act->World->Prop}:
  ∀ (n:Nat)(todo:List (AV×AV×Nat))(fr:Fr)(st:St)(outs:List XO)(seen:Array Nat)(ρ:Pos->Loc)(a:Act)(w:World),RA aP m g b es since yW n todo fr st=some outs->
    (∀e,e∈todo↔e∈es/\seen.contains e.2.2=false)->LI C nt g (fr,st) b yW es since r iK HY w0 seen ρ a w->
    (∀o∈outs,o.1= .normal->∀a' w',ew nt iK C HY w0 o.2.1 o.2.2 a' w'->Q (.exit b0) a' w')->Ht (dI P (Vn g o0 o1 ki rest i3 i4 b0 b1)) Q (n+1) a w:=by
 intro n;induction n with
 |zero=>
  intro todo fr st outs seen ρ a w h Jm L hQ;unfold RA at h;split at h<;>first|(cases h;done)|skip
  simp only[H0]at h;subst h;rw[Ol];refine L.round (m:=m) hT hc bw eG hR cU (λ_ a' S=>hQ (.normal,fr,st) (Zc0.2 rfl) rfl a' w ⟨ρ,S,L.k1,L.k2,L.E⟩) λe he hs=> ?_
  have:=(Jm e).2 ⟨he,hs⟩;cases this
 |succ n ih=>
  intro todo fr st outs seen ρ a w h Jm L hQ;rw[Ol];unfold RA at h;split at h
  .simp only[H0]at h;subst h;(refine L.round (m:=m) hT hc bw eG hR cU (λ_ a' S=>hQ (.normal,fr,st) (Zc0.2 rfl) rfl a' w ⟨ρ,S,L.k1,L.k2,L.E⟩) λe he hs=> ?_);have:=(Jm e).2 ⟨he,hs⟩;cases this
  . rename_i cW;obtain⟨_,fq⟩:=uw h;refine L.round (m:=m) hT hc bw eG hR cU (λVo a' S=> ?_) λe he hs=> ?_
    .   cases todo with
        |nil=>exact(cW rfl).elim
        | cons e l=>
          obtain⟨he,hs⟩:=(Jm e).1 (Zb9 ..);rw[Vo e he]at hs;cases hs
    .   obtain⟨ic,h1,mD⟩:=fq e ((Jm e).2 ⟨he,hs⟩);(split at h1<;>first|(cases h1;done)|skip);rename_i f1 s1 hx;rw[Nr]at h1;simp only[q7]at h1;(split at h1<;>first|(cases h1;done)|skip);rename_i y v hy hv;(split at h1<;>first|(cases h1;done)|skip);rename_i hb;simp only[Za2]at hb;have e1:=KE hb.1;have e2:=nJ hb.2;subst e1;subst e2;refine⟨(Ru g.ds f1,s1),⟨f1,s1,hx,Np _ _,.inr rfl⟩,hv,hy,At _ _ _ (.inl rq.1),At _ _ _ (.inl rq.2),λρ' a' w' L'=> ?_⟩;refine ih _ _ _ ic _ ρ' a' w' h1 (λx=> ?_) L' λo ho hn a2 w2 hp=> ?_
        .rw[Zo1,Jm x,Array.contains_push,Zk2,Zg3];rw[show Nat.beq x.2.2 e.2.2=(x.2.2==e.2.2)from by rw[Zi3];simp[Nat.beq_eq]];exact and_assoc
        .obtain⟨z,hz,hcv⟩:=mD o ho;exact hQ z hz (hcv.e.trans hn) a2 w2 (hp.Mo hcv)
theorem zx.rng(hT:bE P tt)(hc:CK none aP call)(bw:dS P C call)(eG:oD P tt C call)(hR:YU tt nt g o0 o1 o4 ki rest DP bs)
   {vI:Array Oper} {Mn:List aU} {o2:Oper} {x:Operand} {ty kt et:TypeId} {i2:Nat} {bs2:List Nat} (h2:kR tt nt vI vI.toList bs2=some Mn) (jr:Mn.dropLast=g.l2)
   (z8:vI[g.l2.length]? =some o2) (xW:vI.size=g.l2.length+1) (ZW:o2.op= .range ty x) (uu:o2.guard=none) (ZZ:o2.dst=some g.t17) (hx:jd x=some g.x) (YW:P.underlying ty=some (.map kt et))
   (rq:key g.t18∈g.ds/\key g.t19∈g.ds):zx P C nt (.seq (.region i2 vI false) (.block b0 (.loop (Vn g o0 o1 ki rest i3 i4 b0 b1)))) (rgS aP m g):=by
 intro fr st outs ρ a w Q h hS hQ;unfold rgS at h;split at h<;>first|(cases h;done)|skip
 rename_i ex ru iU hy;obtain⟨rfl,hz⟩:=Ns hc hy;simp only[HD]at h;unfold lq at h;split at h<;>first|(cases h;done)|skip
 rename_i v hv;dsimp only at h;split at h<;>first|(cases h;done)|skip
 rename_i b;simp only[q7]at h;split at h<;>first|(cases h;done)|skip
 rename_i es clock hb;split at h<;>first|(cases h;done)|skip
 rename_i cU;simp only[Nr,fT,Fa]at h;apply Aa;apply Cx;rw[xW,List.range_succ];apply Oj;rw[Zk1];refine nH (nt:=nt) hT bw g.l2 0 fr ru st iU ρ a w (λi ao hi=> ?_) hz hS λa2 w2 hp=> ?_
 .rw[<-jr,List.getElem?_dropLast]at hi;(split at hi<;>first|(cases hi;done)|skip);obtain⟨o,k1,k2,_⟩:=xe h2 i ao hi;exact⟨o,by rw[Zc8];exact k1,k2⟩
 obtain⟨jR,S2,k1,k2,E2⟩:=hp;obtain⟨hbn,Hx⟩:=(nD hx S2.F hv).uf;obtain⟨g1,g2,es',q1,q2,q3⟩:=S2.W.live b _ hb;obtain⟨Mp,hf3⟩:∃f,f=(Ru g.ds ru).put (some (.ptr iU.next 0)) (key g.t17):=⟨_,rfl⟩
 rw[<-hf3]at h;obtain⟨H6,RD⟩:∃s:St,s=⟨iU.heap,iU.next.succ⟩:=⟨_,rfl⟩
 rw[<-RD]at h;have n18:key g.t17≠key g.t18:=λe=>hR.ne.1 (by have:=congrArg Pos.toNat e;rw[dM,dM]at this;omega)
 have n19:key g.t17≠key g.t19:=λe=>hR.ne.2.1 (by have:=congrArg Pos.toNat e;rw[dM,dM]at this;omega)
 have Xe:Mp.get (key g.t17)=some (.ptr iU.next 0)/\H6.heap.get b=some (.map es clock)/\Mp.get (key g.t18)=none/\Mp.get (key g.t19)=none:=by
   rw[hf3,RD,T.dJ,T.bk _ n18,T.bk _ n19];exact⟨rfl,hb,At _ _ _ (.inl rq.1),At _ _ _ (.inl rq.2)⟩
 show nF P _ _ [g.l2.length] a2 w2
 refine uv z8 uu (v:= .pointer (some ⟨w2.heap.size,0,none⟩)) (w':=w2.alloc (.mapIter (some (jR b).aq) clock #[] clock))
   (by simp[execOp,ZW,Hx,run_range_map (P:=P) w2 ty kt et (jR b).aq es' clock YW q1,Result.andThen]) ?_
 rw[ZZ];show dI P (Code.block b0 _) Q _ _;apply LF;have hold:∀k,k<w2.heap.size->(w2.alloc (.mapIter (some (jR b).aq) clock #[] clock)).heap[k]? =w2.heap[k]? :=λk hk=>heap_alloc_old w2 _ hk
 have dV:(w2.alloc (.mapIter (some (jR b).aq) clock #[] clock)).heap.size=w2.heap.size+1:=by simp
 obtain⟨xY,h3,aL⟩:∃xY:Pos->Loc,xY iU.next=⟨w2.heap.size,0,0⟩/\∀p:Pos,p.toNat<iU.next.toNat->xY p=jR p:=
   ⟨λp=>if p=iU.next then⟨w2.heap.size,0,0⟩else jR p,Za7 rfl,λp hp=>Za4 λe=>by subst e;omega⟩
 have hW3:aM xY C H6 (w2.alloc (.mapIter (some (jR b).aq) clock #[] clock)):=by rw[RD];exact(S2.W.slot aL).grow (by omega) hold
 have HA:H6.next.toNat=iU.next.toNat+1:=by rw[RD];exact Pos.ay _
 have hF3:eg xY H6.next.toNat C Mp (a2.put (some g.t17) (.pointer (some ⟨w2.heap.size,0,none⟩))).tmps:=by rw[hf3];refine eg.put (nt:=nt) (d:=some g.t17) ((S2.F.sub (Np _ _)).mono aL (by omega)) S2.size (λ_ h=>by cases h;exact hR.lt.1) ?_;have:=aj.ptr (ρ:=xY) (C:=C) iU.next 0 (n:=H6.next.toNat) (by omega);rw[h3]at this;exact this
 refine WA (es.length+1) (LI.abt (m:=m) (iK:=jR) (HY:=iU) (w0:=w2) (r:=w2.heap.size) hT hc bw eG hR cU rq es.length es Mp H6 outs #[] xY _ _ h (λe=>by simp) ?_ λo ho hn a' w' hp=> ?_)
 . refine⟨⟨hW3,hF3,by rw[Act.fP];exact S2.size,by rw[Act.gU];exact S2.defers⟩,aL,by show iU.next.toNat<=H6.next.toNat;omega,
     ⟨rfl,rfl,rfl,by rw[dV];omega,λk hk _=>hold k hk,λp x hp=>.inl ⟨p,x,by rw[RD]at hp;exact hp,by
        rw[RD]at hp;rw[aL p (S2.W.live p x hp).1]⟩⟩,⟨by rw[h3],by rw[h3],by show _<H6.next.toNat;omega⟩,Xe.1,Xe.2.1,⟨clock,?_,H5 _⟩,λp x hp=> ?_,H5 _,Xe.2.2⟩
   .rw[aL b g1];exact heap_alloc_new w2 _
   .rw[RD]at hp;obtain⟨l1,l2,_⟩:=S2.W.live p x hp;rw[aL p l1];omega
 . simp only[Exit.inBlock,Ze5];have:=hQ o ho a' w' (ew.trans k1 k2 E2 hp)
   rwa [hn]at this
theorem zx.Rw(hT:bE P tt)(hc:CK none aP call)(bw:dS P C call)(eG:oD P tt C call){c:Code}{g:RG}{ty:Nat}(h:Rw tt nt c=some (g,ty))
  {kt et:TypeId} (YW:P.underlying ty=some (.map kt et)) (ds:List Pos):zx P C nt c (rgS aP m { g with ds:=key g.t18::key g.t19::ds }):=by
 unfold Go.Ai.Rw at h;split at h<;>first|(cases h;done)|skip
 rename_i i2 vI b0 i3 o0 o1 t19 b0' b1 i4 ki rest;split at h<;>first|(cases h;done)|skip
 rename_i o2 o4 z8 ho4;split at h<;>first|(cases h;done)|skip
 rename_i Mn DP jr hl4;split at h<;>first|(cases h;done)|skip
 rename_i body acq;unfold aaf at h;split at h<;>first|(cases h;done)|skip
 rename_i ty' x a0 a1 a4 p2 p0 p1 p4;split at h<;>first|(cases h;done)|skip
 rename_i t17 t18 c t20 d2 d0 d1 d4;split at h<;>first|(cases h;done)|skip
 rename_i g2 g0 g1 g4;split at h<;>first|(cases h;done)|skip
 rename_i xo hxo;split at h<;>first|(cases h;done)|skip
 rename_i hb;simp only[H0,Za8]at h;obtain⟨rfl,rfl⟩:=h;simp only[Za2,Zg3,Nat.beq_eq,Nat.blt_eq]at hb;obtain⟨⟨⟨⟨⟨⟨⟨⟨⟨⟨⟨rfl,rfl⟩,rfl⟩,rfl⟩,rfl⟩,l17⟩,l18⟩,l19⟩,l20⟩,n1⟩,n2⟩,n3⟩:=hb;have hs:Mn.length=vI.size:=(lf jr).1.trans (Ze4 ..);have h0:0<vI.size:=by have:=(Zb6.1 z8).1;omega
 exact zx.rng hT hc bw eG (i3:=i3) (i4:=i4) (b1:=b1) ⟨⟨p0,g0,d0⟩,⟨p1,g1,d1⟩,⟨ho4,p4,g4,d4⟩,⟨l17,l18,l19,l20⟩,⟨Za9 n1,Za9 n2,Za9 n3⟩,hl4,rfl,acq⟩ jr rfl
  (by rw[List.length_dropLast,hs];exact z8) (by show vI.size=Mn.dropLast.length+1;rw[List.length_dropLast,hs];omega) p2 g2 d2 hxo YW ⟨by simp,by simp⟩
end
end
noncomputable section
open Go Go.RowKit
abbrev xZ:=(Pos->Loc)->St->World->List Deferred->Prop
def Mq(C:Cells)(J:xZ):Prop:=
 ∀  (ρ:Pos->Loc)(st:St)(w:World)(D:List Deferred)(ρ':Pos->Loc)(st':St)(w':World),J ρ st w D->aM ρ C st w->aM ρ' C st' w'->(∀b:Pos,b.toNat<st.next.toNat->ρ' b=ρ b)->
    st.next.toNat<=st'.next.toNat->iy ρ st w ρ' st' w'->J ρ' st' w' D
section
variable{P:Program}{tt:TT}{C:Cells}{r:Option Nat}{J:xZ}{ts:Nat->Prop}{x:Array Value}{nt:Nat}
def ig(C:Cells)(J:xZ)(ts:Nat->Prop)(x:Array Value)(nt:Nat)(ρ:Pos->Loc)(st:St)(w:World)(aN:Fr)(st':St)(a':Act)(w':World):Prop:=
 ∃ρ',kg nt ρ' C aN st' ⟨a'.tmps,[]⟩ w'/\(∀b:Pos,b.toNat<st.next.toNat->ρ' b=ρ b)/\st.next.toNat<=st'.next.toNat/\iy ρ st w ρ' st' w'/\J ρ' st' w' a'.defers/\∀t,ts t->a'.tmps[t]? =x[t]?
theorem ig.trans{ρ cV:Pos->Loc}{ru:Fr}{st aJ iU:St}{a2:Act}{w w1 w2:World}(h1:∀b:Pos,b.toNat<st.next.toNat->cV b=ρ b)(h2:st.next.toNat<=aJ.next.toNat)(h3:iy ρ st w cV aJ w1)
  (h:ig C J ts x nt cV aJ w1 ru iU a2 w2):ig C J ts x nt ρ st w ru iU a2 w2:=by
 obtain⟨jR,S,k1,k2,E,hJ,hx⟩:=h;exact⟨jR,S,λb hb=>(k1 b (Zb5 hb h2)).trans (h1 b hb),Zc1 h2 k2,h3.trans E,hJ,hx⟩
def CD(J:xZ):Prop:=∀(ρ:Pos->Loc)(st st':St)(w:World)(D:List Deferred),J ρ st w D->(∀p v,st'.heap.get p=some v->st.heap.get p=some v)->st'.next=st.next->J ρ st' w D
theorem ig.Mo(hw:CD J){y z:XO}{ρ:Pos->Loc}{st:St}{w:World}{a':Act}{w':World}(hc:Cv y z)(h:ig C J ts x nt ρ st w z.2.1 z.2.2 a' w'):ig C J ts x nt ρ st w y.2.1 y.2.2 a' w':=by obtain⟨cV,S,k1,k2,E,hJ,hx⟩:=h;refine⟨cV,⟨S.W.yD hc.h hc.n,?_,S.size,S.defers⟩,k1,by rw[hc.n];exact k2,⟨E.os,E.tape,E.output,E.size,E.block,λb v hb=>E.kZ b v (hc.h b v hb)⟩,hw _ _ _ _ _ hJ hc.h hc.n,hx⟩;rw[hc.n];exact S.F.sub hc.f
def cH(P:Program)(C:Cells)(r:Option Nat)(J:xZ)(ts:Nat->Prop)(x:Array Value)(nt:Nat)(c:Code)(ex:Fr->St->XS):Prop:=
 ∀  (fr:Fr)(st:St)(outs:List XO)(ρ:Pos->Loc)(a:Act)(w:World)(Q:Exit->Act->World->Prop),ex fr st=some outs->kg nt ρ C fr st ⟨a.tmps,[]⟩ w->J ρ st w a.defers->(∀t,ts t->a.tmps[t]? =x[t]?)->
    (∀o∈outs,∀a' w',ig C J ts x nt ρ st w o.2.1 o.2.2 a' w'->Q (kL o.1) a' w')->c.wpIn (Fc r) 0 P Q a w
theorem zx.g{c:Code}{ex:Fr->St->XS}(h:zx P C nt c ex)(hJ:Mq C J)(cK:∀t∈nG c,¬ts t):cH P C r J ts x nt c ex:=by
 intro fr st outs ρ a w Q he hS hj hx hQ;have h1:dI P c (λe a' w'=>∃o∈outs,e=kL o.1/\ew nt ρ C st w o.2.1 o.2.2 a' w') ⟨a.tmps,[]⟩ w:=h fr st outs ρ _ w _ he hS λo ho a' w' hp=>⟨o,ho,rfl,hp⟩
 refine wpIn_mono (dI.TM (r:=r) (n:=0) (D:=a.defers) (ds:=[]) (ts:=ts) (x:=x) c _ a.tmps w cK hx h1) ?_;rintro e a' w' ⟨hd,hk,o,ho,rfl,ρ',S,k1,k2,E⟩;exact hQ o ho a' w' ⟨ρ',S,k1,k2,E,by rw[hd];exact hJ _ _ _ _ _ _ _ hj hS.W S.W k1 k2 E,hk⟩
def H7(f g:Fr->St->XS)(fr:Fr)(st:St):XS:=match f fr st with
 |  some outs=>Fs (λ|(e,fr,st)=>match e with
    |.normal=>g fr st
    |e=>some [(e,fr,st)]) outs []
 |none=>none
def YX(id:Nat)(f:Fr->St->XS)(fr:Fr)(st:St):XS:=match f fr st with
 |  some outs=>Fs (λ|(e,fr,st)=>match e with
    | .exit i=>match Nat.beq i id with
      |true=>some [(.normal,fr,st)]
      |false=>some [(.exit i,fr,st)]
    |e=>some [(e,fr,st)]) outs []
 |none=>none
def Vp(c:dh)(f g:Fr->St->XS)(fr:Fr)(st:St):XS:=Oa none fr c λ
 |  .bool b=>match b with
    |true=>f fr st
    |false=>g fr st
 |_=>none
def Mr(f:Fr->St->XS):Nat->Fr->St->XS
 |0,_,_=>none
 |n+1,fr,st=>H7 f (λfr st=>Mr f n fr st) fr st
theorem cH.seq'(hw:CD J){c:Code}{f g:Fr->St->XS}{K:Act->World->Prop}{Q:Exit->Act->World->Prop}(hc:cH P C r J ts x nt c f)
  {fr:Fr} {st:St} {outs:List XO} {ρ:Pos->Loc} {a:Act} {w:World} (h:H7 f g fr st=some outs) (hS:kg nt ρ C fr st ⟨a.tmps,[]⟩ w) (hj:J ρ st w a.defers) (hx:∀t,ts t->a.tmps[t]? =x[t]?)
  (hK:∀bF aJ ic a1 w1,g bF aJ=some ic->(∀z∈ic,∃y∈outs,Cv y z)->ig C J ts x nt ρ st w bF aJ a1 w1->K a1 w1)
  (hQ:∀o∈outs,o.1≠ .normal->∀a' w',ig C J ts x nt ρ st w o.2.1 o.2.2 a' w'->Q (kL o.1) a' w'):c.wpIn (Fc r) 0 P (Exit.then K Q) a w:=by
 unfold H7 at h;split at h<;>first|(cases h;done)|skip
 rename_i Vq h0;obtain⟨_,fq⟩:=uw h;refine hc fr st Vq ρ a w _ h0 hS hj hx λo ho a1 w1 hp=> ?_
 obtain⟨ic,h1,mD⟩:=fq o ho;obtain⟨e,bF,aJ⟩:=o;dsimp only at h1 hp;cases e with
 |normal=>exact hK _ _ ic a1 w1 h1 mD hp
 |exit i=>
  simp only[H0]at h1;subst h1;obtain⟨y,hy,hcv⟩:=mD _ (Zc0.2 rfl);have:=hQ y hy (by rw[hcv.e];simp) a1 w1 (ig.Mo hw hcv hp);rw[hcv.e]at this;exact this
 |ret=>
  simp only[H0]at h1;subst h1;obtain⟨y,hy,hcv⟩:=mD _ (Zc0.2 rfl);have:=hQ y hy (by rw[hcv.e];simp) a1 w1 (ig.Mo hw hcv hp);rw[hcv.e]at this;exact this
theorem ig.go{ρ cV:Pos->Loc}{st aJ:St}{a1:Act}{w w1:World}{bF:Fr}(hw:CD J){d:Code}{g:Fr->St->XS}(hd:cH P C r J ts x nt d g){outs ic:List XO}{Q:Exit->Act->World->Prop}
  (h:g bF aJ=some ic) (mD:∀z∈ic,∃y∈outs,Cv y z) (hp:ig C J ts x nt ρ st w bF aJ a1 w1)
  (hQ:∀o∈outs,∀a' w',ig C J ts x nt ρ st w o.2.1 o.2.2 a' w'->Q (kL o.1) a' w'):d.wpIn (Fc r) 0 P Q a1 w1:=by
 obtain⟨cV,S,k1,k2,E,hj,hx⟩:=hp;refine hd bF aJ ic cV a1 w1 Q h S hj hx λo ho a' w' hp=> ?_
 obtain⟨y,hy,hcv⟩:=mD o ho;have:=hQ y hy a' w' (ig.Mo hw hcv (ig.trans k1 k2 E hp));rw[hcv.e]at this;exact this
theorem cH.seq(hw:CD J){c d:Code}{f g:Fr->St->XS}(hc:cH P C r J ts x nt c f)(hd:cH P C r J ts x nt d g):cH P C r J ts x nt (.seq c d) (H7 f g):=
 λfr st outs ρ a w Q h hS hj hx hQ=>wpIn_seq (hc.seq' hw h hS hj hx (λbF aJ ic a1 w1 h1 mD hp=>hp.go (cV:=ρ) hw hd h1 mD hQ) λo ho _=>hQ o ho)
theorem cH.block(hw:CD J){id:Nat}{c:Code}{f:Fr->St->XS}(hc:cH P C r J ts x nt c f):cH P C r J ts x nt (.block id c) (YX id f):=by
 intro fr st outs ρ a w Q h hS hj hx hQ;unfold YX at h;split at h<;>first|(cases h;done)|skip
 rename_i Vq h0;obtain⟨_,fq⟩:=uw h;refine wpIn_block (hc fr st Vq ρ a w _ h0 hS hj hx λo ho a1 w1 hp=> ?_);obtain⟨ic,h1,mD⟩:=fq o ho;obtain⟨e,bF,aJ⟩:=o;dsimp only at h1 hp;have fin:∀e',ic=[(e',bF,aJ)]->Q (kL e') a1 w1:=λe' he=>by subst he;obtain⟨y,hy,hcv⟩:=mD _ (Zc0.2 rfl);have:=hQ y hy a1 w1 (ig.Mo hw hcv hp);rw[hcv.e]at this;exact this
 cases e with
 |normal=>simp only[H0]at h1;exact fin _ h1.symm
 |exit i=>
  dsimp only at h1;simp only[kL,Exit.inBlock];cases hb:Nat.beq i id with
  |true=>
   rw[hb]at h1;rw[Za7 (H2 hb)];exact fin .normal (Zg4 h1).symm
  |false=>
   rw[hb]at h1;rw[Za4 (Za9 hb)];exact fin (.exit i) (Zg4 h1).symm
 |ret=>simp only[H0]at h1;exact fin _ h1.symm
theorem cH.cond{c:Operand}{o:dh}{d e:Code}{f g:Fr->St->XS}(ho:jd c=some o)(hd:cH P C r J ts x nt d f)(he:cH P C r J ts x nt e g):cH P C r J ts x nt (.cond c d e) (Vp o f g):=by
 intro fr st outs ρ a w Q h hS hj hx hQ;unfold Vp at h;rw[HD]at h;unfold lq at h;split at h<;>first|(cases h;done)|skip
 rename_i v hv;dsimp only at h;split at h<;>first|(cases h;done)|skip
 rename_i b;have hb:=(nD ho hS.F hv).fo;have hb:a.eval c= .bool b:=by rw[<-hb];exact Dy
 cases b
 .exact wpIn_cond_false hb (he fr st outs ρ a w Q h hS hj hx hQ)
 .exact wpIn_cond_true hb (hd fr st outs ρ a w Q h hS hj hx hQ)
theorem cH.loop(hw:CD J){c:Code}{f:Fr->St->XS}(hc:cH P C r J ts x nt c f)(n:Nat):cH P C r J ts x nt (.loop c) (Mr f n):=by
 intro fr st outs ρ a w Q h hS hj hx hQ;refine wpIn_loop_rounds n ?_
 suffices H:∀(n:Nat)(bF:Fr)(aJ:St)(ic:List XO)(a1:Act)(w1:World),Mr f n bF aJ=some ic->(∀z∈ic,∃y∈outs,Cv y z)->ig C J ts x nt ρ st w bF aJ a1 w1->
    Code.roundsIn (Fc r) 0 P c Q n a1 w1 from
  H n fr st outs a w h (λz hz=>⟨z,hz,.refl z⟩) ⟨ρ,hS,λ_ _=>rfl,H5 _,iy.refl _ _ _,hj,hx⟩
 intro n;induction n with
 |zero=>intro bF aJ ic a1 w1 h;cases h
 |succ n ih=>
  intro bF aJ ic a1 w1 h1 mD hp;obtain⟨cV,S,k1,k2,E,hj1,ZP⟩:=hp;rw[roundsIn_succ];refine hc.seq' hw (g:=λfr st=>Mr f n fr st) h1 S hj1 ZP (λru iU Vr a2 w2 h2 acr xO=> ?_) λo ho _ a' w' xO=> ?_
  .refine ih ru iU Vr a2 w2 h2 (λz hz=> ?_) (ig.trans k1 k2 E xO);obtain⟨y,hy,hc1⟩:=acr z hz;obtain⟨y',Ox,hc2⟩:=mD y hy;exact⟨y',Ox,⟨hc2.e.trans hc1.e,λp v h=>hc1.f p v (hc2.f p v h),λp v h=>hc1.h p v (hc2.h p v h),hc2.n.trans hc1.n⟩⟩
  .obtain⟨y,hy,hcv⟩:=mD o ho;have:=hQ y hy a' w' (ig.Mo hw hcv (ig.trans k1 k2 E xO));rw[hcv.e]at this;exact this
def noS:Fr->St->XS:=λ_ _=>none
theorem cH.no{c:Code}:cH P C r J ts x nt c noS:=λ_ _ _ _ _ _ _ h=>by cases h
def ux(base:Code->Option (Fr->St->XS))(n:Nat):Code->Fr->St->XS
 |  .seq a b=>match base (.seq a b)with
    |some f=>f
    |none=>H7 (ux base n a) (ux base n b)
 |  .block id a=>match base (.block id a)with
    |some f=>f
    |none=>YX id (ux base n a)
 |  .loop a=>match base (.loop a)with
    |some f=>f
    |none=>Mr (ux base n a) n
 |  .cond c a b=>match base (.cond c a b)with
    |some f=>f
    |none=>match jd c with
     |some o=>Vp o (ux base n a) (ux base n b)
     |none=>noS
 |  c=>match base c with
    |some f=>f
    |none=>noS
theorem cH.sp(hw:CD J){base:Code->Option (Fr->St->XS)}{n:Nat}:∀c:Code,(∀t∈nG c,¬ts t)->(∀c f,(∀t∈nG c,¬ts t)->base c=some f->cH P C r J ts x nt c f)->cH P C r J ts x nt c (ux base n c):=by
 intro c cK hb;induction c with
 |seq a b QK QL=>
  unfold ux;split
  .exact hb _ _ cK (by assumption)
  .exact .seq hw (QK λt ht=>cK t (Zh8 _ ht)) (QL λt ht=>cK t (Zh4 _ ht))
 |block id a ih=>
  unfold ux;split
  .exact hb _ _ cK (by assumption)
  .exact .block hw (ih cK)
 |loop a ih=>
  unfold ux;split
  .exact hb _ _ cK (by assumption)
  .exact .loop hw (ih cK) n
 |cond c a b QK QL=>
  unfold ux;split
  .exact hb _ _ cK (by assumption)
  . split
    .exact .cond (by assumption) (QK λt ht=>cK t (Zh8 _ ht)) (QL λt ht=>cK t (Zh4 _ ht))
    .exact .no
 |_=>
  unfold ux;split
  .exact hb _ _ cK (by assumption)
  .exact .no
def xK(P:Program)(tt:TT)(aP:gp XR)(m:Nat)(kp:List Nat)(nt:Nat)(c:Code):Option (Fr->St->XS):=match Go.Ai.Rw tt nt c with
 |  some (g,ty)=>match P.underlying ty with
    |some (.map _ _)=>some (rgS aP m { g with ds:=key g.t18::key g.t19::g.ds.filter λp=> !(kp.any λt=>Pos.beq (key t) p) })
    |_=>none
 |  none=>match KO c with
    |true=>none
    |false=>match pK tt nt c with
     |some ac=>some (YV (Xb aP m ac))
     |none=>none
theorem KP{aP:gp XR}{call:ah}{m:Nat}{kp:List Nat}(hT:bE P tt)(hc:CK none aP call)(bw:dS P C call)(eG:oD P tt C call)(hJ:Mq C J){c:Code}{f:Fr->St->XS}
   (cK:∀t∈nG c,¬ts t) (h:xK P tt aP m kp nt c=some f):cH P C r J ts x nt c f:=by
 unfold xK at h;split at h
 .rename_i hg;(split at h<;>first|(cases h;done)|skip);rename_i hu;simp only[H0]at h;subst h;exact(zx.Rw hT hc bw eG hg hu _).g hJ cK
 . (split at h<;>first|(cases h;done)|skip);(split at h<;>first|(cases h;done)|skip);rename_i QU;simp only[H0]at h;subst h;exact(HX.ac hT hc bw eG QU).one.g hJ cK
end
section
variable{P:Program}{tt:TT}{C:Cells}{ρ:Pos->Loc}{st:St}{w w':World}{nt:Nat}
theorem aM.Ar{L:Nat}(hW:aM ρ C st w)(hr:∀a:Addr,a.block=L->w.cell? a=none)(hn:∀b x,st.heap.get b=some x->(ρ b).aq≠L)
   (hs:w'.heap.size=w.heap.size) (hk:∀k,k≠L->w'.heap[k]? =w.heap[k]?):aM ρ C st w':=by
 have cW:∀a v,C a=some v->a.block≠L:=λa v ha e=>by have h:=(hW.cL a v ha).1;rw[hr a e]at h;cases h
 refine⟨λb x hb=> ?_,hW.inj,λa v ha=> ?_,λa v ha o ho=> ?_⟩
 .obtain⟨h1,h2,h3⟩:=hW.live b x hb;exact⟨h1,by rw[hs];exact h2,h3.of_heap (hk _ (hn b x hb))⟩
 .obtain⟨h1,h2⟩:=hW.cL a v ha;exact⟨by rw[World.cell?_of_block (w:=w) (hk _ (cW a v ha))];exact h1,h2⟩
 .rw[World.cell?_of_block (w:=w) (a:=⟨a.block,o,none⟩) (hk _ (cW a v ha))];exact hW.whole a v ha o ho
theorem aM.KQ{L:Nat}{r:Loop}{o:Obj}(hW:aM ρ C st w)(hl:w.heap[L]? =some (.loop r))(hn:∀b x,st.heap.get b=some x->(ρ b).aq≠L):aM ρ C st (w.putObj L o):=
 hW.Ar (λa ha=>by subst ha;simp[World.cell?,hl]) hn World.putObj_size λk hk=>World.putObj_heap_other hk
theorem aM.YY{L:Nat}{r:Option (List Deferred)}{o:Obj}(hW:aM ρ C st w)(hl:w.heap[L]? =some (.deferred r))(hn:∀b x,st.heap.get b=some x->(ρ b).aq≠L):aM ρ C st (w.putObj L o):=
 hW.Ar (λa ha=>by subst ha;simp[World.cell?,hl]) hn World.putObj_size λk hk=>World.putObj_heap_other hk
theorem zN{ρ':Pos->Loc}{st':St}{L:Nat}(E:iy ρ st w ρ' st' w')(hL:L<w.heap.size)(hn:∀b x,st.heap.get b=some x->(ρ b).aq≠L):(∀b x,st'.heap.get b=some x->(ρ' b).aq≠L)/\w'.heap[L]? =w.heap[L]? :=
 ⟨λb x hb=>by
  rcases E.kZ b x hb with⟨b',x',gZ,e⟩|h
  .rw[<-e];exact hn b' x' gZ
  .omega,E.block L hL hn⟩
def J2:xZ:=λ_ _ _ D=>D=[]
theorem J2.stays:Mq C J2:=λ_ _ _ _ _ _ _ h _ _ _ _ _=>h
theorem J2.yD:CD J2:=λ_ _ _ _ _ h _ _=>h
def DQ(C:Cells)(L D0:Nat)(r:Loop)(qh:Fr):xZ:=λρ st w D=>D=[]/\w.heap[L]? =some (.loop r)/\w.heap[D0]? =some (.deferred (some []))/\
 (∀b x,st.heap.get b=some x->(ρ b).aq≠L)/\(∀b x,st.heap.get b=some x->(ρ b).aq≠D0)/\eg ρ st.next.toNat C qh r.tmps
theorem B0{k:Nat}{o:Obj}(h:w.heap[k]? =some o):k<w.heap.size:=(Zb6.1 h).1
theorem DQ.stays{L D0:Nat}{r:Loop}{qh:Fr}:Mq C (DQ C L D0 r qh):=λρ st w D ρ' st' w' h _ _ k1 k2 E=>by
 obtain⟨h1,h2,h3,h4,h5,h6⟩:=h;obtain⟨f1,f2⟩:=zN E (B0 h2) h4;obtain⟨g1,g2⟩:=zN E (B0 h3) h5;exact⟨h1,f2.trans h2,g2.trans h3,f1,g1,h6.mono k1 k2⟩
theorem DQ.yD{L D0:Nat}{r:Loop}{qh:Fr}:CD (DQ C L D0 r qh):=λρ st st' w D h hh hn=>by
 obtain⟨h1,h2,h3,h4,h5,h6⟩:=h;exact⟨h1,h2,h3,λb x hb=>h4 b x (hh b x hb),λb x hb=>h5 b x (hh b x hb),by rw[hn];exact h6⟩
abbrev mark(r:Nat):Deferred:={ target:= .collected r,args:= #[] }
def H8(B:Nat):xZ:=λρ st w D=>B<=w.heap.size/\∃rs:List Nat,D=rs.map mark/\rs.Nodup/\∀r∈rs,B<=r/\w.heap[r]? =some (.deferred (some []))/\∀b x,st.heap.get b=some x->(ρ b).aq≠r
theorem H8.stays{B:Nat}:Mq C (H8 B):=λρ st w D ρ' st' w' h _ _ k1 k2 E=>by
 obtain⟨hB,rs,h1,h2,h3⟩:=h;refine⟨Zc1 hB E.size,rs,h1,h2,λr hr=> ?_⟩;obtain⟨g0,g1,g2⟩:=h3 r hr;obtain⟨f1,f2⟩:=zN E (B0 g1) g2;exact⟨g0,f2.trans g1,f1⟩
theorem H8.yD{B:Nat}:CD (H8 B):=λρ st st' w D h hh hn=>by
 obtain⟨hB,rs,h1,h2,h3⟩:=h;exact⟨hB,rs,h1,h2,λr hr=>let⟨g0,g1,g2⟩:=h3 r hr;⟨g0,g1,λb x hb=>g2 b x (hh b x hb)⟩⟩
def RE:List XO->List St->Option (List St)
 |[],acc=>some acc
 |  (e,_,st)::l,acc=>match e with
    |.normal=>RE l (st::acc)
    |_=>none
def Ms{β:Type}:List Nat->List AV->Fr->(Fr->Option β)->Option β
 |[],[],fr,k=>k fr
 |p::ps,v::vs,fr,k=>k8 (some v) (key p) fr λfr=>Ms ps vs fr k
 |_,_,_,_=>none
def Vt(ps:List Nat)(f:Fr->St->XS)(qh:Fr)(vs:List AV)(st:St):Option (List St):=Ms ps vs qh λfr=>match f fr st with
 |some outs=>RE outs []
 |none=>none
theorem OV:∀{l:List XO}{acc DR:List St},RE l acc=some DR->(∀s∈acc,s∈DR)/\∀o∈l,o.1= .normal/\o.2.2∈DR
 |[],acc,DR,h=>by
  simp only[RE,H0]at h;subst h;exact⟨λ_ h=>h,λ_ h=>by cases h⟩
 |(e,fr,st)::l,acc,DR,h=>by
  unfold RE at h;cases e with
  | normal=>
    obtain⟨h1,h2⟩:=OV (l:=l) h;refine⟨λs hs=>h1 s (Za1 _ hs),λo ho=> ?_⟩;rcases Za0.1 ho with rfl|ho
    .exact⟨rfl,h1 _ (Zb9 ..)⟩
    .exact h2 o ho
  |_=>cases h
theorem J3{β:Type}{k:Fr->Option β}{z:β}:∀{ps:List Nat}{vs:List AV}{xs:List Value}{fr:Fr}{T:Array Value},Ms ps vs fr k=some z->ak ρ st.next.toNat C vs xs->eg ρ st.next.toNat C fr T->T.size=nt->(∀p∈ps,p<nt)->
  ∃aN,k aN=some z/\eg ρ st.next.toNat C aN ((ps.zip xs).foldl (λt (p,v)=>t.setIfInBounds p v) T)/\((ps.zip xs).foldl (λt (p,v)=>t.setIfInBounds p v) T).size=nt/\xs.length=ps.length
 |[],[],xs,fr,T,h,hv,hF,hs,_=>by
  have:=hv.kK;subst this;exact⟨fr,h,hF,hs,rfl⟩
 |p::ps,v::vs,xs,fr,T,h,hv,hF,hs,hp=>by
  obtain⟨x,sr,rfl,h1,h2⟩:=hv.cons_inv;unfold Ms at h;rw[fT]at h;have hF':=eg.put (nt:=nt) (a:=⟨T,[]⟩) (d:=some p) hF hs (λ_ h=>by cases h;exact hp p (Zb9 ..)) h1;obtain⟨aN,g1,g2,g3,g4⟩:=J3 (T:=T.setIfInBounds p x) h h2 hF' (by simpa using hs) λq hq=>hp q (Za1 _ hq)
  exact⟨aN,g1,g2,g3,by simp[g4]⟩
 |[],_::_,_,_,_,h,_,_,_,_=>by cases h
 |_::_,[],_,_,_,h,_,_,_,_=>by cases h
def Vu(P:Program)(C:Cells)(L D0:Nat)(r:Loop)(qh:Fr)(OW:List AV->St->Option (List St)):Prop:=
 ∀  (vs:List AV)(st:St)(DR:List St)(ρ:Pos->Loc)(w:World)(args:Array Value),OW vs st=some DR->aM ρ C st w->ak ρ st.next.toNat C vs args.toList->DQ C L D0 r qh ρ st w []->
    args.size=r.params.size/\RoundIn (Fc none) 0 P L r.fn ((r.params.zip args).foldl (λt (p,v)=>t.setIfInBounds p v) r.tmps) r.assign r.body w λe w'=>
     ∃s∈DR,e= .returned (.bool true)/\∃ρ',aM ρ' C s w'/\(∀b:Pos,b.toNat<st.next.toNat->ρ' b=ρ b)/\st.next.toNat<=s.next.toNat/\iy ρ st w ρ' s w'
theorem abu{L D0:Nat}{r:Loop}{qh:Fr}{ps:List Nat}{f g:Fr->St->XS}(hp:r.params.toList=ps)(hr:r.state= .ready)(LH:r.pending=none)(hs:r.tmps.size=nt)(aW:∀p∈ps,p<nt)
   (hA:cH P C (some L) J2 (λ_=>False) #[] nt r.assign f) (hB:cH P C (some L) J2 (λ_=>False) #[] nt r.body g):Vu P C L D0 r qh (Vt ps (H7 f g) qh):=by
 intro vs st DR ρ w args h hW hv hj;obtain⟨_,hl,_,Ar,_,hF⟩:=hj;unfold Vt at h;obtain⟨fr,h,hF1,H9,hlen⟩:=J3 h hv hF hs aW;have acs:(ps.zip args.toList).foldl (λt (p,v)=>t.setIfInBounds p v) r.tmps=(r.params.zip args).foldl (λt (p,v)=>t.setIfInBounds p v) r.tmps:=by
   rw[<-hp, <-Array.foldl_toList,Array.toList_zip]
 rw[acs]at hF1 H9;refine⟨by rw[<-Ze4, <-Ze4,hp,hlen],roundIn_of_wpIn (F:=Fc none) trivial ?_⟩;split at h<;>first|(cases h;done)|skip
 rename_i outs hx;have fq:=(OV h).2;show r.assign.wpIn (Fc (some L)) 0 P _ _ w;refine hA.seq' J2.yD hx ⟨hW,hF1,H9,rfl⟩ rfl (λ_ h=>h.elim) (λbF aJ ic a1 w1 h1 mD c9=> ?_) λo ho cW=>(cW (fq o ho).1).elim
 obtain⟨cV,S1,k1,k2,E1,hD1,_⟩:=c9;obtain⟨far1,sx⟩:=zN E1 (B0 hl) Ar;rw[hl]at sx;refine⟨_,run_beginRound sx hr,?_⟩;have Vv:=B0 sx;refine hB bF aJ ic cV a1 _ _ h1 ⟨S1.W.KQ sx far1,S1.F,S1.size,rfl⟩ hD1 (λ_ h=>h.elim) λo ho a3 w3 hp3=> ?_
 obtain⟨y,hy,hcv⟩:=mD o ho;obtain⟨yT,zX⟩:=fq y hy;rw[<-hcv.e,yT];obtain⟨xY,S3,j1,j2,E3,_,_⟩:=hp3;have jr:=World.putObj_heap_same (o:= .loop { r with state:= .busy }) Vv;obtain⟨far3,hl3⟩:=zN E3 (by rw[World.putObj_size];exact Vv) far1;rw[jr]at hl3;refine⟨_,_,run_endRound (P:=P) none hl3,y.2.2,zX,rfl,xY,?_,λb hb=>(j1 b (Zb5 hb k2)).trans (k1 b hb),by rw[hcv.n];exact Zc1 k2 j2,?_⟩
 .exact(S3.W.KQ hl3 far3).yD hcv.h hcv.n
 . have hrec:({ ({ r with state:= .busy }:Loop)with state:=if(none:Option Code).isNone then .ready else .done,pending:=none }:Loop)=r:=(by cases r;simp only at hr LH;subst hr;subst LH;rfl);rw[hrec];refine E1.trans ⟨E3.os,E3.tape,E3.output,by rw[World.putObj_size];have:=E3.size;rw[World.putObj_size]at this;exact this,λk hk hn=> ?_,λb x hb=> ?_⟩
   . by_cases e:k=L
     .  subst e;rw[World.putObj_heap_same (B0 hl3),sx]
     .  rw[World.putObj_heap_other e,E3.block k (by rw[World.putObj_size];exact hk) hn,World.putObj_heap_other e]
   .have:=E3.kZ b x (hcv.h b x hb);rw[World.putObj_size]at this;exact this
end
structure YR where
 d:Nat
 dy:Nat
 xs:List dh
 l1:List aU
 l2:List aU
def Qb (d:Nat):List Oper->Nat->Option Nat
 |[],_=>none
 |  o ::l,i=>match o.op with
    | .call c=>match c.callee with
      | .value (.tmp e)=>match Nat.beq d e with
        |true=>some i
        |false=>Qb d l (i+1)
      |_=>Qb d l (i+1)
    |_=>Qb d l (i+1)
def Xf(d:Nat)(o:Oper):Bool:=match o.dst with
 |some e=> !Nat.beq d e
 |none=>true
def YZ (tt:TT) (nt:Nat):Code->Option YR
 |  .region _ ops false=>match ops[0]? with
    |some o0  =>match o0.op,o0.dst,o0.guard with
     |  .move (.tmp 0),some d,none=>match Qb d ops.toList 0 with
        |some j=>match ops[j]? with
         |  some oj=>match oj.op,oj.dst,oj.guard with
            | .call c,some dy,none=>match c.callee,gL c.args.toList,kR tt nt ops ops.toList []with
              | .value (.tmp d'),some xs,some l=>match Nat.beq d' d&&Nat.blt d nt&&Nat.blt dy nt&&Nat.blt 0 j&&Nat.blt j ops.size&&((ops.toList.drop 1).take (j - 1)).all (Xf d)with
                |true=>some ⟨d,dy,xs,(l.drop 1).take (j - 1),l.drop (j+1)⟩
                |false=>none
              |_,_,_=>none
            |_,_,_=>none
         |none=>none
        |none=>none
     |_,_,_=>none
    |none=>none
 |_=>none
def KR:Code->Bool
 |.region _ ops _=>ops.toList.any λo=>match o.op with|.move (.tmp 0)=>true|_=>false
 |.seq a b=>KR a||KR b
 |.cond _ a b=>KR a||KR b
 |.block _ a=>KR a
 |.loop a=>KR a
 |_=>false
section
variable(aP:gp XR)
def Y0(OW:List AV->St->Option (List St))(y:YR)(fr:Fr)(st:St):XS:=k8 none (key y.d) fr λfr=>match RB aP y.l1 fr st with
 |  some (_,bF,aJ)=>Kr none bF y.xs λvs=>match OW vs aJ with
    |some DR=>k8 (some (.bool true)) (key y.dy) bF λru=>Fs (λs=>match RB aP y.l2 ru s with
     |some o=>some [o]
     |none=>none) DR []
    |none=>none
 |none=>none
end
section
variable{P:Program}{tt:TT}{C:Cells}{aP:gp XR}{call:ah}{nt m:Nat}
theorem eg.drop{ρ:Pos->Loc}{n d:Nat}{fr:Fr}{X:Array Value}(h:eg ρ n C fr X)(v:Value):eg ρ n C (fr.put none (key d)) (X.setIfInBounds d v):=λp u hp=>by
 by_cases e:key d=p
 .subst e;rw[T.dJ]at hp;cases hp
 .rw[T.bk _ e]at hp;obtain⟨y,hy,hr⟩:=h p u hp;refine⟨y,?_,hr⟩;rw[Zd0,hy];intro h';apply e;apply Pos.toNat_inj;rw[dM];have:=p.toNat_pos;omega
theorem J4{r:Option Nat}{ops:Array Oper}{Q:Exit->Act->World->Prop}{i:Nat}{rest:List Nat}{o:Oper}{a:Act}{w:World}(ho:ops[i]? =some o)(hg:o.guard=none)
  (h:o.uponIn (Fc r) 0 P a (wpOpsIn (Fc r) 0 P ops Q rest) Q ((o.semAt r a.eval).run P w)):wpOpsIn (Fc r) 0 P ops Q (i::rest) a w:=by
 rw[wpOpsIn_cons];unfold wpOpIn;rw[ho];simp only[Region.wanted,hg,Ze5];exact⟨λ_ _=>trivial,h⟩
theorem Td(j k:Nat):List.range (j+1+1+k)=0::(List.range' 1 j++(j+1)::List.range' (j+2) k):=by rw[Zk1,show j+1+1+k=(j+1)+(k+1)by omega, <-List.range'_append_1,Zl9,Zl9 (s:=0+(j+1))];simp
theorem cH.yld(hT:bE P tt)(hc:CK none aP call)(bw:dS P C call){L D0:Nat}{r:Loop}{qh:Fr}{x:Array Value}(Xg:x[0]? =some (.func (.yield L) #[] #[]))
   {OW:List AV->St->Option (List St)} (Y3:Vu P C L D0 r qh OW) {c:Code} {y:YR} (hy:YZ tt nt c=some y) (cK:∀t∈nG c,t≠0):
   cH P C none (DQ C L D0 r qh) (λt=>t=0) x nt c (Y0 aP OW y):=by
 unfold YZ at hy;split at hy<;>first|(cases hy;done)|skip
 rename_i id ops;split at hy<;>first|(cases hy;done)|skip
 rename_i o0 h0;split at hy<;>first|(cases hy;done)|skip
 rename_i d hop0 hd0 Me;split at hy<;>first|(cases hy;done)|skip
 rename_i j hj;split at hy<;>first|(cases hy;done)|skip
 rename_i oj hoj;split at hy<;>first|(cases hy;done)|skip
 rename_i cl dy hopj hdj hgj;split at hy<;>first|(cases hy;done)|skip
 rename_i d' xs l Kz fE hl;split at hy<;>first|(cases hy;done)|skip
 rename_i hb;simp only[H0]at hy;subst hy;simp only[Za2,Nat.beq_eq,Nat.blt_eq]at hb;obtain⟨⟨⟨⟨⟨rfl,hd⟩,hdy⟩,hj0⟩,hjs⟩,Gj⟩:=hb;intro fr st outs ρ a w Q h hS hJ hx hQ;unfold Y0 at h;rw[fT]at h;dsimp only at h;split at h<;>first|(cases h;done)|skip
 rename_i e1 bF aJ yT;obtain⟨rfl,hz1⟩:=Ns hc yT;rw[Jd]at h;unfold lq at h;split at h<;>first|(cases h;done)|skip
 rename_i vs fV;dsimp only at h;split at h<;>first|(cases h;done)|skip
 rename_i DR hr;rw[fT]at h;obtain⟨_,fq⟩:=uw h;have hlen:l.length=ops.size:=by rw[(lf hl).1,Ze4]
 have sx:((l.drop 1).take (j - 1)).length=j - 1:=by rw[Zj1,List.length_drop,hlen];omega
 have jr:(l.drop (j+1)).length=ops.size - (j+1):=by rw[List.length_drop,hlen]
 apply wpIn_region;have abv:List.range ops.size=0::(List.range' 1 ((l.drop 1).take (j - 1)).length++(j::List.range' (j+1) (l.drop (j+1)).length)):=by rw[sx,jr];have:=Td (j - 1) (ops.size - (j+1));rw[show j - 1+1+1+(ops.size - (j+1))=ops.size by omega,show j - 1+1=j by omega,show j - 1+2=j+1 by omega]at this;exact this
 rw[abv];refine J4 h0 Me ?_;have hev0:a.eval (.tmp 0)= .func (.yield L) #[] #[]:=by
   have:=hx 0 rfl;rw[Xg]at this;show a.tmps.getD 0 undef=_;simp[Zg9,this]
 have hsem:(o0.semAt none a.eval).run P w= .ok (.value (.func (.yield L) #[] #[])) w:=by
   show(execOp a.eval o0).run P w=_;unfold execOp;rw[hop0];simp only[Sem.run_pure,hev0]
 rw[hsem];show wpOpsIn (Fc none) 0 P ops Q _ (a.put o0.dst _) w;rw[hd0];show wpOpsIn (Fc none) 0 P ops Q _ ⟨a.tmps.setIfInBounds d' (.func (.yield L) #[] #[]),a.defers⟩ w;have acu:d'≠0:=cK d' (by
   show d'∈ops.toList.filterMap (·.dst);rw[Zk6];exact⟨o0,by rw[Zk0];exact Zj6 h0,hd0⟩)
 have Vw:∀(i:Nat)(o:Oper),ops[i]? =some o->∀t,o.dst=some t->t≠0:=λi o ho t ht=>cK t (by
   show t∈ops.toList.filterMap (·.dst);rw[Zk6];exact⟨o,by rw[Zk0];exact Zj6 ho,ht⟩)
 have hsz0:a.tmps.size=nt:=hS.size
 refine EU (ds:=[]) (ts:=λt=>t=0\/t=d') (x:=(a.tmps.setIfInBounds d' (.func (.yield L) #[] #[]))) (K:=λa' w'=>ew nt ρ C st w bF aJ a' w') (λT' w1 hk hp=> ?_) _ _ w (λi hi o ho t ht=> ?_) (λ_ _=>rfl)
   (nH (nt:=nt) hT bw _ 1 _ bF st aJ ρ _ w (λi ao hi=> ?_) hz1 ⟨hS.W,hS.F.drop _,by simpa using hsz0,rfl⟩ λa' w' hp=>hp)
 . obtain⟨cV,S1,k1,k2,E1⟩:=hp;have hJ1:=DQ.stays _ _ _ _ _ _ _ hJ hS.W S1.W k1 k2 E1;have hD:a.defers=[]:=hJ.1;have Ww:=hJ1.2.1;have JD:=cZ fE S1.F fV;obtain⟨dV,abw⟩:=Y3 vs aJ DR cV w1 (cl.args.map (⟨T',a.defers⟩:Act).eval) hr S1.W (by
     (rw[Zn4];have:(⟨T',a.defers⟩:Act).eval=(⟨T',[]⟩:Act).eval:=funext λ_=>Dy);rw[this];exact JD) (by rw[<-hD];exact hJ1)
   refine J4 hoj hgj ?_;have hevd:(⟨T',a.defers⟩:Act).eval (.tmp d')= .func (.yield L) #[] #[]:=by
     have:=hk d' (.inr rfl);rw[Zj5]at this;simp[hsz0,hd]at this;show T'.getD d' undef=_;simp[Zg9,this]
   have acv:(oj.semAt none (⟨T',a.defers⟩:Act).eval).run P w1= .ok (.round L r.fn ((r.params.zip (cl.args.map (⟨T',a.defers⟩:Act).eval)).foldl (λt (p,v)=>t.setIfInBounds p v) r.tmps) r.assign r.body) w1:=(by show(execOp (⟨T',a.defers⟩:Act).eval oj).run P w1=_;unfold execOp;rw[hopj];simp only[resolve,Kz,hevd,Deferred.ofValue,invoke,Sem.run_bind,Sem.run_pure,Result.andThen];have:=run_yield (P:=P) (args:= #[]++cl.args.map (⟨T',a.defers⟩:Act).eval) Ww (by simpa using dV);simpa using this);rw[acv];refine⟨λhd=>by simp[Fence.wide]at hd,abw.mono ?_⟩;rintro e w2 ⟨s,hs,rfl,jR,Dv,k3,k4,E2⟩;show wpOpsIn (Fc none) 0 P ops Q _ ((⟨T',a.defers⟩:Act).put oj.dst _) w2;rw[hdj];show wpOpsIn (Fc none) 0 P ops Q _ ⟨T'.setIfInBounds dy (.bool true),a.defers⟩ w2;obtain⟨ic,h1,mD⟩:=fq s hs;(split at h1<;>first|(cases h1;done)|skip);rename_i o ho;simp only[H0]at h1;subst h1;obtain⟨e3,Mp,s3⟩:=o;obtain⟨rfl,hz3⟩:=Ns hc ho;obtain⟨y,hyo,hcv⟩:=mD _ (Zc0.2 rfl);have hF2:=eg.put (nt:=nt) (a:=⟨T',[]⟩) (d:=some dy) (S1.F.mono k3 k4) S1.size (λ_ h=>by cases h;exact hdy) (aj.bool (C:=C) true);have hdy0:dy≠0:=Vw j oj hoj dy hdj;rw[<-Zf4 (List.range' _ _)]
   refine EU (ds:=[]) (ts:=λt=>t=0) (x:=T'.setIfInBounds dy (.bool true)) (K:=λa' w'=>ew nt jR C s w2 Mp s3 a' w') (λT2 w3 mq xO=> ?_) _ _ w2 (λi hi o ho t ht=>Vw i o ho t ht) (λ_ _=>rfl)
     (nH (nt:=nt) hT bw _ (j+1) _ Mp s s3 jR _ w2 (λi ao hi=> ?_) hz3 ⟨Dv,hF2,by simpa using S1.size,rfl⟩ λa' w' hp=>hp)
   . obtain⟨xY,S3,k5,k6,E3⟩:=xO;have K1:∀b:Pos,b.toNat<st.next.toNat->xY b=ρ b:=λb hb=>(k5 b (by omega)).trans ((k3 b (by omega)).trans (k1 b hb))
     have K2:st.next.toNat<=s3.next.toNat:=(by omega);have E:=(E1.trans E2).trans E3;show Q .normal _ _;have:=hQ y hyo ⟨T2,a.defers⟩ w3 (ig.Mo DQ.yD hcv ⟨xY,S3,K1,K2,E,DQ.stays _ _ _ _ _ _ _ hJ hS.W S3.W K1 K2 E,λt ht=>by
        subst ht;rw[<-hx 0 rfl,mq 0 rfl,Zd0 hdy0,hk 0 (.inl rfl),Zd0 acu]⟩)
     rw[hcv.e]at this;exact this
   .rw[Zc6]at hi;obtain⟨o,q1,q2,_⟩:=xe hl _ ao hi;exact⟨o,q1,q2⟩
 . rintro(rfl|rfl)
   .exact Vw i o ho _ ht rfl
   . (rw[List.mem_range'_1,sx]at hi;have hm:o∈(ops.toList.drop 1).take (j - 1):=by rw[Zi1];refine⟨i - 1,?_⟩;rw[Zb0,Za7 (by omega),Zc6,show 1+(i - 1)=i by omega,Ze9];exact ho);have:=Zd4.1 Gj o hm;simp only[Xf,ht,Zg3]at this;exact Za9 this rfl
 .rw[Zb0]at hi;(split at hi<;>first|(cases hi;done)|skip);rw[Zc6]at hi;obtain⟨o,q1,q2,_⟩:=xe hl _ ao hi;exact⟨o,q1,q2⟩
end
def rfS (gf ntg:Nat)(Ul:Fr->Fr->St->XS)(og:dh)(fr:Fr)(st:St):XS:=Oa none fr og λ
 |  .func f [] Nt=>match Nat.beq f gf&&Nat.ble (Nt.length+1) ntg with
    |true=>w7 Nt 1 .e λfri=>match Ul fr fri st with
     |  some outs=>Fs (λ|(e,_,s)=>match e with
        |.exit _=>none
        |_=>some [(.normal,fr,s)]) outs []
     |none=>none
    |false=>none
 |_=>none
section
variable{P:Program}{tt:TT}{C:Cells}{aP:gp XR}{call:ah}{nt m:Nat}{ts:Nat->Prop}{x:Array Value}
def ItOk(P:Program)(C:Cells)(nt:Nat)(ps:Array Nat)(assign body:Code)(ntg:Nat)(gc:Code)(Ul:Fr->Fr->St->XS):Prop:=
 ∀  (L D0:Nat)(r:Loop)(qh:Fr)(x:Array Value),r.state= .ready->r.pending=none->r.params=ps->r.assign=assign->r.body=body->r.tmps.size=nt->x[0]? =some (.func (.yield L) #[] #[])->
    cH P C none (DQ C L D0 r qh) (λt=>t=0) x ntg gc (Ul qh)
theorem cH.rf{B gf:Nat}{jH:Func}{gc:Code}(hf:P.funcs[gf]? =some jH)(gj:(jH.name== "runtime.NumGoroutine")=false)(hb:jH.body=some gc)(YM:jH.results= #[]){g:Operand}{ps:Array Nat}{assign body:Code}{og:dh}
   (hg:jd g=some og) {Ul:Fr->Fr->St->XS} (hI:ItOk P C nt ps assign body jH.ntmps gc Ul):cH P C none (H8 B) ts x nt (.rangeFunc g ps assign body) (rfS gf jH.ntmps Ul og):=by
 intro fr st outs ρ a w Q h hS hJ hx hQ;unfold rfS at h;rw[HD]at h;unfold lq at h;split at h<;>first|(cases h;done)|skip
 rename_i v hv;dsimp only at h;split at h<;>first|(cases h;done)|skip
 rename_i f Nt;split at h<;>first|(cases h;done)|skip
 rename_i Gm;simp only[Za2,Nat.beq_eq]at Gm;obtain⟨rfl,hle⟩:=Gm;have hle:=H4 hle;rw[zu]at h;split at h<;>first|(cases h;done)|skip
 rename_i ic ho;obtain⟨_,fq⟩:=uw h;obtain⟨x',y',hval,nr,Ox⟩:=(nD hg hS.F hv).zU;have Xg:x'= #[]:=by have:=nr.kK;exact Array.toList_eq_nil_iff.1 this
 subst Xg;have hval:a.eval g= .func (.func f) #[] y':=by rw[<-hval];exact Dy
 refine wpIn_rangeFunc λfn _=> ?_
 let L:Nat:=w.heap.size+1
 let r:Loop:={ state:= .ready,pending:=none,fn,tmps:=a.tmps,params:=ps,assign,body,defers:=w.heap.size }
 let W1:World:=(w.alloc (.deferred (some []))).alloc (.loop r)
 have hL1:W1.heap[L]? =some (.loop r):=by have:=World.alloc_heap_new (w.alloc (.deferred (some []))) (.loop r);rwa [World.size_alloc]at this
 have hold:∀k,k<w.heap.size->W1.heap[k]? =w.heap[k]? :=λk hk=>(heap_alloc_old _ _ (by simp;omega)).trans (heap_alloc_old w _ hk)
 have hK1:W1.heap[w.heap.size]? =some (.deferred (some [])):=(heap_alloc_old _ _ (by simp)).trans (World.alloc_heap_new w _);have hWs:W1.heap.size=w.heap.size+1+1:=by show((w.alloc _).alloc _).heap.size=_;simp
 have Af:¬jH.name= "runtime.NumGoroutine" :=by simpa using gj
 refine⟨L,[mark w.heap.size],W1,{ target:= .fn (.func f) y',args:= #[.func (.yield L) #[] #[]] },W1,f, #[.func (.yield L) #[] #[]]++y',W1,run_enterLoop_outer _ _ _ _ _,?_,λ_ _=>trivial,?_,λhd=>by simp[Fence.wide]at hd,?_⟩
 .simp only[resolve,rangeCall,hval,Deferred.ofValue,Sem.run_pure];simp[Act.eval]
 .simp[invoke,callFunc,hf,Af,hb]
 refine callsIn_of_wp hf hb trivial ?_;have QO:aM ρ C st W1:=hS.W.grow (by omega) hold;have hlen:(#[Value.func (.yield L) #[] #[]]++y').size=Nt.length+1:=by have:=Ox.1;simp at this ⊢; omega
 obtain⟨X,hX⟩:∃X,X=(#[Value.func (.yield L) #[] #[]]++y')++Array.replicate (jH.ntmps - (#[Value.func (.yield L) #[] #[]]++y').size) undef:=⟨_,rfl⟩
 rw[<-hX];have Xe:X[0]? =some (.func (.yield L) #[] #[]):=by rw[hX,Zf9 (by simp;omega),Zf9 (by simp)];rfl
 have hXs:X.size=jH.ntmps:=by rw[hX,Array.size_append,Array.size_replicate,hlen];omega
 have hfar:∀k,w.heap.size<=k->∀b z,st.heap.get b=some z->(ρ b).aq≠k:=λk hk b z hb e=>by have:=(hS.W.live b z hb).2.1;omega
 have hJ0:DQ C L w.heap.size r fr ρ st W1 []:=⟨rfl,hL1,hK1,hfar L (by show w.heap.size<=w.heap.size+1;omega),hfar _ (H5 _),hS.F⟩
 have hF0:eg ρ st.next.toNat C (params 1 Nt .e) X:=vp Nt y'.toList 1 .e Ox (λk z hz=>by
   rw[hX,Zf9,Array.getElem?_append_right]<;>simp at hz ⊢
   .exact hz
   .have:=(Zb6.1 hz).1;omega) (λp v hp=>by rw[T.cR]at hp;cases hp)
 refine hI L w.heap.size r fr X rfl rfl rfl rfl rfl hS.size Xe _ st ic ρ ⟨X,[]⟩ W1 _ ho ⟨QO,hF0,hXs,rfl⟩ hJ0 (λt _=>rfl) λo RF a3 w3 hp=> ?_
 obtain⟨xY,S3,k1,k2,E3,hJ3,_⟩:=hp;obtain⟨h3D,h3l,h3d,h3f,h3g,h3F⟩:=hJ3;obtain⟨Vr,h2,mD⟩:=fq o RF;obtain⟨e,Mp,H6⟩:=o;dsimp only at h2 S3 k1 k2 E3 h3f h3g h3F;have aag:(results jH a3.tmps).run P w3= .ok (.tuple #[]) w3:=by
   simp[results,YM]
 have hend:=run_endLoop (P:=P) h3l (by show LoopState.ready≠LoopState.busy;simp);have fin:Vr=[(.normal,fr,H6)]->rangePost (Fc none) 0 P L Q { a with defers:=[mark w.heap.size]++a.defers } (.returned (.tuple #[])) w3:=λhe=>by
   (subst he;obtain⟨y,hy,hcv⟩:=mD _ (Zc0.2 rfl);refine⟨_,_,hend,?_⟩;show Q .normal _ _;have hLne:∀k,k≠L->(w3.putObj L (.loop { r with state:= .exhausted })).heap[k]? =w3.heap[k]? :=λk hk=>World.putObj_heap_other hk);have E:iy ρ st w xY H6 (w3.putObj L (.loop { r with state:= .exhausted })):=by
     refine⟨E3.os,E3.tape,E3.output,?_,λk hk hn=> ?_,λb z hb=> ?_⟩
     .  rw[World.putObj_size];have:=E3.size;omega
     .  rw[hLne k (by show k≠w.heap.size+1;omega),E3.block k (by omega) hn,hold k hk]
     .  rcases E3.kZ b z hb with h|h
        .exact .inl h
        .exact .inr (by omega)
   have hW3:=S3.W.KQ (o:= .loop { r with state:= .exhausted }) h3l h3f;have:=hQ y hy { a with defers:=[mark w.heap.size]++a.defers } _ (ig.Mo H8.yD hcv ⟨xY,⟨hW3,h3F,hS.size,rfl⟩,k1,k2,E,?_,hx⟩)
   .rw[hcv.e]at this;exact this
   . obtain⟨hB,rs,h1,h2,h3⟩:=hJ;refine⟨Zc1 hB E.size,w.heap.size::rs,by show [mark w.heap.size]++a.defers=_;rw[h1];rfl,Zo2.2 ⟨λhm=> ?_,h2⟩,λk hk=> ?_⟩
     .  have:=B0 (h3 _ hm).2.1;omega
     .  rcases Za0.1 hk with rfl|hk
        .exact⟨hB,(hLne _ (by show w.heap.size≠w.heap.size+1;omega)).trans h3d,h3g⟩
        .obtain⟨g0,g1,g2⟩:=h3 k hk;obtain⟨f1,f2⟩:=zN E (B0 g1) g2;exact⟨g0,f2.trans g1,f1⟩
 cases e with
 |exit i=>cases h2
 |normal=>exact⟨h3D,_,aag,fin (Zg4 h2).symm⟩
 |ret=>exact⟨h3D,_,aag,fin (Zg4 h2).symm⟩
end
def tq:AV->Bool
 |.bool _=>true
 |.int _ _=>true
 |_=>false
def Qc(acc:Option AV)(v:AV):Bool:=match acc with
 |none=>true
 |some u=>fj u v
def Jn (rs:List xL)(st:St):List XO->Option AV->Option AV
 |[],acc=>acc
 |  (e, bF,aJ)::l,acc=>match e with
    |.exit _=>none
    | _ =>match bY (λb=>jS b aJ.heap) bF rs with
      | some vs=>match vs.all tq&&T.sub BU st.heap aJ.heap&&Qc acc (fk vs)with
        |true=>Jn rs st l (some (fk vs))
        |false=>none
      |none=>none
def Xh (ex:Fr->St->XS)(np:Nat)(rs:List xL)(args:List AV)(st:St):Option (AV×St):=match Nat.beq args.length np with
 |  true=>w7 args 0 .e λfr=>match ex fr st with
    |some outs=>match outs with
     |  [(e,bF,aJ)]=>match e with
        |.exit _=>none
        | _=>match bY (λb=>jS b aJ.heap) bF rs,Nat.ble st.next.toNat aJ.next.toNat with
          |some vs,true=>some (fk vs,aJ)
          |_,_=>none
     |  _=>match Jn rs st outs none with
        |some v=>some (v,st)
        |none=>none
    |none=>none
 |false=>none
theorem aj.flat{ρ ρ':Pos->Loc}{n n':Nat}{C:Cells}{v:AV}{x:Value}(hf:tq v=true)(h:aj ρ n C v x):aj ρ' n' C v x:=by
 cases v<;>first|(cases hf;done)|skip
 .have:=h.fo;subst this;exact .bool _
 .have:=h.fS;subst this;exact .int _ _
theorem aj.acw{ρ ρ':Pos->Loc}{n n':Nat}{C:Cells}{vs:List AV}{x:Value}(hf:vs.all tq=true)(h:aj ρ n C (fk vs) x):aj ρ' n' C (fk vs) x:=by
 have tup:∀{x},aj ρ n C (.tuple vs) x->aj ρ' n' C (.tuple vs) x:=λ{x} h=>by
   cases h with
   |tuple l cs hl hh=>exact .tuple _ cs hl λi v v' hv zZ=>(hh i v v' hv zZ).flat (Zd4.1 hf v (Zb8 hv))
 unfold fk at h ⊢;split at h
 .exact h.flat (Zd4.1 hf _ (by simp))
 .exact tup h
theorem Mt{rs:List xL}{st:St}{v:AV}:∀{l:List XO}{acc:Option AV},Jn rs st l acc=some v->(∀u,acc=some u->u=v)/\∀o∈l,(∀i,o.1≠ .exit i)/\∃vs,bY (λb=>jS b o.2.2.heap) o.2.1 rs=some vs/\v=fk vs/\vs.all tq=true/\∀p u,st.heap.get p=some u->o.2.2.heap.get p=some u
 |[],acc,h=>by
  simp only[Jn]at h;subst h;exact⟨λu h=>(Zg4 h).symm,λo ho=>by cases ho⟩
 |(e,   bF,aJ)::l,acc,h=>by
  unfold Jn at h
  have key:∀vs,(bY (λb=>jS b aJ.heap) bF rs=some vs)->(vs.all tq&&T.sub BU st.heap aJ.heap&&Qc acc (fk vs))=true->Jn rs st l (some (fk vs))=some v->(∀i,e≠ .exit i)->
        (∀u,acc=some u->u=v)/\∀o∈(e,bF,aJ)::l,(∀i,o.1≠ .exit i)/\∃vs,bY (λb=>jS b o.2.2.heap) o.2.1 rs=some vs/\v=fk vs/\vs.all tq=true/\∀p u,st.heap.get p=some u->o.2.2.heap.get p=some u:=by
    intro vs fV hb hr he;simp only[Za2]at hb;obtain⟨h1,h2⟩:=Mt hr;have hv:=h1 _ rfl;refine⟨λu hu=> ?_,λo ho=> ?_⟩
    .   subst hu;rw[<-hv];exact nJ hb.2
    .   rcases Za0.1 ho with rfl|ho
        .exact⟨he,vs,fV,hv.symm,hb.1.1,T.xw (λ_ _=>KE) hb.1.2⟩
        .exact h2 o ho
  cases e with
  |exit i=>cases h
  | normal=>
    dsimp only at h;(split at h<;>first|(cases h;done)|skip);rename_i vs fV;cases hb:(vs.all tq&&T.sub BU st.heap aJ.heap&&Qc acc (fk vs))with
    |false=>rw[hb]at h;cases h
    |true=>rw[hb]at h;exact key vs fV hb h (λi=>by simp)
  | ret=>
    dsimp only at h;(split at h<;>first|(cases h;done)|skip);rename_i vs fV;cases hb:(vs.all tq&&T.sub BU st.heap aJ.heap&&Qc acc (fk vs))with
    |false=>rw[hb]at h;cases h
    |true=>rw[hb]at h;exact key vs fV hb h (λi=>by simp)
theorem RH{ex:Fr->St->XS}{np:Nat}{rs:List xL}{args:List AV}{st st':St}{v:AV}(h:Xh ex np rs args st=some (v,st')):args.length=np/\st.next.toNat<=st'.next.toNat/\∃outs,ex (params 0 args .e) st=some outs/\
   ∀o∈outs,(∀i,o.1≠ .exit i)/\∃vs,bY (λb=>jS b o.2.2.heap) o.2.1 rs=some vs/\v=fk vs/\(st'=o.2.2\/(st'=st/\vs.all tq=true/\∀p u,st.heap.get p=some u->o.2.2.heap.get p=some u)):=by
 unfold Xh at h;split at h<;>first|(cases h;done)|skip
 rename_i hlen;rw[zu]at h;split at h<;>first|(cases h;done)|skip
 rename_i outs ho;refine⟨H2 hlen,?_⟩;split at h
 . rename_i e bF aJ
   have key:∀vs,bY (λb=>jS b aJ.heap) bF rs=some vs->Nat.ble st.next.toNat aJ.next.toNat=true->some (fk vs,aJ)=some (v,st')->(∀i,e≠ .exit i)->
        st.next.toNat<=st'.next.toNat/\∃outs,ex (params 0 args .e) st=some outs/\∀o∈outs,(∀i,o.1≠ .exit i)/\∃vs,bY (λb=>jS b o.2.2.heap) o.2.1 rs=some vs/\v=fk vs/\(st'=o.2.2\/(st'=st/\vs.all tq=true/\∀p u,st.heap.get p=some u->o.2.2.heap.get p=some u)):=by
    intro vs fV hn he cW;simp only[H0,Za8]at he;obtain⟨rfl,rfl⟩:=he;refine⟨H4 hn,_,ho,λo RF=> ?_⟩;have:=Zc0.1 RF;subst this;exact⟨cW,vs,fV,rfl,.inl rfl⟩
   cases e with
   |exit i=>cases h
   |normal=>
    dsimp only at h;(split at h<;>first|(cases h;done)|skip);rename_i vs fV hn;exact key vs fV hn h (λi=>by simp)
   |ret=>
    dsimp only at h;(split at h<;>first|(cases h;done)|skip);rename_i vs fV hn;exact key vs fV hn h (λi=>by simp)
 . (split at h<;>first|(cases h;done)|skip);rename_i u hu;simp only[H0,Za8]at h;obtain⟨rfl,rfl⟩:=h;refine⟨H5 _,_,ho,λo RF=> ?_⟩;obtain⟨h1,vs,h2,h3,h4,h5⟩:=(Mt hu).2 o RF;exact⟨h1,vs,h2,h3,.inr ⟨rfl,h4,h5⟩⟩
section
variable{P:Program}{tt:TT}{C:Cells}
theorem Ia{fn:Func}{tmps:Array Value}{R:Ending->World->Prop}{ρ:Pos->Loc}{st:St}:∀(rs:List Nat)(w:World),rs.Nodup->(∀r∈rs,w.heap[r]? =some (.deferred (some []))/\∀b x,st.heap.get b=some x->(ρ b).aq≠r)->aM ρ C st w->
  (∀w2,aM ρ C st w2->w2.heap.size=w.heap.size->(∀k,k∉rs->w2.heap[k]? =w.heap[k]?)->w2.os=w.os->w2.tape=w.tape->w2.output=w.output->∃v,(results fn tmps).run P w2= .ok v w2/\R (.returned v) w2)->
  LeavesInM (Fc none) 0 P fn tmps R (rs.map mark) .returning w
 |[],w,_,_,hW,h=>h w hW rfl (λ_ _=>rfl) rfl rfl rfl
 |r ::rs,w,Gj,hr,hW,h=>by
  obtain⟨h1,h2⟩:=Zo2.1 Gj;obtain⟨g1,g2⟩:=hr r (Zb9 ..);refine⟨by simp,.inl ⟨r,_,rfl,run_takeDeferred g1,?_⟩⟩;refine Ia rs _ h2 (λk hk=> ?_) (hW.YY g1 g2) λw2 Dv hs hk ho ht Nf=> ?_
  .obtain⟨f1,f2⟩:=hr k (Za1 _ hk);exact⟨by rw[World.putObj_heap_other (λe=>h1 (by subst e;exact hk))];exact f1,f2⟩
  .refine h w2 Dv (by rw[hs,World.putObj_size]) (λk je=> ?_) ho ht Nf;rw[hk k (λhm=>je (Za1 _ hm)),World.putObj_heap_other (λe=>je (by subst e;exact Zb9 ..))]
theorem abx(hT:bE P tt){f np:Nat}{fn:Func}{c:Code}{ex:Fr->St->XS}{rs:List xL}(hf:P.funcs[f]? =some fn)(gj:(fn.name== "runtime.NumGoroutine")=false)(hb:fn.body=some c)
  (hx:∀B,cH P C none (H8 B) (λ_=>False) #[] fn.ntmps c ex) (hr:jP tt fn.results.toList=some rs) (hle:np<=fn.ntmps):kf P C f (Xh ex np rs) where
 mono args st v st' h:=(RH h).2.1
 runs ρ st w args v st' br h hW nB:=by
  obtain⟨hlen,hn,outs,ho,fq⟩:=RH h;have bL:(callFunc f br.toArray).run P w= .ok (.enter f br.toArray) w:=by
   have Af:¬fn.name= "runtime.NumGoroutine" :=(by simpa using gj);simp[callFunc,hf,Af,hb]
  rw[bL];simp only[Reaches];refine callsIn_wide (n:=0) |>.1 (callsIn_of_wp_marks hf hb trivial ?_);have dV:br.length<=fn.ntmps:=by rw[<-nB.1,hlen];exact hle
  have hS:kg fn.ntmps ρ C (params 0 args .e) st { tmps:=br.toArray++Array.replicate (fn.ntmps - br.toArray.size) undef,defers:=[] } w:=by
   refine⟨hW,?_,?_,rfl⟩
   .    refine vp args br 0 .e nB (λj x hx=> ?_) (λp v hp=>by rw[T.cR]at hp;cases hp);have hj:j<br.length:=(H3.1 hx).1;rw[Zc8,Zf9 (by simpa using hj)];simpa using hx
   .    simp;omega
  show c.wpIn (Fc none) 0 P _ _ w;refine hx w.heap.size _ st outs ρ _ w _ ho hS ⟨H5 _,[],rfl,List.nodup_nil,λ_ h=>by cases h⟩ (λ_ h=>h.elim) λo RF a' w' hp=> ?_
  obtain⟨cV,S1,k1,k2,E,⟨hB,ks,hD,Gj,yV⟩,_⟩:=hp;obtain⟨cW,vs,fV,hv,nu⟩:=fq o RF;simp only[q7]at fV;have key:LeavesInM (Fc none) 0 P fn a'.tmps (λ|.returned v',Z4=>jW ρ C st w v st' v' Z4|_,_=>False) a'.defers .returning w':=by
   (rw[hD];(refine Ia ks w' Gj (λr hr=>(yV r hr).2) S1.W λw2 Dv hs yU z8 ht Nf=> ?_);obtain⟨y,yT,zX⟩:=oE hT Dv S1.F hr fV;refine⟨y,yT,?_⟩;have rU:∀k,k<w.heap.size->w2.heap[k]? =w'.heap[k]? :=λk aW=>yU k λhm=>by have:=(yV k hm).1;omega);rcases nu with rfl|⟨rfl,QF,U5⟩
   .    rw[hv];exact⟨cV,zX,k1,k2,Dv,⟨z8.trans E.os,ht.trans E.tape,Nf.trans E.output,by rw[hs];exact E.size,λk hk hn=>(rU k hk).trans (E.block k hk hn),E.kZ⟩⟩
   .    rw[hv];refine⟨ρ,zX.acw QF,λ_ _=>rfl,H5 _,hW.back U5 k1 Dv (by rw[hs];exact E.size),⟨z8.trans E.os,ht.trans E.tape,Nf.trans E.output,by rw[hs];exact E.size,λk hk hn=>(rU k hk).trans (E.block k hk hn),λb x hb=>.inl ⟨b,x,hb,rfl⟩⟩⟩
  obtain⟨e,bF,aJ⟩:=o;cases e with
  |exit i=>exact(cW i rfl).elim
  |normal=>exact key
  |ret=>exact key
def aah(P:Program)(tt:TT)(aP:gp XR)(m:Nat)(nt:Nat)(OW:List AV->St->Option (List St))(c:Code):Option (Fr->St->XS):=match YZ tt nt c with
 |some y=>some (Y0 aP OW y)
 |  none=>match KR c with
    |true=>none
    |false=>xK P tt aP m [] nt c
def Qd(P:Program)(tt:TT)(aP:gp XR)(m:Nat)(kp:List Nat)(nt gf:Nat)(jH:Func):Code->Option (Fr->St->XS)
 |  .rangeFunc g ps a b=>match jd g,jH.body with
    |some og,some gc=>match (nG gc).all (λt=> !Nat.beq t 0)&&ps.toList.all (λp=>Nat.blt p nt)&&jH.results.isEmpty with
     |true=>some (rfS gf jH.ntmps (λqh=>ux (aah P tt aP m jH.ntmps (Vt ps.toList (H7 (ux (xK P tt aP m kp nt) m a) (ux (xK P tt aP m kp nt) m b)) qh)) m gc) og)
     |false=>none
    |_,_=>none
 |c=>xK P tt aP m kp nt c
def UK(P:Program)(tt:TT)(O:dw)(G:T b9)(m d:Nat)(kp:List Nat)(gf:Nat)(jH fn:Func):List AV->St->Option (AV×St):=
 match fn.body,jP tt fn.results.toList,Nat.ble (fn.params.size+fn.nfree) fn.ntmps with
 |some c,some rs,true=>Xh (ux (Qd P tt (Bz none O G m d) m kp fn.ntmps gf jH) m c) (fn.params.size+fn.nfree) rs
 |_,_,_=>λ_ _=>none
theorem Y4{aP:gp XR}{call:ah}{m nt gf B:Nat}{kp:List Nat}{jH:Func}(hT:bE P tt)(hc:CK none aP call)(bw:dS P C call)(eG:oD P tt C call)(hf:P.funcs[gf]? =some jH)(gj:(jH.name== "runtime.NumGoroutine")=false)
   {c:Code} {f:Fr->St->XS} (h:Qd P tt aP m kp nt gf jH c=some f):cH P C none (H8 B) (λ_=>False) #[] nt c f:=by
 have hR:∀{c f},xK P tt aP m kp nt c=some f->cH P C none (H8 B) (λ_=>False) #[] nt c f:=λh=>KP hT hc bw eG H8.stays (λ_ _ h=>h) h
 unfold Qd at h;split at h
 . rename_i g ps a b;(split at h<;>first|(cases h;done)|skip);rename_i og gc hg hgb;(split at h<;>first|(cases h;done)|skip);rename_i Gm;simp only[H0]at h;subst h;simp only[Za2]at Gm;obtain⟨⟨c1,c2⟩,c3⟩:=Gm;have hd0:∀t∈nG gc,¬(λt=>t=0) t:=λt ht e=>by have:=Zd4.1 c1 t ht;subst e;simp at this
   (refine cH.rf hf gj hgb (by simpa using c3) hg λL D0 r qh x hr hp TF ha hb hs Xg=> ?_);have rd:∀c,cH P C (some L) J2 (λ_=>False) #[] nt c (ux (xK P tt aP m kp nt) m c):=λc=>cH.sp J2.yD c (λ_ _ h=>h) λc f _ h=>KP hT hc bw eG J2.stays (λ_ _ h=>h) h
   have Y3:Vu P C L D0 r qh (Vt ps.toList (H7 (ux (xK P tt aP m kp nt) m a) (ux (xK P tt aP m kp nt) m b)) qh):=abu (by rw[TF]) hr hp hs (λp hp'=>by
     have:=Zd4.1 c2 p hp';simpa using this) (by rw[ha];exact rd a) (by rw[hb];exact rd b)
   (refine cH.sp DQ.yD gc hd0 λc f cK h=> ?_);unfold aah at h;split at h
   .rename_i y hy;simp only[H0]at h;subst h;exact cH.yld hT hc bw Xg Y3 hy cK
   . (split at h<;>first|(cases h;done)|skip);exact KP hT hc bw eG DQ.stays cK h
 .exact hR h
theorem X4(hm:P.follows .mixedOrders=true)(hT:bE P tt){O:dw}{G:T b9}(hO:nA P C O)(HC:iX O)(hG:Lf P tt G){f gf m d:Nat}{kp:List Nat}{fn jH:Func}(hf:P.funcs[f]? =some fn)
   (gj:(fn.name== "runtime.NumGoroutine")=false) (hgf:P.funcs[gf]? =some jH) (Qi:(jH.name== "runtime.NumGoroutine")=false):kf P C f (UK P tt O G m d kp gf jH fn):=by
 have bw:=Ew (C:=C) hm hT hO HC hG m d;have hcm:=EW (G:=G) HC m d
 have key:∀c rs,fn.body=some c->jP tt fn.results.toList=some rs->Nat.ble (fn.params.size+fn.nfree) fn.ntmps=true->
    kf P C f (Xh (ux (Qd P tt (Bz none O G m d) m kp fn.ntmps gf jH) m c) (fn.params.size+fn.nfree) rs):=λc rs hb hr hle=>
   abx hT hf gj hb (λB=>cH.sp H8.yD c (λ_ _ h=>h) λc f _ h=>Y4 hT (Fe none O G m d) bw (E7 hm hT bw hcm) hgf Qi h) hr (H4 hle)
 unfold UK;split
 .exact key _ _ (by assumption) (by assumption) (by assumption)
 .exact⟨λ_ _ _ _ h=>(by cases h),λ_ _ _ _ _ _ _ h=>(by cases h)⟩
end
end
section
open Go
def Lg:List AV->St->Option (AV×St)
 |[v],st=>some (v,st)
 |_,_=>none
theorem VS{P:Program}{C:Cells}{f:FuncId}{fn:Func}(hf:P.funcs[f]? =some fn)(gj:(fn.name== "runtime.NumGoroutine")=false)(hb:fn.body.isNone=true)(hx:Extern.findNext fn=none)
  (he:Extern.find fn=some Extern.AbiNoEscape.same):kf P C f Lg where
 mono args st v st' h:=by unfold Lg at h;split at h<;>cases h;exact H5 _
 runs ρ st w args v st' br h hW hv:=by
  unfold Lg at h;split at h<;>cases h;obtain⟨x,xs,rfl,h1,h2⟩:=hv.cons_inv;have:=h2.kK;subst this;have bL:(callFunc f [x].toArray).run P w= .ok (.value x) w:=by rw[run_callFunc_extern hf gj hb hx he];show((Extern.AbiNoEscape.same #[x]).run P w).andThen _=_;have:Extern.AbiNoEscape.same #[x]=pure x:=rfl;rw[this];rfl
  rw[bL];exact⟨ρ,h1,λ_ _=>rfl,H5 _,hW,iy.refl _ _ _⟩
theorem Ql{P:Program}{tt:TT}{O:dw}{G:T b9}{m d f:Nat}{fn:Func}{c:Code}(hm:P.follows .mixedOrders=true)(hT:bE P tt)(hG:Lf P tt G)
  (hO:nA P (λ_=>none) O) (HC:iX O) (hf:P.funcs[f]? =some fn) (gj:¬fn.name= "runtime.NumGoroutine") (hb:fn.body=some c) {b:Bool}
  (h:Bz (R:=Bool) false O G m d f [] { heap:= .e,next:= .h } (λv _=>fj v (.bool b))=true) (w:World):
  Calls P f #[] w λe w'=>e= .returned (.bool b)/\Go.RowKit.Below w.heap.size w w':=by
 rw[Fe false O G m d]at h;unfold lq at h;split at h<;>first|(cases h;done)|skip
 rename_i x hx;obtain⟨v,aJ⟩:=x;have hv:=nJ h;simp only at hv;subst hv;have hr:=Ew hm hT hO HC hG m d (λ_=>⟨0,0,0⟩) { heap:= .e,next:= .h } w f [] (.bool b) aJ [] hx (xR (λ_ _ h=>by cases h) (λ_ _ h=>by cases h)) ak.nil;have bL:(callFunc f ([]:List Value).toArray).run P w= .ok (.enter f #[]) w:=by simp[callFunc,hf,gj,hb]
 rw[bL]at hr;refine Calls.mono hr λe w' he=> ?_
 cases e with
 |returned x=>
  obtain⟨ρ',h1,_,_,_,hE⟩:=he;have:=h1.fo;subst this;exact⟨rfl,hE.os,hE.tape,hE.output,hE.size,λk hk=>hE.block k hk λb x hb=>by rw[T.cR]at hb;cases hb⟩
 |panicked c=>exact he.elim
 |outgrown=>exact he.elim
def Df:Nat->AV->Bool
 |_,.bool _=>true
 |_,.int _ _=>true
 |_,.str _=>true
 |_,.ax=>true
 |n+1,.agg l=>l.all (Df n)
 |n+1,.tuple l=>l.all (Df n)
 |n+1,.fl xs _=>xs.all λr=>r.all (Df n)
 |_,_=>false
theorem B4:∀(n:Nat){v:AV},Df n v=true->Plain v
 |0,v,h=>by cases v<;>first|(cases h;done)|exact .bool _|exact .int _ _|exact .str _|exact .ax
 |n+1,v,h=>by
  cases v<;>first|(cases h;done)|exact .bool _|exact .int _ _|exact .str _|exact .ax|skip
  .exact .fl λcs hc v hv=>B4 n (Zd4.1 (Zd4.1 h cs hc) v hv)
  .exact .agg λv hv=>B4 n (Zd4.1 h v hv)
  .exact .tuple λv hv=>B4 n (Zd4.1 h v hv)
theorem Plain.all{n:Nat}{l:List AV}(h:l.all (Df n)=true):∀v∈l,Plain v:=λv hv=>B4 n (Zd4.1 h v hv)
theorem VW{l:List AV}(h:l.all tq=true):bO (.tuple l):= .tuple λv hv=>by have:=Zd4.1 h v hv;cases v<;>first|(cases this;done)|exact .bool _|exact .int _ _
def Km(d:Nat)(A:List AV)(r:AV):List AV->St->Option (AV×St):=λargs st=>match xS (args.map (cu st d)) A with
 |true=>some (r,st)
 |false=>none
theorem VV{P:Program}{C:Cells}{O:dw}{G:T b9}{m n f d:Nat}{A:List AV}{r:AV}(bw:∀C:Cells,dS P C (nC O G m n))(ha:∀a∈A,Plain a)(hr:Plain r)(hb:bO r)
  (h:Bz (R:=Bool) false O G m n f A { heap:= .e,next:= .h } (λv _=>fj v r)=true):kf P C f (Km d A r):=by
 have h1:=W9 (C:=C) (d:=d) (As:=[A]) bw (λB hB=>by rw[Zc0.1 hB];exact ha) hr hb (by simpa using h);have key:∀args st x,Km d A r args st=some x->Nl d [A] r args st=some x:=λargs st x hx=>by
  unfold Km at hx;split at hx<;>first|(cases hx;done)|skip
  rename_i hq;simp only[H0]at hx;subst hx;exact aaJ A (Zc0.2 rfl) (BT hq)
 exact⟨λargs st v st' hs=>h1.mono args st v st' (key _ _ _ hs),λρ st w args v st' br hs=>h1.runs ρ st w args v st' br (key _ _ _ hs)⟩
end
end Go.Ai
