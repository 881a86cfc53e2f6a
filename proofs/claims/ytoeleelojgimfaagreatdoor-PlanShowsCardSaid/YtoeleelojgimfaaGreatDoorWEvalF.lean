/- Loops over maps in all orders, loops over functions. -/
import Derived.Test.YtoeleelojgimfaaGreatDoorWEvalE
import Derived.Maps.RangeRun
import Derived.Laws.EntriesVeiled
import Derived.RangeFuncRecord
set_option linter.all false
namespace Go.Ai
noncomputable section
open Go Go.RowKit
section
variable{ρ ρ':Pos->Loc}{C:Cells}{st aJ:St}{w w1 w':World}{nt r:Nat}{fr bJ:Fr}{a a1:Act}
theorem aV.back(hW:aV ρ C st w)(hk:bF st aJ)(aR:∀b:Pos,b.toNat<st.next.toNat->ρ' b=ρ b)(dY:aV ρ' C aJ w1)(hs:w.heap.size<=w1.heap.size):aV ρ C st w1:=by
 refine⟨λb y hb=> ?_,hW.inj,λa u ha=>⟨(dY.cZ a u ha).1,(hW.cZ a u ha).2⟩,dY.whole⟩;obtain⟨g1,g2,g3⟩:=hW.live b y hb;obtain⟨_,_,k3⟩:=dY.live b y (hk b y hb);refine⟨g1,Zc5 g2 hs,?_⟩;rw[aR b g1]at k3;cases y with
 |cells cs fz=>
  obtain⟨c,e,fr,q1,q2,q3,q4,q5⟩:=k3;obtain⟨c0,e0,bK,p1,p2,p3,p4,p5⟩:=g3;refine⟨c,e,fr,q1,q2,q3,⟨q4.1,λi v x hv hx=> ?_⟩,q5⟩;obtain⟨y0,hy0,CW⟩:=p4.get hv;exact(q4.2 i v x hv hx).down CW aR
 |map es clock=>
  obtain⟨es',q1,q2,q3⟩:=k3;obtain⟨Xu,p1,p2,p3⟩:=g3;refine⟨es',q1,q2,λi e e' he jP=> ?_⟩;obtain⟨a1,a2,a3⟩:=q3 i e e' he jP;have hi:i<Xu.size:=by rw[<-p2];exact(Za1.1 he).1
  obtain⟨b1,b2,_⟩:=p3 i e _ he (Ze6 hi);exact⟨a1.down b1 aR,a2.down b2 aR,a3⟩
 |iJ s pos=>exact k3
 |typed t cs=>
  obtain⟨c,fr,q1,q2,q3,q4,q5⟩:=k3;obtain⟨c0,bK,p1,p2,p3,p4,p5⟩:=g3;refine⟨c,fr,q1,q2,q3,⟨q4.1,λi v x hv hx=> ?_⟩,q5⟩;obtain⟨y0,hy0,CW⟩:=p4.get hv;exact(q4.2 i v x hv hx).down CW aR
theorem eJ.sub{n:Nat}{tmps:Array Value}(h:eJ ρ n C bJ tmps)(hf:∀p v,fr.get p=some v->bJ.get p=some v):eJ ρ n C fr tmps:=λp v hp=>h p v (hf p v hp)
theorem lS.back(hS:lS nt ρ C fr st a w)(hf:∀p v,fr.get p=some v->bJ.get p=some v)(hk:bF st aJ)(h:eP nt ρ C st w bJ aJ a1 w1):
  lS nt ρ C fr st a1 w1/\je ρ st w ρ st w1:=by
 obtain⟨dB,S1,k1,k2,E⟩:=h;refine⟨⟨hS.W.back hk k1 S1.W E.size,λp v hp=> ?_,S1.size,S1.defers⟩,⟨E.os,E.tape,E.output,E.size,E.block,λb x hb=>.inl ⟨b,x,hb,rfl⟩⟩⟩;obtain⟨x,hx,hv⟩:=S1.F p v (hf p v hp);obtain⟨y,_,hy⟩:=hS.F p v hp;exact⟨x,hx,hv.down hy k1⟩
theorem aV.iter{m:Option Nat}{s c:Nat}{seen:Array Nat}(hW:aV ρ C st w)(hr:w.heap[r]? =some (.mapIter m s seen c))(hn:∀b x,st.heap.get b=some x->(ρ b).aq≠r)
   (hs:w'.heap.size=w.heap.size) (hk:∀k,k≠r->w'.heap[k]? =w.heap[k]?):aV ρ C st w':=by
 have cG:∀a v,C a=some v->a.block≠r:=λa v ha e=>by have h:=(hW.cZ a v ha).1;unfold World.cell? at h;rw[e,hr]at h;cases h
 refine⟨λb x hb=> ?_,hW.inj,λa v ha=> ?_,λa v ha o ho=> ?_⟩
 .obtain⟨h1,h2,h3⟩:=hW.live b x hb;exact⟨h1,by rw[hs];exact h2,h3.of_heap (hk _ (hn b x hb))⟩
 .obtain⟨h1,h2⟩:=hW.cZ a v ha;exact⟨by rw[World.cell?_of_block (w:=w) (hk _ (cG a v ha))];exact h1,h2⟩
 .rw[World.cell?_of_block (w:=w) (a:=⟨a.block,o,none⟩) (hk _ (cG a v ha))];exact hW.whole a v ha o ho
end
def T.sub{α:Type}(f:α->α->Bool):T α->T α->Bool
 |.e,_=>true
 |.n l v r,.e=>(match v with|none=>true|some _=>false)&&T.sub f l .e&&T.sub f r .e
 |  .n l v r,.n l' v' r'=>(match v with
    |none=>true
    |some a=>match v' with
     |some b=>f a b
     |none=>false)&&T.sub f l l'&&T.sub f r r'
theorem T.wK{α:Type}{f:α->α->Bool}(hf:∀a b,f a b=true->a=b):∀{t u:T α},T.sub f t u=true->∀p v,t.get p=some v->u.get p=some v
 |.e,_,_,p,v,h=>by rw[T.cY]at h;cases h
 | .n l x r,.e,hs,p,v,h=>by
   simp only[T.sub,Za7]at hs;cases p with
   |h=>simp only[T.get]at h;subst h;simp at hs
   |o p=>have:=T.wK hf hs.1.2 p v h;rw[T.cY]at this;cases this
   |i p=>have:=T.wK hf hs.2 p v h;rw[T.cY]at this;cases this
 | .n l x r,.n l' x' r',hs,p,v,h=>by
   simp only[T.sub,Za7]at hs;cases p with
   |h=>
    simp only[T.get]at h ⊢; subst h;have h1:=hs.1.1;cases x' with
    |none=>simp at h1
    |some y=>simp at h1;rw[hf _ _ h1]
   |o p=>exact T.wK hf hs.1.2 p v h
   |i p=>exact T.wK hf hs.2 p v h
structure RG where
 t17:Nat
 t18:Nat
 t19:Nat
 t20:Nat
 l2:List bk
 x:dK
 l4:List bk
 body:AC
 ds:List Pos
abbrev XR:=Option (iL×Fr×St)
section
variable(bf:gR XR)(m:Nat)(g:RG)
def XQ(c:AC)(fr:Fr)(st:St):XR:=K8 none bf m c fr st (λfr st=>some (.normal,fr,st)) (λi fr st=>some (.exit i,fr,st)) (λfr st=>some (.ret,fr,st))
def aal(k v:AV)(fr:Fr)(st:St):XR:=
 mO (some (.tuple [.bool true,k,v])) (key g.t18) fr λfr=>mO (some (.bool true)) (key g.t19) fr λfr=>mO (some (.tuple [k,v])) (key g.t20) fr λfr=>
    MN none bf g.l4 fr st λfr st=>XQ bf m g.body fr st
def Nf(clock:Nat):List (AV×AV×Nat)->Bool
 |[]=>true
 |e::es=>Nat.blt e.2.2 clock&&es.all (λx=> !Nat.beq x.2.2 e.2.2)&&Nf clock es
end
section
variable{P:Program}{tt:TT}{C:Cells}
def G7(P:Program)(C:Cells)(nt:Nat)(c:Code)(ex:Fr->St->XR):Prop:=
 ∀  (fr aY:Fr)(st st':St)(e:iL)(ρ:Pos->Loc)(a:Act)(w:World)(Q:Exit->Act->World->Prop),ex fr st=some (e,aY,st')->lS nt ρ C fr st a w->
    (∀a' w',eP nt ρ C st w aY st' a' w'->Q (l9 e) a' w')->dZ P c Q a w
theorem XT{bf:gR XR}{call:ai}(hc:CK none bf call)(m:Nat)(c:AC)(fr:Fr)(st:St):XQ bf m c fr st=exec call m c fr st:=by
 unfold XQ;rw[Ka none hc];cases exec call m c fr st with
 |none=>rfl
 |some x=>obtain⟨e,fr,st⟩:=x;cases e<;>rfl
theorem G7.ac(hT:bH P tt){bf:gR XR}{call:ai}(hc:CK none bf call)(bE:ey P C call)(fk:o7 P tt C call){nt m:Nat}{c:Code}{a:AC}(h:pS tt nt c=some a):
 G7 P C nt c (XQ bf m a):=λfr aY st st' e ρ ac w Q hx hS hQ=>(ou hT bE fk m).1 c a fr aY st st' e ρ ac w Q h (by rw[<-XT hc];exact hx) hS hQ
def RJ:List Pos->Fr->Fr
 |[],fr=>fr
 |p::ps,fr=>RJ ps (fr.put none p)
theorem Ng:∀(ps:List Pos)(fr:Fr)(p:Pos)(v:AV),(RJ ps fr).get p=some v->fr.get p=some v
 |[],_,_,_,h=>h
 |q::ps,fr,p,v,h=>by
  have h:=Ng ps _ p v h;by_cases hq:q=p
  .subst hq;rw[T.ee]at h;cases h
  .rwa [T.br _ hq]at h
theorem Ut{clock:Nat}:∀{es:List (AV×AV×Nat)},Nf clock es=true->(∀e∈es,e.2.2<clock)/\(es.map (·.2.2)).Nodup
 |[],_=>⟨λ_ h=>by simp at h,by simp⟩
 |e ::es,h=>by
  simp only[Nf,Za7]at h;obtain⟨⟨h1,h2⟩,h3⟩:=h;obtain⟨i1,i2⟩:=Ut h3;refine⟨λx hx=> ?_,?_⟩
  . rcases Za9.1 hx with rfl|hx
    .exact Za3 h1
    .exact i1 x hx
  .rw[Zc6,Zp7];refine⟨λhm=> ?_,i2⟩;obtain⟨x,hx,he⟩:=Zf4.1 hm;have:=Zd0.1 h2 x hx;simp[he]at this
def Mv(bf:gR XR)(m:Nat)(g:RG)(A B:Fr×St)(e:AV×AV×Nat):Prop:=
 ∃f1 s1,aal bf m g e.1 e.2.1 A.1 A.2=some (.normal,f1,s1)/\(∀p v,B.1.get p=some v->f1.get p=some v)/\((B=A/\bF A.2 s1)\/B.2=s1)
section
variable{bf:gR XR}{call:ai}{nt m:Nat}{g:RG}{lU:Array Oper}{o0 o1 o4:Oper}{i3 i4 b0 b1:Nat}{rest:Code}{C8:List bk}{bs:List Nat}
def Vy(g:RG)(o0 o1:Oper)(lU:Array Oper)(rest:Code)(i3 i4 b0 b1:Nat):Code:=
 .seq (.region i3 #[o0,o1] false) (.seq (.cond (.tmp g.t19) .skip (.exit b0)) (.block b1 (.seq (.region i4 lU false) rest)))
structure aam(tt:TT)(nt:Nat)(g:RG)(o0 o1 o4:Oper)(lU:Array Oper)(rest:Code)(C8:List bk)(bs:List Nat):Prop where
 n0:o0.op= .next (.tmp g.t17) false/\o0.guard=none/\o0.dst=some g.t18
 n1:o1.op= .extract (.tmp g.t18) 0/\o1.guard=none/\o1.dst=some g.t19
 n4:lU[0]? =some o4/\o4.op= .entry (.tmp g.t17)/\o4.guard=none/\o4.dst=some g.t20
 lt:g.t17<nt/\g.t18<nt/\g.t19<nt/\g.t20<nt
 ne:g.t17≠g.t18/\g.t17≠g.t19/\g.t18≠g.t19
 c4:mz tt nt lU lU.toList bs=some C8
 l4:C8.tail=g.l4
 r4:pS tt nt rest=some g.body
structure LI(C:Cells)(nt:Nat)(g:RG)(X:Fr×St)(b yK:Pos)(es:List (AV×AV×Nat))(since r:Nat)(jD:Pos->Loc)(G8:St)(w0:World)(seen:Array Nat)(ρ:Pos->Loc)(a:Act)(w:World):Prop where
 S:lS nt ρ C X.1 X.2 a w
 k1:∀p:Pos,p.toNat<G8.next.toNat->ρ p=jD p
 k2:G8.next.toNat<=X.2.next.toNat
 E:je jD G8 w0 ρ X.2 w
 ip:(ρ yK).aq=r/\(ρ yK).base=0/\yK.toNat<X.2.next.toNat
 at17:X.1.get (key g.t17)=some (.ptr yK 0)
 mp:X.2.heap.get b=some (.map es since)
 it:∃c,w.heap[r]? =some (.mapIter (some (ρ b).aq) since seen c)/\since<=c
 L7:∀p x,X.2.heap.get p=some x->(ρ p).aq≠r
 late:w0.heap.size<=r
 cl:X.1.get (key g.t18)=none/\X.1.get (key g.t19)=none
theorem tY{ops:Array Oper}{K:Act->World->Prop}{i:Nat}{rest:List Nat}{o:Oper}{a:Act}{w w':World}{v:Value}(ho:ops[i]? =some o)(hg:o.guard=none)
  (hr:(execOp a.eval o).run P w= .ok (.value v) w') (hQ:oo P ops K rest (a.put o.dst v) w'):oo P ops K (i::rest) a w:=by
 unfold oo zZ;rw[ho];simp only[Region.wanted,hg,Zg8];unfold MU;rw[hr];exact hQ
theorem eval_put{a:Act}{t:Nat}{v:Value}(h:t<a.tmps.size):(a.put (some t) v).eval (.tmp t)=v:=by
 simp[Act.put,Act.eval,h]
theorem Jy{a:Act}{t s:Nat}{v:Value}(h:t≠s):(a.put (some t) v).eval (.tmp s)=a.eval (.tmp s):=by
 simp[Act.put,Act.eval,Zd6 h]
theorem LI.round(hT:bH P tt)(hc:CK none bf call)(bE:ey P C call)(fk:o7 P tt C call)(hR:aam tt nt g o0 o1 o4 lU rest C8 bs)
   {A:Fr×St} {b yK:Pos} {es:List (AV×AV×Nat)} {since r:Nat} {jD:Pos->Loc} {G8:St} {w0:World} {seen:Array Nat} {ρ:Pos->Loc} {a:Act} {w:World}
   (L:LI C nt g A b yK es since r jD G8 w0 seen ρ a w) (dc:Nf since es=true) {Q:Exit->Act->World->Prop}
   (Vz:(∀e∈es,seen.contains e.2.2=true)->∀a',lS nt ρ C A.1 A.2 a' w->Q (.exit b0) a' w)
   (adH:∀e∈es,seen.contains e.2.2=false->∃B,Mv bf m g A B e/\B.1.get (key g.t17)=some (.ptr yK 0)/\B.2.heap.get b=some (.map es since)/\B.1.get (key g.t18)=none/\B.1.get (key g.t19)=none/\
     ∀ρ' a' w',LI C nt g B b yK es since r jD G8 w0 (seen.push e.2.2) ρ' a' w'->Q .normal a' w'):
   dZ P (Vy g o0 o1 lU rest i3 i4 b0 b1) Q a w:=by
 obtain⟨c,hr,hsc⟩:=L.it;obtain⟨g1,g2,es',q1,q2,q3⟩:=L.S.W.live b _ L.mp;obtain⟨aU,Fl⟩:=Ut dc;have hat:∀(i:Nat)(e':MapEntry),es'[i]? =some e'->∃e,es[i]? =some e/\aj ρ A.2.next.toNat C e.1 e'.key/\aj ρ A.2.next.toNat C e.2.1 e'.val/\e.2.2=e'.born:=λi e' h=>by
   have hi:i<es.length:=(by rw[q2];exact(Zc9.1 h).1);exact⟨_,H4 hi,q3 i _ e' (H4 hi) h⟩
 have hold:∀x∈es'.toList,x.born<since:=λx hx=>by
   obtain⟨i,hi⟩:=Zd3.1 hx;obtain⟨e,h1,_,_,h2⟩:=hat i x (by simpa using hi);rw[<-h2];exact aU e (Zb6 h1)
 have jf:es'.toList.map (·.born)=es.map (·.2.2):=by
   apply Zh9;intro i;simp only[Zb7,Zg1];cases h:es'[i]? with
   | none=>
     have:es.length<=i:=(by rw[q2];exact Array.getElem?_eq_none_iff.1 h);rw[Zb5 this];rfl
   | some x=>
     obtain⟨e,h1,_,_,h2⟩:=hat i x h;rw[h1];simp[h2]
 have N4:a.eval (.tmp g.t17)= .pointer (some ⟨r,0,none⟩):=by
   have h:=oh (x:= .tmp g.t17) (o:= .t (key g.t17)) rfl L.S.F (v:= .ptr yK 0) L.at17;obtain⟨_,h⟩:=h.ei;rw[h,L.ip.1,L.ip.2.1]
 have eD:=L.S.size;have s18:∀(v:Value),g.t18<(a.put (some g.t18) v).tmps.size:=λv=>by rw[Act.gI,eD];exact hR.lt.2.1
 have hrl:r<w.heap.size:=(Zc9.1 hr).1;unfold Vy;apply z6;apply Cb;show oo P _ _ [0,1] a w;rcases run_next_at (P:=P) w o0.type r (ρ b).aq since c seen es' since hr q1 hold hsc with⟨h0,bQ⟩|⟨e',jP,w1,Uu,bQ⟩
 . refine tY (i:=0) (o:=o0) rfl hR.n0.2.1 (v:= .tuple #[.bool false]) (w':=w) (by simp[execOp,hR.n0.1,N4,bQ,Result.andThen]) ?_;rw[hR.n0.2.2];refine tY (i:=1) (o:=o1) rfl hR.n1.2.1 (v:= .bool false) (w':=w) (by simp[execOp,hR.n1.1,eval_put (eD ▸hR.lt.2.1),Instr.extract,Result.andThen]) ?_;rw[hR.n1.2.2];apply z6;refine Lq (eval_put (by rw[Act.gI,eD];exact hR.lt.2.2.1)) (Xe ?_);refine Vz (λe he=> ?_) _ ⟨L.S.W,λp v hp=> ?_,by rw[Act.gI,Act.gI];exact eD,by rw[Act.iF,Act.iF];exact L.S.defers⟩
   .obtain⟨i,hi⟩:=Zd3.1 he;have Jg:i<es'.size:=(by rw[<-q2];exact(Za1.1 hi).1);obtain⟨e2,h1,_,_,h2⟩:=hat i _ (Ze6 Jg);rw[hi]at h1;cases h1;rw[h2];have hem:leftOf es' seen= #[]:=Zm4 h0;unfold leftOf at hem;rw[Array.filter_eq_empty_iff]at hem;have:=hem es'[i] (Array.getElem_mem Jg);simpa using this
   .rw[BA (λh=>by simp at h;subst h;rw[L.cl.2]at hp;cases hp),BA (λh=>by simp at h;subst h;rw[L.cl.1]at hp;cases hp)];exact L.S.F p v hp
 . have hr1:w1.heap[r]? =some (.mapIter (some (ρ b).aq) since seen c):=(by rcases Uu with rfl|rfl<;>exact hr);have Fu:w1.heap[(ρ b).aq]? =some (.map es' since):=(by rcases Uu with rfl|rfl<;>exact q1);have DY:=Go.MapKept.heap_set (o':= .mapIter (some (ρ b).aq) since (seen.push e'.born) since) hr1;obtain⟨w2,nu⟩:∃w2,w2=Go.ChangeMaps.setBlock w1 r (.mapIter (some (ρ b).aq) since (seen.push e'.born) since):=⟨_,rfl⟩
   (change (Go.ChangeMaps.setBlock w1 r (.mapIter (some (ρ b).aq) since (seen.push e'.born) since)).heap[r]? =_/\∀k,k≠r->(Go.ChangeMaps.setBlock w1 r (.mapIter (some (ρ b).aq) since (seen.push e'.born) since)).heap[k]? =_ at DY;rw[<-nu]at DY bQ;have xL:w2.heap.size=w.heap.size:=(by rw[nu];rcases Uu with rfl|rfl<;>simp[Go.ChangeMaps.setBlock]<;>rfl);have lK:∀k,k≠r->w2.heap[k]? =w.heap[k]? :=λk hk=>(DY.2 k hk).trans (by rcases Uu with rfl|rfl<;>rfl));have zY:w2.os=w.os/\w2.tape=w.tape/\w2.output=w.output:=(by rw[nu];rcases Uu with rfl|rfl<;>exact⟨rfl,rfl,rfl⟩);clear nu Uu;have CY:aV ρ C A.2 w2:=L.S.W.iter hr L.L7 xL lK;have hen:(Instr.entry (.pointer (some ⟨r,0,none⟩))).run P w2= .ok (.tuple #[e'.key,e'.val]) w2:=
     run_entry_at _ r _ since seen es' since e' DY.1 ((lK _ (L.L7 b _ L.mp)).trans q1) (by simp[leftOf]at jP;simpa using jP.1) (jf ▸Fl)
   obtain⟨i,hi⟩:=Zd3.1 jP;have Cf:e'∈es'.toList/\seen.contains e'.born=false:=(by simpa [leftOf]using jP);obtain⟨j,hj⟩:=Zd3.1 Cf.1;obtain⟨e,h1,v1,v2,h2⟩:=hat j e' (by simpa using hj);obtain⟨B,⟨f1,s1,hx,hf,hB⟩,b17,bm,b18,b19,hQ⟩:=adH e (Zb6 h1) (by rw[h2];exact Cf.2);refine tY (i:=0) (o:=o0) rfl hR.n0.2.1 (v:= .tuple #[.bool true,e'.key,e'.val]) (w':=w2) (by simp[execOp,hR.n0.1,N4,bQ,Result.andThen]) ?_;rw[hR.n0.2.2];refine tY (i:=1) (o:=o1) rfl hR.n1.2.1 (v:= .bool true) (w':=w2) (by simp[execOp,hR.n1.1,eval_put (eD ▸hR.lt.2.1),Instr.extract,Result.andThen]) ?_;rw[hR.n1.2.2];apply z6;refine MV (eval_put (by rw[Act.gI,eD];exact hR.lt.2.2.1)) (Xd ?_);apply Lp;apply z6;apply Cb;have Fv:lU.size=g.l4.length+1:=(by have h:C8.length=lU.size:=(by rw[(mQ hR.c4).1,Zf1]);obtain⟨h4,_⟩:=Zc9.1 hR.n4.1;have h4:0<lU.size:=h4;rw[<-hR.l4,List.length_tail];omega);rw[Fv,Zk3,Zm5];refine tY (i:=0) (o:=o4) hR.n4.1 hR.n4.2.2.1 (v:= .tuple #[e'.key,e'.val]) (w':=w2) (by simp[execOp,hR.n4.2.1,Jy hR.ne.1.symm,Jy hR.ne.2.1.symm,N4,hen,Result.andThen]) ?_;rw[hR.n4.2.2.2];unfold aal at hx;simp only[gM]at hx;rw[Iw none hc]at hx;unfold mR at hx;(split at hx<;>first|(cases hx;done)|skip);rename_i y hy;simp only[XT hc]at hx;have hvt:aj ρ A.2.next.toNat C (.tuple [.bool true,e.1,e.2.1]) (.tuple #[.bool true,e'.key,e'.val]):= .qm ((av.nil.cons v2).cons v1 |>.cons (.bool true));have hve:aj ρ A.2.next.toNat C (.tuple [e.1,e.2.1]) (.tuple #[e'.key,e'.val]):= .qm ((av.nil.cons v2).cons v1);have F1:=eJ.put (nt:=nt) (d:=some g.t18) L.S.F eD (λ_ h=>by cases h;exact hR.lt.2.1) hvt;have F2:=eJ.put (nt:=nt) (d:=some g.t19) F1 (by rw[Act.gI];exact eD) (λ_ h=>by cases h;exact hR.lt.2.2.1) (.bool true);have F3:=eJ.put (nt:=nt) (d:=some g.t20) F2 (by rw[Act.gI,Act.gI];exact eD) (λ_ h=>by cases h;exact hR.lt.2.2.2) hve;refine ot (nt:=nt) hT bE g.l4 1 _ y.1 A.2 y.2 ρ _ w2 (λi ao hi=> ?_) hy ⟨CY,F3,by rw[Act.gI,Act.gI,Act.gI];exact eD,by rw[Act.iF,Act.iF,Act.iF];exact L.S.defers⟩ λa3 w3 hp=> ?_
   .rw[<-hR.l4,List.getElem?_tail]at hi;obtain⟨o,k1,k2,_⟩:=wD hR.c4 (i+1) ao hi;exact⟨o,by rw[Nat.add_comm];exact k1,k2⟩
   obtain⟨xP,S3,k1,k2,k3⟩:=hp;(refine(ou hT bE fk m).1 rest g.body y.1 f1 y.2 s1 .normal xP a3 w3 _ hR.r4 hx S3 λa4 w4 hp=> ?_);have hP:=eP.trans k1 k2 k3 hp;show Q .normal a4 w4;have S2:lS nt ρ C A.1 A.2 a w2:=⟨CY,L.S.F,eD,L.S.defers⟩
   have W0:je jD G8 w0 ρ A.2 w2:=⟨zY.1.trans L.E.os,zY.2.1.trans L.E.tape,zY.2.2.trans L.E.output,by rw[xL];exact L.E.size,λk hk hn=>(lK k (by have:=L.late;omega)).trans (L.E.block k hk hn),λb x hb=>L.E.mN b x hb⟩
   obtain⟨RK,S4,l1,l2,E4⟩:∃RK,lS nt RK C B.1 B.2 a4 w4/\(∀p:Pos,p.toNat<A.2.next.toNat->RK p=ρ p)/\A.2.next.toNat<=B.2.next.toNat/\je ρ A.2 w2 RK B.2 w4:=by
     rcases hB with⟨rfl,hk⟩|hB
     .  obtain⟨S,E⟩:=S2.back hf hk hP;exact⟨ρ,S,λ_ _=>rfl,Za4 _,E⟩
     .  obtain⟨RK,S,l1,l2,E⟩:=hP;rw[<-hB]at S l2 E;exact⟨RK,⟨S.W,S.F.sub hf,S.size,S.defers⟩,l1,l2,E⟩
   have h4r:w4.heap[r]? =some (.mapIter (some (ρ b).aq) since (seen.push e.2.2) since):=(by rw[E4.block r (by rw[xL];exact hrl) L.L7,h2];exact DY.1);refine hQ RK a4 w4 ⟨S4,λp hp=>(l1 p (Zc5 hp L.k2)).trans (L.k1 p hp),Zc4 L.k2 l2,W0.trans E4,?_,b17,bm,⟨since,?_,Za4 _⟩,λp x hp=> ?_,L.late,b18,b19⟩
   .rw[l1 yK L.ip.2.2];exact⟨L.ip.1,L.ip.2.1,Zc5 L.ip.2.2 l2⟩
   .rw[l1 b g1];exact h4r
   . rcases E4.mN p x hp with⟨p',x',hp',e1⟩|h
     .  rw[<-e1];exact L.L7 p' x' hp'
     .  rw[xL]at h;omega
theorem Am:∀(ps:List Pos)(fr:Fr)(p:Pos),p∈ps\/fr.get p=none->(RJ ps fr).get p=none
 |[],_,_,h=>h.elim (λh=>by simp at h) id
 |q ::ps,fr,p,h=>Am ps _ p (by
  by_cases hq:q=p
  .subst hq;exact .inr (T.ee _ _ _)
  . rcases h with h|h
    .   rcases Za9.1 h with h|h
        .exact(hq h.symm).elim
        .exact .inl h
    .   exact .inr (by rw[T.br _ hq];exact h))
theorem aV.slot{ρ ρ':Pos->Loc}{st:St}{w:World}(hW:aV ρ C st w)(aR:∀p:Pos,p.toNat<st.next.toNat->ρ' p=ρ p):aV ρ' C ⟨st.heap,st.next.succ⟩ w:=by
 have hl:∀p x,st.heap.get p=some x->ρ' p=ρ p:=λp x hp=>aR p (hW.live p x hp).1
 refine⟨λp x hp=> ?_,λp q x y hp hq h=> ?_,λa v ha=>⟨(hW.cZ a v ha).1,λp x hp=> ?_⟩,hW.whole⟩
 .obtain⟨h1,h2,h3⟩:=hW.live p x hp;rw[hl p x hp];exact⟨by rw[Pos.az];exact Nat.lt_succ_of_lt h1,h2,h3.mono aR (by rw[Pos.az];omega)⟩
 .rw[hl p x hp,hl q y hq]at h;exact hW.inj p q x y hp hq h
 .rw[hl p x hp];exact(hW.cZ a v ha).2 p x hp
end
end
section
variable{P:Program}{tt:TT}{C:Cells}
def idxS:List AV->St->Option (AV×St)
 |[.str a,.int .u8 c],st=>some (.int .i64 (Lib.indexByte (a.map UInt8.ofNat) c.toNat.toUInt8),st)
 |_,_=>none
end
def abx (tt :TT)(nt:Nat)(ds:List Nat)(b0 b0' t19:Nat)(o2 o0 o1 o4:Oper)(L8 C8:List bk)(body:AC):Option (RG×Nat):=
 match o2.op,o0.op,o1.op,o4.op with
 |  .range ty x,.next (.tmp a0) false,.extract (.tmp a1) 0,.entry (.tmp a4)=>match o2.dst,o0.dst,o1.dst,o4.dst with
    |some t17,some t18,some c,some t20=>match o2.guard,o0.guard,o1.guard,o4.guard with
     |  none,none,none,none=>match jY x with
        |some xo=>match Nat.beq a0 t17&&Nat.beq a1 t18&&Nat.beq a4 t17&&Nat.beq c t19&&Nat.beq b0 b0'&&Nat.blt t17 nt&&Nat.blt t18 nt&&Nat.blt t19 nt&&Nat.blt t20 nt&&
            !Nat.beq t17 t18&& !Nat.beq t17 t19&& !Nat.beq t18 t19 with
         |true=>some (⟨t17,t18,t19,t20,L8.dropLast,xo,C8.tail,body,key t18::key t19::ds.map key⟩,ty)
         |false=>none
        |_=>none
     |_,_,_,_=>none
    |_,_,_,_=>none
 |_,_,_,_=>none
def RL (tt:TT)(nt:Nat):Code->Option (RG×Nat)
 |  .seq (.region _ uR false) (.block b0 (.loop (.seq (.region _ ⟨[o0,o1]⟩ false) (.seq (.cond (.tmp t19) .skip (.exit b0')) (.block _ (.seq (.region _ lU false) rest))))))=>
    match uR[uR.size - 1]?,lU[0]? with
    |some o2,some o4=>match mz tt nt uR uR.toList [],mz tt nt lU lU.toList []with
     |  some L8,some C8=>match pS tt nt rest with
        |some body=>abx tt nt (lU.toList.filterMap (·.dst)++oq rest) b0 b0' t19 o2 o0 o1 o4 L8 C8 body
        |none=>none
     |_,_=>none
    |_,_=>none
 |_=>none
section
variable{P:Program}{tt:TT}{C:Cells}{bf:gR XR}{call:ai}{nt m:Nat}
def Ko:Code->Bool
 |.region _ ops _=>ops.toList.any λo=>match o.op with|.range _ _=>true|_=>false
 |.seq a b=>Ko a||Ko b
 |.cond _ a b=>Ko a||Ko b
 |.block _ a=>Ko a
 |.loop a=>Ko a
 |_=>false
end
abbrev XO:=iL×Fr×St
abbrev XS:=Option (List XO)
def RM(y x:XO):Bool:=match y.1,x.1 with
 |.normal,.normal=>T.sub eH y.2.1 x.2.1&&T.sub BE y.2.2.heap x.2.2.heap&&Pos.beq y.2.2.next x.2.2.next
 |_,_=>false
def Nh:List XO->List XO->List XO
 |[],acc=>acc
 |  x::l,acc=>match acc.any (λy=>RM y x)with
    |true=>Nh l acc
    |false=>Nh l (x::acc)
def EA{α:Type}(k:α->XS):List α->List XO->XS
 |[],acc=>some acc
 |  e::l,acc=>match k e with
    |some a=>EA k l (Nh a acc)
    |none=>none
structure Cv(y x:XO):Prop where
 e:y.1=x.1
 f:∀p v,y.2.1.get p=some v->x.2.1.get p=some v
 h:∀p v,y.2.2.heap.get p=some v->x.2.2.heap.get p=some v
 n:y.2.2.next=x.2.2.next
theorem Cv.refl(x:XO):Cv x x:=⟨rfl,λ_ _ h=>h,λ_ _ h=>h,rfl⟩
theorem XU{y x:XO}(h:RM y x=true):Cv y x:=by
 unfold RM at h;split at h<;>first|(cases h;done)|skip
 rename_i h1 h2;simp only[Za7]at h;exact⟨h1.trans h2.symm,T.wK (λ_ _=>ov) h.1.1,T.wK (λ_ _=>Kb) h.1.2,Pos.beq_eq.1 h.2⟩
theorem G9:∀{l acc:List XO},(∀y∈acc,y∈Nh l acc)/\∀x∈l,∃y∈Nh l acc,Cv y x
 |[],acc=>⟨λy hy=>hy,λx hx=>by cases hx⟩
 |x ::l,acc=>by
  unfold Nh;split
  . rename_i h;obtain⟨h1,h2⟩:=G9 (l:=l) (acc:=acc);refine⟨h1,λz hz=> ?_⟩;rcases Za9.1 hz with rfl|hz
    .   obtain⟨y,hy,hc⟩:=List.any_eq_true.1 h;exact⟨y,h1 y hy,XU hc⟩
    .   exact h2 z hz
  . obtain⟨h1,h2⟩:=G9 (l:=l) (acc:=x::acc);refine⟨λy hy=>h1 y (Za6 _ hy),λz hz=> ?_⟩;rcases Za9.1 hz with rfl|hz
    .   exact⟨z,h1 z (Zc2 ..),.refl z⟩
    .   exact h2 z hz
theorem tZ{α:Type}{k:α->XS}{outs:List XO}:∀{l:List α}{acc:List XO},EA k l acc=some outs->(∀y∈acc,y∈outs)/\∀e∈l,∃a,k e=some a/\∀x∈a,∃y∈outs,Cv y x
 |[],acc,h=>by
  simp only[EA,H0]at h;subst h;exact⟨λy hy=>hy,λe he=>by cases he⟩
 |e::l,acc,h=>by
  unfold EA at h;split at h<;>first|(cases h;done)|skip
  rename_i a ha;obtain⟨h1,h2⟩:=tZ h;obtain⟨n1,n2⟩:=G9 (l:=a) (acc:=acc);refine⟨λy hy=>h1 y (n1 y hy),λz hz=> ?_⟩;rcases Za9.1 hz with rfl|hz
  .exact⟨a,ha,λx hx=>let⟨y,hy,hc⟩:=n2 x hx;⟨y,h1 y hy,hc⟩⟩
  .exact h2 z hz
section
variable{P:Program}{tt:TT}{C:Cells}{nt:Nat}{ρ:Pos->Loc}{st:St}{w:World}
theorem aV.yj{ρ:Pos->Loc}{st st':St}{w:World}(hW:aV ρ C st w)(h:∀p v,st'.heap.get p=some v->st.heap.get p=some v)(hn:st'.next=st.next):aV ρ C st' w:=
 ⟨λb x hb=>by rw[hn];exact hW.live b x (h b x hb),λb b' x x' hb jf=>hW.inj b b' x x' (h b x hb) (h b' x' jf),λa v ha=>⟨(hW.cZ a v ha).1,λb x hb=>(hW.cZ a v ha).2 b x (h b x hb)⟩,hW.whole⟩
theorem eP.L9{y x:XO}{a':Act}{w':World}(hc:Cv y x)(h:eP nt ρ C st w x.2.1 x.2.2 a' w'):eP nt ρ C st w y.2.1 y.2.2 a' w':=by obtain⟨dB,S,k1,k2,E⟩:=h;refine⟨dB,⟨S.W.yj hc.h hc.n,?_,S.size,S.defers⟩,k1,by rw[hc.n];exact k2,⟨E.os,E.tape,E.output,E.size,E.block,λb v hb=>E.mN b v (hc.h b v hb)⟩⟩;rw[hc.n];exact S.F.sub hc.f
def zp(P:Program)(C:Cells)(nt:Nat)(c:Code)(ex:Fr->St->XS):Prop:=
 ∀  (fr:Fr)(st:St)(outs:List XO)(ρ:Pos->Loc)(a:Act)(w:World)(Q:Exit->Act->World->Prop),ex fr st=some outs->lS nt ρ C fr st a w->
    (∀o∈outs,∀a' w',eP nt ρ C st w o.2.1 o.2.2 a' w'->Q (l9 o.1) a' w')->dZ P c Q a w
def aan(ex:Fr->St->XR)(fr:Fr)(st:St):XS:=match ex fr st with
 |some o=>some [o]
 |none=>none
theorem G7.one{c:Code}{ex:Fr->St->XR}(h:G7 P C nt c ex):zp P C nt c (aan ex):=by
 intro fr st outs ρ a w Q hx hS hQ;unfold aan at hx;split at hx<;>first|(cases hx;done)|skip
 rename_i o ho;simp only[H0]at hx;subst hx;exact h fr o.2.1 st o.2.2 o.1 ρ a w Q ho hS λa' w' hp=>hQ o (by simp) a' w' hp
end
section
variable(bf:gR XR)(m:Nat)(g:RG)
def RN{β:Type}:List Pos->Fr->(Fr->β)->β
 |[],fr,k=>k fr
 |p::ps,fr,k=>mO none p fr λfr=>RN ps fr k
def RO (b:Pos)(es:List (AV×AV×Nat))(clock:Nat)(yK:Pos):Nat->List (AV×AV×Nat)->Fr->St->XS
 |  0,todo,fr,st=>match todo with
    |[]=>some [(.normal,fr,st)]
    |_=>none
 |  n+  1,todo,fr,st=>match todo with
    |[]=>some [(.normal,fr,st)]
    |_  =>EA (λe=>match aal bf m g e.1 e.2.1 fr st with
     |  some (.normal,f1,s1)=>RN g.ds f1 λf1=>match kP b s1.heap,kP (key g.t17) f1 with
        |some y,some v=>match BE y (.map es clock)&&eH v (.ptr yK 0)with
         |true=>RO b es clock yK n (todo.filter λx=> !Nat.beq x.2.2 e.2.2) f1 s1
         |false=>none
        |_,_=>none
     |_=>none) todo []
def RP(l:List bk)(fr:Fr)(st:St):XR:=MN none bf l fr st λfr st=>some (.normal,fr,st)
def rgS (fr:Fr)(st:St):XS:=match RP bf g.l2 fr st with
 |  some (_,fr,st)=>NW none fr g.x λ
    | .map b=>match kP b st.heap with
      | some (.map es clock)=>match Nf clock es with
        |true=>RN g.ds fr λfr=>mO (some (.ptr st.next 0)) (key g.t17) fr λfr=>K7 st.next λn=>RO bf m g b es clock st.next es.length es fr { heap:=st.heap,next:=n }
        |false=>none
      |_=>none
    |_=>none
 |none=>none
end
section
variable{P:Program}{tt:TT}{C:Cells}{bf:gR XR}{call:ai}{nt m:Nat}{g:RG}{lU:Array Oper}{o0 o1 o4:Oper}{i3 i4 b0 b1:Nat}{rest:Code}{C8:List bk}{bs:List Nat}
theorem Ni{β:Type}:∀(ps:List Pos)(fr:Fr)(k:Fr->β),RN ps fr k=k (RJ ps fr)
 |[],_,_=>rfl
 |p::ps,fr,k=>by simp only[RN,gM,RJ];exact Ni ps _ k
theorem Nj(hc:CK none bf call){l:List bk}{fr aY:Fr}{st st':St}{e:iL}(h:RP bf l fr st=some (e,aY,st')):e= .normal/\iA call l fr st=some (aY,st'):=by
 unfold RP at h;rw[Iw none hc]at h;unfold mR at h;split at h<;>first|(cases h;done)|skip
 rename_i y hy;simp only[H0,Zb3]at h;obtain⟨rfl,rfl,rfl⟩:=h;exact⟨rfl,hy⟩
theorem LI.acQ(hT:bH P tt)(hc:CK none bf call)(bE:ey P C call)(fk:o7 P tt C call)(hR:aam tt nt g o0 o1 o4 lU rest C8 bs)
  {b yK:Pos} {es:List (AV×AV×Nat)} {since r:Nat} {jD:Pos->Loc} {G8:St} {w0:World} (dc:Nf since es=true) (ru:key g.t18∈g.ds/\key g.t19∈g.ds) {Q:Exit->Act->World->Prop}:
  ∀ (n:Nat)(todo:List (AV×AV×Nat))(fr:Fr)(st:St)(outs:List XO)(seen:Array Nat)(ρ:Pos->Loc)(a:Act)(w:World),RO bf m g b es since yK n todo fr st=some outs->
    (∀e,e∈todo↔e∈es/\seen.contains e.2.2=false)->LI C nt g (fr,st) b yK es since r jD G8 w0 seen ρ a w->
    (∀o∈outs,o.1= .normal->∀a' w',eP nt jD C G8 w0 o.2.1 o.2.2 a' w'->Q (.exit b0) a' w')->Gu (dZ P (Vy g o0 o1 lU rest i3 i4 b0 b1)) Q (n+1) a w:=by
 intro n;induction n with
 |zero=>
  intro todo fr st outs seen ρ a w h IQ L hQ;unfold RO at h;split at h<;>first|(cases h;done)|skip
  simp only[H0]at h;subst h;rw[Od];refine L.round (m:=m) hT hc bE fk hR dc (λ_ a' S=>hQ (.normal,fr,st) (Zd2.2 rfl) rfl a' w ⟨ρ,S,L.k1,L.k2,L.E⟩) λe he hs=> ?_
  have:=(IQ e).2 ⟨he,hs⟩;cases this
 |succ n ih=>
  intro todo fr st outs seen ρ a w h IQ L hQ;rw[Od];unfold RO at h;split at h
  .simp only[H0]at h;subst h;(refine L.round (m:=m) hT hc bE fk hR dc (λ_ a' S=>hQ (.normal,fr,st) (Zd2.2 rfl) rfl a' w ⟨ρ,S,L.k1,L.k2,L.E⟩) λe he hs=> ?_);have:=(IQ e).2 ⟨he,hs⟩;cases this
  . rename_i cG;obtain⟨_,fT⟩:=tZ h;refine L.round (m:=m) hT hc bE fk hR dc (λVz a' S=> ?_) λe he hs=> ?_
    .   cases todo with
        |nil=>exact(cG rfl).elim
        | cons e l=>
          obtain⟨he,hs⟩:=(IQ e).1 (Zc2 ..);rw[Vz e he]at hs;cases hs
    .   obtain⟨iR,h1,nD⟩:=fT e ((IQ e).2 ⟨he,hs⟩);(split at h1<;>first|(cases h1;done)|skip);rename_i f1 s1 hx;rw[Ni]at h1;simp only[qY]at h1;(split at h1<;>first|(cases h1;done)|skip);rename_i y v hy hv;(split at h1<;>first|(cases h1;done)|skip);rename_i hb;simp only[Za7]at hb;have e1:=Kb hb.1;have e2:=ov hb.2;subst e1;subst e2;refine⟨(RJ g.ds f1,s1),⟨f1,s1,hx,Ng _ _,.inr rfl⟩,hv,hy,Am _ _ _ (.inl ru.1),Am _ _ _ (.inl ru.2),λρ' a' w' L'=> ?_⟩;refine ih _ _ _ iR _ ρ' a' w' h1 (λx=> ?_) L' λo ho hn a2 w2 hp=> ?_
        .rw[Zp5,IQ x,Array.contains_push,Bool.or_eq_false_iff,Zh1];rw[show Nat.beq x.2.2 e.2.2=(x.2.2==e.2.2)from by rw[Zh4];simp[Nat.beq_eq]];exact and_assoc
        .obtain⟨z,hz,hcv⟩:=nD o ho;exact hQ z hz (hcv.e.trans hn) a2 w2 (hp.L9 hcv)
theorem zp.RQ(hT:bH P tt)(hc:CK none bf call)(bE:ey P C call)(fk:o7 P tt C call)(hR:aam tt nt g o0 o1 o4 lU rest C8 bs)
   {uR:Array Oper} {L8:List bk} {o2:Oper} {x:Operand} {ty kt et:TypeId} {i2:Nat} {bs2:List Nat} (h2:mz tt nt uR uR.toList bs2=some L8) (nY:L8.dropLast=g.l2)
   (zY:uR[g.l2.length]? =some o2) (xL:uR.size=g.l2.length+1) (hop:o2.op= .range ty x) (xN:o2.guard=none) (Lo:o2.dst=some g.t17) (hx:jY x=some g.x) (aao:P.underlying ty=some (.map kt et))
   (ru:key g.t18∈g.ds/\key g.t19∈g.ds):zp P C nt (.seq (.region i2 uR false) (.block b0 (.loop (Vy g o0 o1 lU rest i3 i4 b0 b1)))) (rgS bf m g):=by
 intro fr st outs ρ a w Q h hS hQ;unfold rgS at h;split at h<;>first|(cases h;done)|skip
 rename_i ex rA jz hy;obtain⟨rfl,hz⟩:=Nj hc hy;simp only[GK]at h;unfold mR at h;split at h<;>first|(cases h;done)|skip
 rename_i v hv;dsimp only at h;split at h<;>first|(cases h;done)|skip
 rename_i b;simp only[qY]at h;split at h<;>first|(cases h;done)|skip
 rename_i es clock hb;split at h<;>first|(cases h;done)|skip
 rename_i dc;simp only[Ni,gM,Ej]at h;apply z6;apply Cb;rw[xL,Zi7];apply Oc;rw[Zk3];refine ot (nt:=nt) hT bE g.l2 0 fr rA st jz ρ a w (λi ao hi=> ?_) hz hS λa2 w2 hp=> ?_
 .rw[<-nY,List.getElem?_dropLast]at hi;(split at hi<;>first|(cases hi;done)|skip);obtain⟨o,k1,k2,_⟩:=wD h2 i ao hi;exact⟨o,by rw[Zc7];exact k1,k2⟩
 obtain⟨kO,S2,k1,k2,E2⟩:=hp;obtain⟨hbn,Gy⟩:=(oh hx S2.F hv).tQ;obtain⟨g1,g2,es',q1,q2,q3⟩:=S2.W.live b _ hb;obtain⟨Ma,hf3⟩:∃f,f=(RJ g.ds rA).put (some (.ptr jz.next 0)) (key g.t17):=⟨_,rfl⟩
 rw[<-hf3]at h;obtain⟨C9,BI⟩:∃s:St,s=⟨jz.heap,jz.next.succ⟩:=⟨_,rfl⟩
 rw[<-BI]at h;have n18:key g.t17≠key g.t18:=λe=>hR.ne.1 (by have:=congrArg Pos.toNat e;rw[eo,eo]at this;omega)
 have n19:key g.t17≠key g.t19:=λe=>hR.ne.2.1 (by have:=congrArg Pos.toNat e;rw[eo,eo]at this;omega)
 have XV:Ma.get (key g.t17)=some (.ptr jz.next 0)/\C9.heap.get b=some (.map es clock)/\Ma.get (key g.t18)=none/\Ma.get (key g.t19)=none:=by
   rw[hf3,BI,T.ee,T.br _ n18,T.br _ n19];exact⟨rfl,hb,Am _ _ _ (.inl ru.1),Am _ _ _ (.inl ru.2)⟩
 show oo P _ _ [g.l2.length] a2 w2
 refine tY zY xN (v:= .pointer (some ⟨w2.heap.size,0,none⟩)) (w':=w2.alloc (.mapIter (some (kO b).aq) clock #[] clock))
   (by simp[execOp,hop,Gy,run_range_map (P:=P) w2 ty kt et (kO b).aq es' clock aao q1,Result.andThen]) ?_
 rw[Lo];show dZ P (Code.block b0 _) Q _ _;apply Lp;have hold:∀k,k<w2.heap.size->(w2.alloc (.mapIter (some (kO b).aq) clock #[] clock)).heap[k]? =w2.heap[k]? :=λk hk=>heap_alloc_old w2 _ hk
 have eD:(w2.alloc (.mapIter (some (kO b).aq) clock #[] clock)).heap.size=w2.heap.size+1:=by simp
 obtain⟨xP,h3,aR⟩:∃xP:Pos->Loc,xP jz.next=⟨w2.heap.size,0,0⟩/\∀p:Pos,p.toNat<jz.next.toNat->xP p=kO p:=
   ⟨λp=>if p=jz.next then⟨w2.heap.size,0,0⟩else kO p,Za8 rfl,λp hp=>Za5 λe=>by subst e;omega⟩
 have hW3:aV xP C C9 (w2.alloc (.mapIter (some (kO b).aq) clock #[] clock)):=by rw[BI];exact(S2.W.slot aR).grow (by omega) hold
 have GG:C9.next.toNat=jz.next.toNat+1:=by rw[BI];exact Pos.az _
 have hF3:eJ xP C9.next.toNat C Ma (a2.put (some g.t17) (.pointer (some ⟨w2.heap.size,0,none⟩))).tmps:=by rw[hf3];refine eJ.put (nt:=nt) (d:=some g.t17) ((S2.F.sub (Ng _ _)).mono aR (by omega)) S2.size (λ_ h=>by cases h;exact hR.lt.1) ?_;have:=aj.ptr (ρ:=xP) (C:=C) jz.next 0 (n:=C9.next.toNat) (by omega);rw[h3]at this;exact this
 refine Xf (es.length+1) (LI.acQ (m:=m) (jD:=kO) (G8:=jz) (w0:=w2) (r:=w2.heap.size) hT hc bE fk hR dc ru es.length es Ma C9 outs #[] xP _ _ h (λe=>by simp) ?_ λo ho hn a' w' hp=> ?_)
 . refine⟨⟨hW3,hF3,by rw[Act.gI];exact S2.size,by rw[Act.iF];exact S2.defers⟩,aR,by show jz.next.toNat<=C9.next.toNat;omega,
     ⟨rfl,rfl,rfl,by rw[eD];omega,λk hk _=>hold k hk,λp x hp=>.inl ⟨p,x,by rw[BI]at hp;exact hp,by
        rw[BI]at hp;rw[aR p (S2.W.live p x hp).1]⟩⟩,⟨by rw[h3],by rw[h3],by show _<C9.next.toNat;omega⟩,XV.1,XV.2.1,⟨clock,?_,Za4 _⟩,λp x hp=> ?_,Za4 _,XV.2.2⟩
   .rw[aR b g1];exact heap_alloc_new w2 _
   .rw[BI]at hp;obtain⟨l1,l2,_⟩:=S2.W.live p x hp;rw[aR p l1];omega
 . simp only[Exit.inBlock,Zg8];have:=hQ o ho a' w' (eP.trans k1 k2 E2 hp)
   rwa [hn]at this
theorem zp.RL(hT:bH P tt)(hc:CK none bf call)(bE:ey P C call)(fk:o7 P tt C call){c:Code}{g:RG}{ty:Nat}(h:RL tt nt c=some (g,ty))
  {kt et:TypeId} (aao:P.underlying ty=some (.map kt et)) (ds:List Pos):zp P C nt c (rgS bf m { g with ds:=key g.t18::key g.t19::ds }):=by
 unfold Go.Ai.RL at h;split at h<;>first|(cases h;done)|skip
 rename_i i2 uR b0 i3 o0 o1 t19 b0' b1 i4 lU rest;split at h<;>first|(cases h;done)|skip
 rename_i o2 o4 zY ho4;split at h<;>first|(cases h;done)|skip
 rename_i L8 C8 nY hl4;split at h<;>first|(cases h;done)|skip
 rename_i body adI;unfold abx at h;split at h<;>first|(cases h;done)|skip
 rename_i ty' x a0 a1 a4 p2 p0 p1 p4;split at h<;>first|(cases h;done)|skip
 rename_i t17 t18 c t20 d2 d0 d1 d4;split at h<;>first|(cases h;done)|skip
 rename_i g2 g0 g1 g4;split at h<;>first|(cases h;done)|skip
 rename_i xo hxo;split at h<;>first|(cases h;done)|skip
 rename_i hb;simp only[H0,Zb3]at h;obtain⟨rfl,rfl⟩:=h;simp only[Za7,Zh1,Nat.beq_eq,Zp2]at hb;obtain⟨⟨⟨⟨⟨⟨⟨⟨⟨⟨⟨rfl,rfl⟩,rfl⟩,rfl⟩,rfl⟩,l17⟩,l18⟩,l19⟩,l20⟩,n1⟩,n2⟩,n3⟩:=hb;have hs:L8.length=uR.size:=(mQ nY).1.trans (Zf1 ..);have h0:0<uR.size:=by have:=(Zc9.1 zY).1;omega
 exact zp.RQ hT hc bE fk (i3:=i3) (i4:=i4) (b1:=b1) ⟨⟨p0,g0,d0⟩,⟨p1,g1,d1⟩,⟨ho4,p4,g4,d4⟩,⟨l17,l18,l19,l20⟩,⟨Zb4 n1,Zb4 n2,Zb4 n3⟩,hl4,rfl,adI⟩ nY rfl
  (by rw[List.length_dropLast,hs];exact zY) (by show uR.size=L8.dropLast.length+1;rw[List.length_dropLast,hs];omega) p2 g2 d2 hxo aao ⟨by simp,by simp⟩
end
end
noncomputable section
open Go Go.RowKit
abbrev xQ:=(Pos->Loc)->St->World->List Deferred->Prop
def Mb(C:Cells)(J:xQ):Prop:=
 ∀  (ρ:Pos->Loc)(st:St)(w:World)(D:List Deferred)(ρ':Pos->Loc)(st':St)(w':World),J ρ st w D->aV ρ C st w->aV ρ' C st' w'->(∀b:Pos,b.toNat<st.next.toNat->ρ' b=ρ b)->
    st.next.toNat<=st'.next.toNat->je ρ st w ρ' st' w'->J ρ' st' w' D
section
variable{P:Program}{tt:TT}{C:Cells}{r:Option Nat}{J:xQ}{ts:Nat->Prop}{x:Array Value}{nt:Nat}
def iT(C:Cells)(J:xQ)(ts:Nat->Prop)(x:Array Value)(nt:Nat)(ρ:Pos->Loc)(st:St)(w:World)(aY:Fr)(st':St)(a':Act)(w':World):Prop:=
 ∃ρ',lS nt ρ' C aY st' ⟨a'.tmps,[]⟩ w'/\(∀b:Pos,b.toNat<st.next.toNat->ρ' b=ρ b)/\st.next.toNat<=st'.next.toNat/\je ρ st w ρ' st' w'/\J ρ' st' w' a'.defers/\∀t,ts t->a'.tmps[t]? =x[t]?
theorem iT.trans{ρ dB:Pos->Loc}{rA:Fr}{st aJ jz:St}{a2:Act}{w w1 w2:World}(h1:∀b:Pos,b.toNat<st.next.toNat->dB b=ρ b)(h2:st.next.toNat<=aJ.next.toNat)(h3:je ρ st w dB aJ w1)
  (h:iT C J ts x nt dB aJ w1 rA jz a2 w2):iT C J ts x nt ρ st w rA jz a2 w2:=by
 obtain⟨kO,S,k1,k2,E,hJ,hx⟩:=h;exact⟨kO,S,λb hb=>(k1 b (Zc5 hb h2)).trans (h1 b hb),Zc4 h2 k2,h3.trans E,hJ,hx⟩
def Ck(J:xQ):Prop:=∀(ρ:Pos->Loc)(st st':St)(w:World)(D:List Deferred),J ρ st w D->(∀p v,st'.heap.get p=some v->st.heap.get p=some v)->st'.next=st.next->J ρ st' w D
theorem iT.L9(hw:Ck J){y z:XO}{ρ:Pos->Loc}{st:St}{w:World}{a':Act}{w':World}(hc:Cv y z)(h:iT C J ts x nt ρ st w z.2.1 z.2.2 a' w'):iT C J ts x nt ρ st w y.2.1 y.2.2 a' w':=by obtain⟨dB,S,k1,k2,E,hJ,hx⟩:=h;refine⟨dB,⟨S.W.yj hc.h hc.n,?_,S.size,S.defers⟩,k1,by rw[hc.n];exact k2,⟨E.os,E.tape,E.output,E.size,E.block,λb v hb=>E.mN b v (hc.h b v hb)⟩,hw _ _ _ _ _ hJ hc.h hc.n,hx⟩;rw[hc.n];exact S.F.sub hc.f
def cQ(P:Program)(C:Cells)(r:Option Nat)(J:xQ)(ts:Nat->Prop)(x:Array Value)(nt:Nat)(c:Code)(ex:Fr->St->XS):Prop:=
 ∀  (fr:Fr)(st:St)(outs:List XO)(ρ:Pos->Loc)(a:Act)(w:World)(Q:Exit->Act->World->Prop),ex fr st=some outs->lS nt ρ C fr st ⟨a.tmps,[]⟩ w->J ρ st w a.defers->(∀t,ts t->a.tmps[t]? =x[t]?)->
    (∀o∈outs,∀a' w',iT C J ts x nt ρ st w o.2.1 o.2.2 a' w'->Q (l9 o.1) a' w')->c.wpIn (Fc r) 0 P Q a w
theorem zp.g{c:Code}{ex:Fr->St->XS}(h:zp P C nt c ex)(hJ:Mb C J)(b7:∀t∈oq c,¬ts t):cQ P C r J ts x nt c ex:=by
 intro fr st outs ρ a w Q he hS hj hx hQ;have h1:dZ P c (λe a' w'=>∃o∈outs,e=l9 o.1/\eP nt ρ C st w o.2.1 o.2.2 a' w') ⟨a.tmps,[]⟩ w:=h fr st outs ρ _ w _ he hS λo ho a' w' hp=>⟨o,ho,rfl,hp⟩
 refine wpIn_mono (dZ.TY (r:=r) (n:=0) (D:=a.defers) (ds:=[]) (ts:=ts) (x:=x) c _ a.tmps w b7 hx h1) ?_;rintro e a' w' ⟨hd,hk,o,ho,rfl,ρ',S,k1,k2,E⟩;exact hQ o ho a' w' ⟨ρ',S,k1,k2,E,by rw[hd];exact hJ _ _ _ _ _ _ _ hj hS.W S.W k1 k2 E,hk⟩
def He(f g:Fr->St->XS)(fr:Fr)(st:St):XS:=match f fr st with
 |  some outs=>EA (λ|(e,fr,st)=>match e with
    |.normal=>g fr st
    |e=>some [(e,fr,st)]) outs []
 |none=>none
def aap(id:Nat)(f:Fr->St->XS)(fr:Fr)(st:St):XS:=match f fr st with
 |  some outs=>EA (λ|(e,fr,st)=>match e with
    | .exit i=>match Nat.beq i id with
      |true=>some [(.normal,fr,st)]
      |false=>some [(.exit i,fr,st)]
    |e=>some [(e,fr,st)]) outs []
 |none=>none
def VA(c:dK)(f g:Fr->St->XS)(fr:Fr)(st:St):XS:=NW none fr c λ
 |  .bool b=>match b with
    |true=>f fr st
    |false=>g fr st
 |_=>none
def Mc(f:Fr->St->XS):Nat->Fr->St->XS
 |0,_,_=>none
 |n+1,fr,st=>He f (λfr st=>Mc f n fr st) fr st
theorem cQ.seq'(hw:Ck J){c:Code}{f g:Fr->St->XS}{K:Act->World->Prop}{Q:Exit->Act->World->Prop}(hc:cQ P C r J ts x nt c f)
  {fr:Fr} {st:St} {outs:List XO} {ρ:Pos->Loc} {a:Act} {w:World} (h:He f g fr st=some outs) (hS:lS nt ρ C fr st ⟨a.tmps,[]⟩ w) (hj:J ρ st w a.defers) (hx:∀t,ts t->a.tmps[t]? =x[t]?)
  (hK:∀bJ aJ iR a1 w1,g bJ aJ=some iR->(∀z∈iR,∃y∈outs,Cv y z)->iT C J ts x nt ρ st w bJ aJ a1 w1->K a1 w1)
  (hQ:∀o∈outs,o.1≠ .normal->∀a' w',iT C J ts x nt ρ st w o.2.1 o.2.2 a' w'->Q (l9 o.1) a' w'):c.wpIn (Fc r) 0 P (Exit.then K Q) a w:=by
 unfold He at h;split at h<;>first|(cases h;done)|skip
 rename_i VB h0;obtain⟨_,fT⟩:=tZ h;refine hc fr st VB ρ a w _ h0 hS hj hx λo ho a1 w1 hp=> ?_
 obtain⟨iR,h1,nD⟩:=fT o ho;obtain⟨e,bJ,aJ⟩:=o;dsimp only at h1 hp;cases e with
 |normal=>exact hK _ _ iR a1 w1 h1 nD hp
 |exit i=>
  simp only[H0]at h1;subst h1;obtain⟨y,hy,hcv⟩:=nD _ (Zd2.2 rfl);have:=hQ y hy (by rw[hcv.e];simp) a1 w1 (iT.L9 hw hcv hp);rw[hcv.e]at this;exact this
 |ret=>
  simp only[H0]at h1;subst h1;obtain⟨y,hy,hcv⟩:=nD _ (Zd2.2 rfl);have:=hQ y hy (by rw[hcv.e];simp) a1 w1 (iT.L9 hw hcv hp);rw[hcv.e]at this;exact this
theorem iT.go{ρ dB:Pos->Loc}{st aJ:St}{a1:Act}{w w1:World}{bJ:Fr}(hw:Ck J){d:Code}{g:Fr->St->XS}(hd:cQ P C r J ts x nt d g){outs iR:List XO}{Q:Exit->Act->World->Prop}
  (h:g bJ aJ=some iR) (nD:∀z∈iR,∃y∈outs,Cv y z) (hp:iT C J ts x nt ρ st w bJ aJ a1 w1)
  (hQ:∀o∈outs,∀a' w',iT C J ts x nt ρ st w o.2.1 o.2.2 a' w'->Q (l9 o.1) a' w'):d.wpIn (Fc r) 0 P Q a1 w1:=by
 obtain⟨dB,S,k1,k2,E,hj,hx⟩:=hp;refine hd bJ aJ iR dB a1 w1 Q h S hj hx λo ho a' w' hp=> ?_
 obtain⟨y,hy,hcv⟩:=nD o ho;have:=hQ y hy a' w' (iT.L9 hw hcv (iT.trans k1 k2 E hp));rw[hcv.e]at this;exact this
theorem cQ.seq(hw:Ck J){c d:Code}{f g:Fr->St->XS}(hc:cQ P C r J ts x nt c f)(hd:cQ P C r J ts x nt d g):cQ P C r J ts x nt (.seq c d) (He f g):=
 λfr st outs ρ a w Q h hS hj hx hQ=>wpIn_seq (hc.seq' hw h hS hj hx (λbJ aJ iR a1 w1 h1 nD hp=>hp.go (dB:=ρ) hw hd h1 nD hQ) λo ho _=>hQ o ho)
theorem cQ.block(hw:Ck J){id:Nat}{c:Code}{f:Fr->St->XS}(hc:cQ P C r J ts x nt c f):cQ P C r J ts x nt (.block id c) (aap id f):=by
 intro fr st outs ρ a w Q h hS hj hx hQ;unfold aap at h;split at h<;>first|(cases h;done)|skip
 rename_i VB h0;obtain⟨_,fT⟩:=tZ h;refine wpIn_block (hc fr st VB ρ a w _ h0 hS hj hx λo ho a1 w1 hp=> ?_);obtain⟨iR,h1,nD⟩:=fT o ho;obtain⟨e,bJ,aJ⟩:=o;dsimp only at h1 hp;have fin:∀e',iR=[(e',bJ,aJ)]->Q (l9 e') a1 w1:=λe' he=>by subst he;obtain⟨y,hy,hcv⟩:=nD _ (Zd2.2 rfl);have:=hQ y hy a1 w1 (iT.L9 hw hcv hp);rw[hcv.e]at this;exact this
 cases e with
 |normal=>simp only[H0]at h1;exact fin _ h1.symm
 |exit i=>
  dsimp only at h1;simp only[l9,Exit.inBlock];cases hb:Nat.beq i id with
  |true=>
   rw[hb]at h1;rw[Za8 (Za0 hb)];exact fin .normal (Zg7 h1).symm
  |false=>
   rw[hb]at h1;rw[Za5 (Zb4 hb)];exact fin (.exit i) (Zg7 h1).symm
 |ret=>simp only[H0]at h1;exact fin _ h1.symm
theorem cQ.cond{c:Operand}{o:dK}{d e:Code}{f g:Fr->St->XS}(ho:jY c=some o)(hd:cQ P C r J ts x nt d f)(he:cQ P C r J ts x nt e g):cQ P C r J ts x nt (.cond c d e) (VA o f g):=by
 intro fr st outs ρ a w Q h hS hj hx hQ;unfold VA at h;rw[GK]at h;unfold mR at h;split at h<;>first|(cases h;done)|skip
 rename_i v hv;dsimp only at h;split at h<;>first|(cases h;done)|skip
 rename_i b;have hb:=(oh ho hS.F hv).fS;have hb:a.eval c= .bool b:=by rw[<-hb];exact C3
 cases b
 .exact wpIn_cond_false hb (he fr st outs ρ a w Q h hS hj hx hQ)
 .exact wpIn_cond_true hb (hd fr st outs ρ a w Q h hS hj hx hQ)
theorem cQ.loop(hw:Ck J){c:Code}{f:Fr->St->XS}(hc:cQ P C r J ts x nt c f)(n:Nat):cQ P C r J ts x nt (.loop c) (Mc f n):=by
 intro fr st outs ρ a w Q h hS hj hx hQ;refine wpIn_loop_rounds n ?_
 suffices H:∀(n:Nat)(bJ:Fr)(aJ:St)(iR:List XO)(a1:Act)(w1:World),Mc f n bJ aJ=some iR->(∀z∈iR,∃y∈outs,Cv y z)->iT C J ts x nt ρ st w bJ aJ a1 w1->
    Code.roundsIn (Fc r) 0 P c Q n a1 w1 from
  H n fr st outs a w h (λz hz=>⟨z,hz,.refl z⟩) ⟨ρ,hS,λ_ _=>rfl,Za4 _,je.refl _ _ _,hj,hx⟩
 intro n;induction n with
 |zero=>intro bJ aJ iR a1 w1 h;cases h
 |succ n ih=>
  intro bJ aJ iR a1 w1 h1 nD hp;obtain⟨dB,S,k1,k2,E,hj1,TO⟩:=hp;rw[roundsIn_succ];refine hc.seq' hw (g:=λfr st=>Mc f n fr st) h1 S hj1 TO (λrA jz VC a2 w2 h2 adJ vS=> ?_) λo ho _ a' w' vS=> ?_
  .refine ih rA jz VC a2 w2 h2 (λz hz=> ?_) (iT.trans k1 k2 E vS);obtain⟨y,hy,hc1⟩:=adJ z hz;obtain⟨y',Om,hc2⟩:=nD y hy;exact⟨y',Om,⟨hc2.e.trans hc1.e,λp v h=>hc1.f p v (hc2.f p v h),λp v h=>hc1.h p v (hc2.h p v h),hc2.n.trans hc1.n⟩⟩
  .obtain⟨y,hy,hcv⟩:=nD o ho;have:=hQ y hy a' w' (iT.L9 hw hcv (iT.trans k1 k2 E vS));rw[hcv.e]at this;exact this
def noS:Fr->St->XS:=λ_ _=>none
theorem cQ.no{c:Code}:cQ P C r J ts x nt c noS:=λ_ _ _ _ _ _ _ h=>by cases h
def ua(base:Code->Option (Fr->St->XS))(n:Nat):Code->Fr->St->XS
 |  .seq a b=>match base (.seq a b)with
    |some f=>f
    |none=>He (ua base n a) (ua base n b)
 |  .block id a=>match base (.block id a)with
    |some f=>f
    |none=>aap id (ua base n a)
 |  .loop a=>match base (.loop a)with
    |some f=>f
    |none=>Mc (ua base n a) n
 |  .cond c a b=>match base (.cond c a b)with
    |some f=>f
    |none=>match jY c with
     |some o=>VA o (ua base n a) (ua base n b)
     |none=>noS
 |  c=>match base c with
    |some f=>f
    |none=>noS
theorem cQ.sp(hw:Ck J){base:Code->Option (Fr->St->XS)}{n:Nat}:∀c:Code,(∀t∈oq c,¬ts t)->(∀c f,(∀t∈oq c,¬ts t)->base c=some f->cQ P C r J ts x nt c f)->cQ P C r J ts x nt c (ua base n c):=by
 intro c b7 hb;induction c with
 |seq a b QO QT=>
  unfold ua;split
  .exact hb _ _ b7 (by assumption)
  .exact .seq hw (QO λt ht=>b7 t (Zg5 _ ht)) (QT λt ht=>b7 t (Zi3 _ ht))
 |block id a ih=>
  unfold ua;split
  .exact hb _ _ b7 (by assumption)
  .exact .block hw (ih b7)
 |loop a ih=>
  unfold ua;split
  .exact hb _ _ b7 (by assumption)
  .exact .loop hw (ih b7) n
 |cond c a b QO QT=>
  unfold ua;split
  .exact hb _ _ b7 (by assumption)
  . split
    .exact .cond (by assumption) (QO λt ht=>b7 t (Zg5 _ ht)) (QT λt ht=>b7 t (Zi3 _ ht))
    .exact .no
 |_=>
  unfold ua;split
  .exact hb _ _ b7 (by assumption)
  .exact .no
def xz(P:Program)(tt:TT)(bf:gR XR)(m:Nat)(kp:List Nat)(nt:Nat)(c:Code):Option (Fr->St->XS):=match Go.Ai.RL tt nt c with
 |  some (g,ty)=>match P.underlying ty with
    |some (.map _ _)=>some (rgS bf m { g with ds:=key g.t18::key g.t19::g.ds.filter λp=> !(kp.any λt=>Pos.beq (key t) p) })
    |_=>none
 |  none=>match Ko c with
    |true=>none
    |false=>match pS tt nt c with
     |some ac=>some (aan (XQ bf m ac))
     |none=>none
theorem Kp{bf:gR XR}{call:ai}{m:Nat}{kp:List Nat}(hT:bH P tt)(hc:CK none bf call)(bE:ey P C call)(fk:o7 P tt C call)(hJ:Mb C J){c:Code}{f:Fr->St->XS}
   (b7:∀t∈oq c,¬ts t) (h:xz P tt bf m kp nt c=some f):cQ P C r J ts x nt c f:=by
 unfold xz at h;split at h
 .rename_i hg;(split at h<;>first|(cases h;done)|skip);rename_i hu;simp only[H0]at h;subst h;exact(zp.RL hT hc bE fk hg hu _).g hJ b7
 . (split at h<;>first|(cases h;done)|skip);(split at h<;>first|(cases h;done)|skip);rename_i QY;simp only[H0]at h;subst h;exact(G7.ac hT hc bE fk QY).one.g hJ b7
end
section
variable{P:Program}{tt:TT}{C:Cells}{ρ:Pos->Loc}{st:St}{w w':World}{nt:Nat}
theorem aV.L7{L:Nat}(hW:aV ρ C st w)(hr:∀a:Addr,a.block=L->w.cell? a=none)(hn:∀b x,st.heap.get b=some x->(ρ b).aq≠L)
   (hs:w'.heap.size=w.heap.size) (hk:∀k,k≠L->w'.heap[k]? =w.heap[k]?):aV ρ C st w':=by
 have cG:∀a v,C a=some v->a.block≠L:=λa v ha e=>by have h:=(hW.cZ a v ha).1;rw[hr a e]at h;cases h
 refine⟨λb x hb=> ?_,hW.inj,λa v ha=> ?_,λa v ha o ho=> ?_⟩
 .obtain⟨h1,h2,h3⟩:=hW.live b x hb;exact⟨h1,by rw[hs];exact h2,h3.of_heap (hk _ (hn b x hb))⟩
 .obtain⟨h1,h2⟩:=hW.cZ a v ha;exact⟨by rw[World.cell?_of_block (w:=w) (hk _ (cG a v ha))];exact h1,h2⟩
 .rw[World.cell?_of_block (w:=w) (a:=⟨a.block,o,none⟩) (hk _ (cG a v ha))];exact hW.whole a v ha o ho
theorem aV.Kq{L:Nat}{r:Loop}{o:Obj}(hW:aV ρ C st w)(hl:w.heap[L]? =some (.loop r))(hn:∀b x,st.heap.get b=some x->(ρ b).aq≠L):aV ρ C st (w.putObj L o):=
 hW.L7 (λa ha=>by subst ha;simp[World.cell?,hl]) hn World.putObj_size λk hk=>World.putObj_heap_other hk
theorem aV.aaq{L:Nat}{r:Option (List Deferred)}{o:Obj}(hW:aV ρ C st w)(hl:w.heap[L]? =some (.deferred r))(hn:∀b x,st.heap.get b=some x->(ρ b).aq≠L):aV ρ C st (w.putObj L o):=
 hW.L7 (λa ha=>by subst ha;simp[World.cell?,hl]) hn World.putObj_size λk hk=>World.putObj_heap_other hk
theorem zJ{ρ':Pos->Loc}{st':St}{L:Nat}(E:je ρ st w ρ' st' w')(hL:L<w.heap.size)(hn:∀b x,st.heap.get b=some x->(ρ b).aq≠L):(∀b x,st'.heap.get b=some x->(ρ' b).aq≠L)/\w'.heap[L]? =w.heap[L]? :=
 ⟨λb x hb=>by
  rcases E.mN b x hb with⟨b',x',jf,e⟩|h
  .rw[<-e];exact hn b' x' jf
  .omega,E.block L hL hn⟩
def Jz:xQ:=λ_ _ _ D=>D=[]
theorem Jz.stays:Mb C Jz:=λ_ _ _ _ _ _ _ h _ _ _ _ _=>h
theorem Jz.yj:Ck Jz:=λ_ _ _ _ _ h _ _=>h
def Da(C:Cells)(L D0:Nat)(r:Loop)(qz:Fr):xQ:=λρ st w D=>D=[]/\w.heap[L]? =some (.loop r)/\w.heap[D0]? =some (.deferred (some []))/\
 (∀b x,st.heap.get b=some x->(ρ b).aq≠L)/\(∀b x,st.heap.get b=some x->(ρ b).aq≠D0)/\eJ ρ st.next.toNat C qz r.tmps
theorem BJ{k:Nat}{o:Obj}(h:w.heap[k]? =some o):k<w.heap.size:=(Zc9.1 h).1
theorem Da.stays{L D0:Nat}{r:Loop}{qz:Fr}:Mb C (Da C L D0 r qz):=λρ st w D ρ' st' w' h _ _ k1 k2 E=>by
 obtain⟨h1,h2,h3,h4,h5,h6⟩:=h;obtain⟨f1,f2⟩:=zJ E (BJ h2) h4;obtain⟨g1,g2⟩:=zJ E (BJ h3) h5;exact⟨h1,f2.trans h2,g2.trans h3,f1,g1,h6.mono k1 k2⟩
theorem Da.yj{L D0:Nat}{r:Loop}{qz:Fr}:Ck (Da C L D0 r qz):=λρ st st' w D h hh hn=>by
 obtain⟨h1,h2,h3,h4,h5,h6⟩:=h;exact⟨h1,h2,h3,λb x hb=>h4 b x (hh b x hb),λb x hb=>h5 b x (hh b x hb),by rw[hn];exact h6⟩
abbrev mark(r:Nat):Deferred:={ target:= .collected r,args:= #[] }
def Hf(B:Nat):xQ:=λρ st w D=>B<=w.heap.size/\∃rs:List Nat,D=rs.map mark/\rs.Nodup/\∀r∈rs,B<=r/\w.heap[r]? =some (.deferred (some []))/\∀b x,st.heap.get b=some x->(ρ b).aq≠r
theorem Hf.stays{B:Nat}:Mb C (Hf B):=λρ st w D ρ' st' w' h _ _ k1 k2 E=>by
 obtain⟨hB,rs,h1,h2,h3⟩:=h;refine⟨Zc4 hB E.size,rs,h1,h2,λr hr=> ?_⟩;obtain⟨g0,g1,g2⟩:=h3 r hr;obtain⟨f1,f2⟩:=zJ E (BJ g1) g2;exact⟨g0,f2.trans g1,f1⟩
theorem Hf.yj{B:Nat}:Ck (Hf B):=λρ st st' w D h hh hn=>by
 obtain⟨hB,rs,h1,h2,h3⟩:=h;exact⟨hB,rs,h1,h2,λr hr=>let⟨g0,g1,g2⟩:=h3 r hr;⟨g0,g1,λb x hb=>g2 b x (hh b x hb)⟩⟩
def RR:List XO->List St->Option (List St)
 |[],acc=>some acc
 |  (e,_,st)::l,acc=>match e with
    |.normal=>RR l (st::acc)
    |_=>none
def Md{β:Type}:List Nat->List AV->Fr->(Fr->Option β)->Option β
 |[],[],fr,k=>k fr
 |p::ps,v::vs,fr,k=>mO (some v) (key p) fr λfr=>Md ps vs fr k
 |_,_,_,_=>none
def VD(ps:List Nat)(f:Fr->St->XS)(qz:Fr)(vs:List AV)(st:St):Option (List St):=Md ps vs qz λfr=>match f fr st with
 |some outs=>RR outs []
 |none=>none
theorem OK:∀{l:List XO}{acc Db:List St},RR l acc=some Db->(∀s∈acc,s∈Db)/\∀o∈l,o.1= .normal/\o.2.2∈Db
 |[],acc,Db,h=>by
  simp only[RR,H0]at h;subst h;exact⟨λ_ h=>h,λ_ h=>by cases h⟩
 |(e,fr,st)::l,acc,Db,h=>by
  unfold RR at h;cases e with
  | normal=>
    obtain⟨h1,h2⟩:=OK (l:=l) h;refine⟨λs hs=>h1 s (Za6 _ hs),λo ho=> ?_⟩;rcases Za9.1 ho with rfl|ho
    .exact⟨rfl,h1 _ (Zc2 ..)⟩
    .exact h2 o ho
  |_=>cases h
theorem JA{β:Type}{k:Fr->Option β}{z:β}:∀{ps:List Nat}{vs:List AV}{xs:List Value}{fr:Fr}{T:Array Value},Md ps vs fr k=some z->av ρ st.next.toNat C vs xs->eJ ρ st.next.toNat C fr T->T.size=nt->(∀p∈ps,p<nt)->
  ∃aY,k aY=some z/\eJ ρ st.next.toNat C aY ((ps.zip xs).foldl (λt (p,v)=>t.setIfInBounds p v) T)/\((ps.zip xs).foldl (λt (p,v)=>t.setIfInBounds p v) T).size=nt/\xs.length=ps.length
 |[],[],xs,fr,T,h,hv,hF,hs,_=>by
  have:=hv.l7;subst this;exact⟨fr,h,hF,hs,rfl⟩
 |p::ps,v::vs,xs,fr,T,h,hv,hF,hs,hp=>by
  obtain⟨x,rW,rfl,h1,h2⟩:=hv.cons_inv;unfold Md at h;rw[gM]at h;have hF':=eJ.put (nt:=nt) (a:=⟨T,[]⟩) (d:=some p) hF hs (λ_ h=>by cases h;exact hp p (Zc2 ..)) h1;obtain⟨aY,g1,g2,g3,g4⟩:=JA (T:=T.setIfInBounds p x) h h2 hF' (by simpa using hs) λq hq=>hp q (Za6 _ hq)
  exact⟨aY,g1,g2,g3,by simp[g4]⟩
 |[],_::_,_,_,_,h,_,_,_,_=>by cases h
 |_::_,[],_,_,_,h,_,_,_,_=>by cases h
def VE(P:Program)(C:Cells)(L D0:Nat)(r:Loop)(qz:Fr)(OM:List AV->St->Option (List St)):Prop:=
 ∀  (vs:List AV)(st:St)(Db:List St)(ρ:Pos->Loc)(w:World)(args:Array Value),OM vs st=some Db->aV ρ C st w->av ρ st.next.toNat C vs args.toList->Da C L D0 r qz ρ st w []->
    args.size=r.params.size/\RoundIn (Fc none) 0 P L r.fn ((r.params.zip args).foldl (λt (p,v)=>t.setIfInBounds p v) r.tmps) r.assign r.body w λe w'=>
     ∃s∈Db,e= .returned (.bool true)/\∃ρ',aV ρ' C s w'/\(∀b:Pos,b.toNat<st.next.toNat->ρ' b=ρ b)/\st.next.toNat<=s.next.toNat/\je ρ st w ρ' s w'
theorem acR{L D0:Nat}{r:Loop}{qz:Fr}{ps:List Nat}{f g:Fr->St->XS}(hp:r.params.toList=ps)(hr:r.state= .ready)(Lr:r.pending=none)(hs:r.tmps.size=nt)(aU:∀p∈ps,p<nt)
   (hA:cQ P C (some L) Jz (λ_=>False) #[] nt r.assign f) (hB:cQ P C (some L) Jz (λ_=>False) #[] nt r.body g):VE P C L D0 r qz (VD ps (He f g) qz):=by
 intro vs st Db ρ w args h hW hv hj;obtain⟨_,hl,_,L7,_,hF⟩:=hj;unfold VD at h;obtain⟨fr,h,hF1,Me,hlen⟩:=JA h hv hF hs aU;have adK:(ps.zip args.toList).foldl (λt (p,v)=>t.setIfInBounds p v) r.tmps=(r.params.zip args).foldl (λt (p,v)=>t.setIfInBounds p v) r.tmps:=by
   rw[<-hp, <-Array.foldl_toList,Array.toList_zip]
 rw[adK]at hF1 Me;refine⟨by rw[<-Zf1, <-Zf1,hp,hlen],roundIn_of_wpIn (F:=Fc none) trivial ?_⟩;split at h<;>first|(cases h;done)|skip
 rename_i outs hx;have fT:=(OK h).2;show r.assign.wpIn (Fc (some L)) 0 P _ _ w;refine hA.seq' Jz.yj hx ⟨hW,hF1,Me,rfl⟩ rfl (λ_ h=>h.elim) (λbJ aJ iR a1 w1 h1 nD gY=> ?_) λo ho cG=>(cG (fT o ho).1).elim
 obtain⟨dB,S1,k1,k2,E1,hD1,_⟩:=gY;obtain⟨far1,vW⟩:=zJ E1 (BJ hl) L7;rw[hl]at vW;refine⟨_,run_beginRound vW hr,?_⟩;have VF:=BJ vW;refine hB bJ aJ iR dB a1 _ _ h1 ⟨S1.W.Kq vW far1,S1.F,S1.size,rfl⟩ hD1 (λ_ h=>h.elim) λo ho a3 w3 Uv=> ?_
 obtain⟨y,hy,hcv⟩:=nD o ho;obtain⟨yF,zU⟩:=fT y hy;rw[<-hcv.e,yF];obtain⟨xP,S3,j1,j2,E3,_,_⟩:=Uv;have nY:=World.putObj_heap_same (o:= .loop { r with state:= .busy }) VF;obtain⟨far3,hl3⟩:=zJ E3 (by rw[World.putObj_size];exact VF) far1;rw[nY]at hl3;refine⟨_,_,run_endRound (P:=P) none hl3,y.2.2,zU,rfl,xP,?_,λb hb=>(j1 b (Zc5 hb k2)).trans (k1 b hb),by rw[hcv.n];exact Zc4 k2 j2,?_⟩
 .exact(S3.W.Kq hl3 far3).yj hcv.h hcv.n
 . have hrec:({ ({ r with state:= .busy }:Loop)with state:=if(none:Option Code).isNone then .ready else .done,pending:=none }:Loop)=r:=(by cases r;simp only at hr Lr;subst hr;subst Lr;rfl);rw[hrec];refine E1.trans ⟨E3.os,E3.tape,E3.output,by rw[World.putObj_size];have:=E3.size;rw[World.putObj_size]at this;exact this,λk hk hn=> ?_,λb x hb=> ?_⟩
   . by_cases e:k=L
     .  subst e;rw[World.putObj_heap_same (BJ hl3),vW]
     .  rw[World.putObj_heap_other e,E3.block k (by rw[World.putObj_size];exact hk) hn,World.putObj_heap_other e]
   .have:=E3.mN b x (hcv.h b x hb);rw[World.putObj_size]at this;exact this
end
structure YR where
 d:Nat
 dy:Nat
 xs:List dK
 l1:List bk
 l2:List bk
def Qf (d:Nat):List Oper->Nat->Option Nat
 |[],_=>none
 |  o ::l,i=>match o.op with
    | .call c=>match c.callee with
      | .value (.tmp e)=>match Nat.beq d e with
        |true=>some i
        |false=>Qf d l (i+1)
      |_=>Qf d l (i+1)
    |_=>Qf d l (i+1)
def XW(d:Nat)(o:Oper):Bool:=match o.dst with
 |some e=> !Nat.beq d e
 |none=>true
def aar (tt : TT)(nt:Nat):Code->Option YR
 |  .region _ ops false=>match ops[0]? with
    |some o0  =>match o0.op,o0.dst,o0.guard with
     |  .move (.tmp 0),some d,none=>match Qf d ops.toList 0 with
        |some j=>match ops[j]? with
         |  some oj=>match oj.op,oj.dst,oj.guard with
            | .call c,some dy,none=>match c.callee,iz c.args.toList,mz tt nt ops ops.toList []with
              | .value (.tmp d'),some xs,some l=>match Nat.beq d' d&&Nat.blt d nt&&Nat.blt dy nt&&Nat.blt 0 j&&Nat.blt j ops.size&&((ops.toList.drop 1).take (j - 1)).all (XW d)with
                |true=>some ⟨d,dy,xs,(l.drop 1).take (j - 1),l.drop (j+1)⟩
                |false=>none
              |_,_,_=>none
            |_,_,_=>none
         |none=>none
        |none=>none
     |_,_,_=>none
    |none=>none
 |_=>none
def Kr:Code->Bool
 |.region _ ops _=>ops.toList.any λo=>match o.op with|.move (.tmp 0)=>true|_=>false
 |.seq a b=>Kr a||Kr b
 |.cond _ a b=>Kr a||Kr b
 |.block _ a=>Kr a
 |.loop a=>Kr a
 |_=>false
section
variable(bf:gR XR)
def aas(OM:List AV->St->Option (List St))(y:YR)(fr:Fr)(st:St):XS:=mO none (key y.d) fr λfr=>match RP bf y.l1 fr st with
 |  some (_,bJ,aJ)=>J0 none bJ y.xs λvs=>match OM vs aJ with
    |some Db=>mO (some (.bool true)) (key y.dy) bJ λrA=>EA (λs=>match RP bf y.l2 rA s with
     |some o=>some [o]
     |none=>none) Db []
    |none=>none
 |none=>none
end
section
variable{P:Program}{tt:TT}{C:Cells}{bf:gR XR}{call:ai}{nt m:Nat}
theorem eJ.drop{ρ:Pos->Loc}{n d:Nat}{fr:Fr}{X:Array Value}(h:eJ ρ n C fr X)(v:Value):eJ ρ n C (fr.put none (key d)) (X.setIfInBounds d v):=λp u hp=>by
 by_cases e:key d=p
 .subst e;rw[T.ee]at hp;cases hp
 .rw[T.br _ e]at hp;obtain⟨y,hy,hr⟩:=h p u hp;refine⟨y,?_,hr⟩;rw[Zd6,hy];intro h';apply e;apply Pos.toNat_inj;rw[eo];have:=p.toNat_pos;omega
theorem JB{r:Option Nat}{ops:Array Oper}{Q:Exit->Act->World->Prop}{i:Nat}{rest:List Nat}{o:Oper}{a:Act}{w:World}(ho:ops[i]? =some o)(hg:o.guard=none)
  (h:o.uponIn (Fc r) 0 P a (wpOpsIn (Fc r) 0 P ops Q rest) Q ((o.semAt r a.eval).run P w)):wpOpsIn (Fc r) 0 P ops Q (i::rest) a w:=by
 rw[wpOpsIn_cons];unfold wpOpIn;rw[ho];simp only[Region.wanted,hg,Zg8];exact⟨λ_ _=>trivial,h⟩
theorem Ti(j k:Nat):List.range (j+1+1+k)=0::(List.range' 1 j++(j+1)::List.range' (j+2) k):=by rw[Zk3,show j+1+1+k=(j+1)+(k+1)by omega, <-List.range'_append_1,Zm5,Zm5 (s:=0+(j+1))];simp
theorem cQ.yld(hT:bH P tt)(hc:CK none bf call)(bE:ey P C call){L D0:Nat}{r:Loop}{qz:Fr}{x:Array Value}(JC:x[0]? =some (.func (.yield L) #[] #[]))
   {OM:List AV->St->Option (List St)} (aat:VE P C L D0 r qz OM) {c:Code} {y:YR} (hy:aar tt nt c=some y) (b7:∀t∈oq c,t≠0):
   cQ P C none (Da C L D0 r qz) (λt=>t=0) x nt c (aas bf OM y):=by
 unfold aar at hy;split at hy<;>first|(cases hy;done)|skip
 rename_i id ops;split at hy<;>first|(cases hy;done)|skip
 rename_i o0 h0;split at hy<;>first|(cases hy;done)|skip
 rename_i d hop0 hd0 hg0;split at hy<;>first|(cases hy;done)|skip
 rename_i j hj;split at hy<;>first|(cases hy;done)|skip
 rename_i oj hoj;split at hy<;>first|(cases hy;done)|skip
 rename_i cl dy hopj hdj hgj;split at hy<;>first|(cases hy;done)|skip
 rename_i d' xs l J7 fY hl;split at hy<;>first|(cases hy;done)|skip
 rename_i hb;simp only[H0]at hy;subst hy;simp only[Za7,Nat.beq_eq,Zp2]at hb;obtain⟨⟨⟨⟨⟨rfl,hd⟩,hdy⟩,hj0⟩,hjs⟩,Fl⟩:=hb;intro fr st outs ρ a w Q h hS hJ hx hQ;unfold aas at h;rw[gM]at h;dsimp only at h;split at h<;>first|(cases h;done)|skip
 rename_i e1 bJ aJ yF;obtain⟨rfl,hz1⟩:=Nj hc yF;rw[Iv]at h;unfold mR at h;split at h<;>first|(cases h;done)|skip
 rename_i vs gQ;dsimp only at h;split at h<;>first|(cases h;done)|skip
 rename_i Db hr;rw[gM]at h;obtain⟨_,fT⟩:=tZ h;have hlen:l.length=ops.size:=by rw[(mQ hl).1,Zf1]
 have vW:((l.drop 1).take (j - 1)).length=j - 1:=by rw[Zh5,Zo9,hlen];omega
 have nY:(l.drop (j+1)).length=ops.size - (j+1):=by rw[Zo9,hlen]
 apply wpIn_region;have acS:List.range ops.size=0::(List.range' 1 ((l.drop 1).take (j - 1)).length++(j::List.range' (j+1) (l.drop (j+1)).length)):=by rw[vW,nY];have:=Ti (j - 1) (ops.size - (j+1));rw[show j - 1+1+1+(ops.size - (j+1))=ops.size by omega,show j - 1+1=j by omega,show j - 1+2=j+1 by omega]at this;exact this
 rw[acS];refine JB h0 hg0 ?_;have hev0:a.eval (.tmp 0)= .func (.yield L) #[] #[]:=by
   have:=hx 0 rfl;rw[JC]at this;show a.tmps.getD 0 undef=_;simp[Zh7,this]
 have hsem:(o0.semAt none a.eval).run P w= .ok (.value (.func (.yield L) #[] #[])) w:=by
   show(execOp a.eval o0).run P w=_;unfold execOp;rw[hop0];simp only[Sem.run_pure,hev0]
 rw[hsem];show wpOpsIn (Fc none) 0 P ops Q _ (a.put o0.dst _) w;rw[hd0];show wpOpsIn (Fc none) 0 P ops Q _ ⟨a.tmps.setIfInBounds d' (.func (.yield L) #[] #[]),a.defers⟩ w;have adL:d'≠0:=b7 d' (by
   show d'∈ops.toList.filterMap (·.dst);rw[Zl2];exact⟨o0,by rw[Zk2];exact Zk0 h0,hd0⟩)
 have VG:∀(i:Nat)(o:Oper),ops[i]? =some o->∀t,o.dst=some t->t≠0:=λi o ho t ht=>b7 t (by
   show t∈ops.toList.filterMap (·.dst);rw[Zl2];exact⟨o,by rw[Zk2];exact Zk0 ho,ht⟩)
 have hsz0:a.tmps.size=nt:=hS.size
 refine D5 (ds:=[]) (ts:=λt=>t=0\/t=d') (x:=(a.tmps.setIfInBounds d' (.func (.yield L) #[] #[]))) (K:=λa' w'=>eP nt ρ C st w bJ aJ a' w') (λT' w1 hk hp=> ?_) _ _ w (λi hi o ho t ht=> ?_) (λ_ _=>rfl)
   (ot (nt:=nt) hT bE _ 1 _ bJ st aJ ρ _ w (λi ao hi=> ?_) hz1 ⟨hS.W,hS.F.drop _,by simpa using hsz0,rfl⟩ λa' w' hp=>hp)
 . obtain⟨dB,S1,k1,k2,E1⟩:=hp;have hJ1:=Da.stays _ _ _ _ _ _ _ hJ hS.W S1.W k1 k2 E1;have hD:a.defers=[]:=hJ.1;have Xb:=hJ1.2.1;have Jb:=dF fY S1.F gQ;obtain⟨eD,acT⟩:=aat vs aJ Db dB w1 (cl.args.map (⟨T',a.defers⟩:Act).eval) hr S1.W (by
     (rw[Zo8];have:(⟨T',a.defers⟩:Act).eval=(⟨T',[]⟩:Act).eval:=funext λ_=>C3);rw[this];exact Jb) (by rw[<-hD];exact hJ1)
   refine JB hoj hgj ?_;have hevd:(⟨T',a.defers⟩:Act).eval (.tmp d')= .func (.yield L) #[] #[]:=by
     have:=hk d' (.inr rfl);rw[Zj9]at this;simp[hsz0,hd]at this;show T'.getD d' undef=_;simp[Zh7,this]
   have adM:(oj.semAt none (⟨T',a.defers⟩:Act).eval).run P w1= .ok (.round L r.fn ((r.params.zip (cl.args.map (⟨T',a.defers⟩:Act).eval)).foldl (λt (p,v)=>t.setIfInBounds p v) r.tmps) r.assign r.body) w1:=(by show(execOp (⟨T',a.defers⟩:Act).eval oj).run P w1=_;unfold execOp;rw[hopj];simp only[resolve,J7,hevd,Deferred.ofValue,invoke,Sem.run_bind,Sem.run_pure,Result.andThen];have:=run_yield (P:=P) (args:= #[]++cl.args.map (⟨T',a.defers⟩:Act).eval) Xb (by simpa using eD);simpa using this);rw[adM];refine⟨λhd=>by simp[Fence.wide]at hd,acT.mono ?_⟩;rintro e w2 ⟨s,hs,rfl,kO,CY,k3,k4,E2⟩;show wpOpsIn (Fc none) 0 P ops Q _ ((⟨T',a.defers⟩:Act).put oj.dst _) w2;rw[hdj];show wpOpsIn (Fc none) 0 P ops Q _ ⟨T'.setIfInBounds dy (.bool true),a.defers⟩ w2;obtain⟨iR,h1,nD⟩:=fT s hs;(split at h1<;>first|(cases h1;done)|skip);rename_i o ho;simp only[H0]at h1;subst h1;obtain⟨e3,Ma,s3⟩:=o;obtain⟨rfl,hz3⟩:=Nj hc ho;obtain⟨y,hyo,hcv⟩:=nD _ (Zd2.2 rfl);have hF2:=eJ.put (nt:=nt) (a:=⟨T',[]⟩) (d:=some dy) (S1.F.mono k3 k4) S1.size (λ_ h=>by cases h;exact hdy) (aj.bool (C:=C) true);have hdy0:dy≠0:=VG j oj hoj dy hdj;rw[<-Ze8 (List.range' _ _)]
   refine D5 (ds:=[]) (ts:=λt=>t=0) (x:=T'.setIfInBounds dy (.bool true)) (K:=λa' w'=>eP nt kO C s w2 Ma s3 a' w') (λT2 w3 lK vS=> ?_) _ _ w2 (λi hi o ho t ht=>VG i o ho t ht) (λ_ _=>rfl)
     (ot (nt:=nt) hT bE _ (j+1) _ Ma s s3 kO _ w2 (λi ao hi=> ?_) hz3 ⟨CY,hF2,by simpa using S1.size,rfl⟩ λa' w' hp=>hp)
   . obtain⟨xP,S3,k5,k6,E3⟩:=vS;have K1:∀b:Pos,b.toNat<st.next.toNat->xP b=ρ b:=λb hb=>(k5 b (by omega)).trans ((k3 b (by omega)).trans (k1 b hb))
     have K2:st.next.toNat<=s3.next.toNat:=(by omega);have E:=(E1.trans E2).trans E3;show Q .normal _ _;have:=hQ y hyo ⟨T2,a.defers⟩ w3 (iT.L9 Da.yj hcv ⟨xP,S3,K1,K2,E,Da.stays _ _ _ _ _ _ _ hJ hS.W S3.W K1 K2 E,λt ht=>by
        subst ht;rw[<-hx 0 rfl,lK 0 rfl,Zd6 hdy0,hk 0 (.inl rfl),Zd6 adL]⟩)
     rw[hcv.e]at this;exact this
   .rw[Zc8]at hi;obtain⟨o,q1,q2,_⟩:=wD hl _ ao hi;exact⟨o,q1,q2⟩
 . rintro(rfl|rfl)
   .exact VG i o ho _ ht rfl
   . (rw[List.mem_range'_1,vW]at hi;have hm:o∈(ops.toList.drop 1).take (j - 1):=by rw[Zd3];refine⟨i - 1,?_⟩;rw[Zb8,Za8 (by omega),Zc8,show 1+(i - 1)=i by omega,Zg1];exact ho);have:=Zd0.1 Fl o hm;simp only[XW,ht,Zh1]at this;exact Zb4 this rfl
 .rw[Zb8]at hi;(split at hi<;>first|(cases hi;done)|skip);rw[Zc8]at hi;obtain⟨o,q1,q2,_⟩:=wD hl _ ao hi;exact⟨o,q1,q2⟩
end
def rfS (gf ntg:Nat)(Uw:Fr->Fr->St->XS)(og:dK)(fr:Fr)(st:St):XS:=NW none fr og λ
 |  .func f [] Nk=>match Nat.beq f gf&&Nat.ble (Nk.length+1) ntg with
    |true=>wA Nk 1 .e λfri=>match Uw fr fri st with
     |  some outs=>EA (λ|(e,_,s)=>match e with
        |.exit _=>none
        |_=>some [(.normal,fr,s)]) outs []
     |none=>none
    |false=>none
 |_=>none
section
variable{P:Program}{tt:TT}{C:Cells}{bf:gR XR}{call:ai}{nt m:Nat}{ts:Nat->Prop}{x:Array Value}
def ItOk(P:Program)(C:Cells)(nt:Nat)(ps:Array Nat)(assign body:Code)(ntg:Nat)(gc:Code)(Uw:Fr->Fr->St->XS):Prop:=
 ∀  (L D0:Nat)(r:Loop)(qz:Fr)(x:Array Value),r.state= .ready->r.pending=none->r.params=ps->r.assign=assign->r.body=body->r.tmps.size=nt->x[0]? =some (.func (.yield L) #[] #[])->
    cQ P C none (Da C L D0 r qz) (λt=>t=0) x ntg gc (Uw qz)
theorem cQ.rf{B gf:Nat}{kD:Func}{gc:Code}(hf:P.funcs[gf]? =some kD)(iH:(kD.name== "runtime.NumGoroutine")=false)(hb:kD.body=some gc)(aac:kD.results= #[]){g:Operand}{ps:Array Nat}{assign body:Code}{og:dK}
   (hg:jY g=some og) {Uw:Fr->Fr->St->XS} (hI:ItOk P C nt ps assign body kD.ntmps gc Uw):cQ P C none (Hf B) ts x nt (.rangeFunc g ps assign body) (rfS gf kD.ntmps Uw og):=by
 intro fr st outs ρ a w Q h hS hJ hx hQ;unfold rfS at h;rw[GK]at h;unfold mR at h;split at h<;>first|(cases h;done)|skip
 rename_i v hv;dsimp only at h;split at h<;>first|(cases h;done)|skip
 rename_i f Nk;split at h<;>first|(cases h;done)|skip
 rename_i Fq;simp only[Za7,Nat.beq_eq]at Fq;obtain⟨rfl,hle⟩:=Fq;have hle:=Za3 hle;rw[zk]at h;split at h<;>first|(cases h;done)|skip
 rename_i iR ho;obtain⟨_,fT⟩:=tZ h;obtain⟨x',y',hval,pU,Om⟩:=(oh hg hS.F hv).wz;have JC:x'= #[]:=by have:=pU.l7;exact Array.toList_eq_nil_iff.1 this
 subst JC;have hval:a.eval g= .func (.func f) #[] y':=by rw[<-hval];exact C3
 refine wpIn_rangeFunc λfn _=> ?_
 let L:Nat:=w.heap.size+1
 let r:Loop:={ state:= .ready,pending:=none,fn,tmps:=a.tmps,params:=ps,assign,body,defers:=w.heap.size }
 let W1:World:=(w.alloc (.deferred (some []))).alloc (.loop r)
 have hL1:W1.heap[L]? =some (.loop r):=by have:=World.alloc_heap_new (w.alloc (.deferred (some []))) (.loop r);rwa [World.size_alloc]at this
 have hold:∀k,k<w.heap.size->W1.heap[k]? =w.heap[k]? :=λk hk=>(heap_alloc_old _ _ (by simp;omega)).trans (heap_alloc_old w _ hk)
 have hK1:W1.heap[w.heap.size]? =some (.deferred (some [])):=(heap_alloc_old _ _ (by simp)).trans (World.alloc_heap_new w _);have hWs:W1.heap.size=w.heap.size+1+1:=by show((w.alloc _).alloc _).heap.size=_;simp
 have Ac:¬kD.name= "runtime.NumGoroutine" :=by simpa using iH
 refine⟨L,[mark w.heap.size],W1,{ target:= .fn (.func f) y',args:= #[.func (.yield L) #[] #[]] },W1,f, #[.func (.yield L) #[] #[]]++y',W1,run_enterLoop_outer _ _ _ _ _,?_,λ_ _=>trivial,?_,λhd=>by simp[Fence.wide]at hd,?_⟩
 .simp only[resolve,rangeCall,hval,Deferred.ofValue,Sem.run_pure];simp[Act.eval]
 .simp[invoke,callFunc,hf,Ac,hb]
 refine callsIn_of_wp hf hb trivial ?_;have QW:aV ρ C st W1:=hS.W.grow (by omega) hold;have hlen:(#[Value.func (.yield L) #[] #[]]++y').size=Nk.length+1:=by have:=Om.1;simp at this ⊢; omega
 obtain⟨X,hX⟩:∃X,X=(#[Value.func (.yield L) #[] #[]]++y')++Array.replicate (kD.ntmps - (#[Value.func (.yield L) #[] #[]]++y').size) undef:=⟨_,rfl⟩
 rw[<-hX];have XV:X[0]? =some (.func (.yield L) #[] #[]):=by rw[hX,Zg6 (by simp;omega),Zg6 (by simp)];rfl
 have hXs:X.size=kD.ntmps:=by rw[hX,Array.size_append,Array.size_replicate,hlen];omega
 have hfar:∀k,w.heap.size<=k->∀b z,st.heap.get b=some z->(ρ b).aq≠k:=λk hk b z hb e=>by have:=(hS.W.live b z hb).2.1;omega
 have hJ0:Da C L w.heap.size r fr ρ st W1 []:=⟨rfl,hL1,hK1,hfar L (by show w.heap.size<=w.heap.size+1;omega),hfar _ (Za4 _),hS.F⟩
 have hF0:eJ ρ st.next.toNat C (params 1 Nk .e) X:=uD Nk y'.toList 1 .e Om (λk z hz=>by
   rw[hX,Zg6,Array.getElem?_append_right]<;>simp at hz ⊢
   .exact hz
   .have:=(Zc9.1 hz).1;omega) (λp v hp=>by rw[T.cY]at hp;cases hp)
 refine hI L w.heap.size r fr X rfl rfl rfl rfl rfl hS.size XV _ st iR ρ ⟨X,[]⟩ W1 _ ho ⟨QW,hF0,hXs,rfl⟩ hJ0 (λt _=>rfl) λo RT a3 w3 hp=> ?_
 obtain⟨xP,S3,k1,k2,E3,hJ3,_⟩:=hp;obtain⟨h3D,h3l,h3d,h3f,XX,h3F⟩:=hJ3;obtain⟨VC,h2,nD⟩:=fT o RT;obtain⟨e,Ma,C9⟩:=o;dsimp only at h2 S3 k1 k2 E3 h3f XX h3F;have aby:(results kD a3.tmps).run P w3= .ok (.tuple #[]) w3:=by
   simp[results,aac]
 have hend:=run_endLoop (P:=P) h3l (by show LoopState.ready≠LoopState.busy;simp);have fin:VC=[(.normal,fr,C9)]->rangePost (Fc none) 0 P L Q { a with defers:=[mark w.heap.size]++a.defers } (.returned (.tuple #[])) w3:=λhe=>by
   (subst he;obtain⟨y,hy,hcv⟩:=nD _ (Zd2.2 rfl);refine⟨_,_,hend,?_⟩;show Q .normal _ _;have hLne:∀k,k≠L->(w3.putObj L (.loop { r with state:= .exhausted })).heap[k]? =w3.heap[k]? :=λk hk=>World.putObj_heap_other hk);have E:je ρ st w xP C9 (w3.putObj L (.loop { r with state:= .exhausted })):=by
     refine⟨E3.os,E3.tape,E3.output,?_,λk hk hn=> ?_,λb z hb=> ?_⟩
     .  rw[World.putObj_size];have:=E3.size;omega
     .  rw[hLne k (by show k≠w.heap.size+1;omega),E3.block k (by omega) hn,hold k hk]
     .  rcases E3.mN b z hb with h|h
        .exact .inl h
        .exact .inr (by omega)
   have hW3:=S3.W.Kq (o:= .loop { r with state:= .exhausted }) h3l h3f;have:=hQ y hy { a with defers:=[mark w.heap.size]++a.defers } _ (iT.L9 Hf.yj hcv ⟨xP,⟨hW3,h3F,hS.size,rfl⟩,k1,k2,E,?_,hx⟩)
   .rw[hcv.e]at this;exact this
   . obtain⟨hB,rs,h1,h2,h3⟩:=hJ;refine⟨Zc4 hB E.size,w.heap.size::rs,by show [mark w.heap.size]++a.defers=_;rw[h1];rfl,Zp7.2 ⟨λhm=> ?_,h2⟩,λk hk=> ?_⟩
     .  have:=BJ (h3 _ hm).2.1;omega
     .  rcases Za9.1 hk with rfl|hk
        .exact⟨hB,(hLne _ (by show w.heap.size≠w.heap.size+1;omega)).trans h3d,XX⟩
        .obtain⟨g0,g1,g2⟩:=h3 k hk;obtain⟨f1,f2⟩:=zJ E (BJ g1) g2;exact⟨g0,f2.trans g1,f1⟩
 cases e with
 |exit i=>cases h2
 |normal=>exact⟨h3D,_,aby,fin (Zg7 h2).symm⟩
 |ret=>exact⟨h3D,_,aby,fin (Zg7 h2).symm⟩
end
def sS:AV->Bool
 |.bool _=>true
 |.int _ _=>true
 |_=>false
def Qg(acc:Option AV)(v:AV):Bool:=match acc with
 |none=>true
 |some u=>eH u v
def IU (rs:List xB)(st:St):List XO->Option AV->Option AV
 |[],acc=>acc
 |  (e, bJ,aJ)::l,acc=>match e with
    |.exit _=>none
    | _ =>match b9 (λb=>kP b aJ.heap) bJ rs with
      | some vs=>match vs.all sS&&T.sub BE st.heap aJ.heap&&Qg acc (fR vs)with
        |true=>IU rs st l (some (fR vs))
        |false=>none
      |none=>none
def XY (ex:Fr->St->XS)(np:Nat)(rs:List xB)(args:List AV)(st:St):Option (AV×St):=match Nat.beq args.length np with
 |  true=>wA args 0 .e λfr=>match ex fr st with
    |some outs=>match outs with
     |  [(e,bJ,aJ)]=>match e with
        |.exit _=>none
        | _=>match b9 (λb=>kP b aJ.heap) bJ rs,Nat.ble st.next.toNat aJ.next.toNat with
          |some vs,true=>some (fR vs,aJ)
          |_,_=>none
     |  _=>match IU rs st outs none with
        |some v=>some (v,st)
        |none=>none
    |none=>none
 |false=>none
theorem aj.flat{ρ ρ':Pos->Loc}{n n':Nat}{C:Cells}{v:AV}{x:Value}(hf:sS v=true)(h:aj ρ n C v x):aj ρ' n' C v x:=by
 cases v<;>first|(cases hf;done)|skip
 .have:=h.fS;subst this;exact .bool _
 .have:=h.gL;subst this;exact .int _ _
theorem aj.adN{ρ ρ':Pos->Loc}{n n':Nat}{C:Cells}{vs:List AV}{x:Value}(hf:vs.all sS=true)(h:aj ρ n C (fR vs) x):aj ρ' n' C (fR vs) x:=by
 have tup:∀{x},aj ρ n C (.tuple vs) x->aj ρ' n' C (.tuple vs) x:=λ{x} h=>by
   cases h with
   |tuple l cs hl hh=>exact .tuple _ cs hl λi v v' hv vN=>(hh i v v' hv vN).flat (Zd0.1 hf v (Zb6 hv))
 unfold fR at h ⊢;split at h
 .exact h.flat (Zd0.1 hf _ (by simp))
 .exact tup h
theorem Mf{rs:List xB}{st:St}{v:AV}:∀{l:List XO}{acc:Option AV},IU rs st l acc=some v->(∀u,acc=some u->u=v)/\∀o∈l,(∀i,o.1≠ .exit i)/\∃vs,b9 (λb=>kP b o.2.2.heap) o.2.1 rs=some vs/\v=fR vs/\vs.all sS=true/\∀p u,st.heap.get p=some u->o.2.2.heap.get p=some u
 |[],acc,h=>by
  simp only[IU]at h;subst h;exact⟨λu h=>(Zg7 h).symm,λo ho=>by cases ho⟩
 |(e,   bJ,aJ)::l,acc,h=>by
  unfold IU at h
  have key:∀vs,(b9 (λb=>kP b aJ.heap) bJ rs=some vs)->(vs.all sS&&T.sub BE st.heap aJ.heap&&Qg acc (fR vs))=true->IU rs st l (some (fR vs))=some v->(∀i,e≠ .exit i)->
        (∀u,acc=some u->u=v)/\∀o∈(e,bJ,aJ)::l,(∀i,o.1≠ .exit i)/\∃vs,b9 (λb=>kP b o.2.2.heap) o.2.1 rs=some vs/\v=fR vs/\vs.all sS=true/\∀p u,st.heap.get p=some u->o.2.2.heap.get p=some u:=by
    intro vs gQ hb hr he;simp only[Za7]at hb;obtain⟨h1,h2⟩:=Mf hr;have hv:=h1 _ rfl;refine⟨λu hu=> ?_,λo ho=> ?_⟩
    .   subst hu;rw[<-hv];exact ov hb.2
    .   rcases Za9.1 ho with rfl|ho
        .exact⟨he,vs,gQ,hv.symm,hb.1.1,T.wK (λ_ _=>Kb) hb.1.2⟩
        .exact h2 o ho
  cases e with
  |exit i=>cases h
  | normal=>
    dsimp only at h;(split at h<;>first|(cases h;done)|skip);rename_i vs gQ;cases hb:(vs.all sS&&T.sub BE st.heap aJ.heap&&Qg acc (fR vs))with
    |false=>rw[hb]at h;cases h
    |true=>rw[hb]at h;exact key vs gQ hb h (λi=>by simp)
  | ret=>
    dsimp only at h;(split at h<;>first|(cases h;done)|skip);rename_i vs gQ;cases hb:(vs.all sS&&T.sub BE st.heap aJ.heap&&Qg acc (fR vs))with
    |false=>rw[hb]at h;cases h
    |true=>rw[hb]at h;exact key vs gQ hb h (λi=>by simp)
theorem RU{ex:Fr->St->XS}{np:Nat}{rs:List xB}{args:List AV}{st st':St}{v:AV}(h:XY ex np rs args st=some (v,st')):args.length=np/\st.next.toNat<=st'.next.toNat/\∃outs,ex (params 0 args .e) st=some outs/\
   ∀o∈outs,(∀i,o.1≠ .exit i)/\∃vs,b9 (λb=>kP b o.2.2.heap) o.2.1 rs=some vs/\v=fR vs/\(st'=o.2.2\/(st'=st/\vs.all sS=true/\∀p u,st.heap.get p=some u->o.2.2.heap.get p=some u)):=by
 unfold XY at h;split at h<;>first|(cases h;done)|skip
 rename_i hlen;rw[zk]at h;split at h<;>first|(cases h;done)|skip
 rename_i outs ho;refine⟨Za0 hlen,?_⟩;split at h
 . rename_i e bJ aJ
   have key:∀vs,b9 (λb=>kP b aJ.heap) bJ rs=some vs->Nat.ble st.next.toNat aJ.next.toNat=true->some (fR vs,aJ)=some (v,st')->(∀i,e≠ .exit i)->
        st.next.toNat<=st'.next.toNat/\∃outs,ex (params 0 args .e) st=some outs/\∀o∈outs,(∀i,o.1≠ .exit i)/\∃vs,b9 (λb=>kP b o.2.2.heap) o.2.1 rs=some vs/\v=fR vs/\(st'=o.2.2\/(st'=st/\vs.all sS=true/\∀p u,st.heap.get p=some u->o.2.2.heap.get p=some u)):=by
    intro vs gQ hn he cG;simp only[H0,Zb3]at he;obtain⟨rfl,rfl⟩:=he;refine⟨Za3 hn,_,ho,λo RT=> ?_⟩;have:=Zd2.1 RT;subst this;exact⟨cG,vs,gQ,rfl,.inl rfl⟩
   cases e with
   |exit i=>cases h
   |normal=>
    dsimp only at h;(split at h<;>first|(cases h;done)|skip);rename_i vs gQ hn;exact key vs gQ hn h (λi=>by simp)
   |ret=>
    dsimp only at h;(split at h<;>first|(cases h;done)|skip);rename_i vs gQ hn;exact key vs gQ hn h (λi=>by simp)
 . (split at h<;>first|(cases h;done)|skip);rename_i u hu;simp only[H0,Zb3]at h;obtain⟨rfl,rfl⟩:=h;refine⟨Za4 _,_,ho,λo RT=> ?_⟩;obtain⟨h1,vs,h2,h3,h4,h5⟩:=(Mf hu).2 o RT;exact⟨h1,vs,h2,h3,.inr ⟨rfl,h4,h5⟩⟩
section
variable{P:Program}{tt:TT}{C:Cells}
theorem Hg{fn:Func}{tmps:Array Value}{R:Ending->World->Prop}{ρ:Pos->Loc}{st:St}:∀(rs:List Nat)(w:World),rs.Nodup->(∀r∈rs,w.heap[r]? =some (.deferred (some []))/\∀b x,st.heap.get b=some x->(ρ b).aq≠r)->aV ρ C st w->
  (∀w2,aV ρ C st w2->w2.heap.size=w.heap.size->(∀k,k∉rs->w2.heap[k]? =w.heap[k]?)->w2.os=w.os->w2.tape=w.tape->w2.output=w.output->∃v,(results fn tmps).run P w2= .ok v w2/\R (.returned v) w2)->
  LeavesInM (Fc none) 0 P fn tmps R (rs.map mark) .returning w
 |[],w,_,_,hW,h=>h w hW rfl (λ_ _=>rfl) rfl rfl rfl
 |r ::rs,w,Fl,hr,hW,h=>by
  obtain⟨h1,h2⟩:=Zp7.1 Fl;obtain⟨g1,g2⟩:=hr r (Zc2 ..);refine⟨by simp,.inl ⟨r,_,rfl,run_takeDeferred g1,?_⟩⟩;refine Hg rs _ h2 (λk hk=> ?_) (hW.aaq g1 g2) λw2 CY hs hk ho ht MZ=> ?_
  .obtain⟨f1,f2⟩:=hr k (Za6 _ hk);exact⟨by rw[World.putObj_heap_other (λe=>h1 (by subst e;exact hk))];exact f1,f2⟩
  .refine h w2 CY (by rw[hs,World.putObj_size]) (λk jB=> ?_) ho ht MZ;rw[hk k (λhm=>jB (Za6 _ hm)),World.putObj_heap_other (λe=>jB (by subst e;exact Zc2 ..))]
theorem acU(hT:bH P tt){f np:Nat}{fn:Func}{c:Code}{ex:Fr->St->XS}{rs:List xB}(hf:P.funcs[f]? =some fn)(iH:(fn.name== "runtime.NumGoroutine")=false)(hb:fn.body=some c)
  (hx:∀B,cQ P C none (Hf B) (λ_=>False) #[] fn.ntmps c ex) (hr:kL tt fn.results.toList=some rs) (hle:np<=fn.ntmps):lQ P C f (XY ex np rs) where
 mono args st v st' h:=(RU h).2.1
 runs ρ st w args v st' bC h hW od:=by
  obtain⟨hlen,hn,outs,ho,fT⟩:=RU h;have bQ:(callFunc f bC.toArray).run P w= .ok (.enter f bC.toArray) w:=by
   have Ac:¬fn.name= "runtime.NumGoroutine" :=(by simpa using iH);simp[callFunc,hf,Ac,hb]
  rw[bQ];simp only[Reaches];refine callsIn_wide (n:=0) |>.1 (callsIn_of_wp_marks hf hb trivial ?_);have eD:bC.length<=fn.ntmps:=by rw[<-od.1,hlen];exact hle
  have hS:lS fn.ntmps ρ C (params 0 args .e) st { tmps:=bC.toArray++Array.replicate (fn.ntmps - bC.toArray.size) undef,defers:=[] } w:=by
   refine⟨hW,?_,?_,rfl⟩
   .    refine uD args bC 0 .e od (λj x hx=> ?_) (λp v hp=>by rw[T.cY]at hp;cases hp);have hj:j<bC.length:=(Za1.1 hx).1;rw[Zc7,Zg6 (by simpa using hj)];simpa using hx
   .    simp;omega
  show c.wpIn (Fc none) 0 P _ _ w;refine hx w.heap.size _ st outs ρ _ w _ ho hS ⟨Za4 _,[],rfl,List.nodup_nil,λ_ h=>by cases h⟩ (λ_ h=>h.elim) λo RT a' w' hp=> ?_
  obtain⟨dB,S1,k1,k2,E,⟨hB,ks,hD,Fl,yI⟩,_⟩:=hp;obtain⟨cG,vs,gQ,hv,jg⟩:=fT o RT;simp only[qY]at gQ;have key:LeavesInM (Fc none) 0 P fn a'.tmps (λ|.returned v',w''=>kT ρ C st w v st' v' w''|_,_=>False) a'.defers .returning w':=by
   (rw[hD];(refine Hg ks w' Fl (λr hr=>(yI r hr).2) S1.W λw2 CY hs yG zY ht MZ=> ?_);obtain⟨y,yF,zU⟩:=o8 hT CY S1.F hr gQ;refine⟨y,yF,?_⟩;have rM:∀k,k<w.heap.size->w2.heap[k]? =w'.heap[k]? :=λk aU=>yG k λhm=>by have:=(yI k hm).1;omega);rcases jg with rfl|⟨rfl,QJ,Vi⟩
   .    rw[hv];exact⟨dB,zU,k1,k2,CY,⟨zY.trans E.os,ht.trans E.tape,MZ.trans E.output,by rw[hs];exact E.size,λk hk hn=>(rM k hk).trans (E.block k hk hn),E.mN⟩⟩
   .    rw[hv];refine⟨ρ,zU.adN QJ,λ_ _=>rfl,Za4 _,hW.back Vi k1 CY (by rw[hs];exact E.size),⟨zY.trans E.os,ht.trans E.tape,MZ.trans E.output,by rw[hs];exact E.size,λk hk hn=>(rM k hk).trans (E.block k hk hn),λb x hb=>.inl ⟨b,x,hb,rfl⟩⟩⟩
  obtain⟨e,bJ,aJ⟩:=o;cases e with
  |exit i=>exact(cG i rfl).elim
  |normal=>exact key
  |ret=>exact key
def abz(P:Program)(tt:TT)(bf:gR XR)(m:Nat)(nt:Nat)(OM:List AV->St->Option (List St))(c:Code):Option (Fr->St->XS):=match aar tt nt c with
 |some y=>some (aas bf OM y)
 |  none=>match Kr c with
    |true=>none
    |false=>xz P tt bf m [] nt c
def Qh(P:Program)(tt:TT)(bf:gR XR)(m:Nat)(kp:List Nat)(nt gf:Nat)(kD:Func):Code->Option (Fr->St->XS)
 |  .rangeFunc g ps a b=>match jY g,kD.body with
    |some og,some gc=>match (oq gc).all (λt=> !Nat.beq t 0)&&ps.toList.all (λp=>Nat.blt p nt)&&kD.results.isEmpty with
     |true=>some (rfS gf kD.ntmps (λqz=>ua (abz P tt bf m kD.ntmps (VD ps.toList (He (ua (xz P tt bf m kp nt) m a) (ua (xz P tt bf m kp nt) m b)) qz)) m gc) og)
     |false=>none
    |_,_=>none
 |c=>xz P tt bf m kp nt c
def UX(P:Program)(tt:TT)(O:dQ)(G:T cj)(m d:Nat)(kp:List Nat)(gf:Nat)(kD fn:Func):List AV->St->Option (AV×St):=
 match fn.body,kL tt fn.results.toList,Nat.ble (fn.params.size+fn.nfree) fn.ntmps with
 |some c,some rs,true=>XY (ua (Qh P tt (Bj none O G m d) m kp fn.ntmps gf kD) m c) (fn.params.size+fn.nfree) rs
 |_,_,_=>λ_ _=>none
theorem aau{bf:gR XR}{call:ai}{m nt gf B:Nat}{kp:List Nat}{kD:Func}(hT:bH P tt)(hc:CK none bf call)(bE:ey P C call)(fk:o7 P tt C call)(hf:P.funcs[gf]? =some kD)(iH:(kD.name== "runtime.NumGoroutine")=false)
   {c:Code} {f:Fr->St->XS} (h:Qh P tt bf m kp nt gf kD c=some f):cQ P C none (Hf B) (λ_=>False) #[] nt c f:=by
 have hR:∀{c f},xz P tt bf m kp nt c=some f->cQ P C none (Hf B) (λ_=>False) #[] nt c f:=λh=>Kp hT hc bE fk Hf.stays (λ_ _ h=>h) h
 unfold Qh at h;split at h
 . rename_i g ps a b;(split at h<;>first|(cases h;done)|skip);rename_i og gc hg hgb;(split at h<;>first|(cases h;done)|skip);rename_i Fq;simp only[H0]at h;subst h;simp only[Za7]at Fq;obtain⟨⟨c1,c2⟩,c3⟩:=Fq;have hd0:∀t∈oq gc,¬(λt=>t=0) t:=λt ht e=>by have:=Zd0.1 c1 t ht;subst e;simp at this
   (refine cQ.rf hf iH hgb (by simpa using c3) hg λL D0 r qz x hr hp TR ha hb hs JC=> ?_);have rd:∀c,cQ P C (some L) Jz (λ_=>False) #[] nt c (ua (xz P tt bf m kp nt) m c):=λc=>cQ.sp Jz.yj c (λ_ _ h=>h) λc f _ h=>Kp hT hc bE fk Jz.stays (λ_ _ h=>h) h
   have aat:VE P C L D0 r qz (VD ps.toList (He (ua (xz P tt bf m kp nt) m a) (ua (xz P tt bf m kp nt) m b)) qz):=acR (by rw[TR]) hr hp hs (λp hp'=>by
     have:=Zd0.1 c2 p hp';simpa using this) (by rw[ha];exact rd a) (by rw[hb];exact rd b)
   (refine cQ.sp Da.yj gc hd0 λc f b7 h=> ?_);unfold abz at h;split at h
   .rename_i y hy;simp only[H0]at h;subst h;exact cQ.yld hT hc bE JC aat hy b7
   . (split at h<;>first|(cases h;done)|skip);exact Kp hT hc bE fk Da.stays b7 h
 .exact hR h
theorem Zq(hm:P.follows .mixedOrders=true)(hT:bH P tt){O:dQ}{G:T cj}(hO:oc P C O)(GJ:jU O)(hG:KV P tt G){f gf m d:Nat}{kp:List Nat}{fn kD:Func}(hf:P.funcs[f]? =some fn)
   (iH:(fn.name== "runtime.NumGoroutine")=false) (hgf:P.funcs[gf]? =some kD) (Qo:(kD.name== "runtime.NumGoroutine")=false):lQ P C f (UX P tt O G m d kp gf kD fn):=by
 have bE:=DF (C:=C) hm hT hO GJ hG m d;have hcm:=D7 (G:=G) GJ m d
 have key:∀c rs,fn.body=some c->kL tt fn.results.toList=some rs->Nat.ble (fn.params.size+fn.nfree) fn.ntmps=true->
    lQ P C f (XY (ua (Qh P tt (Bj none O G m d) m kp fn.ntmps gf kD) m c) (fn.params.size+fn.nfree) rs):=λc rs hb hr hle=>
   acU hT hf iH hb (λB=>cQ.sp Hf.yj c (λ_ _ h=>h) λc f _ h=>aau hT (El none O G m d) bE (Eg hm hT bE hcm) hgf Qo h) hr (Za3 hle)
 unfold UX;split
 .exact key _ _ (by assumption) (by assumption) (by assumption)
 .exact⟨λ_ _ _ _ h=>(by cases h),λ_ _ _ _ _ _ _ h=>(by cases h)⟩
end
end
section
open Go
def KW:List AV->St->Option (AV×St)
 |[v],st=>some (v,st)
 |_,_=>none
theorem Wo{P:Program}{C:Cells}{f:FuncId}{fn:Func}(hf:P.funcs[f]? =some fn)(iH:(fn.name== "runtime.NumGoroutine")=false)(hb:fn.body.isNone=true)(hx:Extern.findNext fn=none)
  (he:Extern.find fn=some Extern.AbiNoEscape.same):lQ P C f KW where
 mono args st v st' h:=by unfold KW at h;split at h<;>cases h;exact Za4 _
 runs ρ st w args v st' bC h hW hv:=by
  unfold KW at h;split at h<;>cases h;obtain⟨x,xs,rfl,h1,h2⟩:=hv.cons_inv;have:=h2.l7;subst this;have bQ:(callFunc f [x].toArray).run P w= .ok (.value x) w:=by rw[run_callFunc_extern hf iH hb hx he];show((Extern.AbiNoEscape.same #[x]).run P w).andThen _=_;have:Extern.AbiNoEscape.same #[x]=pure x:=rfl;rw[this];rfl
  rw[bQ];exact⟨ρ,h1,λ_ _=>rfl,Za4 _,hW,je.refl _ _ _⟩
theorem Qr{P:Program}{tt:TT}{O:dQ}{G:T cj}{m d f:Nat}{fn:Func}{c:Code}(hm:P.follows .mixedOrders=true)(hT:bH P tt)(hG:KV P tt G)
  (hO:oc P (λ_=>none) O) (GJ:jU O) (hf:P.funcs[f]? =some fn) (iH:¬fn.name= "runtime.NumGoroutine") (hb:fn.body=some c) {b:Bool}
  (h:Bj (R:=Bool) false O G m d f [] { heap:= .e,next:= .h } (λv _=>eH v (.bool b))=true) (w:World):
  Calls P f #[] w λe w'=>e= .returned (.bool b)/\Go.RowKit.Below w.heap.size w w':=by
 rw[El false O G m d]at h;unfold mR at h;split at h<;>first|(cases h;done)|skip
 rename_i x hx;obtain⟨v,aJ⟩:=x;have hv:=ov h;simp only at hv;subst hv;have hr:=DF hm hT hO GJ hG m d (λ_=>⟨0,0,0⟩) { heap:= .e,next:= .h } w f [] (.bool b) aJ [] hx (xH (λ_ _ h=>by cases h) (λ_ _ h=>by cases h)) av.nil;have bQ:(callFunc f ([]:List Value).toArray).run P w= .ok (.enter f #[]) w:=by simp[callFunc,hf,iH,hb]
 rw[bQ]at hr;refine Calls.mono hr λe w' he=> ?_
 cases e with
 |returned x=>
  obtain⟨ρ',h1,_,_,_,hE⟩:=he;have:=h1.fS;subst this;exact⟨rfl,hE.os,hE.tape,hE.output,hE.size,λk hk=>hE.block k hk λb x hb=>by rw[T.cY]at hb;cases hb⟩
 |panicked c=>exact he.elim
 |outgrown=>exact he.elim
def CL:Nat->AV->Bool
 |_,.bool _=>true
 |_,.int _ _=>true
 |_,.str _=>true
 |_,.ah=>true
 |n+1,.agg l=>l.all (CL n)
 |n+1,.tuple l=>l.all (CL n)
 |n+1,.fl xs _=>xs.all λr=>r.all (CL n)
 |_,_=>false
theorem BK:∀(n:Nat){v:AV},CL n v=true->Plain v
 |0,v,h=>by cases v<;>first|(cases h;done)|exact .bool _|exact .int _ _|exact .str _|exact .ah
 |n+1,v,h=>by
  cases v<;>first|(cases h;done)|exact .bool _|exact .int _ _|exact .str _|exact .ah|skip
  .exact .fl λcs hc v hv=>BK n (Zd0.1 (Zd0.1 h cs hc) v hv)
  .exact .agg λv hv=>BK n (Zd0.1 h v hv)
  .exact .tuple λv hv=>BK n (Zd0.1 h v hv)
theorem Plain.all{n:Nat}{l:List AV}(h:l.all (CL n)=true):∀v∈l,Plain v:=λv hv=>BK n (Zd0.1 h v hv)
theorem Ws{l:List AV}(h:l.all sS=true):kX (.tuple l):= .tuple λv hv=>by have:=Zd0.1 h v hv;cases v<;>first|(cases this;done)|exact .bool _|exact .int _ _
def JU(d:Nat)(A:List AV)(r:AV):List AV->St->Option (AV×St):=λargs st=>match xI (args.map (cV st d)) A with
 |true=>some (r,st)
 |false=>none
theorem Wr{P:Program}{C:Cells}{O:dQ}{G:T cj}{m n f d:Nat}{A:List AV}{r:AV}(bE:∀C:Cells,ey P C (oe O G m n))(ha:∀a∈A,Plain a)(hr:Plain r)(hb:kX r)
  (h:Bj (R:=Bool) false O G m n f A { heap:= .e,next:= .h } (λv _=>eH v r)=true):lQ P C f (JU d A r):=by
 have h1:=XL (C:=C) (d:=d) (As:=[A]) bE (λB hB=>by rw[Zd2.1 hB];exact ha) hr hb (by simpa using h);have key:∀args st x,JU d A r args st=some x->Nb d [A] r args st=some x:=λargs st x hx=>by
  unfold JU at hx;split at hx<;>first|(cases hx;done)|skip
  rename_i hq;simp only[H0]at hx;subst hx;exact ab9 A (Zd2.2 rfl) (BD hq)
 exact⟨λargs st v st' hs=>h1.mono args st v st' (key _ _ _ hs),λρ st w args v st' bC hs=>h1.runs ρ st w args v st' bC (key _ _ _ hs)⟩
end
end Go.Ai
