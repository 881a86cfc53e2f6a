/- Loops over maps in all orders, loops over functions. -/
import Derived.Test.YtgjikjcfjddloaaGreatDoorREvalE
import Derived.Maps.RangeRun
import Derived.Laws.EntriesVeiled
import Derived.RangeFuncRecord
set_option linter.all false
namespace Go.Ai
noncomputable section
open Go Go.RowKit
section
variable{ρ ρ':Pos->Loc}{C:Cells}{st aQ:St}{w w1 w':World}{nt r:Nat}{fr cr:Fr}{a a1:Act}
theorem aZ.back(hW:aZ ρ C st w)(hk:aT st aQ)(aU:∀b:Pos,b.toNat<st.next.toNat->ρ' b=ρ b)(fB:aZ ρ' C aQ w1)(hs:w.heap.size<=w1.heap.size):aZ ρ C st w1:=by
 refine⟨λb y hb=> ?_,hW.inj,λa u ha=>⟨(fB.ej a u ha).1,(hW.ej a u ha).2⟩,fB.whole⟩;obtain⟨g1,g2,g3⟩:=hW.live b y hb;obtain⟨_,_,k3⟩:=fB.live b y (hk b y hb);refine⟨g1,Zd3 g2 hs,?_⟩;rw[aU b g1]at k3;cases y with
 |cells cs fz=>
  obtain⟨c,e,fr,q1,q2,q3,q4,q5⟩:=k3;obtain⟨c0,e0,cw,p1,p2,p3,p4,p5⟩:=g3;refine⟨c,e,fr,q1,q2,q3,⟨q4.1,λi v x hv hx=> ?_⟩,q5⟩;obtain⟨y0,hy0,Hr⟩:=p4.get hv;exact(q4.2 i v x hv hx).down Hr aU
 |map es clock=>
  obtain⟨es',q1,q2,q3⟩:=k3;obtain⟨es0,p1,p2,p3⟩:=g3;refine⟨es',q1,q2,λi e e' he lK=> ?_⟩;obtain⟨a1,a2,a3⟩:=q3 i e e' he lK;have hi:i<es0.size:=by rw[<-p2];exact(Za1.1 he).1
  obtain⟨b1,b2,_⟩:=p3 i e _ he (Zg1 hi);exact⟨a1.down b1 aU,a2.down b2 aU,a3⟩
 |jW s pos=>exact k3
 |typed t cs=>
  obtain⟨c,fr,q1,q2,q3,q4,q5⟩:=k3;obtain⟨c0,cw,p1,p2,p3,p4,p5⟩:=g3;refine⟨c,fr,q1,q2,q3,⟨q4.1,λi v x hv hx=> ?_⟩,q5⟩;obtain⟨y0,hy0,Hr⟩:=p4.get hv;exact(q4.2 i v x hv hx).down Hr aU
theorem fV.sub{n:Nat}{tmps:Array Value}(h:fV ρ n C cr tmps)(hf:∀p v,fr.get p=some v->cr.get p=some v):fV ρ n C fr tmps:=λp v hp=>h p v (hf p v hp)
theorem nP.back(hS:nP nt ρ C fr st a w)(hf:∀p v,fr.get p=some v->cr.get p=some v)(hk:aT st aQ)(h:gh nt ρ C st w cr aQ a1 w1):
  nP nt ρ C fr st a1 w1/\j0 ρ st w ρ st w1:=by
 obtain⟨eH,S1,k1,k2,E⟩:=h;refine⟨⟨hS.W.back hk k1 S1.W E.size,λp v hp=> ?_,S1.size,S1.defers⟩,⟨E.os,E.tape,E.output,E.size,E.block,λb x hb=>.inl ⟨b,x,hb,rfl⟩⟩⟩;obtain⟨x,hx,hv⟩:=S1.F p v (hf p v hp);obtain⟨y,_,hy⟩:=hS.F p v hp;exact⟨x,hx,hv.down hy k1⟩
theorem aZ.iter{m:Option Nat}{s c:Nat}{seen:Array Nat}(hW:aZ ρ C st w)(hr:w.heap[r]? =some (.mapIter m s seen c))(hn:∀b x,st.heap.get b=some x->(ρ b).az≠r)
   (hs:w'.heap.size=w.heap.size) (hk:∀k,k≠r->w'.heap[k]? =w.heap[k]?):aZ ρ C st w':=by
 have cL:∀a v,C a=some v->a.block≠r:=λa v ha e=>by have h:=(hW.ej a v ha).1;unfold World.cell? at h;rw[e,hr]at h;cases h
 refine⟨λb x hb=> ?_,hW.inj,λa v ha=> ?_,λa v ha o ho=> ?_⟩
 .obtain⟨h1,h2,h3⟩:=hW.live b x hb;exact⟨h1,by rw[hs];exact h2,h3.of_heap (hk _ (hn b x hb))⟩
 .obtain⟨h1,h2⟩:=hW.ej a v ha;exact⟨by rw[World.cell?_of_block (w:=w) (hk _ (cL a v ha))];exact h1,h2⟩
 .rw[World.cell?_of_block (w:=w) (a:=⟨a.block,o,none⟩) (hk _ (cL a v ha))];exact hW.whole a v ha o ho
end
def T.sub{α:Type}(f:α->α->Bool):T α->T α->Bool
 |.e,_=>true
 |.n l v r,.e=>(match v with|none=>true|some _=>false)&&T.sub f l .e&&T.sub f r .e
 |  .n l v r,.n l' v' r'=>(match v with
    |none=>true
    |some a=>match v' with
     |some b=>f a b
     |none=>false)&&T.sub f l l'&&T.sub f r r'
theorem T.AR{α:Type}{f:α->α->Bool}(hf:∀a b,f a b=true->a=b):∀{t u:T α},T.sub f t u=true->∀p v,t.get p=some v->u.get p=some v
 |.e,_,_,p,v,h=>by rw[T.ei]at h;cases h
 | .n l x r,.e,hs,p,v,h=>by
   simp only[T.sub,Zb0]at hs;cases p with
   |h=>simp only[T.get]at h;subst h;simp at hs
   |o p=>have:=T.AR hf hs.1.2 p v h;rw[T.ei]at this;cases this
   |i p=>have:=T.AR hf hs.2 p v h;rw[T.ei]at this;cases this
 | .n l x r,.n l' x' r',hs,p,v,h=>by
   simp only[T.sub,Zb0]at hs;cases p with
   |h=>
    simp only[T.get]at h ⊢; subst h;have h1:=hs.1.1;cases x' with
    |none=>simp at h1
    |some y=>simp at h1;rw[hf _ _ h1]
   |o p=>exact T.AR hf hs.1.2 p v h
   |i p=>exact T.AR hf hs.2 p v h
structure RG where
 t17:Nat
 t18:Nat
 t19:Nat
 t20:Nat
 l2:List bw
 x:eZ
 l4:List bw
 body:AC
 ds:List Pos
abbrev XR:=Option (jZ×Fr×St)
section
variable(bn:js XR)(m:Nat)(g:RG)
def exK(c:AC)(fr:Fr)(st:St):XR:=Qv none bn m c fr st (λfr st=>some (.normal,fr,st)) (λi fr st=>some (.exit i,fr,st)) (λfr st=>some (.ret,fr,st))
def afr(k v:AV)(fr:Fr)(st:St):XR:=
 oK (some (.tuple [.bool true,k,v])) (key g.t18) fr λfr=>oK (some (.bool true)) (key g.t19) fr λfr=>oK (some (.tuple [k,v])) (key g.t20) fr λfr=>
    Sn none bn g.l4 fr st λfr st=>exK bn m g.body fr st
def SV(clock:Nat):List (AV×AV×Nat)->Bool
 |[]=>true
 |e::es=>Nat.blt e.2.2 clock&&es.all (λx=> !Nat.beq x.2.2 e.2.2)&&SV clock es
end
section
variable{P:Program}{tt:TT}{C:Cells}
def LV(P:Program)(C:Cells)(nt:Nat)(c:Code)(ex:Fr->St->XR):Prop:=
 ∀  (fr bh:Fr)(st st':St)(e:jZ)(ρ:Pos->Loc)(a:Act)(w:World)(Q:Exit->Act->World->Prop),ex fr st=some (e,bh,st')->nP nt ρ C fr st a w->
    (∀a' w',gh nt ρ C st w bh st' a' w'->Q (nZ e) a' w')->fD P c Q a w
theorem adv{bn:js XR}{call:ai}(hc:CK none bn call)(m:Nat)(c:AC)(fr:Fr)(st:St):exK bn m c fr st=exec call m c fr st:=by
 unfold exK;rw[Pn none hc];cases exec call m c fr st with
 |none=>rfl
 |some x=>obtain⟨e,fr,st⟩:=x;cases e<;>rfl
theorem LV.ac(hT:bZ P tt){bn:js XR}{call:ai}(hc:CK none bn call)(bV:fO P C call)(gJ:rQ P tt C call){nt m:Nat}{c:Code}{a:AC}(h:tq tt nt c=some a):
 LV P C nt c (exK bn m a):=λfr bh st st' e ρ ac w Q hx hS hQ=>(qN hT bV gJ m).1 c a fr bh st st' e ρ ac w Q h (by rw[<-adv hc];exact hx) hS hQ
def XJ:List Pos->Fr->Fr
 |[],fr=>fr
 |p::ps,fr=>XJ ps (fr.put none p)
theorem SW:∀(ps:List Pos)(fr:Fr)(p:Pos)(v:AV),(XJ ps fr).get p=some v->fr.get p=some v
 |[],_,_,_,h=>h
 |q::ps,fr,p,v,h=>by
  have h:=SW ps _ p v h;by_cases hq:q=p
  .subst hq;rw[T.eO]at h;cases h
  .rwa [T.bG _ hq]at h
theorem aav{clock:Nat}:∀{es:List (AV×AV×Nat)},SV clock es=true->(∀e∈es,e.2.2<clock)/\(es.map (·.2.2)).Nodup
 |[],_=>⟨λ_ h=>by simp at h,by simp⟩
 |e ::es,h=>by
  simp only[SV,Zb0]at h;obtain⟨⟨h1,h2⟩,h3⟩:=h;obtain⟨i1,i2⟩:=aav h3;refine⟨λx hx=> ?_,?_⟩
  . rcases Zb2.1 hx with rfl|hx
    .exact Za6 h1
    .exact i1 x hx
  .rw[Zb8,Zr3];refine⟨λhm=> ?_,i2⟩;obtain⟨x,hx,he⟩:=Ze3.1 hm;have:=Zd9.1 h2 x hx;simp[he]at this
def Mv(bn:js XR)(m:Nat)(g:RG)(A B:Fr×St)(e:AV×AV×Nat):Prop:=
 ∃f1 s1,afr bn m g e.1 e.2.1 A.1 A.2=some (.normal,f1,s1)/\(∀p v,B.1.get p=some v->f1.get p=some v)/\((B=A/\aT A.2 s1)\/B.2=s1)
section
variable{bn:js XR}{call:ai}{nt m:Nat}{g:RG}{nQ:Array Oper}{o0 o1 o4:Oper}{i3 i4 b0 b1:Nat}{rest:Code}{HE:List bw}{bs:List Nat}
def abr(g:RG)(o0 o1:Oper)(nQ:Array Oper)(rest:Code)(i3 i4 b0 b1:Nat):Code:=
 .seq (.region i3 #[o0,o1] false) (.seq (.cond (.tmp g.t19) .skip (.exit b0)) (.block b1 (.seq (.region i4 nQ false) rest)))
structure afs(tt:TT)(nt:Nat)(g:RG)(o0 o1 o4:Oper)(nQ:Array Oper)(rest:Code)(HE:List bw)(bs:List Nat):Prop where
 n0:o0.op= .next (.tmp g.t17) false/\o0.guard=none/\o0.dst=some g.t18
 n1:o1.op= .extract (.tmp g.t18) 0/\o1.guard=none/\o1.dst=some g.t19
 n4:nQ[0]? =some o4/\o4.op= .entry (.tmp g.t17)/\o4.guard=none/\o4.dst=some g.t20
 lt:g.t17<nt/\g.t18<nt/\g.t19<nt/\g.t20<nt
 ne:g.t17≠g.t18/\g.t17≠g.t19/\g.t18≠g.t19
 c4:oe tt nt nQ nQ.toList bs=some HE
 l4:HE.tail=g.l4
 r4:tq tt nt rest=some g.body
structure LI(C:Cells)(nt:Nat)(g:RG)(X:Fr×St)(b CB:Pos)(es:List (AV×AV×Nat))(since r:Nat)(kT:Pos->Loc)(LW:St)(w0:World)(seen:Array Nat)(ρ:Pos->Loc)(a:Act)(w:World):Prop where
 S:nP nt ρ C X.1 X.2 a w
 k1:∀p:Pos,p.toNat<LW.next.toNat->ρ p=kT p
 k2:LW.next.toNat<=X.2.next.toNat
 E:j0 kT LW w0 ρ X.2 w
 ip:(ρ CB).az=r/\(ρ CB).base=0/\CB.toNat<X.2.next.toNat
 at17:X.1.get (key g.t17)=some (.ptr CB 0)
 mp:X.2.heap.get b=some (.map es since)
 it:∃c,w.heap[r]? =some (.mapIter (some (ρ b).az) since seen c)/\since<=c
 OD:∀p x,X.2.heap.get p=some x->(ρ p).az≠r
 late:w0.heap.size<=r
 cl:X.1.get (key g.t18)=none/\X.1.get (key g.t19)=none
theorem xO{ops:Array Oper}{K:Act->World->Prop}{i:Nat}{rest:List Nat}{o:Oper}{a:Act}{w w':World}{v:Value}(ho:ops[i]? =some o)(hg:o.guard=none)
  (hr:(execOp a.eval o).run P w= .ok (.value v) w') (hQ:qK P ops K rest (a.put o.dst v) w'):qK P ops K (i::rest) a w:=by
 unfold qK DM;rw[ho];simp only[Region.wanted,hg,Zh0];unfold Sv;rw[hr];exact hQ
theorem eval_put{a:Act}{t:Nat}{v:Value}(h:t<a.tmps.size):(a.put (some t) v).eval (.tmp t)=v:=by
 simp[Act.put,Act.eval,h]
theorem OE{a:Act}{t s:Nat}{v:Value}(h:t≠s):(a.put (some t) v).eval (.tmp s)=a.eval (.tmp s):=by
 simp[Act.put,Act.eval,Ze7 h]
theorem LI.round(hT:bZ P tt)(hc:CK none bn call)(bV:fO P C call)(gJ:rQ P tt C call)(hR:afs tt nt g o0 o1 o4 nQ rest HE bs)
   {A:Fr×St} {b CB:Pos} {es:List (AV×AV×Nat)} {since r:Nat} {kT:Pos->Loc} {LW:St} {w0:World} {seen:Array Nat} {ρ:Pos->Loc} {a:Act} {w:World}
   (L:LI C nt g A b CB es since r kT LW w0 seen ρ a w) (ee:SV since es=true) {Q:Exit->Act->World->Prop}
   (abt:(∀e∈es,seen.contains e.2.2=true)->∀a',nP nt ρ C A.1 A.2 a' w->Q (.exit b0) a' w)
   (ai9:∀e∈es,seen.contains e.2.2=false->∃B,Mv bn m g A B e/\B.1.get (key g.t17)=some (.ptr CB 0)/\B.2.heap.get b=some (.map es since)/\B.1.get (key g.t18)=none/\B.1.get (key g.t19)=none/\
     ∀ρ' a' w',LI C nt g B b CB es since r kT LW w0 (seen.push e.2.2) ρ' a' w'->Q .normal a' w'):
   fD P (abr g o0 o1 nQ rest i3 i4 b0 b1) Q a w:=by
 obtain⟨c,hr,hsc⟩:=L.it;obtain⟨g1,g2,es',q1,q2,q3⟩:=L.S.W.live b _ L.mp;obtain⟨aO,E9⟩:=aav ee;have OG:∀(i:Nat)(e':MapEntry),es'[i]? =some e'->∃e,es[i]? =some e/\aq ρ A.2.next.toNat C e.1 e'.key/\aq ρ A.2.next.toNat C e.2.1 e'.val/\e.2.2=e'.born:=λi e' h=>by
   have hi:i<es.length:=(by rw[q2];exact(Zd8.1 h).1);exact⟨_,H4 hi,q3 i _ e' (H4 hi) h⟩
 have hold:∀x∈es'.toList,x.born<since:=λx hx=>by
   obtain⟨i,hi⟩:=Zc7.1 hx;obtain⟨e,h1,_,_,h2⟩:=OG i x (by simpa using hi);rw[<-h2];exact aO e (Zb4 h1)
 have jO:es'.toList.map (·.born)=es.map (·.2.2):=by
   apply Zf3;intro i;simp only[Zb6,Zh7];cases h:es'[i]? with
   | none=>
     have:es.length<=i:=(by rw[q2];exact Array.getElem?_eq_none_iff.1 h);rw[Zb5 this];rfl
   | some x=>
     obtain⟨e,h1,_,_,h2⟩:=OG i x h;rw[h1];simp[h2]
 have TZ:a.eval (.tmp g.t17)= .pointer (some ⟨r,0,none⟩):=by
   have h:=qH (x:= .tmp g.t17) (o:= .t (key g.t17)) rfl L.S.F (v:= .ptr CB 0) L.at17;obtain⟨_,h⟩:=h.fR;rw[h,L.ip.1,L.ip.2.1]
 have e9:=L.S.size;have s18:∀(v:Value),g.t18<(a.put (some g.t18) v).tmps.size:=λv=>by rw[Act.ja,e9];exact hR.lt.2.1
 have UE:r<w.heap.size:=(Zd8.1 hr).1;unfold abr;apply DN;apply Gn;show qK P _ _ [0,1] a w;rcases run_next_at (P:=P) w o0.type r (ρ b).az since c seen es' since hr q1 hold hsc with⟨h0,cq⟩|⟨e',lK,w1,Aj,cq⟩
 . refine xO (i:=0) (o:=o0) rfl hR.n0.2.1 (v:= .tuple #[.bool false]) (w':=w) (by simp[execOp,hR.n0.1,TZ,cq,Result.andThen]) ?_;rw[hR.n0.2.2];refine xO (i:=1) (o:=o1) rfl hR.n1.2.1 (v:= .bool false) (w':=w) (by simp[execOp,hR.n1.1,eval_put (e9 ▸hR.lt.2.1),Instr.extract,Result.andThen]) ?_;rw[hR.n1.2.2];apply DN;refine QL (eval_put (by rw[Act.ja,e9];exact hR.lt.2.2.1)) (acT ?_);refine abt (λe he=> ?_) _ ⟨L.S.W,λp v hp=> ?_,by rw[Act.ja,Act.ja];exact e9,by rw[Act.jT,Act.jT];exact L.S.defers⟩
   .obtain⟨i,hi⟩:=Zc7.1 he;have Og:i<es'.size:=(by rw[<-q2];exact(Za1.1 hi).1);obtain⟨e2,h1,_,_,h2⟩:=OG i _ (Zg1 Og);rw[hi]at h1;cases h1;rw[h2];have hem:leftOf es' seen= #[]:=Zo6 h0;unfold leftOf at hem;rw[Array.filter_eq_empty_iff]at hem;have:=hem es'[i] (Array.getElem_mem Og);simpa using this
   .rw[Fu (λh=>by simp at h;subst h;rw[L.cl.2]at hp;cases hp),Fu (λh=>by simp at h;subst h;rw[L.cl.1]at hp;cases hp)];exact L.S.F p v hp
 . have hr1:w1.heap[r]? =some (.mapIter (some (ρ b).az) since seen c):=(by rcases Aj with rfl|rfl<;>exact hr);have Br:w1.heap[(ρ b).az]? =some (.map es' since):=(by rcases Aj with rfl|rfl<;>exact q1);have IM:=Go.MapKept.heap_set (o':= .mapIter (some (ρ b).az) since (seen.push e'.born) since) hr1;obtain⟨w2,jy⟩:∃w2,w2=Go.ChangeMaps.setBlock w1 r (.mapIter (some (ρ b).az) since (seen.push e'.born) since):=⟨_,rfl⟩
   (change (Go.ChangeMaps.setBlock w1 r (.mapIter (some (ρ b).az) since (seen.push e'.born) since)).heap[r]? =_/\∀k,k≠r->(Go.ChangeMaps.setBlock w1 r (.mapIter (some (ρ b).az) since (seen.push e'.born) since)).heap[k]? =_ at IM;rw[<-jy]at IM cq;have Bz:w2.heap.size=w.heap.size:=(by rw[jy];rcases Aj with rfl|rfl<;>simp[Go.ChangeMaps.setBlock]<;>rfl);have kF:∀k,k≠r->w2.heap[k]? =w.heap[k]? :=λk hk=>(IM.2 k hk).trans (by rcases Aj with rfl|rfl<;>rfl));have DK:w2.os=w.os/\w2.tape=w.tape/\w2.output=w.output:=(by rw[jy];rcases Aj with rfl|rfl<;>exact⟨rfl,rfl,rfl⟩);clear jy Aj;have Ht:aZ ρ C A.2 w2:=L.S.W.iter hr L.OD Bz kF;have hen:(Instr.entry (.pointer (some ⟨r,0,none⟩))).run P w2= .ok (.tuple #[e'.key,e'.val]) w2:=
     run_entry_at _ r _ since seen es' since e' IM.1 ((kF _ (L.OD b _ L.mp)).trans q1) (by simp[leftOf]at lK;simpa using lK.1) (jO ▸E9)
   obtain⟨i,hi⟩:=Zc7.1 lK;have AI:e'∈es'.toList/\seen.contains e'.born=false:=(by simpa [leftOf]using lK);obtain⟨j,hj⟩:=Zc7.1 AI.1;obtain⟨e,h1,v1,v2,h2⟩:=OG j e' (by simpa using hj);obtain⟨B,⟨f1,s1,hx,hf,hB⟩,b17,bm,b18,b19,hQ⟩:=ai9 e (Zb4 h1) (by rw[h2];exact AI.2);refine xO (i:=0) (o:=o0) rfl hR.n0.2.1 (v:= .tuple #[.bool true,e'.key,e'.val]) (w':=w2) (by simp[execOp,hR.n0.1,TZ,cq,Result.andThen]) ?_;rw[hR.n0.2.2];refine xO (i:=1) (o:=o1) rfl hR.n1.2.1 (v:= .bool true) (w':=w2) (by simp[execOp,hR.n1.1,eval_put (e9 ▸hR.lt.2.1),Instr.extract,Result.andThen]) ?_;rw[hR.n1.2.2];apply DN;refine Sw (eval_put (by rw[Act.ja,e9];exact hR.lt.2.2.1)) (acS ?_);apply QK;apply DN;apply Gn;have Ka:nQ.size=g.l4.length+1:=(by have h:HE.length=nQ.size:=(by rw[(oN hR.c4).1,Zg3]);obtain⟨h4,_⟩:=Zd8.1 hR.n4.1;have h4:0<nQ.size:=h4;rw[<-hR.l4,List.length_tail];omega);rw[Ka,Zk0,Zl2];refine xO (i:=0) (o:=o4) hR.n4.1 hR.n4.2.2.1 (v:= .tuple #[e'.key,e'.val]) (w':=w2) (by simp[execOp,hR.n4.2.1,OE hR.ne.1.symm,OE hR.ne.2.1.symm,TZ,hen,Result.andThen]) ?_;rw[hR.n4.2.2.2];unfold afr at hx;simp only[jg]at hx;rw[Np none hc]at hx;unfold oO at hx;(split at hx<;>first|(cases hx;done)|skip);rename_i y hy;simp only[adv hc]at hx;have hvt:aq ρ A.2.next.toNat C (.tuple [.bool true,e.1,e.2.1]) (.tuple #[.bool true,e'.key,e'.val]):= .tX ((ay.nil.cons v2).cons v1 |>.cons (.bool true));have hve:aq ρ A.2.next.toNat C (.tuple [e.1,e.2.1]) (.tuple #[e'.key,e'.val]):= .tX ((ay.nil.cons v2).cons v1);have F1:=fV.put (nt:=nt) (d:=some g.t18) L.S.F e9 (λ_ h=>by cases h;exact hR.lt.2.1) hvt;have F2:=fV.put (nt:=nt) (d:=some g.t19) F1 (by rw[Act.ja];exact e9) (λ_ h=>by cases h;exact hR.lt.2.2.1) (.bool true);have F3:=fV.put (nt:=nt) (d:=some g.t20) F2 (by rw[Act.ja,Act.ja];exact e9) (λ_ h=>by cases h;exact hR.lt.2.2.2) hve;refine qM (nt:=nt) hT bV g.l4 1 _ y.1 A.2 y.2 ρ _ w2 (λi ao hi=> ?_) hy ⟨Ht,F3,by rw[Act.ja,Act.ja,Act.ja];exact e9,by rw[Act.jT,Act.jT,Act.jT];exact L.S.defers⟩ λa3 w3 hp=> ?_
   .rw[<-hR.l4,List.getElem?_tail]at hi;obtain⟨o,k1,k2,_⟩:=AG hR.c4 (i+1) ao hi;exact⟨o,by rw[Nat.add_comm];exact k1,k2⟩
   obtain⟨BC,S3,k1,k2,k3⟩:=hp;(refine(qN hT bV gJ m).1 rest g.body y.1 f1 y.2 s1 .normal BC a3 w3 _ hR.r4 hx S3 λa4 w4 hp=> ?_);have hP:=gh.trans k1 k2 k3 hp;show Q .normal a4 w4;have S2:nP nt ρ C A.1 A.2 a w2:=⟨Ht,L.S.F,e9,L.S.defers⟩
   have hE2:j0 kT LW w0 ρ A.2 w2:=⟨DK.1.trans L.E.os,DK.2.1.trans L.E.tape,DK.2.2.trans L.E.output,by rw[Bz];exact L.E.size,λk hk hn=>(kF k (by have:=L.late;omega)).trans (L.E.block k hk hn),λb x hb=>L.E.oJ b x hb⟩
   obtain⟨XK,S4,l1,l2,E4⟩:∃XK,nP nt XK C B.1 B.2 a4 w4/\(∀p:Pos,p.toNat<A.2.next.toNat->XK p=ρ p)/\A.2.next.toNat<=B.2.next.toNat/\j0 ρ A.2 w2 XK B.2 w4:=by
     rcases hB with⟨rfl,hk⟩|hB
     .  obtain⟨S,E⟩:=S2.back hf hk hP;exact⟨ρ,S,λ_ _=>rfl,Za5 _,E⟩
     .  obtain⟨XK,S,l1,l2,E⟩:=hP;rw[<-hB]at S l2 E;exact⟨XK,⟨S.W,S.F.sub hf,S.size,S.defers⟩,l1,l2,E⟩
   have h4r:w4.heap[r]? =some (.mapIter (some (ρ b).az) since (seen.push e.2.2) since):=(by rw[E4.block r (by rw[Bz];exact UE) L.OD,h2];exact IM.1);refine hQ XK a4 w4 ⟨S4,λp hp=>(l1 p (Zd3 hp L.k2)).trans (L.k1 p hp),Zd4 L.k2 l2,hE2.trans E4,?_,b17,bm,⟨since,?_,Za5 _⟩,λp x hp=> ?_,L.late,b18,b19⟩
   .rw[l1 CB L.ip.2.2];exact⟨L.ip.1,L.ip.2.1,Zd3 L.ip.2.2 l2⟩
   .rw[l1 b g1];exact h4r
   . rcases E4.oJ p x hp with⟨p',x',hp',e1⟩|h
     .  rw[<-e1];exact L.OD p' x' hp'
     .  rw[Bz]at h;omega
theorem DY:∀(ps:List Pos)(fr:Fr)(p:Pos),p∈ps\/fr.get p=none->(XJ ps fr).get p=none
 |[],_,_,h=>h.elim (λh=>by simp at h) id
 |q ::ps,fr,p,h=>DY ps _ p (by
  by_cases hq:q=p
  .subst hq;exact .inr (T.eO _ _ _)
  . rcases h with h|h
    .   rcases Zb2.1 h with h|h
        .exact(hq h.symm).elim
        .exact .inl h
    .   exact .inr (by rw[T.bG _ hq];exact h))
theorem aZ.slot{ρ ρ':Pos->Loc}{st:St}{w:World}(hW:aZ ρ C st w)(aU:∀p:Pos,p.toNat<st.next.toNat->ρ' p=ρ p):aZ ρ' C ⟨st.heap,st.next.succ⟩ w:=by
 have hl:∀p x,st.heap.get p=some x->ρ' p=ρ p:=λp x hp=>aU p (hW.live p x hp).1
 refine⟨λp x hp=> ?_,λp q x y hp hq h=> ?_,λa v ha=>⟨(hW.ej a v ha).1,λp x hp=> ?_⟩,hW.whole⟩
 .obtain⟨h1,h2,h3⟩:=hW.live p x hp;rw[hl p x hp];exact⟨by rw[Pos.aB];exact Nat.lt_succ_of_lt h1,h2,h3.mono aU (by rw[Pos.aB];omega)⟩
 .rw[hl p x hp,hl q y hq]at h;exact hW.inj p q x y hp hq h
 .rw[hl p x hp];exact(hW.ej a v ha).2 p x hp
end
end
section
variable{P:Program}{tt:TT}{C:Cells}
def idxS:List AV->St->Option (AV×St)
 |[.str a,.int .u8 c],st=>some (.int .i64 (Lib.indexByte (a.map UInt8.ofNat) c.toNat.toUInt8),st)
 |_,_=>none
def Wb:List AV->St->Option (AV×St)
 |[.str a,.int .u8 c],st=>some (.int .i64 (Lib.countByte (a.map UInt8.ofNat) c.toNat.toUInt8),st)
 |_,_=>none
theorem aid{bs:ByteArray}{a:List Nat}(h:bs.data.toList.map UInt8.toNat=a):a.map UInt8.ofNat=bs.data.toList:=by
 rw[<-h,Zh1];have:(UInt8.ofNat∘UInt8.toNat)=id:=by funext c;simp
 rw[this,Zr5]
theorem UF{f:FuncId}{fn:Func}{s:List AV->St->Option (AV×St)}{X:List UInt8->UInt8->Int}{e:Array Value->Sem Value}(hs:∀args st,s args st=match args with
   |[.str a,.int .u8 c]=>some (.int .i64 (X (a.map UInt8.ofNat) c.toNat.toUInt8),st)
   |_=>none)
  (hr:∀(b:ByteArray)(c:Int)(w:World),(e #[.string b,.int .u8 c]).run P w= .ok (.int .i64 (X b.data.toList c.toNat.toUInt8)) w)
  (hf:P.funcs[f]? =some fn) (gV:(fn.name== "runtime.NumGoroutine")=false) (hb:fn.body.isNone=true) (hx:Extern.findNext fn=none) (he:Extern.find fn=some e):lq P C f s where
 mono args st v st' h:=by rw[hs]at h;split at h<;>cases h;exact Za5 _
 runs ρ st w args v st' bJ h hW hv:=by
  rw[hs]at h;split at h<;>cases h;rename_i a c;obtain⟨x,xs,rfl,h1,h2⟩:=hv.cons_inv;obtain⟨y,ys,rfl,h3,h4⟩:=h2.cons_inv;have:=h4.mU;subst this;obtain⟨b,rfl,jO⟩:=h1.eR;have:=h3.iI;subst this;have cq:(callFunc f [Value.string b,Value.int .u8 c].toArray).run P w= .ok (.value (.int .i64 (X b.data.toList c.toNat.toUInt8))) w:=by rw[run_callFunc_extern hf gV hb hx he];show((e #[.string b,.int .u8 c]).run P w).andThen _=_;rw[hr];rfl
  rw[cq];refine⟨ρ,?_,λ_ _=>rfl,Za5 _,hW,j0.refl _ _ _⟩;rw[aid jO];exact .int _ _
theorem aev{f:FuncId}{fn:Func}(hf:P.funcs[f]? =some fn)(gV:(fn.name== "runtime.NumGoroutine")=false)(hb:fn.body.isNone=true)(hx:Extern.findNext fn=none)
  (he:Extern.find fn=some Extern.BytealgIndexByte.indexByte):lq P C f idxS:=
 UF (X:=Lib.indexByte) (λargs st=>by unfold idxS;split<;>first|rfl|(split<;>first|rfl|simp_all)) (λb c w=>Lib.run_indexByteString b c w) hf gV hb hx he
theorem aew{f:FuncId}{fn:Func}(hf:P.funcs[f]? =some fn)(gV:(fn.name== "runtime.NumGoroutine")=false)(hb:fn.body.isNone=true)(hx:Extern.findNext fn=none)
  (he:Extern.find fn=some Extern.BytealgCount.count):lq P C f Wb:=
 UF (X:=λl c=>Lib.countByte l c) (λargs st=>by unfold Wb;split<;>first|rfl|(split<;>first|rfl|simp_all)) (λb c w=>Lib.run_countString b c w) hf gV hb hx he
end
def agP (tt :TT)(nt:Nat)(ds:List Nat)(b0 b0' t19:Nat)(o2 o0 o1 o4:Oper)(Rw HE:List bw)(body:AC):Option (RG×Nat):=
 match o2.op,o0.op,o1.op,o4.op with
 |  .range ty x,.next (.tmp a0) false,.extract (.tmp a1) 0,.entry (.tmp a4)=>match o2.dst,o0.dst,o1.dst,o4.dst with
    |some t17,some t18,some c,some t20=>match o2.guard,o0.guard,o1.guard,o4.guard with
     |  none,none,none,none=>match lV x with
        |some xo=>match Nat.beq a0 t17&&Nat.beq a1 t18&&Nat.beq a4 t17&&Nat.beq c t19&&Nat.beq b0 b0'&&Nat.blt t17 nt&&Nat.blt t18 nt&&Nat.blt t19 nt&&Nat.blt t20 nt&&
            !Nat.beq t17 t18&& !Nat.beq t17 t19&& !Nat.beq t18 t19 with
         |true=>some (⟨t17,t18,t19,t20,Rw.dropLast,xo,HE.tail,body,key t18::key t19::ds.map key⟩,ty)
         |false=>none
        |_=>none
     |_,_,_,_=>none
    |_,_,_,_=>none
 |_,_,_,_=>none
def XL (tt:TT)(nt:Nat):Code->Option (RG×Nat)
 |  .seq (.region _ yQ false) (.block b0 (.loop (.seq (.region _ ⟨[o0,o1]⟩ false) (.seq (.cond (.tmp t19) .skip (.exit b0')) (.block _ (.seq (.region _ nQ false) rest))))))=>
    match yQ[yQ.size - 1]?,nQ[0]? with
    |some o2,some o4=>match oe tt nt yQ yQ.toList [],oe tt nt nQ nQ.toList []with
     |  some Rw,some HE=>match tq tt nt rest with
        |some body=>agP tt nt (nQ.toList.filterMap (·.dst)++qL rest) b0 b0' t19 o2 o0 o1 o4 Rw HE body
        |none=>none
     |_,_=>none
    |_,_=>none
 |_=>none
section
variable{P:Program}{tt:TT}{C:Cells}{bn:js XR}{call:ai}{nt m:Nat}
def PD:Code->Bool
 |.region _ ops _=>ops.toList.any λo=>match o.op with|.range _ _=>true|_=>false
 |.seq a b=>PD a||PD b
 |.cond _ a b=>PD a||PD b
 |.block _ a=>PD a
 |.loop a=>PD a
 |_=>false
end
abbrev XO:=jZ×Fr×St
abbrev XS:=Option (List XO)
def XM(y x:XO):Bool:=match y.1,x.1 with
 |.normal,.normal=>T.sub fE y.2.1 x.2.1&&T.sub Fy y.2.2.heap x.2.2.heap&&Pos.beq y.2.2.next x.2.2.next
 |_,_=>false
def SX:List XO->List XO->List XO
 |[],acc=>acc
 |  x::l,acc=>match acc.any (λy=>XM y x)with
    |true=>SX l acc
    |false=>SX l (x::acc)
def Jk{α:Type}(k:α->XS):List α->List XO->XS
 |[],acc=>some acc
 |  e::l,acc=>match k e with
    |some a=>Jk k l (SX a acc)
    |none=>none
structure Cv(y x:XO):Prop where
 e:y.1=x.1
 f:∀p v,y.2.1.get p=some v->x.2.1.get p=some v
 h:∀p v,y.2.2.heap.get p=some v->x.2.2.heap.get p=some v
 n:y.2.2.next=x.2.2.next
theorem Cv.refl(x:XO):Cv x x:=⟨rfl,λ_ _ h=>h,λ_ _ h=>h,rfl⟩
theorem adw{y x:XO}(h:XM y x=true):Cv y x:=by
 unfold XM at h;split at h<;>first|(cases h;done)|skip
 rename_i h1 h2;simp only[Zb0]at h;exact⟨h1.trans h2.symm,T.AR (λ_ _=>qO) h.1.1,T.AR (λ_ _=>Po) h.1.2,Pos.beq_eq.1 h.2⟩
theorem LX:∀{l acc:List XO},(∀y∈acc,y∈SX l acc)/\∀x∈l,∃y∈SX l acc,Cv y x
 |[],acc=>⟨λy hy=>hy,λx hx=>by cases hx⟩
 |x ::l,acc=>by
  unfold SX;split
  . rename_i h;obtain⟨h1,h2⟩:=LX (l:=l) (acc:=acc);refine⟨h1,λz hz=> ?_⟩;rcases Zb2.1 hz with rfl|hz
    .   obtain⟨y,hy,hc⟩:=List.any_eq_true.1 h;exact⟨y,h1 y hy,adw hc⟩
    .   exact h2 z hz
  . obtain⟨h1,h2⟩:=LX (l:=l) (acc:=x::acc);refine⟨λy hy=>h1 y (Za4 _ hy),λz hz=> ?_⟩;rcases Zb2.1 hz with rfl|hz
    .   exact⟨z,h1 z (Zd6 ..),.refl z⟩
    .   exact h2 z hz
theorem xP{α:Type}{k:α->XS}{outs:List XO}:∀{l:List α}{acc:List XO},Jk k l acc=some outs->(∀y∈acc,y∈outs)/\∀e∈l,∃a,k e=some a/\∀x∈a,∃y∈outs,Cv y x
 |[],acc,h=>by
  simp only[Jk,H0]at h;subst h;exact⟨λy hy=>hy,λe he=>by cases he⟩
 |e::l,acc,h=>by
  unfold Jk at h;split at h<;>first|(cases h;done)|skip
  rename_i a ha;obtain⟨h1,h2⟩:=xP h;obtain⟨n1,n2⟩:=LX (l:=a) (acc:=acc);refine⟨λy hy=>h1 y (n1 y hy),λz hz=> ?_⟩;rcases Zb2.1 hz with rfl|hz
  .exact⟨a,ha,λx hx=>let⟨y,hy,hc⟩:=n2 x hx;⟨y,h1 y hy,hc⟩⟩
  .exact h2 z hz
section
variable{P:Program}{tt:TT}{C:Cells}{nt:Nat}{ρ:Pos->Loc}{st:St}{w:World}
theorem aZ.B8{ρ:Pos->Loc}{st st':St}{w:World}(hW:aZ ρ C st w)(h:∀p v,st'.heap.get p=some v->st.heap.get p=some v)(hn:st'.next=st.next):aZ ρ C st' w:=
 ⟨λb x hb=>by rw[hn];exact hW.live b x (h b x hb),λb b' x x' hb jO=>hW.inj b b' x x' (h b x hb) (h b' x' jO),λa v ha=>⟨(hW.ej a v ha).1,λb x hb=>(hW.ej a v ha).2 b x (h b x hb)⟩,hW.whole⟩
theorem gh.Rx{y x:XO}{a':Act}{w':World}(hc:Cv y x)(h:gh nt ρ C st w x.2.1 x.2.2 a' w'):gh nt ρ C st w y.2.1 y.2.2 a' w':=by obtain⟨eH,S,k1,k2,E⟩:=h;refine⟨eH,⟨S.W.B8 hc.h hc.n,?_,S.size,S.defers⟩,k1,by rw[hc.n];exact k2,⟨E.os,E.tape,E.output,E.size,E.block,λb v hb=>E.oJ b v (hc.h b v hb)⟩⟩;rw[hc.n];exact S.F.sub hc.f
def Dh(P:Program)(C:Cells)(nt:Nat)(c:Code)(ex:Fr->St->XS):Prop:=
 ∀  (fr:Fr)(st:St)(outs:List XO)(ρ:Pos->Loc)(a:Act)(w:World)(Q:Exit->Act->World->Prop),ex fr st=some outs->nP nt ρ C fr st a w->
    (∀o∈outs,∀a' w',gh nt ρ C st w o.2.1 o.2.2 a' w'->Q (nZ o.1) a' w')->fD P c Q a w
def afu(ex:Fr->St->XR)(fr:Fr)(st:St):XS:=match ex fr st with
 |some o=>some [o]
 |none=>none
theorem LV.one{c:Code}{ex:Fr->St->XR}(h:LV P C nt c ex):Dh P C nt c (afu ex):=by
 intro fr st outs ρ a w Q hx hS hQ;unfold afu at hx;split at hx<;>first|(cases hx;done)|skip
 rename_i o ho;simp only[H0]at hx;subst hx;exact h fr o.2.1 st o.2.2 o.1 ρ a w Q ho hS λa' w' hp=>hQ o (by simp) a' w' hp
end
section
variable(bn:js XR)(m:Nat)(g:RG)
def XN{β:Type}:List Pos->Fr->(Fr->β)->β
 |[],fr,k=>k fr
 |p::ps,fr,k=>oK none p fr λfr=>XN ps fr k
def XP (b:Pos)(es:List (AV×AV×Nat))(clock:Nat)(CB:Pos):Nat->List (AV×AV×Nat)->Fr->St->XS
 |  0,todo,fr,st=>match todo with
    |[]=>some [(.normal,fr,st)]
    |_=>none
 |  n+  1,todo,fr,st=>match todo with
    |[]=>some [(.normal,fr,st)]
    |_  =>Jk (λe=>match afr bn m g e.1 e.2.1 fr st with
     |  some (.normal,f1,s1)=>XN g.ds f1 λf1=>match m8 b s1.heap,m8 (key g.t17) f1 with
        |some y,some v=>match Fy y (.map es clock)&&fE v (.ptr CB 0)with
         |true=>XP b es clock CB n (todo.filter λx=> !Nat.beq x.2.2 e.2.2) f1 s1
         |false=>none
        |_,_=>none
     |_=>none) todo []
def XQ(l:List bw)(fr:Fr)(st:St):XR:=Sn none bn l fr st λfr st=>some (.normal,fr,st)
def rgS (fr:Fr)(st:St):XS:=match XQ bn g.l2 fr st with
 |  some (_,fr,st)=>TU none fr g.x λ
    | .map b=>match m8 b st.heap with
      | some (.map es clock)=>match SV clock es with
        |true=>XN g.ds fr λfr=>oK (some (.ptr st.next 0)) (key g.t17) fr λfr=>Qu st.next λn=>XP bn m g b es clock st.next es.length es fr { heap:=st.heap,next:=n }
        |false=>none
      |_=>none
    |_=>none
 |none=>none
end
section
variable{P:Program}{tt:TT}{C:Cells}{bn:js XR}{call:ai}{nt m:Nat}{g:RG}{nQ:Array Oper}{o0 o1 o4:Oper}{i3 i4 b0 b1:Nat}{rest:Code}{HE:List bw}{bs:List Nat}
theorem SY{β:Type}:∀(ps:List Pos)(fr:Fr)(k:Fr->β),XN ps fr k=k (XJ ps fr)
 |[],_,_=>rfl
 |p::ps,fr,k=>by simp only[XN,jg,XJ];exact SY ps _ k
theorem S5(hc:CK none bn call){l:List bw}{fr bh:Fr}{st st':St}{e:jZ}(h:XQ bn l fr st=some (e,bh,st')):e= .normal/\jN call l fr st=some (bh,st'):=by
 unfold XQ at h;rw[Np none hc]at h;unfold oO at h;split at h<;>first|(cases h;done)|skip
 rename_i y hy;simp only[H0,Zb9]at h;obtain⟨rfl,rfl,rfl⟩:=h;exact⟨rfl,hy⟩
theorem LI.aie(hT:bZ P tt)(hc:CK none bn call)(bV:fO P C call)(gJ:rQ P tt C call)(hR:afs tt nt g o0 o1 o4 nQ rest HE bs)
  {b CB:Pos} {es:List (AV×AV×Nat)} {since r:Nat} {kT:Pos->Loc} {LW:St} {w0:World} (ee:SV since es=true) (u7:key g.t18∈g.ds/\key g.t19∈g.ds) {Q:Exit->Act->World->Prop}:
  ∀ (n:Nat)(todo:List (AV×AV×Nat))(fr:Fr)(st:St)(outs:List XO)(seen:Array Nat)(ρ:Pos->Loc)(a:Act)(w:World),XP bn m g b es since CB n todo fr st=some outs->
    (∀e,e∈todo↔e∈es/\seen.contains e.2.2=false)->LI C nt g (fr,st) b CB es since r kT LW w0 seen ρ a w->
    (∀o∈outs,o.1= .normal->∀a' w',gh nt kT C LW w0 o.2.1 o.2.2 a' w'->Q (.exit b0) a' w')->Li (fD P (abr g o0 o1 nQ rest i3 i4 b0 b1)) Q (n+1) a w:=by
 intro n;induction n with
 |zero=>
  intro todo fr st outs seen ρ a w h NC L hQ;unfold XP at h;split at h<;>first|(cases h;done)|skip
  simp only[H0]at h;subst h;rw[Uc];refine L.round (m:=m) hT hc bV gJ hR ee (λ_ a' S=>hQ (.normal,fr,st) (Zd7.2 rfl) rfl a' w ⟨ρ,S,L.k1,L.k2,L.E⟩) λe he hs=> ?_
  have:=(NC e).2 ⟨he,hs⟩;cases this
 |succ n ih=>
  intro todo fr st outs seen ρ a w h NC L hQ;rw[Uc];unfold XP at h;split at h
  .simp only[H0]at h;subst h;(refine L.round (m:=m) hT hc bV gJ hR ee (λ_ a' S=>hQ (.normal,fr,st) (Zd7.2 rfl) rfl a' w ⟨ρ,S,L.k1,L.k2,L.E⟩) λe he hs=> ?_);have:=(NC e).2 ⟨he,hs⟩;cases this
  . rename_i cL;obtain⟨_,iE⟩:=xP h;refine L.round (m:=m) hT hc bV gJ hR ee (λabt a' S=> ?_) λe he hs=> ?_
    .   cases todo with
        |nil=>exact(cL rfl).elim
        | cons e l=>
          obtain⟨he,hs⟩:=(NC e).1 (Zd6 ..);rw[abt e he]at hs;cases hs
    .   obtain⟨j8,h1,pW⟩:=iE e ((NC e).2 ⟨he,hs⟩);(split at h1<;>first|(cases h1;done)|skip);rename_i f1 s1 hx;rw[SY]at h1;simp only[uU]at h1;(split at h1<;>first|(cases h1;done)|skip);rename_i y v hy hv;(split at h1<;>first|(cases h1;done)|skip);rename_i hb;simp only[Zb0]at hb;have e1:=Po hb.1;have e2:=qO hb.2;subst e1;subst e2;refine⟨(XJ g.ds f1,s1),⟨f1,s1,hx,SW _ _,.inr rfl⟩,hv,hy,DY _ _ _ (.inl u7.1),DY _ _ _ (.inl u7.2),λρ' a' w' L'=> ?_⟩;refine ih _ _ _ j8 _ ρ' a' w' h1 (λx=> ?_) L' λo ho hn a2 w2 hp=> ?_
        .rw[Zm0,NC x,Array.contains_push,Zm8,Zi6];rw[show Nat.beq x.2.2 e.2.2=(x.2.2==e.2.2)from by rw[Zl8];simp[Nat.beq_eq]];exact and_assoc
        .obtain⟨z,hz,hcv⟩:=pW o ho;exact hQ z hz (hcv.e.trans hn) a2 w2 (hp.Rx hcv)
theorem Dh.rng(hT:bZ P tt)(hc:CK none bn call)(bV:fO P C call)(gJ:rQ P tt C call)(hR:afs tt nt g o0 o1 o4 nQ rest HE bs)
   {yQ:Array Oper} {Rw:List bw} {o2:Oper} {x:Operand} {ty kt et:TypeId} {i2:Nat} {bs2:List Nat} (h2:oe tt nt yQ yQ.toList bs2=some Rw) (nK:Rw.dropLast=g.l2)
   (DK:yQ[g.l2.length]? =some o2) (Bz:yQ.size=g.l2.length+1) (hop:o2.op= .range ty x) (BA:o2.guard=none) (QJ:o2.dst=some g.t17) (hx:lV x=some g.x) (afv:P.underlying ty=some (.map kt et))
   (u7:key g.t18∈g.ds/\key g.t19∈g.ds):Dh P C nt (.seq (.region i2 yQ false) (.block b0 (.loop (abr g o0 o1 nQ rest i3 i4 b0 b1)))) (rgS bn m g):=by
 intro fr st outs ρ a w Q h hS hQ;unfold rgS at h;split at h<;>first|(cases h;done)|skip
 rename_i ex u9 kP hy;obtain⟨rfl,hz⟩:=S5 hc hy;simp only[Lu]at h;unfold oO at h;split at h<;>first|(cases h;done)|skip
 rename_i v hv;dsimp only at h;split at h<;>first|(cases h;done)|skip
 rename_i b;simp only[uU]at h;split at h<;>first|(cases h;done)|skip
 rename_i es clock hb;split at h<;>first|(cases h;done)|skip
 rename_i ee;simp only[SY,jg,I6]at h;apply DN;apply Gn;rw[Bz,Zk1];apply Ub;rw[Zk0];refine qM (nt:=nt) hT bV g.l2 0 fr u9 st kP ρ a w (λi ao hi=> ?_) hz hS λa2 w2 hp=> ?_
 .rw[<-nK,List.getElem?_dropLast]at hi;(split at hi<;>first|(cases hi;done)|skip);obtain⟨o,k1,k2,_⟩:=AG h2 i ao hi;exact⟨o,by rw[Zd1];exact k1,k2⟩
 obtain⟨m7,S2,k1,k2,E2⟩:=hp;obtain⟨hbn,Ln⟩:=(qH hx S2.F hv).xG;obtain⟨g1,g2,es',q1,q2,q3⟩:=S2.W.live b _ hb;obtain⟨Ry,hf3⟩:∃f,f=(XJ g.ds u9).put (some (.ptr kP.next 0)) (key g.t17):=⟨_,rfl⟩
 rw[<-hf3]at h;obtain⟨HF,FF⟩:∃s:St,s=⟨kP.heap,kP.next.succ⟩:=⟨_,rfl⟩
 rw[<-FF]at h;have n18:key g.t17≠key g.t18:=λe=>hR.ne.1 (by have:=congrArg Pos.toNat e;rw[fL,fL]at this;omega)
 have n19:key g.t17≠key g.t19:=λe=>hR.ne.2.1 (by have:=congrArg Pos.toNat e;rw[fL,fL]at this;omega)
 have hX0:Ry.get (key g.t17)=some (.ptr kP.next 0)/\HF.heap.get b=some (.map es clock)/\Ry.get (key g.t18)=none/\Ry.get (key g.t19)=none:=by
   rw[hf3,FF,T.eO,T.bG _ n18,T.bG _ n19];exact⟨rfl,hb,DY _ _ _ (.inl u7.1),DY _ _ _ (.inl u7.2)⟩
 show qK P _ _ [g.l2.length] a2 w2
 refine xO DK BA (v:= .pointer (some ⟨w2.heap.size,0,none⟩)) (w':=w2.alloc (.mapIter (some (m7 b).az) clock #[] clock))
   (by simp[execOp,hop,Ln,run_range_map (P:=P) w2 ty kt et (m7 b).az es' clock afv q1,Result.andThen]) ?_
 rw[QJ];show fD P (Code.block b0 _) Q _ _;apply QK;have hold:∀k,k<w2.heap.size->(w2.alloc (.mapIter (some (m7 b).az) clock #[] clock)).heap[k]? =w2.heap[k]? :=λk hk=>heap_alloc_old w2 _ hk
 have e9:(w2.alloc (.mapIter (some (m7 b).az) clock #[] clock)).heap.size=w2.heap.size+1:=by simp
 obtain⟨BC,h3,aU⟩:∃BC:Pos->Loc,BC kP.next=⟨w2.heap.size,0,0⟩/\∀p:Pos,p.toNat<kP.next.toNat->BC p=m7 p:=
   ⟨λp=>if p=kP.next then⟨w2.heap.size,0,0⟩else m7 p,Za9 rfl,λp hp=>Za3 λe=>by subst e;omega⟩
 have hW3:aZ BC C HF (w2.alloc (.mapIter (some (m7 b).az) clock #[] clock)):=by rw[FF];exact(S2.W.slot aU).grow (by omega) hold
 have Lq:HF.next.toNat=kP.next.toNat+1:=by rw[FF];exact Pos.aB _
 have hF3:fV BC HF.next.toNat C Ry (a2.put (some g.t17) (.pointer (some ⟨w2.heap.size,0,none⟩))).tmps:=by rw[hf3];refine fV.put (nt:=nt) (d:=some g.t17) ((S2.F.sub (SW _ _)).mono aU (by omega)) S2.size (λ_ h=>by cases h;exact hR.lt.1) ?_;have:=aq.ptr (ρ:=BC) (C:=C) kP.next 0 (n:=HF.next.toNat) (by omega);rw[h3]at this;exact this
 refine acU (es.length+1) (LI.aie (m:=m) (kT:=m7) (LW:=kP) (w0:=w2) (r:=w2.heap.size) hT hc bV gJ hR ee u7 es.length es Ry HF outs #[] BC _ _ h (λe=>by simp) ?_ λo ho hn a' w' hp=> ?_)
 . refine⟨⟨hW3,hF3,by rw[Act.ja];exact S2.size,by rw[Act.jT];exact S2.defers⟩,aU,by show kP.next.toNat<=HF.next.toNat;omega,
     ⟨rfl,rfl,rfl,by rw[e9];omega,λk hk _=>hold k hk,λp x hp=>.inl ⟨p,x,by rw[FF]at hp;exact hp,by
        rw[FF]at hp;rw[aU p (S2.W.live p x hp).1]⟩⟩,⟨by rw[h3],by rw[h3],by show _<HF.next.toNat;omega⟩,hX0.1,hX0.2.1,⟨clock,?_,Za5 _⟩,λp x hp=> ?_,Za5 _,hX0.2.2⟩
   .rw[aU b g1];exact heap_alloc_new w2 _
   .rw[FF]at hp;obtain⟨l1,l2,_⟩:=S2.W.live p x hp;rw[aU p l1];omega
 . simp only[Exit.inBlock,Zh0];have:=hQ o ho a' w' (gh.trans k1 k2 E2 hp)
   rwa [hn]at this
theorem Dh.XL(hT:bZ P tt)(hc:CK none bn call)(bV:fO P C call)(gJ:rQ P tt C call){c:Code}{g:RG}{ty:Nat}(h:XL tt nt c=some (g,ty))
  {kt et:TypeId} (afv:P.underlying ty=some (.map kt et)) (ds:List Pos):Dh P C nt c (rgS bn m { g with ds:=key g.t18::key g.t19::ds }):=by
 unfold Go.Ai.XL at h;split at h<;>first|(cases h;done)|skip
 rename_i i2 yQ b0 i3 o0 o1 t19 b0' b1 i4 nQ rest;split at h<;>first|(cases h;done)|skip
 rename_i o2 o4 DK ho4;split at h<;>first|(cases h;done)|skip
 rename_i Rw HE nK hl4;split at h<;>first|(cases h;done)|skip
 rename_i body aja;unfold agP at h;split at h<;>first|(cases h;done)|skip
 rename_i ty' x a0 a1 a4 p2 p0 p1 p4;split at h<;>first|(cases h;done)|skip
 rename_i t17 t18 c t20 d2 d0 d1 d4;split at h<;>first|(cases h;done)|skip
 rename_i g2 g0 g1 g4;split at h<;>first|(cases h;done)|skip
 rename_i xo hxo;split at h<;>first|(cases h;done)|skip
 rename_i hb;simp only[H0,Zb9]at h;obtain⟨rfl,rfl⟩:=h;simp only[Zb0,Zi6,Nat.beq_eq,Zo7]at hb;obtain⟨⟨⟨⟨⟨⟨⟨⟨⟨⟨⟨rfl,rfl⟩,rfl⟩,rfl⟩,rfl⟩,l17⟩,l18⟩,l19⟩,l20⟩,n1⟩,n2⟩,n3⟩:=hb;have hs:Rw.length=yQ.size:=(oN nK).1.trans (Zg3 ..);have h0:0<yQ.size:=by have:=(Zd8.1 DK).1;omega
 exact Dh.rng hT hc bV gJ (i3:=i3) (i4:=i4) (b1:=b1) ⟨⟨p0,g0,d0⟩,⟨p1,g1,d1⟩,⟨ho4,p4,g4,d4⟩,⟨l17,l18,l19,l20⟩,⟨Zc2 n1,Zc2 n2,Zc2 n3⟩,hl4,rfl,aja⟩ nK rfl
  (by rw[List.length_dropLast,hs];exact DK) (by show yQ.size=Rw.dropLast.length+1;rw[List.length_dropLast,hs];omega) p2 g2 d2 hxo afv ⟨by simp,by simp⟩
end
end
noncomputable section
open Go Go.RowKit
abbrev BD:=(Pos->Loc)->St->World->List Deferred->Prop
def Rz(C:Cells)(J:BD):Prop:=
 ∀  (ρ:Pos->Loc)(st:St)(w:World)(D:List Deferred)(ρ':Pos->Loc)(st':St)(w':World),J ρ st w D->aZ ρ C st w->aZ ρ' C st' w'->(∀b:Pos,b.toNat<st.next.toNat->ρ' b=ρ b)->
    st.next.toNat<=st'.next.toNat->j0 ρ st w ρ' st' w'->J ρ' st' w' D
section
variable{P:Program}{tt:TT}{C:Cells}{r:Option Nat}{J:BD}{ts:Nat->Prop}{x:Array Value}{nt:Nat}
def j9(C:Cells)(J:BD)(ts:Nat->Prop)(x:Array Value)(nt:Nat)(ρ:Pos->Loc)(st:St)(w:World)(bh:Fr)(st':St)(a':Act)(w':World):Prop:=
 ∃ρ',nP nt ρ' C bh st' ⟨a'.tmps,[]⟩ w'/\(∀b:Pos,b.toNat<st.next.toNat->ρ' b=ρ b)/\st.next.toNat<=st'.next.toNat/\j0 ρ st w ρ' st' w'/\J ρ' st' w' a'.defers/\∀t,ts t->a'.tmps[t]? =x[t]?
theorem j9.trans{ρ eH:Pos->Loc}{u9:Fr}{st aQ kP:St}{a2:Act}{w w1 w2:World}(h1:∀b:Pos,b.toNat<st.next.toNat->eH b=ρ b)(h2:st.next.toNat<=aQ.next.toNat)(h3:j0 ρ st w eH aQ w1)
  (h:j9 C J ts x nt eH aQ w1 u9 kP a2 w2):j9 C J ts x nt ρ st w u9 kP a2 w2:=by
 obtain⟨m7,S,k1,k2,E,hJ,hx⟩:=h;exact⟨m7,S,λb hb=>(k1 b (Zd3 hb h2)).trans (h1 b hb),Zd4 h2 k2,h3.trans E,hJ,hx⟩
def Gv(J:BD):Prop:=∀(ρ:Pos->Loc)(st st':St)(w:World)(D:List Deferred),J ρ st w D->(∀p v,st'.heap.get p=some v->st.heap.get p=some v)->st'.next=st.next->J ρ st' w D
theorem j9.Rx(hw:Gv J){y z:XO}{ρ:Pos->Loc}{st:St}{w:World}{a':Act}{w':World}(hc:Cv y z)(h:j9 C J ts x nt ρ st w z.2.1 z.2.2 a' w'):j9 C J ts x nt ρ st w y.2.1 y.2.2 a' w':=by obtain⟨eH,S,k1,k2,E,hJ,hx⟩:=h;refine⟨eH,⟨S.W.B8 hc.h hc.n,?_,S.size,S.defers⟩,k1,by rw[hc.n];exact k2,⟨E.os,E.tape,E.output,E.size,E.block,λb v hb=>E.oJ b v (hc.h b v hb)⟩,hw _ _ _ _ _ hJ hc.h hc.n,hx⟩;rw[hc.n];exact S.F.sub hc.f
def dY(P:Program)(C:Cells)(r:Option Nat)(J:BD)(ts:Nat->Prop)(x:Array Value)(nt:Nat)(c:Code)(ex:Fr->St->XS):Prop:=
 ∀  (fr:Fr)(st:St)(outs:List XO)(ρ:Pos->Loc)(a:Act)(w:World)(Q:Exit->Act->World->Prop),ex fr st=some outs->nP nt ρ C fr st ⟨a.tmps,[]⟩ w->J ρ st w a.defers->(∀t,ts t->a.tmps[t]? =x[t]?)->
    (∀o∈outs,∀a' w',j9 C J ts x nt ρ st w o.2.1 o.2.2 a' w'->Q (nZ o.1) a' w')->c.wpIn (Fc r) 0 P Q a w
theorem Dh.g{c:Code}{ex:Fr->St->XS}(h:Dh P C nt c ex)(hJ:Rz C J)(dH:∀t∈qL c,¬ts t):dY P C r J ts x nt c ex:=by
 intro fr st outs ρ a w Q he hS hj hx hQ;have h1:fD P c (λe a' w'=>∃o∈outs,e=nZ o.1/\gh nt ρ C st w o.2.1 o.2.2 a' w') ⟨a.tmps,[]⟩ w:=h fr st outs ρ _ w _ he hS λo ho a' w' hp=>⟨o,ho,rfl,hp⟩
 refine wpIn_mono (fD.ZY (r:=r) (n:=0) (D:=a.defers) (ds:=[]) (ts:=ts) (x:=x) c _ a.tmps w dH hx h1) ?_;rintro e a' w' ⟨hd,hk,o,ho,rfl,ρ',S,k1,k2,E⟩;exact hQ o ho a' w' ⟨ρ',S,k1,k2,E,by rw[hd];exact hJ _ _ _ _ _ _ _ hj hS.W S.W k1 k2 E,hk⟩
def LY(f g:Fr->St->XS)(fr:Fr)(st:St):XS:=match f fr st with
 |  some outs=>Jk (λ|(e,fr,st)=>match e with
    |.normal=>g fr st
    |e=>some [(e,fr,st)]) outs []
 |none=>none
def afw(id:Nat)(f:Fr->St->XS)(fr:Fr)(st:St):XS:=match f fr st with
 |  some outs=>Jk (λ|(e,fr,st)=>match e with
    | .exit i=>match Nat.beq i id with
      |true=>some [(.normal,fr,st)]
      |false=>some [(.exit i,fr,st)]
    |e=>some [(e,fr,st)]) outs []
 |none=>none
def abu(c:eZ)(f g:Fr->St->XS)(fr:Fr)(st:St):XS:=TU none fr c λ
 |  .bool b=>match b with
    |true=>f fr st
    |false=>g fr st
 |_=>none
def RA(f:Fr->St->XS):Nat->Fr->St->XS
 |0,_,_=>none
 |n+1,fr,st=>LY f (λfr st=>RA f n fr st) fr st
theorem dY.seq'(hw:Gv J){c:Code}{f g:Fr->St->XS}{K:Act->World->Prop}{Q:Exit->Act->World->Prop}(hc:dY P C r J ts x nt c f)
  {fr:Fr} {st:St} {outs:List XO} {ρ:Pos->Loc} {a:Act} {w:World} (h:LY f g fr st=some outs) (hS:nP nt ρ C fr st ⟨a.tmps,[]⟩ w) (hj:J ρ st w a.defers) (hx:∀t,ts t->a.tmps[t]? =x[t]?)
  (hK:∀cr aQ j8 a1 w1,g cr aQ=some j8->(∀z∈j8,∃y∈outs,Cv y z)->j9 C J ts x nt ρ st w cr aQ a1 w1->K a1 w1)
  (hQ:∀o∈outs,o.1≠ .normal->∀a' w',j9 C J ts x nt ρ st w o.2.1 o.2.2 a' w'->Q (nZ o.1) a' w'):c.wpIn (Fc r) 0 P (Exit.then K Q) a w:=by
 unfold LY at h;split at h<;>first|(cases h;done)|skip
 rename_i abv h0;obtain⟨_,iE⟩:=xP h;refine hc fr st abv ρ a w _ h0 hS hj hx λo ho a1 w1 hp=> ?_
 obtain⟨j8,h1,pW⟩:=iE o ho;obtain⟨e,cr,aQ⟩:=o;dsimp only at h1 hp;cases e with
 |normal=>exact hK _ _ j8 a1 w1 h1 pW hp
 |exit i=>
  simp only[H0]at h1;subst h1;obtain⟨y,hy,hcv⟩:=pW _ (Zd7.2 rfl);have:=hQ y hy (by rw[hcv.e];simp) a1 w1 (j9.Rx hw hcv hp);rw[hcv.e]at this;exact this
 |ret=>
  simp only[H0]at h1;subst h1;obtain⟨y,hy,hcv⟩:=pW _ (Zd7.2 rfl);have:=hQ y hy (by rw[hcv.e];simp) a1 w1 (j9.Rx hw hcv hp);rw[hcv.e]at this;exact this
theorem j9.go{ρ eH:Pos->Loc}{st aQ:St}{a1:Act}{w w1:World}{cr:Fr}(hw:Gv J){d:Code}{g:Fr->St->XS}(hd:dY P C r J ts x nt d g){outs j8:List XO}{Q:Exit->Act->World->Prop}
  (h:g cr aQ=some j8) (pW:∀z∈j8,∃y∈outs,Cv y z) (hp:j9 C J ts x nt ρ st w cr aQ a1 w1)
  (hQ:∀o∈outs,∀a' w',j9 C J ts x nt ρ st w o.2.1 o.2.2 a' w'->Q (nZ o.1) a' w'):d.wpIn (Fc r) 0 P Q a1 w1:=by
 obtain⟨eH,S,k1,k2,E,hj,hx⟩:=hp;refine hd cr aQ j8 eH a1 w1 Q h S hj hx λo ho a' w' hp=> ?_
 obtain⟨y,hy,hcv⟩:=pW o ho;have:=hQ y hy a' w' (j9.Rx hw hcv (j9.trans k1 k2 E hp));rw[hcv.e]at this;exact this
theorem dY.seq(hw:Gv J){c d:Code}{f g:Fr->St->XS}(hc:dY P C r J ts x nt c f)(hd:dY P C r J ts x nt d g):dY P C r J ts x nt (.seq c d) (LY f g):=
 λfr st outs ρ a w Q h hS hj hx hQ=>wpIn_seq (hc.seq' hw h hS hj hx (λcr aQ j8 a1 w1 h1 pW hp=>hp.go (eH:=ρ) hw hd h1 pW hQ) λo ho _=>hQ o ho)
theorem dY.block(hw:Gv J){id:Nat}{c:Code}{f:Fr->St->XS}(hc:dY P C r J ts x nt c f):dY P C r J ts x nt (.block id c) (afw id f):=by
 intro fr st outs ρ a w Q h hS hj hx hQ;unfold afw at h;split at h<;>first|(cases h;done)|skip
 rename_i abv h0;obtain⟨_,iE⟩:=xP h;refine wpIn_block (hc fr st abv ρ a w _ h0 hS hj hx λo ho a1 w1 hp=> ?_);obtain⟨j8,h1,pW⟩:=iE o ho;obtain⟨e,cr,aQ⟩:=o;dsimp only at h1 hp;have fin:∀e',j8=[(e',cr,aQ)]->Q (nZ e') a1 w1:=λe' he=>by subst he;obtain⟨y,hy,hcv⟩:=pW _ (Zd7.2 rfl);have:=hQ y hy a1 w1 (j9.Rx hw hcv hp);rw[hcv.e]at this;exact this
 cases e with
 |normal=>simp only[H0]at h1;exact fin _ h1.symm
 |exit i=>
  dsimp only at h1;simp only[nZ,Exit.inBlock];cases hb:Nat.beq i id with
  |true=>
   rw[hb]at h1;rw[Za9 (Za2 hb)];exact fin .normal (Zg4 h1).symm
  |false=>
   rw[hb]at h1;rw[Za3 (Zc2 hb)];exact fin (.exit i) (Zg4 h1).symm
 |ret=>simp only[H0]at h1;exact fin _ h1.symm
theorem dY.cond{c:Operand}{o:eZ}{d e:Code}{f g:Fr->St->XS}(ho:lV c=some o)(hd:dY P C r J ts x nt d f)(he:dY P C r J ts x nt e g):dY P C r J ts x nt (.cond c d e) (abu o f g):=by
 intro fr st outs ρ a w Q h hS hj hx hQ;unfold abu at h;rw[Lu]at h;unfold oO at h;split at h<;>first|(cases h;done)|skip
 rename_i v hv;dsimp only at h;split at h<;>first|(cases h;done)|skip
 rename_i b;have hb:=(qH ho hS.F hv).iD;have hb:a.eval c= .bool b:=by rw[<-hb];exact Hw
 cases b
 .exact wpIn_cond_false hb (he fr st outs ρ a w Q h hS hj hx hQ)
 .exact wpIn_cond_true hb (hd fr st outs ρ a w Q h hS hj hx hQ)
theorem dY.loop(hw:Gv J){c:Code}{f:Fr->St->XS}(hc:dY P C r J ts x nt c f)(n:Nat):dY P C r J ts x nt (.loop c) (RA f n):=by
 intro fr st outs ρ a w Q h hS hj hx hQ;refine wpIn_loop_rounds n ?_
 suffices H:∀(n:Nat)(cr:Fr)(aQ:St)(j8:List XO)(a1:Act)(w1:World),RA f n cr aQ=some j8->(∀z∈j8,∃y∈outs,Cv y z)->j9 C J ts x nt ρ st w cr aQ a1 w1->
    Code.roundsIn (Fc r) 0 P c Q n a1 w1 from
  H n fr st outs a w h (λz hz=>⟨z,hz,.refl z⟩) ⟨ρ,hS,λ_ _=>rfl,Za5 _,j0.refl _ _ _,hj,hx⟩
 intro n;induction n with
 |zero=>intro cr aQ j8 a1 w1 h;cases h
 |succ n ih=>
  intro cr aQ j8 a1 w1 h1 pW hp;obtain⟨eH,S,k1,k2,E,hj1,ZQ⟩:=hp;rw[roundsIn_succ];refine hc.seq' hw (g:=λfr st=>RA f n fr st) h1 S hj1 ZQ (λu9 kP abw a2 w2 h2 ajb Af=> ?_) λo ho _ a' w' Af=> ?_
  .refine ih u9 kP abw a2 w2 h2 (λz hz=> ?_) (j9.trans k1 k2 E Af);obtain⟨y,hy,hc1⟩:=ajb z hz;obtain⟨y',Uk,hc2⟩:=pW y hy;exact⟨y',Uk,⟨hc2.e.trans hc1.e,λp v h=>hc1.f p v (hc2.f p v h),λp v h=>hc1.h p v (hc2.h p v h),hc2.n.trans hc1.n⟩⟩
  .obtain⟨y,hy,hcv⟩:=pW o ho;have:=hQ y hy a' w' (j9.Rx hw hcv (j9.trans k1 k2 E Af));rw[hcv.e]at this;exact this
def noS:Fr->St->XS:=λ_ _=>none
theorem dY.no{c:Code}:dY P C r J ts x nt c noS:=λ_ _ _ _ _ _ _ h=>by cases h
def xQ(base:Code->Option (Fr->St->XS))(n:Nat):Code->Fr->St->XS
 |  .seq a b=>match base (.seq a b)with
    |some f=>f
    |none=>LY (xQ base n a) (xQ base n b)
 |  .block id a=>match base (.block id a)with
    |some f=>f
    |none=>afw id (xQ base n a)
 |  .loop a=>match base (.loop a)with
    |some f=>f
    |none=>RA (xQ base n a) n
 |  .cond c a b=>match base (.cond c a b)with
    |some f=>f
    |none=>match lV c with
     |some o=>abu o (xQ base n a) (xQ base n b)
     |none=>noS
 |  c=>match base c with
    |some f=>f
    |none=>noS
theorem dY.sp(hw:Gv J){base:Code->Option (Fr->St->XS)}{n:Nat}:∀c:Code,(∀t∈qL c,¬ts t)->(∀c f,(∀t∈qL c,¬ts t)->base c=some f->dY P C r J ts x nt c f)->dY P C r J ts x nt c (xQ base n c):=by
 intro c dH hb;induction c with
 |seq a b WE WG=>
  unfold xQ;split
  .exact hb _ _ dH (by assumption)
  .exact .seq hw (WE λt ht=>dH t (Zg9 _ ht)) (WG λt ht=>dH t (Zh8 _ ht))
 |block id a ih=>
  unfold xQ;split
  .exact hb _ _ dH (by assumption)
  .exact .block hw (ih dH)
 |loop a ih=>
  unfold xQ;split
  .exact hb _ _ dH (by assumption)
  .exact .loop hw (ih dH) n
 |cond c a b WE WG=>
  unfold xQ;split
  .exact hb _ _ dH (by assumption)
  . split
    .exact .cond (by assumption) (WE λt ht=>dH t (Zg9 _ ht)) (WG λt ht=>dH t (Zh8 _ ht))
    .exact .no
 |_=>
  unfold xQ;split
  .exact hb _ _ dH (by assumption)
  .exact .no
def Bh(P:Program)(tt:TT)(bn:js XR)(m:Nat)(kp:List Nat)(nt:Nat)(c:Code):Option (Fr->St->XS):=match Go.Ai.XL tt nt c with
 |  some (g,ty)=>match P.underlying ty with
    |some (.map _ _)=>some (rgS bn m { g with ds:=key g.t18::key g.t19::g.ds.filter λp=> !(kp.any λt=>Pos.beq (key t) p) })
    |_=>none
 |  none=>match PD c with
    |true=>none
    |false=>match tq tt nt c with
     |some ac=>some (afu (exK bn m ac))
     |none=>none
theorem PE{bn:js XR}{call:ai}{m:Nat}{kp:List Nat}(hT:bZ P tt)(hc:CK none bn call)(bV:fO P C call)(gJ:rQ P tt C call)(hJ:Rz C J){c:Code}{f:Fr->St->XS}
   (dH:∀t∈qL c,¬ts t) (h:Bh P tt bn m kp nt c=some f):dY P C r J ts x nt c f:=by
 unfold Bh at h;split at h
 .rename_i hg;(split at h<;>first|(cases h;done)|skip);rename_i hu;simp only[H0]at h;subst h;exact(Dh.XL hT hc bV gJ hg hu _).g hJ dH
 . (split at h<;>first|(cases h;done)|skip);(split at h<;>first|(cases h;done)|skip);rename_i WN;simp only[H0]at h;subst h;exact(LV.ac hT hc bV gJ WN).one.g hJ dH
end
section
variable{P:Program}{tt:TT}{C:Cells}{ρ:Pos->Loc}{st:St}{w w':World}{nt:Nat}
theorem aZ.OD{L:Nat}(hW:aZ ρ C st w)(hr:∀a:Addr,a.block=L->w.cell? a=none)(hn:∀b x,st.heap.get b=some x->(ρ b).az≠L)
   (hs:w'.heap.size=w.heap.size) (hk:∀k,k≠L->w'.heap[k]? =w.heap[k]?):aZ ρ C st w':=by
 have cL:∀a v,C a=some v->a.block≠L:=λa v ha e=>by have h:=(hW.ej a v ha).1;rw[hr a e]at h;cases h
 refine⟨λb x hb=> ?_,hW.inj,λa v ha=> ?_,λa v ha o ho=> ?_⟩
 .obtain⟨h1,h2,h3⟩:=hW.live b x hb;exact⟨h1,by rw[hs];exact h2,h3.of_heap (hk _ (hn b x hb))⟩
 .obtain⟨h1,h2⟩:=hW.ej a v ha;exact⟨by rw[World.cell?_of_block (w:=w) (hk _ (cL a v ha))];exact h1,h2⟩
 .rw[World.cell?_of_block (w:=w) (a:=⟨a.block,o,none⟩) (hk _ (cL a v ha))];exact hW.whole a v ha o ho
theorem aZ.PG{L:Nat}{r:Loop}{o:Obj}(hW:aZ ρ C st w)(hl:w.heap[L]? =some (.loop r))(hn:∀b x,st.heap.get b=some x->(ρ b).az≠L):aZ ρ C st (w.putObj L o):=
 hW.OD (λa ha=>by subst ha;simp[World.cell?,hl]) hn World.putObj_size λk hk=>World.putObj_heap_other hk
theorem aZ.afx{L:Nat}{r:Option (List Deferred)}{o:Obj}(hW:aZ ρ C st w)(hl:w.heap[L]? =some (.deferred r))(hn:∀b x,st.heap.get b=some x->(ρ b).az≠L):aZ ρ C st (w.putObj L o):=
 hW.OD (λa ha=>by subst ha;simp[World.cell?,hl]) hn World.putObj_size λk hk=>World.putObj_heap_other hk
theorem Dv{ρ':Pos->Loc}{st':St}{L:Nat}(E:j0 ρ st w ρ' st' w')(hL:L<w.heap.size)(hn:∀b x,st.heap.get b=some x->(ρ b).az≠L):(∀b x,st'.heap.get b=some x->(ρ' b).az≠L)/\w'.heap[L]? =w.heap[L]? :=
 ⟨λb x hb=>by
  rcases E.oJ b x hb with⟨b',x',jO,e⟩|h
  .rw[<-e];exact hn b' x' jO
  .omega,E.block L hL hn⟩
def OH:BD:=λ_ _ _ D=>D=[]
theorem OH.stays:Rz C OH:=λ_ _ _ _ _ _ _ h _ _ _ _ _=>h
theorem OH.B8:Gv OH:=λ_ _ _ _ _ h _ _=>h
def HG(C:Cells)(L D0:Nat)(r:Loop)(uj:Fr):BD:=λρ st w D=>D=[]/\w.heap[L]? =some (.loop r)/\w.heap[D0]? =some (.deferred (some []))/\
 (∀b x,st.heap.get b=some x->(ρ b).az≠L)/\(∀b x,st.heap.get b=some x->(ρ b).az≠D0)/\fV ρ st.next.toNat C uj r.tmps
theorem FG{k:Nat}{o:Obj}(h:w.heap[k]? =some o):k<w.heap.size:=(Zd8.1 h).1
theorem HG.stays{L D0:Nat}{r:Loop}{uj:Fr}:Rz C (HG C L D0 r uj):=λρ st w D ρ' st' w' h _ _ k1 k2 E=>by
 obtain⟨h1,h2,h3,h4,h5,h6⟩:=h;obtain⟨f1,f2⟩:=Dv E (FG h2) h4;obtain⟨g1,g2⟩:=Dv E (FG h3) h5;exact⟨h1,f2.trans h2,g2.trans h3,f1,g1,h6.mono k1 k2⟩
theorem HG.B8{L D0:Nat}{r:Loop}{uj:Fr}:Gv (HG C L D0 r uj):=λρ st st' w D h hh hn=>by
 obtain⟨h1,h2,h3,h4,h5,h6⟩:=h;exact⟨h1,h2,h3,λb x hb=>h4 b x (hh b x hb),λb x hb=>h5 b x (hh b x hb),by rw[hn];exact h6⟩
abbrev mark(r:Nat):Deferred:={ target:= .collected r,args:= #[] }
def LZ(B:Nat):BD:=λρ st w D=>B<=w.heap.size/\∃rs:List Nat,D=rs.map mark/\rs.Nodup/\∀r∈rs,B<=r/\w.heap[r]? =some (.deferred (some []))/\∀b x,st.heap.get b=some x->(ρ b).az≠r
theorem LZ.stays{B:Nat}:Rz C (LZ B):=λρ st w D ρ' st' w' h _ _ k1 k2 E=>by
 obtain⟨hB,rs,h1,h2,h3⟩:=h;refine⟨Zd4 hB E.size,rs,h1,h2,λr hr=> ?_⟩;obtain⟨g0,g1,g2⟩:=h3 r hr;obtain⟨f1,f2⟩:=Dv E (FG g1) g2;exact⟨g0,f2.trans g1,f1⟩
theorem LZ.B8{B:Nat}:Gv (LZ B):=λρ st st' w D h hh hn=>by
 obtain⟨hB,rs,h1,h2,h3⟩:=h;exact⟨hB,rs,h1,h2,λr hr=>let⟨g0,g1,g2⟩:=h3 r hr;⟨g0,g1,λb x hb=>g2 b x (hh b x hb)⟩⟩
def XT:List XO->List St->Option (List St)
 |[],acc=>some acc
 |  (e,_,st)::l,acc=>match e with
    |.normal=>XT l (st::acc)
    |_=>none
def RB{β:Type}:List Nat->List AV->Fr->(Fr->Option β)->Option β
 |[],[],fr,k=>k fr
 |p::ps,v::vs,fr,k=>oK (some v) (key p) fr λfr=>RB ps vs fr k
 |_,_,_,_=>none
def abx(ps:List Nat)(f:Fr->St->XS)(uj:Fr)(vs:List AV)(st:St):Option (List St):=RB ps vs uj λfr=>match f fr st with
 |some outs=>XT outs []
 |none=>none
theorem UG:∀{l:List XO}{acc HH:List St},XT l acc=some HH->(∀s∈acc,s∈HH)/\∀o∈l,o.1= .normal/\o.2.2∈HH
 |[],acc,HH,h=>by
  simp only[XT,H0]at h;subst h;exact⟨λ_ h=>h,λ_ h=>by cases h⟩
 |(e,fr,st)::l,acc,HH,h=>by
  unfold XT at h;cases e with
  | normal=>
    obtain⟨h1,h2⟩:=UG (l:=l) h;refine⟨λs hs=>h1 s (Za4 _ hs),λo ho=> ?_⟩;rcases Zb2.1 ho with rfl|ho
    .exact⟨rfl,h1 _ (Zd6 ..)⟩
    .exact h2 o ho
  |_=>cases h
theorem OI{β:Type}{k:Fr->Option β}{z:β}:∀{ps:List Nat}{vs:List AV}{xs:List Value}{fr:Fr}{T:Array Value},RB ps vs fr k=some z->ay ρ st.next.toNat C vs xs->fV ρ st.next.toNat C fr T->T.size=nt->(∀p∈ps,p<nt)->
  ∃bh,k bh=some z/\fV ρ st.next.toNat C bh ((ps.zip xs).foldl (λt (p,v)=>t.setIfInBounds p v) T)/\((ps.zip xs).foldl (λt (p,v)=>t.setIfInBounds p v) T).size=nt/\xs.length=ps.length
 |[],[],xs,fr,T,h,hv,hF,hs,_=>by
  have:=hv.mU;subst this;exact⟨fr,h,hF,hs,rfl⟩
 |p::ps,v::vs,xs,fr,T,h,hv,hF,hs,hp=>by
  obtain⟨x,vR,rfl,h1,h2⟩:=hv.cons_inv;unfold RB at h;rw[jg]at h;have hF':=fV.put (nt:=nt) (a:=⟨T,[]⟩) (d:=some p) hF hs (λ_ h=>by cases h;exact hp p (Zd6 ..)) h1;obtain⟨bh,g1,g2,g3,g4⟩:=OI (T:=T.setIfInBounds p x) h h2 hF' (by simpa using hs) λq hq=>hp q (Za4 _ hq)
  exact⟨bh,g1,g2,g3,by simp[g4]⟩
 |[],_::_,_,_,_,h,_,_,_,_=>by cases h
 |_::_,[],_,_,_,h,_,_,_,_=>by cases h
def aby(P:Program)(C:Cells)(L D0:Nat)(r:Loop)(uj:Fr)(UH:List AV->St->Option (List St)):Prop:=
 ∀  (vs:List AV)(st:St)(HH:List St)(ρ:Pos->Loc)(w:World)(args:Array Value),UH vs st=some HH->aZ ρ C st w->ay ρ st.next.toNat C vs args.toList->HG C L D0 r uj ρ st w []->
    args.size=r.params.size/\RoundIn (Fc none) 0 P L r.fn ((r.params.zip args).foldl (λt (p,v)=>t.setIfInBounds p v) r.tmps) r.assign r.body w λe w'=>
     ∃s∈HH,e= .returned (.bool true)/\∃ρ',aZ ρ' C s w'/\(∀b:Pos,b.toNat<st.next.toNat->ρ' b=ρ b)/\st.next.toNat<=s.next.toNat/\j0 ρ st w ρ' s w'
theorem aif{L D0:Nat}{r:Loop}{uj:Fr}{ps:List Nat}{f g:Fr->St->XS}(hp:r.params.toList=ps)(hr:r.state= .ready)(QM:r.pending=none)(hs:r.tmps.size=nt)(aO:∀p∈ps,p<nt)
   (hA:dY P C (some L) OH (λ_=>False) #[] nt r.assign f) (hB:dY P C (some L) OH (λ_=>False) #[] nt r.body g):aby P C L D0 r uj (abx ps (LY f g) uj):=by
 intro vs st HH ρ w args h hW hv hj;obtain⟨_,hl,_,OD,_,hF⟩:=hj;unfold abx at h;obtain⟨fr,h,hF1,OJ,hlen⟩:=OI h hv hF hs aO;have ajc:(ps.zip args.toList).foldl (λt (p,v)=>t.setIfInBounds p v) r.tmps=(r.params.zip args).foldl (λt (p,v)=>t.setIfInBounds p v) r.tmps:=by
   rw[<-hp, <-Array.foldl_toList,Array.toList_zip]
 rw[ajc]at hF1 OJ;refine⟨by rw[<-Zg3, <-Zg3,hp,hlen],roundIn_of_wpIn (F:=Fc none) trivial ?_⟩;split at h<;>first|(cases h;done)|skip
 rename_i outs hx;have iE:=(UG h).2;show r.assign.wpIn (Fc (some L)) 0 P _ _ w;refine hA.seq' OH.B8 hx ⟨hW,hF1,OJ,rfl⟩ rfl (λ_ h=>h.elim) (λcr aQ j8 a1 w1 h1 pW fc=> ?_) λo ho cL=>(cL (iE o ho).1).elim
 obtain⟨eH,S1,k1,k2,E1,hD1,_⟩:=fc;obtain⟨far1,Ah⟩:=Dv E1 (FG hl) OD;rw[hl]at Ah;refine⟨_,run_beginRound Ah hr,?_⟩;have abz:=FG Ah;refine hB cr aQ j8 eH a1 _ _ h1 ⟨S1.W.PG Ah far1,S1.F,S1.size,rfl⟩ hD1 (λ_ h=>h.elim) λo ho a3 w3 hp3=> ?_
 obtain⟨y,hy,hcv⟩:=pW o ho;obtain⟨Cx,DF⟩:=iE y hy;rw[<-hcv.e,Cx];obtain⟨BC,S3,j1,j2,E3,_,_⟩:=hp3;have nK:=World.putObj_heap_same (o:= .loop { r with state:= .busy }) abz;obtain⟨far3,hl3⟩:=Dv E3 (by rw[World.putObj_size];exact abz) far1;rw[nK]at hl3;refine⟨_,_,run_endRound (P:=P) none hl3,y.2.2,DF,rfl,BC,?_,λb hb=>(j1 b (Zd3 hb k2)).trans (k1 b hb),by rw[hcv.n];exact Zd4 k2 j2,?_⟩
 .exact(S3.W.PG hl3 far3).B8 hcv.h hcv.n
 . have hrec:({ ({ r with state:= .busy }:Loop)with state:=if(none:Option Code).isNone then .ready else .done,pending:=none }:Loop)=r:=(by cases r;simp only at hr QM;subst hr;subst QM;rfl);rw[hrec];refine E1.trans ⟨E3.os,E3.tape,E3.output,by rw[World.putObj_size];have:=E3.size;rw[World.putObj_size]at this;exact this,λk hk hn=> ?_,λb x hb=> ?_⟩
   . by_cases e:k=L
     .  subst e;rw[World.putObj_heap_same (FG hl3),Ah]
     .  rw[World.putObj_heap_other e,E3.block k (by rw[World.putObj_size];exact hk) hn,World.putObj_heap_other e]
   .have:=E3.oJ b x (hcv.h b x hb);rw[World.putObj_size]at this;exact this
end
structure YR where
 d:Nat
 dy:Nat
 xs:List eZ
 l1:List bw
 l2:List bw
def VU (d:Nat):List Oper->Nat->Option Nat
 |[],_=>none
 |  o ::l,i=>match o.op with
    | .call c=>match c.callee with
      | .value (.tmp e)=>match Nat.beq d e with
        |true=>some i
        |false=>VU d l (i+1)
      |_=>VU d l (i+1)
    |_=>VU d l (i+1)
def adx(d:Nat)(o:Oper):Bool:=match o.dst with
 |some e=> !Nat.beq d e
 |none=>true
def afy (tt : TT)(nt:Nat):Code->Option YR
 |  .region _ ops false=>match ops[0]? with
    |some o0  =>match o0.op,o0.dst,o0.guard with
     |  .move (.tmp 0),some d,none=>match VU d ops.toList 0 with
        |some j=>match ops[j]? with
         |  some oj=>match oj.op,oj.dst,oj.guard with
            | .call c,some dy,none=>match c.callee,jL c.args.toList,oe tt nt ops ops.toList []with
              | .value (.tmp d'),some xs,some l=>match Nat.beq d' d&&Nat.blt d nt&&Nat.blt dy nt&&Nat.blt 0 j&&Nat.blt j ops.size&&((ops.toList.drop 1).take (j - 1)).all (adx d)with
                |true=>some ⟨d,dy,xs,(l.drop 1).take (j - 1),l.drop (j+1)⟩
                |false=>none
              |_,_,_=>none
            |_,_,_=>none
         |none=>none
        |none=>none
     |_,_,_=>none
    |none=>none
 |_=>none
def PI:Code->Bool
 |.region _ ops _=>ops.toList.any λo=>match o.op with|.move (.tmp 0)=>true|_=>false
 |.seq a b=>PI a||PI b
 |.cond _ a b=>PI a||PI b
 |.block _ a=>PI a
 |.loop a=>PI a
 |_=>false
section
variable(bn:js XR)
def afz(UH:List AV->St->Option (List St))(y:YR)(fr:Fr)(st:St):XS:=oK none (key y.d) fr λfr=>match XQ bn y.l1 fr st with
 |  some (_,cr,aQ)=>O9 none cr y.xs λvs=>match UH vs aQ with
    |some HH=>oK (some (.bool true)) (key y.dy) cr λu9=>Jk (λs=>match XQ bn y.l2 u9 s with
     |some o=>some [o]
     |none=>none) HH []
    |none=>none
 |none=>none
end
section
variable{P:Program}{tt:TT}{C:Cells}{bn:js XR}{call:ai}{nt m:Nat}
theorem fV.drop{ρ:Pos->Loc}{n d:Nat}{fr:Fr}{X:Array Value}(h:fV ρ n C fr X)(v:Value):fV ρ n C (fr.put none (key d)) (X.setIfInBounds d v):=λp u hp=>by
 by_cases e:key d=p
 .subst e;rw[T.eO]at hp;cases hp
 .rw[T.bG _ e]at hp;obtain⟨y,hy,hr⟩:=h p u hp;refine⟨y,?_,hr⟩;rw[Ze7,hy];intro h';apply e;apply Pos.toNat_inj;rw[fL];have:=p.toNat_pos;omega
theorem OK{r:Option Nat}{ops:Array Oper}{Q:Exit->Act->World->Prop}{i:Nat}{rest:List Nat}{o:Oper}{a:Act}{w:World}(ho:ops[i]? =some o)(hg:o.guard=none)
  (h:o.uponIn (Fc r) 0 P a (wpOpsIn (Fc r) 0 P ops Q rest) Q ((o.semAt r a.eval).run P w)):wpOpsIn (Fc r) 0 P ops Q (i::rest) a w:=by
 rw[wpOpsIn_cons];unfold wpOpIn;rw[ho];simp only[Region.wanted,hg,Zh0];exact⟨λ_ _=>trivial,h⟩
theorem Zu(j k:Nat):List.range (j+1+1+k)=0::(List.range' 1 j++(j+1)::List.range' (j+2) k):=by rw[Zk0,show j+1+1+k=(j+1)+(k+1)by omega, <-List.range'_append_1,Zl2,Zl2 (s:=0+(j+1))];simp
theorem dY.yld(hT:bZ P tt)(hc:CK none bn call)(bV:fO P C call){L D0:Nat}{r:Loop}{uj:Fr}{x:Array Value}(vh:x[0]? =some (.func (.yield L) #[] #[]))
   {UH:List AV->St->Option (List St)} (afA:aby P C L D0 r uj UH) {c:Code} {y:YR} (hy:afy tt nt c=some y) (dH:∀t∈qL c,t≠0):
   dY P C none (HG C L D0 r uj) (λt=>t=0) x nt c (afz bn UH y):=by
 unfold afy at hy;split at hy<;>first|(cases hy;done)|skip
 rename_i id ops;split at hy<;>first|(cases hy;done)|skip
 rename_i o0 h0;split at hy<;>first|(cases hy;done)|skip
 rename_i d hop0 hd0 Rr;split at hy<;>first|(cases hy;done)|skip
 rename_i j hj;split at hy<;>first|(cases hy;done)|skip
 rename_i oj hoj;split at hy<;>first|(cases hy;done)|skip
 rename_i cl dy hopj hdj hgj;split at hy<;>first|(cases hy;done)|skip
 rename_i d' xs l Pj iw hl;split at hy<;>first|(cases hy;done)|skip
 rename_i hb;simp only[H0]at hy;subst hy;simp only[Zb0,Nat.beq_eq,Zo7]at hb;obtain⟨⟨⟨⟨⟨rfl,hd⟩,hdy⟩,hj0⟩,hjs⟩,E9⟩:=hb;intro fr st outs ρ a w Q h hS hJ hx hQ;unfold afz at h;rw[jg]at h;dsimp only at h;split at h<;>first|(cases h;done)|skip
 rename_i e1 cr aQ Cx;obtain⟨rfl,hz1⟩:=S5 hc Cx;rw[Nn]at h;unfold oO at h;split at h<;>first|(cases h;done)|skip
 rename_i vs jq;dsimp only at h;split at h<;>first|(cases h;done)|skip
 rename_i HH hr;rw[jg]at h;obtain⟨_,iE⟩:=xP h;have hlen:l.length=ops.size:=by rw[(oN hl).1,Zg3]
 have Ah:((l.drop 1).take (j - 1)).length=j - 1:=by rw[Zj7,Zl3,hlen];omega
 have nK:(l.drop (j+1)).length=ops.size - (j+1):=by rw[Zl3,hlen]
 apply wpIn_region;have aih:List.range ops.size=0::(List.range' 1 ((l.drop 1).take (j - 1)).length++(j::List.range' (j+1) (l.drop (j+1)).length)):=by rw[Ah,nK];have:=Zu (j - 1) (ops.size - (j+1));rw[show j - 1+1+1+(ops.size - (j+1))=ops.size by omega,show j - 1+1=j by omega,show j - 1+2=j+1 by omega]at this;exact this
 rw[aih];refine OK h0 Rr ?_;have hev0:a.eval (.tmp 0)= .func (.yield L) #[] #[]:=by
   have:=hx 0 rfl;rw[vh]at this;show a.tmps.getD 0 undef=_;simp[Zj0,this]
 have hsem:(o0.semAt none a.eval).run P w= .ok (.value (.func (.yield L) #[] #[])) w:=by
   show(execOp a.eval o0).run P w=_;unfold execOp;rw[hop0];simp only[Sem.run_pure,hev0]
 rw[hsem];show wpOpsIn (Fc none) 0 P ops Q _ (a.put o0.dst _) w;rw[hd0];show wpOpsIn (Fc none) 0 P ops Q _ ⟨a.tmps.setIfInBounds d' (.func (.yield L) #[] #[]),a.defers⟩ w;have ajd:d'≠0:=dH d' (by
   show d'∈ops.toList.filterMap (·.dst);rw[Zn5];exact⟨o0,by rw[Zm4];exact Zm2 h0,hd0⟩)
 have abA:∀(i:Nat)(o:Oper),ops[i]? =some o->∀t,o.dst=some t->t≠0:=λi o ho t ht=>dH t (by
   show t∈ops.toList.filterMap (·.dst);rw[Zn5];exact⟨o,by rw[Zm4];exact Zm2 ho,ht⟩)
 have hsz0:a.tmps.size=nt:=hS.size
 refine IU (ds:=[]) (ts:=λt=>t=0\/t=d') (x:=(a.tmps.setIfInBounds d' (.func (.yield L) #[] #[]))) (K:=λa' w'=>gh nt ρ C st w cr aQ a' w') (λT' w1 hk hp=> ?_) _ _ w (λi hi o ho t ht=> ?_) (λ_ _=>rfl)
   (qM (nt:=nt) hT bV _ 1 _ cr st aQ ρ _ w (λi ao hi=> ?_) hz1 ⟨hS.W,hS.F.drop _,by simpa using hsz0,rfl⟩ λa' w' hp=>hp)
 . obtain⟨eH,S1,k1,k2,E1⟩:=hp;have hJ1:=HG.stays _ _ _ _ _ _ _ hJ hS.W S1.W k1 k2 E1;have hD:a.defers=[]:=hJ.1;have T9:=hJ1.2.1;have Oa:=eP iw S1.F jq;obtain⟨e9,aii⟩:=afA vs aQ HH eH w1 (cl.args.map (⟨T',a.defers⟩:Act).eval) hr S1.W (by
     (rw[Zq6];have:(⟨T',a.defers⟩:Act).eval=(⟨T',[]⟩:Act).eval:=funext λ_=>Hw);rw[this];exact Oa) (by rw[<-hD];exact hJ1)
   refine OK hoj hgj ?_;have hevd:(⟨T',a.defers⟩:Act).eval (.tmp d')= .func (.yield L) #[] #[]:=by
     have:=hk d' (.inr rfl);rw[Zl9]at this;simp[hsz0,hd]at this;show T'.getD d' undef=_;simp[Zj0,this]
   have aje:(oj.semAt none (⟨T',a.defers⟩:Act).eval).run P w1= .ok (.round L r.fn ((r.params.zip (cl.args.map (⟨T',a.defers⟩:Act).eval)).foldl (λt (p,v)=>t.setIfInBounds p v) r.tmps) r.assign r.body) w1:=(by show(execOp (⟨T',a.defers⟩:Act).eval oj).run P w1=_;unfold execOp;rw[hopj];simp only[resolve,Pj,hevd,Deferred.ofValue,invoke,Sem.run_bind,Sem.run_pure,Result.andThen];have:=run_yield (P:=P) (args:= #[]++cl.args.map (⟨T',a.defers⟩:Act).eval) T9 (by simpa using e9);simpa using this);rw[aje];refine⟨λhd=>by simp[Fence.wide]at hd,aii.mono ?_⟩;rintro e w2 ⟨s,hs,rfl,m7,Ht,k3,k4,E2⟩;show wpOpsIn (Fc none) 0 P ops Q _ ((⟨T',a.defers⟩:Act).put oj.dst _) w2;rw[hdj];show wpOpsIn (Fc none) 0 P ops Q _ ⟨T'.setIfInBounds dy (.bool true),a.defers⟩ w2;obtain⟨j8,h1,pW⟩:=iE s hs;(split at h1<;>first|(cases h1;done)|skip);rename_i o ho;simp only[H0]at h1;subst h1;obtain⟨e3,Ry,s3⟩:=o;obtain⟨rfl,hz3⟩:=S5 hc ho;obtain⟨y,hyo,hcv⟩:=pW _ (Zd7.2 rfl);have hF2:=fV.put (nt:=nt) (a:=⟨T',[]⟩) (d:=some dy) (S1.F.mono k3 k4) S1.size (λ_ h=>by cases h;exact hdy) (aq.bool (C:=C) true);have hdy0:dy≠0:=abA j oj hoj dy hdj;rw[<-Zf7 (List.range' _ _)]
   refine IU (ds:=[]) (ts:=λt=>t=0) (x:=T'.setIfInBounds dy (.bool true)) (K:=λa' w'=>gh nt m7 C s w2 Ry s3 a' w') (λT2 w3 kF Af=> ?_) _ _ w2 (λi hi o ho t ht=>abA i o ho t ht) (λ_ _=>rfl)
     (qM (nt:=nt) hT bV _ (j+1) _ Ry s s3 m7 _ w2 (λi ao hi=> ?_) hz3 ⟨Ht,hF2,by simpa using S1.size,rfl⟩ λa' w' hp=>hp)
   . obtain⟨BC,S3,k5,k6,E3⟩:=Af;have K1:∀b:Pos,b.toNat<st.next.toNat->BC b=ρ b:=λb hb=>(k5 b (by omega)).trans ((k3 b (by omega)).trans (k1 b hb))
     have K2:st.next.toNat<=s3.next.toNat:=(by omega);have E:=(E1.trans E2).trans E3;show Q .normal _ _;have:=hQ y hyo ⟨T2,a.defers⟩ w3 (j9.Rx HG.B8 hcv ⟨BC,S3,K1,K2,E,HG.stays _ _ _ _ _ _ _ hJ hS.W S3.W K1 K2 E,λt ht=>by
        subst ht;rw[<-hx 0 rfl,kF 0 rfl,Ze7 hdy0,hk 0 (.inl rfl),Ze7 ajd]⟩)
     rw[hcv.e]at this;exact this
   .rw[Zd2]at hi;obtain⟨o,q1,q2,_⟩:=AG hl _ ao hi;exact⟨o,q1,q2⟩
 . rintro(rfl|rfl)
   .exact abA i o ho _ ht rfl
   . (rw[List.mem_range'_1,Ah]at hi;have hm:o∈(ops.toList.drop 1).take (j - 1):=by rw[Zc7];refine⟨i - 1,?_⟩;rw[Zc4,Za9 (by omega),Zd2,show 1+(i - 1)=i by omega,Zh7];exact ho);have:=Zd9.1 E9 o hm;simp only[adx,ht,Zi6]at this;exact Zc2 this rfl
 .rw[Zc4]at hi;(split at hi<;>first|(cases hi;done)|skip);rw[Zd2]at hi;obtain⟨o,q1,q2,_⟩:=AG hl _ ao hi;exact⟨o,q1,q2⟩
end
def rfS (gf ntg:Nat)(exI:Fr->Fr->St->XS)(og:eZ)(fr:Fr)(st:St):XS:=TU none fr og λ
 |  .func f [] S6=>match Nat.beq f gf&&Nat.ble (S6.length+1) ntg with
    |true=>AA S6 1 .e λfri=>match exI fr fri st with
     |  some outs=>Jk (λ|(e,_,s)=>match e with
        |.exit _=>none
        |_=>some [(.normal,fr,s)]) outs []
     |none=>none
    |false=>none
 |_=>none
section
variable{P:Program}{tt:TT}{C:Cells}{bn:js XR}{call:ai}{nt m:Nat}{ts:Nat->Prop}{x:Array Value}
def ItOk(P:Program)(C:Cells)(nt:Nat)(ps:Array Nat)(assign body:Code)(ntg:Nat)(gc:Code)(exI:Fr->Fr->St->XS):Prop:=
 ∀  (L D0:Nat)(r:Loop)(uj:Fr)(x:Array Value),r.state= .ready->r.pending=none->r.params=ps->r.assign=assign->r.body=body->r.tmps.size=nt->x[0]? =some (.func (.yield L) #[] #[])->
    dY P C none (HG C L D0 r uj) (λt=>t=0) x ntg gc (exI uj)
theorem dY.rf{B gf:Nat}{mM:Func}{gc:Code}(hf:P.funcs[gf]? =some mM)(gV:(mM.name== "runtime.NumGoroutine")=false)(hb:mM.body=some gc)(afe:mM.results= #[]){g:Operand}{ps:Array Nat}{assign body:Code}{og:eZ}
   (hg:lV g=some og) {exI:Fr->Fr->St->XS} (hI:ItOk P C nt ps assign body mM.ntmps gc exI):dY P C none (LZ B) ts x nt (.rangeFunc g ps assign body) (rfS gf mM.ntmps exI og):=by
 intro fr st outs ρ a w Q h hS hJ hx hQ;unfold rfS at h;rw[Lu]at h;unfold oO at h;split at h<;>first|(cases h;done)|skip
 rename_i v hv;dsimp only at h;split at h<;>first|(cases h;done)|skip
 rename_i f S6;split at h<;>first|(cases h;done)|skip
 rename_i yA;simp only[Zb0,Nat.beq_eq]at yA;obtain⟨rfl,hle⟩:=yA;have hle:=Za6 hle;rw[De]at h;split at h<;>first|(cases h;done)|skip
 rename_i j8 ho;obtain⟨_,iE⟩:=xP h;obtain⟨x',y',hval,nh,Uk⟩:=(qH hg hS.F hv).DC;have vh:x'= #[]:=by have:=nh.mU;exact Array.toList_eq_nil_iff.1 this
 subst vh;have hval:a.eval g= .func (.func f) #[] y':=by rw[<-hval];exact Hw
 refine wpIn_rangeFunc λfn _=> ?_
 let L:Nat:=w.heap.size+1
 let r:Loop:={ state:= .ready,pending:=none,fn,tmps:=a.tmps,params:=ps,assign,body,defers:=w.heap.size }
 let W1:World:=(w.alloc (.deferred (some []))).alloc (.loop r)
 have hL1:W1.heap[L]? =some (.loop r):=by have:=World.alloc_heap_new (w.alloc (.deferred (some []))) (.loop r);rwa [World.size_alloc]at this
 have hold:∀k,k<w.heap.size->W1.heap[k]? =w.heap[k]? :=λk hk=>(heap_alloc_old _ _ (by simp;omega)).trans (heap_alloc_old w _ hk)
 have hK1:W1.heap[w.heap.size]? =some (.deferred (some [])):=(heap_alloc_old _ _ (by simp)).trans (World.alloc_heap_new w _);have hWs:W1.heap.size=w.heap.size+1+1:=by show((w.alloc _).alloc _).heap.size=_;simp
 have DS:¬mM.name= "runtime.NumGoroutine" :=by simpa using gV
 refine⟨L,[mark w.heap.size],W1,{ target:= .fn (.func f) y',args:= #[.func (.yield L) #[] #[]] },W1,f, #[.func (.yield L) #[] #[]]++y',W1,run_enterLoop_outer _ _ _ _ _,?_,λ_ _=>trivial,?_,λhd=>by simp[Fence.wide]at hd,?_⟩
 .simp only[resolve,rangeCall,hval,Deferred.ofValue,Sem.run_pure];simp[Act.eval]
 .simp[invoke,callFunc,hf,DS,hb]
 refine callsIn_of_wp hf hb trivial ?_;have WJ:aZ ρ C st W1:=hS.W.grow (by omega) hold;have hlen:(#[Value.func (.yield L) #[] #[]]++y').size=S6.length+1:=by have:=Uk.1;simp at this ⊢; omega
 obtain⟨X,hX⟩:∃X,X=(#[Value.func (.yield L) #[] #[]]++y')++Array.replicate (mM.ntmps - (#[Value.func (.yield L) #[] #[]]++y').size) undef:=⟨_,rfl⟩
 rw[<-hX];have hX0:X[0]? =some (.func (.yield L) #[] #[]):=by rw[hX,Zi1 (by simp;omega),Zi1 (by simp)];rfl
 have hXs:X.size=mM.ntmps:=by rw[hX,Array.size_append,Array.size_replicate,hlen];omega
 have hfar:∀k,w.heap.size<=k->∀b z,st.heap.get b=some z->(ρ b).az≠k:=λk hk b z hb e=>by have:=(hS.W.live b z hb).2.1;omega
 have hJ0:HG C L w.heap.size r fr ρ st W1 []:=⟨rfl,hL1,hK1,hfar L (by show w.heap.size<=w.heap.size+1;omega),hfar _ (Za5 _),hS.F⟩
 have hF0:fV ρ st.next.toNat C (params 1 S6 .e) X:=yD S6 y'.toList 1 .e Uk (λk z hz=>by
   rw[hX,Zi1,Array.getElem?_append_right]<;>simp at hz ⊢
   .exact hz
   .have:=(Zd8.1 hz).1;omega) (λp v hp=>by rw[T.ei]at hp;cases hp)
 refine hI L w.heap.size r fr X rfl rfl rfl rfl rfl hS.size hX0 _ st j8 ρ ⟨X,[]⟩ W1 _ ho ⟨WJ,hF0,hXs,rfl⟩ hJ0 (λt _=>rfl) λo XU a3 w3 hp=> ?_
 obtain⟨BC,S3,k1,k2,E3,hJ3,_⟩:=hp;obtain⟨h3D,h3l,h3d,h3f,h3g,h3F⟩:=hJ3;obtain⟨abw,h2,pW⟩:=iE o XU;obtain⟨e,Ry,HF⟩:=o;dsimp only at h2 S3 k1 k2 E3 h3f h3g h3F;have agQ:(results mM a3.tmps).run P w3= .ok (.tuple #[]) w3:=by
   simp[results,afe]
 have hend:=run_endLoop (P:=P) h3l (by show LoopState.ready≠LoopState.busy;simp);have fin:abw=[(.normal,fr,HF)]->rangePost (Fc none) 0 P L Q { a with defers:=[mark w.heap.size]++a.defers } (.returned (.tuple #[])) w3:=λhe=>by
   (subst he;obtain⟨y,hy,hcv⟩:=pW _ (Zd7.2 rfl);refine⟨_,_,hend,?_⟩;show Q .normal _ _;have hLne:∀k,k≠L->(w3.putObj L (.loop { r with state:= .exhausted })).heap[k]? =w3.heap[k]? :=λk hk=>World.putObj_heap_other hk);have E:j0 ρ st w BC HF (w3.putObj L (.loop { r with state:= .exhausted })):=by
     refine⟨E3.os,E3.tape,E3.output,?_,λk hk hn=> ?_,λb z hb=> ?_⟩
     .  rw[World.putObj_size];have:=E3.size;omega
     .  rw[hLne k (by show k≠w.heap.size+1;omega),E3.block k (by omega) hn,hold k hk]
     .  rcases E3.oJ b z hb with h|h
        .exact .inl h
        .exact .inr (by omega)
   have hW3:=S3.W.PG (o:= .loop { r with state:= .exhausted }) h3l h3f;have:=hQ y hy { a with defers:=[mark w.heap.size]++a.defers } _ (j9.Rx LZ.B8 hcv ⟨BC,⟨hW3,h3F,hS.size,rfl⟩,k1,k2,E,?_,hx⟩)
   .rw[hcv.e]at this;exact this
   . obtain⟨hB,rs,h1,h2,h3⟩:=hJ;refine⟨Zd4 hB E.size,w.heap.size::rs,by show [mark w.heap.size]++a.defers=_;rw[h1];rfl,Zr3.2 ⟨λhm=> ?_,h2⟩,λk hk=> ?_⟩
     .  have:=FG (h3 _ hm).2.1;omega
     .  rcases Zb2.1 hk with rfl|hk
        .exact⟨hB,(hLne _ (by show w.heap.size≠w.heap.size+1;omega)).trans h3d,h3g⟩
        .obtain⟨g0,g1,g2⟩:=h3 k hk;obtain⟨f1,f2⟩:=Dv E (FG g1) g2;exact⟨g0,f2.trans g1,f1⟩
 cases e with
 |exit i=>cases h2
 |normal=>exact⟨h3D,_,agQ,fin (Zg4 h2).symm⟩
 |ret=>exact⟨h3D,_,agQ,fin (Zg4 h2).symm⟩
end
def wL:AV->Bool
 |.bool _=>true
 |.int _ _=>true
 |_=>false
def VV(acc:Option AV)(v:AV):Bool:=match acc with
 |none=>true
 |some u=>fE u v
def ND (rs:List Bl)(st:St):List XO->Option AV->Option AV
 |[],acc=>acc
 |  (e, cr,aQ)::l,acc=>match e with
    |.exit _=>none
    | _ =>match c9 (λb=>m8 b aQ.heap) cr rs with
      | some vs=>match vs.all wL&&T.sub Fy st.heap aQ.heap&&VV acc (iC vs)with
        |true=>ND rs st l (some (iC vs))
        |false=>none
      |none=>none
def mfn (ex:Fr->St->XS)(np:Nat)(rs:List Bl)(args:List AV)(st:St):Option (AV×St):=match Nat.beq args.length np with
 |  true=>AA args 0 .e λfr=>match ex fr st with
    |some outs=>match outs with
     |  [(e,cr,aQ)]=>match e with
        |.exit _=>none
        | _=>match c9 (λb=>m8 b aQ.heap) cr rs,Nat.ble st.next.toNat aQ.next.toNat with
          |some vs,true=>some (iC vs,aQ)
          |_,_=>none
     |  _=>match ND rs st outs none with
        |some v=>some (v,st)
        |none=>none
    |none=>none
 |false=>none
theorem aq.flat{ρ ρ':Pos->Loc}{n n':Nat}{C:Cells}{v:AV}{x:Value}(hf:wL v=true)(h:aq ρ n C v x):aq ρ' n' C v x:=by
 cases v<;>first|(cases hf;done)|skip
 .have:=h.iD;subst this;exact .bool _
 .have:=h.iI;subst this;exact .int _ _
theorem aq.ajf{ρ ρ':Pos->Loc}{n n':Nat}{C:Cells}{vs:List AV}{x:Value}(hf:vs.all wL=true)(h:aq ρ n C (iC vs) x):aq ρ' n' C (iC vs) x:=by
 have tup:∀{x},aq ρ n C (.tuple vs) x->aq ρ' n' C (.tuple vs) x:=λ{x} h=>by
   cases h with
   |tuple l cs hl hh=>exact .tuple _ cs hl λi v v' hv DH=>(hh i v v' hv DH).flat (Zd9.1 hf v (Zb4 hv))
 unfold iC at h ⊢;split at h
 .exact h.flat (Zd9.1 hf _ (by simp))
 .exact tup h
theorem RD{rs:List Bl}{st:St}{v:AV}:∀{l:List XO}{acc:Option AV},ND rs st l acc=some v->(∀u,acc=some u->u=v)/\∀o∈l,(∀i,o.1≠ .exit i)/\∃vs,c9 (λb=>m8 b o.2.2.heap) o.2.1 rs=some vs/\v=iC vs/\vs.all wL=true/\∀p u,st.heap.get p=some u->o.2.2.heap.get p=some u
 |[],acc,h=>by
  simp only[ND]at h;subst h;exact⟨λu h=>(Zg4 h).symm,λo ho=>by cases ho⟩
 |(e,   cr,aQ)::l,acc,h=>by
  unfold ND at h
  have key:∀vs,(c9 (λb=>m8 b aQ.heap) cr rs=some vs)->(vs.all wL&&T.sub Fy st.heap aQ.heap&&VV acc (iC vs))=true->ND rs st l (some (iC vs))=some v->(∀i,e≠ .exit i)->
        (∀u,acc=some u->u=v)/\∀o∈(e,cr,aQ)::l,(∀i,o.1≠ .exit i)/\∃vs,c9 (λb=>m8 b o.2.2.heap) o.2.1 rs=some vs/\v=iC vs/\vs.all wL=true/\∀p u,st.heap.get p=some u->o.2.2.heap.get p=some u:=by
    intro vs jq hb hr he;simp only[Zb0]at hb;obtain⟨h1,h2⟩:=RD hr;have hv:=h1 _ rfl;refine⟨λu hu=> ?_,λo ho=> ?_⟩
    .   subst hu;rw[<-hv];exact qO hb.2
    .   rcases Zb2.1 ho with rfl|ho
        .exact⟨he,vs,jq,hv.symm,hb.1.1,T.AR (λ_ _=>Po) hb.1.2⟩
        .exact h2 o ho
  cases e with
  |exit i=>cases h
  | normal=>
    dsimp only at h;(split at h<;>first|(cases h;done)|skip);rename_i vs jq;cases hb:(vs.all wL&&T.sub Fy st.heap aQ.heap&&VV acc (iC vs))with
    |false=>rw[hb]at h;cases h
    |true=>rw[hb]at h;exact key vs jq hb h (λi=>by simp)
  | ret=>
    dsimp only at h;(split at h<;>first|(cases h;done)|skip);rename_i vs jq;cases hb:(vs.all wL&&T.sub Fy st.heap aQ.heap&&VV acc (iC vs))with
    |false=>rw[hb]at h;cases h
    |true=>rw[hb]at h;exact key vs jq hb h (λi=>by simp)
theorem XV{ex:Fr->St->XS}{np:Nat}{rs:List Bl}{args:List AV}{st st':St}{v:AV}(h:mfn ex np rs args st=some (v,st')):args.length=np/\st.next.toNat<=st'.next.toNat/\∃outs,ex (params 0 args .e) st=some outs/\
   ∀o∈outs,(∀i,o.1≠ .exit i)/\∃vs,c9 (λb=>m8 b o.2.2.heap) o.2.1 rs=some vs/\v=iC vs/\(st'=o.2.2\/(st'=st/\vs.all wL=true/\∀p u,st.heap.get p=some u->o.2.2.heap.get p=some u)):=by
 unfold mfn at h;split at h<;>first|(cases h;done)|skip
 rename_i hlen;rw[De]at h;split at h<;>first|(cases h;done)|skip
 rename_i outs ho;refine⟨Za2 hlen,?_⟩;split at h
 . rename_i e cr aQ
   have key:∀vs,c9 (λb=>m8 b aQ.heap) cr rs=some vs->Nat.ble st.next.toNat aQ.next.toNat=true->some (iC vs,aQ)=some (v,st')->(∀i,e≠ .exit i)->
        st.next.toNat<=st'.next.toNat/\∃outs,ex (params 0 args .e) st=some outs/\∀o∈outs,(∀i,o.1≠ .exit i)/\∃vs,c9 (λb=>m8 b o.2.2.heap) o.2.1 rs=some vs/\v=iC vs/\(st'=o.2.2\/(st'=st/\vs.all wL=true/\∀p u,st.heap.get p=some u->o.2.2.heap.get p=some u)):=by
    intro vs jq hn he cL;simp only[H0,Zb9]at he;obtain⟨rfl,rfl⟩:=he;refine⟨Za6 hn,_,ho,λo XU=> ?_⟩;have:=Zd7.1 XU;subst this;exact⟨cL,vs,jq,rfl,.inl rfl⟩
   cases e with
   |exit i=>cases h
   |normal=>
    dsimp only at h;(split at h<;>first|(cases h;done)|skip);rename_i vs jq hn;exact key vs jq hn h (λi=>by simp)
   |ret=>
    dsimp only at h;(split at h<;>first|(cases h;done)|skip);rename_i vs jq hn;exact key vs jq hn h (λi=>by simp)
 . (split at h<;>first|(cases h;done)|skip);rename_i u hu;simp only[H0,Zb9]at h;obtain⟨rfl,rfl⟩:=h;refine⟨Za5 _,_,ho,λo XU=> ?_⟩;obtain⟨h1,vs,h2,h3,h4,h5⟩:=(RD hu).2 o XU;exact⟨h1,vs,h2,h3,.inr ⟨rfl,h4,h5⟩⟩
section
variable{P:Program}{tt:TT}{C:Cells}
theorem L4{fn:Func}{tmps:Array Value}{R:Ending->World->Prop}{ρ:Pos->Loc}{st:St}:∀(rs:List Nat)(w:World),rs.Nodup->(∀r∈rs,w.heap[r]? =some (.deferred (some []))/\∀b x,st.heap.get b=some x->(ρ b).az≠r)->aZ ρ C st w->
  (∀w2,aZ ρ C st w2->w2.heap.size=w.heap.size->(∀k,k∉rs->w2.heap[k]? =w.heap[k]?)->w2.os=w.os->w2.tape=w.tape->w2.output=w.output->∃v,(results fn tmps).run P w2= .ok v w2/\R (.returned v) w2)->
  LeavesInM (Fc none) 0 P fn tmps R (rs.map mark) .returning w
 |[],w,_,_,hW,h=>h w hW rfl (λ_ _=>rfl) rfl rfl rfl
 |r ::rs,w,E9,hr,hW,h=>by
  obtain⟨h1,h2⟩:=Zr3.1 E9;obtain⟨g1,g2⟩:=hr r (Zd6 ..);refine⟨by simp,.inl ⟨r,_,rfl,run_takeDeferred g1,?_⟩⟩;refine L4 rs _ h2 (λk hk=> ?_) (hW.afx g1 g2) λw2 Ht hs hk ho ht SA=> ?_
  .obtain⟨f1,f2⟩:=hr k (Za4 _ hk);exact⟨by rw[World.putObj_heap_other (λe=>h1 (by subst e;exact hk))];exact f1,f2⟩
  .refine h w2 Ht (by rw[hs,World.putObj_size]) (λk lW=> ?_) ho ht SA;rw[hk k (λhm=>lW (Za4 _ hm)),World.putObj_heap_other (λe=>lW (by subst e;exact Zd6 ..))]
theorem aij(hT:bZ P tt){f np:Nat}{fn:Func}{c:Code}{ex:Fr->St->XS}{rs:List Bl}(hf:P.funcs[f]? =some fn)(gV:(fn.name== "runtime.NumGoroutine")=false)(hb:fn.body=some c)
  (hx:∀B,dY P C none (LZ B) (λ_=>False) #[] fn.ntmps c ex) (hr:mZ tt fn.results.toList=some rs) (hle:np<=fn.ntmps):lq P C f (mfn ex np rs) where
 mono args st v st' h:=(XV h).2.1
 runs ρ st w args v st' bJ h hW qF:=by
  obtain⟨hlen,hn,outs,ho,iE⟩:=XV h;have cq:(callFunc f bJ.toArray).run P w= .ok (.enter f bJ.toArray) w:=by
   have DS:¬fn.name= "runtime.NumGoroutine" :=(by simpa using gV);simp[callFunc,hf,DS,hb]
  rw[cq];simp only[Reaches];refine callsIn_wide (n:=0) |>.1 (callsIn_of_wp_marks hf hb trivial ?_);have e9:bJ.length<=fn.ntmps:=by rw[<-qF.1,hlen];exact hle
  have hS:nP fn.ntmps ρ C (params 0 args .e) st { tmps:=bJ.toArray++Array.replicate (fn.ntmps - bJ.toArray.size) undef,defers:=[] } w:=by
   refine⟨hW,?_,?_,rfl⟩
   .    refine yD args bJ 0 .e qF (λj x hx=> ?_) (λp v hp=>by rw[T.ei]at hp;cases hp);have hj:j<bJ.length:=(Za1.1 hx).1;rw[Zd1,Zi1 (by simpa using hj)];simpa using hx
   .    simp;omega
  show c.wpIn (Fc none) 0 P _ _ w;refine hx w.heap.size _ st outs ρ _ w _ ho hS ⟨Za5 _,[],rfl,List.nodup_nil,λ_ h=>by cases h⟩ (λ_ h=>h.elim) λo XU a' w' hp=> ?_
  obtain⟨eH,S1,k1,k2,E,⟨hB,ks,hD,E9,Cz⟩,_⟩:=hp;obtain⟨cL,vs,jq,hv,jP⟩:=iE o XU;simp only[uU]at jq;have key:LeavesInM (Fc none) 0 P fn a'.tmps (λ|.returned v',w''=>ni ρ C st w v st' v' w''|_,_=>False) a'.defers .returning w':=by
   (rw[hD];(refine L4 ks w' E9 (λr hr=>(Cz r hr).2) S1.W λw2 Ht hs Cy DK ht SA=> ?_);obtain⟨y,Cx,DF⟩:=rR hT Ht S1.F hr jq;refine⟨y,Cx,?_⟩;have vD:∀k,k<w.heap.size->w2.heap[k]? =w'.heap[k]? :=λk aO=>Cy k λhm=>by have:=(Cz k hm).1;omega);rcases jP with rfl|⟨rfl,T6,abb⟩
   .    rw[hv];exact⟨eH,DF,k1,k2,Ht,⟨DK.trans E.os,ht.trans E.tape,SA.trans E.output,by rw[hs];exact E.size,λk hk hn=>(vD k hk).trans (E.block k hk hn),E.oJ⟩⟩
   .    rw[hv];refine⟨ρ,DF.ajf T6,λ_ _=>rfl,Za5 _,hW.back abb k1 Ht (by rw[hs];exact E.size),⟨DK.trans E.os,ht.trans E.tape,SA.trans E.output,by rw[hs];exact E.size,λk hk hn=>(vD k hk).trans (E.block k hk hn),λb x hb=>.inl ⟨b,x,hb,rfl⟩⟩⟩
  obtain⟨e,cr,aQ⟩:=o;cases e with
  |exit i=>exact(cL i rfl).elim
  |normal=>exact key
  |ret=>exact key
def agR(P:Program)(tt:TT)(bn:js XR)(m:Nat)(nt:Nat)(UH:List AV->St->Option (List St))(c:Code):Option (Fr->St->XS):=match afy tt nt c with
 |some y=>some (afz bn UH y)
 |  none=>match PI c with
    |true=>none
    |false=>Bh P tt bn m [] nt c
def VW(P:Program)(tt:TT)(bn:js XR)(m:Nat)(kp:List Nat)(nt gf:Nat)(mM:Func):Code->Option (Fr->St->XS)
 |  .rangeFunc g ps a b=>match lV g,mM.body with
    |some og,some gc=>match (qL gc).all (λt=> !Nat.beq t 0)&&ps.toList.all (λp=>Nat.blt p nt)&&mM.results.isEmpty with
     |true=>some (rfS gf mM.ntmps (λuj=>xQ (agR P tt bn m mM.ntmps (abx ps.toList (LY (xQ (Bh P tt bn m kp nt) m a) (xQ (Bh P tt bn m kp nt) m b)) uj)) m gc) og)
     |false=>none
    |_,_=>none
 |c=>Bh P tt bn m kp nt c
def aaP(P:Program)(tt:TT)(O:fh)(G:T dc)(m d:Nat)(kp:List Nat)(gf:Nat)(mM fn:Func):List AV->St->Option (AV×St):=
 match fn.body,mZ tt fn.results.toList,Nat.ble (fn.params.size+fn.nfree) fn.ntmps with
 |some c,some rs,true=>mfn (xQ (VW P tt (E7 none O G m d) m kp fn.ntmps gf mM) m c) (fn.params.size+fn.nfree) rs
 |_,_,_=>λ_ _=>none
theorem afB{bn:js XR}{call:ai}{m nt gf B:Nat}{kp:List Nat}{mM:Func}(hT:bZ P tt)(hc:CK none bn call)(bV:fO P C call)(gJ:rQ P tt C call)(hf:P.funcs[gf]? =some mM)(gV:(mM.name== "runtime.NumGoroutine")=false)
   {c:Code} {f:Fr->St->XS} (h:VW P tt bn m kp nt gf mM c=some f):dY P C none (LZ B) (λ_=>False) #[] nt c f:=by
 have hR:∀{c f},Bh P tt bn m kp nt c=some f->dY P C none (LZ B) (λ_=>False) #[] nt c f:=λh=>PE hT hc bV gJ LZ.stays (λ_ _ h=>h) h
 unfold VW at h;split at h
 . rename_i g ps a b;(split at h<;>first|(cases h;done)|skip);rename_i og gc hg hgb;(split at h<;>first|(cases h;done)|skip);rename_i yA;simp only[H0]at h;subst h;simp only[Zb0]at yA;obtain⟨⟨c1,c2⟩,c3⟩:=yA;have hd0:∀t∈qL gc,¬(λt=>t=0) t:=λt ht e=>by have:=Zd9.1 c1 t ht;subst e;simp at this
   (refine dY.rf hf gV hgb (by simpa using c3) hg λL D0 r uj x hr hp ZT ha hb hs vh=> ?_);have rd:∀c,dY P C (some L) OH (λ_=>False) #[] nt c (xQ (Bh P tt bn m kp nt) m c):=λc=>dY.sp OH.B8 c (λ_ _ h=>h) λc f _ h=>PE hT hc bV gJ OH.stays (λ_ _ h=>h) h
   have afA:aby P C L D0 r uj (abx ps.toList (LY (xQ (Bh P tt bn m kp nt) m a) (xQ (Bh P tt bn m kp nt) m b)) uj):=aif (by rw[ZT]) hr hp hs (λp hp'=>by
     have:=Zd9.1 c2 p hp';simpa using this) (by rw[ha];exact rd a) (by rw[hb];exact rd b)
   (refine dY.sp HG.B8 gc hd0 λc f dH h=> ?_);unfold agR at h;split at h
   .rename_i y hy;simp only[H0]at h;subst h;exact dY.yld hT hc bV vh afA hy dH
   . (split at h<;>first|(cases h;done)|skip);exact PE hT hc bV gJ HG.stays dH h
 .exact hR h
theorem aet(hm:P.follows .mixedOrders=true)(hT:bZ P tt){O:fh}{G:T dc}(hO:qE P C O)(Lt:lQ O)(hG:Qk P tt G){f gf m d:Nat}{kp:List Nat}{fn mM:Func}(hf:P.funcs[f]? =some fn)
   (gV:(fn.name== "runtime.NumGoroutine")=false) (hgf:P.funcs[gf]? =some mM) (V0:(mM.name== "runtime.NumGoroutine")=false):lq P C f (aaP P tt O G m d kp gf mM fn):=by
 have bV:=Iv (C:=C) hm hT hO Lt hG m d;have hcm:=IW (G:=G) Lt m d
 have key:∀c rs,fn.body=some c->mZ tt fn.results.toList=some rs->Nat.ble (fn.params.size+fn.nfree) fn.ntmps=true->
    lq P C f (mfn (xQ (VW P tt (E7 none O G m d) m kp fn.ntmps gf mM) m c) (fn.params.size+fn.nfree) rs):=λc rs hb hr hle=>
   aij hT hf gV hb (λB=>dY.sp LZ.B8 c (λ_ _ h=>h) λc f _ h=>afB hT (I8 none O G m d) bV (I3 hm hT bV hcm) hgf V0 h) hr (Za6 hle)
 unfold aaP;split
 .exact key _ _ (by assumption) (by assumption) (by assumption)
 .exact⟨λ_ _ _ _ h=>(by cases h),λ_ _ _ _ _ _ _ h=>(by cases h)⟩
end
end
section
open Go
def Iu:List AV->St->Option (AV×St)
 |[v],st=>some (v,st)
 |_,_=>none
theorem acu{P:Program}{C:Cells}{f:FuncId}{fn:Func}(hf:P.funcs[f]? =some fn)(gV:(fn.name== "runtime.NumGoroutine")=false)(hb:fn.body.isNone=true)(hx:Extern.findNext fn=none)
  (he:Extern.find fn=some Extern.AbiNoEscape.same):lq P C f Iu where
 mono args st v st' h:=by unfold Iu at h;split at h<;>cases h;exact Za5 _
 runs ρ st w args v st' bJ h hW hv:=by
  unfold Iu at h;split at h<;>cases h;obtain⟨x,xs,rfl,h1,h2⟩:=hv.cons_inv;have:=h2.mU;subst this;have cq:(callFunc f [x].toArray).run P w= .ok (.value x) w:=by rw[run_callFunc_extern hf gV hb hx he];show((Extern.AbiNoEscape.same #[x]).run P w).andThen _=_;have:Extern.AbiNoEscape.same #[x]=pure x:=rfl;rw[this];rfl
  rw[cq];exact⟨ρ,h1,λ_ _=>rfl,Za5 _,hW,j0.refl _ _ _⟩
theorem Wa{P:Program}{tt:TT}{O:fh}{G:T dc}{m d f:Nat}{fn:Func}{c:Code}(hm:P.follows .mixedOrders=true)(hT:bZ P tt)(hG:Qk P tt G)
  (hO:qE P (λ_=>none) O) (Lt:lQ O) (hf:P.funcs[f]? =some fn) (gV:¬fn.name= "runtime.NumGoroutine") (hb:fn.body=some c) {b:Bool}
  (h:E7 (R:=Bool) false O G m d f [] { heap:= .e,next:= .h } (λv _=>fE v (.bool b))=true) (w:World):
  Calls P f #[] w λe w'=>e= .returned (.bool b)/\Go.RowKit.Below w.heap.size w w':=by
 rw[I8 false O G m d]at h;unfold oO at h;split at h<;>first|(cases h;done)|skip
 rename_i x hx;obtain⟨v,aQ⟩:=x;have hv:=qO h;simp only at hv;subst hv;have hr:=Iv hm hT hO Lt hG m d (λ_=>⟨0,0,0⟩) { heap:= .e,next:= .h } w f [] (.bool b) aQ [] hx (Bt (λ_ _ h=>by cases h) (λ_ _ h=>by cases h)) ay.nil;have cq:(callFunc f ([]:List Value).toArray).run P w= .ok (.enter f #[]) w:=by simp[callFunc,hf,gV,hb]
 rw[cq]at hr;refine Calls.mono hr λe w' he=> ?_
 cases e with
 |returned x=>
  obtain⟨ρ',h1,_,_,_,hE⟩:=he;have:=h1.iD;subst this;exact⟨rfl,hE.os,hE.tape,hE.output,hE.size,λk hk=>hE.block k hk λb x hb=>by rw[T.ei]at hb;cases hb⟩
 |panicked c=>exact he.elim
 |outgrown=>exact he.elim
def G6:Nat->AV->Bool
 |_,.bool _=>true
 |_,.int _ _=>true
 |_,.str _=>true
 |_,.ah=>true
 |n+1,.agg l=>l.all (G6 n)
 |n+1,.tuple l=>l.all (G6 n)
 |n+1,.fl xs _=>xs.all λr=>r.all (G6 n)
 |_,_=>false
theorem FH:∀(n:Nat){v:AV},G6 n v=true->Plain v
 |0,v,h=>by cases v<;>first|(cases h;done)|exact .bool _|exact .int _ _|exact .str _|exact .ah
 |n+1,v,h=>by
  cases v<;>first|(cases h;done)|exact .bool _|exact .int _ _|exact .str _|exact .ah|skip
  .exact .fl λcs hc v hv=>FH n (Zd9.1 (Zd9.1 h cs hc) v hv)
  .exact .agg λv hv=>FH n (Zd9.1 h v hv)
  .exact .tuple λv hv=>FH n (Zd9.1 h v hv)
theorem Plain.all{n:Nat}{l:List AV}(h:l.all (G6 n)=true):∀v∈l,Plain v:=λv hv=>FH n (Zd9.1 h v hv)
theorem acy{l:List AV}(h:l.all wL=true):iK (.tuple l):= .tuple λv hv=>by have:=Zd9.1 h v hv;cases v<;>first|(cases this;done)|exact .bool _|exact .int _ _
def O4(d:Nat)(A:List AV)(r:AV):List AV->St->Option (AV×St):=λargs st=>match Bu (args.map (dZ st d)) A with
 |true=>some (r,st)
 |false=>none
theorem acw{P:Program}{C:Cells}{O:fh}{G:T dc}{m n f d:Nat}{A:List AV}{r:AV}(bV:∀C:Cells,fO P C (qG O G m n))(ha:∀a∈A,Plain a)(hr:Plain r)(hb:iK r)
  (h:E7 (R:=Bool) false O G m n f A { heap:= .e,next:= .h } (λv _=>fE v r)=true):lq P C f (O4 d A r):=by
 have h1:=adl (C:=C) (d:=d) (As:=[A]) bV (λB hB=>by rw[Zd7.1 hB];exact ha) hr hb (by simpa using h);have key:∀args st x,O4 d A r args st=some x->SM d [A] r args st=some x:=λargs st x hx=>by
  unfold O4 at hx;split at hx<;>first|(cases hx;done)|skip
  rename_i hq;simp only[H0]at hx;subst hx;exact ahn A (Zd7.2 rfl) (Fx hq)
 exact⟨λargs st v st' hs=>h1.mono args st v st' (key _ _ _ hs),λρ st w args v st' bJ hs=>h1.runs ρ st w args v st' bJ (key _ _ _ hs)⟩
end
end Go.Ai
