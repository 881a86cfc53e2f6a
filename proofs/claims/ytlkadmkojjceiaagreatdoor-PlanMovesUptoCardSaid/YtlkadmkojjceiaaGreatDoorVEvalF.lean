/- Loops over maps in all orders, loops over functions. -/
import Derived.Test.YtlkadmkojjceiaaGreatDoorVEvalE
import Derived.Maps.RangeRun
import Derived.Laws.EntriesVeiled
import Derived.RangeFuncRecord
set_option linter.all false
namespace Go.Ai
noncomputable section
open Go Go.RowKit
section
variable{ρ ρ':Pos->Loc}{C:Cells}{st aN:St}{w w1 w':World}{nt r:Nat}{fr bN:Fr}{a a1:Act}
theorem aT.back(hW:aT ρ C st w)(hk:aP st aN)(aQ:∀b:Pos,b.toNat<st.next.toNat->ρ' b=ρ b)(ei:aT ρ' C aN w1)(hs:w.heap.size<=w1.heap.size):aT ρ C st w1:=by
 refine⟨λb y hb=> ?_,hW.inj,λa u ha=>⟨(ei.cV a u ha).1,(hW.cV a u ha).2⟩,ei.whole⟩;obtain⟨g1,g2,g3⟩:=hW.live b y hb;obtain⟨_,_,k3⟩:=ei.live b y (hk b y hb);refine⟨g1,Zb9 g2 hs,?_⟩;rw[aQ b g1]at k3;cases y with
 |cells cs fz=>
  obtain⟨c,e,fr,q1,q2,q3,q4,q5⟩:=k3;obtain⟨c0,e0,bO,p1,p2,p3,p4,p5⟩:=g3;refine⟨c,e,fr,q1,q2,q3,⟨q4.1,λi v x hv hx=> ?_⟩,q5⟩;obtain⟨y0,hy0,GX⟩:=p4.get hv;exact(q4.2 i v x hv hx).down GX aQ
 |map es clock=>
  obtain⟨es',q1,q2,q3⟩:=k3;obtain⟨es0,p1,p2,p3⟩:=g3;refine⟨es',q1,q2,λi e e' he jN=> ?_⟩;obtain⟨a1,a2,a3⟩:=q3 i e e' he jN;have hi:i<es0.size:=by rw[<-p2];exact(H5.1 he).1
  obtain⟨b1,b2,_⟩:=p3 i e _ he (Ze3 hi);exact⟨a1.down b1 aQ,a2.down b2 aQ,a3⟩
 |iR s pos=>exact k3
 |typed t cs=>
  obtain⟨c,fr,q1,q2,q3,q4,q5⟩:=k3;obtain⟨c0,bO,p1,p2,p3,p4,p5⟩:=g3;refine⟨c,fr,q1,q2,q3,⟨q4.1,λi v x hv hx=> ?_⟩,q5⟩;obtain⟨y0,hy0,GX⟩:=p4.get hv;exact(q4.2 i v x hv hx).down GX aQ
theorem eO.sub{n:Nat}{tmps:Array Value}(h:eO ρ n C bN tmps)(hf:∀p v,fr.get p=some v->bN.get p=some v):eO ρ n C fr tmps:=λp v hp=>h p v (hf p v hp)
theorem lX.back(hS:lX nt ρ C fr st a w)(hf:∀p v,fr.get p=some v->bN.get p=some v)(hk:aP st aN)(h:eW nt ρ C st w bN aN a1 w1):
  lX nt ρ C fr st a1 w1/\jr ρ st w ρ st w1:=by
 obtain⟨dB,S1,k1,k2,E⟩:=h;refine⟨⟨hS.W.back hk k1 S1.W E.size,λp v hp=> ?_,S1.size,S1.defers⟩,⟨E.os,E.tape,E.output,E.size,E.block,λb x hb=>.inl ⟨b,x,hb,rfl⟩⟩⟩;obtain⟨x,hx,hv⟩:=S1.F p v (hf p v hp);obtain⟨y,_,hy⟩:=hS.F p v hp;exact⟨x,hx,hv.down hy k1⟩
theorem aT.iter{m:Option Nat}{s c:Nat}{seen:Array Nat}(hW:aT ρ C st w)(hr:w.heap[r]? =some (.mapIter m s seen c))(hn:∀b x,st.heap.get b=some x->(ρ b).ay≠r)
   (hs:w'.heap.size=w.heap.size) (hk:∀k,k≠r->w'.heap[k]? =w.heap[k]?):aT ρ C st w':=by
 have aR:∀a v,C a=some v->a.block≠r:=λa v ha e=>by have h:=(hW.cV a v ha).1;unfold World.cell? at h;rw[e,hr]at h;cases h
 refine⟨λb x hb=> ?_,hW.inj,λa v ha=> ?_,λa v ha o ho=> ?_⟩
 .obtain⟨h1,h2,h3⟩:=hW.live b x hb;exact⟨h1,by rw[hs];exact h2,h3.of_heap (hk _ (hn b x hb))⟩
 .obtain⟨h1,h2⟩:=hW.cV a v ha;exact⟨by rw[World.cell?_of_block (w:=w) (hk _ (aR a v ha))];exact h1,h2⟩
 .rw[World.cell?_of_block (w:=w) (a:=⟨a.block,o,none⟩) (hk _ (aR a v ha))];exact hW.whole a v ha o ho
end
def T.sub{α:Type}(f:α->α->Bool):T α->T α->Bool
 |.e,_=>true
 |.n l v r,.e=>(match v with|none=>true|some _=>false)&&T.sub f l .e&&T.sub f r .e
 |  .n l v r,.n l' v' r'=>(match v with
    |none=>true
    |some a=>match v' with
     |some b=>f a b
     |none=>false)&&T.sub f l l'&&T.sub f r r'
theorem T.Ap{α:Type}{f:α->α->Bool}(hf:∀a b,f a b=true->a=b):∀{t u:T α},T.sub f t u=true->∀p v,t.get p=some v->u.get p=some v
 |.e,_,_,p,v,h=>by rw[T.dh]at h;cases h
 | .n l x r,.e,hs,p,v,h=>by
   simp only[T.sub,Za6]at hs;cases p with
   |h=>simp only[T.get]at h;subst h;simp at hs
   |o p=>have:=T.Ap hf hs.1.2 p v h;rw[T.dh]at this;cases this
   |i p=>have:=T.Ap hf hs.2 p v h;rw[T.dh]at this;cases this
 | .n l x r,.n l' x' r',hs,p,v,h=>by
   simp only[T.sub,Za6]at hs;cases p with
   |h=>
    simp only[T.get]at h ⊢; subst h;have h1:=hs.1.1;cases x' with
    |none=>simp at h1
    |some y=>simp at h1;rw[hf _ _ h1]
   |o p=>exact T.Ap hf hs.1.2 p v h
   |i p=>exact T.Ap hf hs.2 p v h
structure RG where
 t17:Nat
 t18:Nat
 t19:Nat
 t20:Nat
 l2:List bg
 x:dM
 l4:List bg
 body:AC
 ds:List Pos
abbrev XR:=Option (iU×Fr×St)
section
variable(aX:ic XR)(m:Nat)(g:RG)
def exK(c:AC)(fr:Fr)(st:St):XR:=PG none aX m c fr st (λfr st=>some (.normal,fr,st)) (λi fr st=>some (.exit i,fr,st)) (λfr st=>some (.ret,fr,st))
def acD(k v:AV)(fr:Fr)(st:St):XR:=
 nh (some (.tuple [.bool true,k,v])) (key g.t18) fr λfr=>nh (some (.bool true)) (key g.t19) fr λfr=>nh (some (.tuple [k,v])) (key g.t20) fr λfr=>
    Rm none aX g.l4 fr st λfr st=>exK aX m g.body fr st
def RL(clock:Nat):List (AV×AV×Nat)->Bool
 |[]=>true
 |e::es=>Nat.blt e.2.2 clock&&es.all (λx=> !Nat.beq x.2.2 e.2.2)&&RL clock es
end
section
variable{P:Program}{tt:TT}{C:Cells}
def Lr(P:Program)(C:Cells)(nt:Nat)(c:Code)(ex:Fr->St->XR):Prop:=
 ∀  (fr aU:Fr)(st st':St)(e:iU)(ρ:Pos->Loc)(a:Act)(w:World)(Q:Exit->Act->World->Prop),ex fr st=some (e,aU,st')->lX nt ρ C fr st a w->
    (∀a' w',eW nt ρ C st w aU st' a' w'->Q (mG e) a' w')->ek P c Q a w
theorem aa6{aX:ic XR}{call:ah}(hc:CK none aX call)(m:Nat)(c:AC)(fr:Fr)(st:St):exK aX m c fr st=exec call m c fr st:=by
 unfold exK;rw[ON none hc];cases exec call m c fr st with
 |none=>rfl
 |some x=>obtain⟨e,fr,st⟩:=x;cases e<;>rfl
theorem Lr.ac(hT:bM P tt){aX:ic XR}{call:ah}(hc:CK none aX call)(bH:eE P C call)(fh:qy P tt C call){nt m:Nat}{c:Code}{a:AC}(h:ry tt nt c=some a):
 Lr P C nt c (exK aX m a):=λfr aU st st' e ρ ac w Q hx hS hQ=>(pK hT bH fh m).1 c a fr aU st st' e ρ ac w Q h (by rw[<-aa6 hc];exact hx) hS hQ
def VU:List Pos->Fr->Fr
 |[],fr=>fr
 |p::ps,fr=>VU ps (fr.put none p)
theorem RM:∀(ps:List Pos)(fr:Fr)(p:Pos)(v:AV),(VU ps fr).get p=some v->fr.get p=some v
 |[],_,_,_,h=>h
 |q::ps,fr,p,v,h=>by
  have h:=RM ps _ p v h;by_cases hq:q=p
  .subst hq;rw[T.eo]at h;cases h
  .rwa [T.bw _ hq]at h
theorem YA{clock:Nat}:∀{es:List (AV×AV×Nat)},RL clock es=true->(∀e∈es,e.2.2<clock)/\(es.map (·.2.2)).Nodup
 |[],_=>⟨λ_ h=>by simp at h,by simp⟩
 |e ::es,h=>by
  simp only[RL,Za6]at h;obtain⟨⟨h1,h2⟩,h3⟩:=h;obtain⟨i1,i2⟩:=YA h3;refine⟨λx hx=> ?_,?_⟩
  . rcases Za5.1 hx with rfl|hx
    .exact Za0 h1
    .exact i1 x hx
  .rw[Zb8,Zn4];refine⟨λhm=> ?_,i2⟩;obtain⟨x,hx,he⟩:=Zd8.1 hm;have:=Zd6.1 h2 x hx;simp[he]at this
def Mv(aX:ic XR)(m:Nat)(g:RG)(A B:Fr×St)(e:AV×AV×Nat):Prop:=
 ∃f1 s1,acD aX m g e.1 e.2.1 A.1 A.2=some (.normal,f1,s1)/\(∀p v,B.1.get p=some v->f1.get p=some v)/\((B=A/\aP A.2 s1)\/B.2=s1)
section
variable{aX:ic XR}{call:ah}{nt m:Nat}{g:RG}{lY:Array Oper}{o0 o1 o4:Oper}{i3 i4 b0 b1:Nat}{rest:Code}{He:List bg}{bs:List Nat}
def ZI(g:RG)(o0 o1:Oper)(lY:Array Oper)(rest:Code)(i3 i4 b0 b1:Nat):Code:=
 .seq (.region i3 #[o0,o1] false) (.seq (.cond (.tmp g.t19) .skip (.exit b0)) (.block b1 (.seq (.region i4 lY false) rest)))
structure acE(tt:TT)(nt:Nat)(g:RG)(o0 o1 o4:Oper)(lY:Array Oper)(rest:Code)(He:List bg)(bs:List Nat):Prop where
 n0:o0.op= .next (.tmp g.t17) false/\o0.guard=none/\o0.dst=some g.t18
 n1:o1.op= .extract (.tmp g.t18) 0/\o1.guard=none/\o1.dst=some g.t19
 n4:lY[0]? =some o4/\o4.op= .entry (.tmp g.t17)/\o4.guard=none/\o4.dst=some g.t20
 lt:g.t17<nt/\g.t18<nt/\g.t19<nt/\g.t20<nt
 ne:g.t17≠g.t18/\g.t17≠g.t19/\g.t18≠g.t19
 c4:mQ tt nt lY lY.toList bs=some He
 l4:He.tail=g.l4
 r4:ry tt nt rest=some g.body
structure LI(C:Cells)(nt:Nat)(g:RG)(X:Fr×St)(b BZ:Pos)(es:List (AV×AV×Nat))(since r:Nat)(jF:Pos->Loc)(Lt:St)(w0:World)(seen:Array Nat)(ρ:Pos->Loc)(a:Act)(w:World):Prop where
 S:lX nt ρ C X.1 X.2 a w
 k1:∀p:Pos,p.toNat<Lt.next.toNat->ρ p=jF p
 k2:Lt.next.toNat<=X.2.next.toNat
 E:jr jF Lt w0 ρ X.2 w
 ip:(ρ BZ).ay=r/\(ρ BZ).base=0/\BZ.toNat<X.2.next.toNat
 at17:X.1.get (key g.t17)=some (.ptr BZ 0)
 mp:X.2.heap.get b=some (.map es since)
 it:∃c,w.heap[r]? =some (.mapIter (some (ρ b).ay) since seen c)/\since<=c
 j9:∀p x,X.2.heap.get p=some x->(ρ p).ay≠r
 late:w0.heap.size<=r
 cl:X.1.get (key g.t18)=none/\X.1.get (key g.t19)=none
theorem xx{ops:Array Oper}{K:Act->World->Prop}{i:Nat}{rest:List Nat}{o:Oper}{a:Act}{w w':World}{v:Value}(ho:ops[i]? =some o)(hg:o.guard=none)
  (hr:(execOp a.eval o).run P w= .ok (.value v) w') (hQ:pH P ops K rest (a.put o.dst v) w'):pH P ops K (i::rest) a w:=by
 unfold pH Da;rw[ho];simp only[Region.wanted,hg,Zf0];unfold Rt;rw[hr];exact hQ
theorem eval_put{a:Act}{t:Nat}{v:Value}(h:t<a.tmps.size):(a.put (some t) v).eval (.tmp t)=v:=by
 simp[Act.put,Act.eval,h]
theorem NY{a:Act}{t s:Nat}{v:Value}(h:t≠s):(a.put (some t) v).eval (.tmp s)=a.eval (.tmp s):=by
 simp[Act.put,Act.eval,Zd3 h]
theorem LI.round(hT:bM P tt)(hc:CK none aX call)(bH:eE P C call)(fh:qy P tt C call)(hR:acE tt nt g o0 o1 o4 lY rest He bs)
   {A:Fr×St} {b BZ:Pos} {es:List (AV×AV×Nat)} {since r:Nat} {jF:Pos->Loc} {Lt:St} {w0:World} {seen:Array Nat} {ρ:Pos->Loc} {a:Act} {w:World}
   (L:LI C nt g A b BZ es since r jF Lt w0 seen ρ a w) (di:RL since es=true) {Q:Exit->Act->World->Prop}
   (ZJ:(∀e∈es,seen.contains e.2.2=true)->∀a',lX nt ρ C A.1 A.2 a' w->Q (.exit b0) a' w)
   (af7:∀e∈es,seen.contains e.2.2=false->∃B,Mv aX m g A B e/\B.1.get (key g.t17)=some (.ptr BZ 0)/\B.2.heap.get b=some (.map es since)/\B.1.get (key g.t18)=none/\B.1.get (key g.t19)=none/\
     ∀ρ' a' w',LI C nt g B b BZ es since r jF Lt w0 (seen.push e.2.2) ρ' a' w'->Q .normal a' w'):
   ek P (ZI g o0 o1 lY rest i3 i4 b0 b1) Q a w:=by
 obtain⟨c,hr,hsc⟩:=L.it;obtain⟨g1,g2,es',q1,q2,q3⟩:=L.S.W.live b _ L.mp;obtain⟨aK,EL⟩:=YA di;have NZ:∀(i:Nat)(e':MapEntry),es'[i]? =some e'->∃e,es[i]? =some e/\aj ρ A.2.next.toNat C e.1 e'.key/\aj ρ A.2.next.toNat C e.2.1 e'.val/\e.2.2=e'.born:=λi e' h=>by
   have hi:i<es.length:=(by rw[q2];exact(Zc0.1 h).1);exact⟨_,H1 hi,q3 i _ e' (H1 hi) h⟩
 have hold:∀x∈es'.toList,x.born<since:=λx hx=>by
   obtain⟨i,hi⟩:=Ze7.1 hx;obtain⟨e,h1,_,_,h2⟩:=NZ i x (by simpa using hi);rw[<-h2];exact aK e (Zc1 h1)
 have iz:es'.toList.map (·.born)=es.map (·.2.2):=by
   apply Zj0;intro i;simp only[Zb5,Zf3];cases h:es'[i]? with
   | none=>
     have:es.length<=i:=(by rw[q2];exact Array.getElem?_eq_none_iff.1 h);rw[Zb3 this];rfl
   | some x=>
     obtain⟨e,h1,_,_,h2⟩:=NZ i x h;rw[h1];simp[h2]
 have JT:a.eval (.tmp g.t17)= .pointer (some ⟨r,0,none⟩):=by
   have h:=pF (x:= .tmp g.t17) (o:= .t (key g.t17)) rfl L.S.F (v:= .ptr BZ 0) L.at17;obtain⟨_,h⟩:=h.eu;rw[h,L.ip.1,L.ip.2.1]
 have eF:=L.S.size;have rH:∀(v:Value),g.t18<(a.put (some g.t18) v).tmps.size:=λv=>by rw[Act.gJ,eF];exact hR.lt.2.1
 have hrl:r<w.heap.size:=(Zc0.1 hr).1;unfold ZI;apply Db;apply FP;show pH P _ _ [0,1] a w;rcases run_next_at (P:=P) w o0.type r (ρ b).ay since c seen es' since hr q1 hold hsc with⟨h0,bU⟩|⟨e',jN,w1,YB,bU⟩
 . refine xx (i:=0) (o:=o0) rfl hR.n0.2.1 (v:= .tuple #[.bool false]) (w':=w) (by simp[execOp,hR.n0.1,JT,bU,Result.andThen]) ?_;rw[hR.n0.2.2];refine xx (i:=1) (o:=o1) rfl hR.n1.2.1 (v:= .bool false) (w':=w) (by simp[execOp,hR.n1.1,eval_put (eF ▸hR.lt.2.1),Instr.extract,Result.andThen]) ?_;rw[hR.n1.2.2];apply Db;refine P1 (eval_put (by rw[Act.gJ,eF];exact hR.lt.2.2.1)) (aaF ?_);refine ZJ (λe he=> ?_) _ ⟨L.S.W,λp v hp=> ?_,by rw[Act.gJ,Act.gJ];exact eF,by rw[Act.iP,Act.iP];exact L.S.defers⟩
   .obtain⟨i,hi⟩:=Ze7.1 he;have KS:i<es'.size:=(by rw[<-q2];exact(H5.1 hi).1);obtain⟨e2,h1,_,_,h2⟩:=NZ i _ (Ze3 KS);rw[hi]at h1;cases h1;rw[h2];have hem:leftOf es' seen= #[]:=Zm5 h0;unfold leftOf at hem;rw[Array.filter_eq_empty_iff]at hem;have:=hem es'[i] (Array.getElem_mem KS);simpa using this
   .rw[Fa (λh=>by simp at h;subst h;rw[L.cl.2]at hp;cases hp),Fa (λh=>by simp at h;subst h;rw[L.cl.1]at hp;cases hp)];exact L.S.F p v hp
 . have hr1:w1.heap[r]? =some (.mapIter (some (ρ b).ay) since seen c):=(by rcases YB with rfl|rfl<;>exact hr);have tY:w1.heap[(ρ b).ay]? =some (.map es' since):=(by rcases YB with rfl|rfl<;>exact q1);have Im:=Go.MapKept.heap_set (o':= .mapIter (some (ρ b).ay) since (seen.push e'.born) since) hr1;obtain⟨w2,e8⟩:∃w2,w2=Go.ChangeMaps.setBlock w1 r (.mapIter (some (ρ b).ay) since (seen.push e'.born) since):=⟨_,rfl⟩
   (change (Go.ChangeMaps.setBlock w1 r (.mapIter (some (ρ b).ay) since (seen.push e'.born) since)).heap[r]? =_/\∀k,k≠r->(Go.ChangeMaps.setBlock w1 r (.mapIter (some (ρ b).ay) since (seen.push e'.born) since)).heap[k]? =_ at Im;rw[<-e8]at Im bU;have A0:w2.heap.size=w.heap.size:=(by rw[e8];rcases YB with rfl|rfl<;>simp[Go.ChangeMaps.setBlock]<;>rfl);have n9:∀k,k≠r->w2.heap[k]? =w.heap[k]? :=λk hk=>(Im.2 k hk).trans (by rcases YB with rfl|rfl<;>rfl));have C9:w2.os=w.os/\w2.tape=w.tape/\w2.output=w.output:=(by rw[e8];rcases YB with rfl|rfl<;>exact⟨rfl,rfl,rfl⟩);clear e8 YB;have GZ:aT ρ C A.2 w2:=L.S.W.iter hr L.j9 A0 n9;have hen:(Instr.entry (.pointer (some ⟨r,0,none⟩))).run P w2= .ok (.tuple #[e'.key,e'.val]) w2:=
     run_entry_at _ r _ since seen es' since e' Im.1 ((n9 _ (L.j9 b _ L.mp)).trans q1) (by simp[leftOf]at jN;simpa using jN.1) (iz ▸EL)
   obtain⟨i,hi⟩:=Ze7.1 jN;have OM:e'∈es'.toList/\seen.contains e'.born=false:=(by simpa [leftOf]using jN);obtain⟨j,hj⟩:=Ze7.1 OM.1;obtain⟨e,h1,v1,v2,h2⟩:=NZ j e' (by simpa using hj);obtain⟨B,⟨f1,s1,hx,hf,hB⟩,b17,bm,b18,b19,hQ⟩:=af7 e (Zc1 h1) (by rw[h2];exact OM.2);refine xx (i:=0) (o:=o0) rfl hR.n0.2.1 (v:= .tuple #[.bool true,e'.key,e'.val]) (w':=w2) (by simp[execOp,hR.n0.1,JT,bU,Result.andThen]) ?_;rw[hR.n0.2.2];refine xx (i:=1) (o:=o1) rfl hR.n1.2.1 (v:= .bool true) (w':=w2) (by simp[execOp,hR.n1.1,eval_put (eF ▸hR.lt.2.1),Instr.extract,Result.andThen]) ?_;rw[hR.n1.2.2];apply Db;refine Ru (eval_put (by rw[Act.gJ,eF];exact hR.lt.2.2.1)) (aaE ?_);apply P0;apply Db;apply FP;have JV:lY.size=g.l4.length+1:=(by have h:He.length=lY.size:=(by rw[(nj hR.c4).1,Ze9]);obtain⟨h4,_⟩:=Zc0.1 hR.n4.1;have h4:0<lY.size:=h4;rw[<-hR.l4,List.length_tail];omega);rw[JV,Zk5,Zm6];refine xx (i:=0) (o:=o4) hR.n4.1 hR.n4.2.2.1 (v:= .tuple #[e'.key,e'.val]) (w':=w2) (by simp[execOp,hR.n4.2.1,NY hR.ne.1.symm,NY hR.ne.2.1.symm,JT,hen,Result.andThen]) ?_;rw[hR.n4.2.2.2];unfold acD at hx;simp only[gQ]at hx;rw[M7 none hc]at hx;unfold nk at hx;(split at hx<;>first|(cases hx;done)|skip);rename_i y hy;simp only[aa6 hc]at hx;have hvt:aj ρ A.2.next.toNat C (.tuple [.bool true,e.1,e.2.1]) (.tuple #[.bool true,e'.key,e'.val]):= .rW ((av.nil.cons v2).cons v1 |>.cons (.bool true));have hve:aj ρ A.2.next.toNat C (.tuple [e.1,e.2.1]) (.tuple #[e'.key,e'.val]):= .rW ((av.nil.cons v2).cons v1);have F1:=eO.put (nt:=nt) (d:=some g.t18) L.S.F eF (λ_ h=>by cases h;exact hR.lt.2.1) hvt;have F2:=eO.put (nt:=nt) (d:=some g.t19) F1 (by rw[Act.gJ];exact eF) (λ_ h=>by cases h;exact hR.lt.2.2.1) (.bool true);have F3:=eO.put (nt:=nt) (d:=some g.t20) F2 (by rw[Act.gJ,Act.gJ];exact eF) (λ_ h=>by cases h;exact hR.lt.2.2.2) hve;refine pJ (nt:=nt) hT bH g.l4 1 _ y.1 A.2 y.2 ρ _ w2 (λi ao hi=> ?_) hy ⟨GZ,F3,by rw[Act.gJ,Act.gJ,Act.gJ];exact eF,by rw[Act.iP,Act.iP,Act.iP];exact L.S.defers⟩ λa3 w3 hp=> ?_
   .rw[<-hR.l4,List.getElem?_tail]at hi;obtain⟨o,k1,k2,_⟩:=Aj hR.c4 (i+1) ao hi;exact⟨o,by rw[Nat.add_comm];exact k1,k2⟩
   obtain⟨A8,S3,k1,k2,k3⟩:=hp;(refine(pK hT bH fh m).1 rest g.body y.1 f1 y.2 s1 .normal A8 a3 w3 _ hR.r4 hx S3 λa4 w4 hp=> ?_);have hP:=eW.trans k1 k2 k3 hp;show Q .normal a4 w4;have S2:lX nt ρ C A.1 A.2 a w2:=⟨GZ,L.S.F,eF,L.S.defers⟩
   have hE2:jr jF Lt w0 ρ A.2 w2:=⟨C9.1.trans L.E.os,C9.2.1.trans L.E.tape,C9.2.2.trans L.E.output,by rw[A0];exact L.E.size,λk hk hn=>(n9 k (by have:=L.late;omega)).trans (L.E.block k hk hn),λb x hb=>L.E.nc b x hb⟩
   obtain⟨VV,S4,l1,l2,E4⟩:∃VV,lX nt VV C B.1 B.2 a4 w4/\(∀p:Pos,p.toNat<A.2.next.toNat->VV p=ρ p)/\A.2.next.toNat<=B.2.next.toNat/\jr ρ A.2 w2 VV B.2 w4:=by
     rcases hB with⟨rfl,hk⟩|hB
     .  obtain⟨S,E⟩:=S2.back hf hk hP;exact⟨ρ,S,λ_ _=>rfl,Za3 _,E⟩
     .  obtain⟨VV,S,l1,l2,E⟩:=hP;rw[<-hB]at S l2 E;exact⟨VV,⟨S.W,S.F.sub hf,S.size,S.defers⟩,l1,l2,E⟩
   have h4r:w4.heap[r]? =some (.mapIter (some (ρ b).ay) since (seen.push e.2.2) since):=(by rw[E4.block r (by rw[A0];exact hrl) L.j9,h2];exact Im.1);refine hQ VV a4 w4 ⟨S4,λp hp=>(l1 p (Zb9 hp L.k2)).trans (L.k1 p hp),Zc3 L.k2 l2,hE2.trans E4,?_,b17,bm,⟨since,?_,Za3 _⟩,λp x hp=> ?_,L.late,b18,b19⟩
   .rw[l1 BZ L.ip.2.2];exact⟨L.ip.1,L.ip.2.1,Zb9 L.ip.2.2 l2⟩
   .rw[l1 b g1];exact h4r
   . rcases E4.nc p x hp with⟨p',x',hp',e1⟩|h
     .  rw[<-e1];exact L.j9 p' x' hp'
     .  rw[A0]at h;omega
theorem Dt:∀(ps:List Pos)(fr:Fr)(p:Pos),p∈ps\/fr.get p=none->(VU ps fr).get p=none
 |[],_,_,h=>h.elim (λh=>by simp at h) id
 |q ::ps,fr,p,h=>Dt ps _ p (by
  by_cases hq:q=p
  .subst hq;exact .inr (T.eo _ _ _)
  . rcases h with h|h
    .   rcases Za5.1 h with h|h
        .exact(hq h.symm).elim
        .exact .inl h
    .   exact .inr (by rw[T.bw _ hq];exact h))
theorem aT.slot{ρ ρ':Pos->Loc}{st:St}{w:World}(hW:aT ρ C st w)(aQ:∀p:Pos,p.toNat<st.next.toNat->ρ' p=ρ p):aT ρ' C ⟨st.heap,st.next.succ⟩ w:=by
 have hl:∀p x,st.heap.get p=some x->ρ' p=ρ p:=λp x hp=>aQ p (hW.live p x hp).1
 refine⟨λp x hp=> ?_,λp q x y hp hq h=> ?_,λa v ha=>⟨(hW.cV a v ha).1,λp x hp=> ?_⟩,hW.whole⟩
 .obtain⟨h1,h2,h3⟩:=hW.live p x hp;rw[hl p x hp];exact⟨by rw[Pos.aB];exact Nat.lt_succ_of_lt h1,h2,h3.mono aQ (by rw[Pos.aB];omega)⟩
 .rw[hl p x hp,hl q y hq]at h;exact hW.inj p q x y hp hq h
 .rw[hl p x hp];exact(hW.cV a v ha).2 p x hp
end
end
section
variable{P:Program}{tt:TT}{C:Cells}
def idxS:List AV->St->Option (AV×St)
 |[.str a,.int .u8 c],st=>some (.int .i64 (Lib.indexByte (a.map UInt8.ofNat) c.toNat.toUInt8),st)
 |_,_=>none
end
def adQ (tt :TT)(nt:Nat)(ds:List Nat)(b0 b0' t19:Nat)(o2 o0 o1 o4:Oper)(Qz He:List bg)(body:AC):Option (RG×Nat):=
 match o2.op,o0.op,o1.op,o4.op with
 |  .range ty x,.next (.tmp a0) false,.extract (.tmp a1) 0,.entry (.tmp a4)=>match o2.dst,o0.dst,o1.dst,o4.dst with
    |some t17,some t18,some c,some t20=>match o2.guard,o0.guard,o1.guard,o4.guard with
     |  none,none,none,none=>match jV x with
        |some xo=>match Nat.beq a0 t17&&Nat.beq a1 t18&&Nat.beq a4 t17&&Nat.beq c t19&&Nat.beq b0 b0'&&Nat.blt t17 nt&&Nat.blt t18 nt&&Nat.blt t19 nt&&Nat.blt t20 nt&&
            !Nat.beq t17 t18&& !Nat.beq t17 t19&& !Nat.beq t18 t19 with
         |true=>some (⟨t17,t18,t19,t20,Qz.dropLast,xo,He.tail,body,key t18::key t19::ds.map key⟩,ty)
         |false=>none
        |_=>none
     |_,_,_,_=>none
    |_,_,_,_=>none
 |_,_,_,_=>none
def VW (tt:TT)(nt:Nat):Code->Option (RG×Nat)
 |  .seq (.region _ yK false) (.block b0 (.loop (.seq (.region _ ⟨[o0,o1]⟩ false) (.seq (.cond (.tmp t19) .skip (.exit b0')) (.block _ (.seq (.region _ lY false) rest))))))=>
    match yK[yK.size - 1]?,lY[0]? with
    |some o2,some o4=>match mQ tt nt yK yK.toList [],mQ tt nt lY lY.toList []with
     |  some Qz,some He=>match ry tt nt rest with
        |some body=>adQ tt nt (lY.toList.filterMap (·.dst)++pI rest) b0 b0' t19 o2 o0 o1 o4 Qz He body
        |none=>none
     |_,_=>none
    |_,_=>none
 |_=>none
section
variable{P:Program}{tt:TT}{C:Cells}{aX:ic XR}{call:ah}{nt m:Nat}
def OZ:Code->Bool
 |.region _ ops _=>ops.toList.any λo=>match o.op with|.range _ _=>true|_=>false
 |.seq a b=>OZ a||OZ b
 |.cond _ a b=>OZ a||OZ b
 |.block _ a=>OZ a
 |.loop a=>OZ a
 |_=>false
end
abbrev XO:=iU×Fr×St
abbrev XS:=Option (List XO)
def VX(y x:XO):Bool:=match y.1,x.1 with
 |.normal,.normal=>T.sub fC y.2.1 x.2.1&&T.sub Fg y.2.2.heap x.2.2.heap&&Pos.beq y.2.2.next x.2.2.next
 |_,_=>false
def RN:List XO->List XO->List XO
 |[],acc=>acc
 |  x::l,acc=>match acc.any (λy=>VX y x)with
    |true=>RN l acc
    |false=>RN l (x::acc)
def IZ{α:Type}(k:α->XS):List α->List XO->XS
 |[],acc=>some acc
 |  e::l,acc=>match k e with
    |some a=>IZ k l (RN a acc)
    |none=>none
structure Cv(y x:XO):Prop where
 e:y.1=x.1
 f:∀p v,y.2.1.get p=some v->x.2.1.get p=some v
 h:∀p v,y.2.2.heap.get p=some v->x.2.2.heap.get p=some v
 n:y.2.2.next=x.2.2.next
theorem Cv.refl(x:XO):Cv x x:=⟨rfl,λ_ _ h=>h,λ_ _ h=>h,rfl⟩
theorem aa7{y x:XO}(h:VX y x=true):Cv y x:=by
 unfold VX at h;split at h<;>first|(cases h;done)|skip
 rename_i h1 h2;simp only[Za6]at h;exact⟨h1.trans h2.symm,T.Ap (λ_ _=>pL) h.1.1,T.Ap (λ_ _=>OO) h.1.2,Pos.beq_eq.1 h.2⟩
theorem Lu:∀{l acc:List XO},(∀y∈acc,y∈RN l acc)/\∀x∈l,∃y∈RN l acc,Cv y x
 |[],acc=>⟨λy hy=>hy,λx hx=>by cases hx⟩
 |x ::l,acc=>by
  unfold RN;split
  . rename_i h;obtain⟨h1,h2⟩:=Lu (l:=l) (acc:=acc);refine⟨h1,λz hz=> ?_⟩;rcases Za5.1 hz with rfl|hz
    .   obtain⟨y,hy,hc⟩:=List.any_eq_true.1 h;exact⟨y,h1 y hy,aa7 hc⟩
    .   exact h2 z hz
  . obtain⟨h1,h2⟩:=Lu (l:=l) (acc:=x::acc);refine⟨λy hy=>h1 y (Za4 _ hy),λz hz=> ?_⟩;rcases Za5.1 hz with rfl|hz
    .   exact⟨z,h1 z (Zc4 ..),.refl z⟩
    .   exact h2 z hz
theorem xy{α:Type}{k:α->XS}{outs:List XO}:∀{l:List α}{acc:List XO},IZ k l acc=some outs->(∀y∈acc,y∈outs)/\∀e∈l,∃a,k e=some a/\∀x∈a,∃y∈outs,Cv y x
 |[],acc,h=>by
  simp only[IZ,H0]at h;subst h;exact⟨λy hy=>hy,λe he=>by cases he⟩
 |e::l,acc,h=>by
  unfold IZ at h;split at h<;>first|(cases h;done)|skip
  rename_i a ha;obtain⟨h1,h2⟩:=xy h;obtain⟨n1,n2⟩:=Lu (l:=a) (acc:=acc);refine⟨λy hy=>h1 y (n1 y hy),λz hz=> ?_⟩;rcases Za5.1 hz with rfl|hz
  .exact⟨a,ha,λx hx=>let⟨y,hy,hc⟩:=n2 x hx;⟨y,h1 y hy,hc⟩⟩
  .exact h2 z hz
section
variable{P:Program}{tt:TT}{C:Cells}{nt:Nat}{ρ:Pos->Loc}{st:St}{w:World}
theorem aT.BC{ρ:Pos->Loc}{st st':St}{w:World}(hW:aT ρ C st w)(h:∀p v,st'.heap.get p=some v->st.heap.get p=some v)(hn:st'.next=st.next):aT ρ C st' w:=
 ⟨λb x hb=>by rw[hn];exact hW.live b x (h b x hb),λb b' x x' hb iz=>hW.inj b b' x x' (h b x hb) (h b' x' iz),λa v ha=>⟨(hW.cV a v ha).1,λb x hb=>(hW.cV a v ha).2 b x (h b x hb)⟩,hW.whole⟩
theorem eW.QA{y x:XO}{a':Act}{w':World}(hc:Cv y x)(h:eW nt ρ C st w x.2.1 x.2.2 a' w'):eW nt ρ C st w y.2.1 y.2.2 a' w':=by obtain⟨dB,S,k1,k2,E⟩:=h;refine⟨dB,⟨S.W.BC hc.h hc.n,?_,S.size,S.defers⟩,k1,by rw[hc.n];exact k2,⟨E.os,E.tape,E.output,E.size,E.block,λb v hb=>E.nc b v (hc.h b v hb)⟩⟩;rw[hc.n];exact S.F.sub hc.f
def Cx(P:Program)(C:Cells)(nt:Nat)(c:Code)(ex:Fr->St->XS):Prop:=
 ∀  (fr:Fr)(st:St)(outs:List XO)(ρ:Pos->Loc)(a:Act)(w:World)(Q:Exit->Act->World->Prop),ex fr st=some outs->lX nt ρ C fr st a w->
    (∀o∈outs,∀a' w',eW nt ρ C st w o.2.1 o.2.2 a' w'->Q (mG o.1) a' w')->ek P c Q a w
def acF(ex:Fr->St->XR)(fr:Fr)(st:St):XS:=match ex fr st with
 |some o=>some [o]
 |none=>none
theorem Lr.one{c:Code}{ex:Fr->St->XR}(h:Lr P C nt c ex):Cx P C nt c (acF ex):=by
 intro fr st outs ρ a w Q hx hS hQ;unfold acF at hx;split at hx<;>first|(cases hx;done)|skip
 rename_i o ho;simp only[H0]at hx;subst hx;exact h fr o.2.1 st o.2.2 o.1 ρ a w Q ho hS λa' w' hp=>hQ o (by simp) a' w' hp
end
section
variable(aX:ic XR)(m:Nat)(g:RG)
def VY{β:Type}:List Pos->Fr->(Fr->β)->β
 |[],fr,k=>k fr
 |p::ps,fr,k=>nh none p fr λfr=>VY ps fr k
def VZ (b:Pos)(es:List (AV×AV×Nat))(clock:Nat)(BZ:Pos):Nat->List (AV×AV×Nat)->Fr->St->XS
 |  0,todo,fr,st=>match todo with
    |[]=>some [(.normal,fr,st)]
    |_=>none
 |  n+  1,todo,fr,st=>match todo with
    |[]=>some [(.normal,fr,st)]
    |_  =>IZ (λe=>match acD aX m g e.1 e.2.1 fr st with
     |  some (.normal,f1,s1)=>VY g.ds f1 λf1=>match kX b s1.heap,kX (key g.t17) f1 with
        |some y,some v=>match Fg y (.map es clock)&&fC v (.ptr BZ 0)with
         |true=>VZ b es clock BZ n (todo.filter λx=> !Nat.beq x.2.2 e.2.2) f1 s1
         |false=>none
        |_,_=>none
     |_=>none) todo []
def V0(l:List bg)(fr:Fr)(st:St):XR:=Rm none aX l fr st λfr st=>some (.normal,fr,st)
def rgS (fr:Fr)(st:St):XS:=match V0 aX g.l2 fr st with
 |  some (_,fr,st)=>SE none fr g.x λ
    | .map b=>match kX b st.heap with
      | some (.map es clock)=>match RL clock es with
        |true=>VY g.ds fr λfr=>nh (some (.ptr st.next 0)) (key g.t17) fr λfr=>PE st.next λn=>VZ aX m g b es clock st.next es.length es fr { heap:=st.heap,next:=n }
        |false=>none
      |_=>none
    |_=>none
 |none=>none
end
section
variable{P:Program}{tt:TT}{C:Cells}{aX:ic XR}{call:ah}{nt m:Nat}{g:RG}{lY:Array Oper}{o0 o1 o4:Oper}{i3 i4 b0 b1:Nat}{rest:Code}{He:List bg}{bs:List Nat}
theorem RO{β:Type}:∀(ps:List Pos)(fr:Fr)(k:Fr->β),VY ps fr k=k (VU ps fr)
 |[],_,_=>rfl
 |p::ps,fr,k=>by simp only[VY,gQ,VU];exact RO ps _ k
theorem RP(hc:CK none aX call){l:List bg}{fr aU:Fr}{st st':St}{e:iU}(h:V0 aX l fr st=some (e,aU,st')):e= .normal/\iJ call l fr st=some (aU,st'):=by
 unfold V0 at h;rw[M7 none hc]at h;unfold nk at h;split at h<;>first|(cases h;done)|skip
 rename_i y hy;simp only[H0,Za9]at h;obtain⟨rfl,rfl,rfl⟩:=h;exact⟨rfl,hy⟩
theorem LI.afb(hT:bM P tt)(hc:CK none aX call)(bH:eE P C call)(fh:qy P tt C call)(hR:acE tt nt g o0 o1 o4 lY rest He bs)
  {b BZ:Pos} {es:List (AV×AV×Nat)} {since r:Nat} {jF:Pos->Loc} {Lt:St} {w0:World} (di:RL since es=true) (tZ:key g.t18∈g.ds/\key g.t19∈g.ds) {Q:Exit->Act->World->Prop}:
  ∀ (n:Nat)(todo:List (AV×AV×Nat))(fr:Fr)(st:St)(outs:List XO)(seen:Array Nat)(ρ:Pos->Loc)(a:Act)(w:World),VZ aX m g b es since BZ n todo fr st=some outs->
    (∀e,e∈todo↔e∈es/\seen.contains e.2.2=false)->LI C nt g (fr,st) b BZ es since r jF Lt w0 seen ρ a w->
    (∀o∈outs,o.1= .normal->∀a' w',eW nt jF C Lt w0 o.2.1 o.2.2 a' w'->Q (.exit b0) a' w')->KV (ek P (ZI g o0 o1 lY rest i3 i4 b0 b1)) Q (n+1) a w:=by
 intro n;induction n with
 |zero=>
  intro todo fr st outs seen ρ a w h Nh L hQ;unfold VZ at h;split at h<;>first|(cases h;done)|skip
  simp only[H0]at h;subst h;rw[SQ];refine L.round (m:=m) hT hc bH fh hR di (λ_ a' S=>hQ (.normal,fr,st) (Zc7.2 rfl) rfl a' w ⟨ρ,S,L.k1,L.k2,L.E⟩) λe he hs=> ?_
  have:=(Nh e).2 ⟨he,hs⟩;cases this
 |succ n ih=>
  intro todo fr st outs seen ρ a w h Nh L hQ;rw[SQ];unfold VZ at h;split at h
  .simp only[H0]at h;subst h;(refine L.round (m:=m) hT hc bH fh hR di (λ_ a' S=>hQ (.normal,fr,st) (Zc7.2 rfl) rfl a' w ⟨ρ,S,L.k1,L.k2,L.E⟩) λe he hs=> ?_);have:=(Nh e).2 ⟨he,hs⟩;cases this
  . rename_i aR;obtain⟨_,bW⟩:=xy h;refine L.round (m:=m) hT hc bH fh hR di (λZJ a' S=> ?_) λe he hs=> ?_
    .   cases todo with
        |nil=>exact(aR rfl).elim
        | cons e l=>
          obtain⟨he,hs⟩:=(Nh e).1 (Zc4 ..);rw[ZJ e he]at hs;cases hs
    .   obtain⟨iZ,h1,oh⟩:=bW e ((Nh e).2 ⟨he,hs⟩);(split at h1<;>first|(cases h1;done)|skip);rename_i f1 s1 hx;rw[RO]at h1;simp only[tQ]at h1;(split at h1<;>first|(cases h1;done)|skip);rename_i y v hy hv;(split at h1<;>first|(cases h1;done)|skip);rename_i hb;simp only[Za6]at hb;have e1:=OO hb.1;have e2:=pL hb.2;subst e1;subst e2;refine⟨(VU g.ds f1,s1),⟨f1,s1,hx,RM _ _,.inr rfl⟩,hv,hy,Dt _ _ _ (.inl tZ.1),Dt _ _ _ (.inl tZ.2),λρ' a' w' L'=> ?_⟩;refine ih _ _ _ iZ _ ρ' a' w' h1 (λx=> ?_) L' λo ho hn a2 w2 hp=> ?_
        .rw[Zk9,Nh x,Array.contains_push,Zk6,Zh2];rw[show Nat.beq x.2.2 e.2.2=(x.2.2==e.2.2)from by rw[Zi8];simp[Nat.beq_eq]];exact and_assoc
        .obtain⟨z,hz,hcv⟩:=oh o ho;exact hQ z hz (hcv.e.trans hn) a2 w2 (hp.QA hcv)
theorem Cx.rng(hT:bM P tt)(hc:CK none aX call)(bH:eE P C call)(fh:qy P tt C call)(hR:acE tt nt g o0 o1 o4 lY rest He bs)
   {yK:Array Oper} {Qz:List bg} {o2:Oper} {x:Operand} {ty kt et:TypeId} {i2:Nat} {bs2:List Nat} (h2:mQ tt nt yK yK.toList bs2=some Qz) (jW:Qz.dropLast=g.l2)
   (C9:yK[g.l2.length]? =some o2) (A0:yK.size=g.l2.length+1) (hop:o2.op= .range ty x) (wZ:o2.guard=none) (hd2:o2.dst=some g.t17) (hx:jV x=some g.x) (acG:P.underlying ty=some (.map kt et))
   (tZ:key g.t18∈g.ds/\key g.t19∈g.ds):Cx P C nt (.seq (.region i2 yK false) (.block b0 (.loop (ZI g o0 o1 lY rest i3 i4 b0 b1)))) (rgS aX m g):=by
 intro fr st outs ρ a w Q h hS hQ;unfold rgS at h;split at h<;>first|(cases h;done)|skip
 rename_i ex ua jO hy;obtain⟨rfl,hz⟩:=RP hc hy;simp only[K9]at h;unfold nk at h;split at h<;>first|(cases h;done)|skip
 rename_i v hv;dsimp only at h;split at h<;>first|(cases h;done)|skip
 rename_i b;simp only[tQ]at h;split at h<;>first|(cases h;done)|skip
 rename_i es clock hb;split at h<;>first|(cases h;done)|skip
 rename_i di;simp only[RO,gQ,ID]at h;apply Db;apply FP;rw[A0,List.range_succ];apply SP;rw[Zk5];refine pJ (nt:=nt) hT bH g.l2 0 fr ua st jO ρ a w (λi ao hi=> ?_) hz hS λa2 w2 hp=> ?_
 .rw[<-jW,List.getElem?_dropLast]at hi;(split at hi<;>first|(cases hi;done)|skip);obtain⟨o,k1,k2,_⟩:=Aj h2 i ao hi;exact⟨o,by rw[Zb6];exact k1,k2⟩
 obtain⟨kW,S2,k1,k2,E2⟩:=hp;obtain⟨hbn,KZ⟩:=(pF hx S2.F hv).wS;obtain⟨g1,g2,es',q1,q2,q3⟩:=S2.W.live b _ hb;obtain⟨QB,hf3⟩:∃f,f=(VU g.ds ua).put (some (.ptr jO.next 0)) (key g.t17):=⟨_,rfl⟩
 rw[<-hf3]at h;obtain⟨lu,V6⟩:∃s:St,s=⟨jO.heap,jO.next.succ⟩:=⟨_,rfl⟩
 rw[<-V6]at h;have n18:key g.t17≠key g.t18:=λe=>hR.ne.1 (by have:=congrArg Pos.toNat e;rw[ey,ey]at this;omega)
 have n19:key g.t17≠key g.t19:=λe=>hR.ne.2.1 (by have:=congrArg Pos.toNat e;rw[ey,ey]at this;omega)
 have hX0:QB.get (key g.t17)=some (.ptr jO.next 0)/\lu.heap.get b=some (.map es clock)/\QB.get (key g.t18)=none/\QB.get (key g.t19)=none:=by
   rw[hf3,V6,T.eo,T.bw _ n18,T.bw _ n19];exact⟨rfl,hb,Dt _ _ _ (.inl tZ.1),Dt _ _ _ (.inl tZ.2)⟩
 show pH P _ _ [g.l2.length] a2 w2
 refine xx C9 wZ (v:= .pointer (some ⟨w2.heap.size,0,none⟩)) (w':=w2.alloc (.mapIter (some (kW b).ay) clock #[] clock))
   (by simp[execOp,hop,KZ,run_range_map (P:=P) w2 ty kt et (kW b).ay es' clock acG q1,Result.andThen]) ?_
 rw[hd2];show ek P (Code.block b0 _) Q _ _;apply P0;have hold:∀k,k<w2.heap.size->(w2.alloc (.mapIter (some (kW b).ay) clock #[] clock)).heap[k]? =w2.heap[k]? :=λk hk=>heap_alloc_old w2 _ hk
 have eF:(w2.alloc (.mapIter (some (kW b).ay) clock #[] clock)).heap.size=w2.heap.size+1:=by simp
 obtain⟨A8,h3,aQ⟩:∃A8:Pos->Loc,A8 jO.next=⟨w2.heap.size,0,0⟩/\∀p:Pos,p.toNat<jO.next.toNat->A8 p=kW p:=
   ⟨λp=>if p=jO.next then⟨w2.heap.size,0,0⟩else kW p,Za2 rfl,λp hp=>Za1 λe=>by subst e;omega⟩
 have hW3:aT A8 C lu (w2.alloc (.mapIter (some (kW b).ay) clock #[] clock)):=by rw[V6];exact(S2.W.slot aQ).grow (by omega) hold
 have K5:lu.next.toNat=jO.next.toNat+1:=by rw[V6];exact Pos.aB _
 have hF3:eO A8 lu.next.toNat C QB (a2.put (some g.t17) (.pointer (some ⟨w2.heap.size,0,none⟩))).tmps:=by rw[hf3];refine eO.put (nt:=nt) (d:=some g.t17) ((S2.F.sub (RM _ _)).mono aQ (by omega)) S2.size (λ_ h=>by cases h;exact hR.lt.1) ?_;have:=aj.ptr (ρ:=A8) (C:=C) jO.next 0 (n:=lu.next.toNat) (by omega);rw[h3]at this;exact this
 refine aaG (es.length+1) (LI.afb (m:=m) (jF:=kW) (Lt:=jO) (w0:=w2) (r:=w2.heap.size) hT hc bH fh hR di tZ es.length es QB lu outs #[] A8 _ _ h (λe=>by simp) ?_ λo ho hn a' w' hp=> ?_)
 . refine⟨⟨hW3,hF3,by rw[Act.gJ];exact S2.size,by rw[Act.iP];exact S2.defers⟩,aQ,by show jO.next.toNat<=lu.next.toNat;omega,
     ⟨rfl,rfl,rfl,by rw[eF];omega,λk hk _=>hold k hk,λp x hp=>.inl ⟨p,x,by rw[V6]at hp;exact hp,by
        rw[V6]at hp;rw[aQ p (S2.W.live p x hp).1]⟩⟩,⟨by rw[h3],by rw[h3],by show _<lu.next.toNat;omega⟩,hX0.1,hX0.2.1,⟨clock,?_,Za3 _⟩,λp x hp=> ?_,Za3 _,hX0.2.2⟩
   .rw[aQ b g1];exact heap_alloc_new w2 _
   .rw[V6]at hp;obtain⟨l1,l2,_⟩:=S2.W.live p x hp;rw[aQ p l1];omega
 . simp only[Exit.inBlock,Zf0];have:=hQ o ho a' w' (eW.trans k1 k2 E2 hp)
   rwa [hn]at this
theorem Cx.VW(hT:bM P tt)(hc:CK none aX call)(bH:eE P C call)(fh:qy P tt C call){c:Code}{g:RG}{ty:Nat}(h:VW tt nt c=some (g,ty))
  {kt et:TypeId} (acG:P.underlying ty=some (.map kt et)) (ds:List Pos):Cx P C nt c (rgS aX m { g with ds:=key g.t18::key g.t19::ds }):=by
 unfold Go.Ai.VW at h;split at h<;>first|(cases h;done)|skip
 rename_i i2 yK b0 i3 o0 o1 t19 b0' b1 i4 lY rest;split at h<;>first|(cases h;done)|skip
 rename_i o2 o4 C9 ho4;split at h<;>first|(cases h;done)|skip
 rename_i Qz He jW hl4;split at h<;>first|(cases h;done)|skip
 rename_i body af8;unfold adQ at h;split at h<;>first|(cases h;done)|skip
 rename_i ty' x a0 a1 a4 p2 p0 p1 p4;split at h<;>first|(cases h;done)|skip
 rename_i t17 t18 c t20 d2 d0 d1 d4;split at h<;>first|(cases h;done)|skip
 rename_i g2 g0 g1 g4;split at h<;>first|(cases h;done)|skip
 rename_i xo hxo;split at h<;>first|(cases h;done)|skip
 rename_i hb;simp only[H0,Za9]at h;obtain⟨rfl,rfl⟩:=h;simp only[Za6,Zh2,Nat.beq_eq,Zo5]at hb;obtain⟨⟨⟨⟨⟨⟨⟨⟨⟨⟨⟨rfl,rfl⟩,rfl⟩,rfl⟩,rfl⟩,l17⟩,l18⟩,l19⟩,l20⟩,n1⟩,n2⟩,n3⟩:=hb;have hs:Qz.length=yK.size:=(nj jW).1.trans (Ze9 ..);have h0:0<yK.size:=by have:=(Zc0.1 C9).1;omega
 exact Cx.rng hT hc bH fh (i3:=i3) (i4:=i4) (b1:=b1) ⟨⟨p0,g0,d0⟩,⟨p1,g1,d1⟩,⟨ho4,p4,g4,d4⟩,⟨l17,l18,l19,l20⟩,⟨Zb2 n1,Zb2 n2,Zb2 n3⟩,hl4,rfl,af8⟩ jW rfl
  (by rw[List.length_dropLast,hs];exact C9) (by show yK.size=Qz.dropLast.length+1;rw[List.length_dropLast,hs];omega) p2 g2 d2 hxo acG ⟨by simp,by simp⟩
end
end
noncomputable section
open Go Go.RowKit
abbrev A9:=(Pos->Loc)->St->World->List Deferred->Prop
def QC(C:Cells)(J:A9):Prop:=
 ∀  (ρ:Pos->Loc)(st:St)(w:World)(D:List Deferred)(ρ':Pos->Loc)(st':St)(w':World),J ρ st w D->aT ρ C st w->aT ρ' C st' w'->(∀b:Pos,b.toNat<st.next.toNat->ρ' b=ρ b)->
    st.next.toNat<=st'.next.toNat->jr ρ st w ρ' st' w'->J ρ' st' w' D
section
variable{P:Program}{tt:TT}{C:Cells}{r:Option Nat}{J:A9}{ts:Nat->Prop}{x:Array Value}{nt:Nat}
def ja(C:Cells)(J:A9)(ts:Nat->Prop)(x:Array Value)(nt:Nat)(ρ:Pos->Loc)(st:St)(w:World)(aU:Fr)(st':St)(a':Act)(w':World):Prop:=
 ∃ρ',lX nt ρ' C aU st' ⟨a'.tmps,[]⟩ w'/\(∀b:Pos,b.toNat<st.next.toNat->ρ' b=ρ b)/\st.next.toNat<=st'.next.toNat/\jr ρ st w ρ' st' w'/\J ρ' st' w' a'.defers/\∀t,ts t->a'.tmps[t]? =x[t]?
theorem ja.trans{ρ dB:Pos->Loc}{ua:Fr}{st aN jO:St}{a2:Act}{w w1 w2:World}(h1:∀b:Pos,b.toNat<st.next.toNat->dB b=ρ b)(h2:st.next.toNat<=aN.next.toNat)(h3:jr ρ st w dB aN w1)
  (h:ja C J ts x nt dB aN w1 ua jO a2 w2):ja C J ts x nt ρ st w ua jO a2 w2:=by
 obtain⟨kW,S,k1,k2,E,hJ,hx⟩:=h;exact⟨kW,S,λb hb=>(k1 b (Zb9 hb h2)).trans (h1 b hb),Zc3 h2 k2,h3.trans E,hJ,hx⟩
def FY(J:A9):Prop:=∀(ρ:Pos->Loc)(st st':St)(w:World)(D:List Deferred),J ρ st w D->(∀p v,st'.heap.get p=some v->st.heap.get p=some v)->st'.next=st.next->J ρ st' w D
theorem ja.QA(hw:FY J){y z:XO}{ρ:Pos->Loc}{st:St}{w:World}{a':Act}{w':World}(hc:Cv y z)(h:ja C J ts x nt ρ st w z.2.1 z.2.2 a' w'):ja C J ts x nt ρ st w y.2.1 y.2.2 a' w':=by obtain⟨dB,S,k1,k2,E,hJ,hx⟩:=h;refine⟨dB,⟨S.W.BC hc.h hc.n,?_,S.size,S.defers⟩,k1,by rw[hc.n];exact k2,⟨E.os,E.tape,E.output,E.size,E.block,λb v hb=>E.nc b v (hc.h b v hb)⟩,hw _ _ _ _ _ hJ hc.h hc.n,hx⟩;rw[hc.n];exact S.F.sub hc.f
def cR(P:Program)(C:Cells)(r:Option Nat)(J:A9)(ts:Nat->Prop)(x:Array Value)(nt:Nat)(c:Code)(ex:Fr->St->XS):Prop:=
 ∀  (fr:Fr)(st:St)(outs:List XO)(ρ:Pos->Loc)(a:Act)(w:World)(Q:Exit->Act->World->Prop),ex fr st=some outs->lX nt ρ C fr st ⟨a.tmps,[]⟩ w->J ρ st w a.defers->(∀t,ts t->a.tmps[t]? =x[t]?)->
    (∀o∈outs,∀a' w',ja C J ts x nt ρ st w o.2.1 o.2.2 a' w'->Q (mG o.1) a' w')->c.wpIn (Fc r) 0 P Q a w
theorem Cx.g{c:Code}{ex:Fr->St->XS}(h:Cx P C nt c ex)(hJ:QC C J)(cU:∀t∈pI c,¬ts t):cR P C r J ts x nt c ex:=by
 intro fr st outs ρ a w Q he hS hj hx hQ;have h1:ek P c (λe a' w'=>∃o∈outs,e=mG o.1/\eW nt ρ C st w o.2.1 o.2.2 a' w') ⟨a.tmps,[]⟩ w:=h fr st outs ρ _ w _ he hS λo ho a' w' hp=>⟨o,ho,rfl,hp⟩
 refine wpIn_mono (ek.Ya (r:=r) (n:=0) (D:=a.defers) (ds:=[]) (ts:=ts) (x:=x) c _ a.tmps w cU hx h1) ?_;rintro e a' w' ⟨hd,hk,o,ho,rfl,ρ',S,k1,k2,E⟩;exact hQ o ho a' w' ⟨ρ',S,k1,k2,E,by rw[hd];exact hJ _ _ _ _ _ _ _ hj hS.W S.W k1 k2 E,hk⟩
def Lv(f g:Fr->St->XS)(fr:Fr)(st:St):XS:=match f fr st with
 |  some outs=>IZ (λ|(e,fr,st)=>match e with
    |.normal=>g fr st
    |e=>some [(e,fr,st)]) outs []
 |none=>none
def acH(id:Nat)(f:Fr->St->XS)(fr:Fr)(st:St):XS:=match f fr st with
 |  some outs=>IZ (λ|(e,fr,st)=>match e with
    | .exit i=>match Nat.beq i id with
      |true=>some [(.normal,fr,st)]
      |false=>some [(.exit i,fr,st)]
    |e=>some [(e,fr,st)]) outs []
 |none=>none
def ZK(c:dM)(f g:Fr->St->XS)(fr:Fr)(st:St):XS:=SE none fr c λ
 |  .bool b=>match b with
    |true=>f fr st
    |false=>g fr st
 |_=>none
def QD(f:Fr->St->XS):Nat->Fr->St->XS
 |0,_,_=>none
 |n+1,fr,st=>Lv f (λfr st=>QD f n fr st) fr st
theorem cR.seq'(hw:FY J){c:Code}{f g:Fr->St->XS}{K:Act->World->Prop}{Q:Exit->Act->World->Prop}(hc:cR P C r J ts x nt c f)
  {fr:Fr} {st:St} {outs:List XO} {ρ:Pos->Loc} {a:Act} {w:World} (h:Lv f g fr st=some outs) (hS:lX nt ρ C fr st ⟨a.tmps,[]⟩ w) (hj:J ρ st w a.defers) (hx:∀t,ts t->a.tmps[t]? =x[t]?)
  (hK:∀bN aN iZ a1 w1,g bN aN=some iZ->(∀z∈iZ,∃y∈outs,Cv y z)->ja C J ts x nt ρ st w bN aN a1 w1->K a1 w1)
  (hQ:∀o∈outs,o.1≠ .normal->∀a' w',ja C J ts x nt ρ st w o.2.1 o.2.2 a' w'->Q (mG o.1) a' w'):c.wpIn (Fc r) 0 P (Exit.then K Q) a w:=by
 unfold Lv at h;split at h<;>first|(cases h;done)|skip
 rename_i ZL h0;obtain⟨_,bW⟩:=xy h;refine hc fr st ZL ρ a w _ h0 hS hj hx λo ho a1 w1 hp=> ?_
 obtain⟨iZ,h1,oh⟩:=bW o ho;obtain⟨e,bN,aN⟩:=o;dsimp only at h1 hp;cases e with
 |normal=>exact hK _ _ iZ a1 w1 h1 oh hp
 |exit i=>
  simp only[H0]at h1;subst h1;obtain⟨y,hy,hcv⟩:=oh _ (Zc7.2 rfl);have:=hQ y hy (by rw[hcv.e];simp) a1 w1 (ja.QA hw hcv hp);rw[hcv.e]at this;exact this
 |ret=>
  simp only[H0]at h1;subst h1;obtain⟨y,hy,hcv⟩:=oh _ (Zc7.2 rfl);have:=hQ y hy (by rw[hcv.e];simp) a1 w1 (ja.QA hw hcv hp);rw[hcv.e]at this;exact this
theorem ja.go{ρ dB:Pos->Loc}{st aN:St}{a1:Act}{w w1:World}{bN:Fr}(hw:FY J){d:Code}{g:Fr->St->XS}(hd:cR P C r J ts x nt d g){outs iZ:List XO}{Q:Exit->Act->World->Prop}
  (h:g bN aN=some iZ) (oh:∀z∈iZ,∃y∈outs,Cv y z) (hp:ja C J ts x nt ρ st w bN aN a1 w1)
  (hQ:∀o∈outs,∀a' w',ja C J ts x nt ρ st w o.2.1 o.2.2 a' w'->Q (mG o.1) a' w'):d.wpIn (Fc r) 0 P Q a1 w1:=by
 obtain⟨dB,S,k1,k2,E,hj,hx⟩:=hp;refine hd bN aN iZ dB a1 w1 Q h S hj hx λo ho a' w' hp=> ?_
 obtain⟨y,hy,hcv⟩:=oh o ho;have:=hQ y hy a' w' (ja.QA hw hcv (ja.trans k1 k2 E hp));rw[hcv.e]at this;exact this
theorem cR.seq(hw:FY J){c d:Code}{f g:Fr->St->XS}(hc:cR P C r J ts x nt c f)(hd:cR P C r J ts x nt d g):cR P C r J ts x nt (.seq c d) (Lv f g):=
 λfr st outs ρ a w Q h hS hj hx hQ=>wpIn_seq (hc.seq' hw h hS hj hx (λbN aN iZ a1 w1 h1 oh hp=>hp.go (dB:=ρ) hw hd h1 oh hQ) λo ho _=>hQ o ho)
theorem cR.block(hw:FY J){id:Nat}{c:Code}{f:Fr->St->XS}(hc:cR P C r J ts x nt c f):cR P C r J ts x nt (.block id c) (acH id f):=by
 intro fr st outs ρ a w Q h hS hj hx hQ;unfold acH at h;split at h<;>first|(cases h;done)|skip
 rename_i ZL h0;obtain⟨_,bW⟩:=xy h;refine wpIn_block (hc fr st ZL ρ a w _ h0 hS hj hx λo ho a1 w1 hp=> ?_);obtain⟨iZ,h1,oh⟩:=bW o ho;obtain⟨e,bN,aN⟩:=o;dsimp only at h1 hp;have fin:∀e',iZ=[(e',bN,aN)]->Q (mG e') a1 w1:=λe' he=>by subst he;obtain⟨y,hy,hcv⟩:=oh _ (Zc7.2 rfl);have:=hQ y hy a1 w1 (ja.QA hw hcv hp);rw[hcv.e]at this;exact this
 cases e with
 |normal=>simp only[H0]at h1;exact fin _ h1.symm
 |exit i=>
  dsimp only at h1;simp only[mG,Exit.inBlock];cases hb:Nat.beq i id with
  |true=>
   rw[hb]at h1;rw[Za2 (H3 hb)];exact fin .normal (Zf9 h1).symm
  |false=>
   rw[hb]at h1;rw[Za1 (Zb2 hb)];exact fin (.exit i) (Zf9 h1).symm
 |ret=>simp only[H0]at h1;exact fin _ h1.symm
theorem cR.cond{c:Operand}{o:dM}{d e:Code}{f g:Fr->St->XS}(ho:jV c=some o)(hd:cR P C r J ts x nt d f)(he:cR P C r J ts x nt e g):cR P C r J ts x nt (.cond c d e) (ZK o f g):=by
 intro fr st outs ρ a w Q h hS hj hx hQ;unfold ZK at h;rw[K9]at h;unfold nk at h;split at h<;>first|(cases h;done)|skip
 rename_i v hv;dsimp only at h;split at h<;>first|(cases h;done)|skip
 rename_i b;have hb:=(pF ho hS.F hv).fS;have hb:a.eval c= .bool b:=by rw[<-hb];exact G2
 cases b
 .exact wpIn_cond_false hb (he fr st outs ρ a w Q h hS hj hx hQ)
 .exact wpIn_cond_true hb (hd fr st outs ρ a w Q h hS hj hx hQ)
theorem cR.loop(hw:FY J){c:Code}{f:Fr->St->XS}(hc:cR P C r J ts x nt c f)(n:Nat):cR P C r J ts x nt (.loop c) (QD f n):=by
 intro fr st outs ρ a w Q h hS hj hx hQ;refine wpIn_loop_rounds n ?_
 suffices H:∀(n:Nat)(bN:Fr)(aN:St)(iZ:List XO)(a1:Act)(w1:World),QD f n bN aN=some iZ->(∀z∈iZ,∃y∈outs,Cv y z)->ja C J ts x nt ρ st w bN aN a1 w1->
    Code.roundsIn (Fc r) 0 P c Q n a1 w1 from
  H n fr st outs a w h (λz hz=>⟨z,hz,.refl z⟩) ⟨ρ,hS,λ_ _=>rfl,Za3 _,jr.refl _ _ _,hj,hx⟩
 intro n;induction n with
 |zero=>intro bN aN iZ a1 w1 h;cases h
 |succ n ih=>
  intro bN aN iZ a1 w1 h1 oh hp;obtain⟨dB,S,k1,k2,E,hj1,hx1⟩:=hp;rw[roundsIn_succ];refine hc.seq' hw (g:=λfr st=>QD f n fr st) h1 S hj1 hx1 (λua jO ZM a2 w2 h2 af9 AS=> ?_) λo ho _ a' w' AS=> ?_
  .refine ih ua jO ZM a2 w2 h2 (λz hz=> ?_) (ja.trans k1 k2 E AS);obtain⟨y,hy,hc1⟩:=af9 z hz;obtain⟨y',S0,hc2⟩:=oh y hy;exact⟨y',S0,⟨hc2.e.trans hc1.e,λp v h=>hc1.f p v (hc2.f p v h),λp v h=>hc1.h p v (hc2.h p v h),hc2.n.trans hc1.n⟩⟩
  .obtain⟨y,hy,hcv⟩:=oh o ho;have:=hQ y hy a' w' (ja.QA hw hcv (ja.trans k1 k2 E AS));rw[hcv.e]at this;exact this
def noS:Fr->St->XS:=λ_ _=>none
theorem cR.no{c:Code}:cR P C r J ts x nt c noS:=λ_ _ _ _ _ _ _ h=>by cases h
def xz(base:Code->Option (Fr->St->XS))(n:Nat):Code->Fr->St->XS
 |  .seq a b=>match base (.seq a b)with
    |some f=>f
    |none=>Lv (xz base n a) (xz base n b)
 |  .block id a=>match base (.block id a)with
    |some f=>f
    |none=>acH id (xz base n a)
 |  .loop a=>match base (.loop a)with
    |some f=>f
    |none=>QD (xz base n a) n
 |  .cond c a b=>match base (.cond c a b)with
    |some f=>f
    |none=>match jV c with
     |some o=>ZK o (xz base n a) (xz base n b)
     |none=>noS
 |  c=>match base c with
    |some f=>f
    |none=>noS
theorem cR.sp(hw:FY J){base:Code->Option (Fr->St->XS)}{n:Nat}:∀c:Code,(∀t∈pI c,¬ts t)->(∀c f,(∀t∈pI c,¬ts t)->base c=some f->cR P C r J ts x nt c f)->cR P C r J ts x nt c (xz base n c):=by
 intro c cU hb;induction c with
 |seq a b Vh Vi=>
  unfold xz;split
  .exact hb _ _ cU (by assumption)
  .exact .seq hw (Vh λt ht=>cU t (Zg4 _ ht)) (Vi λt ht=>cU t (Zi0 _ ht))
 |block id a ih=>
  unfold xz;split
  .exact hb _ _ cU (by assumption)
  .exact .block hw (ih cU)
 |loop a ih=>
  unfold xz;split
  .exact hb _ _ cU (by assumption)
  .exact .loop hw (ih cU) n
 |cond c a b Vh Vi=>
  unfold xz;split
  .exact hb _ _ cU (by assumption)
  . split
    .exact .cond (by assumption) (Vh λt ht=>cU t (Zg4 _ ht)) (Vi λt ht=>cU t (Zi0 _ ht))
    .exact .no
 |_=>
  unfold xz;split
  .exact hb _ _ cU (by assumption)
  .exact .no
def AM(P:Program)(tt:TT)(aX:ic XR)(m:Nat)(kp:List Nat)(nt:Nat)(c:Code):Option (Fr->St->XS):=match Go.Ai.VW tt nt c with
 |  some (g,ty)=>match P.underlying ty with
    |some (.map _ _)=>some (rgS aX m { g with ds:=key g.t18::key g.t19::g.ds.filter λp=> !(kp.any λt=>Pos.beq (key t) p) })
    |_=>none
 |  none=>match OZ c with
    |true=>none
    |false=>match ry tt nt c with
     |some ac=>some (acF (exK aX m ac))
     |none=>none
theorem O0{aX:ic XR}{call:ah}{m:Nat}{kp:List Nat}(hT:bM P tt)(hc:CK none aX call)(bH:eE P C call)(fh:qy P tt C call)(hJ:QC C J){c:Code}{f:Fr->St->XS}
   (cU:∀t∈pI c,¬ts t) (h:AM P tt aX m kp nt c=some f):cR P C r J ts x nt c f:=by
 unfold AM at h;split at h
 .rename_i hg;(split at h<;>first|(cases h;done)|skip);rename_i hu;simp only[H0]at h;subst h;exact(Cx.VW hT hc bH fh hg hu _).g hJ cU
 . (split at h<;>first|(cases h;done)|skip);(split at h<;>first|(cases h;done)|skip);rename_i Vn;simp only[H0]at h;subst h;exact(Lr.ac hT hc bH fh Vn).one.g hJ cU
end
section
variable{P:Program}{tt:TT}{C:Cells}{ρ:Pos->Loc}{st:St}{w w':World}{nt:Nat}
theorem aT.j9{L:Nat}(hW:aT ρ C st w)(hr:∀a:Addr,a.block=L->w.cell? a=none)(hn:∀b x,st.heap.get b=some x->(ρ b).ay≠L)
   (hs:w'.heap.size=w.heap.size) (hk:∀k,k≠L->w'.heap[k]? =w.heap[k]?):aT ρ C st w':=by
 have aR:∀a v,C a=some v->a.block≠L:=λa v ha e=>by have h:=(hW.cV a v ha).1;rw[hr a e]at h;cases h
 refine⟨λb x hb=> ?_,hW.inj,λa v ha=> ?_,λa v ha o ho=> ?_⟩
 .obtain⟨h1,h2,h3⟩:=hW.live b x hb;exact⟨h1,by rw[hs];exact h2,h3.of_heap (hk _ (hn b x hb))⟩
 .obtain⟨h1,h2⟩:=hW.cV a v ha;exact⟨by rw[World.cell?_of_block (w:=w) (hk _ (aR a v ha))];exact h1,h2⟩
 .rw[World.cell?_of_block (w:=w) (a:=⟨a.block,o,none⟩) (hk _ (aR a v ha))];exact hW.whole a v ha o ho
theorem aT.O3{L:Nat}{r:Loop}{o:Obj}(hW:aT ρ C st w)(hl:w.heap[L]? =some (.loop r))(hn:∀b x,st.heap.get b=some x->(ρ b).ay≠L):aT ρ C st (w.putObj L o):=
 hW.j9 (λa ha=>by subst ha;simp[World.cell?,hl]) hn World.putObj_size λk hk=>World.putObj_heap_other hk
theorem aT.acI{L:Nat}{r:Option (List Deferred)}{o:Obj}(hW:aT ρ C st w)(hl:w.heap[L]? =some (.deferred r))(hn:∀b x,st.heap.get b=some x->(ρ b).ay≠L):aT ρ C st (w.putObj L o):=
 hW.j9 (λa ha=>by subst ha;simp[World.cell?,hl]) hn World.putObj_size λk hk=>World.putObj_heap_other hk
theorem CP{ρ':Pos->Loc}{st':St}{L:Nat}(E:jr ρ st w ρ' st' w')(hL:L<w.heap.size)(hn:∀b x,st.heap.get b=some x->(ρ b).ay≠L):(∀b x,st'.heap.get b=some x->(ρ' b).ay≠L)/\w'.heap[L]? =w.heap[L]? :=
 ⟨λb x hb=>by
  rcases E.nc b x hb with⟨b',x',iz,e⟩|h
  .rw[<-e];exact hn b' x' iz
  .omega,E.block L hL hn⟩
def N5:A9:=λ_ _ _ D=>D=[]
theorem N5.stays:QC C N5:=λ_ _ _ _ _ _ _ h _ _ _ _ _=>h
theorem N5.BC:FY N5:=λ_ _ _ _ _ h _ _=>h
def Hf(C:Cells)(L D0:Nat)(r:Loop)(su:Fr):A9:=λρ st w D=>D=[]/\w.heap[L]? =some (.loop r)/\w.heap[D0]? =some (.deferred (some []))/\
 (∀b x,st.heap.get b=some x->(ρ b).ay≠L)/\(∀b x,st.heap.get b=some x->(ρ b).ay≠D0)/\eO ρ st.next.toNat C su r.tmps
theorem Fp{k:Nat}{o:Obj}(h:w.heap[k]? =some o):k<w.heap.size:=(Zc0.1 h).1
theorem Hf.stays{L D0:Nat}{r:Loop}{su:Fr}:QC C (Hf C L D0 r su):=λρ st w D ρ' st' w' h _ _ k1 k2 E=>by
 obtain⟨h1,h2,h3,h4,h5,h6⟩:=h;obtain⟨f1,f2⟩:=CP E (Fp h2) h4;obtain⟨g1,g2⟩:=CP E (Fp h3) h5;exact⟨h1,f2.trans h2,g2.trans h3,f1,g1,h6.mono k1 k2⟩
theorem Hf.BC{L D0:Nat}{r:Loop}{su:Fr}:FY (Hf C L D0 r su):=λρ st st' w D h hh hn=>by
 obtain⟨h1,h2,h3,h4,h5,h6⟩:=h;exact⟨h1,h2,h3,λb x hb=>h4 b x (hh b x hb),λb x hb=>h5 b x (hh b x hb),by rw[hn];exact h6⟩
abbrev mark(r:Nat):Deferred:={ target:= .collected r,args:= #[] }
def Lw(B:Nat):A9:=λρ st w D=>B<=w.heap.size/\∃rs:List Nat,D=rs.map mark/\rs.Nodup/\∀r∈rs,B<=r/\w.heap[r]? =some (.deferred (some []))/\∀b x,st.heap.get b=some x->(ρ b).ay≠r
theorem Lw.stays{B:Nat}:QC C (Lw B):=λρ st w D ρ' st' w' h _ _ k1 k2 E=>by
 obtain⟨hB,rs,h1,h2,h3⟩:=h;refine⟨Zc3 hB E.size,rs,h1,h2,λr hr=> ?_⟩;obtain⟨g0,g1,g2⟩:=h3 r hr;obtain⟨f1,f2⟩:=CP E (Fp g1) g2;exact⟨g0,f2.trans g1,f1⟩
theorem Lw.BC{B:Nat}:FY (Lw B):=λρ st st' w D h hh hn=>by
 obtain⟨hB,rs,h1,h2,h3⟩:=h;exact⟨hB,rs,h1,h2,λr hr=>let⟨g0,g1,g2⟩:=h3 r hr;⟨g0,g1,λb x hb=>g2 b x (hh b x hb)⟩⟩
def V7:List XO->List St->Option (List St)
 |[],acc=>some acc
 |  (e,_,st)::l,acc=>match e with
    |.normal=>V7 l (st::acc)
    |_=>none
def QE{β:Type}:List Nat->List AV->Fr->(Fr->Option β)->Option β
 |[],[],fr,k=>k fr
 |p::ps,v::vs,fr,k=>nh (some v) (key p) fr λfr=>QE ps vs fr k
 |_,_,_,_=>none
def ZN(ps:List Nat)(f:Fr->St->XS)(su:Fr)(vs:List AV)(st:St):Option (List St):=QE ps vs su λfr=>match f fr st with
 |some outs=>V7 outs []
 |none=>none
theorem Tq:∀{l:List XO}{acc Hg:List St},V7 l acc=some Hg->(∀s∈acc,s∈Hg)/\∀o∈l,o.1= .normal/\o.2.2∈Hg
 |[],acc,Hg,h=>by
  simp only[V7,H0]at h;subst h;exact⟨λ_ h=>h,λ_ h=>by cases h⟩
 |(e,fr,st)::l,acc,Hg,h=>by
  unfold V7 at h;cases e with
  | normal=>
    obtain⟨h1,h2⟩:=Tq (l:=l) h;refine⟨λs hs=>h1 s (Za4 _ hs),λo ho=> ?_⟩;rcases Za5.1 ho with rfl|ho
    .exact⟨rfl,h1 _ (Zc4 ..)⟩
    .exact h2 o ho
  |_=>cases h
theorem N6{β:Type}{k:Fr->Option β}{z:β}:∀{ps:List Nat}{vs:List AV}{xs:List Value}{fr:Fr}{T:Array Value},QE ps vs fr k=some z->av ρ st.next.toNat C vs xs->eO ρ st.next.toNat C fr T->T.size=nt->(∀p∈ps,p<nt)->
  ∃aU,k aU=some z/\eO ρ st.next.toNat C aU ((ps.zip xs).foldl (λt (p,v)=>t.setIfInBounds p v) T)/\((ps.zip xs).foldl (λt (p,v)=>t.setIfInBounds p v) T).size=nt/\xs.length=ps.length
 |[],[],xs,fr,T,h,hv,hF,hs,_=>by
  have:=hv.mF;subst this;exact⟨fr,h,hF,hs,rfl⟩
 |p::ps,v::vs,xs,fr,T,h,hv,hF,hs,hp=>by
  obtain⟨x,uX,rfl,h1,h2⟩:=hv.cons_inv;unfold QE at h;rw[gQ]at h;have hF':=eO.put (nt:=nt) (a:=⟨T,[]⟩) (d:=some p) hF hs (λ_ h=>by cases h;exact hp p (Zc4 ..)) h1;obtain⟨aU,g1,g2,g3,g4⟩:=N6 (T:=T.setIfInBounds p x) h h2 hF' (by simpa using hs) λq hq=>hp q (Za4 _ hq)
  exact⟨aU,g1,g2,g3,by simp[g4]⟩
 |[],_::_,_,_,_,h,_,_,_,_=>by cases h
 |_::_,[],_,_,_,h,_,_,_,_=>by cases h
def ZO(P:Program)(C:Cells)(L D0:Nat)(r:Loop)(su:Fr)(Tr:List AV->St->Option (List St)):Prop:=
 ∀  (vs:List AV)(st:St)(Hg:List St)(ρ:Pos->Loc)(w:World)(args:Array Value),Tr vs st=some Hg->aT ρ C st w->av ρ st.next.toNat C vs args.toList->Hf C L D0 r su ρ st w []->
    args.size=r.params.size/\RoundIn (Fc none) 0 P L r.fn ((r.params.zip args).foldl (λt (p,v)=>t.setIfInBounds p v) r.tmps) r.assign r.body w λe w'=>
     ∃s∈Hg,e= .returned (.bool true)/\∃ρ',aT ρ' C s w'/\(∀b:Pos,b.toNat<st.next.toNat->ρ' b=ρ b)/\st.next.toNat<=s.next.toNat/\jr ρ st w ρ' s w'
theorem afc{L D0:Nat}{r:Loop}{su:Fr}{ps:List Nat}{f g:Fr->St->XS}(hp:r.params.toList=ps)(hr:r.state= .ready)(P2:r.pending=none)(hs:r.tmps.size=nt)(aK:∀p∈ps,p<nt)
   (hA:cR P C (some L) N5 (λ_=>False) #[] nt r.assign f) (hB:cR P C (some L) N5 (λ_=>False) #[] nt r.body g):ZO P C L D0 r su (ZN ps (Lv f g) su):=by
 intro vs st Hg ρ w args h hW hv hj;obtain⟨_,hl,_,j9,_,hF⟩:=hj;unfold ZN at h;obtain⟨fr,h,hF1,Lx,hlen⟩:=N6 h hv hF hs aK;have aga:(ps.zip args.toList).foldl (λt (p,v)=>t.setIfInBounds p v) r.tmps=(r.params.zip args).foldl (λt (p,v)=>t.setIfInBounds p v) r.tmps:=by
   rw[<-hp, <-Array.foldl_toList,Array.toList_zip]
 rw[aga]at hF1 Lx;refine⟨by rw[<-Ze9, <-Ze9,hp,hlen],roundIn_of_wpIn (F:=Fc none) trivial ?_⟩;split at h<;>first|(cases h;done)|skip
 rename_i outs hx;have bW:=(Tq h).2;show r.assign.wpIn (Fc (some L)) 0 P _ _ w;refine hA.seq' N5.BC hx ⟨hW,hF1,Lx,rfl⟩ rfl (λ_ h=>h.elim) (λbN aN iZ a1 w1 h1 oh dH=> ?_) λo ho aR=>(aR (bW o ho).1).elim
 obtain⟨dB,S1,k1,k2,E1,hD1,_⟩:=dH;obtain⟨far1,u5⟩:=CP E1 (Fp hl) j9;rw[hl]at u5;refine⟨_,run_beginRound u5 hr,?_⟩;have ZP:=Fp u5;refine hB bN aN iZ dB a1 _ _ h1 ⟨S1.W.O3 u5 far1,S1.F,S1.size,rfl⟩ hD1 (λ_ h=>h.elim) λo ho a3 w3 hp3=> ?_
 obtain⟨y,hy,hcv⟩:=oh o ho;obtain⟨BU,C0⟩:=bW y hy;rw[<-hcv.e,BU];obtain⟨A8,S3,j1,j2,E3,_,_⟩:=hp3;have jW:=World.putObj_heap_same (o:= .loop { r with state:= .busy }) ZP;obtain⟨far3,YC⟩:=CP E3 (by rw[World.putObj_size];exact ZP) far1;rw[jW]at YC;refine⟨_,_,run_endRound (P:=P) none YC,y.2.2,C0,rfl,A8,?_,λb hb=>(j1 b (Zb9 hb k2)).trans (k1 b hb),by rw[hcv.n];exact Zc3 k2 j2,?_⟩
 .exact(S3.W.O3 YC far3).BC hcv.h hcv.n
 . have hrec:({ ({ r with state:= .busy }:Loop)with state:=if(none:Option Code).isNone then .ready else .done,pending:=none }:Loop)=r:=(by cases r;simp only at hr P2;subst hr;subst P2;rfl);rw[hrec];refine E1.trans ⟨E3.os,E3.tape,E3.output,by rw[World.putObj_size];have:=E3.size;rw[World.putObj_size]at this;exact this,λk hk hn=> ?_,λb x hb=> ?_⟩
   . by_cases e:k=L
     .  subst e;rw[World.putObj_heap_same (Fp YC),u5]
     .  rw[World.putObj_heap_other e,E3.block k (by rw[World.putObj_size];exact hk) hn,World.putObj_heap_other e]
   .have:=E3.nc b x (hcv.h b x hb);rw[World.putObj_size]at this;exact this
end
structure YR where
 d:Nat
 dy:Nat
 xs:List dM
 l1:List bg
 l2:List bg
def UI (d:Nat):List Oper->Nat->Option Nat
 |[],_=>none
 |  o ::l,i=>match o.op with
    | .call c=>match c.callee with
      | .value (.tmp e)=>match Nat.beq d e with
        |true=>some i
        |false=>UI d l (i+1)
      |_=>UI d l (i+1)
    |_=>UI d l (i+1)
def aa8(d:Nat)(o:Oper):Bool:=match o.dst with
 |some e=> !Nat.beq d e
 |none=>true
def acJ (tt : TT)(nt:Nat):Code->Option YR
 |  .region _ ops false=>match ops[0]? with
    |some o0  =>match o0.op,o0.dst,o0.guard with
     |  .move (.tmp 0),some d,none=>match UI d ops.toList 0 with
        |some j=>match ops[j]? with
         |  some oj=>match oj.op,oj.dst,oj.guard with
            | .call c,some dy,none=>match c.callee,iI c.args.toList,mQ tt nt ops ops.toList []with
              | .value (.tmp d'),some xs,some l=>match Nat.beq d' d&&Nat.blt d nt&&Nat.blt dy nt&&Nat.blt 0 j&&Nat.blt j ops.size&&((ops.toList.drop 1).take (j - 1)).all (aa8 d)with
                |true=>some ⟨d,dy,xs,(l.drop 1).take (j - 1),l.drop (j+1)⟩
                |false=>none
              |_,_,_=>none
            |_,_,_=>none
         |none=>none
        |none=>none
     |_,_,_=>none
    |none=>none
 |_=>none
def O4:Code->Bool
 |.region _ ops _=>ops.toList.any λo=>match o.op with|.move (.tmp 0)=>true|_=>false
 |.seq a b=>O4 a||O4 b
 |.cond _ a b=>O4 a||O4 b
 |.block _ a=>O4 a
 |.loop a=>O4 a
 |_=>false
section
variable(aX:ic XR)
def acK(Tr:List AV->St->Option (List St))(y:YR)(fr:Fr)(st:St):XS:=nh none (key y.d) fr λfr=>match V0 aX y.l1 fr st with
 |  some (_,bN,aN)=>Oz none bN y.xs λvs=>match Tr vs aN with
    |some Hg=>nh (some (.bool true)) (key y.dy) bN λua=>IZ (λs=>match V0 aX y.l2 ua s with
     |some o=>some [o]
     |none=>none) Hg []
    |none=>none
 |none=>none
end
section
variable{P:Program}{tt:TT}{C:Cells}{aX:ic XR}{call:ah}{nt m:Nat}
theorem eO.drop{ρ:Pos->Loc}{n d:Nat}{fr:Fr}{X:Array Value}(h:eO ρ n C fr X)(v:Value):eO ρ n C (fr.put none (key d)) (X.setIfInBounds d v):=λp u hp=>by
 by_cases e:key d=p
 .subst e;rw[T.eo]at hp;cases hp
 .rw[T.bw _ e]at hp;obtain⟨y,hy,hr⟩:=h p u hp;refine⟨y,?_,hr⟩;rw[Zd3,hy];intro h';apply e;apply Pos.toNat_inj;rw[ey];have:=p.toNat_pos;omega
theorem N7{r:Option Nat}{ops:Array Oper}{Q:Exit->Act->World->Prop}{i:Nat}{rest:List Nat}{o:Oper}{a:Act}{w:World}(ho:ops[i]? =some o)(hg:o.guard=none)
  (h:o.uponIn (Fc r) 0 P a (wpOpsIn (Fc r) 0 P ops Q rest) Q ((o.semAt r a.eval).run P w)):wpOpsIn (Fc r) 0 P ops Q (i::rest) a w:=by
 rw[wpOpsIn_cons];unfold wpOpIn;rw[ho];simp only[Region.wanted,hg,Zf0];exact⟨λ_ _=>trivial,h⟩
theorem XD(j k:Nat):List.range (j+1+1+k)=0::(List.range' 1 j++(j+1)::List.range' (j+2) k):=by rw[Zk5,show j+1+1+k=(j+1)+(k+1)by omega, <-List.range'_append_1,Zm6,Zm6 (s:=0+(j+1))];simp
theorem cR.yld(hT:bM P tt)(hc:CK none aX call)(bH:eE P C call){L D0:Nat}{r:Loop}{su:Fr}{x:Array Value}(hx0:x[0]? =some (.func (.yield L) #[] #[]))
   {Tr:List AV->St->Option (List St)} (acL:ZO P C L D0 r su Tr) {c:Code} {y:YR} (hy:acJ tt nt c=some y) (cU:∀t∈pI c,t≠0):
   cR P C none (Hf C L D0 r su) (λt=>t=0) x nt c (acK aX Tr y):=by
 unfold acJ at hy;split at hy<;>first|(cases hy;done)|skip
 rename_i id ops;split at hy<;>first|(cases hy;done)|skip
 rename_i o0 h0;split at hy<;>first|(cases hy;done)|skip
 rename_i d hop0 hd0 Qq;split at hy<;>first|(cases hy;done)|skip
 rename_i j hj;split at hy<;>first|(cases hy;done)|skip
 rename_i oj hoj;split at hy<;>first|(cases hy;done)|skip
 rename_i cl dy hopj hdj hgj;split at hy<;>first|(cases hy;done)|skip
 rename_i d' xs l OI gb hl;split at hy<;>first|(cases hy;done)|skip
 rename_i hb;simp only[H0]at hy;subst hy;simp only[Za6,Nat.beq_eq,Zo5]at hb;obtain⟨⟨⟨⟨⟨rfl,hd⟩,hdy⟩,hj0⟩,hjs⟩,EL⟩:=hb;intro fr st outs ρ a w Q h hS hJ hx hQ;unfold acK at h;rw[gQ]at h;dsimp only at h;split at h<;>first|(cases h;done)|skip
 rename_i e1 bN aN BU;obtain⟨rfl,hz1⟩:=RP hc BU;rw[M6]at h;unfold nk at h;split at h<;>first|(cases h;done)|skip
 rename_i vs gU;dsimp only at h;split at h<;>first|(cases h;done)|skip
 rename_i Hg hr;rw[gQ]at h;obtain⟨_,bW⟩:=xy h;have hlen:l.length=ops.size:=by rw[(nj hl).1,Ze9]
 have u5:((l.drop 1).take (j - 1)).length=j - 1:=by rw[Zj5,List.length_drop,hlen];omega
 have jW:(l.drop (j+1)).length=ops.size - (j+1):=by rw[List.length_drop,hlen]
 apply wpIn_region;have afd:List.range ops.size=0::(List.range' 1 ((l.drop 1).take (j - 1)).length++(j::List.range' (j+1) (l.drop (j+1)).length)):=by rw[u5,jW];have:=XD (j - 1) (ops.size - (j+1));rw[show j - 1+1+1+(ops.size - (j+1))=ops.size by omega,show j - 1+1=j by omega,show j - 1+2=j+1 by omega]at this;exact this
 rw[afd];refine N7 h0 Qq ?_;have hev0:a.eval (.tmp 0)= .func (.yield L) #[] #[]:=by
   have:=hx 0 rfl;rw[hx0]at this;show a.tmps.getD 0 undef=_;simp[Zh7,this]
 have hsem:(o0.semAt none a.eval).run P w= .ok (.value (.func (.yield L) #[] #[])) w:=by
   show(execOp a.eval o0).run P w=_;unfold execOp;rw[hop0];simp only[Sem.run_pure,hev0]
 rw[hsem];show wpOpsIn (Fc none) 0 P ops Q _ (a.put o0.dst _) w;rw[hd0];show wpOpsIn (Fc none) 0 P ops Q _ ⟨a.tmps.setIfInBounds d' (.func (.yield L) #[] #[]),a.defers⟩ w;have agb:d'≠0:=cU d' (by
   show d'∈ops.toList.filterMap (·.dst);rw[Zl2];exact⟨o0,by rw[Zk4];exact Zk1 h0,hd0⟩)
 have ZQ:∀(i:Nat)(o:Oper),ops[i]? =some o->∀t,o.dst=some t->t≠0:=λi o ho t ht=>cU t (by
   show t∈ops.toList.filterMap (·.dst);rw[Zl2];exact⟨o,by rw[Zk4];exact Zk1 ho,ht⟩)
 have hsz0:a.tmps.size=nt:=hS.size
 refine Ir (ds:=[]) (ts:=λt=>t=0\/t=d') (x:=(a.tmps.setIfInBounds d' (.func (.yield L) #[] #[]))) (K:=λa' w'=>eW nt ρ C st w bN aN a' w') (λT' w1 hk hp=> ?_) _ _ w (λi hi o ho t ht=> ?_) (λ_ _=>rfl)
   (pJ (nt:=nt) hT bH _ 1 _ bN st aN ρ _ w (λi ao hi=> ?_) hz1 ⟨hS.W,hS.F.drop _,by simpa using hsz0,rfl⟩ λa' w' hp=>hp)
 . obtain⟨dB,S1,k1,k2,E1⟩:=hp;have hJ1:=Hf.stays _ _ _ _ _ _ _ hJ hS.W S1.W k1 k2 E1;have hD:a.defers=[]:=hJ.1;have hl0:=hJ1.2.1;have EW:=dG gb S1.F gU;obtain⟨eF,afe⟩:=acL vs aN Hg dB w1 (cl.args.map (⟨T',a.defers⟩:Act).eval) hr S1.W (by
     (rw[Zo1];have:(⟨T',a.defers⟩:Act).eval=(⟨T',[]⟩:Act).eval:=funext λ_=>G2);rw[this];exact EW) (by rw[<-hD];exact hJ1)
   refine N7 hoj hgj ?_;have hevd:(⟨T',a.defers⟩:Act).eval (.tmp d')= .func (.yield L) #[] #[]:=by
     have:=hk d' (.inr rfl);rw[Zk0]at this;simp[hsz0,hd]at this;show T'.getD d' undef=_;simp[Zh7,this]
   have agc:(oj.semAt none (⟨T',a.defers⟩:Act).eval).run P w1= .ok (.round L r.fn ((r.params.zip (cl.args.map (⟨T',a.defers⟩:Act).eval)).foldl (λt (p,v)=>t.setIfInBounds p v) r.tmps) r.assign r.body) w1:=(by show(execOp (⟨T',a.defers⟩:Act).eval oj).run P w1=_;unfold execOp;rw[hopj];simp only[resolve,OI,hevd,Deferred.ofValue,invoke,Sem.run_bind,Sem.run_pure,Result.andThen];have:=run_yield (P:=P) (args:= #[]++cl.args.map (⟨T',a.defers⟩:Act).eval) hl0 (by simpa using eF);simpa using this);rw[agc];refine⟨λhd=>by simp[Fence.wide]at hd,afe.mono ?_⟩;rintro e w2 ⟨s,hs,rfl,kW,GZ,k3,k4,E2⟩;show wpOpsIn (Fc none) 0 P ops Q _ ((⟨T',a.defers⟩:Act).put oj.dst _) w2;rw[hdj];show wpOpsIn (Fc none) 0 P ops Q _ ⟨T'.setIfInBounds dy (.bool true),a.defers⟩ w2;obtain⟨iZ,h1,oh⟩:=bW s hs;(split at h1<;>first|(cases h1;done)|skip);rename_i o ho;simp only[H0]at h1;subst h1;obtain⟨e3,QB,s3⟩:=o;obtain⟨rfl,hz3⟩:=RP hc ho;obtain⟨y,hyo,hcv⟩:=oh _ (Zc7.2 rfl);have hF2:=eO.put (nt:=nt) (a:=⟨T',[]⟩) (d:=some dy) (S1.F.mono k3 k4) S1.size (λ_ h=>by cases h;exact hdy) (aj.bool (C:=C) true);have hdy0:dy≠0:=ZQ j oj hoj dy hdj;rw[<-Zf4 (List.range' _ _)]
   refine Ir (ds:=[]) (ts:=λt=>t=0) (x:=T'.setIfInBounds dy (.bool true)) (K:=λa' w'=>eW nt kW C s w2 QB s3 a' w') (λT2 w3 n9 AS=> ?_) _ _ w2 (λi hi o ho t ht=>ZQ i o ho t ht) (λ_ _=>rfl)
     (pJ (nt:=nt) hT bH _ (j+1) _ QB s s3 kW _ w2 (λi ao hi=> ?_) hz3 ⟨GZ,hF2,by simpa using S1.size,rfl⟩ λa' w' hp=>hp)
   . obtain⟨A8,S3,k5,k6,E3⟩:=AS;have K1:∀b:Pos,b.toNat<st.next.toNat->A8 b=ρ b:=λb hb=>(k5 b (by omega)).trans ((k3 b (by omega)).trans (k1 b hb))
     have K2:st.next.toNat<=s3.next.toNat:=(by omega);have E:=(E1.trans E2).trans E3;show Q .normal _ _;have:=hQ y hyo ⟨T2,a.defers⟩ w3 (ja.QA Hf.BC hcv ⟨A8,S3,K1,K2,E,Hf.stays _ _ _ _ _ _ _ hJ hS.W S3.W K1 K2 E,λt ht=>by
        subst ht;rw[<-hx 0 rfl,n9 0 rfl,Zd3 hdy0,hk 0 (.inl rfl),Zd3 agb]⟩)
     rw[hcv.e]at this;exact this
   .rw[Zc6]at hi;obtain⟨o,q1,q2,_⟩:=Aj hl _ ao hi;exact⟨o,q1,q2⟩
 . rintro(rfl|rfl)
   .exact ZQ i o ho _ ht rfl
   . (rw[List.mem_range'_1,u5]at hi;have hm:o∈(ops.toList.drop 1).take (j - 1):=by rw[Ze7];refine⟨i - 1,?_⟩;rw[Zb1,Za2 (by omega),Zc6,show 1+(i - 1)=i by omega,Zf3];exact ho);have:=Zd6.1 EL o hm;simp only[aa8,ht,Zh2]at this;exact Zb2 this rfl
 .rw[Zb1]at hi;(split at hi<;>first|(cases hi;done)|skip);rw[Zc6]at hi;obtain⟨o,q1,q2,_⟩:=Aj hl _ ao hi;exact⟨o,q1,q2⟩
end
def rfS (gf ntg:Nat)(YD:Fr->Fr->St->XS)(og:dM)(fr:Fr)(st:St):XS:=SE none fr og λ
 |  .func f [] RQ=>match Nat.beq f gf&&Nat.ble (RQ.length+1) ntg with
    |true=>Af RQ 1 .e λfri=>match YD fr fri st with
     |  some outs=>IZ (λ|(e,_,s)=>match e with
        |.exit _=>none
        |_=>some [(.normal,fr,s)]) outs []
     |none=>none
    |false=>none
 |_=>none
section
variable{P:Program}{tt:TT}{C:Cells}{aX:ic XR}{call:ah}{nt m:Nat}{ts:Nat->Prop}{x:Array Value}
def ItOk(P:Program)(C:Cells)(nt:Nat)(ps:Array Nat)(assign body:Code)(ntg:Nat)(gc:Code)(YD:Fr->Fr->St->XS):Prop:=
 ∀  (L D0:Nat)(r:Loop)(su:Fr)(x:Array Value),r.state= .ready->r.pending=none->r.params=ps->r.assign=assign->r.body=body->r.tmps.size=nt->x[0]? =some (.func (.yield L) #[] #[])->
    cR P C none (Hf C L D0 r su) (λt=>t=0) x ntg gc (YD su)
theorem cR.rf{B gf:Nat}{kK:Func}{gc:Code}(hf:P.funcs[gf]? =some kK)(ia:(kK.name== "runtime.NumGoroutine")=false)(hb:kK.body=some gc)(acv:kK.results= #[]){g:Operand}{ps:Array Nat}{assign body:Code}{og:dM}
   (hg:jV g=some og) {YD:Fr->Fr->St->XS} (hI:ItOk P C nt ps assign body kK.ntmps gc YD):cR P C none (Lw B) ts x nt (.rangeFunc g ps assign body) (rfS gf kK.ntmps YD og):=by
 intro fr st outs ρ a w Q h hS hJ hx hQ;unfold rfS at h;rw[K9]at h;unfold nk at h;split at h<;>first|(cases h;done)|skip
 rename_i v hv;dsimp only at h;split at h<;>first|(cases h;done)|skip
 rename_i f RQ;split at h<;>first|(cases h;done)|skip
 rename_i JR;simp only[Za6,Nat.beq_eq]at JR;obtain⟨rfl,hle⟩:=JR;have hle:=Za0 hle;rw[Cu]at h;split at h<;>first|(cases h;done)|skip
 rename_i iZ ho;obtain⟨_,bW⟩:=xy h;obtain⟨x',y',hval,js,S0⟩:=(pF hg hS.F hv).Ae;have hx0:x'= #[]:=by have:=js.mF;exact Array.toList_eq_nil_iff.1 this
 subst hx0;have hval:a.eval g= .func (.func f) #[] y':=by rw[<-hval];exact G2
 refine wpIn_rangeFunc λfn _=> ?_
 let L:Nat:=w.heap.size+1
 let r:Loop:={ state:= .ready,pending:=none,fn,tmps:=a.tmps,params:=ps,assign,body,defers:=w.heap.size }
 let W1:World:=(w.alloc (.deferred (some []))).alloc (.loop r)
 have hL1:W1.heap[L]? =some (.loop r):=by have:=World.alloc_heap_new (w.alloc (.deferred (some []))) (.loop r);rwa [World.size_alloc]at this
 have hold:∀k,k<w.heap.size->W1.heap[k]? =w.heap[k]? :=λk hk=>(heap_alloc_old _ _ (by simp;omega)).trans (heap_alloc_old w _ hk)
 have hK1:W1.heap[w.heap.size]? =some (.deferred (some [])):=(heap_alloc_old _ _ (by simp)).trans (World.alloc_heap_new w _);have hWs:W1.heap.size=w.heap.size+1+1:=by show((w.alloc _).alloc _).heap.size=_;simp
 have Dg:¬kK.name= "runtime.NumGoroutine" :=by simpa using ia
 refine⟨L,[mark w.heap.size],W1,{ target:= .fn (.func f) y',args:= #[.func (.yield L) #[] #[]] },W1,f, #[.func (.yield L) #[] #[]]++y',W1,run_enterLoop_outer _ _ _ _ _,?_,λ_ _=>trivial,?_,λhd=>by simp[Fence.wide]at hd,?_⟩
 .simp only[resolve,rangeCall,hval,Deferred.ofValue,Sem.run_pure];simp[Act.eval]
 .simp[invoke,callFunc,hf,Dg,hb]
 refine callsIn_of_wp hf hb trivial ?_;have Vl:aT ρ C st W1:=hS.W.grow (by omega) hold;have hlen:(#[Value.func (.yield L) #[] #[]]++y').size=RQ.length+1:=by have:=S0.1;simp at this ⊢; omega
 obtain⟨X,hX⟩:∃X,X=(#[Value.func (.yield L) #[] #[]]++y')++Array.replicate (kK.ntmps - (#[Value.func (.yield L) #[] #[]]++y').size) undef:=⟨_,rfl⟩
 rw[<-hX];have hX0:X[0]? =some (.func (.yield L) #[] #[]):=by rw[hX,Zg5 (by simp;omega),Zg5 (by simp)];rfl
 have hXs:X.size=kK.ntmps:=by rw[hX,Array.size_append,Array.size_replicate,hlen];omega
 have ZR:∀k,w.heap.size<=k->∀b z,st.heap.get b=some z->(ρ b).ay≠k:=λk hk b z hb e=>by have:=(hS.W.live b z hb).2.1;omega
 have hJ0:Hf C L w.heap.size r fr ρ st W1 []:=⟨rfl,hL1,hK1,ZR L (by show w.heap.size<=w.heap.size+1;omega),ZR _ (Za3 _),hS.F⟩
 have hF0:eO ρ st.next.toNat C (params 1 RQ .e) X:=yx RQ y'.toList 1 .e S0 (λk z hz=>by
   rw[hX,Zg5,Array.getElem?_append_right]<;>simp at hz ⊢
   .exact hz
   .have:=(Zc0.1 hz).1;omega) (λp v hp=>by rw[T.dh]at hp;cases hp)
 refine hI L w.heap.size r fr X rfl rfl rfl rfl rfl hS.size hX0 _ st iZ ρ ⟨X,[]⟩ W1 _ ho ⟨Vl,hF0,hXs,rfl⟩ hJ0 (λt _=>rfl) λo V8 a3 w3 hp=> ?_
 obtain⟨A8,S3,k1,k2,E3,hJ3,_⟩:=hp;obtain⟨h3D,h3l,h3d,h3f,h3g,h3F⟩:=hJ3;obtain⟨ZM,h2,oh⟩:=bW o V8;obtain⟨e,QB,lu⟩:=o;dsimp only at h2 S3 k1 k2 E3 h3f h3g h3F;have adR:(results kK a3.tmps).run P w3= .ok (.tuple #[]) w3:=by
   simp[results,acv]
 have hend:=run_endLoop (P:=P) h3l (by show LoopState.ready≠LoopState.busy;simp);have fin:ZM=[(.normal,fr,lu)]->rangePost (Fc none) 0 P L Q { a with defers:=[mark w.heap.size]++a.defers } (.returned (.tuple #[])) w3:=λhe=>by
   (subst he;obtain⟨y,hy,hcv⟩:=oh _ (Zc7.2 rfl);refine⟨_,_,hend,?_⟩;show Q .normal _ _;have hLne:∀k,k≠L->(w3.putObj L (.loop { r with state:= .exhausted })).heap[k]? =w3.heap[k]? :=λk hk=>World.putObj_heap_other hk);have E:jr ρ st w A8 lu (w3.putObj L (.loop { r with state:= .exhausted })):=by
     refine⟨E3.os,E3.tape,E3.output,?_,λk hk hn=> ?_,λb z hb=> ?_⟩
     .  rw[World.putObj_size];have:=E3.size;omega
     .  rw[hLne k (by show k≠w.heap.size+1;omega),E3.block k (by omega) hn,hold k hk]
     .  rcases E3.nc b z hb with h|h
        .exact .inl h
        .exact .inr (by omega)
   have hW3:=S3.W.O3 (o:= .loop { r with state:= .exhausted }) h3l h3f;have:=hQ y hy { a with defers:=[mark w.heap.size]++a.defers } _ (ja.QA Lw.BC hcv ⟨A8,⟨hW3,h3F,hS.size,rfl⟩,k1,k2,E,?_,hx⟩)
   .rw[hcv.e]at this;exact this
   . obtain⟨hB,rs,h1,h2,h3⟩:=hJ;refine⟨Zc3 hB E.size,w.heap.size::rs,by show [mark w.heap.size]++a.defers=_;rw[h1];rfl,Zn4.2 ⟨λhm=> ?_,h2⟩,λk hk=> ?_⟩
     .  have:=Fp (h3 _ hm).2.1;omega
     .  rcases Za5.1 hk with rfl|hk
        .exact⟨hB,(hLne _ (by show w.heap.size≠w.heap.size+1;omega)).trans h3d,h3g⟩
        .obtain⟨g0,g1,g2⟩:=h3 k hk;obtain⟨f1,f2⟩:=CP E (Fp g1) g2;exact⟨g0,f2.trans g1,f1⟩
 cases e with
 |exit i=>cases h2
 |normal=>exact⟨h3D,_,adR,fin (Zf9 h2).symm⟩
 |ret=>exact⟨h3D,_,adR,fin (Zf9 h2).symm⟩
end
def vQ:AV->Bool
 |.bool _=>true
 |.int _ _=>true
 |_=>false
def UJ(acc:Option AV)(v:AV):Bool:=match acc with
 |none=>true
 |some u=>fC u v
def Ni (rs:List AP)(st:St):List XO->Option AV->Option AV
 |[],acc=>acc
 |  (e, bN,aN)::l,acc=>match e with
    |.exit _=>none
    | _ =>match cu (λb=>kX b aN.heap) bN rs with
      | some vs=>match vs.all vQ&&T.sub Fg st.heap aN.heap&&UJ acc (fR vs)with
        |true=>Ni rs st l (some (fR vs))
        |false=>none
      |none=>none
def mfn (ex:Fr->St->XS)(np:Nat)(rs:List AP)(args:List AV)(st:St):Option (AV×St):=match Nat.beq args.length np with
 |  true=>Af args 0 .e λfr=>match ex fr st with
    |some outs=>match outs with
     |  [(e,bN,aN)]=>match e with
        |.exit _=>none
        | _=>match cu (λb=>kX b aN.heap) bN rs,Nat.ble st.next.toNat aN.next.toNat with
          |some vs,true=>some (fR vs,aN)
          |_,_=>none
     |  _=>match Ni rs st outs none with
        |some v=>some (v,st)
        |none=>none
    |none=>none
 |false=>none
theorem aj.flat{ρ ρ':Pos->Loc}{n n':Nat}{C:Cells}{v:AV}{x:Value}(hf:vQ v=true)(h:aj ρ n C v x):aj ρ' n' C v x:=by
 cases v<;>first|(cases hf;done)|skip
 .have:=h.fS;subst this;exact .bool _
 .have:=h.gP;subst this;exact .int _ _
theorem aj.agd{ρ ρ':Pos->Loc}{n n':Nat}{C:Cells}{vs:List AV}{x:Value}(hf:vs.all vQ=true)(h:aj ρ n C (fR vs) x):aj ρ' n' C (fR vs) x:=by
 have tup:∀{x},aj ρ n C (.tuple vs) x->aj ρ' n' C (.tuple vs) x:=λ{x} h=>by
   cases h with
   |tuple l cs hl hh=>exact .tuple _ cs hl λi v v' hv zQ=>(hh i v v' hv zQ).flat (Zd6.1 hf v (Zc1 hv))
 unfold fR at h ⊢;split at h
 .exact h.flat (Zd6.1 hf _ (by simp))
 .exact tup h
theorem QF{rs:List AP}{st:St}{v:AV}:∀{l:List XO}{acc:Option AV},Ni rs st l acc=some v->(∀u,acc=some u->u=v)/\∀o∈l,(∀i,o.1≠ .exit i)/\∃vs,cu (λb=>kX b o.2.2.heap) o.2.1 rs=some vs/\v=fR vs/\vs.all vQ=true/\∀p u,st.heap.get p=some u->o.2.2.heap.get p=some u
 |[],acc,h=>by
  simp only[Ni]at h;subst h;exact⟨λu h=>(Zf9 h).symm,λo ho=>by cases ho⟩
 |(e,   bN,aN)::l,acc,h=>by
  unfold Ni at h
  have key:∀vs,(cu (λb=>kX b aN.heap) bN rs=some vs)->(vs.all vQ&&T.sub Fg st.heap aN.heap&&UJ acc (fR vs))=true->Ni rs st l (some (fR vs))=some v->(∀i,e≠ .exit i)->
        (∀u,acc=some u->u=v)/\∀o∈(e,bN,aN)::l,(∀i,o.1≠ .exit i)/\∃vs,cu (λb=>kX b o.2.2.heap) o.2.1 rs=some vs/\v=fR vs/\vs.all vQ=true/\∀p u,st.heap.get p=some u->o.2.2.heap.get p=some u:=by
    intro vs gU hb hr he;simp only[Za6]at hb;obtain⟨h1,h2⟩:=QF hr;have hv:=h1 _ rfl;refine⟨λu hu=> ?_,λo ho=> ?_⟩
    .   subst hu;rw[<-hv];exact pL hb.2
    .   rcases Za5.1 ho with rfl|ho
        .exact⟨he,vs,gU,hv.symm,hb.1.1,T.Ap (λ_ _=>OO) hb.1.2⟩
        .exact h2 o ho
  cases e with
  |exit i=>cases h
  | normal=>
    dsimp only at h;(split at h<;>first|(cases h;done)|skip);rename_i vs gU;cases hb:(vs.all vQ&&T.sub Fg st.heap aN.heap&&UJ acc (fR vs))with
    |false=>rw[hb]at h;cases h
    |true=>rw[hb]at h;exact key vs gU hb h (λi=>by simp)
  | ret=>
    dsimp only at h;(split at h<;>first|(cases h;done)|skip);rename_i vs gU;cases hb:(vs.all vQ&&T.sub Fg st.heap aN.heap&&UJ acc (fR vs))with
    |false=>rw[hb]at h;cases h
    |true=>rw[hb]at h;exact key vs gU hb h (λi=>by simp)
theorem V9{ex:Fr->St->XS}{np:Nat}{rs:List AP}{args:List AV}{st st':St}{v:AV}(h:mfn ex np rs args st=some (v,st')):args.length=np/\st.next.toNat<=st'.next.toNat/\∃outs,ex (params 0 args .e) st=some outs/\
   ∀o∈outs,(∀i,o.1≠ .exit i)/\∃vs,cu (λb=>kX b o.2.2.heap) o.2.1 rs=some vs/\v=fR vs/\(st'=o.2.2\/(st'=st/\vs.all vQ=true/\∀p u,st.heap.get p=some u->o.2.2.heap.get p=some u)):=by
 unfold mfn at h;split at h<;>first|(cases h;done)|skip
 rename_i hlen;rw[Cu]at h;split at h<;>first|(cases h;done)|skip
 rename_i outs ho;refine⟨H3 hlen,?_⟩;split at h
 . rename_i e bN aN
   have key:∀vs,cu (λb=>kX b aN.heap) bN rs=some vs->Nat.ble st.next.toNat aN.next.toNat=true->some (fR vs,aN)=some (v,st')->(∀i,e≠ .exit i)->
        st.next.toNat<=st'.next.toNat/\∃outs,ex (params 0 args .e) st=some outs/\∀o∈outs,(∀i,o.1≠ .exit i)/\∃vs,cu (λb=>kX b o.2.2.heap) o.2.1 rs=some vs/\v=fR vs/\(st'=o.2.2\/(st'=st/\vs.all vQ=true/\∀p u,st.heap.get p=some u->o.2.2.heap.get p=some u)):=by
    intro vs gU hn he aR;simp only[H0,Za9]at he;obtain⟨rfl,rfl⟩:=he;refine⟨Za0 hn,_,ho,λo V8=> ?_⟩;have:=Zc7.1 V8;subst this;exact⟨aR,vs,gU,rfl,.inl rfl⟩
   cases e with
   |exit i=>cases h
   |normal=>
    dsimp only at h;(split at h<;>first|(cases h;done)|skip);rename_i vs gU hn;exact key vs gU hn h (λi=>by simp)
   |ret=>
    dsimp only at h;(split at h<;>first|(cases h;done)|skip);rename_i vs gU hn;exact key vs gU hn h (λi=>by simp)
 . (split at h<;>first|(cases h;done)|skip);rename_i u hu;simp only[H0,Za9]at h;obtain⟨rfl,rfl⟩:=h;refine⟨Za3 _,_,ho,λo V8=> ?_⟩;obtain⟨h1,vs,h2,h3,h4,h5⟩:=(QF hu).2 o V8;exact⟨h1,vs,h2,h3,.inr ⟨rfl,h4,h5⟩⟩
section
variable{P:Program}{tt:TT}{C:Cells}
theorem Ly{fn:Func}{tmps:Array Value}{R:Ending->World->Prop}{ρ:Pos->Loc}{st:St}:∀(rs:List Nat)(w:World),rs.Nodup->(∀r∈rs,w.heap[r]? =some (.deferred (some []))/\∀b x,st.heap.get b=some x->(ρ b).ay≠r)->aT ρ C st w->
  (∀w2,aT ρ C st w2->w2.heap.size=w.heap.size->(∀k,k∉rs->w2.heap[k]? =w.heap[k]?)->w2.os=w.os->w2.tape=w.tape->w2.output=w.output->∃v,(results fn tmps).run P w2= .ok v w2/\R (.returned v) w2)->
  LeavesInM (Fc none) 0 P fn tmps R (rs.map mark) .returning w
 |[],w,_,_,hW,h=>h w hW rfl (λ_ _=>rfl) rfl rfl rfl
 |r ::rs,w,EL,hr,hW,h=>by
  obtain⟨h1,h2⟩:=Zn4.1 EL;obtain⟨g1,g2⟩:=hr r (Zc4 ..);refine⟨by simp,.inl ⟨r,_,rfl,run_takeDeferred g1,?_⟩⟩;refine Ly rs _ h2 (λk hk=> ?_) (hW.acI g1 g2) λw2 GZ hs hk ho ht Rz=> ?_
  .obtain⟨f1,f2⟩:=hr k (Za4 _ hk);exact⟨by rw[World.putObj_heap_other (λe=>h1 (by subst e;exact hk))];exact f1,f2⟩
  .refine h w2 GZ (by rw[hs,World.putObj_size]) (λk jX=> ?_) ho ht Rz;rw[hk k (λhm=>jX (Za4 _ hm)),World.putObj_heap_other (λe=>jX (by subst e;exact Zc4 ..))]
theorem aff(hT:bM P tt){f np:Nat}{fn:Func}{c:Code}{ex:Fr->St->XS}{rs:List AP}(hf:P.funcs[f]? =some fn)(ia:(fn.name== "runtime.NumGoroutine")=false)(hb:fn.body=some c)
  (hx:∀B,cR P C none (Lw B) (λ_=>False) #[] fn.ntmps c ex) (hr:kU tt fn.results.toList=some rs) (hle:np<=fn.ntmps):lW P C f (mfn ex np rs) where
 mono args st v st' h:=(V9 h).2.1
 runs ρ st w args v st' bC h hW pn:=by
  obtain⟨hlen,hn,outs,ho,bW⟩:=V9 h;have bU:(callFunc f bC.toArray).run P w= .ok (.enter f bC.toArray) w:=by
   have Dg:¬fn.name= "runtime.NumGoroutine" :=(by simpa using ia);simp[callFunc,hf,Dg,hb]
  rw[bU];simp only[Reaches];refine callsIn_wide (n:=0) |>.1 (callsIn_of_wp_marks hf hb trivial ?_);have eF:bC.length<=fn.ntmps:=by rw[<-pn.1,hlen];exact hle
  have hS:lX fn.ntmps ρ C (params 0 args .e) st { tmps:=bC.toArray++Array.replicate (fn.ntmps - bC.toArray.size) undef,defers:=[] } w:=by
   refine⟨hW,?_,?_,rfl⟩
   .    refine yx args bC 0 .e pn (λj x hx=> ?_) (λp v hp=>by rw[T.dh]at hp;cases hp);have hj:j<bC.length:=(H5.1 hx).1;rw[Zb6,Zg5 (by simpa using hj)];simpa using hx
   .    simp;omega
  show c.wpIn (Fc none) 0 P _ _ w;refine hx w.heap.size _ st outs ρ _ w _ ho hS ⟨Za3 _,[],rfl,List.nodup_nil,λ_ h=>by cases h⟩ (λ_ h=>h.elim) λo V8 a' w' hp=> ?_
  obtain⟨dB,S1,k1,k2,E,⟨hB,ks,hD,EL,BX⟩,_⟩:=hp;obtain⟨aR,vs,gU,hv,oX⟩:=bW o V8;simp only[tQ]at gU;have key:LeavesInM (Fc none) 0 P fn a'.tmps (λ|.returned v',w''=>k8 ρ C st w v st' v' w''|_,_=>False) a'.defers .returning w':=by
   (rw[hD];(refine Ly ks w' EL (λr hr=>(BX r hr).2) S1.W λw2 GZ hs BV C9 ht Rz=> ?_);obtain⟨y,BU,C0⟩:=qz hT GZ S1.F hr gU;refine⟨y,BU,?_⟩;have uG:∀k,k<w.heap.size->w2.heap[k]? =w'.heap[k]? :=λk aK=>BV k λhm=>by have:=(BX k hm).1;omega);rcases oX with rfl|⟨rfl,Vd,Zs⟩
   .    rw[hv];exact⟨dB,C0,k1,k2,GZ,⟨C9.trans E.os,ht.trans E.tape,Rz.trans E.output,by rw[hs];exact E.size,λk hk hn=>(uG k hk).trans (E.block k hk hn),E.nc⟩⟩
   .    rw[hv];refine⟨ρ,C0.agd Vd,λ_ _=>rfl,Za3 _,hW.back Zs k1 GZ (by rw[hs];exact E.size),⟨C9.trans E.os,ht.trans E.tape,Rz.trans E.output,by rw[hs];exact E.size,λk hk hn=>(uG k hk).trans (E.block k hk hn),λb x hb=>.inl ⟨b,x,hb,rfl⟩⟩⟩
  obtain⟨e,bN,aN⟩:=o;cases e with
  |exit i=>exact(aR i rfl).elim
  |normal=>exact key
  |ret=>exact key
def adS(P:Program)(tt:TT)(aX:ic XR)(m:Nat)(nt:Nat)(Tr:List AV->St->Option (List St))(c:Code):Option (Fr->St->XS):=match acJ tt nt c with
 |some y=>some (acK aX Tr y)
 |  none=>match O4 c with
    |true=>none
    |false=>AM P tt aX m [] nt c
def UK(P:Program)(tt:TT)(aX:ic XR)(m:Nat)(kp:List Nat)(nt gf:Nat)(kK:Func):Code->Option (Fr->St->XS)
 |  .rangeFunc g ps a b=>match jV g,kK.body with
    |some og,some gc=>match (pI gc).all (λt=> !Nat.beq t 0)&&ps.toList.all (λp=>Nat.blt p nt)&&kK.results.isEmpty with
     |true=>some (rfS gf kK.ntmps (λsu=>xz (adS P tt aX m kK.ntmps (ZN ps.toList (Lv (xz (AM P tt aX m kp nt) m a) (xz (AM P tt aX m kp nt) m b)) su)) m gc) og)
     |false=>none
    |_,_=>none
 |c=>AM P tt aX m kp nt c
def Y8(P:Program)(tt:TT)(O:dS)(G:T cw)(m d:Nat)(kp:List Nat)(gf:Nat)(kK fn:Func):List AV->St->Option (AV×St):=
 match fn.body,kU tt fn.results.toList,Nat.ble (fn.params.size+fn.nfree) fn.ntmps with
 |some c,some rs,true=>mfn (xz (UK P tt (EN none O G m d) m kp fn.ntmps gf kK) m c) (fn.params.size+fn.nfree) rs
 |_,_,_=>λ_ _=>none
theorem acM{aX:ic XR}{call:ah}{m nt gf B:Nat}{kp:List Nat}{kK:Func}(hT:bM P tt)(hc:CK none aX call)(bH:eE P C call)(fh:qy P tt C call)(hf:P.funcs[gf]? =some kK)(ia:(kK.name== "runtime.NumGoroutine")=false)
   {c:Code} {f:Fr->St->XS} (h:UK P tt aX m kp nt gf kK c=some f):cR P C none (Lw B) (λ_=>False) #[] nt c f:=by
 have hR:∀{c f},AM P tt aX m kp nt c=some f->cR P C none (Lw B) (λ_=>False) #[] nt c f:=λh=>O0 hT hc bH fh Lw.stays (λ_ _ h=>h) h
 unfold UK at h;split at h
 . rename_i g ps a b;(split at h<;>first|(cases h;done)|skip);rename_i og gc hg hgb;(split at h<;>first|(cases h;done)|skip);rename_i JR;simp only[H0]at h;subst h;simp only[Za6]at JR;obtain⟨⟨c1,c2⟩,c3⟩:=JR;have hd0:∀t∈pI gc,¬(λt=>t=0) t:=λt ht e=>by have:=Zd6.1 c1 t ht;subst e;simp at this
   (refine cR.rf hf ia hgb (by simpa using c3) hg λL D0 r su x hr hp X6 ha hb hs hx0=> ?_);have rd:∀c,cR P C (some L) N5 (λ_=>False) #[] nt c (xz (AM P tt aX m kp nt) m c):=λc=>cR.sp N5.BC c (λ_ _ h=>h) λc f _ h=>O0 hT hc bH fh N5.stays (λ_ _ h=>h) h
   have acL:ZO P C L D0 r su (ZN ps.toList (Lv (xz (AM P tt aX m kp nt) m a) (xz (AM P tt aX m kp nt) m b)) su):=afc (by rw[X6]) hr hp hs (λp hp'=>by
     have:=Zd6.1 c2 p hp';simpa using this) (by rw[ha];exact rd a) (by rw[hb];exact rd b)
   (refine cR.sp Hf.BC gc hd0 λc f cU h=> ?_);unfold adS at h;split at h
   .rename_i y hy;simp only[H0]at h;subst h;exact cR.yld hT hc bH hx0 acL hy cU
   . (split at h<;>first|(cases h;done)|skip);exact O0 hT hc bH fh Hf.stays cU h
 .exact hR h
theorem abK(hm:P.follows .mixedOrders=true)(hT:bM P tt){O:dS}{G:T cw}(hO:pg P C O)(K8:jQ O)(hG:Pu P tt G){f gf m d:Nat}{kp:List Nat}{fn kK:Func}(hf:P.funcs[f]? =some fn)
   (ia:(fn.name== "runtime.NumGoroutine")=false) (hgf:P.funcs[gf]? =some kK) (UP:(kK.name== "runtime.NumGoroutine")=false):lW P C f (Y8 P tt O G m d kp gf kK fn):=by
 have bH:=HW (C:=C) hm hT hO K8 hG m d;have Lq:=It (G:=G) K8 m d
 have key:∀c rs,fn.body=some c->kU tt fn.results.toList=some rs->Nat.ble (fn.params.size+fn.nfree) fn.ntmps=true->
    lW P C f (mfn (xz (UK P tt (EN none O G m d) m kp fn.ntmps gf kK) m c) (fn.params.size+fn.nfree) rs):=λc rs hb hr hle=>
   aff hT hf ia hb (λB=>cR.sp Lw.BC c (λ_ _ h=>h) λc f _ h=>acM hT (IF none O G m d) bH (IA hm hT bH Lq) hgf UP h) hr (Za0 hle)
 unfold Y8;split
 .exact key _ _ (by assumption) (by assumption) (by assumption)
 .exact⟨λ_ _ _ _ h=>(by cases h),λ_ _ _ _ _ _ _ h=>(by cases h)⟩
end
end
section
open Go
def Pv:List AV->St->Option (AV×St)
 |[v],st=>some (v,st)
 |_,_=>none
theorem aaj{P:Program}{C:Cells}{f:FuncId}{fn:Func}(hf:P.funcs[f]? =some fn)(ia:(fn.name== "runtime.NumGoroutine")=false)(hb:fn.body.isNone=true)(hx:Extern.findNext fn=none)
  (he:Extern.find fn=some Extern.AbiNoEscape.same):lW P C f Pv where
 mono args st v st' h:=by unfold Pv at h;split at h<;>cases h;exact Za3 _
 runs ρ st w args v st' bC h hW hv:=by
  unfold Pv at h;split at h<;>cases h;obtain⟨x,xs,rfl,h1,h2⟩:=hv.cons_inv;have:=h2.mF;subst this;have bU:(callFunc f [x].toArray).run P w= .ok (.value x) w:=by rw[run_callFunc_extern hf ia hb hx he];show((Extern.AbiNoEscape.same #[x]).run P w).andThen _=_;have:Extern.AbiNoEscape.same #[x]=pure x:=rfl;rw[this];rfl
  rw[bU];exact⟨ρ,h1,λ_ _=>rfl,Za3 _,hW,jr.refl _ _ _⟩
theorem US{P:Program}{tt:TT}{O:dS}{G:T cw}{m d f:Nat}{fn:Func}{c:Code}(hm:P.follows .mixedOrders=true)(hT:bM P tt)(hG:Pu P tt G)
  (hO:pg P (λ_=>none) O) (K8:jQ O) (hf:P.funcs[f]? =some fn) (ia:¬fn.name= "runtime.NumGoroutine") (hb:fn.body=some c) {b:Bool}
  (h:EN (R:=Bool) false O G m d f [] { heap:= .e,next:= .h } (λv _=>fC v (.bool b))=true) (w:World):
  Calls P f #[] w λe w'=>e= .returned (.bool b)/\Go.RowKit.Below w.heap.size w w':=by
 rw[IF false O G m d]at h;unfold nk at h;split at h<;>first|(cases h;done)|skip
 rename_i x hx;obtain⟨v,aN⟩:=x;have hv:=pL h;simp only at hv;subst hv;have hr:=HW hm hT hO K8 hG m d (λ_=>⟨0,0,0⟩) { heap:= .e,next:= .h } w f [] (.bool b) aN [] hx (AW (λ_ _ h=>by cases h) (λ_ _ h=>by cases h)) av.nil;have bU:(callFunc f ([]:List Value).toArray).run P w= .ok (.enter f #[]) w:=by simp[callFunc,hf,ia,hb]
 rw[bU]at hr;refine Calls.mono hr λe w' he=> ?_
 cases e with
 |returned x=>
  obtain⟨ρ',h1,_,_,_,hE⟩:=he;have:=h1.fS;subst this;exact⟨rfl,hE.os,hE.tape,hE.output,hE.size,λk hk=>hE.block k hk λb x hb=>by rw[T.dh]at hb;cases hb⟩
 |panicked c=>exact he.elim
 |outgrown=>exact he.elim
def GK:Nat->AV->Bool
 |_,.bool _=>true
 |_,.int _ _=>true
 |_,.str _=>true
 |_,.aq=>true
 |n+1,.agg l=>l.all (GK n)
 |n+1,.tuple l=>l.all (GK n)
 |n+1,.fl xs _=>xs.all λr=>r.all (GK n)
 |_,_=>false
theorem Fq:∀(n:Nat){v:AV},GK n v=true->Plain v
 |0,v,h=>by cases v<;>first|(cases h;done)|exact .bool _|exact .int _ _|exact .str _|exact .aq
 |n+1,v,h=>by
  cases v<;>first|(cases h;done)|exact .bool _|exact .int _ _|exact .str _|exact .aq|skip
  .exact .fl λcs hc v hv=>Fq n (Zd6.1 (Zd6.1 h cs hc) v hv)
  .exact .agg λv hv=>Fq n (Zd6.1 h v hv)
  .exact .tuple λv hv=>Fq n (Zd6.1 h v hv)
theorem Plain.all{n:Nat}{l:List AV}(h:l.all (GK n)=true):∀v∈l,Plain v:=λv hv=>Fq n (Zd6.1 h v hv)
theorem aam{l:List AV}(h:l.all vQ=true):bY (.tuple l):= .tuple λv hv=>by have:=Zd6.1 h v hv;cases v<;>first|(cases this;done)|exact .bool _|exact .int _ _
def Ou(d:Nat)(A:List AV)(r:AV):List AV->St->Option (AV×St):=λargs st=>match AX (args.map (cJ st d)) A with
 |true=>some (r,st)
 |false=>none
theorem aal{P:Program}{C:Cells}{O:dS}{G:T cw}{m n f d:Nat}{A:List AV}{r:AV}(bH:∀C:Cells,eE P C (pE O G m n))(ha:∀a∈A,Plain a)(hr:Plain r)(hb:bY r)
  (h:EN (R:=Bool) false O G m n f A { heap:= .e,next:= .h } (λv _=>fC v r)=true):lW P C f (Ou d A r):=by
 have h1:=aa1 (C:=C) (d:=d) (As:=[A]) bH (λB hB=>by rw[Zc7.1 hB];exact ha) hr hb (by simpa using h);have key:∀args st x,Ou d A r args st=some x->RJ d [A] r args st=some x:=λargs st x hx=>by
  unfold Ou at hx;split at hx<;>first|(cases hx;done)|skip
  rename_i hq;simp only[H0]at hx;subst hx;exact aei A (Zc7.2 rfl) (Ff hq)
 exact⟨λargs st v st' hs=>h1.mono args st v st' (key _ _ _ hs),λρ st w args v st' bC hs=>h1.runs ρ st w args v st' bC (key _ _ _ hs)⟩
end
end Go.Ai
