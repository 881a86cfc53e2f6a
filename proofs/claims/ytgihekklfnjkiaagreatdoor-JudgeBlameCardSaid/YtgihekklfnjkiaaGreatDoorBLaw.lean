/- The law. -/
import Derived.Test.YtgihekklfnjkiaaGreatDoorBJudgeB
import Derived.Shelf.Sort.Plain
import Derived.Shelf.Slices.CompactI
import Derived.Shelf.Slices.In.SortNone
import Derived.Test.YtgihekklfnjkiaaGreatDoorRows
import Derived.Deep.DeepHandedRow
set_option linter.all false
set_option maxRecDepth 100000
set_option maxHeartbeats 1000000
namespace Go.Proofs.YtgihekklfnjkiaaGreatDoor
section
open Go Go.Ai Go.Proofs
variable{c:aj}
def mQ(l:List Ev):List Int:=l.flatMap λe=>e.2
theorem aqm(l m:List Ev):mQ (l++m)=mQ l++mQ m:=by unfold mQ;rw[List.flatMap_append]
theorem adC:∀l:List Ev,(mQ l).length<=fu l
 |[]=>Za3 _
 |e::l=>by have:=adC l;show _<=(List.map _ (e::l)).sum;rw[Zd3,Zm2,mQ,Zm5,Zd8];unfold mQ fu at this;omega
theorem aa0(w:List Int):(w.map bJ).flatten=qe w:=by
 induction w with
 |nil=>rfl
 |cons a w ih=>rw[Zd3,Zf8,ih];rfl
theorem asM(w:List Int):aN (qe w)=true:=by
 induction w with
 |nil=>rfl
 |cons a w ih=>rw[qe,Zd3];unfold aN;exact ih
theorem asN{a b:List Int}(h:qe a=qe b):a=b:=by
 induction a generalizing b with
 |nil=>cases b with|nil=>rfl|cons y b=>simp at h
 |cons x a ih=>
  cases b with
  |nil=>simp at h
  |cons y b=>
   simp only[Zd3,Zf9,AV.int.injEq,Zr1]at h;rw[h.1,ih h.2]
def Ia(s:St)(v:AV)(w:List Int):Prop:=(v= .af/\w=[])\/∃b,w≠[]/\v= .slice b 0 w.length none 1/\s.heap.get b=some (.cells (qe w) 0)
theorem Ia.qs{s:St}{v:AV}{w:List Int}(h:Ia s v w):QS 1 s v (w.map bJ):=by
 rcases h with⟨rfl,rfl⟩|⟨b,_,rfl,hb⟩
 .exact QS.nil
 .refine .inr (.inl ⟨b,0,none,qe w,by rw[Za5],hb,by simp,?_,.inl rfl⟩);rw[aa0,Ze6];exact Ze9 (by simp)
theorem Ia.mono{s s':St}{v:AV}{w:List Int}(h:Ia s v w)(hk:∀b x,aK v=some b->s.heap.get b=some x->s'.heap.get b=some x):Ia s' v w:=by
 rcases h with h|⟨b,a1,rfl,hb⟩
 .exact .inl h
 .exact .inr ⟨b,a1,rfl,hk b _ (iP ..) hb⟩
theorem asO{s:St}{v W:AV}{w who:List Int}(hw:Wf s)(h:Ia s v w)(hW:QS 1 s W (who.map bJ))(hB:w.length+who.length<=1000000):
   ∃s5 v',(∀(K:AV->St->Option (AV×St)),aq c (.append 1 8) [v,W] s K=K v' s5)/\Ia s5 v' (w++who)/\Wf s5/\s.next.toNat<=s5.next.toNat/\
    (∀p x,aK v≠some p->s.heap.get p=some x->s5.heap.get p=some x)/\∀b,aK v'=some b->aK v=some b\/s.next.toNat<=b.toNat:=by
 have hl:=hW.len;rw[Za5]at hl;have fx:=hW.first (λr hr=>by obtain⟨x,_,rfl⟩:=Zc6.1 hr;rfl);rw[aa0,Za5]at fx;by_cases h0:who=[]
 . subst h0;rw[Ze1];refine⟨s,v,λK=> ?_,h,hw,Za3 _,λp x _ hx=>hx,λb hb=>.inl hb⟩;have run:aE.run (λb=>s.heap.get b) s.next (.append 1 8) [v,W]=some (.val v):=by
    rcases h with⟨rfl,rfl⟩|⟨b,cN,rfl,hb⟩
    .   simp only[aE.run,ic];rw[show dR .af=some 0 from rfl,hl];rfl
    .   simp only[aE.run,ic];have h1:(2*(w.length+0)+768)*8<=281474976710656:=(by simp at hB;omega);have h2:w.length+0<=9223372036854775807:=(by simp at hB;omega);rw[show dR (.slice b 0 w.length none 1)=some w.length from rfl,hl];simp only[Zi6,cM,cK,Za0 h1,Za0 h2,Zg6]
   unfold aq cC;rw[run]
 have hp:0<who.length:=Zq1.2 h0;have hm:¬who.length=0:=by omega
 rcases h with⟨rfl,rfl⟩|⟨b,cN,rfl,hb⟩
 . rw[Ze0];have h1:(2*(0+who.length)+768)*8<=281474976710656:=(by simp at hB;omega);have h2:0+who.length<=9223372036854775807:=(by simp at hB;omega);refine⟨ah s (.cells (qe who) 0),.slice s.next 0 who.length none 1,λK=> ?_,.inr ⟨s.next,h0,rfl,aA _ _⟩,bF hw,by rw[bN,Pos.aD];omega,λp x _ hx=>by rw[tH (hw _ _ hx)];exact hx,λb hb=>by rw[iP]at hb;cases hb;exact .inr (Za3 _)⟩;have run:aE.run (λb=>s.heap.get b) s.next (.append 1 8) [.af,W]=some (.bh (.slice s.next 0 who.length none 1) none none (some (.cells (qe who) 0))):=by
    simp only[aE.run,ic];rw[show dR .af=some 0 from rfl,hl];simp only[cM,cK,Za0 h1,Za0 h2,Za2 hm,fx]
   unfold aq cC;rw[run];rfl
 . have h1:(2*(w.length+who.length)+768)*8<=281474976710656:=(by omega);have h2:w.length+who.length<=9223372036854775807:=(by omega);have hn:¬w.length*1=0:=(by have:=Zq1.2 cN;omega);have fw:cX 1 w.length (λb=>s.heap.get b) (.slice b 0 w.length none 1)=some (qe w):=by
    simp only[cX,cK,Za2 hn,hb];exact cQ (by simp)
   refine⟨dst s b (.cells (qe (w++who)) 0),.slice s.next 0 (w++who).length none 1,λK=> ?_,.inr ⟨s.next,by simp[h0],rfl,Yk _ _ _⟩,agT hw,by show _<=s.next.succ.toNat;rw[Pos.aD];omega,λp x hp hx=>by
    rw[RE (λe=>hp (by rw[e,iP])) (hw _ _ hx)];exact hx,λb hb=>by rw[iP]at hb;cases hb;exact .inr (Za3 _)⟩
   have run:aE.run (λb=>s.heap.get b) s.next (.append 1 8) [.slice b 0 w.length none 1,W]=some (.bh (.slice s.next 0 (w.length+who.length) none 1) (some b) none (some (.cells (qe w++qe who) 0))):=(by simp only[aE.run,ic];rw[show dR (.slice b 0 w.length none 1)=some w.length from rfl,hl];simp only[cM,cK,Za0 h1,Za0 h2,Za2 hm,hb,fw,fx,asM];simp);unfold aq cC;have ea:qe (w++who)=qe w++qe who:=Zc8;rw[run,Zd8,ea];rfl
def BI(s0:St)(nb:Pos)(s:St)(l:List Ev):Prop:=Grew s0 s/\∃v,s.heap.get nb=some (.cells [v] 0)/\Ia s v (mQ l)/\∀b,aK v=some b->s0.next.toNat<=b.toNat/\b≠nb
def BM(nb:Pos)(s:St)(b:Pos):Prop:=b=nb\/∃v,s.heap.get nb=some (.cells [v] 0)/\aK v=some b
theorem ahw{s:St}{v:AV}{w:List Int}(h:Ia s v w):v.cells=[v]/\AV.one v=true/\aN [v]=true:=by
 rcases h with⟨rfl,_⟩|⟨b,_,rfl,_⟩<;>exact⟨rfl,rfl,rfl⟩
theorem anG(hc:bH c){s s5:St}{nb:Pos}{v v' W:AV}{k:Int}(hv:s.heap.get nb=some (.cells [v] 0))(ha:∀(K:AV->St->Option (AV×St)),aq c (.append 1 8) [v,W] s K=K v' s5)
  (h5:s5.heap.get nb=some (.cells [v] 0)) (h1:v'.cells=[v']) (h2:aN [v']=true):
  c 38 [.int .i64 k,W,.ptr nb 0] s=some (Go.Ai.tidy s (.tuple [],bg s5 nb (.cells [v'] 0))):=by
 refine Oa hc 1 ?_;have st:=bY c (λ(_:AV)(s:St)=>some (AV.tuple [],s)) s5 1 nb 0 v' [v] h5 (by rw[h1];rfl) (Za3 _) (by rw[h1];exact h2);rw[Sn];simp only[aY,hv,aG,Zb1,Za4,aW,az,ha];rw[st,h1];rfl
theorem BI.back{s0 s s':St}{nb:Pos}{l l':List Ev}(h:BI s0 nb s l)(h':BI s0 nb s' l')(hk:aX s s'):BI s0 nb s l':=by
 obtain⟨v,a1,a2,a3⟩:=h.2;obtain⟨v',b1,b2,b3⟩:=h'.2;have e1:=hk nb _ a1;rw[b1]at e1;simp only[H5,AB.cells.injEq,Zf9,Zn5]at e1;subst e1;have e:mQ l'=mQ l:=by
  rcases a2 with⟨rfl,e⟩|⟨b,e,rfl,hb⟩
  . rcases b2 with⟨_,e'⟩|⟨b,_,e',_⟩
    .   rw[e,e']
    .   cases e'
  . rcases b2 with⟨e',_⟩|⟨b',_,e',dO⟩
    .   cases e'
    .   (injection e' with e2);subst e2;have e3:=hk b _ hb;rw[dO]at e3;simp only[H5,AB.cells.injEq,Zn5]at e3;exact asN e3
 exact⟨h.1,_,a1,by rw[e];exact a2,a3⟩
theorem anH(hc:bH c){s0:St}(w0:Wf s0){nb:Pos}(hnb:s0.next.toNat<=nb.toNat):ki c (.func 38 [] [.ptr nb 0]) s0 (BI s0 nb) (BM nb) where
 ai h:=h.1
 grow h g:=⟨h.1.trans g,by obtain⟨v,a1,a2,a3⟩:=h.2;exact⟨v,g.get a1,a2.mono λb x _ hx=>g.get hx,a3⟩⟩
 l9 {s s' l b} h g hm:=by
  obtain⟨v,a1,a2,a3⟩:=h.2;rcases hm with rfl|⟨v',b1,b2⟩
  .exact .inl rfl
  .rw[g.get a1]at b1;cases b1;exact .inr ⟨v,a1,b2⟩
 mlt {s l b} h hm:=by
  obtain⟨v,a1,a2,_⟩:=h.2;rcases hm with rfl|⟨v',b1,b2⟩
  .exact h.1.wf _ _ a1
  .rw[a1]at b1;cases b1;exact a2.qs.lt h.1.wf b2
 back h h' hk:=h.back h' hk
 call { s l k W who} h hW hB:=by
  obtain⟨v,a1,a2,a3⟩:=h.2;have hl:=adC l;obtain⟨s5,v',z1,z2,z3,z4,z5,z6⟩:=asO (c:=c) h.1.wf a2 hW (by omega);have cN:aK v≠some nb:=λe=>(a3 _ e).2 rfl
  have h5:=z5 nb _ cN a1;have f1:=anG hc (k:=(k:Int)) a1 z1 h5 (ahw z2).1 (ahw z2).2.2;have aV:=z3 _ _ h5;have ak3:=h.1.wf _ _ a1;have OY:=h.1.next;have ew:mQ (l++[(k,who)])=mQ l++who:=by rw[aqm];simp[mQ]
  have G5:Grew s0 s5:=⟨z3,λb x hb=>z5 b x (λe=>by have h1:=(a3 _ e).1;have h2:=w0 _ _ hb;omega) (h.1.get hb),Zb3 OY z4⟩
  have B':BI s0 nb (bg s5 nb (.cells [v'] 0)) (l++[(k,who)]):=⟨vF w0 G5 hnb aV _,v',bG _ _ _,by
    rw[   ew];exact z2.mono λb x hb hx=>by
        rw[aH (λe=>by
          subst e;rcases z6 _ hb with h6|h6
          .exact cN h6
          .omega)]
        exact hx,λb hb=>by
        rcases z6 _ hb with h6|h6
        .exact a3 b h6
        .exact⟨by omega,λe=>by subst e;omega⟩⟩
  have F':gK (BM nb) s (bg s5 nb (.cells [v'] 0)):=⟨z4,iG z3 aV,λb x hb hx=>by
    have kg:b≠nb:=λe=>hb (.inl e)
    have uv:aK v≠some b:=λe=>hb (.inr ⟨v,a1,e⟩)
    refine⟨by rw[aH (λe=>kg e.symm)];exact z5 b x uv hx,λhm=> ?_⟩;rcases hm with e|⟨u,e1,e2⟩
    .   exact kg e
    .   rw[bG]at e1;cases e1;rcases z6 _ e2 with h6|h6
        .exact uv h6
        .have:=h.1.wf _ _ hx;omega⟩
  unfold tidy at f1;split at f1
  .rename_i hk;exact⟨s,.tuple [],λK=>by rw[gI];simp only[Ze0,Zd7];rw[f1];rfl,h.back B' hk.2,gK.refl h.1.wf⟩
  .exact⟨_,.tuple [],λK=>by rw[gI];simp only[Ze0,Zd7];rw[f1];rfl,B',F'⟩
 one:=⟨rfl,rfl⟩
theorem alu(w:List Int):PW (qe w)=some w:=by
 induction w with
 |nil=>rfl
 |cons a w ih=>rw[qe,Zd3];unfold PW;rw[show List.map (AV.int .i64) w=qe w from rfl,ih]
theorem aeM{s:St}{b:Pos}{w:List Int}(h:s.heap.get b=some (.cells (qe w) 0))(hl:w.length<=1000000):rowOf s b 0 w.length=some (qe w,w):=by
 unfold rowOf;rw[h];have e:((qe w).drop 0).take w.length=qe w:=by rw[Ze6];exact Ze9 (by simp)
 simp only[e,alu,cK,cM,Zg6,Za0 hl,Zj5]
theorem alv(l vs:List AV)(h:vs.length=l.length):aQ l 0 vs=vs:=by
 unfold aQ;rw[Zm8,Ze0,Zb9,h,List.drop_length,Ze1]
theorem ahx(s:St)(b:Pos){w z:List Int}(h:z.length=w.length):laid s b (qe w) 0 z=bg s b (.cells (qe z) 0):=by unfold laid;rw[alv _ _ (by simp[h])];rfl
theorem aqn{s:St}{v:AV}{w:List Int}(hw:Wf s)(h:Ia s v w)(hl:w.length<=1000000):
   ∃s',Sq [v] s=some (.tuple [],s')/\Ia s' v (Bb w)/\Wf s'/\s'.next=s.next/\∀p,aK v≠some p->s'.heap.get p=s.heap.get p:=by
 rcases h with⟨rfl,rfl⟩|⟨b,cN,rfl,hb⟩
 .exact⟨s,rfl,.inl ⟨rfl,Zc0 (by rw[B6];rfl)⟩,hw,rfl,λ_ _=>rfl⟩
 . have aV:=hw _ _ hb;have hr:=aeM hb hl;refine⟨bg s b (.cells (qe (Bb w)) 0),?_,.inr ⟨b,λe=> ?_,by rw[B6],bG _ _ _⟩,iG hw aV,rfl,λp hp=>aH (λe=>hp (by rw[iP,e]))⟩
   . rw[<-ahx s b (B6 w)];cases w with
     |nil=>exact absurd rfl cN
     |  cons a t=>
        simp only[Sq,Zc9]at hr ⊢;rw[hr]
   .have:=B6 w;rw[e]at this;exact cN (Zc0 this.symm)
theorem ai1{s:St}{v:AV}{w:List Int}(hw:Wf s)(h:Ia s v w)(hl:w.length<=1000000):
   ∃s' v',Bs [v] s=some (v',s')/\QS 1 s' v' ((Lib.compact w).map bJ)/\((v'= .af/\Lib.compact w=[])\/∃b n,v'= .slice b 0 n none 1)/\Wf s'/\s'.next=s.next/\∀p,aK v≠some p->s'.heap.get p=s.heap.get p:=by
 have hcl:=Ob w;rcases h with⟨rfl,rfl⟩|⟨b,cN,rfl,hb⟩
 .exact⟨s,.af,rfl,QS.nil,.inl ⟨rfl,rfl⟩,hw,rfl,λ_ _=>rfl⟩
 . have aV:=hw _ _ hb;have hr:=aeM hb hl;have hz:(Lib.compact w++List.replicate (w.length - (Lib.compact w).length) 0).length=w.length:=(by rw[Zd8,Zk3];omega);refine⟨bg s b (.cells (qe (Lib.compact w++List.replicate (w.length - (Lib.compact w).length) 0)) 0),.slice b 0 (Lib.compact w).length none 1,?_,.inr (.inl ⟨b,0,none,_,by rw[Za5],bG _ _ _,?_,?_,.inl rfl⟩),.inr ⟨b,_,rfl⟩,iG hw aV,rfl,λp hp=>aH (λe=>hp (by rw[iP,e]))⟩
   . rw[<-ahx s b hz];cases w with
     |nil=>exact absurd rfl cN
     |  cons a t=>
        simp only[Bs,Zc9]at hr ⊢;rw[hr];rfl
   .rw[Za5,Za5,hz];omega
   .rw[aa0,Ze6,Za5,Zn8,qe,Zc8,Zk7 (by simp),Ze9 (by simp)]
section
variable{s:St}{jb:Pos}{j:Jc}{J:Jt}{P:AV}{q:List Int}
theorem aqo(hc:bH c)(O:OkJ J)(jw:JW s jb j J)(w0:Wf s)(pq:QS 1 s P (q.map bJ))(hq:PO J q){i:Nat}{r:Rl}(hi:J.p.rs[i]? =some r):
   ∃(g:List Int) (s':St) (v:AV) (bl:List Int),xR J.N q=some g/\c 11 [.ptr jb 0,P,.int .i64 (i:Int)] s=some (v,s')/\Grew s s'/\QS 1 s' v (bl.map bJ)/\bl.length<=1000000/\∀x,x∈bl↔x∈mQ (mg J q g r):=by
 obtain⟨g,vb,G,s1,hg,lk,gr,V⟩:=look_ok hc jw w0 pq hq;obtain⟨m,R⟩:=O.rul r (Zc1 hi);have g1:=Grew.ah V.wf (.cells [.af] 0);have H:=anH hc V.wf (Za3 s1.next.toNat);have I1:BI s1 s1.next (ah s1 (.cells [.af] 0)) []:=⟨g1,.af,aA _ _,.inl ⟨rfl,rfl⟩,λb hb=>by cases hb⟩
 obtain⟨f,s2,e1,e2,e3⟩:=ajZ hc H V O.cls R I1;have hN:=V.K9;have pI:=V.ql;have hE:=aqf (g:=g) (by omega) hN.2 V.jw.zC.ts R pI;have xH:=adC (mg J q g r);obtain⟨v,k1,k2,k3⟩:=e3.2;obtain⟨s3,a1,a2,a3,a4,a5⟩:=aqn e3.1.wf k2 (by omega);obtain⟨s4,v',b1,b2,b3,b4,b5,b6⟩:=ai1 a3 a2 (by rw[B6];omega);have cN:aK v≠some s1.next:=λe=>(k3 _ e).2 rfl
 have k4:s3.heap.get s1.next=some (.cells [v] 0):=(a5 _ cN).trans k1;have G14:Grew s1 s4:=⟨b4,λb x hb=>by
   have hn:aK v≠some b:=λe=>by have h1:=(k3 _ e).1;have h2:=V.wf _ _ hb;omega
   rw[b6 _ hn,a5 _ hn];exact e3.1.get hb,by rw[b5,a4];exact e3.1.next⟩
 have G4:=gr.trans G14;have cs:c 39 [v] s2=some (.tuple [],s3):=hc.at (s:=Sq) rfl a1;have cp:c 40 [v] s3=some (v',s4):=hc.at (s:=Bs) rfl b1;have T:c 11 [.ptr jb 0,P,.int .i64 (i:Int)] s=some (Go.Ai.tidy s (v',s4)):=by
   (refine Sr hc 1 ?_;have ln:=λ(K:AV->St->Option (AV×St))=>V.jw.jx.lenB (c:=c) K s1);(rw[Za5]at ln;have gJ:=(Za1.1 hi).1;have d1:decide ((i:Int)<0)=false:=Za2 (by omega);have d2:decide ((J.p.rs.length:Int)<=(i:Int))=false:=Za2 (by omega);have vc0:=V.vc;have jc0:=V.jw.nk;have V1:=V.ai g1;have vc:=V1.vc;have jc:=V1.jw.nk;obtain⟨rb,ro,h1⟩:=V1.rR hi;have r1:=λ{R}=>@h1.pr R);have r2:=h1.at' 0 _ rfl;rw[Zf5,R.k]at r2;have r3:=h1.all;have kk:=λ(z:AV)(K:AV->Option (AV×St))=>ahq V1.jw.kin R.m1 R.m2 z K
   have kf:(kd m).cells[7]? =some (.func f [] []):=(by rw[<-e1];rfl);rw[WG];simp only[az,cY,lk,cL,ant,lM,dI,d1,pX,cE,aT,Zb9,aY,vc0,jc0,aG,Zb1,Za4,Jc.c4,aW,ln,ajJ,d2,dQ,dB];simp only[di,oc,br,Zb9,Zf5,jN,vc,jc,aG,Zb1,Za4,Jc.c4,Jc.c5,aW,r1,r2,kk,aet,kf,wQ,r3,fC,NQ,gI,Ze0,Ze1,Zd7,e2,cL,aY,k1,cY,cs,k4,cp,az]
 unfold Go.Ai.tidy at T;have hm:∀x,x∈Lib.compact (Bb (mQ (mg J q g r)))↔x∈mQ (mg J q g r):=λx=>by rw[ai2,anI]
 have hlen:(Lib.compact (Bb (mQ (mg J q g r)))).length<=1000000:=by have:=Ob (Bb (mQ (mg J q g r)));rw[B6]at this;omega
 split at T
 . rename_i hk;refine⟨g,s,v',_,hg,T,Grew.refl w0,?_,hlen,hm⟩;rcases b3 with⟨rfl,e⟩|⟨b,n,rfl⟩
   .rw[e];exact QS.nil
   .exact(Go.Ai.xL hk.1).elim
 .exact⟨g,s4,v',_,hg,T,G4,b2,hlen,hm⟩
end
end
section
open Go Go.Ai Go.Proofs
theorem anJ(t:aB)(x y:Int):FG t x y=FG t y x:=by
 unfold FG;rw[Int.min_comm x y,Int.max_comm x y,show decide (x=y)=decide (y=x)from decide_eq_decide.2 eq_comm]
theorem anK(t:aB)(x y:Int):Ib t x y=Ib t y x:=by
 unfold Ib;rw[Int.min_comm x y,Int.max_comm x y,show decide (x=y)=decide (y=x)from decide_eq_decide.2 eq_comm]
theorem anL(ts:List aB)(a b:Int):Lm ts a b=Lm ts b a:=by
 unfold Lm oH;cases xT ts a with
 |none=>cases xT ts b<;>rfl
 |some p=>
  cases xT ts b with
  |none=>rfl
  |some r=>
   by_cases h:p.1=r.1
   .    simp only[h,Zh1];cases ts[r.1]? with
        |none=>rfl
        |some t=>exact anJ t _ _
   .    simp only[Za6 h,Za6 (Ne.symm h)]
theorem anM(ts:List aB)(a b:Int):Ln ts a b=Ln ts b a:=by
 unfold Ln oH;cases xT ts a with
 |none=>cases xT ts b<;>rfl
 |some p=>
  cases xT ts b with
  |none=>rfl
  |some r=>
   by_cases h:p.1=r.1
   .    simp only[h,Zh1];cases ts[r.1]? with
        |none=>rfl
        |some t=>exact anK t _ _
   .    simp only[Za6 h,Za6 (Ne.symm h)]
theorem aj2:∀(ts:List aB)(i:Nat),(i:Int)<aU ts->ue ts i<=i/\i<ue ts i+yC ts i
 |[],i,h=>by simp[aU]at h;omega
 |t ::ts,i,h=>by
  have n1:=KZ t;have e:aU (t::ts)=bw t+aU ts:=by simp[aU]
  by_cases h1:i<(bw t).toNat
  .have e1:bQ (t::ts) i=0:=(by rw[bQ,Zb4 h1]);unfold ue yC;rw[e1];simp only[Zm8,Za4];rw[show(aU []).toNat=0 from rfl];omega
  .have e1:bQ (t::ts) i=bQ ts (i - (bw t).toNat)+1:=(by rw[bQ,Za6 h1]);have ih:=aj2 ts (i - (bw t).toNat) (by omega);unfold ue yC at ih ⊢;have n2:=(om (ts.take (bQ ts (i - (bw t).toNat)))).1;rw[e1,Zb6,List.take_succ_cons,show aU (t::ts.take (bQ ts (i - (bw t).toNat)))=bw t+aU (ts.take (bQ ts (i - (bw t).toNat)))by simp[aU]];omega
theorem Ka{first:Int}{n:Nat}{so:Int->Bool}{k:Int}:k∈ja first n so↔(∃i:Nat,i<n/\k=first+(i:Int))/\so k=true:=by
 unfold ja;rw[Zj4,Zc6];simp only[Zg3];constructor
 .rintro⟨⟨i,h1,rfl⟩,h2⟩;exact⟨⟨i,h1,rfl⟩,h2⟩
 .rintro⟨⟨i,h1,rfl⟩,h2⟩;exact⟨⟨i,h1,rfl⟩,h2⟩
theorem aj3{ts:List aB}{so:Int->Int->Bool}(hs:∀a b,so a b=so b a){i k:Nat}(hi:(i:Int)<aU ts)(h:(k:Int)∈ja (ue ts i) (yC ts i) (so (i:Int))):(i:Int)∈ja (ue ts k) (yC ts k) (so (k:Int)):=by
 obtain⟨⟨j,h1,h2⟩,h3⟩:=Ka.1 h;have sJ:=aj2 ts i hi;have hT:∃T,ts[bQ ts i]? =some T/\yC ts i=(bw T).toNat:=by
  unfold yC at h1 ⊢;cases e:ts[bQ ts i]? with
  |none=>rw[e]at h1;simp at h1
  |some T=>exact⟨T,rfl,rfl⟩
 obtain⟨T,e1,e2⟩:=hT;obtain⟨hk,e3⟩:=Za1.1 e1;have n2:=(om (ts.take (bQ ts i))).1;have n3:=KZ T;have f:=ahy (first:=ue ts i) (i:=j) hk (by unfold ue;omega) (by rw[e3];omega);have ek:k=ue ts i+j:=by omega
 rw[<-ek]at f;obtain⟨f1,f2,f3⟩:=f;rw[e3]at f3;refine Ka.2 ⟨⟨i - ue ts i,by omega,by omega⟩,by rw[hs];exact h3⟩
theorem aqp{ts:List aB}{i k:Nat}(hi:(i:Int)<aU ts)(h:(k:Int)∈oh ts i):(i:Int)∈oh ts k:=aj3 (anL ts) hi h
theorem aqq{ts:List aB}{i k:Nat}(hi:(i:Int)<aU ts)(h:(k:Int)∈uy ts i):(i:Int)∈uy ts k:=aj3 (anM ts) hi h
theorem aj4{Pd:List Nat->Bool}{l:List (List Nat)}:0<Lo Pd l↔ ∃w∈l,Pd w=false:=by
 unfold Lo;rw[List.length_pos_iff_exists_mem];simp[Zj4]
theorem anN(L:List (List Nat×List (List Nat)))(a b:List Nat):Ss L a b=Ss L b a:=by
 unfold Ss;apply decide_eq_decide.2;have key:∀a b,0<aa1 L a b->0<aa1 L b a:=λa b h=>by
   unfold aa1 at h ⊢;cases e1:L.find? (λg=>decide (g.1=a))with
   |none=>rw[e1]at h;simp at h
   |some g=>
    cases e2:L.find? (λg=>decide (g.1=b))with
    |none=>rw[e1,e2]at h;simp at h
    |   some k=>
        rw[e1,e2]at h;simp only at h ⊢;obtain⟨w,h1,h2⟩:=aj4.1 h;have h2:w∈k.2:=(by simpa using h2);exact aj4.2 ⟨w,h2,by simpa using h1⟩
 constructor
 .intro h;have:=key a b (by omega);omega
 .intro h;have:=key b a (by omega);omega
theorem anO{J:Jt}(hb:J.iQ=WE J.p.gs){a b:Nat}(ha:a<J.n)(h:b<J.n):NZ J a (b:Int)=NZ J b (a:Int):=by
 have ha:a<J.p.gs.length:=ha;have h:b<J.p.gs.length:=h;have key:∀{a b:Nat}(ha:a<J.p.gs.length)(h:b<J.p.gs.length),NZ J a (b:Int)=Ss (ZM J.p.gs) (J.p.gs[a]).name (J.p.gs[b]).name:=λ{a b} ha h=>by
  unfold NZ;rw[hb,Zd0,Za8,Za8];unfold WE;rw[Zb7,H0 ha,Zd9,Ze8,Zb7,H0 h,Zd9,Ze8]
 rw[key ha h,key h ha,anN]
theorem ahz{N:Nat}:∀{q:List Int}{i:Nat}{g g':List Int}{k:Nat},C8 N q i g=some g'->k<g.length->0<=g.getD k (-1)->g'.getD k (-1)=g.getD k (-1)/\∀a:Nat,q[a]? ≠some (k:Int)
 |[],i,g,g',k,h,hk,h0=>by cases h;exact⟨rfl,λa e=>by simp at e⟩
 |x ::q  ,i,g,g',k,h,hk,h0=>by
  unfold C8 at h;split at h
  .cases h
  . (rename_i hn;have hx:x≠(k:Int):=λe=>hn (.inr (.inr ⟨by omega,by rw[e,Zd0];exact h0⟩)));by_cases hp:0<=x
    .   rw[Zb4 hp]at h;have e:(g.set x.toNat (i:Int)).getD k (-1)=g.getD k (-1):=by
         rw[Za8,Za8,Ze4 (by omega)]
        obtain⟨h1,h2⟩:=ahz h (by rw[Zi7];exact hk) (by rw[e];exact h0);refine⟨h1.trans e,λa=> ?_⟩;cases a with
        |zero=>intro e2;simp at e2;exact hx e2
        |succ a=>rw[Zb6];exact h2 a
    .   rw[Za6 hp]at h;obtain⟨h1,h2⟩:=ahz h hk h0;refine⟨h1,λa=> ?_⟩;cases a with
        |zero=>intro e2;simp at e2;exact hx e2
        |succ a=>rw[Zb6];exact h2 a
theorem anP {N:Nat}:∀{q:List Int}{i:Nat}{g g':List Int}{k:Nat},C8 N q i g=some g'->k<g.length->g.getD k (-1)<0->
  (∀a:Nat,q[a]? =some (k:Int)->g'.getD k (-1)=((i+a:Nat):Int))/\((∀a:Nat,q[a]? ≠some (k:Int))->g'.getD k (-1)=g.getD k (-1))
 |[],i,g,g',k,h,hk,h0=>by cases h;exact⟨λa e=>by simp at e,λ_=>rfl⟩
 |x ::q   , i,g,g',k,h,hk,h0=>by
  unfold C8 at h;split at h
  .cases h
  . rename_i hn;by_cases hx:x=(k:Int)
    .   have hp:0<=x:=(by omega);rw[Zb4 hp]at h;have e:(g.set x.toNat (i:Int)).getD k (-1)=(i:Int):=(by rw[Za8,show x.toNat=k by omega,Zf3 hk];rfl);obtain⟨h1,h2⟩:=ahz h (by rw[Zi7];exact hk) (by rw[e];omega);refine⟨λa ha=> ?_,λlF=>absurd (by rw[hx];rfl) (lF 0)⟩;cases a with
        |zero=>rw[h1,e];rfl
        |succ a=>rw[Zb6]at ha;exact absurd ha (h2 a)
    .   have key:∀g1:List Int,g1.length=g.length->g1.getD k (-1)=g.getD k (-1)->C8 N q (i+1) g1=some g'->
            (∀a:Nat,(x::q)[a]? =some (k:Int)->g'.getD k (-1)=((i+a:Nat):Int))/\((∀a:Nat,(x::q)[a]? ≠some (k:Int))->g'.getD k (-1)=g.getD k (-1)):=λg1 e1 e2 h1=>by
          obtain⟨h2,h3⟩:=anP h1 (by rw[e1];exact hk) (by rw[e2];exact h0);refine⟨λa ha=> ?_,λlF=> ?_⟩
          . cases a with
            |zero=>simp at ha;exact absurd ha hx
            |succ a=>rw[Zb6]at ha;rw[h2 a ha];omega
          .rw[h3 λa=>by have:=lF (a+1);rwa [Zb6]at this,e2]
        by_cases hp:0<=x
        .rw[Zb4 hp]at h;exact key _ (by rw[Zi7]) (by rw[Za8,Za8,Ze4 (by omega)]) h
        .rw[Za6 hp]at h;exact key _ rfl rfl h
theorem Dc{N:Nat}{q g:List Int}(hg:xR N q=some g){k:Nat}(hk:k<N):
   (∀a:Nat,q[a]? =some (k:Int)->g.getD k (-1)=(a:Int))/\(0<=g.getD k (-1)->∃a:Nat,q[a]? =some (k:Int)/\g.getD k (-1)=(a:Int)):=by
 have e0:(List.replicate N (-1:Int)).getD k (-1)= -1:=by rw[Za8,Zm0,Zb4 hk];rfl
 obtain⟨h1,h2⟩:=anP hg (by rw[Zk3];exact hk) (by rw[e0];omega);have h1:∀a:Nat,q[a]? =some (k:Int)->g.getD k (-1)=(a:Int):=λa ha=>by have:=h1 a ha;rwa [Zb9]at this
 refine⟨h1,λh=> ?_⟩;by_cases hex:∃a:Nat,q[a]? =some (k:Int)
 .obtain⟨a,ha⟩:=hex;exact⟨a,ha,h1 a ha⟩
 . have:=h2 λa e=>hex ⟨a,e⟩
   rw[e0]at this;omega
theorem iC{f:Nat->List Ev}{e:Ev}:∀{m k:Nat},e∈bX f m k↔ ∃i,k<=i/\i<k+m/\e∈f i
 |0,k=>by
  constructor
  .intro h;cases h
  .rintro⟨i,h1,h2,_⟩;omega
 |m +1,k=>by
  rw[bX,Zd5,iC];constructor
  . rintro(h|⟨i,h1,h2,h3⟩)
    .exact⟨k,by omega,by omega,h⟩
    .exact⟨i,by omega,by omega,h3⟩
  . rintro⟨i,h1,h2,h3⟩;by_cases e:i=k
    .subst e;exact .inl h3
    .exact .inr ⟨i,by omega,by omega,h3⟩
theorem lV{b:Bool}{k:Nat}{w:List Int}{e:Ev}:e∈tU b k w↔b=true/\e=(k,w):=by unfold tU;cases b<;>simp
theorem zl{x:Int}{l:List Ev}:x∈mQ l↔ ∃e∈l,x∈e.2:=by unfold mQ;exact List.mem_flatMap
theorem WH{l:List Ev}(h:∀e,e∈l->False):l=[]:=Zm1.2 λe he=>h e he
def WJ(q q':Nat->Int)(B:List Int):Prop:=∀a:Nat,q' a=if(a:Int)∈B then -1 else q a
section
variable{q q':Nat->Int}{B:List Int}
theorem WJ.on(R:WJ q q' B){a:Nat}(h:Go.Ai.on q' a=true):(a:Int)∉B/\q' a=q a/\Go.Ai.on q a=true:=by
 have e:=R a;by_cases hb:(a:Int)∈B
 .rw[Zb4 hb]at e;unfold Go.Ai.on at h;rw[e]at h;exact absurd (Zg1 h) (by omega)
 .rw[Za6 hb]at e;exact⟨hb,e,by unfold Go.Ai.on at h ⊢; rw[<-e];exact h⟩
theorem PY(R:WJ q q' B){a b:Nat}{P:Int->Int->Bool}(hB:∀x∈mQ (vC q a b P),x∈B):vC q' a b P=[]:=WH λe he=>by
 obtain⟨h,_⟩:=lV.1 he;simp only[Zb2]at h;obtain⟨⟨h1,h2⟩,h3⟩:=h;obtain⟨a1,a2,a3⟩:=R.on h1;obtain⟨_,b2,b3⟩:=R.on h2;have:((1,[(a:Int),(b:Int)]):Ev)∈vC q a b P:=lV.2 ⟨by rw[a3,b3, <-a2, <-b2,h3];rfl,rfl⟩;exact a1 (hB _ (zl.2 ⟨_,this,by simp⟩))
theorem aj5(R:WJ q q' B){a:Nat}{P:Int->Bool}(hB:∀x∈mQ (FD q a P),x∈B):FD q' a P=[]:=WH λe he=>by
 obtain⟨h,_⟩:=lV.1 he;simp only[Zb2]at h;obtain⟨a1,a2,a3⟩:=R.on h.1;have:((1,[(a:Int)]):Ev)∈FD q a P:=lV.2 ⟨by rw[a3, <-a2,h.2];rfl,rfl⟩;exact a1 (hB _ (zl.2 ⟨_,this,by simp⟩))
theorem PZ(R:WJ q q' B){n:Nat}{P:Nat->Nat->Int->Int->Bool}(hB:∀x∈mQ (ux q n P),x∈B):ux q' n P=[]:=WH λe he=>by
 obtain⟨a,i1,i2,he⟩:=iC.1 he;obtain⟨b,j1,j2,he⟩:=iC.1 he;obtain⟨h,_⟩:=lV.1 he;simp only[Zb2]at h;obtain⟨⟨h1,h2⟩,h3⟩:=h;obtain⟨a1,a2,a3⟩:=R.on h1;obtain⟨_,b2,b3⟩:=R.on h2;have:((1,[(a:Int),(b:Int)]):Ev)∈uw q P a b:=lV.2 ⟨by rw[a3,b3, <-a2, <-b2,h3];rfl,rfl⟩;exact a1 (hB _ (zl.2 ⟨_,iC.2 ⟨a,i1,i2,iC.2 ⟨b,j1,j2,this⟩⟩,by simp⟩))
theorem adD(R:WJ q q' B){n:Nat}{P P':Nat->Int->Bool}(hB:∀x∈mQ (Bn q n P),x∈B)(hP:∀a,a<n->(a:Int)∉B->q' a=q a->Go.Ai.on q a=true->P' a (q a)=true->P a (q a)=true):Bn q' n P'=[]:=WH λe he=>by
 obtain⟨a,i1,i2,he⟩:=iC.1 he;obtain⟨h,_⟩:=lV.1 he;simp only[Zb2]at h;obtain⟨a1,a2,a3⟩:=R.on h.1;have:((1,[(a:Int)]):Ev)∈tU (Go.Ai.on q a&&P a (q a)) 1 [(a:Int)]:=lV.2 ⟨by rw[a3,hP a (by omega) a1 a2 a3 (by rw[<-a2];exact h.2)];rfl,rfl⟩;exact a1 (hB _ (zl.2 ⟨_,iC.2 ⟨a,i1,i2,this⟩,by simp⟩))
end
structure DP(D:List Int->List Ev):Prop where
 nil:D []=[]
 all:∀l e,e∈D l->0<e.1/\e.2=l/\l≠[]
theorem ahA(h:Nat->Bool):DP (KV h) where
 nil:=by simp[KV,tU]
 all l e he:=by
  obtain⟨h1,rfl⟩:=lV.1 he;simp only[Zb2,Ze7]at h1;exact⟨Nat.one_pos,rfl,λe=>by rw[e]at h1;simp at h1⟩
theorem ahB(m:Nat):DP (KW m) where
 nil:=by simp[KW,tU]
 all l e he:=by
  obtain⟨h1,rfl⟩:=lV.1 he;have h1:=Zg1 h1;exact⟨by show 0<l.length - m;omega,rfl,λe=>by rw[e]at h1;simp at h1⟩
section
variable{J:Jt}{q q':List Int}{B:List Int}
theorem Ys{t k:Nat}{x:Int}:x∈wX J q t k↔ ∃g:Nat,g<k/\(jT J).at (qF q) t g=true/\x=(g:Int):=by
 unfold wX;simp only[Zc6,Zj4,Zg3];constructor
 .rintro⟨g,⟨h1,h2⟩,rfl⟩;exact⟨g,h1,h2,rfl⟩
 .rintro⟨g,h1,h2,rfl⟩;exact⟨g,⟨h1,h2⟩,rfl⟩
theorem alw{q:Nat->Int}{t g:Nat}(h:(jT J).at q t g=true):Go.Ai.on q g=true:=by unfold JT.at at h;simp only[Zb2]at h;exact h.1
theorem at_one{q:Nat->Int}{t u g:Nat}(h:(jT J).at q t g=true)(h2:(jT J).at q u g=true):t=u:=by unfold JT.at at h h2;simp only[Zb2,beq_iff_eq]at h h2;exact h.2.symm.trans h2.2
theorem arQ{q q':Nat->Int}{t g:Nat}(h:q' g=q g):(jT J).at q' t g=(jT J).at q t g:=by
 unfold JT.at Go.Ai.on;rw[h]
theorem anQ (R:WJ (qF q) (qF q') B)(hl:q'.length=q.length){r:Rl}{D:List Int->List Ev}(hD:DP D){T:Nat}(hB:∀x,x∈mQ (bX (u9 J q r D) T 0)↔x∈B):bX (u9 J q' r D) T 0=[]:=WH λe he=>by
 obtain⟨t,i1,i2,he⟩:=iC.1 he;unfold u9 at he;by_cases hk:Wp J r t=true
 . rw[  Zb4 hk, hl]at he;by_cases h0:D (wX J q t q.length)=[]
   . have:wX    J q' t q.length=wX J q t q.length:=by
        unfold wX;congr 1;apply List.filter_congr;intro g hg;have hg:=Zg3.1 hg;by_cases hb:(g:Int)∈B
        . have f1:(jT J).at (qF q') t g=false:=by
            cases e1:(jT J).at (qF q') t g with
            |false=>rfl
            |true=>exact absurd hb (R.on (alw e1)).1
          have f2:(jT J).at (qF q) t g=false:=by
            cases e1:(jT J).at (qF q) t g with
            |false=>rfl
            | true=>
              obtain⟨e2,h2,h3⟩:=zl.1 ((hB _).2 hb);obtain⟨u,_,_,h2⟩:=iC.1 h2;unfold u9 at h2;split at h2
              .obtain⟨_,h4,_⟩:=hD.all _ _ h2;rw[h4]at h3;obtain⟨g',_,h5,h6⟩:=Ys.1 h3;have:g=g':=(by omega);subst this;rw[at_one h5 e1,h0]at h2;cases h2
              .cases h2
          rw[f1,f2]
        .have:=R g;rw[Za6 hb]at this;exact arQ this
     rw[this,h0]at he;cases he
   . obtain⟨e3,h3⟩:=List.exists_mem_of_ne_nil _ h0;obtain⟨_,h4,_⟩:=hD.all _ _ h3;have:wX J q' t q.length=[]:=Zm1.2 λx hx=>by
        obtain⟨g,g1,g2,rfl⟩:=Ys.1 hx;obtain⟨a1,a2,_⟩:=R.on (alw g2);refine a1 ((hB _).1 (zl.2 ⟨e3,iC.2 ⟨t,i1,i2,by unfold u9;rw[Zb4 hk];exact h3⟩,?_⟩));rw[h4];exact Ys.2 ⟨g,g1,by rw[<-arQ a2];exact g2,rfl⟩
     rw[this,hD.nil]at he;cases he
 .rw[Za6 hk]at he;cases he
def WM(J:Jt)(x:Int):List Int:=oh J.p.ts x.toNat++uy J.p.ts x.toNat
theorem Yt(g:List Int)(a:Nat):∀(l:List Int)(so si:Bool),Bo J g a l so si=(so||l.any λk=>decide (0<=g.getD k.toNat (-1)),si&&l.all λk=> !decide (0<=g.getD k.toNat (-1))|| !NZ J a (g.getD k.toNat (-1)))
 |[],so,si=>by simp[Bo]
 |k::l,so,si=>by
  unfold Bo;by_cases h:0<=g.getD k.toNat (-1)
  .rw[Zb4 h,Yt g a l];simp only[List.any_cons,Zp5,Za0 h,Zj6,Zn3,Bool.true_or,Bool.or_true,Bool.and_assoc]
  .rw[Za6 h,Yt g a l];simp only[List.any_cons,Zp5,Za2 h,Zl3,Zn3,Bool.true_or,Zg5]
theorem aa2{r:Rl}{g:List Int}{a:Nat}{x:Int}:Ld J r g a x=true↔qD J.p.ts r.t x.toNat=true/\(∃k∈WM J x,0<=g.getD k.toNat (-1))/\∀k∈WM J x,0<=g.getD k.toNat (-1)->NZ J a (g.getD k.toNat (-1))=false:=by
 unfold Ld Wo WM;rw[Yt,Yt];simp only[Zb2,Zn3,Zg5,Zj3,List.any_eq_true,Zg8,Zd5,Ze7,Zj7];constructor
 . rintro⟨h1,h2,h3,h4⟩;refine⟨h1,?_,?_⟩
   . rcases h2 with⟨k,a,b⟩|⟨k,a,b⟩
     .  exact⟨k,.inl a,b⟩
     .  exact⟨k,.inr a,b⟩
   . rintro k (hk|hk) h0
     .  rcases h3 k hk with h|h
        .exact absurd h0 (Zl2 h)
        .exact h
     .  rcases h4 k hk with h|h
        .exact absurd h0 (Zl2 h)
        .exact h
 . rintro⟨h1,⟨k,hk,h2⟩,h3⟩;refine⟨h1,?_,λk hk=> ?_,λk hk=> ?_⟩
   . rcases hk with hk|hk
     .  exact .inl ⟨k,hk,h2⟩
     .  exact .inr ⟨k,hk,h2⟩
   . by_cases h0:0<=g.getD k.toNat (-1)
     .  exact .inr (h3 k (.inl hk) h0)
     .  exact .inl (Za2 h0)
   . by_cases h0:0<=g.getD k.toNat (-1)
     .  exact .inr (h3 k (.inr hk) h0)
     .  exact .inl (Za2 h0)
theorem asP{x k:Int}(h:k∈WM J x):0<=k:=by
 unfold WM oh uy at h;rcases Zd5.1 h with h|h
 .obtain⟨⟨i,_,rfl⟩,_⟩:=Ka.1 h;omega
 .obtain⟨⟨i,_,rfl⟩,_⟩:=Ka.1 h;omega
theorem asQ{i k:Nat}(hi:(i:Int)<aU J.p.ts)(h:(k:Int)∈WM J (i:Int)):(i:Int)∈WM J (k:Int):=by
 unfold WM at h ⊢;rw[Zd0]at h ⊢;rcases Zd5.1 h with h|h
 .exact Zd5.2 (.inl (aqp hi h))
 .exact Zd5.2 (.inr (aqq hi h))
theorem aci{q:List Int}{a:Nat}(h:Go.Ai.on (qF q) a=true):∃x:Nat,q[a]? =some (x:Int)/\qF q a=(x:Int)/\a<q.length:=by
 have h:=Zg1 h;by_cases ha:a<q.length
 .have e:=H0 ha;have e2:=nH e;rw[e2]at h;exact⟨q[a].toNat,by rw[e];congr 1;omega,by rw[e2];omega,ha⟩
 .unfold qF at h;rw[Za8,Zc2 (by omega)]at h;exact absurd h (by decide)
theorem asR{g g':List Int}(R:WJ (qF q) (qF q') B)(hg:xR J.N q=some g)(tR:xR J.N q'=some g')(hN:(J.N:Int)=aU J.p.ts)(hcm:J.iQ=WE J.p.gs)(hqn:q.length=J.n)(hl:q'.length=q.length){r:Rl}
   (hB:∀x,x∈mQ (Bn (qF q) q.length (Ld J r g))↔x∈B) {a:Nat} (ho:Go.Ai.on (qF q) a=true) (h:Ld J r g' a (qF q a)=true):Ld J r g a (qF q a)=true:=by
 obtain⟨x,x1,x2,x3⟩:=aci ho;have gl:g.length=J.N:=by rw[(PN hg).2,Zk3]
 have gl':g'.length=J.N:=by rw[(PN tR).2,Zk3]
 have hxN:=((PN hg).1 _ (Zc1 x1)).2;have lt:∀{g:List Int}{k:Nat},g.length=J.N->0<=g.getD k (-1)->k<J.N:=λ{g k} e h=>by
   by_cases hk:k<g.length
   .omega
   .rw[Za8,Zc2 (by omega)]at h;exact absurd h (by decide)
 rw[x2]at h ⊢;obtain⟨h1,⟨k,hk,h2⟩,h3⟩:=aa2.1 h;refine aa2.2 ⟨h1,⟨k,hk,?_⟩,λk hk h0=> ?_⟩
 .obtain⟨b,b1,b2⟩:=(Dc tR (lt gl' h2)).2 h2;have ob:Go.Ai.on (qF q') b=true:=(by unfold Go.Ai.on;rw[nH b1];exact Za0 (by omega));obtain⟨_,c2,c3⟩:=R.on ob;obtain⟨y,y1,y2,_⟩:=aci c3;have:y=k.toNat:=(by rw[nH b1]at c2;omega);subst this;rw[(Dc hg (lt gl' h2)).1 b y1];omega
 . have hkN:=lt gl h0;have rj:=asP hk;obtain⟨b,b1,b2⟩:=(Dc hg hkN).2 h0;have ob:Go.Ai.on (qF q) b=true:=(by unfold Go.Ai.on;rw[nH b1];exact Za0 (by omega));obtain⟨_,_,_,xH⟩:=aci ob;by_cases hb:(b:Int)∈B
   .obtain⟨e,e1,e2⟩:=zl.1 ((hB _).2 hb);obtain⟨i,_,_,e1⟩:=iC.1 e1;obtain⟨e3,rfl⟩:=lV.1 e1;have:b=i:=(by simp at e2;omega);subst this;simp only[Zb2]at e3;have s:=(aa2.1 e3.2).2.2;rw[nH b1]at s;have pF:((k.toNat:Nat):Int)=k:=(by omega);have:=s (x:Int) (by rw[<-pF]at hk;exact asQ (by omega) hk);rw[Zd0,(Dc hg (by omega)).1 a x1]at this;rw[b2,anO hcm (by omega) (by omega)];exact this (by omega)
   . have e:=R b;rw[Za6 hb,nH b1]at e;have dO:q'[b]? =some ((k.toNat:Nat):Int):=by
        have e4:=H0 (show b<q'.length by omega);rw[nH e4]at e;rw[e4,e]
     have e5:=(Dc tR hkN).1 b dO;have:=h3 k hk (by rw[e5];omega);rw[e5]at this;rw[b2];exact this
theorem two_pos{q:Nat->Int}{a b:Nat}{P:Int->Int->Bool}:∀e∈vC q a b P,0<e.1/\e.2≠[]:=λe he=>by obtain⟨_,rfl⟩:=lV.1 he;exact⟨Nat.one_pos,by simp⟩
theorem one_pos{q:Nat->Int}{a:Nat}{P:Int->Bool}:∀e∈FD q a P,0<e.1/\e.2≠[]:=λe he=>by obtain⟨_,rfl⟩:=lV.1 he;exact⟨Nat.one_pos,by simp⟩
theorem P0{q:Nat->Int}{n:Nat}{P:Nat->Nat->Int->Int->Bool}:∀e∈ux q n P,0<e.1/\e.2≠[]:=λe he=>by
 obtain⟨a,_,_,he⟩:=iC.1 he;obtain⟨b,_,_,he⟩:=iC.1 he;obtain⟨_,rfl⟩:=lV.1 he;exact⟨Nat.one_pos,by simp⟩
theorem adE{q:Nat->Int}{n:Nat}{P:Nat->Int->Bool}:∀e∈Bn q n P,0<e.1/\e.2≠[]:=λe he=>by
 obtain⟨a,_,_,he⟩:=iC.1 he;obtain⟨_,rfl⟩:=lV.1 he;exact⟨Nat.one_pos,by simp⟩
theorem anR{r:Rl}{D:List Int->List Ev}(hD:DP D){T:Nat}:∀e∈bX (u9 J q r D) T 0,0<e.1/\e.2≠[]:=λe he=>by
 obtain⟨t,_,_,he⟩:=iC.1 he;unfold u9 at he;split at he
 .obtain⟨h1,h2,h3⟩:=hD.all _ _ he;exact⟨h1,by rw[h2];exact h3⟩
 .cases he
theorem anS{g g':List Int}(hg:xR J.N q=some g)(tR:xR J.N q'=some g')(hN:(J.N:Int)=aU J.p.ts)(hcm:J.iQ=WE J.p.gs)(hqn:q.length=J.n)(hl:q'.length=q.length){r:Rl}{m:Nat}(V:ZK J.p r m)(hm:m≠15):
   (∀e∈mg J q g r,0<e.1/\e.2≠[])/\(WJ (qF q) (qF q') (mQ (mg J q g r))->mg J q' g' r=[]):=by
 have ek:r.k.toNat=m:=by have:=V.k;omega
 have h1:=V.m1;have h2:=V.m2;unfold mg;rw[ek];rcases B4 h1 h2 with rfl|rfl|rfl|rfl|rfl|rfl|rfl|rfl|rfl|rfl|rfl|rfl|rfl|rfl|rfl|rfl|rfl|rfl
 .exact⟨two_pos,λR=>PY R λ_ h=>h⟩
 .exact⟨two_pos,λR=>PY R λ_ h=>h⟩
 .exact⟨two_pos,λR=>PY R λ_ h=>h⟩
 .exact⟨two_pos,λR=>PY R λ_ h=>h⟩
 .exact⟨two_pos,λR=>PY R λ_ h=>h⟩
 .exact⟨one_pos,λR=>aj5 R λ_ h=>h⟩
 .exact⟨one_pos,λR=>aj5 R λ_ h=>h⟩
 .exact⟨P0,λR=>by rw[hl];exact PZ R λ_ h=>h⟩
 .exact⟨anR (ahA _),λR=>anQ R hl (ahA _) λ_=>Iff.rfl⟩
 .exact⟨adE,λR=>by rw[hl];exact adD R (λ_ h=>h) λ_ _ _ _ _ h=>h⟩
 .exact⟨adE,λR=>by rw[hl];exact adD R (λ_ h=>h) λa _ _ _ ho h=>asR R hg tR hN hcm hqn hl (λ_=>Iff.rfl) ho h⟩
 .exact⟨P0,λR=>by rw[hl];exact PZ R λ_ h=>h⟩
 .exact⟨P0,λR=>by rw[hl];exact PZ R λ_ h=>h⟩
 .exact⟨P0,λR=>by rw[hl];exact PZ R λ_ h=>h⟩
 .exact absurd rfl hm
 .exact⟨anR (ahB _),λR=>anQ R hl (ahB _) λ_=>Iff.rfl⟩
 .exact⟨adE,λR=>by rw[hl];exact adD R (λ_ h=>h) λ_ _ _ _ _ h=>h⟩
 .exact⟨P0,λR=>by rw[hl];exact PZ R λ_ h=>h⟩
end
variable{c:aj}
theorem asS{V:AV}{q:List Int}{s0:St}(hq:q.length<=1000)(pq:QS 1 s0 V (q.map bJ))(F:Nat):∀(m k f:Nat)(s:St)(v:AV),k+m=q.length->m<f->Mk 1 s0 s v ((q.take k).map bJ)->
  ∃s' v',Mk 1 s0 s' v' (q.map bJ)/\∀k2:Q2,kD c F k2 f [V,v,.int .i64 (k:Int)] s=k2 [v'] s':=by
 have ln:=λ(K:AV->St->Option (AV×St))(s:St)=>pq.lenB (c:=c) K s
 rw[Za5]at ln;intro m;induction m with
 |zero=>
  intro k f s v hk hf hM;obtain⟨f,rfl⟩:∃g,f=g+1:=⟨f - 1,by omega⟩
  obtain rfl:k=q.length:=by omega
  rw[Zh7]at hM;refine⟨s,v,hM,λk2=> ?_⟩;rw[yH];simp[ln]
 |succ m ih=>
  intro k f s v hk hf hM;obtain⟨f,rfl⟩:∃g,f=g+1:=⟨f - 1,by omega⟩
  have iO:k<q.length:=by omega
  have et:q.take (k+1)=q.take k++[q[k]]:=Zc7 iO;obtain⟨pb,po,p⟩:=rq (pq.ai hM.ai) (H0 iO);have p1:=λ{R}=>@p.st R
  have p3:=p.one;have aV:decide ((k:Int)<(q.length:Int))=true:=Za0 (by omega);have wr:ax .i64 ((k:Int)+1)=((k+1:Nat):Int):=by rw[wrap64 (by omega) (by omega)];omega
  obtain⟨s5,v5,a1,a2,_,_⟩:=hM.push (R:=AV×St) (c:=c) (bytes:=8) (z:=[.int .i64 0]) (x:= .int .i64 q[k]) rfl rfl rfl (by omega) (by rw[Za5,Zg7];omega) (by rw[Za5,Zg7];omega);obtain⟨s',v',z1,z2⟩:=ih (k+1) f s5 v5 (by omega) (by omega) (by rw[et,Zc8];exact a2);refine⟨s',v',z1,λk2=> ?_⟩;rw[<-z2 k2,yH];simp only[aL,bu,az,ln,dI,aV,eo,p1,aY,p3,aW,a1,gC,wr]
theorem anT(hc:bH c){V:AV}{q:List Int}{s:St}(hw:Wf s)(hq:q.length<=1000)(pq:QS 1 s V (q.map bJ)):∃s' v,c 13 [V] s=some (v,s')/\Mk 1 s s' v (q.map bJ):=by
 obtain⟨s1,v,z1,z2⟩:=asS (c:=c) hq pq (q.length+1) q.length 0 (q.length+1) s .af (by omega) (by omega) (Mk.start hw (Grew.refl hw));obtain⟨s2,t1,t2⟩:=z1.tidy;refine⟨s2,v,?_,t2⟩;simp only[show((0:Nat):Int)=0 from rfl]at z2;rw[Lp hc (q.length+1) (r:=(v,s1)),t1];rw[P6];simp only[az,z2,aL,bu]
theorem Mk.setI{s0 s:St}{v:AV}{q:List Int}(h:Mk 1 s0 s v (q.map bJ)){i:Nat}(hi:i<q.length)(x:Int):
   ∃b o s',(∀(K:AV->St->Option (AV×St))(s1:St),aq c (.idxA 1 none) [v,.int .i64 (i:Int)] s1 K=K (.ptr b o) s1)/\(∀(K:AV->St->Option (AV×St)),aq c (.store 1) [.ptr b o,.int .i64 x] s K=K .undef s')/\Mk 1 s0 s' v ((q.set i x).map bJ):=by
 have OS:i<(q.map bJ).length:=by rw[Za5];exact hi
 obtain⟨b,o,cs,a1,_,a3,a4,a5,_,a7,a8⟩:=QS.set (c:=c) (R:=AV×St) h.own h.row (by decide) OS;have aau:=h.new b a3;have aV:=h.ai.wf b _ a4;have anU:=h.tight b a3;have eW:cs=(q.map bJ).flatten:=by rw[a4]at anU;injection anU with e;injection e
 have er:(q.map bJ).set i ((q.map bJ)[i].set 0 (.int .i64 x))=(q.set i x).map bJ:=by rw[Zq2];congr 1;rw[Zn0];rfl
 have a7':=a7 0 (.int .i64 x);have a8':=a8 0 (.int .i64 x) (by decide) eW;rw[er]at a7' a8';rw[Zf5]at a7' a8';refine⟨b,o,bg s b (.cells (aQ cs o [.int .i64 x]) 0),λK s1=>a1 K .i64 s1,λK=> ?_,h.jk,vF h.jk h.ai aau aV _,a7' _ (by decide) (bG _ _ _),h.new,λr hr=> ?_,h.cap,λb' dO=> ?_⟩
 .rw[bY c K s 1 b o (.int .i64 x) cs a4 rfl a5 rfl];rfl
 .obtain⟨y,_,rfl⟩:=Zc6.1 hr;rfl
 .have:b'=b:=(by rw[a3]at dO;exact(Zi5 dO).symm);subst this;rw[bG,a8']
def Ic(q bl:List Int):List Int:=bl.foldl (λq x=>q.set x.toNat (-1)) q
theorem aa3:∀(bl q:List Int),(Ic q bl).length=q.length
 |[],q=>rfl
 |x::bl,q=>by
  show(Ic (q.set x.toNat (-1)) bl).length=_;rw[aa3 bl,Zi7]
theorem anV(q bl:List Int)(x:Int):Ic q (bl++[x])=(Ic q bl).set x.toNat (-1):=by unfold Ic;rw[List.foldl_append];rfl
theorem auc(q:List Int)(i a:Nat):qF (q.set i (-1)) a=if i=a then -1 else qF q a:=by
 unfold qF;rw[Za8,Za8];by_cases e:i=a
 . subst e;rw[Zb4 rfl];by_cases h:i<q.length
   .rw[Zf3 h];rfl
   .rw[Zc2 (by rw[Zi7];omega)];rfl
 .rw[Za6 e,Ze4 e]
theorem aj6:∀(bl q:List Int),(∀x∈bl,0<=x)->∀a:Nat,qF (Ic q bl) a=if(a:Int)∈bl then -1 else qF q a
 |[],q,_,a=>by simp[Ic]
 |x ::bl,q,h,a=>by
  show qF (Ic (q.set x.toNat (-1)) bl) a=_;rw[aj6 bl _ (λy hy=>h y (Zb0 _ hy)),auc];have hx:=h x Zd6;by_cases e:(a:Int)∈bl
  .rw[Zb4 e,Zb4 (Zb0 _ e)]
  . rw[Za6 e];by_cases e2:x.toNat=a
    .rw[Zb4 e2,Zb4 (Za9.2 (.inl (by omega)))]
    . rw[Za6 e2,Za6 λe3=>by
       rcases Za9.1 e3 with e3|e3
       .omega
       .exact e e3]
theorem asT{J:Jt}{q q':List Int}{B:List Int}(hq:PO J q)(hl:q'.length=q.length)(R:WJ (qF q) (qF q') B):PO J q':=by
 have key:∀(i:Nat)(x:Int),q'[i]? =some x->x= -1\/q[i]? =some x:=λi x hx=>by
   have e:=R i;rw[nH hx]at e;split at e
   .exact .inl e
   .have hi:=(Za1.1 hx).1;have e2:=H0 (show i<q.length by omega);rw[nH e2]at e;exact .inr (by rw[e2,e])
 refine anA (by rw[hl,hq.len]) (λx hx=> ?_) λa b x Ww ha hb=> ?_
 . obtain⟨i,hi⟩:=Zf1.1 hx;rcases key i x hi with rfl|h
   .omega
   .exact hq.ok x (Zc1 h)
 . rcases key a x ha with rfl|ha
   .decide
   . rcases key b x hb with rfl|hb
     .decide
     .exact hq.apart a b x Ww ha hb
theorem aqr{sB:St}{Vb:AV}{q bl:List Int}(hb:QS 1 sB Vb (bl.map bJ))(hl:bl.length<=1000000)(sJ:∀x∈bl,0<=x/\x<(q.length:Int))(x5 x6 x8 x9:AV)(F:Nat):
  ∀(m k f:Nat)(s:St)(v:AV),k+m=bl.length->m<f->Mk 1 sB s v ((Ic q (bl.take k)).map bJ)->
  ∃s',Mk 1 sB s' v ((Ic q bl).map bJ)/\∀k4:Q2,fO c F k4 f [x5,x6,x8,x9,Vb,v,.int .i64 (k:Int)] s=k4 [x5,x6,x8,x9,v] s':=by
 have ln:=λ(K:AV->St->Option (AV×St))(s:St)=>hb.lenB (c:=c) K s
 rw[Za5]at ln;intro m;induction m with
 |zero=>
  intro k f s v hk hf hM;obtain⟨f,rfl⟩:∃g,f=g+1:=⟨f - 1,by omega⟩
  obtain rfl:k=bl.length:=by omega
  rw[Zh7]at hM;refine⟨s,hM,λk2=> ?_⟩;rw[uC];simp[ln]
 |succ m ih=>
  intro k f s v hk hf hM;obtain⟨f,rfl⟩:∃g,f=g+1:=⟨f - 1,by omega⟩
  have iO:k<bl.length:=by omega
  have et:bl.take (k+1)=bl.take k++[bl[k]]:=Zc7 iO;obtain⟨pb,po,p⟩:=rq (hb.ai hM.ai) (H0 iO);have p1:=λ{R}=>@p.st R
  have p3:=p.one;obtain⟨y1,y2⟩:=sJ _ (Zb8 iO);have ey:bl[k]=((bl[k].toNat:Nat):Int):=by omega
  have aV:decide ((k:Int)<(bl.length:Int))=true:=Za0 (by omega);have wr:ax .i64 ((k:Int)+1)=((k+1:Nat):Int):=by rw[wrap64 (by omega) (by omega)];omega
  obtain⟨b,o,s5,a1,a2,a3⟩:=Mk.setI (c:=c) hM (i:=bl[k].toNat) (by rw[aa3];omega) (-1);rw[<-anV, <-et]at a3;rw[<-ey]at a1;obtain⟨s',z1,z2⟩:=ih (k+1) f s5 v (by omega) (by omega) a3;refine⟨s',z1,λk4=> ?_⟩;rw[<-z2 k4,uC];simp only[aL,bu,az,ln,dI,aV,eo,p1,aY,p3,aW,a1,a2,gC,wr]
section
variable{J:Jt}{q:List Int}
def Sit(q:Nat->Int)(l:List Ev):Prop:=∀e∈l,∀x∈e.2,∃a:Nat,x=(a:Int)/\Go.Ai.on q a=true
theorem P7{q:Nat->Int}{a b:Nat}{P:Int->Int->Bool}:Sit q (vC q a b P):=λe he x hx=>by
 obtain⟨h,rfl⟩:=lV.1 he;simp only[Zb2]at h;simp only[Za9,Zc3,Zf0]at hx;rcases hx with rfl|rfl
 .exact⟨a,rfl,h.1.1⟩
 .exact⟨b,rfl,h.1.2⟩
theorem aj7{q:Nat->Int}{a:Nat}{P:Int->Bool}:Sit q (FD q a P):=λe he x hx=>by
 obtain⟨h,rfl⟩:=lV.1 he;simp only[Zb2]at h;simp only[Za9,Zc3,Zf0]at hx;exact⟨a,hx,h.1⟩
theorem P8{q:Nat->Int}{n:Nat}{P:Nat->Nat->Int->Int->Bool}:Sit q (ux q n P):=λe he x hx=>by
 obtain⟨a,_,_,he⟩:=iC.1 he;obtain⟨b,_,_,he⟩:=iC.1 he;obtain⟨h,rfl⟩:=lV.1 he;simp only[Zb2]at h;simp only[Za9,Zc3,Zf0]at hx;rcases hx with rfl|rfl
 .exact⟨a,rfl,h.1.1⟩
 .exact⟨b,rfl,h.1.2⟩
theorem adF{q:Nat->Int}{n:Nat}{P:Nat->Int->Bool}:Sit q (Bn q n P):=λe he x hx=>by
 obtain⟨a,_,_,he⟩:=iC.1 he;obtain⟨h,rfl⟩:=lV.1 he;simp only[Zb2]at h;simp only[Za9,Zc3,Zf0]at hx;exact⟨a,hx,h.1⟩
theorem ahC{r:Rl}{D:List Int->List Ev}(hD:∀l e,e∈D l->e.2=l){T:Nat}:Sit (qF q) (bX (u9 J q r D) T 0):=λe he x hx=>by
 obtain⟨t,_,_,he⟩:=iC.1 he;unfold u9 at he;split at he
 .rw[hD _ _ he]at hx;obtain⟨g,_,h1,rfl⟩:=Ys.1 hx;exact⟨g,rfl,alw h1⟩
 .cases he
theorem asU(m:Nat)(l:List Int)(e:Ev)(he:e∈NS m l):e.2=l:=by obtain⟨_,rfl⟩:=lV.1 he;rfl
theorem aqs{g:List Int}{r:Rl}{m:Nat}(V:ZK J.p r m):Sit (qF q) (mg J q g r):=by
 have ek:r.k.toNat=m:=by have:=V.k;omega
 unfold mg;rw[ek];rcases B4 V.m1 V.m2 with rfl|rfl|rfl|rfl|rfl|rfl|rfl|rfl|rfl|rfl|rfl|rfl|rfl|rfl|rfl|rfl|rfl|rfl
 .exact P7
 .exact P7
 .exact P7
 .exact P7
 .exact P7
 .exact aj7
 .exact aj7
 .exact P8
 .exact ahC λl e h=>((ahA _).all l e h).2.1
 .exact adF
 .exact adF
 .exact P8
 .exact P8
 .exact P8
 .exact ahC λl e h=>asU _ l e h
 .exact ahC λl e h=>((ahB _).all l e h).2.1
 .exact adF
 .exact P8
theorem aud{g:List Int}{r:Rl}{m:Nat}(V:ZK J.p r m){x:Int}(hx:x∈mQ (mg J q g r)):0<=x/\x<(q.length:Int):=by obtain⟨e,he,hx⟩:=zl.1 hx;obtain⟨a,rfl,ha⟩:=aqs V e he x hx;obtain⟨_,_,_,hl⟩:=aci ha;omega
end
section
variable{sB:St}{jb b3:Pos}{P:AV}{q:List Int}{j:Jc}{J:Jt}{Vs:List AV}{V5:AV}
theorem aqt(hc:bH c)(O:OkJ J)(jw:JW sB jb j J)(hbc:J.iQ=WE J.p.gs)(pq:QS 1 sB P (q.map bJ))(hq:PO J q)(hb:sB.heap.get b3=some (.cells Vs 0))(h4:Vs[4]? =some V5)(hV:QS 6 sB V5 (J.p.rs.map Rl.cells))(F:Nat)(hF:1000000<F):
  ∀ (m i f:Nat)(s:St),i+m=J.p.rs.length->m<f->Grew sB s->∃s',Grew sB s'/\
    ∀k1 k2:Q2,iH c F k1 k2 f [.ptr jb 0,.ptr b3 0,P,.int .i64 (i:Int)] s=k2 [] s':=by
 have lm:=jw.zC.rs;have pI:q.length<=1000:=by have:=hq.len;have:=jw.zC.gs;have:J.n=J.p.gs.length:=rfl;omega
 intro m;induction m with
 |zero=>
  intro i f s hi hf G;obtain⟨f,rfl⟩:∃g,f=g+1:=⟨f - 1,by omega⟩
  have ln:=λ(K:AV->St->Option (AV×St))=>(hV.ai G).lenB (c:=c) K s
  rw[Za5]at ln;have b:=G.get hb;have aV:decide ((i:Int)<(J.p.rs.length:Int))=false:=Za2 (by omega);refine⟨s,G,λk1 k2=> ?_⟩;rw[oo];simp only[aL,bu,az,aT,Zb9,aY,b,aG,Zb1,h4,aW,ln,dI,aV,dQ]
 |succ m ih=>
  intro i f s hi hf G;obtain⟨f,rfl⟩:∃g,f=g+1:=⟨f - 1,by omega⟩
  have ln:=λ(K:AV->St->Option (AV×St))=>(hV.ai G).lenB (c:=c) K s
  rw[Za5]at ln;have b:=G.get hb;have him:i<J.p.rs.length:=by omega
  have aV:decide ((i:Int)<(J.p.rs.length:Int))=true:=Za0 (by omega);have wr:ax .i64 ((i:Int)+1)=((i+1:Nat):Int):=by rw[wrap64 (by omega) (by omega)];omega
  have hr:=H0 him;obtain⟨mm,R⟩:=O.rul _ (Zb8 him);obtain⟨wb,wo,hR⟩:=(hV.ai G).rd (λr hr=>by obtain⟨x,_,rfl⟩:=Zc6.1 hr;rfl) (i:=i) (r:=(J.p.rs[i]).cells) (by rw[Zb7,hr];rfl);have w1:=λ{R}=>@hR.st R
  have w3:=hR.at' 0 _ rfl;rw[Zf5]at w3;by_cases hm:mm=15
  .subst hm;have d:decide (J.p.rs[i].k=15)=true:=Za0 (by have:=R.k;omega);obtain⟨s',G',z⟩:=ih (i+1) f s (by omega) (by omega) G;refine⟨s',G',λk1 k2=> ?_⟩;rw[<-z k1 k2,oo];simp only[aL,bu,az,aT,Zb9,Zf5,aY,b,aG,Zb1,h4,aW,ln,dI,aV,eo,iZ,w1,w3,fN,d,gC,wr]
  . have d:decide (J.p.rs[i].k=15)=false:=Za2 (by have:=R.k;omega);obtain⟨g,s1,vb,bl,hg,e1,g1,q1,l1,mem⟩:=aqo hc O (jw.ai G) G.wf (pq.ai G) hq hr;have G1:=G.trans g1;have f1:=aeH hc O (jw.ai G1) G1.wf (pq.ai G1) hq hr;obtain⟨s2,v2,e2,M2⟩:=anT hc G1.wf pI (pq.ai G1);have sJ:∀x∈bl,0<=x/\x<(q.length:Int):=λx hx=>aud R ((mem x).1 hx)
    obtain⟨s3,M3,z3⟩:=aqr (c:=c) q1 l1 sJ (.ptr jb 0) (.ptr b3 0) P (.int .i64 (i:Int)) F bl.length 0 F s2 v2 (by omega) (by omega) (by rw[Zm8];exact M2);have G3:=G1.trans M3.ai;have rst:WJ (qF q) (qF (Ic q bl)) (mQ (mg J q g J.p.rs[i])):=λa=>by
        rw[aj6 bl q (λx hx=>(sJ x hx).1) a];simp only[mem]
    have hl':=aa3 bl q;have hq':=asT hq hl' rst;obtain⟨g',tR⟩:=hq'.see;obtain⟨pos,nil⟩:=anS hg tR jw.nN hbc hq.len hl' R hm;have f2:=aeH hc O (jw.ai G3) G3.wf M3.own hq' hr;have z0:fJ J (Ic q bl) J.p.rs[i]=0:=(by unfold fJ;rw[<-aaX hq'.len tR R,nil rst];rfl);have y0:fJ J q J.p.rs[i]=nM (mg J q g J.p.rs[i]):=by
        unfold fJ;rw[<-aaX hq.len hg R]
    have iff:bl.length=0↔fJ J q J.p.rs[i]=0:=by
        rw[y0];cases hE:mg J q g J.p.rs[i]with
        | nil=>
          refine⟨λ_=>rfl,λ_=> ?_⟩;refine Zn9.2 (Zm1.2 λx hx=> ?_);have:=(mem x).1 hx;rw[hE]at this;cases this
        | cons e l=>
          obtain⟨p1,p2⟩:=pos e (by rw[hE];exact Zd6);constructor
          .intro h;exfalso;obtain⟨x,hx⟩:=List.exists_mem_of_ne_nil _ p2;have:=(mem x).2 (zl.2 ⟨e,by rw[hE];exact Zd6,hx⟩);rw[Zn9.1 h]at this;cases this
          .intro h;exfalso;have:nM (e::l)=e.1+nM l:=(by unfold nM;rw[Zd3,Zm2]);omega
    have lb:=λ(K:AV->St->Option (AV×St))=>q1.lenB (c:=c) K s1
    rw[Za5]at lb;have dd:(decide ((bl.length:Int)=0)==decide (((fJ J q J.p.rs[i]:Nat):Int)=0))=true:=by
        by_cases h:bl.length=0
        .rw[Za0 (by omega),Za0 (by have:=iff.1 h;omega)];rfl
        .rw[Za2 (by omega),Za2 (by have:=λe=>h (iff.2 e);omega)];rfl
    rw[z0]at f2;have dz:decide (((0:Nat):Int)=0)=true:=rfl;simp only[show((0:Nat):Int)=0 from rfl]at z3;obtain⟨s',G',z⟩:=ih (i+1) f s3 (by omega) (by omega) G3;refine⟨s',G',λk1 k2=> ?_⟩;rw[<-z k1 k2,oo];simp only[aL,bu,az,aT,Zb9,Zf5,aY,b,aG,Zb1,h4,aW,ln,dI,aV,eo,iZ,w1,w3,fN,d,dQ,cY,e1,cL,lb,f1,apM,dd,Zj6,e2,z3,f2,Pb,dz,gC,wr]
end
theorem afi(hc:bH c){xt xg xy xr:List Nat}(ht:∀x∈xt,x<256)(hg:∀x∈xg,x<65536)(hy:∀x∈xy,x<256)(hr:∀x∈xr,x<4294967296)(lt:xt.length<=9223372036854775807)(lg:xg.length<=9223372036854775807)(lr:xr.length<=9223372036854775807)(ly:xy.length<=9223372036854775807)
  (zt zg zy zr z1:Bool) (xs:List Int) (lx:xs.length<=9223372036854775807) (st:St) (hw:Wf st):c 3 [.agg (jE zt zg zy zr xt xg xy xr),ints z1 xs] st=some (.bool true,st):=by
 have g1:=Grew.ah hw (.cells (jE zt zg zy zr xt xg xy xr) 0);have ld4:∀(K:AV->St->Option (AV×St)),aq c (.load (some 4)) [.ptr st.next 0] (ah st (.cells (jE zt zg zy zr xt xg xy xr) 0)) K=K (.agg (jE zt zg zy zr xt xg xy xr)) (ah st (.cells (jE zt zg zy zr xt xg xy xr) 0)):=λK=>by rw[gW,aA];rfl
 obtain⟨Vs,s2,jb,j,J,s0,e2,g2,P2,Jg2⟩:=aqk hc ht hg hy hr lt lg lr ly zt zg zy zr _ g1.wf;obtain⟨vl,vo⟩:=P2.cells;have w2:=g2.wf;have st5:∀(K:AV->St->Option (AV×St)),aq c (.store 5) [.ptr s2.next 0,.agg Vs] (ah s2 (.cells [.af,.af,.af,.af,.af] 0)) K=K .undef (ah s2 (.cells Vs 0)):=λK=>cG c K s2 5 (.agg Vs) _ vl rfl vo
 have g3:=Grew.ah w2 (.cells Vs 0);have x3:=aA s2 (.cells Vs 0);obtain⟨s3,Gq⟩:∃s3,s3=ah s2 (.cells Vs 0):=⟨_,rfl⟩
 obtain⟨b3,hb3⟩:∃b3,b3=s2.next:=⟨_,rfl⟩
 rw[<-Gq]at st5 g3 x3;rw[<-hb3]at st5 x3;have P3:=P2.Yn g3;have Jg3:=Jg2.ai g3;have zC:=yG xt xg xy xr;have sz:=anE (xg:=xg) (xy:=xy) (xr:=xr) ht;have hN:=Jg3.sum;have hn:=Jg3.n;obtain⟨s4,v4,e4,M4⟩:=anz hc P3 sz zC.ts zC.gs hN z1 xs lx;have A:=anB (J:=J) (n:=(mP xt xg xy xr).gs.length) hn.symm xs;obtain⟨q,hq⟩:∃q,q=gY (List.replicate J.N false) (IA (Wv J.N xs) (mP xt xg xy xr).gs.length 0):=⟨_,rfl⟩
 rw[<-hq]at A M4;have g4:=M4.ai;have Jg4:=Jg3.ai g4;have x4:=g4.get x3;have P4:=P3.Yn g4;have srs:J.p.rs=(mP xt xg xy xr).rs:=Jg3.sim.rs;obtain⟨V1,V2,V3,V4,V5,r1,r2,rfl,_,_,_,_,h5⟩:=P4.all;have hV:QS 6 s4 V5 (J.p.rs.map Rl.cells):=by rw[srs];exact h5.own
 obtain⟨s5,G5,e5⟩:=aqt (c:=c) hc Jg4.ok Jg4.jw Jg4.bc M4.own A x4 rfl hV 2000000 (by omega) J.p.rs.length 0 2000000 s4 (by omega) (by have:=Jg4.jw.zC.rs;omega) (Grew.refl g4.wf);simp only[show((0:Nat):Int)=0 from rfl]at e5;have aw:=ava hc s5;have alr:=(g1.trans g2).trans (g3.trans (g4.trans G5));rw[GJ hc 2000000 (r:=(.bool true,s5)),aF (Plain.bool _) alr.keeps];rw[Kb];simp only[dy,show ∀l,AV.cells (.agg l)=l from λl=>rfl,az,ld4,cY,e2,cL,jK,Za4,Zb6,aW,dB, <-Gq, <-hb3,st5,Fw,Zj6,dQ,aeL x3 vl,e4,e5,bu,aw]
end
section
open Go Go.Ai Go.Proofs Go.Sort
def Tryz.ai3:Go.Shelf.Ren:=⟨λ|189=>39|125=>81|257=>80|128=>150|129=>151|294=>141|295=>142|296=>143|297=>144|298=>145|299=>146|216=>147|300=>148|301=>149|328=>192|329=>193|330=>194|331=>195|332=>196|215=>197|343=>230|n=>n,λ|28=>27|3=>3|46=>139|0=>0|51=>102|53=>191|4=>4|183=>183|182=>182|131=>61|5=>5|9=>9|218=>227|222=>231|228=>238|229=>239|n=>n,λ|n=>n⟩
theorem Tryz.adG:Go.Proofs.Lays.n189 Tryz.prog Tryz.ai3:={
 mixed:=by kernel_rfl
 f125:=Tryz.func81.trans (congrArg some (by kernel_rfl))
 f128:=Tryz.func150.trans (congrArg some (by kernel_rfl))
 f129:=Tryz.func151.trans (congrArg some (by kernel_rfl))
 f189:=Tryz.func39.trans (congrArg some (by kernel_rfl))
 f215:=Tryz.func197.trans (congrArg some (by kernel_rfl))
 f216:=Tryz.func147.trans (congrArg some (by kernel_rfl))
 f257:=Tryz.func80.trans (congrArg some (by kernel_rfl))
 f294:=Tryz.func141.trans (congrArg some (by kernel_rfl))
 f295:=Tryz.func142.trans (congrArg some (by kernel_rfl))
 f296:=Tryz.func143.trans (congrArg some (by kernel_rfl))
 f297:=Tryz.func144.trans (congrArg some (by kernel_rfl))
 f298:=Tryz.func145.trans (congrArg some (by kernel_rfl))
 f299:=Tryz.func146.trans (congrArg some (by kernel_rfl))
 f300:=Tryz.func148.trans (congrArg some (by kernel_rfl))
 f301:=Tryz.func149.trans (congrArg some (by kernel_rfl))
 f328:=Tryz.func192.trans (congrArg some (by kernel_rfl))
 f329:=Tryz.func193.trans (congrArg some (by kernel_rfl))
 f330:=Tryz.func194.trans (congrArg some (by kernel_rfl))
 f331:=Tryz.func195.trans (congrArg some (by kernel_rfl))
 f332:=Tryz.func196.trans (congrArg some (by kernel_rfl))
 f343:=Tryz.func230.trans (congrArg some (by kernel_rfl))
 t0:=Tryz.underlying0
 a0:=Tryz.isAgg0
 z0:=Tryz.sizeOf0
 v0:=Tryz.zeroValue0
 t3:=Tryz.underlying3
 a3:=Tryz.isAgg3
 z3:=Tryz.sizeOf3
 v3:=Tryz.zeroValue3
 t4:=Tryz.underlying4
 a4:=Tryz.isAgg4
 z4:=Tryz.sizeOf4
 v4:=Tryz.zeroValue4
 t5:=Tryz.underlying5
 a5:=Tryz.isAgg5
 z5:=Tryz.sizeOf5
 v5:=Tryz.zeroValue5
 t9:=Tryz.underlying9
 a9:=Tryz.isAgg9
 z9:=Tryz.sizeOf9
 v9:=Tryz.zeroValue9
 t28:=Tryz.underlying27
 a28:=Tryz.isAgg27
 z28:=Tryz.sizeOf27
 v28:=Tryz.zeroValue27
 t46:=Tryz.underlying139
 a46:=Tryz.isAgg139
 z46:=Tryz.sizeOf139
 v46:=Tryz.zeroValue139
 t51:=Tryz.underlying102
 a51:=Tryz.isAgg102
 z51:=Tryz.sizeOf102
 v51:=Tryz.zeroValue102
 t53:=Tryz.underlying191
 a53:=Tryz.isAgg191
 z53:=Tryz.sizeOf191
 v53:=Tryz.zeroValue191
 t131:=Tryz.underlying61
 a131:=Tryz.isAgg61
 z131:=Tryz.sizeOf61
 v131:=Tryz.zeroValue61
 t182:=Tryz.underlying182
 a182:=Tryz.isAgg182
 z182:=Tryz.sizeOf182
 v182:=Tryz.zeroValue182
 t183:=Tryz.underlying183
 a183:=Tryz.isAgg183
 z183:=Tryz.sizeOf183
 v183:=Tryz.zeroValue183
 t218:=Tryz.underlying227
 a218:=Tryz.isAgg227
 z218:=Tryz.sizeOf227
 v218:=Tryz.zeroValue227
 t222:=Tryz.underlying231
 a222:=Tryz.isAgg231
 z222:=Tryz.sizeOf231
 v222:=Tryz.zeroValue231
 t228:=Tryz.underlying238
 a228:=Tryz.isAgg238
 z228:=Tryz.sizeOf238
 v228:=Tryz.zeroValue238
 t229:=Tryz.underlying239
 a229:=Tryz.isAgg239
 z229:=Tryz.sizeOf239
 v229:=Tryz.zeroValue239 }
def Tryz.ai4:Go.Shelf.Ren:=⟨λ|20=>40|n=>n,λ|22=>27|3=>3|4=>4|0=>0|n=>n,λ|n=>n⟩
theorem Tryz.adH:Go.Proofs.Lays2.n20 Tryz.prog Tryz.ai4:={
 mixed:=by kernel_rfl
 f20:=Tryz.func40.trans (congrArg some (by kernel_rfl))
 t0:=Tryz.underlying0
 a0:=Tryz.isAgg0
 z0:=Tryz.sizeOf0
 v0:=Tryz.zeroValue0
 t3:=Tryz.underlying3
 a3:=Tryz.isAgg3
 z3:=Tryz.sizeOf3
 v3:=Tryz.zeroValue3
 t4:=Tryz.underlying4
 a4:=Tryz.isAgg4
 z4:=Tryz.sizeOf4
 v4:=Tryz.zeroValue4
 t22:=Tryz.underlying27
 a22:=Tryz.isAgg27
 z22:=Tryz.sizeOf27
 v22:=Tryz.zeroValue27
 i3:=by kernel_rfl }
section
variable{P:Program}{C:Cells}{ρ:Pos->Go.Ai.Loc}{st:St}{w:World}
theorem ahD{f:FuncId}{fn:Func}{c:Code}{s:List AV->St->Option (AV×St)}(hf:P.funcs[f]? =some fn)(oF:¬fn.name= "runtime.NumGoroutine")(hb:fn.body=some c)
  (hm:∀args st v st',s args st=some (v,st')->st.next.toNat<=st'.next.toNat)
  (h:∀(ρ:Pos->Go.Ai.Loc)(st:St)(w:World)(args:List AV)(v:AV)(st':St)(bZ:List Value),s args st=some (v,st')->bV ρ C st w->aJ ρ st.next.toNat C args bZ->
   Calls P f bZ.toArray w λe w'=>∃x,e= .returned x/\kV ρ C st w v st' x w'):pW P C f s where
 mono:=hm
 runs ρ st w args v st' bZ hh hW hv:=by
  have dJ:(callFunc f bZ.toArray).run P w= .ok (.enter f bZ.toArray) w:=by simp[callFunc,hf,oF,hb]
  rw[dJ];refine Calls.mono (h ρ st w args v st' bZ hh hW hv) λe w' he=> ?_
  obtain⟨x,rfl,hx⟩:=he;exact hx
theorem Na{v:AV}{x:Value}(hW:bV ρ C st w)(hv:aC ρ st.next.toNat C v x):kV ρ C st w v st x w:=⟨ρ,hv,λ_ _=>rfl,Za3 _,hW,oJ.refl _ _ _⟩
theorem Nb(os:Array Obj){k:Nat}(h:k<w.heap.size):(grow w os).heap[k]? =w.heap[k]? :=by simp[grow,Array.getElem?_append,h]
theorem WN{w w':World}{a:Addr}(h:w'.heap[a.block]? =w.heap[a.block]?):w'.cell? a=w.cell? a:=by unfold World.cell?;rw[h]
theorem aj8{a:Addr}{v:Value}(h:w.cell? a=some v):a.block<w.heap.size:=by
 unfold World.cell? at h;split at h
 .rename_i hh;exact(Zd2.1 hh).1
 .cases h
theorem avb(h:bV ρ C st w)(os:Array Obj):bV ρ C st (Go.Sort.grow w os) where
 live b x hb:=by
  obtain⟨a1,a2,a3⟩:=h.live b x hb;exact⟨a1,by rw[size_grow];omega,a3.of_heap (Nb os a2)⟩
 inj:=h.inj
 dS a v hc:=by
  obtain⟨a1,a2⟩:=h.dS a v hc;exact⟨(WN (Nb os (aj8 a1))).trans a1,a2⟩
 whole a v hc o ho:=(WN (a:=⟨a.block,o,none⟩) (Nb os (show a.block<w.heap.size from aj8 (h.dS a v hc).1))).trans (h.whole a v hc o ho)
theorem avc(ρ:Pos->Go.Ai.Loc)(st:St)(w:World)(os:Array Obj):oJ ρ st w ρ st (Go.Sort.grow w os):=⟨rfl,rfl,rfl,by rw[size_grow];omega,λk hk _=>Nb os hk,λb x hx=>.inl ⟨b,x,hx,rfl⟩⟩
theorem afj(off:Nat)(zs:List Int)(c:Array Value)(h:off+zs.length<=c.size):(putCells (Value.int .i64) off zs.toArray c).toList=aQ c.toList off (zs.map (Value.int .i64)):=by
 apply Zi3;intro k;rw[Cz _ _ (by simpa using by omega),putCells,Zi2,Array.getElem?_mapIdx,Zi2,Za5,Zb7];by_cases h1:k<off
 .rw[Zb4 h1,Zg0 (by omega),Zd9,Za6 (by omega)]
 . rw[Za6 h1];by_cases h2:k<off+zs.length
   .rw[Zb4 h2,Zg0 (by omega),Zd9,Zb4 ⟨by omega,by simpa using h2⟩,H0 (by omega)];simp[getElem!_pos,show k - off<zs.length by omega]
   . rw[Za6 h2];cases c[k]? with
     |none=>rfl
     |some y=>rw[Zd9,Za6 (by simpa using λ_=>by omega)]
theorem anW(hW:bV ρ C st w){b:Pos}{cs:List AV}(hb:st.heap.get b=some (.cells cs 0)){o:Nat}{zs:List Int}(hle:o+zs.length<=cs.length)(q:Nat)(os:Array Obj):
  bV ρ C (laid st b cs o zs) (Go.Sort.grow (putRow (Value.int .i64) (Go.Sort.ahead w q) (ρ b).aM ((ρ b).base+o) zs.toArray) os)/\oJ ρ st w ρ (laid st b cs o zs) (Go.Sort.grow (putRow (Value.int .i64) (Go.Sort.ahead w q) (ρ b).aM ((ρ b).base+o) zs.toArray) os):=by
 obtain⟨_,Cv,c,e,fr,g1,g2,g3,g4,g5⟩:=hW.live b _ hb;have hlen:(aQ cs o (qe zs)).length=cs.length:=by simp[aQ];omega
 have fQ:(putCells (Value.int .i64) ((ρ b).base+o) zs.toArray c).size=c.size:=by simp[putCells]
 have hz:aJ ρ st.next.toNat C (qe zs) (zs.map (Value.int .i64)):=⟨by simp,λi v x hv hx=>by
  rw[Zb7]at hv hx;cases hh:zs[i]? with
  |none=>rw[hh]at hv;cases hv
  |some z=>rw[hh]at hv hx;cases hv;cases hx;exact .int _ _⟩
 obtain⟨h1,h2⟩:=agl (w':=putRow (Value.int .i64) (Go.Sort.ahead w q) (ρ b).aM ((ρ b).base+o) zs.toArray) (x0:= .cells (aQ cs o (qe zs)) 0) hW hb rfl rfl rfl (by simp) (λk hk=>by
  simp only[putRow,mapBlock,Zj1,Za6 (Ne.symm hk),heap_ahead]) ⟨putCells (Value.int .i64) ((ρ b).base+o) zs.toArray c,e,fr,by
   simp only[putRow,mapBlock,Zj1,Zh1,heap_ahead,g1,Zd9,onCells],by rw[fQ];exact g2,by rw[hlen,fQ];exact g3,by
   rw[hlen,afj _ _ _ (by omega),NL _ _ _ _ (by simp;omega),Zq _ _ _ _ (by simp;omega) (by simp;omega)];exact g4.aQ hz o,λi hi OS=>g5 i hi (by rw[fQ]at OS;exact OS)⟩
 exact⟨avb h1 os,h2.trans (avc ρ _ _ os)⟩
theorem acj{n:Nat}:∀{vs:List AV}{xs:List Value}{zs:List Int},PW vs=some zs->aJ ρ n C vs xs->xs=zs.map (Value.int .i64)
 |[],xs,zs,h,hv=>by cases h;exact hv.ku
 |v ::vs,xs,zs,h,hv=>by
  obtain⟨x,Am,rfl,h1,h2⟩:=hv.cons_inv;unfold PW at h;split at h
  .rename_i heq;cases heq
  . rename_i heq;cases heq;split at h
    .   rename_i hr;cases h;rw[h1.iq,acj hr h2];rfl
    .   cases h
  .cases h
theorem aeN(hW:bV ρ C st w){b:Pos}{o n:Nat}{cs:List AV}{zs:List Int}(h:rowOf st b o n=some (cs,zs)):
   st.heap.get b=some (.cells cs 0)/\zs.length=n/\n<=1000000/\(0<n->o+n<=cs.length)/\(ρ b).aM<w.heap.size/\Holds (Value.int .i64) w (ρ b).aM ((ρ b).base+o) zs.toArray:=by
 unfold rowOf at h;split at h<;>first|(cases h;done)|skip
 rename_i mJ hb;split at h<;>first|(cases h;done)|skip
 rename_i zs' hz;split at h<;>first|(cases h;done)|skip
 rename_i hl;cases h;rw[Zb2]at hl;have hl1:=Za7 hl.1;have ri:=Zb5 hl.2;obtain⟨_,Cv,c,e,fr,g1,g2,g3,g4,g5⟩:=hW.live b _ hb;have hx:=acj hz ((g4.drop o).take n);have hn:0<n->o+n<=cs.length:=λh0=>by have:=congrArg List.length hx;simp only[Zg7,Zp1,Za5,Zi0]at this;omega
 refine⟨hb,hl1,ri,hn,Cv,λj hj=> ?_⟩;have hj:j<n:=by simpa [hl1]using hj
 have hn:=hn (by omega);constructor
 .have:=congrArg (·[j]?) hx;simp only[Ze3,Zb4 hj,Ze5,Zb7]at this;rw[Zb4 (by omega),H0 (show j<zs.length by omega)]at this;simp only[World.cell?,g1];rw[show(ρ b).base+o+j=(ρ b).base+(o+j)by omega];simpa [getElem!_pos,show j<zs.length by omega]using this
 .simp only[World.frozen?,g1];have:=g5 (o+j) (Zi1 _) (by omega);rw[show(ρ b).base+o+j=(ρ b).base+(o+j)by omega];simpa using this
end
theorem anX{C:Cells}:pW Tryz.prog C 39 Sq:=
 ahD Tryz.func39 (by decide) rfl (λargs st v st' h=>by
  unfold Sq at h
  repeat' split at h
  all_goals first|(cases h;done)|skip
  all_goals (injection h with h;injection h with h1 h2;rw[<-h2];exact Za3 _)) λρ st w args v st' bZ h hW hv=>by
  unfold Sq at h;split at h
  .  cases h;obtain⟨x,xs,rfl,h1,h2⟩:=hv.cons_inv;have:=h2.ku;subst this;rw[h1.ir];exact(Any.slices_Sort_int_none Tryz.adG none 0 w).mono λe w' he=>by
        obtain⟨rfl,rfl⟩:=he;exact⟨_,rfl,Na hW (.qt (by simpa using aJ.nil))⟩
  .  obtain⟨x,xs,rfl,h1,h2⟩:=hv.cons_inv;have:=h2.ku;subst this;obtain⟨a,bn,rfl,hle,hcp,ha⟩:=h1.fA;split at h
     .  cases h;exact(Any.slices_Sort_int_none Tryz.adG (some a) bn w).mono λe w' he=>by
         obtain⟨rfl,rfl⟩:=he;exact⟨_,rfl,Na hW (.qt (by simpa using aJ.nil))⟩
     .  (split at h<;>first|(cases h;done)|skip);rename_i cs zs hr;cases h;obtain⟨hb,hl,ri,hn,Cv,hH⟩:=aeN hW hr;obtain⟨_,rfl,_⟩:=ha (by omega);rw[show Nat.succ _=zs.length from hl.symm];exact(Any.slices_Sort_int Tryz.adG _ _ bn zs w hH Cv (by omega)).mono λe w' he=>by
         obtain⟨rfl,n,os,rfl⟩:=he;obtain⟨k1,k2⟩:=anW hW hb (o:=_) (zs:=Bb zs) (by rw[Bb,List.length_mergeSort,hl];exact hn (by omega)) n os;exact⟨_,rfl,ρ,.qt (by simpa using aJ.nil),λ_ _=>rfl,Za3 _,k1,k2⟩
  .  cases h
theorem ahE{C:Cells}:pW Tryz.prog C 40 Bs:=
 ahD Tryz.func40 (by decide) rfl (λargs st v st' h=>by
  unfold Bs at h
  repeat' split at h
  all_goals first|(cases h;done)|skip
  all_goals (injection h with h;injection h with h1 h2;rw[<-h2];exact Za3 _)) λρ st w args v st' bZ h hW hv=>by
  unfold Bs at h;split at h
  .  cases h;obtain⟨x,xs,rfl,h1,h2⟩:=hv.cons_inv;have:=h2.ku;subst this;rw[h1.ir];exact(Any.slices_Compact_int_empty Tryz.adH none 0 w).mono λe w' he=>by
        obtain⟨rfl,rfl⟩:=he;exact⟨_,rfl,Na hW .af⟩
  .  obtain⟨x,xs,rfl,h1,h2⟩:=hv.cons_inv;have:=h2.ku;subst this;obtain⟨a,bn,rfl,hle,hcp,ha⟩:=h1.fA;split at h
     .  cases h;exact(Any.slices_Compact_int_empty Tryz.adH (some a) bn w).mono λe w' he=>by
         obtain⟨rfl,rfl⟩:=he;exact⟨_,rfl,Na hW h1⟩
     .  (split at h<;>first|(cases h;done)|skip);rename_i cs zs hr;cases h;obtain⟨hb,hl,ri,hn,Cv,hH⟩:=aeN hW hr;have apg:=h1.Vi;obtain⟨hbn,rfl,hbd⟩:=ha (by omega);rw[show Nat.succ _=zs.length from hl.symm];have hle2:=hn (by omega);rw[<-hl]at hle2;have hcl:(Lib.compact zs).length<=zs.length:=Ob zs;exact(Any.slices_Compact_int Tryz.adH _ _ bn zs w hH (by omega) (by omega)).mono λe w' he=>by
         obtain⟨rfl,n,rfl⟩:=he;obtain⟨k1,k2⟩:=anW hW hb (o:=_) (zs:=Lib.compact zs++List.replicate (zs.length - (Lib.compact zs).length) 0) (Zb3 (Nat.add_le_add_left (Zr6 (by rw[Zd8,Zk3];omega)) _) hle2) n #[];rw[grow_empty]at k1 k2;exact⟨_,rfl,ρ,.slice _ _ _ _ _ bn _ (by omega) hcp (λ_=>⟨hbn,rfl,hbd⟩) apg,λ_ _=>rfl,Za3 _,k1,k2⟩
  .  cases h
end
section
open Go Go.Ai Go.Proofs Go.RowKit
theorem aa4{α:Type}{P:α->Prop}{cells:α->List AV}:∀(rs:List (List AV)),(∀r∈rs,∃t,r=cells t/\P t)->∃l:List α,rs=l.map cells/\∀t∈l,P t
 |[],_=>⟨[],rfl,by simp⟩
 |r::rs,h=>by
  obtain⟨t,rfl,ht⟩:=h r (by simp);obtain⟨l,rfl,hl⟩:=aa4 rs (λq hq=>h q (Zb0 _ hq));refine⟨t::l,rfl,λu hu=> ?_⟩;rcases Za9.1 hu with rfl|hu
  .exact ht
  .exact hl u hu
section
variable{H:Type}{enc:TypeId×Value->H}{w:World}{base:Nat}{spare:Nat->Bool}{held:Bool}
theorem wf_u8{i:Int}(h:(Lit.int .u8 i).wf=true):0<=i/\i<256:=by
 have e1:IntKind.min .u8=0:=by decide
 have e2:IntKind.max .u8=255:=by decide
 have h:(decide (IntKind.min _<=i)&&decide (i<=IntKind.max _))=true:=h;rw[e1,e2,Zb2,Ze7,Ze7]at h;omega
theorem wf_u16{i:Int}(h:(Lit.int .u16 i).wf=true):0<=i/\i<65536:=by
 have e1:IntKind.min .u16=0:=by decide
 have e2:IntKind.max .u16=65535:=by decide
 have h:(decide (IntKind.min _<=i)&&decide (i<=IntKind.max _))=true:=h;rw[e1,e2,Zb2,Ze7,Ze7]at h;omega
theorem wf_u32{i:Int}(h:(Lit.int .u32 i).wf=true):0<=i/\i<4294967296:=by
 have e1:IntKind.min .u32=0:=by decide
 have e2:IntKind.max .u32=4294967295:=by decide
 have h:(decide (IntKind.min _<=i)&&decide (i<=IntKind.max _))=true:=h;rw[e1,e2,Zb2,Ze7,Ze7]at h;omega
def GK(k:IntKind)(n:Nat)(vs:List AV):Prop:=∃(z:Bool) (l:List Nat),vs=[eM k z l]/\(∀x∈l,x<n)/\l.length<=9223372036854775807
theorem Su{t e:TypeId}{k:IntKind}{n:Nat}(ht:Tryz.prog.underlying t=some (.slice e))(he:Tryz.prog.underlying e=some (.int k))(hc:Tryz.prog.cellsOf e=1)(hk:∀i,(Lit.int k i).wf=true->0<=i/\i<(n:Int)):
  oX enc Tryz.prog w base spare held t (GK k n):=by
 refine oX.mono (ZH (es:=1) ht hc (by omega) (λvs h=>by obtain⟨i,rfl,_⟩:=h;rfl) (aex he)) λvs h=> ?_
 obtain⟨z,rs,rfl,h1,h2⟩:=h;obtain⟨l,rfl,hl⟩:=aa4 (P:=λx:Nat=>x<n) (cells:=λx:Nat=>[AV.int k (x:Int)]) rs λr hr=>by
  obtain⟨i,rfl,hi⟩:=h1 r hr;have:=hk i hi;exact⟨i.toNat,by rw[show((i.toNat:Nat):Int)=i by omega],by omega⟩
 refine⟨z,l,rfl,hl,?_⟩;rw[Za5]at h2;unfold Go.maxLen at h2;omega
def aue(vs:List AV):Prop:=∃(z:Bool) (l:List Int),vs=[ints z l]/\l.length<=9223372036854775807
theorem aqu:oX enc Tryz.prog w base spare held 27 aue:=by
 refine oX.mono (ZH (es:=1) (e:=3) (by kernel_rfl) (by kernel_rfl) (by omega) (λvs h=>by obtain⟨i,rfl,_⟩:=h;rfl) (aex (k:= .i64) (by kernel_rfl))) λvs h=> ?_
 obtain⟨z,rs,rfl,h1,h2⟩:=h;obtain⟨l,rfl,_⟩:=aa4 (P:=λ_:Int=>True) (cells:=λx:Int=>[AV.int .i64 x]) rs λr hr=>by
  obtain⟨i,rfl,hi⟩:=h1 r hr;exact⟨i,rfl,trivial⟩
 refine⟨z,l,rfl,?_⟩;rw[Za5]at h2;unfold Go.maxLen at h2;omega
theorem aeO:oX enc Tryz.prog w base spare held 22 (GK .u8 256):=Su (e:=5) (by kernel_rfl) (by kernel_rfl) (by kernel_rfl) λ_ h=>wf_u8 h
theorem alx:oX enc Tryz.prog w base spare held 23 (GK .u16 65536):=Su (e:=99) (by kernel_rfl) (by kernel_rfl) (by kernel_rfl) λ_ h=>wf_u16 h
theorem aly:oX enc Tryz.prog w base spare held 24 (GK .u32 4294967296):=Su (e:=102) (by kernel_rfl) (by kernel_rfl) (by kernel_rfl) λ_ h=>wf_u32 h
structure avd(xt xg xy xr:List Nat):Prop where
 t:∀x∈xt,x<256
 g:∀x∈xg,x<65536
 y:∀x∈xy,x<256
 r:∀x∈xr,x<4294967296
 lt:xt.length<=9223372036854775807
 lg:xg.length<=9223372036854775807
 ly:xy.length<=9223372036854775807
 lr:xr.length<=9223372036854775807
theorem afk:oX enc Tryz.prog w base spare held 26 λvs=>∃zt zg zy zr xt xg xy xr,vs=jE zt zg zy zr xt xg xy xr/\avd xt xg xy xr:=by
 refine oX.mono (agZ [22,23,22,24] (Qs:=[GK .u8 256,GK .u16 65536,GK .u8 256,GK .u32 4294967296]) (by kernel_rfl) (by kernel_rfl) (by kernel_rfl) ⟨aeO,alx,aeO,aly,trivial⟩) λvs h=> ?_
 obtain⟨ps,rfl,m0⟩:=h;obtain⟨p0,q0,rfl,⟨z1,l1,rfl,a1,b1⟩,m1⟩:=Gt m0;obtain⟨p0,q0,rfl,⟨z2,l2,rfl,a2,b2⟩,m2⟩:=Gt m1;obtain⟨p0,q0,rfl,⟨z3,l3,rfl,a3,b3⟩,m3⟩:=Gt m2;obtain⟨p0,q0,rfl,⟨z4,l4,rfl,a4,b4⟩,m4⟩:=Gt m3;obtain rfl:=ag8 m4;exact⟨z1,z2,z3,z4,l1,l2,l3,l4,rfl,⟨a1,a2,a3,a4,b1,b2,b3,b4⟩⟩
end
end
end Go.Proofs.YtgihekklfnjkiaaGreatDoor
namespace Go.Proofs.YtgihekklfnjkiaaGreatDoor.Dd
section
open Go
theorem k1:(Rows.judgeBlameRow.inPlace==Tryz.pinned.checked.prog.inPlace 3)=true:=by kernel_rfl
theorem k2:(Rows.judgeBlameRow.unfollowed==Tryz.pinned.checked.prog.unfollowed 3)=true:=by kernel_rfl
theorem k3:(Rows.judgeBlameRow.recurses==Tryz.pinned.checked.prog.recurses 3)=true:=by kernel_rfl
theorem k4:(Rows.judgeBlameRow.named==Tryz.pinned.checked.prog.varsNamed 3)=true:=by kernel_rfl
theorem k5:laidOutB Tryz.pinned.checked.prog=true:=by kernel_rfl
theorem k6:mapsRowed Tryz.pinned.checked.prog=true:=by kernel_rfl
theorem k7:(Rows.judgeBlameRow.plainKeys==Tryz.pinned.checked.prog.plainKeys)=true:=by kernel_rfl
theorem closed:joinedFacts Tryz.pinned.checked.prog 3 Tryz.f3 (OpenSpec.ofChange Rows.judgeBlameSpec).bare Rows.judgeBlameRow=true:=by
 unfold joinedFacts;rw[k1,k2,k3,k4,k5,k6,k7]
 kernel_rfl
end
end Go.Proofs.YtgihekklfnjkiaaGreatDoor.Dd
