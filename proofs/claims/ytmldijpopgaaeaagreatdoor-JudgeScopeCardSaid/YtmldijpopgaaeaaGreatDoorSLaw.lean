/- The law. -/
import Derived.Test.YtmldijpopgaaeaaGreatDoorSJudgeA
import Derived.Shelf.Sort.Plain
import Derived.Shelf.Slices.CompactI
import Derived.Shelf.Slices.In.SortNone
import Derived.Test.YtmldijpopgaaeaaGreatDoorRows
import Derived.Deep.DeepHandedRow
set_option linter.all false
set_option maxRecDepth 100000
set_option maxHeartbeats 4000000
namespace Go.Proofs.YtmldijpopgaaeaaGreatDoor
section
open Go Go.Ai Go.Proofs
variable{c:aj}
def uu(l:List Ev):List Int:=l.flatMap λe=>e.2
theorem arF(l m:List Ev):uu (l++m)=uu l++uu m:=by unfold uu;rw[List.flatMap_append]
theorem aeN:∀l:List Ev,(uu l).length<=fK l
 |[]=>Za3 _
 |e::l=>by have:=aeN l;show _<=(List.map _ (e::l)).sum;rw[Zd1,Zn2,uu,Zm3,Zd6];unfold uu fK at this;omega
theorem acg(w:List Int):(w.map bC).flatten=qN w:=by
 induction w with
 |nil=>rfl
 |cons a w ih=>rw[Zd1,Zf8,ih];rfl
theorem aud(w:List Int):aQ (qN w)=true:=by
 induction w with
 |nil=>rfl
 |cons a w ih=>rw[qN,Zd1];unfold aQ;exact ih
theorem aue{a b:List Int}(h:qN a=qN b):a=b:=by
 induction a generalizing b with
 |nil=>cases b with|nil=>rfl|cons y b=>simp at h
 |cons x a ih=>
  cases b with
  |nil=>simp at h
  |cons y b=>
   simp only[Zd1,Zf9,AV.int.injEq,Zr4]at h;rw[h.1,ih h.2]
def JE(s:St)(v:AV)(w:List Int):Prop:=(v= .af/\w=[])\/∃b,w≠[]/\v= .slice b 0 w.length none 1/\s.heap.get b=some (.cells (qN w) 0)
theorem JE.qs{s:St}{v:AV}{w:List Int}(h:JE s v w):QS 1 s v (w.map bC):=by
 rcases h with⟨rfl,rfl⟩|⟨b,_,rfl,hb⟩
 .exact QS.nil
 .refine .inr (.inl ⟨b,0,none,qN w,by rw[Za4],hb,by simp,?_,.inl rfl⟩);rw[acg,Ze5];exact Zf1 (by simp)
theorem JE.mono{s s':St}{v:AV}{w:List Int}(h:JE s v w)(hk:∀b x,aL v=some b->s.heap.get b=some x->s'.heap.get b=some x):JE s' v w:=by
 rcases h with h|⟨b,a1,rfl,hb⟩
 .exact .inl h
 .exact .inr ⟨b,a1,rfl,hk b _ (je ..) hb⟩
theorem auf{s:St}{v W:AV}{w who:List Int}(hw:Wf s)(h:JE s v w)(hW:QS 1 s W (who.map bC))(hB:w.length+who.length<=1000000):
   ∃s5 v',(∀(K:AV->St->Option (AV×St)),aq c (.append 1 8) [v,W] s K=K v' s5)/\JE s5 v' (w++who)/\Wf s5/\s.next.toNat<=s5.next.toNat/\
    (∀p x,aL v≠some p->s.heap.get p=some x->s5.heap.get p=some x)/\∀b,aL v'=some b->aL v=some b\/s.next.toNat<=b.toNat:=by
 have hl:=hW.len;rw[Za4]at hl;have fx:=hW.first (λr hr=>by obtain⟨x,_,rfl⟩:=Zc7.1 hr;rfl);rw[acg,Za4]at fx;by_cases h0:who=[]
 . subst h0;rw[Zd9];refine⟨s,v,λK=> ?_,h,hw,Za3 _,λp x _ hx=>hx,λb hb=>.inl hb⟩;have run:aG.run (λb=>s.heap.get b) s.next (.append 1 8) [v,W]=some (.val v):=by
    rcases h with⟨rfl,rfl⟩|⟨b,cY,rfl,hb⟩
    .   simp only[aG.run,iE];rw[show dV .af=some 0 from rfl,hl];rfl
    .   simp only[aG.run,iE];have h1:(2*(w.length+0)+768)*8<=281474976710656:=(by simp at hB;omega);have h2:w.length+0<=9223372036854775807:=(by simp at hB;omega);rw[show dV (.slice b 0 w.length none 1)=some w.length from rfl,hl];simp only[Zi2,cU,cO,Za0 h1,Za0 h2,Zg6]
   unfold aq cJ;rw[run]
 have hp:0<who.length:=Zq0.2 h0;have hm:¬who.length=0:=by omega
 rcases h with⟨rfl,rfl⟩|⟨b,cY,rfl,hb⟩
 . rw[Ze3];have h1:(2*(0+who.length)+768)*8<=281474976710656:=(by simp at hB;omega);have h2:0+who.length<=9223372036854775807:=(by simp at hB;omega);refine⟨ah s (.cells (qN who) 0),.slice s.next 0 who.length none 1,λK=> ?_,.inr ⟨s.next,h0,rfl,aA _ _⟩,bG hw,by rw[bP,Pos.aF];omega,λp x _ hx=>by rw[uq (hw _ _ hx)];exact hx,λb hb=>by rw[je]at hb;cases hb;exact .inr (Za3 _)⟩;have run:aG.run (λb=>s.heap.get b) s.next (.append 1 8) [.af,W]=some (.bk (.slice s.next 0 who.length none 1) none none (some (.cells (qN who) 0))):=by
    simp only[aG.run,iE];rw[show dV .af=some 0 from rfl,hl];simp only[cU,cO,Za0 h1,Za0 h2,Za1 hm,fx]
   unfold aq cJ;rw[run];rfl
 . have h1:(2*(w.length+who.length)+768)*8<=281474976710656:=(by omega);have h2:w.length+who.length<=9223372036854775807:=(by omega);have hn:¬w.length*1=0:=(by have:=Zq0.2 cY;omega);have fw:dF 1 w.length (λb=>s.heap.get b) (.slice b 0 w.length none 1)=some (qN w):=by
    simp only[dF,cO,Za1 hn,hb];exact cQ (by simp)
   refine⟨dst s b (.cells (qN (w++who)) 0),.slice s.next 0 (w++who).length none 1,λK=> ?_,.inr ⟨s.next,by simp[h0],rfl,ZP _ _ _⟩,ah8 hw,by show _<=s.next.succ.toNat;rw[Pos.aF];omega,λp x hp hx=>by
    rw[To (λe=>hp (by rw[e,je])) (hw _ _ hx)];exact hx,λb hb=>by rw[je]at hb;cases hb;exact .inr (Za3 _)⟩
   have run:aG.run (λb=>s.heap.get b) s.next (.append 1 8) [.slice b 0 w.length none 1,W]=some (.bk (.slice s.next 0 (w.length+who.length) none 1) (some b) none (some (.cells (qN w++qN who) 0))):=(by simp only[aG.run,iE];rw[show dV (.slice b 0 w.length none 1)=some w.length from rfl,hl];simp only[cU,cO,Za0 h1,Za0 h2,Za1 hm,hb,fw,fx,aud];simp);unfold aq cJ;have ea:qN (w++who)=qN w++qN who:=Zc8;rw[run,Zd6,ea];rfl
def BI(s0:St)(nb:Pos)(s:St)(l:List Ev):Prop:=Grew s0 s/\∃v,s.heap.get nb=some (.cells [v] 0)/\JE s v (uu l)/\∀b,aL v=some b->s0.next.toNat<=b.toNat/\b≠nb
def BM(nb:Pos)(s:St)(b:Pos):Prop:=b=nb\/∃v,s.heap.get nb=some (.cells [v] 0)/\aL v=some b
theorem aiO{s:St}{v:AV}{w:List Int}(h:JE s v w):v.cells=[v]/\AV.one v=true/\aQ [v]=true:=by
 rcases h with⟨rfl,_⟩|⟨b,_,rfl,_⟩<;>exact⟨rfl,rfl,rfl⟩
theorem aoU(hc:bw c){s s5:St}{nb:Pos}{v v' W:AV}{k:Int}(hv:s.heap.get nb=some (.cells [v] 0))(ha:∀(K:AV->St->Option (AV×St)),aq c (.append 1 8) [v,W] s K=K v' s5)
  (h5:s5.heap.get nb=some (.cells [v] 0)) (h1:v'.cells=[v']) (h2:aQ [v']=true):
  c 34 [.int .i64 k,W,.ptr nb 0] s=some (Go.Ai.tidy s (.tuple [],bh s5 nb (.cells [v'] 0))):=by
 refine Qa hc 1 ?_;have st:=cm c (λ(_:AV)(s:St)=>some (AV.tuple [],s)) s5 1 nb 0 v' [v] h5 (by rw[h1];rfl) (Za3 _) (by rw[h1];exact h2);rw[Uf];simp only[aT,hv,aD,Za9,Za5,aR,av,ha];rw[st,h1];rfl
theorem BI.back{s0 s s':St}{nb:Pos}{l l':List Ev}(h:BI s0 nb s l)(h':BI s0 nb s' l')(hk:aX s s'):BI s0 nb s l':=by
 obtain⟨v,a1,a2,a3⟩:=h.2;obtain⟨v',b1,b2,b3⟩:=h'.2;have e1:=hk nb _ a1;rw[b1]at e1;simp only[H5,AB.cells.injEq,Zf9,Zm5]at e1;subst e1;have e:uu l'=uu l:=by
  rcases a2 with⟨rfl,e⟩|⟨b,e,rfl,hb⟩
  . rcases b2 with⟨_,e'⟩|⟨b,_,e',_⟩
    .   rw[e,e']
    .   cases e'
  . rcases b2 with⟨e',_⟩|⟨b',_,e',dY⟩
    .   cases e'
    .   (injection e' with e2);subst e2;have e3:=hk b _ hb;rw[dY]at e3;simp only[H5,AB.cells.injEq,Zm5]at e3;exact aue e3
 exact⟨h.1,_,a1,by rw[e];exact a2,a3⟩
theorem aoV(hc:bw c){s0:St}(w0:Wf s0){nb:Pos}(hnb:s0.next.toNat<=nb.toNat):kK c (.func 34 [] [.ptr nb 0]) s0 (BI s0 nb) (BM nb) where
 ai h:=h.1
 grow h g:=⟨h.1.trans g,by obtain⟨v,a1,a2,a3⟩:=h.2;exact⟨v,g.get a1,a2.mono λb x _ hx=>g.get hx,a3⟩⟩
 mJ {s s' l b} h g hm:=by
  obtain⟨v,a1,a2,a3⟩:=h.2;rcases hm with rfl|⟨v',b1,b2⟩
  .exact .inl rfl
  .rw[g.get a1]at b1;cases b1;exact .inr ⟨v,a1,b2⟩
 mlt {s l b} h hm:=by
  obtain⟨v,a1,a2,_⟩:=h.2;rcases hm with rfl|⟨v',b1,b2⟩
  .exact h.1.wf _ _ a1
  .rw[a1]at b1;cases b1;exact a2.qs.lt h.1.wf b2
 back h h' hk:=h.back h' hk
 call { s l k W who} h hW hB:=by
  obtain⟨v,a1,a2,a3⟩:=h.2;have hl:=aeN l;obtain⟨s5,v',z1,z2,z3,z4,z5,z6⟩:=auf (c:=c) h.1.wf a2 hW (by omega);have cY:aL v≠some nb:=λe=>(a3 _ e).2 rfl
  have h5:=z5 nb _ cY a1;have f1:=aoU hc (k:=(k:Int)) a1 z1 h5 (aiO z2).1 (aiO z2).2.2;have aW:=z3 _ _ h5;have aml:=h.1.wf _ _ a1;have Q3:=h.1.next;have ew:uu (l++[(k,who)])=uu l++who:=by rw[arF];simp[uu]
  have G5:Grew s0 s5:=⟨z3,λb x hb=>z5 b x (λe=>by have h1:=(a3 _ e).1;have h2:=w0 _ _ hb;omega) (h.1.get hb),Zb2 Q3 z4⟩
  have B':BI s0 nb (bh s5 nb (.cells [v'] 0)) (l++[(k,who)]):=⟨wF w0 G5 hnb aW _,v',bH _ _ _,by
    rw[   ew];exact z2.mono λb x hb hx=>by
        rw[aJ (λe=>by
          subst e;rcases z6 _ hb with h6|h6
          .exact cY h6
          .omega)]
        exact hx,λb hb=>by
        rcases z6 _ hb with h6|h6
        .exact a3 b h6
        .exact⟨by omega,λe=>by subst e;omega⟩⟩
  have F':gZ (BM nb) s (bh s5 nb (.cells [v'] 0)):=⟨z4,iU z3 aW,λb x hb hx=>by
    have kj:b≠nb:=λe=>hb (.inl e)
    have uE:aL v≠some b:=λe=>hb (.inr ⟨v,a1,e⟩)
    refine⟨by rw[aJ (λe=>kj e.symm)];exact z5 b x uE hx,λhm=> ?_⟩;rcases hm with e|⟨u,e1,e2⟩
    .   exact kj e
    .   rw[bH]at e1;cases e1;rcases z6 _ e2 with h6|h6
        .exact uE h6
        .have:=h.1.wf _ _ hx;omega⟩
  unfold tidy at f1;split at f1
  .rename_i hk;exact⟨s,.tuple [],λK=>by rw[fP];simp only[Ze3,Zd5];rw[f1];rfl,h.back B' hk.2,gZ.refl h.1.wf⟩
  .exact⟨_,.tuple [],λK=>by rw[fP];simp only[Ze3,Zd5];rw[f1];rfl,B',F'⟩
 one:=⟨rfl,rfl⟩
theorem amL(w:List Int):Rs (qN w)=some w:=by
 induction w with
 |nil=>rfl
 |cons a w ih=>rw[qN,Zd1];unfold Rs;rw[show List.map (AV.int .i64) w=qN w from rfl,ih]
theorem af3{s:St}{b:Pos}{w:List Int}(h:s.heap.get b=some (.cells (qN w) 0))(hl:w.length<=1000000):rowOf s b 0 w.length=some (qN w,w):=by
 unfold rowOf;rw[h];have e:((qN w).drop 0).take w.length=qN w:=by rw[Ze5];exact Zf1 (by simp)
 simp only[e,amL,cO,cU,Zg6,Za0 hl,Zj4]
theorem amM(l vs:List AV)(h:vs.length=l.length):aU l 0 vs=vs:=by
 unfold aU;rw[Zq9,Ze3,Zb8,h,List.drop_length,Zd9]
theorem aiP(s:St)(b:Pos){w z:List Int}(h:z.length=w.length):laid s b (qN w) 0 z=bh s b (.cells (qN z) 0):=by unfold laid;rw[amM _ _ (by simp[h])];rfl
theorem arG{s:St}{v:AV}{w:List Int}(hw:Wf s)(h:JE s v w)(hl:w.length<=1000000):
   ∃s',Ug [v] s=some (.tuple [],s')/\JE s' v (B4 w)/\Wf s'/\s'.next=s.next/\∀p,aL v≠some p->s'.heap.get p=s.heap.get p:=by
 rcases h with⟨rfl,rfl⟩|⟨b,cY,rfl,hb⟩
 .exact⟨s,rfl,.inl ⟨rfl,Zc2 (by rw[Dj];rfl)⟩,hw,rfl,λ_ _=>rfl⟩
 . have aW:=hw _ _ hb;have hr:=af3 hb hl;refine⟨bh s b (.cells (qN (B4 w)) 0),?_,.inr ⟨b,λe=> ?_,by rw[Dj],bH _ _ _⟩,iU hw aW,rfl,λp hp=>aJ (λe=>hp (by rw[je,e]))⟩
   . rw[<-aiP s b (Dj w)];cases w with
     |nil=>exact absurd rfl cY
     |  cons a t=>
        simp only[Ug,Zc6]at hr ⊢;rw[hr]
   .have:=Dj w;rw[e]at this;exact cY (Zc2 this.symm)
theorem aki{s:St}{v:AV}{w:List Int}(hw:Wf s)(h:JE s v w)(hl:w.length<=1000000):
   ∃s' v',Ci [v] s=some (v',s')/\QS 1 s' v' ((Lib.compact w).map bC)/\((v'= .af/\Lib.compact w=[])\/∃b n,v'= .slice b 0 n none 1)/\Wf s'/\s'.next=s.next/\∀p,aL v≠some p->s'.heap.get p=s.heap.get p:=by
 have hcl:=Qb w;rcases h with⟨rfl,rfl⟩|⟨b,cY,rfl,hb⟩
 .exact⟨s,.af,rfl,QS.nil,.inl ⟨rfl,rfl⟩,hw,rfl,λ_ _=>rfl⟩
 . have aW:=hw _ _ hb;have hr:=af3 hb hl;have hz:(Lib.compact w++List.replicate (w.length - (Lib.compact w).length) 0).length=w.length:=(by rw[Zd6,Zo7];omega);refine⟨bh s b (.cells (qN (Lib.compact w++List.replicate (w.length - (Lib.compact w).length) 0)) 0),.slice b 0 (Lib.compact w).length none 1,?_,.inr (.inl ⟨b,0,none,_,by rw[Za4],bH _ _ _,?_,?_,.inl rfl⟩),.inr ⟨b,_,rfl⟩,iU hw aW,rfl,λp hp=>aJ (λe=>hp (by rw[je,e]))⟩
   . rw[<-aiP s b hz];cases w with
     |nil=>exact absurd rfl cY
     |  cons a t=>
        simp only[Ci,Zc6]at hr ⊢;rw[hr];rfl
   .rw[Za4,Za4,hz];omega
   .rw[acg,Ze5,Za4,Zn5,qN,Zc8,Zk7 (by simp),Zf1 (by simp)]
section
variable{s:St}{jb:Pos}{j:Jc}{J:Jt}{P:AV}{q:List Int}
theorem arH(hc:bw c)(O:OkJ J)(jw:JW s jb j J)(w0:Wf s)(pq:QS 1 s P (q.map bC))(hq:F0 J q){i:Nat}{r:Rl}(hi:J.p.rs[i]? =some r):
   ∃(g:List Int) (s':St) (v:AV) (bl:List Int),BX J.N q=some g/\c 13 [.ptr jb 0,P,.int .i64 (i:Int)] s=some (v,s')/\Grew s s'/\QS 1 s' v (bl.map bC)/\bl.length<=1000000/\∀x,x∈bl↔x∈uu (gI J q g r):=by
 obtain⟨g,vb,G,s1,hg,lk,gr,V⟩:=look_ok hc jw w0 pq hq;obtain⟨m,R⟩:=O.rul r (Zc1 hi);have g1:=Grew.ah V.wf (.cells [.af] 0);have H:=aoV hc V.wf (Za3 s1.next.toNat);have I1:BI s1 s1.next (ah s1 (.cells [.af] 0)) []:=⟨g1,.af,aA _ _,.inl ⟨rfl,rfl⟩,λb hb=>by cases hb⟩
 obtain⟨f,s2,e1,e2,e3⟩:=alf hc H V O.cls R I1;have hN:=V.Ef;have kL:=V.ql;have hE:=acd (g:=g) (by omega) hN.2 V.jw.sF.ts R kL;have ze:=aeN (gI J q g r);obtain⟨v,k1,k2,k3⟩:=e3.2;obtain⟨s3,a1,a2,a3,a4,a5⟩:=arG e3.1.wf k2 (by omega);obtain⟨s4,v',b1,b2,b3,b4,b5,b6⟩:=aki a3 a2 (by rw[Dj];omega);have cY:aL v≠some s1.next:=λe=>(k3 _ e).2 rfl
 have k4:s3.heap.get s1.next=some (.cells [v] 0):=(a5 _ cY).trans k1;have G14:Grew s1 s4:=⟨b4,λb x hb=>by
   have hn:aL v≠some b:=λe=>by have h1:=(k3 _ e).1;have h2:=V.wf _ _ hb;omega
   rw[b6 _ hn,a5 _ hn];exact e3.1.get hb,by rw[b5,a4];exact e3.1.next⟩
 have G4:=gr.trans G14;have cs:c 35 [v] s2=some (.tuple [],s3):=hc.at (s:=Ug) rfl a1;have cp:c 36 [v] s3=some (v',s4):=hc.at (s:=Ci) rfl b1;have T:c 13 [.ptr jb 0,P,.int .i64 (i:Int)] s=some (Go.Ai.tidy s (v',s4)):=by
   (refine Uh hc 1 ?_;have ln:=λ(K:AV->St->Option (AV×St))=>V.jw.jf.lenB (c:=c) K s1);(rw[Za4]at ln;have fH:=(Za2.1 hi).1;have d1:decide ((i:Int)<0)=false:=Za1 (by omega);have d2:decide ((J.p.rs.length:Int)<=(i:Int))=false:=Za1 (by omega);have vc0:=V.vc;have jc0:=V.jw.mz;have V1:=V.ai g1;have vc:=V1.vc;have jc:=V1.jw.mz;obtain⟨rb,ro,h1⟩:=V1.rR hi;have r1:=λ{R}=>@h1.pr R);have r2:=h1.at' 0 _ rfl;rw[Zf7,R.k]at r2;have r3:=h1.all;have kk:=λ(z:AV)(K:AV->Option (AV×St))=>aiG V1.jw.kin R.m1 R.m2 z K
   have kf:(kd m).cells[7]? =some (.func f [] []):=(by rw[<-e1];rfl);rw[Yi];simp only[av,bX,lk,bM,aiH,fO,cG,d1,gC,cw,aS,Zb8,aT,vc0,jc0,aD,Za9,Za5,Jc.c4,aR,ln,ZM,d2,cV,cL];simp only[cX,oO,bt,Zb8,Zf7,ju,vc,jc,aD,Za9,Za5,Jc.c4,Jc.c5,aR,r1,r2,kk,afK,kf,xS,r3,fu,PG,fP,Ze3,Zd9,Zd5,e2,bM,aT,k1,bX,cs,k4,cp,av]
 unfold Go.Ai.tidy at T;have hm:∀x,x∈Lib.compact (B4 (uu (gI J q g r)))↔x∈uu (gI J q g r):=λx=>by rw[akj,aoW]
 have hlen:(Lib.compact (B4 (uu (gI J q g r)))).length<=1000000:=by have:=Qb (B4 (uu (gI J q g r)));rw[Dj]at this;omega
 split at T
 . rename_i hk;refine⟨g,s,v',_,hg,T,Grew.refl w0,?_,hlen,hm⟩;rcases b3 with⟨rfl,e⟩|⟨b,n,rfl⟩
   .rw[e];exact QS.nil
   .exact(Go.Ai.yD hk.1).elim
 .exact⟨g,s4,v',_,hg,T,G4,b2,hlen,hm⟩
end
end
section
open Go Go.Ai Go.Proofs
theorem zC{f:Nat->List Ev}{e:Ev}:∀{m k:Nat},e∈b9 f m k↔ ∃i,k<=i/\i<k+m/\e∈f i
 |0,k=>by
  constructor
  .intro h;cases h
  .rintro⟨i,h1,h2,_⟩;omega
 |m +1,k=>by
  rw[b9,Zd7,zC];constructor
  . rintro(h|⟨i,h1,h2,h3⟩)
    .exact⟨k,by omega,by omega,h⟩
    .exact⟨i,by omega,by omega,h3⟩
  . rintro⟨i,h1,h2,h3⟩;by_cases e:i=k
    .subst e;exact .inl h3
    .exact .inr ⟨i,by omega,by omega,h3⟩
theorem xD{b:Bool}{k:Nat}{w:List Int}{e:Ev}:e∈uZ b k w↔b=true/\e=(k,w):=by unfold uZ;cases b<;>simp
theorem aug{x:Int}{l:List Ev}:x∈uu l↔ ∃e∈l,x∈e.2:=by unfold uu;exact List.mem_flatMap
section
variable{q q':Nat->Int}{B:List Int}
end
structure DP(D:List Int->List Ev):Prop where
 nil:D []=[]
 all:∀l e,e∈D l->0<e.1/\e.2=l/\l≠[]
theorem avz(h:Nat->Bool):DP (Mz h) where
 nil:=by simp[Mz,uZ]
 all l e he:=by
  obtain⟨h1,rfl⟩:=xD.1 he;simp only[Zb1,Ze1]at h1;exact⟨Nat.one_pos,rfl,λe=>by rw[e]at h1;simp at h1⟩
theorem avA(m:Nat):DP (MA m) where
 nil:=by simp[MA,uZ]
 all l e he:=by
  obtain⟨h1,rfl⟩:=xD.1 he;have h1:=Zg2 h1;exact⟨by show 0<l.length - m;omega,rfl,λe=>by rw[e]at h1;simp at h1⟩
section
variable{J:Jt}{q q':List Int}{B:List Int}
theorem auh{t k:Nat}{x:Int}:x∈Hg J q t k↔ ∃g:Nat,g<k/\(jT J).at (qF q) t g=true/\x=(g:Int):=by
 unfold Hg;simp only[Zc7,Zk9,Zg5];constructor
 .rintro⟨g,⟨h1,h2⟩,rfl⟩;exact⟨g,h1,h2,rfl⟩
 .rintro⟨g,h1,h2,rfl⟩;exact⟨g,⟨h1,h2⟩,rfl⟩
theorem awA{q:Nat->Int}{t g:Nat}(h:(jT J).at q t g=true):Go.Ai.on q g=true:=by unfold JT.at at h;simp only[Zb1]at h;exact h.1
theorem aoX{q:List Int}{a:Nat}(h:Go.Ai.on (qF q) a=true):∃x:Nat,q[a]? =some (x:Int)/\qF q a=(x:Int)/\a<q.length:=by
 have h:=Zg2 h;by_cases ha:a<q.length
 .have e:=H0 ha;have e2:=qH e;rw[e2]at h;exact⟨q[a].toNat,by rw[e];congr 1;omega,by rw[e2];omega,ha⟩
 .unfold qF at h;rw[Zb3,Zc3 (by omega)]at h;exact absurd h (by decide)
theorem one_pos{q:Nat->Int}{a:Nat}{P:Int->Bool}:∀e∈Ed q a P,0<e.1/\e.2≠[]:=λe he=>by obtain⟨_,rfl⟩:=xD.1 he;exact⟨Nat.one_pos,by simp⟩
end
variable{c:aj}
theorem aui{V:AV}{q:List Int}{s0:St}(hq:q.length<=1000)(pq:QS 1 s0 V (q.map bC))(F:Nat):∀(m k f:Nat)(s:St)(v:AV),k+m=q.length->m<f->Mk 1 s0 s v ((q.take k).map bC)->
  ∃s' v',Mk 1 s0 s' v' (q.map bC)/\∀k2:Q2,kV c F k2 f [V,v,.int .i64 (k:Int)] s=k2 [v'] s':=by
 have ln:=λ(K:AV->St->Option (AV×St))(s:St)=>pq.lenB (c:=c) K s
 rw[Za4]at ln;intro m;induction m with
 |zero=>
  intro k f s v hk hf hM;obtain⟨f,rfl⟩:∃g,f=g+1:=⟨f - 1,by omega⟩
  obtain rfl:k=q.length:=by omega
  rw[Zh9]at hM;refine⟨s,v,hM,λk2=> ?_⟩;rw[zD];simp[ln]
 |succ m ih=>
  intro k f s v hk hf hM;obtain⟨f,rfl⟩:∃g,f=g+1:=⟨f - 1,by omega⟩
  have gX:k<q.length:=by omega
  have et:q.take (k+1)=q.take k++[q[k]]:=Zc9 gX;obtain⟨pb,po,p⟩:=ot (pq.ai hM.ai) (H0 gX);have p1:=λ{R}=>@p.st R
  have p3:=p.one;have aW:decide ((k:Int)<(q.length:Int))=true:=Za0 (by omega);have wr:ax .i64 ((k:Int)+1)=((k+1:Nat):Int):=by rw[wrap64 (by omega) (by omega)];omega
  obtain⟨s5,v5,a1,a2,_,_⟩:=hM.push (R:=AV×St) (c:=c) (bytes:=8) (z:=[.int .i64 0]) (x:= .int .i64 q[k]) rfl rfl rfl (by omega) (by rw[Za4,Zg3];omega) (by rw[Za4,Zg3];omega);obtain⟨s',v',z1,z2⟩:=ih (k+1) f s5 v5 (by omega) (by omega) (by rw[et,Zc8];exact a2);refine⟨s',v',z1,λk2=> ?_⟩;rw[<-z2 k2,zD];simp only[aH,bg,av,ln,cG,aW,dH,p1,aT,p3,aR,a1,fD,wr]
theorem aoY(hc:bw c){V:AV}{q:List Int}{s:St}(hw:Wf s)(hq:q.length<=1000)(pq:QS 1 s V (q.map bC)):∃s' v,c 8 [V] s=some (v,s')/\Mk 1 s s' v (q.map bC):=by
 obtain⟨s1,v,z1,z2⟩:=aui (c:=c) hq pq (q.length+1) q.length 0 (q.length+1) s .af (by omega) (by omega) (Mk.start hw (Grew.refl hw));obtain⟨s2,t1,t2⟩:=z1.tidy;refine⟨s2,v,?_,t2⟩;simp only[show((0:Nat):Int)=0 from rfl]at z2;rw[MO hc (q.length+1) (r:=(v,s1)),t1];rw[Rt];simp only[av,z2,aH,bg]
theorem Mk.setI{s0 s:St}{v:AV}{q:List Int}(h:Mk 1 s0 s v (q.map bC)){i:Nat}(hi:i<q.length)(x:Int):
   ∃b o s',(∀(K:AV->St->Option (AV×St))(s1:St),aq c (.idxA 1 none) [v,.int .i64 (i:Int)] s1 K=K (.ptr b o) s1)/\(∀(K:AV->St->Option (AV×St)),aq c (.store 1) [.ptr b o,.int .i64 x] s K=K .undef s')/\Mk 1 s0 s' v ((q.set i x).map bC):=by
 have QV:i<(q.map bC).length:=by rw[Za4];exact hi
 obtain⟨b,o,cs,a1,_,a3,a4,a5,_,a7,a8⟩:=QS.set (c:=c) (R:=AV×St) h.own h.row (by decide) QV;have abH:=h.new b a3;have aW:=h.ai.wf b _ a4;have aoZ:=h.tight b a3;have eW:cs=(q.map bC).flatten:=by rw[a4]at aoZ;injection aoZ with e;injection e
 have er:(q.map bC).set i ((q.map bC)[i].set 0 (.int .i64 x))=(q.set i x).map bC:=by rw[Zq3];congr 1;rw[Zl8];rfl
 have a7':=a7 0 (.int .i64 x);have a8':=a8 0 (.int .i64 x) (by decide) eW;rw[er]at a7' a8';rw[Zf7]at a7' a8';refine⟨b,o,bh s b (.cells (aU cs o [.int .i64 x]) 0),λK s1=>a1 K .i64 s1,λK=> ?_,h.jE,wF h.jE h.ai abH aW _,a7' _ (by decide) (bH _ _ _),h.new,λr hr=> ?_,h.cap,λb' dY=> ?_⟩
 .rw[cm c K s 1 b o (.int .i64 x) cs a4 rfl a5 rfl];rfl
 .obtain⟨y,_,rfl⟩:=Zc7.1 hr;rfl
 .have:b'=b:=(by rw[a3]at dY;exact(Zi8 dY).symm);subst this;rw[bH,a8']
section
variable{J:Jt}{q:List Int}
def Sit(q:Nat->Int)(l:List Ev):Prop:=∀e∈l,∀x∈e.2,∃a:Nat,x=(a:Int)/\Go.Ai.on q a=true
theorem Ru{q:Nat->Int}{a b:Nat}{P:Int->Int->Bool}:Sit q (wC q a b P):=λe he x hx=>by
 obtain⟨h,rfl⟩:=xD.1 he;simp only[Zb1]at h;simp only[Za8,Zc0,Ze9]at hx;rcases hx with rfl|rfl
 .exact⟨a,rfl,h.1.1⟩
 .exact⟨b,rfl,h.1.2⟩
theorem ali{q:Nat->Int}{a:Nat}{P:Int->Bool}:Sit q (Ed q a P):=λe he x hx=>by
 obtain⟨h,rfl⟩:=xD.1 he;simp only[Zb1]at h;simp only[Za8,Zc0,Ze9]at hx;exact⟨a,hx,h.1⟩
theorem Rv{q:Nat->Int}{n:Nat}{P:Nat->Nat->Int->Int->Bool}:Sit q (u6 q n P):=λe he x hx=>by
 obtain⟨a,_,_,he⟩:=zC.1 he;obtain⟨b,_,_,he⟩:=zC.1 he;obtain⟨h,rfl⟩:=xD.1 he;simp only[Zb1]at h;simp only[Za8,Zc0,Ze9]at hx;rcases hx with rfl|rfl
 .exact⟨a,rfl,h.1.1⟩
 .exact⟨b,rfl,h.1.2⟩
theorem aeO{q:Nat->Int}{n:Nat}{P:Nat->Int->Bool}:Sit q (Ee q n P):=λe he x hx=>by
 obtain⟨a,_,_,he⟩:=zC.1 he;obtain⟨h,rfl⟩:=xD.1 he;simp only[Zb1]at h;simp only[Za8,Zc0,Ze9]at hx;exact⟨a,hx,h.1⟩
theorem aiQ{r:Rl}{D:List Int->List Ev}(hD:∀l e,e∈D l->e.2=l){T:Nat}:Sit (qF q) (b9 (Ei J q r D) T 0):=λe he x hx=>by
 obtain⟨t,_,_,he⟩:=zC.1 he;unfold Ei at he;split at he
 .rw[hD _ _ he]at hx;obtain⟨g,_,h1,rfl⟩:=auh.1 hx;exact⟨g,rfl,awA h1⟩
 .cases he
theorem auj(m:Nat)(l:List Int)(e:Ev)(he:e∈PM m l):e.2=l:=by obtain⟨_,rfl⟩:=xD.1 he;rfl
theorem arI{g:List Int}{r:Rl}{m:Nat}(V:zx J.p r m):Sit (qF q) (gI J q g r):=by
 have ek:r.k.toNat=m:=by have:=V.k;omega
 unfold gI;rw[ek];rcases uX V.m1 V.m2 with rfl|rfl|rfl|rfl|rfl|rfl|rfl|rfl|rfl|rfl|rfl|rfl|rfl|rfl|rfl|rfl|rfl|rfl
 .exact Ru
 .exact Ru
 .exact Ru
 .exact Ru
 .exact Ru
 .exact ali
 .exact ali
 .exact Rv
 .exact aiQ λl e h=>((avz _).all l e h).2.1
 .exact aeO
 .exact aeO
 .exact Rv
 .exact Rv
 .exact Rv
 .exact aiQ λl e h=>auj _ l e h
 .exact aiQ λl e h=>((avA _).all l e h).2.1
 .exact aeO
 .exact Rv
end
theorem avB(z:Bool)(rs:List Rl){i:Nat}(hi:i<rs.length)(K:AV->St->Option (AV×St))(s:St):aq c (.idxA 6 none) [jf z rs,.int .i64 (i:Int)] s K=K (.fp (rs.map Rl.cells) i 0) s:=by
 unfold jf;rw[Tn];simp[hi]
theorem avC(rs:List Rl){i:Nat}(hi:i<rs.length)(K:AV->St->Option (AV×St))(s:St):aq c (.load (some 6)) [.fp (rs.map Rl.cells) i 0] s K=K (.agg (rs[i]).cells) s:=by
 rw[aa3];simp[hi]
theorem awB(r:Rl)(s:St)(K:AV->St->Option (AV×St)):aq c (.store 6) [.ptr s.next 0,.agg r.cells] (ah s (.cells [.int .u8 0,.int .i64 0,.str [],.str [],.str [],.int .i64 0] 0)) K=K .undef (ah s (.cells r.cells 0)):=cr c K s 6 (.agg r.cells) _ rfl rfl rfl
section
variable{s:St}{P:AV}{q:List Int}
theorem awC(hl:q.length<=1000000)(pq:QS 1 s P (q.map bC))(x:Int)(F:Nat):∀(m k f:Nat),k+m=q.length->m<f->∀k1 k2:Q2,pF c F k1 k2 f [P,.int .i64 x,.int .i64 (k:Int)] s=if(q.drop k).contains x then k1 [.bool true] s else k2 [] s:=by
 have ln:=λ(K:AV->St->Option (AV×St))(s:St)=>pq.lenB (c:=c) K s
 rw[Za4]at ln;intro m;induction m with
 |zero=>
  intro k f hk hf k1 k2;obtain⟨f,rfl⟩:∃g,f=g+1:=⟨f - 1,by omega⟩
  obtain rfl:k=q.length:=by omega
  rw[Eo,List.drop_length];simp only[aH,bg,av,ln,cG,Int.lt_irrefl,Zq1,cV];rfl
 |succ m ih=>
  intro k f hk hf k1 k2;obtain⟨f,rfl⟩:∃g,f=g+1:=⟨f - 1,by omega⟩
  have gX:k<q.length:=by omega
  have aW:decide ((k:Int)<(q.length:Int))=true:=Za0 (by omega);have wr:Unit->ax .i64 ((k:Int)+1)=((k+1:Nat):Int):=λ_=>by rw[wrap64 (by omega) (by omega)];omega
  obtain⟨pb,po,p⟩:=ot pq (H0 gX);have p1:=λ{R}=>@p.st R
  have p3:=p.one;have z:=ih (k+1) f (by omega) (by omega) k1 k2;rw[Zd8 gX,List.contains_cons,Eo];generalize q[k]=y at*
  by_cases e:y=x
  .subst e;simp only[aH,bg,av,ln,cG,aW,dH,p1,aT,p3,aR,eG,Zg6,beq_self_eq_true,Bool.true_or,Zh1]
  .have d:decide (y=x)=false:=Za1 e;have d2:(x==y)=false:=(by simpa using λe'=>e e'.symm);rw[d2,Zp4, <-z];simp only[aH,bg,av,ln,cG,aW,dH,p1,aT,p3,aR,eG,d,cV,fD,wr ()]
theorem amN(hc:bw c)(hl:q.length<=1000000)(pq:QS 1 s P (q.map bC))(x:Int):c 10 [P,.int .i64 x] s=some (.bool (q.contains x),s):=by
 have lp:=awC (c:=c) hl pq x (q.length+1) q.length 0 (q.length+1) (by omega) (by omega);simp only[show((0:Nat):Int)=0 from rfl,Ze5]at lp;rw[Wp hc (q.length+1) (r:=(.bool (q.contains x),s)),aB (Plain.bool _) (aX.refl s)];rw[aau];cases h:q.contains x with
 |true=>rw[h]at lp;simp only[av,lp,Zh1,aH,bg]
 |false=>rw[h]at lp;simp only[av,lp,Zf0,Zg7,bg]
end
theorem ao0(z:Bool)(rs:List (List AV))(hl:rs.length<sH)(dN:∀cs∈rs,cs.length=3)(g:Nat)(v:List AV)(P:Nat->Bool)(st:St)(F:Nat)(k1 k2)
  (hP:∀i (h:i<rs.length),c g (.agg rs[i]::v) st=some (.bool (P i),st)):∀(m k:Nat),rs.length<=k+m->k<=rs.length->
  dJ c F k1 k2 (m+1) [ro 3 z rs,.func g [] v,.int .i64 (rs.length:Int),.int .i64 (k:Int)] st=if 0<=scan P (rs.length - k) k then k1 [.int .i64 (scan P (rs.length - k) k)] st else k2 [] st:=by
 intro m;induction m with
 |zero=>
  intro k h1 h2;obtain rfl:k=rs.length:=by omega
  rw[oW];simp[scan]
 |succ m ih=>
  intro k h1 h2;rw[oW];by_cases h:k<rs.length
  . have e:rs.length - k=(rs.length - (k+1))+1:=(by omega);have w:ax .i64 ((k:Int)+1)=((k+1:Nat):Int):=wrap64 (by omega) (by unfold sH at hl;omega);have hcut:cut rs[k] 0 3=some rs[k]:=cQ (dN _ (Zb9 h));have hp:=hP k h;rw[e,scan];cases hb:P k
    .   simp only[Zf0,Zg7];rw[<-ih (k+1) (by omega) (by omega)];simp[h,hcut,hp,hb,w]
    .   simp[h,hcut,hp,hb]
  .obtain rfl:k=rs.length:=(by omega);simp[scan]
theorem auk(hc:Sem c)(z:Bool)(rs:List (List AV))(hl:rs.length<sH)(dN:∀cs∈rs,cs.length=3)(g:Nat)(v:List AV)(P:Nat->Bool)(st:St)
   (hP:∀i (h:i<rs.length),c g (.agg rs[i]::v) st=some (.bool (P i),st)):c 64 [ro 3 z rs,.func g [] v] st=some (.int .i64 (scan P rs.length 0),st):=by
 rw[zE hc (rs.length+1) (r:=(.int .i64 (scan P rs.length 0),st)),aB (Plain.int _ _) (aX.refl st)];rw[AO];have L:∀k1 k2,dJ c (rs.length+1) k1 k2 (rs.length+1) [ro 3 z rs,.func g [] v,.int .i64 (rs.length:Int),.int .i64 0] st=if 0<=scan P (rs.length - 0) 0 then k1 [.int .i64 (scan P (rs.length - 0) 0)] st else k2 [] st:=
   λk1 k2=>ao0 z rs hl dN g v P st _ k1 k2 hP rs.length 0 (by omega) (by omega)
 rw[Zq2]at L;by_cases h:0<=scan P rs.length 0
 .simp[L,h]
 .have:=(ZY P rs.length 0).2 (by omega);simp[L,this]
theorem aul(hc:Sem c)(z:Bool)(rs:List (List AV))(hl:rs.length<sH)(dN:∀cs∈rs,cs.length=3)(g:Nat)(v:List AV)(P:Nat->Bool)(st:St)
  (hP:∀i (h:i<rs.length),c g (.agg rs[i]::v) st=some (.bool (P i),st)):c 30 [ro 3 z rs,.func g [] v] st=some (.bool (decide (0<=scan P rs.length 0)),st):=by
 rw[xE hc 1 (r:=(.bool (decide (0<=scan P rs.length 0)),st)),aB (Plain.bool _) (aX.refl st)];rw[yU];simp[auk hc z rs hl dN g v P st hP]
def tdP(nm:List Nat)(k:Int)(t:Ty):Bool:=decide (t.k=k)&&(decide (t.a=nm)||decide (t.b=nm))
theorem amO(hc:Sem c)(t:Ty)(nm:List Nat)(k:Int)(p1 p2:Pos)(st:St)(hw:Wf st)(h1:st.heap.get p1=some (.cells [.int .u8 k] 0))(h2:st.heap.get p2=some (.cells [.str nm] 0)):
   c 31 [.agg t.cells,.ptr p1 0,.ptr p2 0] st=some (.bool (tdP nm k t),st):=by
 rw[Yj hc 1 (r:=(.bool (tdP nm k t),ah st (.cells t.cells 0))),aB (Plain.bool _) (bY hw)];rw[ach];have e1:(ah st (.cells t.cells 0)).heap.get p1=some (.cells [.int .u8 k] 0):=bY hw _ _ h1;have e2:(ah st (.cells t.cells 0)).heap.get p2=some (.cells [.str nm] 0):=bY hw _ _ h2;unfold tdP;by_cases a:t.k=k
 .by_cases b:t.a=nm<;>simp[e1,e2,a,b]
 .simp[e1,e2,a]
def tdB(ys:List Ty)(nm:List Nat)(k:Int):Bool:=ys.any (tdP nm k)
theorem aiR(P:Nat->Bool):∀(m k:Nat),decide (0<=scan P m k)=(List.range m).any λi=>P (k+i)
 |0,k=>by simp[scan]
 |m +1,k=>by
  have ih:=aiR P m (k+1);unfold scan;rw[List.range_succ_eq_map,List.any_cons,List.any_map];by_cases h:P k=true
  .rw[Zb6 h,Zf7,h,Bool.true_or];exact Za0 (by omega)
  . have h':P k=false:=(by simpa using h);rw[Za7 h,ih];show _=(P k||_)
    rw[h',Zp4];congr 1;funext i;show P (k+1+i)=P (k+Nat.succ i);congr 1;omega
theorem ao1(hc:Sem c)(p:bS)(hl:p.ys.length<=1000)(nm:List Nat)(k:Int)(pb:Pos)(st:St)(hw:Wf st)(hp:st.heap.get pb=some (.cells p.cells 0)):
  c 29 [.str nm,.int .u8 k,.ptr pb 0] st=some (.bool (tdB p.ys nm k),st):=by
 have g1:=Grew.ah hw (.cells [.str nm] 0);have g2:=Grew.ah g1.wf (.cells [.int .u8 k] 0);have gg:=g1.trans g2;have b1:=g2.get (aA st (.cells [.str nm] 0));have b2:=aA (ah st (.cells [.str nm] 0)) (.cells [.int .u8 k] 0);have b3:=gg.get hp
 have C:=aul (c:=c) hc p.yz (p.ys.map Ty.cells) (by rw[Za4];unfold sH;omega) (λcs h=>by obtain⟨t,_,rfl⟩:=Zc7.1 h;rfl) 31
  [.ptr (ah st (.cells [.str nm] 0)).next 0,.ptr st.next 0] (λi=>match p.ys[i]? with|some t=>tdP nm k t|none=>false) _ (λi h=>by rw[Za4]at h;simp only[Zl8,H0 h];exact amO hc (p.ys[i]) nm k _ _ _ gg.wf b2 b1)
 rw[Za4,aiR]at C;have e:((List.range p.ys.length).any λi=>match p.ys[0+i]? with|some t=>tdP nm k t|none=>false)=tdB p.ys nm k:=by
  unfold tdB;rw[Zm0,Zm8,Zm8];constructor
  .rintro⟨i,hi,h⟩;have hi:=Zg5.1 hi;rw[Zb8,H0 hi]at h;exact⟨_,Zb9 hi,h⟩
  .rintro⟨t,ht,h⟩;obtain⟨i,hi,rfl⟩:=Zg0.1 ht;exact⟨i,Zg5.2 hi,by rw[Zb8,H0 hi];exact h⟩
 rw[e]at C;rw[aci hc 1 (r:=(.bool (tdB p.ys nm k),ah (ah st (.cells [.str nm] 0)) (.cells [.int .u8 k] 0))),aB (Plain.bool _) gg.keeps];rw[aeP];simp only[cS,show AV.cells (.str nm)=[.str nm]from rfl,show AV.cells (.int .u8 k)=[.int .u8 k]from rfl,av,aS,Zb8,aT,b3,aD,Za9,bS.c2,aR,xR,bX,show gV p.yz p.ys=ro 3 p.yz (p.ys.map Ty.cells)from rfl,C,bM]
def pG(p:bS)(r:Rl)(g:aN):Bool:=match r.k.toNat with
 |9=>true
 |11=>true
 |14=>true
 |15=>true
 |16=>true
 |8=>decide (0<g.side)
 |10=>decide (g.name=r.a)||(decide (r.a=[])&&g.access)
 |12=>tdB p.ys g.name 2
 |13=>tdB p.ys g.name 1
 |17=>decide (g.nk=r.a)
 |18=> !decide (g.jv=[])
 |_=>decide (g.name=r.a)||decide (g.name=r.b)
theorem avD{R:Type}{f:(List AV->St->Option R)->Option R}{k:List AV->St->Option R}{vs:List AV}{s:St}(h:∀K,f K=K vs s):bR f k=k vs s:=h k
def xF(P:aN->Bool):List aN->Nat->List Int
 |[],_=>[]
 |g::l,k=>(if P g then [(k:Int)]else [])++xF P l (k+1)
theorem alj(P:aN->Bool):∀(l:List aN)(g:aN)(k:Nat),xF P (l++[g]) k=xF P l k++if P g then [((k+l.length:Nat):Int)]else []
 |[],g,k=>by simp[xF]
 |a::l,g,k=>by
  have ih:=alj P l g (k+1);rw[Zd5,xF,xF,ih,Zf5,Zc6,show k+1+l.length=k+(l.length+1)by omega]
theorem aeQ(P:aN->Bool):∀(l:List aN)(k:Nat),(xF P l k).length<=l.length
 |[],_=>Za3 _
 |a::l,k=>by
  have ih:=aeQ P l (k+1);rw[xF,Zd6,Zc6];split
  .rw[Zo6];omega
  .rw[Zi2];omega
theorem arJ (hc:Sem c){p:bS}(hl:p.ys.length<=1000)(hg:p.gs.length<=100){r:Rl}{mm:Nat}(hm:r.k=(mm:Int))(h1:1<=mm)(h2:mm<=18){sB:St}{pb rb:Pos}(Yk:sB.heap.get pb=some (.cells p.cells 0))(JX:sB.heap.get rb=some (.cells r.cells 0))(F:Nat):
  ∀(m i f:Nat)(s:St)(v:AV),i+m=p.gs.length->m<f->Mk 1 sB s v ((xF (pG p r) (p.gs.take i) 0).map bC)->∃s' v',Mk 1 sB s' v' ((xF (pG p r) p.gs 0).map bC)/\
   ∀k2:Q2,pZ c F k2 f [.ptr rb 0,.func 29 [] [.ptr pb 0],v,dm p.gz p.gs,.int .i64 (p.gs.length:Int),.int .i64 (i:Int)] s=k2 [v'] s':=by
 intro m;induction m with
 |zero=>
  intro i f s v hi hf M;obtain⟨f,rfl⟩:∃g,f=g+1:=⟨f - 1,by omega⟩
  obtain rfl:i=p.gs.length:=by omega
  rw[Zh9]at M;refine⟨s,v,M,λk2=> ?_⟩;rw[OM];simp only[aH,bg,cG,Int.lt_irrefl,Zq1,cV]
 |succ m ih   =>
  intro i f s v hi hf M;obtain⟨f,rfl⟩:∃g,f=g+1:=⟨f - 1,by omega⟩
  have fH:i<p.gs.length:=by omega
  have aW:decide ((i:Int)<(p.gs.length:Int))=true:=Za0 (by omega);have wr:ax .i64 ((i:Int)+1)=((i+1:Nat):Int):=by rw[wrap64 (by omega) (by omega)];omega
  have et:p.gs.take (i+1)=p.gs.take i++[p.gs[i]]:=Zc9 fH;have ei:=alj (pG p r) (p.gs.take i) p.gs[i] 0;rw[<-et,Zg3,Zk8 (by omega),Zb8]at ei;have il:(xF (pG p r) (p.gs.take i) 0).length<=100:=Zb2 (aeQ _ _ _) (by rw[Zg3];omega);have g1:=Grew.ah M.ai.wf (.cells (p.gs[i]).cells 0);have M1:=M.grow g1;have xg:=aA s (.cells (p.gs[i]).cells 0);have xr:=g1.get (M.ai.get JX);have xp:=g1.get (M.ai.get Yk);have st9:=λ(K:AV->St->Option (AV×St))=>cr c K s 9 (.agg (p.gs[i]).cells) [.str [],.str [],.str [],.int .i64 0,.int .i64 0,.str [],.bool false,.bool false,.af] rfl rfl (aN.one _)
  have a1':=aeR (c:=c) p.gz p.gs fH;have a2':=aeS (c:=c) p.gs fH;generalize p.gs[i]=g at*
  have N:=λk=>ao1 (c:=c) hc p hl g.name k pb _ g1.wf xp
  have bit:pG p r g=pG p r g:=rfl
  suffices tail:∃s' v',Mk 1 sB s' v' ((xF (pG p r) p.gs 0).map bC)/\∀k2:Q2,(cnd (.bool (pG p r g)) (aq c .move [v] (ah s (.cells g.cells 0)) λx111 s=>aq c .move [.int .i64 (i:Int)] s λx112 s=>aq c (.buildSlice 1 1 [(.int .i64 0)] [0]) [x112] s λx113 s=>aq c (.append 1 8) [x111,x113] s λx114 s=>aq c .move [x114] s λx9 s=>
        pZ c F k2 f [.ptr rb 0,.func 29 [] [.ptr pb 0],x9,dm p.gz p.gs,.int .i64 (p.gs.length:Int),.int .i64 ((i+1:Nat):Int)] s) (pZ c F k2 f [.ptr rb 0,.func 29 [] [.ptr pb 0],v,dm p.gz p.gs,.int .i64 (p.gs.length:Int),.int .i64 ((i+1:Nat):Int)] (ah s (.cells g.cells 0))))=k2 [v'] s' by
   obtain⟨s',v',z1,z2⟩:=tail;refine⟨s',v',z1,λk2=> ?_⟩;rw[<-z2 k2,OM];simp only[aH,bg,cG,aW,dH];rw[jK,av,a1',a2',cL,av,st9,av];refine(avD (vs:=[.ptr rb 0,.func 29 [] [.ptr pb 0],v,.int .i64 (i:Int),.bool (pG p r g),dm p.gz p.gs,.int .i64 (p.gs.length:Int),.int .i64 (i:Int)]) (s:=ah s (.cells g.cells 0)) λK=> ?_).trans ?_
   .    clear z2 z1 ih ei M M1;unfold pG;rw[show r.k.toNat=mm by omega];rcases uX h1 h2 with rfl|rfl|rfl|rfl|rfl|rfl|rfl|rfl|rfl|rfl|rfl|rfl|rfl|rfl|rfl|rfl|rfl|rfl
        . have hk:r.k=1:=(by have:=hm;omega);by_cases a:g.name=r.a
          .simp[bR,xr,xg,hk,a]
          .simp[bR,xr,xg,hk,a]
        . have hk:r.k=2:=(by have:=hm;omega);by_cases a:g.name=r.a
          .simp[bR,xr,xg,hk,a]
          .simp[bR,xr,xg,hk,a]
        . have hk:r.k=3:=(by have:=hm;omega);by_cases a:g.name=r.a
          .simp[bR,xr,xg,hk,a]
          .simp[bR,xr,xg,hk,a]
        . have hk:r.k=4:=(by have:=hm;omega);by_cases a:g.name=r.a
          .simp[bR,xr,xg,hk,a]
          .simp[bR,xr,xg,hk,a]
        . have hk:r.k=5:=(by have:=hm;omega);by_cases a:g.name=r.a
          .simp[bR,xr,xg,hk,a]
          .simp[bR,xr,xg,hk,a]
        . have hk:r.k=6:=(by have:=hm;omega);by_cases a:g.name=r.a
          .simp[bR,xr,xg,hk,a]
          .simp[bR,xr,xg,hk,a]
        . have hk:r.k=7:=(by have:=hm;omega);by_cases a:g.name=r.a
          .simp[bR,xr,xg,hk,a]
          .simp[bR,xr,xg,hk,a]
        .have hk:r.k=8:=(by have:=hm;omega);simp[bR,xr,xg,hk]
        .have hk:r.k=9:=(by have:=hm;omega);simp[bR,xr,hk]
        . have hk:r.k=10:=(by have:=hm;omega);by_cases a:g.name=r.a
          .simp[bR,xr,xg,hk,a]
          . by_cases b:r.a=[]
            .have a2:¬g.name=[]:=(by rw[<-b];exact a);simp[bR,xr,xg,hk,a2,b]
            .simp[bR,xr,xg,hk,a,b]
        .have hk:r.k=11:=(by have:=hm;omega);simp[bR,xr,hk]
        .have hk:r.k=12:=(by have:=hm;omega);have nc:=N 2;simp[bR,xr,xg,hk,fP,nc]
        .have hk:r.k=13:=(by have:=hm;omega);have nc:=N 1;simp[bR,xr,xg,hk,fP,nc]
        .have hk:r.k=14:=(by have:=hm;omega);simp[bR,xr,hk]
        .have hk:r.k=15:=(by have:=hm;omega);simp[bR,xr,hk]
        .have hk:r.k=16:=(by have:=hm;omega);simp[bR,xr,hk]
        .have hk:r.k=17:=(by have:=hm;omega);simp[bR,xr,xg,hk]
        .have hk:r.k=18:=(by have:=hm;omega);simp[bR,xr,xg,hk]
   .    simp only[aH,bg,av,fD,wr]
  cases hb:pG p r g with
  |true=>
   rw[hb,Zb6 rfl]at ei;obtain⟨t5,v5,a1,M5,_,_⟩:=M1.push (R:=AV×St) (c:=c) (bytes:=8) (z:=[.int .i64 0]) (x:= .int .i64 (i:Int)) rfl rfl rfl (by omega) (by rw[Za4];omega) (by rw[Za4];omega);obtain⟨s',v',z1,z2⟩:=ih (i+1) f t5 v5 (by omega) (by omega) (by rw[ei,Zc8];exact M5);refine⟨s',v',z1,λk2=> ?_⟩;rw[<-z2 k2];simp only[dH,av,a1]
  |false=>
   rw[hb,Za7 (by decide),Zd9]at ei;obtain⟨s',v',z1,z2⟩:=ih (i+1) f _ v (by omega) (by omega) (by rw[ei];exact M1);refine⟨s',v',z1,λk2=> ?_⟩;rw[<-z2 k2];simp only[cV]
theorem arK(hc:Sem c)(p:bS)(hp:p.Dh)(hRo:Yl c p)(hr:∀r∈p.rs,r.Ok)(hk:(iH p).2=0){i:Nat}{r:Rl}(hi:p.rs[i]? =some r){m:Nat}(hm:r.k=(m:Int))(h1:1<=m)(h2:m<=18)(s:St)(hw:Wf s):
  ∃v s',c 9 [.agg p.cells,.int .i64 (i:Int)] s=some (v,s')/\Mk 1 s s' v ((xF (pG p r) p.gs 0).map bC):=by
 have gA:=Grew.ah hw (.cells p.cells 0);have x2:=aA s (.cells p.cells 0);have bx:∀(K:AV->St->Option (AV×St)),aq c .box [.agg p.cells] s K=K (.ptr s.next 0) (ah s (.cells p.cells 0)):=λK=>by rw[cS];rfl
 have ck:=Vh hc p hp hRo hr _ gA.wf;have fH:=(Za2.1 hi).1;have er:p.rs[i]=r:=(Za2.1 hi).2;have gB:=Grew.ah gA.wf (.cells r.cells 0);have xr:=aA (ah s (.cells p.cells 0)) (.cells r.cells 0);have xp:=gB.get x2;have st:=λ(K:AV->St->Option (AV×St))=>awB (c:=c) r (ah s (.cells p.cells 0)) K
 have a1':=avB (c:=c) p.rz p.rs fH;have a2':=avC (c:=c) p.rs fH;rw[er]at a2';obtain⟨t',v',z1,z2⟩:=arJ (c:=c) hc (Zb2 hp.ys (by decide)) hp.gs hm h1 h2 xp xr 200 p.gs.length 0 200 _ .af (Zb8 _) (by have:=hp.gs;omega) (Mk.start gB.wf (Grew.refl gB.wf));simp only[show((0:Nat):Int)=0 from rfl]at z2;obtain⟨s3,t1,t2⟩:=(z1.back hw (gA.trans gB)).tidy;refine⟨v',s3,?_,t2⟩;have hc5:cut p.cells 0 5=some p.cells:=cQ rfl;have d0:decide ((iH p).2=0)=true:=Za0 hk;have d1:decide ((i:Int)<0)=false:=Za1 (by omega);have d2:decide ((p.rs.length:Int)<=(i:Int))=false:=Za1 (by omega);rw[aeT hc 200 (r:=(v',t')),t1];rw[aiS];simp only[bx,av,gR,x2,aD,Za9,hc5,fu,bX,ck,bM,fS,Za5,Zb4,aR,LS,d0,Zh0,fO,cG,d1,gC,aS,Zb8,aT,bS.c4,arL,ZM,d2,cV,a1',a2',cL,st,xR,xp,bS.c1,aiT,z2,aH,bg]
theorem af4{P Q:aN->Bool}:∀{l l':List aN}{k:Nat},l'.length=l.length->(∀(i:Nat)(g g':aN),l[i]? =some g->l'[i]? =some g'->Q g'=P g)->xF Q l' k=xF P l k
 |[],[],_,_,_=>rfl
 |[],_::_,_,h,_=>by simp at h
 |_::_,[],_,h,_=>by simp at h
 |g::l,g'::l',k,h,hh=>by
  rw[xF,xF,hh 0 g g' rfl rfl,af4 (by simpa using h) λi a b ha hb=>hh (i+1) a b (by rw[Zb4];exact ha) (by rw[Zb4];exact hb)]
theorem aum{p p':bS}(S:p.fX p')(r:Rl){g g':aN}(h:g.fX g'):pG p' r g'=pG p r g:=by obtain⟨tz,e⟩:=h;unfold pG;rw[S.ys];subst e;rfl
theorem alk{p p':bS}(S:p.fX p'){r:Rl}{k:Nat}:xF (pG p' r) p'.gs k=xF (pG p r) p.gs k:=af4 S.gl λi g g' h h'=>aum S r (S.gs i g g' h h')
section
variable{s0 s:St}{Vs:List AV}{p:bS}
theorem amP(hc:bw c)(h:PS s0 s Vs p)(hp:p.Dh)(hr:∀r∈p.rs,r.Ok)(hk:(iH p).2=0){i:Nat}{r:Rl}(hi:p.rs[i]? =some r){m:Nat}(hm:r.k=(m:Int))(h1:1<=m)(h2:m<=18):
  ∃v s',c 9 [.agg Vs,.int .i64 (i:Int)] s=some (v,s')/\Mk 1 s s' v ((xF (pG p r) p.gs 0).map bC):=by
 obtain⟨p',e,S⟩:=h.fW 1;obtain⟨v,s1,e1,M⟩:=arK (c:=run Qc gg) rfl p' (S.sF hp) (alm rfl (S.sF hp)) (by rw[S.rs];exact hr) (by rw[S.check];exact hk) (i:=i) (r:=r) (by rw[S.rs];exact hi) hm h1 h2 (emptyAt s) (Tv s);rw[alk S]at M;refine⟨v,dw s s1,hc.at (s:=aeH 9) rfl (afU ?_ M.own.bare M.ai.next),M.dw h.ai.wf (vU Io _)⟩;rw[Zd1,Zd1,Zi5,e];exact e1
end
theorem aln(P:aN->Bool):∀(l:List aN)(k:Nat)(x:Int),x∈xF P l k↔ ∃(i:Nat) (g:aN),l[i]? =some g/\P g=true/\x=((k+i:Nat):Int)
 |[],k,x=>by simp[xF]
 |g ::l   ,k,x=>by
  rw[xF,Zd7,aln P l (k+1) x];constructor
  . rintro(h|⟨i,a,h1,h2,h3⟩)
    .   split at h
        .rename_i hp;simp only[Zh7]at h;exact⟨0,g,rfl,hp,h⟩
        .cases h
    .   exact⟨i+1,a,by rw[Zb4];exact h1,h2,by rw[h3];congr 1;omega⟩
  . rintro⟨i,a,h1,h2,h3⟩;cases i with
    |   zero=>
        simp only[Za5,H5]at h1;subst h1;exact .inl (by rw[Zb6 h2,h3];simp)
    |succ i=>exact .inr ⟨i,a,by rw[Zb4]at h1;exact h1,h2,by rw[h3];congr 1;omega⟩
section
variable{J:Jt}{q q2:List Int}{r:Rl}{m:Nat}
def zF(J:Jt)(r:Rl)(a:Nat):Prop:=∃g,J.p.gs[a]? =some g/\pG J.p r g=true
theorem aeU{a:Nat}:(a:Int)∈xF (pG J.p r) J.p.gs 0↔zF J r a:=by
 rw[aln];constructor
 .rintro⟨i,g,h1,h2,h3⟩;obtain rfl:a=i:=(by omega);exact⟨g,h1,h2⟩
 .rintro⟨g,h1,h2⟩;exact⟨a,g,h1,h2,by rw[Zb8]⟩
theorem zH{a:Nat}(ha:a<J.n)(h:∀g,J.p.gs[a]? =some g->pG J.p r g=true):zF J r a:=by
 have e:=H0 (show a<J.p.gs.length from ha);exact⟨_,e,h _ e⟩
theorem amQ{p:bS}{s:List Nat}(h:0<=gi p s):∃g,p.gs[(gi p s).toNat]? =some g/\g.name=s:=by
 obtain⟨_,h2,h3⟩:=zz (P:=mB p.gs s) p.gs.length 0 h;have h2:(gi p s).toNat<p.gs.length:=by have:(scan (mB p.gs s) p.gs.length 0).toNat<_:=h2;unfold gi;omega
 have e:=H0 h2;refine⟨_,e,?_⟩;have h3:mB p.gs s (gi p s).toNat=true:=h3;unfold mB at h3;rw[e]at h3;simpa using h3
theorem mE(V:zx J.p r m)(hm:m<=5):zF J r (rA J r)/\zF J r (rB J r):=by
 have h1:=V.m1;have h5:m=1\/m=2\/m=3\/m=4\/m=5:=by omega
 have ek:r.k.toNat=m:=by have:=V.k;omega
 have ha:0<=gi J.p r.a:=V.a (by rcases h5 with rfl|rfl|rfl|rfl|rfl<;>rfl);have hb:0<=gi J.p r.b:=V.b (by rcases h5 with rfl|rfl|rfl|rfl|rfl<;>rfl);obtain⟨g,e1,e2⟩:=amQ ha;obtain⟨g',e3,e4⟩:=amQ hb;refine⟨⟨g,e1,?_⟩,⟨g',e3,?_⟩⟩
 all_goals
  unfold pG;rw[ek];rcases h5 with rfl|rfl|rfl|rfl|rfl<;>simp[e2,e4]
theorem adz(V:zx J.p r m)(hm:m=6\/m=7):zF J r (rA J r):=by
 have ek:r.k.toNat=m:=by have:=V.k;omega
 have ha:0<=gi J.p r.a:=V.a (by rcases hm with rfl|rfl<;>rfl);obtain⟨g,e1,e2⟩:=amQ ha;refine⟨g,e1,?_⟩;unfold pG;rw[ek];rcases hm with rfl|rfl<;>simp[e2]
theorem ao2(V:zx J.p r m)(hm:m=9\/m=11\/m=14\/m=15\/m=16){a:Nat}(ha:a<J.n):zF J r a:=zH ha λg _=>by
 have ek:r.k.toNat=m:=by have:=V.k;omega
 unfold pG;rw[ek];rcases hm with rfl|rfl|rfl|rfl|rfl<;>rfl
theorem ao3{u t:Ty}(h:sS u t=0):u.a=t.a/\u.b=t.b:=by
 unfold sS at h;split at h
 .rename_i e;exact⟨e,ZZ.1 h⟩
 .rename_i e;exact absurd (ZZ.1 h) e
theorem aun{ts:List Ty}{a b:List Nat}{k:Int}(h:MP ts a b=k)(hk:k≠0):tdB ts a k=true/\tdB ts b k=true:=by
 unfold MP at h;split at h
 . rename_i hf;unfold Av at hf;cases e:ts[Hh ts (Cj a b)]? with
   |none=>rw[e]at hf;cases hf
   |some u=>
    rw[e]at hf h;obtain⟨h1,h2⟩:=ao3 (Zg2 hf);have hu:=Zc1 e;have h:u.k=k:=h;have h1:u.a=mnS a b:=h1;have h2:u.b=mxS a b:=h2;have key:(u.a=a/\u.b=b)\/(u.a=b/\u.b=a):=by
        rw[h1,h2];unfold mnS mxS;cases h3:aO a b with
        |true=>exact .inl ⟨rfl,rfl⟩
        |false=>
         cases h4:jY a b with
         |true=>have:=kZ.1 h4;subst this;exact .inl ⟨rfl,rfl⟩
         |false=>exact .inr ⟨rfl,rfl⟩
    constructor
    .   refine Zm8.2 ⟨u,hu,?_⟩;unfold tdP;rcases key with⟨k1,k2⟩|⟨k1,k2⟩<;>simp[h,k1,k2]
    .   refine Zm8.2 ⟨u,hu,?_⟩;unfold tdP;rcases key with⟨k1,k2⟩|⟨k1,k2⟩<;>simp[h,k1,k2]
 .exact absurd h.symm hk
theorem alo(hk:J.iR=P8 J.p.gs J.p.ys){a b:Nat}(ha:a<J.n)(hb:b<J.n){k:Int}(h:Eg J a b=k)(h0:k≠0):(∀g,J.p.gs[a]? =some g->tdB J.p.ys g.name k=true)/\∀g,J.p.gs[b]? =some g->tdB J.p.ys g.name k=true:=by
 have e1:=H0 (show a<J.p.gs.length from ha);have e2:=H0 (show b<J.p.gs.length from hb);have e:Eg J a b=MP J.p.ys (J.p.gs[a]'ha).name (J.p.gs[b]'hb).name:=by unfold Eg;rw[hk,Zb3,Zb3];unfold P8;rw[Zb7,e1,Ze0,Ze8,Zb7,e2,Ze0,Ze8];rfl
 rw[e]at h;obtain⟨h1,h2⟩:=aun h h0;exact⟨λg hg=>by rw[e1]at hg;cases hg;exact h1,λg hg=>by rw[e2]at hg;cases hg;exact h2⟩
def Pr2(J:Jt)(r:Rl)(P:Nat->Nat->Int->Int->Bool):Prop:=∀a b x y,a<J.n->b<J.n->P a b x y=true->zF J r a/\zF J r b
def Pr1(J:Jt)(r:Rl)(P:Nat->Int->Bool):Prop:=∀a x,a<J.n->P a x=true->zF J r a
theorem ao4(V:zx J.p r 8):Pr2 J r (mK J r (TM J)):=λa b x y ha hb h=>by
 have ek:r.k.toNat=8:=by have:=V.k;omega
 unfold mK prP TM at h;simp only[Zb1,Ze1]at h;obtain⟨_,_,⟨h1,h2⟩,_⟩:=h;constructor
 . (refine zH ha λg hg=> ?_);unfold pG;rw[ek];unfold ZU at h1;rw[hg]at h1;exact Za0 h1
 . (refine zH hb λg hg=> ?_);unfold pG;rw[ek];rw[h2]at h1;unfold ZU at h1;rw[hg]at h1;exact Za0 h1
theorem ao5(V:zx J.p r 18):Pr2 J r (mK J r (TN J)):=λa b x y ha hb h=>by
 have ek:r.k.toNat=18:=by have:=V.k;omega
 unfold mK prP TN at h;simp only[Zb1,Ze1,Zj6,decide_eq_false_iff_not]at h;obtain⟨_,_,⟨h1,h2⟩,_⟩:=h;constructor
 . (refine zH ha λg hg=> ?_);unfold pG;rw[ek];unfold Rh at h1;rw[hg]at h1;show(!decide (g.jv=[]))=true;rw[Za1 h1];rfl
 . (refine zH hb λg hg=> ?_);unfold pG;rw[ek];rw[h2]at h1;unfold Rh at h1;rw[hg]at h1;show(!decide (g.jv=[]))=true;rw[Za1 h1];rfl
theorem aiU(hk:J.iR=P8 J.p.gs J.p.ys)(V:zx J.p r 12):Pr2 J r (mK J r (Eh J)):=λa b x y ha hb h=>by
 have ek:r.k.toNat=12:=by have:=V.k;omega
 unfold mK prP Eh at h;simp only[Zb1,Ze1]at h;obtain⟨_,_,h1,_⟩:=h;obtain⟨h2,h3⟩:=alo hk ha hb h1 (by decide);exact⟨zH ha λg hg=>by unfold pG;rw[ek];exact h2 g hg,zH hb λg hg=>by unfold pG;rw[ek];exact h3 g hg⟩
theorem ao6(hk:J.iR=P8 J.p.gs J.p.ys)(V:zx J.p r 13):Pr2 J r (MF J r):=λa b x y ha hb h=>by
 have ek:r.k.toNat=13:=by have:=V.k;omega
 unfold MF at h;simp only[Zb1,Ze1]at h;obtain⟨h2,h3⟩:=alo hk ha hb h.1.1 (by decide);exact⟨zH ha λg hg=>by unfold pG;rw[ek];exact h2 g hg,zH hb λg hg=>by unfold pG;rw[ek];exact h3 g hg⟩
theorem ao7(V:zx J.p r 10):Pr1 J r (X0 J r):=λa x ha h=>by
 have ek:r.k.toNat=10:=by have:=V.k;omega
 unfold X0 at h;simp only[Zb1]at h;refine zH ha λg hg=> ?_
 unfold pG;rw[ek];have h:=h.2;unfold amw ark at h;rw[hg]at h;show(decide (g.name=r.a)||(decide (r.a=[])&&g.access))=true;rw[show decide (g.name=r.a)=decide (r.a=g.name)from decide_eq_decide.2 eq_comm];exact h
theorem ao8(V:zx J.p r 17):Pr1 J r (X4 J r):=λa x ha h=>by
 have ek:r.k.toNat=17:=by have:=V.k;omega
 unfold X4 at h;simp only[Zb1,Ze1]at h;refine zH ha λg hg=> ?_
 unfold pG;rw[ek];have h:=h.1;unfold amx at h;rw[hg]at h;exact Za0 h
theorem Lz{f f':Nat->List Ev}:∀{m k:Nat},(∀i,k<=i->i<k+m->f i=f' i)->b9 f m k=b9 f' m k
 |0,_,_=>rfl
 |m+1,k,h=>by rw[b9,b9,h k (Za3 _) (by omega),Lz λi h1 h2=>h i (by omega) (by omega)]
theorem LY{q q2:Nat->Int}{a:Nat}(h:q2 a=q a):Go.Ai.on q2 a=Go.Ai.on q a:=by unfold Go.Ai.on;rw[h]
theorem Rw{q q2:Nat->Int}{a b:Nat}{P:Int->Int->Bool}(ha:q2 a=q a)(hb:q2 b=q b):wC q2 a b P=wC q a b P:=by unfold wC;rw[LY ha,LY hb,ha,hb]
theorem alp{q q2:Nat->Int}{a:Nat}{P:Int->Bool}(ha:q2 a=q a):Ed q2 a P=Ed q a P:=by unfold Ed;rw[LY ha,ha]
theorem Z0{q q2:Nat->Int}{P:Nat->Nat->Int->Int->Bool}(hP:Pr2 J r P)(h:∀c,zF J r c->q2 c=q c){n:Nat}(hn:n=J.n):u6 q2 n P=u6 q n P:=by
 subst hn;refine Lz λa _ ha=>Lz λb kj uE=> ?_
 have ha:a<J.n:=by omega
 have hb:b<J.n:=by omega
 unfold u0;by_cases e:zF J r a/\zF J r b
 .rw[LY (h a e.1),LY (h b e.2),h a e.1,h b e.2]
 . have no:∀x y,P a b x y=false:=λx y=>by
    cases hp:P a b x y with
    |false=>rfl
    |true=>exact absurd (hP a b x y ha hb hp) e
   rw[no,no,Zr2,Zr2]
theorem alq{q q2:Nat->Int}{P:Nat->Int->Bool}(hP:Pr1 J r P)(h:∀c,zF J r c->q2 c=q c){n:Nat}(hn:n=J.n):Ee q2 n P=Ee q n P:=by
 subst hn;refine Lz λa _ ha=> ?_
 have ha:a<J.n:=by omega
 by_cases e:zF J r a
 .rw[LY (h a e),h a e]
 . have no:∀x,P a x=false:=λx=>by
    cases hp:P a x with
    |false=>rfl
    |true=>exact absurd (hP a x ha hp) e
   rw[no,no,Zr2,Zr2]
theorem arM{g g2:List Int}(hk:J.iR=P8 J.p.gs J.p.ys)(V:zx J.p r m)(hm:¬(m=9\/m=11\/m=14\/m=15\/m=16))(MQ:q.length=J.n)(hl:q2.length=q.length)(h:∀c,zF J r c->qF q2 c=qF q c):
   gI J q2 g2 r=gI J q g r:=by
 have ek:r.k.toNat=m:=by have:=V.k;omega
 unfold gI;rw[ek,hl];rcases uX V.m1 V.m2 with rfl|rfl|rfl|rfl|rfl|rfl|rfl|rfl|rfl|rfl|rfl|rfl|rfl|rfl|rfl|rfl|rfl|rfl
 .exact Rw (h _ (mE V (by omega)).1) (h _ (mE V (by omega)).2)
 .exact Rw (h _ (mE V (by omega)).1) (h _ (mE V (by omega)).2)
 .exact Rw (h _ (mE V (by omega)).1) (h _ (mE V (by omega)).2)
 .exact Rw (h _ (mE V (by omega)).1) (h _ (mE V (by omega)).2)
 .exact Rw (h _ (mE V (by omega)).1) (h _ (mE V (by omega)).2)
 .exact alp (h _ (adz V (by omega)))
 .exact alp (h _ (adz V (by omega)))
 .exact Z0 (ao4 V) h MQ
 .exact absurd (by omega) hm
 .exact alq (ao7 V) h MQ
 .exact absurd (by omega) hm
 .exact Z0 (aiU hk V) h MQ
 .exact Z0 (ao6 hk V) h MQ
 .exact absurd (by omega) hm
 .exact absurd (by omega) hm
 .exact absurd (by omega) hm
 .exact alq (ao8 V) h MQ
 .exact Z0 (ao5 V) h MQ
end
section
variable{J:Jt}{q q2:List Int}{r:Rl}{m:Nat}
def NmL(J:Jt)(r:Rl)(l:List Ev):Prop:=∀e∈l,∀x∈e.2,∃a:Nat,x=(a:Int)/\zF J r a
theorem Ym{q:Nat->Int}{a b:Nat}{P:Int->Int->Bool}(ha:zF J r a)(hb:zF J r b):NmL J r (wC q a b P):=λe he x hx=>by
 obtain⟨_,rfl⟩:=xD.1 he;simp only[Za8,Zc0,Ze9]at hx;rcases hx with rfl|rfl
 .exact⟨a,rfl,ha⟩
 .exact⟨b,rfl,hb⟩
theorem ao9{q:Nat->Int}{a:Nat}{P:Int->Bool}(ha:zF J r a):NmL J r (Ed q a P):=λe he x hx=>by
 obtain⟨_,rfl⟩:=xD.1 he;simp only[Za8,Zc0,Ze9]at hx;exact⟨a,hx,ha⟩
theorem adA{q:Nat->Int}{n:Nat}{P:Nat->Nat->Int->Int->Bool}(hP:Pr2 J r P)(hn:n=J.n):NmL J r (u6 q n P):=λe he x hx=>by
 obtain⟨a,_,i2,he⟩:=zC.1 he;obtain⟨b,_,j2,he⟩:=zC.1 he;obtain⟨h,rfl⟩:=xD.1 he;simp only[Zb1]at h;obtain⟨n1,n2⟩:=hP a b _ _ (by omega) (by omega) h.2;simp only[Za8,Zc0,Ze9]at hx;rcases hx with rfl|rfl
 .exact⟨a,rfl,n1⟩
 .exact⟨b,rfl,n2⟩
theorem apa{q:Nat->Int}{n:Nat}{P:Nat->Int->Bool}(hP:Pr1 J r P)(hn:n=J.n):NmL J r (Ee q n P):=λe he x hx=>by
 obtain⟨a,_,i2,he⟩:=zC.1 he;obtain⟨h,rfl⟩:=xD.1 he;simp only[Zb1]at h;simp only[Za8,Zc0,Ze9]at hx;exact⟨a,hx,hP a _ (by omega) h.2⟩
theorem arN{g:List Int}(hk:J.iR=P8 J.p.gs J.p.ys)(V:zx J.p r m)(MQ:q.length=J.n){x:Int}(hx:x∈uu (gI J q g r)):∃a:Nat,x=(a:Int)/\zF J r a/\Go.Ai.on (qF q) a=true:=by
 obtain⟨e,he,hx⟩:=aug.1 hx;obtain⟨a,rfl,ha⟩:=arI V e he x hx;obtain⟨_,_,_,om⟩:=aoX ha;refine⟨a,rfl,?_,ha⟩;by_cases hm:m=9\/m=11\/m=14\/m=15\/m=16
 .exact ao2 V hm (by omega)
 have key:NmL J r (gI J q g r):=by
   have ek:r.k.toNat=m:=(by have:=V.k;omega);unfold gI;rw[ek];rcases uX V.m1 V.m2 with rfl|rfl|rfl|rfl|rfl|rfl|rfl|rfl|rfl|rfl|rfl|rfl|rfl|rfl|rfl|rfl|rfl|rfl
   .exact Ym (mE V (by omega)).1 (mE V (by omega)).2
   .exact Ym (mE V (by omega)).1 (mE V (by omega)).2
   .exact Ym (mE V (by omega)).1 (mE V (by omega)).2
   .exact Ym (mE V (by omega)).1 (mE V (by omega)).2
   .exact Ym (mE V (by omega)).1 (mE V (by omega)).2
   .exact ao9 (adz V (by omega))
   .exact ao9 (adz V (by omega))
   .exact adA (ao4 V) MQ
   .exact absurd (by omega) hm
   .exact apa (ao7 V) MQ
   .exact absurd (by omega) hm
   .exact adA (aiU hk V) MQ
   .exact adA (ao6 hk V) MQ
   .exact absurd (by omega) hm
   .exact absurd (by omega) hm
   .exact absurd (by omega) hm
   .exact apa (ao8 V) MQ
   .exact adA (ao5 V) MQ
 obtain⟨b,e2,hb⟩:=key e he _ hx;obtain rfl:a=b:=by omega
 exact hb
theorem auo(hk:J.iR=P8 J.p.gs J.p.ys)(V:zx J.p r m)(hm:¬(m=9\/m=11\/m=14\/m=15\/m=16))(hq:F0 J q)(hq2:F0 J q2)(h:∀c,zF J r c->qF q2 c=qF q c):fJ J q2 r=fJ J q r/\lJ J q2 r=lJ J q r:=by
 obtain⟨g,hg⟩:=hq.see;obtain⟨g2,xC⟩:=hq2.see;have e:=arM (g:=g) (g2:=g2) hk V hm hq.len (by rw[hq2.len,hq.len]) h;have n9:¬r.k=9:=by have:=V.k;omega
 have n15:¬r.k=15:=by have:=V.k;omega
 have n11:¬r.k=11:=by have:=V.k;omega
 constructor
 .unfold fJ;rw[<-MI hq2.len xC V, <-MI hq.len hg V,e]
 .unfold lJ;rw[<-T6 hq2.len xC V, <-T6 hq.len hg V];unfold Rp;rw[Za7 n9,Za7 n15,Za7 n11,Za7 n9,Za7 n15,Za7 n11,e]
def swL(q:List Int)(a b:Nat):List Int:=(q.set a (qF q b)).set b (qF q a)
theorem aup(q:List Int)(a b:Nat):(swL q a b).length=q.length:=by unfold swL;rw[Zj3,Zj3]
theorem aeV{q:List Int}{a b:Nat}(ha:a<q.length)(hb:b<q.length)(i:Nat):(swL q a b)[i]? =q[if i=b then a else if i=a then b else i]? :=by
 have ea:=qH (H0 ha);have eb:=qH (H0 hb);unfold swL;by_cases h1:i=b
 .subst h1;rw[Zb6 rfl,Zf4 (by rw[Zj3];exact hb),ea,H0 ha]
 . rw[Za7 h1,Ze6 (λe=>h1 e.symm)];by_cases h2:i=a
   .subst h2;rw[Zb6 rfl,Zf4 ha,eb,H0 hb]
   .rw[Za7 h2,Ze6 (λe=>h2 e.symm)]
theorem avE{q:List Int}{a b:Nat}(ha:a<q.length)(hb:b<q.length){i:Nat}(h1:i≠a)(h2:i≠b):qF (swL q a b) i=qF q i:=by
 unfold qF;rw[Zb3,Zb3,aeV ha hb,Za7 h2,Za7 h1]
theorem auq{a b:Nat}(hq:F0 J q)(ha:a<q.length)(hb:b<q.length):F0 J (swL q a b):=by
 refine aoO (by rw[aup,hq.len]) (λx hx=> ?_) λi k x DM hi hk=> ?_
 .obtain⟨i,hi⟩:=Zf2.1 hx;rw[aeV ha hb]at hi;exact hq.ok x (Zc1 hi)
 . rw[aeV ha hb]at hi hk;have ne:(if i=b then a else if i=a then b else i)≠(if k=b then a else if k=a then b else k):=(by split<;>split<;>(try split)<;>(try split)<;>omega);generalize (if i=b then a else if i=a then b else i)=u at*
   generalize (if k=b then a else if k=a then b else k)=w at*
   rcases Nat.lt_or_gt_of_ne ne with h|h
   .exact hq.apart u w x h hi hk
   .exact hq.apart w u x h hk hi
end
section
variable{sB s0:St}{jb b3:Pos}{P Ot:AV}{q q2:List Int}{j:Jc}{J:Jt}{Vs:List AV}{V5:AV}{p:bS}
theorem arO(hc:bw c){s:St}{Nv Bv:AV}{L bl:List Int}(pq:QS 1 s P (q.map bC))(nq:QS 1 s Nv (L.map bC))(bq:QS 1 s Bv (bl.map bC))(hL:L.length<=1000000)(hb:bl.length<=1000000)
  (uS:∀x∈bl,x∈L/\∃(a:Nat) (y:Int),x=(a:Int)/\q[a]? =some y/\0<=y) (x9 F6 x13 x14 Vf x16:AV) (F:Nat):∀(m k f:Nat),k+m=bl.length->m<f->∀k1 k4:Q2,
  gh c F k1 k4 f [x9,F6,P,x13,x14,Vf,x16,Nv,Bv,.int .i64 (k:Int)] s=k4 [x9,F6,P,x13,x14,Vf,x16] s:=by
 have ln:=λ(K:AV->St->Option (AV×St))=>bq.lenB (c:=c) K s
 rw[Za4]at ln;intro m;induction m with
 |zero=>
  intro k f hk hf k1 k4;obtain⟨f,rfl⟩:∃g,f=g+1:=⟨f - 1,by omega⟩
  obtain rfl:k=bl.length:=by omega
  rw[vg];simp[ln]
 |succ m ih=>
  intro k f hk hf k1 k4;obtain⟨f,rfl⟩:∃g,f=g+1:=⟨f - 1,by omega⟩
  have gX:k<bl.length:=by omega
  obtain⟨pb,po,p0⟩:=ot bq (H0 gX);have p1:=λ{R}=>@p0.st R
  have p3:=p0.one;obtain⟨h1,a,y,ea,hy,h0⟩:=uS _ (Zb9 gX);have i1:=amN (c:=c) hc hL nq bl[k];rw[Zo8.2 h1]at i1;rw[ea]at i1 p3;obtain⟨qb,qo,p4⟩:=ot pq hy;have p5:=λ{R}=>@p4.st R
  have p6:=p4.one;have dy:decide (y<0)=false:=Za1 (by omega);have aW:decide ((k:Int)<(bl.length:Int))=true:=Za0 (by omega);have wr:ax .i64 ((k:Int)+1)=((k+1:Nat):Int):=by rw[wrap64 (by omega) (by omega)];omega
  rw[<-ih (k+1) f (by omega) (by omega) k1 k4,vg];simp only[aH,bg,av,ln,cG,aW,dH,p1,aT,p3,aR,bX,i1,bM,pP,Zh0,fO,p5,p6,dy,gC,cV,fD,wr]
theorem arP(hc:bw c)(Jg:Jg sB jb j J p)(hP:PS s0 sB Vs p)(sF:p.Dh)(mr:∀r∈p.rs,r.Ok)(ck:(iH p).2=0)(pq:QS 1 sB P (q.map bC))(hq:F0 J q)(oq:QS 1 sB Ot (q2.map bC))(hq2:F0 J q2)
  (hb:sB.heap.get b3=some (.cells Vs 0)) (vl:Vs.length=5) (h4:Vs[4]? =some V5) (hV:QS 6 sB V5 (J.p.rs.map Rl.cells)) {a b:Nat} (ha:a<J.n) (hsw:∀i,i≠a->i≠b->qF q2 i=qF q i) (F:Nat) (hF:1000000<F):
  ∀(m i f:Nat)(s:St),i+m=J.p.rs.length->m<f->Grew sB s->∃s',Grew sB s'/\
   ∀k1 k2:Q2,iV c F k1 k2 f [.ptr jb 0,.ptr b3 0,P,.int .i64 (a:Int),.int .i64 (b:Int),Ot,.int .i64 (i:Int)] s=k2 [] s':=by
 have lm:=Jg.jw.sF.rs;have O:=Jg.ok;have MQ:=hq.len;intro m;induction m with
 |zero=>
  intro i f s hi hf G;obtain⟨f,rfl⟩:∃g,f=g+1:=⟨f - 1,by omega⟩
  have ln:=λ(K:AV->St->Option (AV×St))=>(hV.ai G).lenB (c:=c) K s
  rw[Za4]at ln;have bx:=G.get hb;have aW:decide ((i:Int)<(J.p.rs.length:Int))=false:=Za1 (by omega);refine⟨s,G,λk1 k2=> ?_⟩;rw[vh];simp only[aH,bg,av,aS,Zb8,aT,bx,aD,Za9,h4,aR,ln,cG,aW,cV]
 |succ m ih=>
  intro i f s hi hf G;obtain⟨f,rfl⟩:∃g,f=g+1:=⟨f - 1,by omega⟩
  have ln:=λ(K:AV->St->Option (AV×St))=>(hV.ai G).lenB (c:=c) K s
  rw[Za4]at ln;have bx:=G.get hb;have him:i<J.p.rs.length:=by omega
  have aW:decide ((i:Int)<(J.p.rs.length:Int))=true:=Za0 (by omega);have wr:ax .i64 ((i:Int)+1)=((i+1:Nat):Int):=by rw[wrap64 (by omega) (by omega)];omega
  have hr:=H0 him;obtain⟨mm,R⟩:=O.rul _ (Zb9 him);have oe:p.rs[i]? =some J.p.rs[i]:=(congrArg (λl:List Rl=>l[i]?) Jg.sim.rs).symm.trans hr;obtain⟨nv,s1,en,Mn⟩:=amP hc (hP.OI G) sF mr ck oe R.k R.m1 R.m2;rw[<-alk Jg.sim]at Mn;have G1:=G.trans Mn.ai;have ld5:=Di (c:=c) (R:=AV×St) bx vl;generalize hLd:xF (pG J.p J.p.rs[i]) J.p.gs 0=L at*
  have hLn:L.length<=1000000:=by rw[<-hLd];exact Zb2 (aeQ _ _ _) (by have:=Jg.jw.sF.gs;omega)
  have ia:=amN (c:=c) hc hLn Mn.own (a:Int);have ib:=amN (c:=c) hc hLn Mn.own (b:Int);have jw1:=Jg.jw.ai G1;have f1:=afZ hc O jw1 G1.wf (pq.ai G1) hq hr;have f2:=afZ hc O jw1 G1.wf (oq.ai G1) hq2 hr;have l1:=aiI hc O jw1 G1.wf (pq.ai G1) hq hr;have l2:=aiI hc O jw1 G1.wf (oq.ai G1) hq2 hr;obtain⟨g,s2,vb,bl,hg,eb,gb,bq,bln,mem⟩:=arH hc O jw1 G1.wf (pq.ai G1) hq hr;have G2:=G1.trans gb;have uS:∀x∈bl,x∈L/\∃(a:Nat) (y:Int),x=(a:Int)/\q[a]? =some y/\0<=y:=λx hx=>by
   obtain⟨a,rfl,h1,h2⟩:=arN Jg.kc R MQ ((mem x).1 hx);obtain⟨y,y1,_,_⟩:=aoX h2;exact⟨by rw[<-hLd];exact aeU.2 h1,a,(y:Int),rfl,y1,by omega⟩
  have z1:=λk1 k4=>arO (c:=c) hc (pq.ai G2) (Mn.own.ai gb) bq hLn bln uS (.ptr jb 0) (.ptr b3 0) (.int .i64 (a:Int)) (.int .i64 (b:Int)) Ot (.int .i64 (i:Int)) F bl.length 0 F (by omega) (by omega) k1 k4
  simp only[show((0:Nat):Int)=0 from rfl]at z1;obtain⟨s',G',z⟩:=ih (i+1) f s2 (by omega) (by omega) G2;refine⟨s',G',λk1 k2=> ?_⟩;rw[<-z k1 k2,vh];cases ca:L.contains (a:Int)with
  |true=>
   rw[ca]at ia;simp only[aH,bg,av,aS,Zb8,aT,bx,aD,Za9,h4,aR,ln,cG,aW,dH,ld5,bX,en,bM,ia,pP,Zh0,adb,Q8,ade,fO,gC,tL,cV,eb,z1,fD,wr]
  |false=>
   rw[ca]at ia;cases cb:L.contains (b:Int)with
   |    true=>
        rw[cb]at ib;simp only[aH,bg,av,aS,Zb8,aT,bx,aD,Za9,h4,aR,ln,cG,aW,dH,ld5,bX,en,bM,ia,ib,pP,Zh0,Zk6,adb,Q8,ade,fO,gC,tL,cV,eb,z1,fD,wr]
   |    false=>
        (rw[cb]at ib;have na:¬zF J J.p.rs[i] a:=λh=>by have:=aeU.2 h;rw[hLd]at this;rw[Zo8.2 this]at ca;cases ca);have nb:¬zF J J.p.rs[i] b:=λh=>by have:=aeU.2 h;rw[hLd]at this;rw[Zo8.2 this]at cb;cases cb
        obtain⟨ef,el⟩:=auo Jg.kc R (λhm=>na (ao2 R hm ha)) hq hq2 λi hi=>hsw i (λe=>na (e ▸hi)) (λe=>nb (e ▸hi))
        rw[ef]at f2;rw[el]at l2;simp only[aH,bg,av,aS,Zb8,aT,bx,aD,Za9,h4,aR,ln,cG,aW,dH,ld5,bX,en,bM,ia,ib,pP,Zh0,Zk6,adb,Q8,ade,fO,f1,f2,l1,l2,LS,Zg6,gC,tL,cV,eb,z1,fD,wr]
end
theorem arQ{R:Type}{s:St}{v:AV}{rows:List (List AV)}(h:QS 1 s v rows)(K:AV->Option R):eX (.lenB .l) [v] K=K (.int .i64 (rows.length:Int)):=by
 rcases h with⟨rfl,rfl⟩|⟨b,off,cap,cs,rfl,_⟩|⟨b,off,rfl,rfl⟩<;>exact dD K (λH n=>rfl)
theorem Mk.setP{s0 s:St}{v:AV}{q:List Int}(h:Mk 1 s0 s v (q.map bC)){i:Nat}(hi:i<q.length)(x:Int):
  ∃b o s',(∀(K:AV->Option (AV×St)),eX (.idxA 1 none) [v,.int .i64 (i:Int)] K=K (.ptr b o))/\(∀(K:AV->St->Option (AV×St)),aq c (.store 1) [.ptr b o,.int .i64 x] s K=K .undef s')/\Mk 1 s0 s' v ((q.set i x).map bC):=by
 obtain⟨b,o,s',a1,a2,a3⟩:=Mk.setI (c:=c) h hi x;obtain⟨b2,o2,cs,k1,k2,_⟩:=QS.set (c:=c) (R:=AV×St) h.own h.row (by decide) (i:=i) (by rw[Za4];exact hi);have e1:=a1 (λy _=>some (y,s)) s;rw[k1 (λy _=>some (y,s)) .i64 s]at e1;simp only[H5,Zd2,AV.ptr.injEq,Zm5]at e1;obtain⟨rfl,rfl⟩:=e1;exact⟨b2,o2,s',λK=>k2 K .i64,a2,a3⟩
theorem agC(hc:bw c){xt xg xy xr:List Nat}(ht:∀x∈xt,x<256)(hg:∀x∈xg,x<65536)(hy:∀x∈xy,x<256)(hr:∀x∈xr,x<4294967296)(lt:xt.length<=9223372036854775807)(lg:xg.length<=9223372036854775807)(lr:xr.length<=9223372036854775807)(ly:xy.length<=9223372036854775807)
   (zt zg zy zr z1:Bool) (xs:List Int) (lx:xs.length<=9223372036854775807) {u w:Nat} (hu:u<256) (hv:w<256) (st:St) (hw:Wf st):c 3 [.agg (jC zt zg zy zr xt xg xy xr),ints z1 xs,.int .u8 (u:Int),.int .u8 (w:Int)] st=some (.bool true,st):=by
 have g1:=Grew.ah hw (.cells (jC zt zg zy zr xt xg xy xr) 0);have ld4:∀(K:AV->St->Option (AV×St)),aq c (.load (some 4)) [.ptr st.next 0] (ah st (.cells (jC zt zg zy zr xt xg xy xr) 0)) K=K (.agg (jC zt zg zy zr xt xg xy xr)) (ah st (.cells (jC zt zg zy zr xt xg xy xr) 0)):=λK=>by rw[gR,aA];rfl
 obtain⟨Vs,s2,jb,j,J,s0,e2,g2,P2,Jg2⟩:=arD hc ht hg hy hr lt lg lr ly zt zg zy zr _ g1.wf;obtain⟨vl,vo⟩:=P2.cells;have w2:=g2.wf;have st5:∀(K:AV->St->Option (AV×St)),aq c (.store 5) [.ptr s2.next 0,.agg Vs] (ah s2 (.cells [.af,.af,.af,.af,.af] 0)) K=K .undef (ah s2 (.cells Vs 0)):=λK=>cr c K s2 5 (.agg Vs) _ vl rfl vo
 have g3:=Grew.ah w2 (.cells Vs 0);have x3:=aA s2 (.cells Vs 0);obtain⟨s3,CP⟩:∃s3,s3=ah s2 (.cells Vs 0):=⟨_,rfl⟩
 obtain⟨b3,Vc⟩:∃b3,b3=s2.next:=⟨_,rfl⟩
 rw[<-CP]at st5 g3 x3;rw[<-Vc]at st5 x3;have P3:=P2.OI g3;have Jg3:=Jg2.ai g3;have sF:=zB xt xg xy xr;have sz:=aoS (xg:=xg) (xy:=xy) (xr:=xr) ht;have hN:=Jg3.sum;have hn:=Jg3.n;obtain⟨s4,v4,e4,M4⟩:=aoN hc P3 sz sF.ts sF.gs hN z1 xs lx;have A:=aoP (J:=J) (n:=(nE xt xg xy xr).gs.length) hn.symm xs;obtain⟨q,hq⟩:∃q,q=iz (List.replicate J.N false) (JZ (Yd J.N xs) (nE xt xg xy xr).gs.length 0):=⟨_,rfl⟩
 rw[<-hq]at A M4;have g4:=M4.ai;have Jg4:=Jg3.ai g4;have x4:=g4.get x3;have P4:=P3.OI g4;have srs:J.p.rs=(nE xt xg xy xr).rs:=Jg3.sim.rs;have mr:=adx (xg:=xg) (xy:=xy) (xr:=xr) ht;have ck:=ady (xg:=xg) (xy:=xy) (xr:=xr) ht;have kL:q.length<=1000:=by have:=A.len;have:=sF.gs;omega
 have ln:=λ(K:AV->St->Option (AV×St))(s:St)=>M4.own.lenB (c:=c) K s
 rw[Za4]at ln;have lp:=λ(K:AV->Option (AV×St))=>arQ M4.own K
 rw[Za4]at lp;have va:=ary hc Jg4.jw g4.wf M4.own A;have aw:=atd hc s4;have G4:=(g1.trans g2).trans (g3.trans g4);have wu:ax .i64 (u:Int)=(u:Int):=wrap64 (by omega) (by omega);have ww:ax .i64 (w:Int)=(w:Int):=wrap64 (by omega) (by omega)
 suffices key:∃s',Grew st s'/\oa c 2000000 (.agg (jC zt zg zy zr xt xg xy xr)) (ints z1 xs) (.int .u8 (u:Int)) (.int .u8 (w:Int)) st=some (.bool true,s')by
   obtain⟨s',k1,k2⟩:=key;rw[Ip hc 2000000 k2,aB (Plain.bool _) k1.keeps]
 by_cases h0:q.length=0
 .have d0:decide ((q.length:Int)=0)=true:=Za0 (by omega);refine⟨s4,G4,?_⟩;rw[mL];simp only[cS,show ∀l,AV.cells (.agg l)=l from λl=>rfl,av,ld4,bX,e2,bM,fS,Za5,Zb4,aR,cL, <-CP, <-Vc,st5,pP,Zh0,cV,Di x3 vl,e4,ln,eG,d0,dH,va,fO,aw,tL]
 have d0:decide ((q.length:Int)=0)=false:=Za1 (by omega);obtain⟨a,ea⟩:∃a,a=u % q.length:=⟨_,rfl⟩
 obtain⟨b,eb⟩:∃b,b=w % q.length:=⟨_,rfl⟩
 have ha:a<q.length:=by rw[ea];exact Zj5 _ (by omega)
 have hb:b<q.length:=by rw[eb];exact Zj5 _ (by omega)
 have ra:∀(K:AV->Option (AV×St)),eX (.bin .rem .num) [.int .i64 (u:Int),.int .i64 (q.length:Int)] K=K (.int .i64 (a:Int)):=λK=>by rw[GY (by omega) (by omega),ea,Zl9]
 have rb:∀(K:AV->Option (AV×St)),eX (.bin .rem .num) [.int .i64 (w:Int),.int .i64 (q.length:Int)] K=K (.int .i64 (b:Int)):=λK=>by rw[GY (by omega) (by omega),eb,Zl9]
 clear ea eb;have ya:=H0 ha;have yb:=H0 hb;obtain⟨pb,po,p⟩:=ot M4.own ya;obtain⟨ob,oo,o⟩:=ot M4.own yb;have p1:=λ{R}=>@p.st R
 have p3:=p.one;have o1:=λ{R}=>@o.st R
 have o3:=o.one;by_cases hya:q[a]<0
 .have dy:decide (q[a]<0)=true:=Za0 hya;refine⟨s4,G4,?_⟩;rw[mL];simp only[cS,show ∀l,AV.cells (.agg l)=l from λl=>rfl,av,cX,ld4,bX,e2,bM,fS,Za5,Zb4,aR,cL, <-CP, <-Vc,st5,pP,Zh0,cV,Di x3 vl,e4,ln,eG,d0,abS,wu,ww,lp,ra,rb,p1,aT,p3,cG,dy,Q8,ade,tL,dH,aw]
 by_cases hyb:q[b]<0
 .have dy:decide (q[a]<0)=false:=Za1 hya;have dz:decide (q[b]<0)=true:=Za0 hyb;refine⟨s4,G4,?_⟩;rw[mL];simp only[cS,show ∀l,AV.cells (.agg l)=l from λl=>rfl,av,cX,ld4,bX,e2,bM,fS,Za5,Zb4,aR,cL, <-CP, <-Vc,st5,pP,Zh0,cV,Di x3 vl,e4,ln,eG,d0,abS,wu,ww,lp,ra,rb,p1,aT,p3,o1,o3,cG,dy,dz,fO,gC,dH,aw]
 have dy:decide (q[a]<0)=false:=Za1 hya;have dz:decide (q[b]<0)=false:=Za1 hyb;obtain⟨s5,v5,e5,M5⟩:=aoY hc g4.wf kL M4.own;obtain⟨p',o'⟩:(∃b o,Rd s5 1 v4 a b o [.int .i64 q[a]])/\(∃c o,Rd s5 1 v4 b c o [.int .i64 q[b]]):=⟨ot (M4.own.ai M5.ai) ya,ot (M4.own.ai M5.ai) yb⟩
 obtain⟨pb5,po5,p5⟩:=p';obtain⟨ob5,oo5,o5⟩:=o';have p51:=λ{R}=>@p5.pr R
 have p53:=p5.one;have o51:=λ{R}=>@o5.pr R
 have o53:=o5.one;obtain⟨c6,d6,s6,k1,k2,M6⟩:=Mk.setP (c:=c) M5 ha q[b];obtain⟨c7,d7,s7,l1,l2,M7⟩:=Mk.setP (c:=c) M6 (i:=b) (by rw[Zj3];exact hb) q[a];have esw:(q.set a q[b]).set b q[a]=swL q a b:=by unfold swL;rw[qH ya,qH yb]
 rw[esw]at M7;have g7:=M7.ai;have Jg7:=Jg4.ai g7;have P7:=P4.OI g7;have x7:=g7.get x4;obtain⟨V1,V2,V3,V4,V5,r1,r2,rfl,_,_,_,_,h5⟩:=P7.all;have hV:QS 6 s7 V5 (J.p.rs.map Rl.cells):=by rw[srs];exact h5.own
 obtain⟨s8,G8,e8⟩:=arP (c:=c) hc Jg7 P7 sF (λr h=>(mr r h).1) ck (M4.own.ai g7) A M7.own (auq A ha hb) x7 rfl rfl hV (a:=a) (b:=b) (by have:=A.len;omega) (λi h1 h2=>avE ha hb h1 h2) 2000000 (by omega) J.p.rs.length 0 2000000 s7 (by omega) (by have:=Jg7.jw.sF.rs;omega) (Grew.refl g7.wf);simp only[show((0:Nat):Int)=0 from rfl]at e8;have aw8:=atd hc s8;refine⟨s8,G4.trans (g7.trans G8),?_⟩;rw[mL];simp only[cS,show ∀l,AV.cells (.agg l)=l from λl=>rfl,av,cX,ld4,bX,e2,bM,fS,Za5,Zb4,aR,cL, <-CP, <-Vc,st5,pP,Zh0,cV,Di x3 rfl,e4,ln,eG,d0,abS,wu,ww,lp,ra,rb,p1,aT,p3,o1,o3,cG,dy,dz,fO,gC,e5,p51,o51,ju,p53,o53,k1,k2,l1,l2,e8,bg,aw8]
end
section
open Go Go.Ai Go.Proofs Go.Sort
def Tryz.akk:Go.Shelf.Ren:=⟨λ|189=>35|125=>67|257=>66|128=>136|129=>137|294=>127|295=>128|296=>129|297=>130|298=>131|299=>132|216=>133|300=>134|301=>135|328=>176|329=>177|330=>178|331=>179|332=>180|215=>181|343=>214|n=>n,λ|28=>27|3=>3|46=>132|0=>0|51=>103|53=>186|4=>4|183=>178|182=>177|131=>148|5=>5|9=>9|218=>221|222=>225|228=>231|229=>232|n=>n,λ|n=>n⟩
theorem Tryz.aeW:Go.Proofs.Lays.n189 Tryz.prog Tryz.akk:={
 mixed:=by kernel_rfl
 f125:=Tryz.func67.trans (congrArg some (by kernel_rfl))
 f128:=Tryz.func136.trans (congrArg some (by kernel_rfl))
 f129:=Tryz.func137.trans (congrArg some (by kernel_rfl))
 f189:=Tryz.func35.trans (congrArg some (by kernel_rfl))
 f215:=Tryz.func181.trans (congrArg some (by kernel_rfl))
 f216:=Tryz.func133.trans (congrArg some (by kernel_rfl))
 f257:=Tryz.func66.trans (congrArg some (by kernel_rfl))
 f294:=Tryz.func127.trans (congrArg some (by kernel_rfl))
 f295:=Tryz.func128.trans (congrArg some (by kernel_rfl))
 f296:=Tryz.func129.trans (congrArg some (by kernel_rfl))
 f297:=Tryz.func130.trans (congrArg some (by kernel_rfl))
 f298:=Tryz.func131.trans (congrArg some (by kernel_rfl))
 f299:=Tryz.func132.trans (congrArg some (by kernel_rfl))
 f300:=Tryz.func134.trans (congrArg some (by kernel_rfl))
 f301:=Tryz.func135.trans (congrArg some (by kernel_rfl))
 f328:=Tryz.func176.trans (congrArg some (by kernel_rfl))
 f329:=Tryz.func177.trans (congrArg some (by kernel_rfl))
 f330:=Tryz.func178.trans (congrArg some (by kernel_rfl))
 f331:=Tryz.func179.trans (congrArg some (by kernel_rfl))
 f332:=Tryz.func180.trans (congrArg some (by kernel_rfl))
 f343:=Tryz.func214.trans (congrArg some (by kernel_rfl))
 t0:=Tryz.underlying0
 a0:=Tryz.isAgg0
 z0:=Tryz.sizeOf0
 v0:=Tryz.zeroValue0
 t3:=Tryz.underlying3
 a3:=Tryz.isAgg3
 z3:=Tryz.sizeOf3
 v3:=Tryz.zeroValue3
 t4:=Tryz.underlying4
 a4:=Tryz.isAgg4
 z4:=Tryz.sizeOf4
 v4:=Tryz.zeroValue4
 t5:=Tryz.underlying5
 a5:=Tryz.isAgg5
 z5:=Tryz.sizeOf5
 v5:=Tryz.zeroValue5
 t9:=Tryz.underlying9
 a9:=Tryz.isAgg9
 z9:=Tryz.sizeOf9
 v9:=Tryz.zeroValue9
 t28:=Tryz.underlying27
 a28:=Tryz.isAgg27
 z28:=Tryz.sizeOf27
 v28:=Tryz.zeroValue27
 t46:=Tryz.underlying132
 a46:=Tryz.isAgg132
 z46:=Tryz.sizeOf132
 v46:=Tryz.zeroValue132
 t51:=Tryz.underlying103
 a51:=Tryz.isAgg103
 z51:=Tryz.sizeOf103
 v51:=Tryz.zeroValue103
 t53:=Tryz.underlying186
 a53:=Tryz.isAgg186
 z53:=Tryz.sizeOf186
 v53:=Tryz.zeroValue186
 t131:=Tryz.underlying148
 a131:=Tryz.isAgg148
 z131:=Tryz.sizeOf148
 v131:=Tryz.zeroValue148
 t182:=Tryz.underlying177
 a182:=Tryz.isAgg177
 z182:=Tryz.sizeOf177
 v182:=Tryz.zeroValue177
 t183:=Tryz.underlying178
 a183:=Tryz.isAgg178
 z183:=Tryz.sizeOf178
 v183:=Tryz.zeroValue178
 t218:=Tryz.underlying221
 a218:=Tryz.isAgg221
 z218:=Tryz.sizeOf221
 v218:=Tryz.zeroValue221
 t222:=Tryz.underlying225
 a222:=Tryz.isAgg225
 z222:=Tryz.sizeOf225
 v222:=Tryz.zeroValue225
 t228:=Tryz.underlying231
 a228:=Tryz.isAgg231
 z228:=Tryz.sizeOf231
 v228:=Tryz.zeroValue231
 t229:=Tryz.underlying232
 a229:=Tryz.isAgg232
 z229:=Tryz.sizeOf232
 v229:=Tryz.zeroValue232 }
def Tryz.akl:Go.Shelf.Ren:=⟨λ|20=>36|n=>n,λ|22=>27|3=>3|4=>4|0=>0|n=>n,λ|n=>n⟩
theorem Tryz.aeX:Go.Proofs.Lays2.n20 Tryz.prog Tryz.akl:={
 mixed:=by kernel_rfl
 f20:=Tryz.func36.trans (congrArg some (by kernel_rfl))
 t0:=Tryz.underlying0
 a0:=Tryz.isAgg0
 z0:=Tryz.sizeOf0
 v0:=Tryz.zeroValue0
 t3:=Tryz.underlying3
 a3:=Tryz.isAgg3
 z3:=Tryz.sizeOf3
 v3:=Tryz.zeroValue3
 t4:=Tryz.underlying4
 a4:=Tryz.isAgg4
 z4:=Tryz.sizeOf4
 v4:=Tryz.zeroValue4
 t22:=Tryz.underlying27
 a22:=Tryz.isAgg27
 z22:=Tryz.sizeOf27
 v22:=Tryz.zeroValue27
 i3:=by kernel_rfl }
section
variable{P:Program}{C:Cells}{ρ:Pos->Go.Ai.Loc}{st:St}{w:World}
theorem aiV{f:FuncId}{fn:Func}{c:Code}{s:List AV->St->Option (AV×St)}(hf:P.funcs[f]? =some fn)(o7:¬fn.name= "runtime.NumGoroutine")(hb:fn.body=some c)
  (hm:∀args st v st',s args st=some (v,st')->st.next.toNat<=st'.next.toNat)
  (h:∀(ρ:Pos->Go.Ai.Loc)(st:St)(w:World)(args:List AV)(v:AV)(st':St)(cq:List Value),s args st=some (v,st')->bZ ρ C st w->aK ρ st.next.toNat C args cq->
   Calls P f cq.toArray w λe w'=>∃x,e= .returned x/\lM ρ C st w v st' x w'):qD P C f s where
 mono:=hm
 runs ρ st w args v st' cq hh hW hv:=by
  have dO:(callFunc f cq.toArray).run P w= .ok (.enter f cq.toArray) w:=by simp[callFunc,hf,o7,hb]
  rw[dO];refine Calls.mono (h ρ st w args v st' cq hh hW hv) λe w' he=> ?_
  obtain⟨x,rfl,hx⟩:=he;exact hx
theorem ON{v:AV}{x:Value}(hW:bZ ρ C st w)(hv:aC ρ st.next.toNat C v x):lM ρ C st w v st x w:=⟨ρ,hv,λ_ _=>rfl,Za3 _,hW,pg.refl _ _ _⟩
theorem OO(os:Array Obj){k:Nat}(h:k<w.heap.size):(grow w os).heap[k]? =w.heap[k]? :=by simp[grow,Array.getElem?_append,h]
theorem Yn{w w':World}{a:Addr}(h:w'.heap[a.block]? =w.heap[a.block]?):w'.cell? a=w.cell? a:=by unfold World.cell?;rw[h]
theorem alr{a:Addr}{v:Value}(h:w.cell? a=some v):a.block<w.heap.size:=by
 unfold World.cell? at h;split at h
 .rename_i hh;exact(Zd3.1 hh).1
 .cases h
theorem awD(h:bZ ρ C st w)(os:Array Obj):bZ ρ C st (Go.Sort.grow w os) where
 live b x hb:=by
  obtain⟨a1,a2,a3⟩:=h.live b x hb;exact⟨a1,by rw[size_grow];omega,a3.of_heap (OO os a2)⟩
 inj:=h.inj
 dW a v hc:=by
  obtain⟨a1,a2⟩:=h.dW a v hc;exact⟨(Yn (OO os (alr a1))).trans a1,a2⟩
 whole a v hc o ho:=(Yn (a:=⟨a.block,o,none⟩) (OO os (show a.block<w.heap.size from alr (h.dW a v hc).1))).trans (h.whole a v hc o ho)
theorem awE(ρ:Pos->Go.Ai.Loc)(st:St)(w:World)(os:Array Obj):pg ρ st w ρ st (Go.Sort.grow w os):=⟨rfl,rfl,rfl,by rw[size_grow];omega,λk hk _=>OO os hk,λb x hx=>.inl ⟨b,x,hx,rfl⟩⟩
theorem agD(off:Nat)(zs:List Int)(c:Array Value)(h:off+zs.length<=c.size):(putCells (Value.int .i64) off zs.toArray c).toList=aU c.toList off (zs.map (Value.int .i64)):=by
 apply Zi6;intro k;rw[DO _ _ (by simpa using by omega),putCells,Zi4,Array.getElem?_mapIdx,Zi4,Za4,Zb7];by_cases h1:k<off
 .rw[Zb6 h1,Zg1 (by omega),Ze0,Za7 (by omega)]
 . rw[Za7 h1];by_cases h2:k<off+zs.length
   .rw[Zb6 h2,Zg1 (by omega),Ze0,Zb6 ⟨by omega,by simpa using h2⟩,H0 (by omega)];simp[getElem!_pos,show k - off<zs.length by omega]
   . rw[Za7 h2];cases c[k]? with
     |none=>rfl
     |some y=>rw[Ze0,Za7 (by simpa using λ_=>by omega)]
theorem apb(hW:bZ ρ C st w){b:Pos}{cs:List AV}(hb:st.heap.get b=some (.cells cs 0)){o:Nat}{zs:List Int}(hle:o+zs.length<=cs.length)(q:Nat)(os:Array Obj):
  bZ ρ C (laid st b cs o zs) (Go.Sort.grow (putRow (Value.int .i64) (Go.Sort.ahead w q) (ρ b).aM ((ρ b).base+o) zs.toArray) os)/\pg ρ st w ρ (laid st b cs o zs) (Go.Sort.grow (putRow (Value.int .i64) (Go.Sort.ahead w q) (ρ b).aM ((ρ b).base+o) zs.toArray) os):=by
 obtain⟨_,DH,c,e,fr,g1,g2,g3,g4,g5⟩:=hW.live b _ hb;have hlen:(aU cs o (qN zs)).length=cs.length:=by simp[aU];omega
 have gw:(putCells (Value.int .i64) ((ρ b).base+o) zs.toArray c).size=c.size:=by simp[putCells]
 have hz:aK ρ st.next.toNat C (qN zs) (zs.map (Value.int .i64)):=⟨by simp,λi v x hv hx=>by
  rw[Zb7]at hv hx;cases hh:zs[i]? with
  |none=>rw[hh]at hv;cases hv
  |some z=>rw[hh]at hv hx;cases hv;cases hx;exact .int _ _⟩
 obtain⟨h1,h2⟩:=ahB (w':=putRow (Value.int .i64) (Go.Sort.ahead w q) (ρ b).aM ((ρ b).base+o) zs.toArray) (x0:= .cells (aU cs o (qN zs)) 0) hW hb rfl rfl rfl (by simp) (λk hk=>by
  simp only[putRow,mapBlock,Zj1,Za7 (Ne.symm hk),heap_ahead]) ⟨putCells (Value.int .i64) ((ρ b).base+o) zs.toArray c,e,fr,by
   simp only[putRow,mapBlock,Zj1,Zh1,heap_ahead,g1,Ze0,onCells],by rw[gw];exact g2,by rw[hlen,gw];exact g3,by
   rw[hlen,agD _ _ _ (by omega),Px _ _ _ _ (by simp;omega),aaS _ _ _ _ (by simp;omega) (by simp;omega)];exact g4.aU hz o,λi hi QV=>g5 i hi (by rw[gw]at QV;exact QV)⟩
 exact⟨awD h1 os,h2.trans (awE ρ _ _ os)⟩
theorem adB{n:Nat}:∀{vs:List AV}{xs:List Value}{zs:List Int},Rs vs=some zs->aK ρ n C vs xs->xs=zs.map (Value.int .i64)
 |[],xs,zs,h,hv=>by cases h;exact hv.kO
 |v ::vs,xs,zs,h,hv=>by
  obtain⟨x,Bi,rfl,h1,h2⟩:=hv.cons_inv;unfold Rs at h;split at h
  .rename_i heq;cases heq
  . rename_i heq;cases heq;split at h
    .   rename_i hr;cases h;rw[h1.iI,adB hr h2];rfl
    .   cases h
  .cases h
theorem af5(hW:bZ ρ C st w){b:Pos}{o n:Nat}{cs:List AV}{zs:List Int}(h:rowOf st b o n=some (cs,zs)):
   st.heap.get b=some (.cells cs 0)/\zs.length=n/\n<=1000000/\(0<n->o+n<=cs.length)/\(ρ b).aM<w.heap.size/\Holds (Value.int .i64) w (ρ b).aM ((ρ b).base+o) zs.toArray:=by
 unfold rowOf at h;split at h<;>first|(cases h;done)|skip
 rename_i mZ hb;split at h<;>first|(cases h;done)|skip
 rename_i zs' hz;split at h<;>first|(cases h;done)|skip
 rename_i hl;cases h;rw[Zb1]at hl;have hl1:=Za6 hl.1;have sx:=Zb5 hl.2;obtain⟨_,DH,c,e,fr,g1,g2,g3,g4,g5⟩:=hW.live b _ hb;have hx:=adB hz ((g4.drop o).take n);have hn:0<n->o+n<=cs.length:=λh0=>by have:=congrArg List.length hx;simp only[Zg3,Zp1,Za4,Zi3]at this;omega
 refine⟨hb,hl1,sx,hn,DH,λj hj=> ?_⟩;have hj:j<n:=by simpa [hl1]using hj
 have hn:=hn (by omega);constructor
 .have:=congrArg (·[j]?) hx;simp only[Ze4,Zb6 hj,Ze7,Zb7]at this;rw[Zb6 (by omega),H0 (show j<zs.length by omega)]at this;simp only[World.cell?,g1];rw[show(ρ b).base+o+j=(ρ b).base+(o+j)by omega];simpa [getElem!_pos,show j<zs.length by omega]using this
 .simp only[World.frozen?,g1];have:=g5 (o+j) (Zi0 _) (by omega);rw[show(ρ b).base+o+j=(ρ b).base+(o+j)by omega];simpa using this
end
theorem apc{C:Cells}:qD Tryz.prog C 35 Ug:=
 aiV Tryz.func35 (by decide) rfl (λargs st v st' h=>by
  unfold Ug at h
  repeat' split at h
  all_goals first|(cases h;done)|skip
  all_goals (injection h with h;injection h with h1 h2;rw[<-h2];exact Za3 _)) λρ st w args v st' cq h hW hv=>by
  unfold Ug at h;split at h
  .  cases h;obtain⟨x,xs,rfl,h1,h2⟩:=hv.cons_inv;have:=h2.kO;subst this;rw[h1.iJ];exact(Any.slices_Sort_int_none Tryz.aeW none 0 w).mono λe w' he=>by
        obtain⟨rfl,rfl⟩:=he;exact⟨_,rfl,ON hW (.qZ (by simpa using aK.nil))⟩
  .  obtain⟨x,xs,rfl,h1,h2⟩:=hv.cons_inv;have:=h2.kO;subst this;obtain⟨a,br,rfl,hle,hcp,ha⟩:=h1.fM;split at h
     .  cases h;exact(Any.slices_Sort_int_none Tryz.aeW (some a) br w).mono λe w' he=>by
         obtain⟨rfl,rfl⟩:=he;exact⟨_,rfl,ON hW (.qZ (by simpa using aK.nil))⟩
     .  (split at h<;>first|(cases h;done)|skip);rename_i cs zs hr;cases h;obtain⟨hb,hl,sx,hn,DH,hH⟩:=af5 hW hr;obtain⟨_,rfl,_⟩:=ha (by omega);rw[show Nat.succ _=zs.length from hl.symm];exact(Any.slices_Sort_int Tryz.aeW _ _ br zs w hH DH (by omega)).mono λe w' he=>by
         obtain⟨rfl,n,os,rfl⟩:=he;obtain⟨k1,k2⟩:=apb hW hb (o:=_) (zs:=B4 zs) (by rw[B4,List.length_mergeSort,hl];exact hn (by omega)) n os;exact⟨_,rfl,ρ,.qZ (by simpa using aK.nil),λ_ _=>rfl,Za3 _,k1,k2⟩
  .  cases h
theorem aiW{C:Cells}:qD Tryz.prog C 36 Ci:=
 aiV Tryz.func36 (by decide) rfl (λargs st v st' h=>by
  unfold Ci at h
  repeat' split at h
  all_goals first|(cases h;done)|skip
  all_goals (injection h with h;injection h with h1 h2;rw[<-h2];exact Za3 _)) λρ st w args v st' cq h hW hv=>by
  unfold Ci at h;split at h
  .  cases h;obtain⟨x,xs,rfl,h1,h2⟩:=hv.cons_inv;have:=h2.kO;subst this;rw[h1.iJ];exact(Any.slices_Compact_int_empty Tryz.aeX none 0 w).mono λe w' he=>by
        obtain⟨rfl,rfl⟩:=he;exact⟨_,rfl,ON hW .af⟩
  .  obtain⟨x,xs,rfl,h1,h2⟩:=hv.cons_inv;have:=h2.kO;subst this;obtain⟨a,br,rfl,hle,hcp,ha⟩:=h1.fM;split at h
     .  cases h;exact(Any.slices_Compact_int_empty Tryz.aeX (some a) br w).mono λe w' he=>by
         obtain⟨rfl,rfl⟩:=he;exact⟨_,rfl,ON hW h1⟩
     .  (split at h<;>first|(cases h;done)|skip);rename_i cs zs hr;cases h;obtain⟨hb,hl,sx,hn,DH,hH⟩:=af5 hW hr;have aqu:=h1.Xa;obtain⟨hbn,rfl,hbd⟩:=ha (by omega);rw[show Nat.succ _=zs.length from hl.symm];have hle2:=hn (by omega);rw[<-hl]at hle2;have hcl:(Lib.compact zs).length<=zs.length:=Qb zs;exact(Any.slices_Compact_int Tryz.aeX _ _ br zs w hH (by omega) (by omega)).mono λe w' he=>by
         obtain⟨rfl,n,rfl⟩:=he;obtain⟨k1,k2⟩:=apb hW hb (o:=_) (zs:=Lib.compact zs++List.replicate (zs.length - (Lib.compact zs).length) 0) (Zb2 (Nat.add_le_add_left (Zr8 (by rw[Zd6,Zo7];omega)) _) hle2) n #[];rw[grow_empty]at k1 k2;exact⟨_,rfl,ρ,.slice _ _ _ _ _ br _ (by omega) hcp (λ_=>⟨hbn,rfl,hbd⟩) aqu,λ_ _=>rfl,Za3 _,k1,k2⟩
  .  cases h
end
section
open Go Go.Ai Go.Proofs Go.RowKit
theorem acj{α:Type}{P:α->Prop}{cells:α->List AV}:∀(rs:List (List AV)),(∀r∈rs,∃t,r=cells t/\P t)->∃l:List α,rs=l.map cells/\∀t∈l,P t
 |[],_=>⟨[],rfl,by simp⟩
 |r::rs,h=>by
  obtain⟨t,rfl,ht⟩:=h r (by simp);obtain⟨l,rfl,hl⟩:=acj rs (λq hq=>h q (Zb0 _ hq));refine⟨t::l,rfl,λu hu=> ?_⟩;rcases Za8.1 hu with rfl|hu
  .exact ht
  .exact hl u hu
section
variable{H:Type}{enc:TypeId×Value->H}{w:World}{base:Nat}{spare:Nat->Bool}{held:Bool}
theorem Yo{t:TypeId}{k:IntKind}{r:Go.Reach}{b0:Nat}{v:Value}{d:DataW H}{p:List MemPlace}(ht:Tryz.prog.underlying t=some (.int k))
  (hval:Value.okWide Tryz.prog w r b0 t v) (hd:DataW.Trod enc Tryz.prog w base spare held t v d p):∃us,(∃i,us=[AV.int k i]/\(Lit.int k i).wf=true)/\∀ρ n,aK ρ n (λad=>w.cell? ad) us [v]:=by
 obtain⟨m,rfl⟩:=Go.WideShapes.okWide_int ht hval;obtain⟨fuel,hf⟩:=hd;exact XF ht _ _ _ hf
theorem wf_u8{i:Int}(h:(Lit.int .u8 i).wf=true):0<=i/\i<256:=by
 have e1:IntKind.min .u8=0:=by decide
 have e2:IntKind.max .u8=255:=by decide
 have h:(decide (IntKind.min _<=i)&&decide (i<=IntKind.max _))=true:=h;rw[e1,e2,Zb1,Ze1,Ze1]at h;omega
theorem wf_u16{i:Int}(h:(Lit.int .u16 i).wf=true):0<=i/\i<65536:=by
 have e1:IntKind.min .u16=0:=by decide
 have e2:IntKind.max .u16=65535:=by decide
 have h:(decide (IntKind.min _<=i)&&decide (i<=IntKind.max _))=true:=h;rw[e1,e2,Zb1,Ze1,Ze1]at h;omega
theorem wf_u32{i:Int}(h:(Lit.int .u32 i).wf=true):0<=i/\i<4294967296:=by
 have e1:IntKind.min .u32=0:=by decide
 have e2:IntKind.max .u32=4294967295:=by decide
 have h:(decide (IntKind.min _<=i)&&decide (i<=IntKind.max _))=true:=h;rw[e1,e2,Zb1,Ze1,Ze1]at h;omega
def Iq(k:IntKind)(n:Nat)(vs:List AV):Prop:=∃(z:Bool) (l:List Nat),vs=[eR k z l]/\(∀x∈l,x<n)/\l.length<=9223372036854775807
theorem Ui{t e:TypeId}{k:IntKind}{n:Nat}(ht:Tryz.prog.underlying t=some (.slice e))(he:Tryz.prog.underlying e=some (.int k))(hc:Tryz.prog.cellsOf e=1)(hk:∀i,(Lit.int k i).wf=true->0<=i/\i<(n:Int)):
  pQ enc Tryz.prog w base spare held t (Iq k n):=by
 refine pQ.mono (aa4 (es:=1) ht hc (by omega) (λvs h=>by obtain⟨i,rfl,_⟩:=h;rfl) (XF he)) λvs h=> ?_
 obtain⟨z,rs,rfl,h1,h2⟩:=h;obtain⟨l,rfl,hl⟩:=acj (P:=λx:Nat=>x<n) (cells:=λx:Nat=>[AV.int k (x:Int)]) rs λr hr=>by
  obtain⟨i,rfl,hi⟩:=h1 r hr;have:=hk i hi;exact⟨i.toNat,by rw[show((i.toNat:Nat):Int)=i by omega],by omega⟩
 refine⟨z,l,rfl,hl,?_⟩;rw[Za4]at h2;unfold Go.maxLen at h2;omega
def avF(vs:List AV):Prop:=∃(z:Bool) (l:List Int),vs=[ints z l]/\l.length<=9223372036854775807
theorem arR:pQ enc Tryz.prog w base spare held 27 avF:=by
 refine pQ.mono (aa4 (es:=1) (e:=3) (by kernel_rfl) (by kernel_rfl) (by omega) (λvs h=>by obtain⟨i,rfl,_⟩:=h;rfl) (XF (k:= .i64) (by kernel_rfl))) λvs h=> ?_
 obtain⟨z,rs,rfl,h1,h2⟩:=h;obtain⟨l,rfl,_⟩:=acj (P:=λ_:Int=>True) (cells:=λx:Int=>[AV.int .i64 x]) rs λr hr=>by
  obtain⟨i,rfl,hi⟩:=h1 r hr;exact⟨i,rfl,trivial⟩
 refine⟨z,l,rfl,?_⟩;rw[Za4]at h2;unfold Go.maxLen at h2;omega
theorem af6:pQ enc Tryz.prog w base spare held 22 (Iq .u8 256):=Ui (e:=5) (by kernel_rfl) (by kernel_rfl) (by kernel_rfl) λ_ h=>wf_u8 h
theorem amR:pQ enc Tryz.prog w base spare held 23 (Iq .u16 65536):=Ui (e:=100) (by kernel_rfl) (by kernel_rfl) (by kernel_rfl) λ_ h=>wf_u16 h
theorem amS:pQ enc Tryz.prog w base spare held 24 (Iq .u32 4294967296):=Ui (e:=103) (by kernel_rfl) (by kernel_rfl) (by kernel_rfl) λ_ h=>wf_u32 h
structure awF(xt xg xy xr:List Nat):Prop where
 t:∀x∈xt,x<256
 g:∀x∈xg,x<65536
 y:∀x∈xy,x<256
 r:∀x∈xr,x<4294967296
 lt:xt.length<=9223372036854775807
 lg:xg.length<=9223372036854775807
 ly:xy.length<=9223372036854775807
 lr:xr.length<=9223372036854775807
theorem agE:pQ enc Tryz.prog w base spare held 26 λvs=>∃zt zg zy zr xt xg xy xr,vs=jC zt zg zy zr xt xg xy xr/\awF xt xg xy xr:=by
 refine pQ.mono (aie [22,23,22,24] (Qs:=[Iq .u8 256,Iq .u16 65536,Iq .u8 256,Iq .u32 4294967296]) (by kernel_rfl) (by kernel_rfl) (by kernel_rfl) ⟨af6,amR,af6,amS,trivial⟩) λvs h=> ?_
 obtain⟨ps,rfl,m0⟩:=h;obtain⟨p0,q0,rfl,⟨z1,l1,rfl,a1,b1⟩,m1⟩:=H8 m0;obtain⟨p0,q0,rfl,⟨z2,l2,rfl,a2,b2⟩,m2⟩:=H8 m1;obtain⟨p0,q0,rfl,⟨z3,l3,rfl,a3,b3⟩,m3⟩:=H8 m2;obtain⟨p0,q0,rfl,⟨z4,l4,rfl,a4,b4⟩,m4⟩:=H8 m3;obtain rfl:=aio m4;exact⟨z1,z2,z3,z4,l1,l2,l3,l4,rfl,⟨a1,a2,a3,a4,b1,b2,b3,b4⟩⟩
end
end
end Go.Proofs.YtmldijpopgaaeaaGreatDoor
namespace Go.Proofs.YtmldijpopgaaeaaGreatDoor.Ep
section
open Go
theorem k1:(Rows.judgeScopeRow.inPlace==Tryz.pinned.checked.prog.inPlace 3)=true:=by kernel_rfl
theorem k2:(Rows.judgeScopeRow.unfollowed==Tryz.pinned.checked.prog.unfollowed 3)=true:=by kernel_rfl
theorem k3:(Rows.judgeScopeRow.recurses==Tryz.pinned.checked.prog.recurses 3)=true:=by kernel_rfl
theorem k4:(Rows.judgeScopeRow.named==Tryz.pinned.checked.prog.varsNamed 3)=true:=by kernel_rfl
theorem k5:laidOutB Tryz.pinned.checked.prog=true:=by kernel_rfl
theorem k6:mapsRowed Tryz.pinned.checked.prog=true:=by kernel_rfl
theorem k7:(Rows.judgeScopeRow.plainKeys==Tryz.pinned.checked.prog.plainKeys)=true:=by kernel_rfl
theorem closed:joinedFacts Tryz.pinned.checked.prog 3 Tryz.f3 (OpenSpec.ofChange Rows.judgeScopeSpec).bare Rows.judgeScopeRow=true:=by
 unfold joinedFacts;rw[k1,k2,k3,k4,k5,k6,k7]
 kernel_rfl
end
end Go.Proofs.YtmldijpopgaaeaaGreatDoor.Ep
