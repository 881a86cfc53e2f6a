/- Checks of a problem. -/
import Derived.Test.YtoeleelojgimfaaGreatDoorWLawsA
set_option linter.all false
set_option maxRecDepth 100000
namespace Go.Proofs.YtoeleelojgimfaaGreatDoor
section
open Go Go.Ai Go.Proofs
variable{c:ai}
def kd:Nat->Kd
 |1=>⟨[97,112,97,114,116],103,true,0,true,0,false,.func 81 [] []⟩
 |2=>⟨[98,101,115,105,100,101],103,true,0,false,0,false,.func 82 [] []⟩
 |3=>⟨[97,99,114,111,115,115],103,true,0,false,0,false,.func 83 [] []⟩
 |4=>⟨[110,101,97,114],103,true,0,true,1,false,.func 84 [] []⟩
 |5=>⟨[116,111,103,101,116,104,101,114],103,true,0,false,0,false,.func 85 [] []⟩
 |6=>⟨[97,116],103,false,116,false,0,false,.func 86 [] []⟩
 |7=>⟨[115,101,97,116],103,false,116,true,0,true,.func 87 [] []⟩
 |8=>⟨[97,108,116,101,114,110,97,116,101],0,false,101,false,0,false,.func 88 [] []⟩
 |9=>⟨[104,111,115,116],0,false,101,false,0,false,.func 89 [] []⟩
 |10=>⟨[114,101,97,99,104],101,false,0,false,0,false,.func 90 [] []⟩
 |11=>⟨[115,112,101,97,107],0,false,101,false,0,false,.func 91 [] []⟩
 |12=>⟨[112,101,97,99,101],0,false,101,false,0,false,.func 92 [] []⟩
 |13=>⟨[99,111,109,112,97,110,121],0,false,101,false,0,false,.func 93 [] []⟩
 |14=>⟨[104,111,110,111,117,114],0,false,101,false,0,false,.func 94 [] []⟩
 |15=>⟨[102,105,108,108],0,false,101,true,0,false,.func 95 [] []⟩
 |16=>⟨[108,105,109,105,116],0,false,101,true,0,false,.func 96 [] []⟩
 |17=>⟨[107,105,116,99,104,101,110],100,false,116,false,0,false,.func 97 [] []⟩
 |18=>⟨[109,105,120],0,false,101,false,0,false,.func 98 [] []⟩
 |_=>⟨[],0,false,0,false,0,false,.iI⟩
def O8:List (AV×AV×Nat):=[(.int .u8 1,.agg (kd 1).cells,0),(.int .u8 2,.agg (kd 2).cells,1),(.int .u8 3,.agg (kd 3).cells,2),(.int .u8 4,.agg (kd 4).cells,3),(.int .u8 5,.agg (kd 5).cells,4),(.int .u8 6,.agg (kd 6).cells,5),(.int .u8 7,.agg (kd 7).cells,6),(.int .u8 8,.agg (kd 8).cells,7),(.int .u8 9,.agg (kd 9).cells,8),(.int .u8 10,.agg (kd 10).cells,9),(.int .u8 11,.agg (kd 11).cells,10),(.int .u8 12,.agg (kd 12).cells,11),(.int .u8 13,.agg (kd 13).cells,12),(.int .u8 14,.agg (kd 14).cells,13),(.int .u8 15,.agg (kd 15).cells,14),(.int .u8 16,.agg (kd 16).cells,15),(.int .u8 17,.agg (kd 17).cells,16),(.int .u8 18,.agg (kd 18).cells,17)]
theorem PR(p:Pos):¬Plain (.map p):=λh=>by have:=h (λ_=>(⟨0,0,0⟩:Go.Ai.Loc)) (λ_=>⟨1,0,0⟩) (p.toNat+1) (p.toNat+1) (λ_=>none) _ (.map p (Nat.lt_succ_self _));cases this
theorem aa7(st:St)(p:Pos)(s':St):tidy st (.map p,s')=(.map p,s'):=by unfold tidy;rw[Za5];exact λe=>PR p e.1
theorem cJ{R:Type}(c:ai)(K:AV->St->Option R)(st:St)(z:List AV)(ps:List (Nat×Nat))(xs l:List AV)(h:b6 z ps xs=some l):ak c (.build z ps) xs st K=K (.agg l) st:=by rw[ig,h];rfl
theorem cK{R:Type}(c:ai)(K:AV->St->Option R)(st:St)(es:List (AV×AV×Nat))(cl:Nat)(k:IntKind)(x:Int)(v:AV)(hf:iK .i (.int k x) es 0=some none):
  ak c (.mapSet .i) [.map st.next,.int k x,v] (af st (.map es cl)) K=K .undef (af st (.map (es++[(.int k x,v,cl)]) (cl+1))):=by
 have:ay.run (λb=>(af st (.map es cl)).heap.get b) (af st (.map es cl)).next (.mapSet .i) [.map st.next,.int k x,v]=some (.aD .undef none (some (st.next,.map (es++[(.int k x,v,cl)]) (cl+1))) none):=by
  simp[ay.run,tL,hf,UY]
 unfold ak bS;rw[this];show K .undef (cv (af st (.map es cl)) st.next _)=_;rw[M3]
theorem aa8(hc:Sem c)(s:St):c 68 [] s=some (.map s.next,af s (.map O8 18)):=by
 rw[NL hc 1 (r:=(.map s.next,af s (.map O8 18))),aa7];rw[SK];rw[aE,XE];rw[cJ (l:=(kd 1).cells) (h:=rfl),cK (hf:=rfl)];rw[cJ (l:=(kd 2).cells) (h:=rfl),cK (hf:=rfl)];rw[cJ (l:=(kd 3).cells) (h:=rfl),cK (hf:=rfl)];rw[cJ (l:=(kd 4).cells) (h:=rfl),cK (hf:=rfl)];rw[cJ (l:=(kd 5).cells) (h:=rfl),cK (hf:=rfl)];rw[cJ (l:=(kd 6).cells) (h:=rfl),cK (hf:=rfl)];rw[cJ (l:=(kd 7).cells) (h:=rfl),cK (hf:=rfl)];rw[cJ (l:=(kd 8).cells) (h:=rfl),cK (hf:=rfl)];rw[cJ (l:=(kd 9).cells) (h:=rfl),cK (hf:=rfl)];rw[cJ (l:=(kd 10).cells) (h:=rfl),cK (hf:=rfl)];rw[cJ (l:=(kd 11).cells) (h:=rfl),cK (hf:=rfl)];rw[cJ (l:=(kd 12).cells) (h:=rfl),cK (hf:=rfl)];rw[cJ (l:=(kd 13).cells) (h:=rfl),cK (hf:=rfl)];rw[cJ (l:=(kd 14).cells) (h:=rfl),cK (hf:=rfl)];rw[cJ (l:=(kd 15).cells) (h:=rfl),cK (hf:=rfl)];rw[cJ (l:=(kd 16).cells) (h:=rfl),cK (hf:=rfl)];rw[cJ (l:=(kd 17).cells) (h:=rfl),cK (hf:=rfl)];rw[cJ (l:=(kd 18).cells) (h:=rfl),cK (hf:=rfl)];rw[aE,aE]
 .rfl
theorem acq{R:Type}(c:ai)(K:AV->St->Option R)(st:St)(m:Pos)(cl:Nat)(h:st.heap.get m=some (.map O8 cl))(n:Nat):
   ak c (.lookup .i (.agg [.str [],.int .u8 0,.bool false,.int .u8 0,.bool false,.int .i64 0,.bool false,.iI]) false) [.map m,.int .u8 (n:Int)] st K=K (.agg (kd n).cells) st:=by
 have e:iK .i (.int .u8 (n:Int)) O8 0=some (if 1<=n/\n<=18 then some (n - 1,.agg (kd n).cells)else none):=by
   by_cases h:n<=18
   .have:n=0\/n=1\/n=2\/n=3\/n=4\/n=5\/n=6\/n=7\/n=8\/n=9\/n=10\/n=11\/n=12\/n=13\/n=14\/n=15\/n=16\/n=17\/n=18:=(by omega);rcases this with rfl|rfl|rfl|rfl|rfl|rfl|rfl|rfl|rfl|rfl|rfl|rfl|rfl|rfl|rfl|rfl|rfl|rfl|rfl<;>rfl
   . have Yv:∀j:Int,j<=18->sU (n:Int) j=false:=λj hj=>by rw[jL];simp;omega
     rw[Za5 (by omega)];simp[O8,iK,wq,Yv,cr]
 have:∀z:AV,ay.run (λb=>st.heap.get b) st.next (.lookup .i z false) [.map m,.int .u8 (n:Int)]=some (.val (if 1<=n/\n<=18 then .agg (kd n).cells else z)):=λz=>by
   simp only[ay.run,tK,h,e];by_cases h1:1<=n/\n<=18
   .rw[Za8 h1,Za8 h1]
   .rw[Za5 h1,Za5 h1]
 unfold ak bS;rw[this];by_cases h1:1<=n/\n<=18
 .rw[Za8 h1]
 .rw[Za5 h1];have:kd n=⟨[],0,false,0,false,0,false,.iI⟩:=(by unfold kd;split<;>first|rfl|omega);rw[this];rfl
theorem acr(n:Nat):(kd n).wR=true->(kd n).t=116:=by unfold kd;split<;>simp
def Rl.Ok(r:Rl):Prop:=0<=r.k/\r.k<256
def q8(p:bZ)(r:Rl):Int:=KL (kd r.k.toNat) p r
def jF(p:bZ):Nat->Nat->Int×Int
 |0,_=>(0,0)
 |  m+1,i=>match p.rs[i]? with
    |none=>(0,0)
    |some r=>if q8 p r≠0 then((i:Int),q8 p r)else if i=64 then((i:Int),7)else jF p m (i+1)
theorem JI(p:bZ):∀(m i:Nat),(jF p m i).2=0->(jF p m i).1=0
 |0,_,_=>rfl
 |m+    1,i,h=>by
  rw[jF]at h ⊢;cases h0:p.rs[i]? with
  |none=>rfl
  |some r=>
   rw[h0]at h;simp only at h ⊢;by_cases h1:q8 p r=0
   .    rw[Za5 (by simp[h1])]at h ⊢;by_cases h2:i=64
        .rw[Za8 h2]at h;simp at h
        .rw[Za5 h2]at h ⊢; exact JI p m (i+1) h
   .    rw[Za8 h1]at h;exact absurd h h1
def iq(p:bZ):Int×Int:=if(iu p).2≠0 then iu p else jF p 100 0
theorem V0(hc:Sem c)(p:bZ)(hp:p.FC)(hr:∀r∈p.rs,r.Ok)(hv:(bD p.ts).2=0)(q1 mp:Pos)(cl:Nat)(F:Nat)(k1 k2):∀(m k:Nat)(st:St),Wf st->st.heap.get q1=some (.cells p.cells 0)->st.heap.get mp=some (.map O8 cl)->p.rs.length<=k+m->k<=p.rs.length->
  ∃st',Grew st st'/\pz c F k1 k2 (m+1) [.ptr q1 0,.map mp,Dk p.rz p.rs,.int .i64 (p.rs.length:Int),.int .i64 (k:Int)] st=if(jF p m k).2=0 then k2 [] st' else k1 [.int .i64 (jF p m k).1,.int .i64 (jF p m k).2] st':=by
 have hl:=hp.rs;intro m;induction m with
 |zero=>
  intro k st hw h1 h2 h3 h4;obtain rfl:k=p.rs.length:=by omega
  refine⟨st,Grew.refl hw,?_⟩;rw[u0];simp[jF]
 |succ m ih=>
  intro k st hw hq hm h3 h4;by_cases h:k<p.rs.length
  . have w:ax .i64 ((k:Int)+1)=((k+1:Nat):Int):=wrap64 (by omega) (by omega);have dI:Wf (af st (.cells p.rs[k].cells 0)):=bR hw;have hg:=Grew.af hw (.cells p.rs[k].cells 0);have hq1:=hg.get hq;have iX:=hg.get hm;have hn:=aC st (.cells p.rs[k].cells 0);obtain⟨n,hk⟩:∃n:Nat,p.rs[k].k=(n:Int):=⟨p.rs[k].k.toNat,by have:=(hr _ (Zb9 h)).1;omega⟩
    have TV:=YQ hc (kd n) (acr n) p hp hv p.rs[k] _ dI;have hS:q8 p p.rs[k]=KL (kd n) p p.rs[k]:=(by unfold q8;rw[hk];rfl);have Ee:=λ(K:AV->St->Option (AV×St))=>acq c K _ mp cl iX n
    have jg:=λ(K:AV->St->Option (AV×St))=>dx c K st 6 (.agg p.rs[k].cells) [.int .u8 0,.int .i64 0,.str [],.str [],.str [],.int .i64 0] rfl rfl (Rl.one _)
    rw[show(AV.agg p.rs[k].cells).cells=p.rs[k].cells from rfl]at jg;rw[<-hS]at TV;rw[<-hk]at Ee;obtain⟨st',g1,g2⟩:=ih (k+1) _ dI hq1 iX (by omega) (by omega);rw[u0,jF,H4 h];simp only;by_cases h5:q8 p p.rs[k]=0
    .   rw[Za5 (by simp[h5])];by_cases h6:k=64
        .refine⟨_,hg,?_⟩;rw[Za8 h6];have h6i:decide ((k:Int)=64)=true:=(by simp only[Ze1];omega);simp[-dx,jg,Dk,h,hq1,iX,Ee,TV,h5,h6i]
        .refine⟨st',hg.trans g1,?_⟩;rw[Za5 h6, <-g2];have h6i:¬(k:Int)=64:=(by omega);simp[-dx,jg,Dk,h,hq1,iX,Ee,TV,h5,h6i,w]
    .   refine⟨_,hg,?_⟩;rw[Za8 h5];simp[-dx,jg,Dk,h,hq1,iX,Ee,TV,h5]
  .obtain rfl:k=p.rs.length:=(by omega);refine⟨st,Grew.refl hw,?_⟩;rw[u0];simp[jF]
theorem Tu{p:bZ}(h:(iu p).2=0):(bD p.ts).2=0:=by
 unfold iu at h;by_cases h1:(bD p.ts).2=0
 .exact h1
 .rw[Za8 h1]at h;exact absurd h h1
theorem PT(hc:Sem c)(p:bZ)(hp:p.FC)(hR:SD c p)(hr:∀r∈p.rs,r.Ok)(st:St)(hw:Wf st):c 49 [.agg p.cells] st=some (.tuple [.int .i64 (iq p).1,.int .i64 (iq p).2],st):=by
 have ry:Plain (.tuple [.int .i64 (iq p).1,.int .i64 (iq p).2]):=Plain.tuple (by simp[Plain.int]);have dI:Wf (af st (.cells p.cells 0)):=bR hw;have Sy:=Grew.af hw (.cells p.cells 0);have gY:(af st (.cells p.cells 0)).heap.get st.next=some (.cells p.cells 0):=aC _ _;have B:=aa5 hc p hp hR _ dI;by_cases h:(iu p).2=0
 . have hv:=Tu h;have K:=aa8 hc (af st (.cells p.cells 0));have nu:Wf (af (af st (.cells p.cells 0)) (.map O8 18)):=bR dI;have xN:=Grew.af dI (.map O8 18);obtain⟨st',g1,g2⟩:=V0 hc p hp hr hv st.next (af st (.cells p.cells 0)).next 18 101 (λvs s50=>ji vs λx2 vs=>ji vs λx3 vs=>pX vs (
   some (.tuple [x2,x3],s50))) (λvs s51=>pX vs (
   ak c .move [(.int .i64 0)] s51 λx2 s52=>
 ak c .move [(.int .i64 0)] s52 λx3 s53=>
 some (.tuple [x2,x3],s53))) 100 0 _ nu (xN.get gY) (aC _ _) (by have:=hp.rs;omega) (by omega)
   have e:iq p=jF p 100 0:=(by unfold iq;rw[Za5 (by simp[h])]);have e0:=Tt h;rw[Dm hc 101 (r:=(.tuple [.int .i64 (iq p).1,.int .i64 (iq p).2],st')),aK ry ((Sy.trans xN).trans g1).keeps];rw[HD,e];simp at g2;simp[gY,B,h,K,g2];by_cases h2:(jF p 100 0).2=0
   .have:=JI p 100 0 h2;simp[h2,this]
   .simp[h2]
 .have e:iq p=iu p:=(by unfold iq;rw[Za8 h]);rw[Dm hc 101 (r:=(.tuple [.int .i64 (iq p).1,.int .i64 (iq p).2],af st (.cells p.cells 0))),aK ry Sy.keeps];rw[HD,e];simp[gY,B,h]
end
section
open Go Go.Ai Go.Proofs
variable{c:ai}
end
section
open Go Go.Ai Go.Proofs
variable{c:ai}
end
section
open Go Go.Ai Go.Proofs
theorem xO{Q:List AV->Prop}{Qs:List (List AV->Prop)}{ps:List (List AV)}(h:Ev (Q::Qs) ps):∃p qs,ps=p::qs/\Q p/\Ev Qs qs:=by
 cases ps with
 |nil=>exact h.elim
 |cons p qs=>exact⟨p,qs,rfl,h⟩
theorem RF{ps:List (List AV)}(h:Ev [] ps):ps=[]:=by
 cases ps with
 |nil=>rfl
 |cons p qs=>exact h.elim
section
variable{H:Type}{enc:TypeId×Value->H}{w:World}{base:Nat}{spare:Nat->Bool}{held:Bool}
end
variable{c:ai}
abbrev cW(i:Int):List AV:=[.int .i64 i]
abbrev rowS(s:List Nat):List AV:=[.str s]
def aL.au(t:aL)(v:AV):List AV:=[.str t.name,.int .u8 t.sh,.int .i64 t.a,.int .i64 t.b,v,.int .i64 t.x,.int .i64 t.y]
theorem aL.KA(t:aL){v:AV}(h:aQ [v]=true):aQ (t.au v)=true:=by
 simp only[aQ]at h;unfold aL.au;simp only[aQ,AV.one,h,Zj2,Zk9]at*
structure TS(s0 s:St)(V:AV)(ts:List aL)(rows:List (List AV)):Prop where
 out:Mk 7 s0 s V rows
 len:rows.length=ts.length
 pZ:∀(i:Nat)(t:aL)(r:List AV),ts[i]? =some t->rows[i]? =some r->∃v,r=t.au v/\Mk 1 s0 s v (t.mE.map cW)/\∀b,bg v=some b->bg V≠some b
structure GS(s0 s:St)(V:AV)(ts:List aO)(rows:List (List AV)):Prop where
 out:Mk 9 s0 s V rows
 len:rows.length=ts.length
 pZ:∀(i:Nat)(t:aO)(r:List AV),ts[i]? =some t->rows[i]? =some r->∃v,r=t.au v/\Mk 1 s0 s v (t.tg.map rowS)/\∀b,bg v=some b->bg V≠some b
structure PS(s0 s:St)(Vs:List AV)(p:bZ):Prop where
 aA:Grew s0 s
 all:∃V1 V2 V3 V4 V5 r1 r2,Vs=[V1,V2,V3,V4,V5]/\TS s0 s V1 p.ts r1/\GS s0 s V2 p.gs r2/\Mk 3 s0 s V3 (p.ys.map Ty.cells)/\Mk 1 s0 s V4 (p.cs.map cW)/\Mk 6 s0 s V5 (p.rs.map Rl.cells)
theorem TS.sY{s0 s s':St}{V:AV}{ts:List aL}{rows:List (List AV)}(h:TS s0 s V ts rows)(hg:Grew s0 s')(hk:∀b x,s0.next.toNat<=b.toNat->(bg V=some b\/∃(i:Nat) (r:List AV) (v:AV),rows[i]? =some r/\r[4]? =some v/\bg v=some b)->s.heap.get b=some x->s'.heap.get b=some x):TS s0 s' V ts rows:=
 ⟨Mk.sY h.out hg λb x hb hx=>hk b x (h.out.new b hb) (.inl hb) hx,h.len,λi t r hi hr=>by
  obtain⟨v,e1,e2,e3⟩:=h.pZ i t r hi hr;exact⟨v,e1,Mk.sY e2 hg λb x hb hx=>hk b x (e2.new b hb) (.inr ⟨i,r,v,hr,by rw[e1];rfl,hb⟩) hx,e3⟩⟩
theorem GS.sY{s0 s s':St}{V:AV}{ts:List aO}{rows:List (List AV)}(h:GS s0 s V ts rows)(hg:Grew s0 s')(hk:∀b x,s0.next.toNat<=b.toNat->(bg V=some b\/∃(i:Nat) (r:List AV) (v:AV),rows[i]? =some r/\r[8]? =some v/\bg v=some b)->s.heap.get b=some x->s'.heap.get b=some x):GS s0 s' V ts rows:=
 ⟨Mk.sY h.out hg λb x hb hx=>hk b x (h.out.new b hb) (.inl hb) hx,h.len,λi t r hi hr=>by
  obtain⟨v,e1,e2,e3⟩:=h.pZ i t r hi hr;exact⟨v,e1,Mk.sY e2 hg λb x hb hx=>hk b x (e2.new b hb) (.inr ⟨i,r,v,hr,by rw[e1];rfl,hb⟩) hx,e3⟩⟩
def aL.fh(t t':aL):Prop:=∃z,t'={ t with oz:=z }
def aO.fh(g g':aO):Prop:=∃z,g'={ g with tz:=z }
theorem SL{α:Type}(f:α->AV)(s:St)(d:Nat)(l:List α)(hf:∀a∈l,cV s d (f a)=f a):(l.map λa=>[f a]).map (λr=>r.map (cV s d))=l.map λa=>[f a]:=by
 rw[Zf8];refine Zi8 λa ha=> ?_
 simp only[Function.comp,Zc6,Zf7,hf a ha]
theorem wS(s:St)(d:Nat)(k:IntKind)(i:Int):cV s d (.int k i)= .int k i:=by cases d<;>rfl
theorem zK(s:St)(d:Nat)(l:List Nat):cV s d (.str l)= .str l:=by cases d<;>rfl
theorem aa9(s:St)(d:Nat)(b:Bool):cV s d (.bool b)= .bool b:=by cases d<;>rfl
theorem KM{s0 s:St}{v:AV}{l:List Int}(h:Mk 1 s0 s v (l.map cW))(d:Nat):∃z,cV s (d+1) v=ints z l:=by
 obtain⟨z,hz⟩:=h.own.cV (d:=d) h.row;refine⟨z,?_⟩;rw[hz];unfold ints;rw[SL (λi=>AV.int .i64 i) s d l λa _=>wS s d _ _]
theorem aba{s0 s:St}{v:AV}{l:List (List Nat)}(h:Mk 1 s0 s v (l.map rowS))(d:Nat):∃z,cV s (d+1) v=mW z l:=by
 obtain⟨z,hz⟩:=h.own.cV (d:=d) h.row;refine⟨z,?_⟩;rw[hz];unfold mW;rw[SL (λi=>AV.str i) s d l λa _=>zK s d _]
theorem acs{s0 s:St}{v:AV}{l:List Ty}(h:Mk 3 s0 s v (l.map Ty.cells))(d:Nat):∃z,cV s (d+1) v=j4 z l:=by
 obtain⟨z,hz⟩:=h.own.cV (d:=d) h.row;refine⟨z,?_⟩;rw[hz];unfold j4;rw[Zf8];congr 1;refine Zi8 λa _=> ?_
 simp only[Function.comp,Ty.cells,Zc6,Zf7,zK,wS]
theorem acu{s0 s:St}{v:AV}{l:List Rl}(h:Mk 6 s0 s v (l.map Rl.cells))(d:Nat):∃z,cV s (d+1) v=Dk z l:=by
 obtain⟨z,hz⟩:=h.own.cV (d:=d) h.row;refine⟨z,?_⟩;rw[hz];unfold Dk;rw[Zf8];congr 1;refine Zi8 λa _=> ?_
 simp only[Function.comp,Rl.cells,Zc6,Zf7,zK,wS]
theorem KN{α:Type}(P:α->α->Prop)(cells:α->List AV)(g:List AV->List AV):∀(ts:List α)(rows:List (List AV)),rows.length=ts.length->(∀(i:Nat)(t:α)(r:List AV),ts[i]? =some t->rows[i]? =some r->∃t',P t t'/\g r=cells t')->
  ∃sH:List α,rows.map g=sH.map cells/\sH.length=ts.length/\∀(i:Nat)(t t':α),ts[i]? =some t->sH[i]? =some t'->P t t'
 |[],rows,hl,_=>⟨[],by rw[Zb1 hl];rfl,rfl,λi t t' h=>by simp at h⟩
 |t::ts,[],hl,_=>by simp at hl
 |t::ts,r::rows,hl,h=>by
  obtain⟨t',h1,h2⟩:=h 0 t r rfl rfl;obtain⟨sH,k1,k2,k3⟩:=KN P cells g ts rows (by simpa using hl) (λi t r h3 h4=>h (i+1) t r (by simpa using h3) (by simpa using h4));refine⟨t'::sH,by simp[h2,k1],by simp[k2],λi u u' h3 h4=> ?_⟩;cases i with
  |zero=>simp at h3 h4;subst h3;subst h4;exact h1
  |succ i=>exact k3 i u u' (by simpa using h3) (by simpa using h4)
theorem TS.cV{s0 s:St}{V:AV}{ts:List aL}{rows:List (List AV)}(h:TS s0 s V ts rows)(d:Nat):∃z sH,Go.Ai.cV s (d+2) V=tabs z sH/\sH.length=ts.length/\∀(i:Nat)(t t':aL),ts[i]? =some t->sH[i]? =some t'->t.fh t':=by
 obtain⟨z,hz⟩:=h.out.own.cV (d:=d+1) h.out.row;obtain⟨sH,k1,k2,k3⟩:=KN aL.fh aL.cells (λr=>r.map (Go.Ai.cV s (d+1))) ts rows h.len λi t r hi hr=>by
  obtain⟨v,rfl,hM,_⟩:=h.pZ i t r hi hr;obtain⟨z2,hz2⟩:=KM hM d;refine⟨{ t with oz:=z2 },⟨z2,rfl⟩,?_⟩;simp only[aL.au,aL.cells,Zc6,Zf7,zK,wS,hz2]
 refine⟨z,sH,?_,k2,k3⟩;rw[hz,k1];rfl
theorem GS.cV{s0 s:St}{V:AV}{ts:List aO}{rows:List (List AV)}(h:GS s0 s V ts rows)(d:Nat):∃z sH,Go.Ai.cV s (d+2) V=eN z sH/\sH.length=ts.length/\∀(i:Nat)(t t':aO),ts[i]? =some t->sH[i]? =some t'->t.fh t':=by
 obtain⟨z,hz⟩:=h.out.own.cV (d:=d+1) h.out.row;obtain⟨sH,k1,k2,k3⟩:=KN aO.fh aO.cells (λr=>r.map (Go.Ai.cV s (d+1))) ts rows h.len λi t r hi hr=>by
  obtain⟨v,rfl,hM,_⟩:=h.pZ i t r hi hr;obtain⟨z2,hz2⟩:=aba hM d;refine⟨{ t with tz:=z2 },⟨z2,rfl⟩,?_⟩;simp only[aO.au,aO.cells,Zc6,Zf7,zK,wS,aa9,hz2]
 refine⟨z,sH,?_,k2,k3⟩;rw[hz,k1];rfl
end
end Go.Proofs.YtoeleelojgimfaaGreatDoor
section
end
namespace Go.Proofs.YtoeleelojgimfaaGreatDoor
section
open Go Go.Ai Go.Proofs
variable{c:ai}
structure bZ.fh(p p':bZ):Prop where
 tl:p'.ts.length=p.ts.length
 ts:∀(i:Nat)(t t':aL),p.ts[i]? =some t->p'.ts[i]? =some t'->t.fh t'
 gl:p'.gs.length=p.gs.length
 gs:∀(i:Nat)(t t':aO),p.gs[i]? =some t->p'.gs[i]? =some t'->t.fh t'
 ys:p'.ys=p.ys
 cs:p'.cs=p.cs
 rs:p'.rs=p.rs
theorem PS.cV{s0 s:St}{Vs:List AV}{p:bZ}(h:PS s0 s Vs p)(d:Nat):∃p',Go.Ai.cV s (d+3) (.agg Vs)= .agg p'.cells/\p.fh p':=by obtain⟨V1,V2,V3,V4,V5,r1,r2,rfl,h1,h2,h3,h4,h5⟩:=h.all;obtain⟨z1,sH,e1,l1,k1⟩:=h1.cV d;obtain⟨z2,gs',e2,l2,k2⟩:=h2.cV d;obtain⟨z3,e3⟩:=acs h3 (d+1);obtain⟨z4,e4⟩:=KM h4 (d+1);obtain⟨z5,e5⟩:=acu h5 (d+1);refine⟨⟨z1,sH,z2,gs',z3,p.ys,z4,p.cs,z5,p.rs⟩,?_,⟨l1,k1,l2,k2,rfl,rfl,rfl⟩⟩;rw[Na];simp only[Zc6,Zf7,e1,e2,e3,e4,e5];rfl
theorem Dn{α β:Type}{P:α->α->Prop}{l l':List α}(hl:l'.length=l.length)(hs:∀(i:Nat)(t t':α),l[i]? =some t->l'[i]? =some t'->P t t')(f:α->β)(hf:∀t t',P t t'->f t'=f t)(i:Nat):l'[i]?.map f=l[i]?.map f:=by
 by_cases h:i<l.length
 .have h':i<l'.length:=(by omega);rw[H4 h,H4 h'];simp only[Ze5,H0];exact hf _ _ (hs i _ _ (H4 h) (H4 h'))
 .rw[Zb5 (by omega),Zb5 (by omega)]
theorem SM{t t':aL}(h:t.fh t'):mU t'=mU t:=by obtain⟨z,rfl⟩:=h;rfl
theorem IY{t t':aL}(h:t.fh t'):cq t'=cq t:=by obtain⟨z,rfl⟩:=h;rfl
theorem YT{t t':aO}(h:t.fh t'):fZ t'=fZ t:=by obtain⟨z,rfl⟩:=h;rfl
variable{p p':bZ}
theorem bZ.fh.nm(h:p.fh p')(s:List Nat):nI p'.ts s=nI p.ts s:=funext λi=>by
 unfold nI;rw[Dn h.tl h.ts aL.name (λt t' k=>by obtain⟨z,rfl⟩:=k;rfl)]
theorem bZ.fh.gm(h:p.fh p')(s:List Nat):jT p'.gs s=jT p.gs s:=funext λi=>by
 unfold jT;rw[Dn h.gl h.gs aO.name (λt t' k=>by obtain⟨z,rfl⟩:=k;rfl)]
theorem bZ.fh.at(h:p.fh p'):∀(m k:Nat),fM p'.ts m k=fM p.ts m k
 |0,_=>rfl
 |m +1,k=>by
  have ih:=h.at m (k+1);unfold fM;by_cases hk:k<p.ts.length
  .have jB:k<p'.ts.length:=(by rw[h.tl];exact hk);have hs:=h.ts k _ _ (H4 hk) (H4 jB);have hn:p'.ts[k].name=p.ts[k].name:=(by obtain⟨z,e⟩:=hs;rw[e]);rw[H4 hk,H4 jB];simp only[SM hs,hn,h.nm,ih]
  .have jB:¬k<p'.ts.length:=(by rw[h.tl];exact hk);rw[Zb5 (by omega),Zb5 (by omega)]
theorem bZ.fh.vX(h:p.fh p'):bD p'.ts=bD p.ts:=by unfold bD;rw[h.tl,h.at]
theorem bZ.fh.gsAt(h:p.fh p'):∀(m k:Nat),jX p'.gs m k=jX p.gs m k
 |0,_=>rfl
 |m +1,k=>by
  have ih:=h.gsAt m (k+1);unfold jX;by_cases hk:k<p.gs.length
  .have jB:k<p'.gs.length:=(by rw[h.gl];exact hk);have hs:=h.gs k _ _ (H4 hk) (H4 jB);have hn:p'.gs[k].name=p.gs[k].name:=(by obtain⟨z,e⟩:=hs;rw[e]);rw[H4 hk,H4 jB];simp only[YT hs,hn,h.gm,ih]
  .have jB:¬k<p'.gs.length:=(by rw[h.gl];exact hk);rw[Zb5 (by omega),Zb5 (by omega)]
theorem bZ.fh.unk(h:p.fh p')(t:Ty):lJ p'.gs t=lJ p.gs t:=by unfold lJ;rw[h.gm,h.gm,h.gl]
theorem bZ.fh.tyAt(h:p.fh p')(ts:List Ty):∀(m k:Nat),gb p'.gs ts m k=gb p.gs ts m k
 |0,_=>rfl
 |m+1,k=>by
  have ih:=h.tyAt ts m (k+1);unfold gb;cases ts[k]? with
  |none=>rfl
  |some t=>simp only[h.gl,h.unk,ih]
theorem bZ.fh.roll(h:p.fh p'):cI p'.gs p'.ys=cI p.gs p.ys:=by unfold cI;rw[h.ys,h.gsAt,h.tyAt]
theorem bZ.fh.sum(h:p.fh p'):aX p'.ts=aX p.ts:=by
 unfold aX;congr 1;refine Zh9 λi=> ?_
 rw[Zb7,Zb7];exact Dn h.tl h.ts cq (λt t' k=>IY k) i
theorem bZ.fh.basis(h:p.fh p'):iu p'=iu p:=by unfold iu;rw[h.vX,h.roll,h.cs,h.gl,h.sum]
theorem bZ.fh.gi(h:p.fh p')(s:List Nat):Go.Proofs.YtoeleelojgimfaaGreatDoor.gi p' s=Go.Proofs.YtoeleelojgimfaaGreatDoor.gi p s:=by unfold Go.Proofs.YtoeleelojgimfaaGreatDoor.gi;rw[h.gm,h.gl]
theorem bZ.fh.ti(h:p.fh p')(s:List Nat):Go.Proofs.YtoeleelojgimfaaGreatDoor.ti p' s=Go.Proofs.YtoeleelojgimfaaGreatDoor.ti p s:=by unfold Go.Proofs.YtoeleelojgimfaaGreatDoor.ti;rw[h.nm,h.tl]
theorem bZ.fh.rQ(h:p.fh p')(i:Int):Go.Proofs.YtoeleelojgimfaaGreatDoor.rQ p' i=Go.Proofs.YtoeleelojgimfaaGreatDoor.rQ p i:=by
 unfold Go.Proofs.YtoeleelojgimfaaGreatDoor.rQ;have:=Dn h.tl h.ts cq (λt t' k=>IY k) i.toNat;cases h1:p.ts[i.toNat]? with
 |none=>rw[h1]at this;cases h2:p'.ts[i.toNat]? with
  |none=>rfl
  |some t=>rw[h2]at this;cases this
 |some t=>rw[h1]at this;cases h2:p'.ts[i.toNat]? with
  |none=>rw[h2]at this;cases this
  |some t'=>rw[h2]at this;simp only[Ze5,H0]at this;simp only[this]
theorem bZ.fh.rule(h:p.fh p')(r:Rl):q8 p' r=q8 p r:=by
 unfold q8 KL SI MC;simp only[h.gi,h.ti,h.rQ]
theorem bZ.fh.Dk(h:p.fh p'):∀(m k:Nat),jF p' m k=jF p m k
 |0,_=>rfl
 |m+1,k=>by
  have ih:=h.Dk m (k+1);unfold jF;rw[h.rs];cases p.rs[k]? with
  |none=>rfl
  |some r=>simp only[h.rule,ih]
theorem bZ.fh.check(h:p.fh p'):iq p'=iq p:=by unfold iq;rw[h.basis,h.Dk]
end
section
open Go Go.Ai Go.Proofs
section
variable{p p':bZ}
theorem bZ.fh.tab(h:p.fh p'){t':aL}(ht:t'∈p'.ts):∃t∈p.ts,t.fh t':=by
 obtain⟨i,hi,rfl⟩:=Zk5.1 ht;have OD:i<p.ts.length:=by rw[<-h.tl];exact hi
 exact⟨p.ts[i],Zb9 OD,h.ts i _ _ (H4 OD) (H4 hi)⟩
theorem bZ.fh.rD(h:p.fh p')(hp:p.FC):p'.FC where
 ts:=by rw[h.tl];exact hp.ts
 gs:=by rw[h.gl];exact hp.gs
 ys:=by rw[h.ys];exact hp.ys
 cs:=by rw[h.cs];exact hp.cs
 rs:=by rw[h.rs];exact hp.rs
 ok t ht:=by obtain⟨u,hu,z,rfl⟩:=h.tab ht;have:=hp.ok u hu;exact⟨this.1,this.2⟩
end
section
variable{s s1:St}
end
end
noncomputable section
open Go Go.Ai Go.Proofs
def Cr(f:FuncId):List AV->St->Option (AV×St):=G4 (run yc gg) f 4
def Bi:dQ:=uu [(238,Gf),(15,IB),(49,Cr 49),(30,Cr 30),(41,Cr 41),(64,Cr 64),(63,Cr 63)]
def bU(c:ai):Prop:=c=run Bi gg
theorem bU.o0{c:ai}(hc:bU c)(F:Nat){f:FuncId}{args:List AV}{st:St}{r:AV×St}(s:Sh)(hk:(rC (Bi f)&& !rC (gg.get (key f))&&(dO (gA f).code s).isEmpty)=true)
  {k:O2} (hd:yf c F (P8 []) (gA f) s args st=k) (h:k=some r):c f args st=some (tidy st r):=by
 subst hc;exact Uq s hk hd h
theorem bU.o1{c:ai}(hc:bU c)(F:Nat){f:FuncId}{args:List AV}{st:St}{r:AV×St}(Ls:Un->List Q2->Nat->Q2)(s:Sh)(hk:(rC (Bi f)&& !rC (gg.get (key f))&&Nat.beq (dO (gA f).code s).length 1)=true)
  (hs:(M1 (eR (gA f) s 0).2&&Nat.beq (Xy (eR (gA f) s 0).2) 0)=true) (h0:∀K' vs st,mS Ls (gA f) s 0 K' 0 vs st=none)
  (h1:∀K' n vs st,mS Ls (gA f) s 0 K' (n+1) vs st=C5 (den c F (mS Ls (gA f) s) (eR (gA f) s 0).1 (lpB (eR (gA f) s 0).2)) (lpI (eR (gA f) s 0).2) (Xz (eR (gA f) s 0).2) K' (mS Ls (gA f) s 0 K' n) vs st)
  {k:O2} (hd:yf c F (mS Ls (gA f) s) (gA f) s args st=k) (h:k=some r):c f args st=some (tidy st r):=by
 subst hc;exact Ur Ls s hk hs h0 h1 hd h
theorem bU.oL{c:ai}(hc:bU c)(F:Nat){f:FuncId}{args:List AV}{st:St}{r:AV×St}(Ls:Un->List Q2->Nat->Q2)(s:Sh)(n:Nat)(hk:(rC (Bi f)&& !rC (gg.get (key f))&&Nat.beq (dO (gA f).code s).length n)=true)
  (hL:∀i,i<n->uH c F (mS Ls (gA f) s) (eR (gA f) s i).1 (eR (gA f) s i).2) {k:O2} (hd:yf c F (mS Ls (gA f) s) (gA f) s args st=k) (h:k=some r):c f args st=some (tidy st r):=by
 subst hc;exact Nd Ls s n hk hL hd h
theorem bU.at{c:ai}(hc:bU c){f:FuncId}{s:List AV->St->Option (AV×St)}{args:List AV}{st:St}{r:AV×St}(ho:Bi f=some s)(h:s args st=some r):c f args st=some r:=by subst hc;exact LJ ho h
section
variable{c:ai}{s0 s:St}{Vs:List AV}{p:bZ}
theorem Ym(hc:bU c)(s:St):c 15 [] s=some (.bool true,s):=hc.at (s:=IB) rfl rfl
theorem X7(hc:bU c)(h:PS s0 s Vs p)(hp:p.FC)(hr:∀r∈p.rs,r.Ok):c 49 [.agg Vs] s=some (.tuple [.int .i64 (iq p).1,.int .i64 (iq p).2],s):=by
 obtain⟨p',e,S⟩:=h.cV 1;refine hc.at (s:=Cr 49) rfl (uO ?_ (kX.tuple (by intro v hv;simp at hv;rcases hv with rfl|rfl<;>exact kX.int _ _)));rw[Zc6,Zf7,e, <-S.check];exact PT rfl p' (S.rD hp) (acn rfl (S.rD hp)) (by rw[S.rs];exact hr) (emptyAt s) (uN s)
theorem PS.tabs(h:PS s0 s Vs p):∃V1 z p',Vs[0]? =some V1/\Go.Ai.cV s 4 V1=Go.Proofs.YtoeleelojgimfaaGreatDoor.tabs z p'.ts/\p.fh p':=by
 obtain⟨V1,V2,V3,V4,V5,r1,r2,rfl,h1,h2,h3,h4,h5⟩:=h.all;obtain⟨z,sH,e,l,k⟩:=h1.cV 2;exact⟨V1,z,{ p with ts:=sH },rfl,e,⟨l,k,rfl,λi t t' a b=>by rw[a]at b;cases b;exact⟨t.tz,rfl⟩,rfl,rfl,rfl⟩⟩
theorem OP(hc:bU c)(h:PS s0 s Vs p)(dH:∀t∈p.ts,t.Ok)(hv:(bD p.ts).2=0){V1:AV}(e1:Vs[0]? =some V1):c 30 [V1] s=some (.int .i64 (aX p.ts),s):=by
 obtain⟨V,z,p',e,ez,S⟩:=h.tabs;rw[e1]at e;cases e;refine hc.at (s:=Cr 30) rfl (uO ?_ (kX.int _ _));rw[Zc6,Zf7,ez];have:=wP (c:=run yc gg) rfl z p'.ts (λt ht=>by obtain⟨u,hu,z,rfl⟩:=S.tab ht;have:=dH u hu;exact⟨this.1,this.2⟩) (emptyAt s) (uN s);rw[this,S.vX,Za8 hv,S.sum]
theorem Yj(hc:bU c)(h:PS s0 s Vs p)(dH:∀t∈p.ts,t.Ok)(hv:(bD p.ts).2=0){V1:AV}(e1:Vs[0]? =some V1){k:Nat}(hk:k<p.ts.length):c 41 [V1,.int .i64 (k:Int)] s=some (.int .i64 (aX (p.ts.take k)),s):=by
 obtain⟨V,z,p',e,ez,S⟩:=h.tabs;rw[e1]at e;cases e;refine hc.at (s:=Cr 41) rfl (uO ?_ (kX.int _ _));rw[Zc6,Zc6,Zf7,ez,wS];have:=So (c:=run yc gg) rfl z p'.ts (λt ht=>by obtain⟨u,hu,z,rfl⟩:=S.tab ht;have:=dH u hu;exact⟨this.1,this.2⟩) k (emptyAt s) (uN s);rw[this];unfold s8;rw[S.tl,S.vX,Za5 (by omega)];have e:∀l:List aL,aX l=(l.map cq).sum:=λ_=>rfl
 rw[e,e,Zm9,Zm9,Zi0];have:p'.ts.map cq=p.ts.map cq:=Zh9 λi=>by rw[Zb7,Zb7];exact Dn S.tl S.ts cq (λt t' h=>IY h) i
 rw[this]
theorem UP{t:aL}{v:AV}(hM:Mk 1 s0 s v (t.mE.map cW)):∃t':aL,cV s 4 (.agg (t.au v))= .agg t'.cells/\t.fh t':=by
 obtain⟨z,hz⟩:=KM hM 2;refine⟨{ t with oz:=z },?_,⟨z,rfl⟩⟩;rw[Na];simp only[aL.au,aL.cells,Zc6,Zf7,zK,wS,hz]
theorem VO(hc:bU c){t:aL}{v:AV}(hM:Mk 1 s0 s v (t.mE.map cW))(dH:t.Ok):c 64 [.agg (t.au v)] s=some (.int .i64 (mU t),s):=by
 obtain⟨t',e,S⟩:=UP hM;refine hc.at (s:=Cr 64) rfl (uO ?_ (kX.int _ _));rw[Zc6,Zf7,e,Sj (c:=run yc gg) rfl t' (by obtain⟨z,rfl⟩:=S;exact⟨dH.1,dH.2⟩) (emptyAt s) (uN s),SM S]
theorem Yf(hc:bU c){t:aL}{v:AV}(hM:Mk 1 s0 s v (t.mE.map cW)):c 63 [.agg (t.au v)] s=some (.int .i64 (cq t),s):=by
 obtain⟨t',e,S⟩:=UP hM;refine hc.at (s:=Cr 63) rfl (uO ?_ (kX.int _ _));rw[Zc6,Zf7,e,IW (c:=run yc gg) rfl t' (emptyAt s) (uN s),IY S]
end
end
end Go.Proofs.YtoeleelojgimfaaGreatDoor
