/- Checks of a problem. -/
import Derived.Test.YtoeleelojgimfaaGreatDoorPLawsA
set_option linter.all false
set_option maxRecDepth 100000
namespace Go.Proofs.YtoeleelojgimfaaGreatDoor
section
open Go Go.Ai Go.Proofs
variable{c:ai}
def kd:Nat->Kd
 |1=>⟨[97,112,97,114,116],103,true,0,true,0,false,.func 81 [] []⟩
 |2=>⟨[98,101,115,105,100,101],103,true,0,false,0,false,.func 82 [] []⟩
 |3=>⟨[97,99,114,111,115,115],103,true,0,false,0,false,.func 83 [] []⟩
 |4=>⟨[110,101,97,114],103,true,0,true,1,false,.func 84 [] []⟩
 |5=>⟨[116,111,103,101,116,104,101,114],103,true,0,false,0,false,.func 85 [] []⟩
 |6=>⟨[97,116],103,false,116,false,0,false,.func 86 [] []⟩
 |7=>⟨[115,101,97,116],103,false,116,true,0,true,.func 87 [] []⟩
 |8=>⟨[97,108,116,101,114,110,97,116,101],0,false,101,false,0,false,.func 88 [] []⟩
 |9=>⟨[104,111,115,116],0,false,101,false,0,false,.func 89 [] []⟩
 |10=>⟨[114,101,97,99,104],101,false,0,false,0,false,.func 90 [] []⟩
 |11=>⟨[115,112,101,97,107],0,false,101,false,0,false,.func 91 [] []⟩
 |12=>⟨[112,101,97,99,101],0,false,101,false,0,false,.func 92 [] []⟩
 |13=>⟨[99,111,109,112,97,110,121],0,false,101,false,0,false,.func 93 [] []⟩
 |14=>⟨[104,111,110,111,117,114],0,false,101,false,0,false,.func 94 [] []⟩
 |15=>⟨[102,105,108,108],0,false,101,true,0,false,.func 95 [] []⟩
 |16=>⟨[108,105,109,105,116],0,false,101,true,0,false,.func 96 [] []⟩
 |17=>⟨[107,105,116,99,104,101,110],100,false,116,false,0,false,.func 97 [] []⟩
 |18=>⟨[109,105,120],0,false,101,false,0,false,.func 98 [] []⟩
 |_=>⟨[],0,false,0,false,0,false,.iC⟩
def Oy:List (AV×AV×Nat):=[(.int .u8 1,.agg (kd 1).cells,0),(.int .u8 2,.agg (kd 2).cells,1),(.int .u8 3,.agg (kd 3).cells,2),(.int .u8 4,.agg (kd 4).cells,3),(.int .u8 5,.agg (kd 5).cells,4),(.int .u8 6,.agg (kd 6).cells,5),(.int .u8 7,.agg (kd 7).cells,6),(.int .u8 8,.agg (kd 8).cells,7),(.int .u8 9,.agg (kd 9).cells,8),(.int .u8 10,.agg (kd 10).cells,9),(.int .u8 11,.agg (kd 11).cells,10),(.int .u8 12,.agg (kd 12).cells,11),(.int .u8 13,.agg (kd 13).cells,12),(.int .u8 14,.agg (kd 14).cells,13),(.int .u8 15,.agg (kd 15).cells,14),(.int .u8 16,.agg (kd 16).cells,15),(.int .u8 17,.agg (kd 17).cells,16),(.int .u8 18,.agg (kd 18).cells,17)]
theorem O6(p:Pos):¬Plain (.map p):=λh=>by have:=h (λ_=>(⟨0,0,0⟩:Go.Ai.Loc)) (λ_=>⟨1,0,0⟩) (p.toNat+1) (p.toNat+1) (λ_=>none) _ (.map p (Nat.lt_succ_self _));cases this
theorem aap(st:St)(p:Pos)(s':St):tidy st (.map p,s')=(.map p,s'):=by unfold tidy;rw[Za5];exact λe=>O6 p e.1
theorem cI{R:Type}(c:ai)(K:AV->St->Option R)(st:St)(z:List AV)(ps:List (Nat×Nat))(xs l:List AV)(h:bW z ps xs=some l):ak c (.build z ps) xs st K=K (.agg l) st:=by rw[gX,h];rfl
theorem cJ{R:Type}(c:ai)(K:AV->St->Option R)(st:St)(es:List (AV×AV×Nat))(cl:Nat)(k:IntKind)(x:Int)(v:AV)(hf:iE .i (.int k x) es 0=some none):
  ak c (.mapSet .i) [.map st.next,.int k x,v] (af st (.map es cl)) K=K .undef (af st (.map (es++[(.int k x,v,cl)]) (cl+1))):=by
 have:av.run (λb=>(af st (.map es cl)).heap.get b) (af st (.map es cl)).next (.mapSet .i) [.map st.next,.int k x,v]=some (.aC .undef none (some (st.next,.map (es++[(.int k x,v,cl)]) (cl+1))) none):=by
  simp[av.run,tu,hf,Ug]
 unfold ak bS;rw[this];show K .undef (cm (af st (.map es cl)) st.next _)=_;rw[Mh]
theorem aaq(hc:Sem c)(s:St):c 68 [] s=some (.map s.next,af s (.map Oy 18)):=by
 rw[Ng hc 1 (r:=(.map s.next,af s (.map Oy 18))),aap];rw[RY];rw[aE,WY];rw[cI (l:=(kd 1).cells) (h:=rfl),cJ (hf:=rfl)];rw[cI (l:=(kd 2).cells) (h:=rfl),cJ (hf:=rfl)];rw[cI (l:=(kd 3).cells) (h:=rfl),cJ (hf:=rfl)];rw[cI (l:=(kd 4).cells) (h:=rfl),cJ (hf:=rfl)];rw[cI (l:=(kd 5).cells) (h:=rfl),cJ (hf:=rfl)];rw[cI (l:=(kd 6).cells) (h:=rfl),cJ (hf:=rfl)];rw[cI (l:=(kd 7).cells) (h:=rfl),cJ (hf:=rfl)];rw[cI (l:=(kd 8).cells) (h:=rfl),cJ (hf:=rfl)];rw[cI (l:=(kd 9).cells) (h:=rfl),cJ (hf:=rfl)];rw[cI (l:=(kd 10).cells) (h:=rfl),cJ (hf:=rfl)];rw[cI (l:=(kd 11).cells) (h:=rfl),cJ (hf:=rfl)];rw[cI (l:=(kd 12).cells) (h:=rfl),cJ (hf:=rfl)];rw[cI (l:=(kd 13).cells) (h:=rfl),cJ (hf:=rfl)];rw[cI (l:=(kd 14).cells) (h:=rfl),cJ (hf:=rfl)];rw[cI (l:=(kd 15).cells) (h:=rfl),cJ (hf:=rfl)];rw[cI (l:=(kd 16).cells) (h:=rfl),cJ (hf:=rfl)];rw[cI (l:=(kd 17).cells) (h:=rfl),cJ (hf:=rfl)];rw[cI (l:=(kd 18).cells) (h:=rfl),cJ (hf:=rfl)];rw[aE,aE]
 .rfl
theorem abF{R:Type}(c:ai)(K:AV->St->Option R)(st:St)(m:Pos)(cl:Nat)(h:st.heap.get m=some (.map Oy cl))(n:Nat):
   ak c (.lookup .i (.agg [.str [],.int .u8 0,.bool false,.int .u8 0,.bool false,.int .i64 0,.bool false,.iC]) false) [.map m,.int .u8 (n:Int)] st K=K (.agg (kd n).cells) st:=by
 have e:iE .i (.int .u8 (n:Int)) Oy 0=some (if 1<=n/\n<=18 then some (n - 1,.agg (kd n).cells)else none):=by
   by_cases h:n<=18
   .have:n=0\/n=1\/n=2\/n=3\/n=4\/n=5\/n=6\/n=7\/n=8\/n=9\/n=10\/n=11\/n=12\/n=13\/n=14\/n=15\/n=16\/n=17\/n=18:=(by omega);rcases this with rfl|rfl|rfl|rfl|rfl|rfl|rfl|rfl|rfl|rfl|rfl|rfl|rfl|rfl|rfl|rfl|rfl|rfl|rfl<;>rfl
   . have XL:∀j:Int,j<=18->sx (n:Int) j=false:=λj hj=>by rw[jB];simp;omega
     rw[Za5 (by omega)];simp[Oy,iE,vQ,XL,cq]
 have:∀z:AV,av.run (λb=>st.heap.get b) st.next (.lookup .i z false) [.map m,.int .u8 (n:Int)]=some (.val (if 1<=n/\n<=18 then .agg (kd n).cells else z)):=λz=>by
   simp only[av.run,tr,h,e];by_cases h1:1<=n/\n<=18
   .rw[Za7 h1,Za7 h1]
   .rw[Za5 h1,Za5 h1]
 unfold ak bS;rw[this];by_cases h1:1<=n/\n<=18
 .rw[Za7 h1]
 .rw[Za5 h1];have:kd n=⟨[],0,false,0,false,0,false,.iC⟩:=(by unfold kd;split<;>first|rfl|omega);rw[this];rfl
theorem abG(n:Nat):(kd n).wD=true->(kd n).t=116:=by unfold kd;split<;>simp
def Rl.Ok(r:Rl):Prop:=0<=r.k/\r.k<256
def qJ(p:bX)(r:Rl):Int:=J2 (kd r.k.toNat) p r
def jv(p:bX):Nat->Nat->Int×Int
 |0,_=>(0,0)
 |  m+1,i=>match p.rs[i]? with
    |none=>(0,0)
    |some r=>if qJ p r≠0 then((i:Int),qJ p r)else if i=64 then((i:Int),7)else jv p m (i+1)
theorem IY(p:bX):∀(m i:Nat),(jv p m i).2=0->(jv p m i).1=0
 |0,_,_=>rfl
 |m+    1,i,h=>by
  rw[jv]at h ⊢;cases h0:p.rs[i]? with
  |none=>rfl
  |some r=>
   rw[h0]at h;simp only at h ⊢;by_cases h1:qJ p r=0
   .    rw[Za5 (by simp[h1])]at h ⊢;by_cases h2:i=64
        .rw[Za7 h2]at h;simp at h
        .rw[Za5 h2]at h ⊢; exact IY p m (i+1) h
   .    rw[Za7 h1]at h;exact absurd h h1
def g9(p:bX):Int×Int:=if(ia p).2≠0 then ia p else jv p 100 0
theorem Vp(hc:Sem c)(p:bX)(hp:p.EW)(hr:∀r∈p.rs,r.Ok)(hv:(bG p.ts).2=0)(q1 mp:Pos)(cl:Nat)(F:Nat)(k1 k2):∀(m k:Nat)(st:St),Wf st->st.heap.get q1=some (.cells p.cells 0)->st.heap.get mp=some (.map Oy cl)->p.rs.length<=k+m->k<=p.rs.length->
  ∃st',Grew st st'/\oP c F k1 k2 (m+1) [.ptr q1 0,.map mp,CN p.rz p.rs,.int .i64 (p.rs.length:Int),.int .i64 (k:Int)] st=if(jv p m k).2=0 then k2 [] st' else k1 [.int .i64 (jv p m k).1,.int .i64 (jv p m k).2] st':=by
 have hl:=hp.rs;intro m;induction m with
 |zero=>
  intro k st hw h1 h2 h3 h4;obtain rfl:k=p.rs.length:=by omega
  refine⟨st,Grew.refl hw,?_⟩;rw[uO];simp[jv]
 |succ m ih=>
  intro k st hw hq hm h3 h4;by_cases h:k<p.rs.length
  . have w:ay .i64 ((k:Int)+1)=((k+1:Nat):Int):=wrap64 (by omega) (by omega);have dI:Wf (af st (.cells p.rs[k].cells 0)):=bR hw;have hg:=Grew.af hw (.cells p.rs[k].cells 0);have Rr:=hg.get hq;have iN:=hg.get hm;have hn:=aD st (.cells p.rs[k].cells 0);obtain⟨n,hk⟩:∃n:Nat,p.rs[k].k=(n:Int):=⟨p.rs[k].k.toNat,by have:=(hr _ (Zb9 h)).1;omega⟩
    have SV:=Ya hc (kd n) (abG n) p hp hv p.rs[k] _ dI;have hS:qJ p p.rs[k]=J2 (kd n) p p.rs[k]:=(by unfold qJ;rw[hk];rfl);have DE:=λ(K:AV->St->Option (AV×St))=>abF c K _ mp cl iN n
    have iU:=λ(K:AV->St->Option (AV×St))=>dQ c K st 6 (.agg p.rs[k].cells) [.int .u8 0,.int .i64 0,.str [],.str [],.str [],.int .i64 0] rfl rfl (Rl.one _)
    rw[show(AV.agg p.rs[k].cells).cells=p.rs[k].cells from rfl]at iU;rw[<-hS]at SV;rw[<-hk]at DE;obtain⟨st',g1,g2⟩:=ih (k+1) _ dI Rr iN (by omega) (by omega);rw[uO,jv,H4 h];simp only;by_cases h5:qJ p p.rs[k]=0
    .   rw[Za5 (by simp[h5])];by_cases h6:k=64
        .refine⟨_,hg,?_⟩;rw[Za7 h6];have h6i:decide ((k:Int)=64)=true:=(by simp only[Ze1];omega);simp[-dQ,iU,CN,h,Rr,iN,DE,SV,h5,h6i]
        .refine⟨st',hg.trans g1,?_⟩;rw[Za5 h6, <-g2];have h6i:¬(k:Int)=64:=(by omega);simp[-dQ,iU,CN,h,Rr,iN,DE,SV,h5,h6i,w]
    .   refine⟨_,hg,?_⟩;rw[Za7 h5];simp[-dQ,iU,CN,h,Rr,iN,DE,SV,h5]
  .obtain rfl:k=p.rs.length:=(by omega);refine⟨st,Grew.refl hw,?_⟩;rw[uO];simp[jv]
theorem SC{p:bX}(h:(ia p).2=0):(bG p.ts).2=0:=by
 unfold ia at h;by_cases h1:(bG p.ts).2=0
 .exact h1
 .rw[Za7 h1]at h;exact absurd h h1
theorem O7(hc:Sem c)(p:bX)(hp:p.EW)(hR:RR c p)(hr:∀r∈p.rs,r.Ok)(st:St)(hw:Wf st):c 49 [.agg p.cells] st=some (.tuple [.int .i64 (g9 p).1,.int .i64 (g9 p).2],st):=by
 have qP:Plain (.tuple [.int .i64 (g9 p).1,.int .i64 (g9 p).2]):=Plain.tuple (by simp[Plain.int]);have dI:Wf (af st (.cells p.cells 0)):=bR hw;have RM:=Grew.af hw (.cells p.cells 0);have gR:(af st (.cells p.cells 0)).heap.get st.next=some (.cells p.cells 0):=aD _ _;have B:=aan hc p hp hR _ dI;by_cases h:(ia p).2=0
 . have hv:=SC h;have K:=aaq hc (af st (.cells p.cells 0));have mT:Wf (af (af st (.cells p.cells 0)) (.map Oy 18)):=bR dI;have xq:=Grew.af dI (.map Oy 18);obtain⟨st',g1,g2⟩:=Vp hc p hp hr hv st.next (af st (.cells p.cells 0)).next 18 101 (λvs s50=>js vs λx2 vs=>js vs λx3 vs=>pZ vs (
   some (.tuple [x2,x3],s50))) (λvs s51=>pZ vs (
   ak c .move [(.int .i64 0)] s51 λx2 s52=>
 ak c .move [(.int .i64 0)] s52 λx3 s53=>
 some (.tuple [x2,x3],s53))) 100 0 _ mT (xq.get gR) (aD _ _) (by have:=hp.rs;omega) (by omega)
   have e:g9 p=jv p 100 0:=(by unfold g9;rw[Za5 (by simp[h])]);have e0:=SB h;rw[CP hc 101 (r:=(.tuple [.int .i64 (g9 p).1,.int .i64 (g9 p).2],st')),aL qP ((RM.trans xq).trans g1).keeps];rw[GO,e];simp at g2;simp[gR,B,h,K,g2];by_cases h2:(jv p 100 0).2=0
   .have:=IY p 100 0 h2;simp[h2,this]
   .simp[h2]
 .have e:g9 p=ia p:=(by unfold g9;rw[Za7 h]);rw[CP hc 101 (r:=(.tuple [.int .i64 (g9 p).1,.int .i64 (g9 p).2],af st (.cells p.cells 0))),aL qP RM.keeps];rw[GO,e];simp[gR,B,h]
end
section
open Go Go.Ai Go.Proofs
variable{c:ai}
end
section
open Go Go.Ai Go.Proofs
variable{c:ai}
end
section
open Go Go.Ai Go.Proofs
theorem xw{Q:List AV->Prop}{Qs:List (List AV->Prop)}{ps:List (List AV)}(h:DT (Q::Qs) ps):∃p qs,ps=p::qs/\Q p/\DT Qs qs:=by
 cases ps with
 |nil=>exact h.elim
 |cons p qs=>exact⟨p,qs,rfl,h⟩
theorem QV{ps:List (List AV)}(h:DT [] ps):ps=[]:=by
 cases ps with
 |nil=>rfl
 |cons p qs=>exact h.elim
section
variable{H:Type}{enc:TypeId×Value->H}{w:World}{base:Nat}{spare:Nat->Bool}{held:Bool}
end
variable{c:ai}
abbrev cU(i:Int):List AV:=[.int .i64 i]
abbrev rowS(s:List Nat):List AV:=[.str s]
def aR.az(t:aR)(v:AV):List AV:=[.str t.name,.int .u8 t.sh,.int .i64 t.a,.int .i64 t.b,v,.int .i64 t.x,.int .i64 t.y]
theorem aR.M8(t:aR){v:AV}(h:aO [v]=true):aO (t.az v)=true:=by
 simp only[aO]at h;unfold aR.az;simp only[aO,AV.one,h,Zi6,Zj9]at*
structure TS(s0 s:St)(V:AV)(ts:List aR)(rows:List (List AV)):Prop where
 out:Mk 7 s0 s V rows
 len:rows.length=ts.length
 qU:∀(i:Nat)(t:aR)(r:List AV),ts[i]? =some t->rows[i]? =some r->∃v,r=t.az v/\Mk 1 s0 s v (t.oM.map cU)/\∀b,aZ v=some b->aZ V≠some b
structure GS(s0 s:St)(V:AV)(ts:List aN)(rows:List (List AV)):Prop where
 out:Mk 9 s0 s V rows
 len:rows.length=ts.length
 qU:∀(i:Nat)(t:aN)(r:List AV),ts[i]? =some t->rows[i]? =some r->∃v,r=t.az v/\Mk 1 s0 s v (t.tg.map rowS)/\∀b,aZ v=some b->aZ V≠some b
structure PS(s0 s:St)(Vs:List AV)(p:bX):Prop where
 aA:Grew s0 s
 all:∃V1 V2 V3 V4 V5 r1 r2,Vs=[V1,V2,V3,V4,V5]/\TS s0 s V1 p.ts r1/\GS s0 s V2 p.gs r2/\Mk 3 s0 s V3 (p.ys.map Ty.cells)/\Mk 1 s0 s V4 (p.cs.map cU)/\Mk 6 s0 s V5 (p.rs.map Rl.cells)
theorem TS.sH{s0 s s':St}{V:AV}{ts:List aR}{rows:List (List AV)}(h:TS s0 s V ts rows)(hg:Grew s0 s')(hk:∀b x,s0.next.toNat<=b.toNat->(aZ V=some b\/∃(i:Nat) (r:List AV) (v:AV),rows[i]? =some r/\r[4]? =some v/\aZ v=some b)->s.heap.get b=some x->s'.heap.get b=some x):TS s0 s' V ts rows:=
 ⟨Mk.sH h.out hg λb x hb hx=>hk b x (h.out.new b hb) (.inl hb) hx,h.len,λi t r hi hr=>by
  obtain⟨v,e1,e2,e3⟩:=h.qU i t r hi hr;exact⟨v,e1,Mk.sH e2 hg λb x hb hx=>hk b x (e2.new b hb) (.inr ⟨i,r,v,hr,by rw[e1];rfl,hb⟩) hx,e3⟩⟩
theorem GS.sH{s0 s s':St}{V:AV}{ts:List aN}{rows:List (List AV)}(h:GS s0 s V ts rows)(hg:Grew s0 s')(hk:∀b x,s0.next.toNat<=b.toNat->(aZ V=some b\/∃(i:Nat) (r:List AV) (v:AV),rows[i]? =some r/\r[8]? =some v/\aZ v=some b)->s.heap.get b=some x->s'.heap.get b=some x):GS s0 s' V ts rows:=
 ⟨Mk.sH h.out hg λb x hb hx=>hk b x (h.out.new b hb) (.inl hb) hx,h.len,λi t r hi hr=>by
  obtain⟨v,e1,e2,e3⟩:=h.qU i t r hi hr;exact⟨v,e1,Mk.sH e2 hg λb x hb hx=>hk b x (e2.new b hb) (.inr ⟨i,r,v,hr,by rw[e1];rfl,hb⟩) hx,e3⟩⟩
def aR.fu(t t':aR):Prop:=∃z,t'={ t with oz:=z }
def aN.fu(g g':aN):Prop:=∃z,g'={ g with tz:=z }
theorem RZ{α:Type}(f:α->AV)(s:St)(d:Nat)(l:List α)(hf:∀a∈l,cX s d (f a)=f a):(l.map λa=>[f a]).map (λr=>r.map (cX s d))=l.map λa=>[f a]:=by
 rw[Zf7];refine Zi5 λa ha=> ?_
 simp only[Function.comp,Zd4,Zh6,hf a ha]
theorem CQ(s:St)(d:Nat)(k:IntKind)(i:Int):cX s d (.int k i)= .int k i:=by cases d<;>rfl
theorem CR(s:St)(d:Nat)(l:List Nat):cX s d (.str l)= .str l:=by cases d<;>rfl
theorem aar(s:St)(d:Nat)(b:Bool):cX s d (.bool b)= .bool b:=by cases d<;>rfl
theorem R1{s0 s:St}{v:AV}{l:List Int}(h:Mk 1 s0 s v (l.map cU))(d:Nat):∃z,cX s (d+1) v=ints z l:=by
 obtain⟨z,hz⟩:=h.own.cX (d:=d) h.row;refine⟨z,?_⟩;rw[hz];unfold ints;rw[RZ (λi=>AV.int .i64 i) s d l λa _=>CQ s d _ _]
theorem aas{s0 s:St}{v:AV}{l:List (List Nat)}(h:Mk 1 s0 s v (l.map rowS))(d:Nat):∃z,cX s (d+1) v=mF z l:=by
 obtain⟨z,hz⟩:=h.own.cX (d:=d) h.row;refine⟨z,?_⟩;rw[hz];unfold mF;rw[RZ (λi=>AV.str i) s d l λa _=>CR s d _]
theorem abH{s0 s:St}{v:AV}{l:List Ty}(h:Mk 3 s0 s v (l.map Ty.cells))(d:Nat):∃z,cX s (d+1) v=jR z l:=by
 obtain⟨z,hz⟩:=h.own.cX (d:=d) h.row;refine⟨z,?_⟩;rw[hz];unfold jR;rw[Zf7];congr 1;refine Zi5 λa _=> ?_
 simp only[Function.comp,Ty.cells,Zd4,Zh6,CR,CQ]
theorem abI{s0 s:St}{v:AV}{l:List Rl}(h:Mk 6 s0 s v (l.map Rl.cells))(d:Nat):∃z,cX s (d+1) v=CN z l:=by
 obtain⟨z,hz⟩:=h.own.cX (d:=d) h.row;refine⟨z,?_⟩;rw[hz];unfold CN;rw[Zf7];congr 1;refine Zi5 λa _=> ?_
 simp only[Function.comp,Rl.cells,Zd4,Zh6,CR,CQ]
theorem J3{α:Type}(P:α->α->Prop)(cells:α->List AV)(g:List AV->List AV):∀(ts:List α)(rows:List (List AV)),rows.length=ts.length->(∀(i:Nat)(t:α)(r:List AV),ts[i]? =some t->rows[i]? =some r->∃t',P t t'/\g r=cells t')->
  ∃rS:List α,rows.map g=rS.map cells/\rS.length=ts.length/\∀(i:Nat)(t t':α),ts[i]? =some t->rS[i]? =some t'->P t t'
 |[],rows,hl,_=>⟨[],by rw[Zb0 hl];rfl,rfl,λi t t' h=>by simp at h⟩
 |t::ts,[],hl,_=>by simp at hl
 |t::ts,r::rows,hl,h=>by
  obtain⟨t',h1,h2⟩:=h 0 t r rfl rfl;obtain⟨rS,k1,k2,k3⟩:=J3 P cells g ts rows (by simpa using hl) (λi t r h3 h4=>h (i+1) t r (by simpa using h3) (by simpa using h4));refine⟨t'::rS,by simp[h2,k1],by simp[k2],λi u u' h3 h4=> ?_⟩;cases i with
  |zero=>simp at h3 h4;subst h3;subst h4;exact h1
  |succ i=>exact k3 i u u' (by simpa using h3) (by simpa using h4)
theorem TS.cX{s0 s:St}{V:AV}{ts:List aR}{rows:List (List AV)}(h:TS s0 s V ts rows)(d:Nat):∃z rS,Go.Ai.cX s (d+2) V=tabs z rS/\rS.length=ts.length/\∀(i:Nat)(t t':aR),ts[i]? =some t->rS[i]? =some t'->t.fu t':=by
 obtain⟨z,hz⟩:=h.out.own.cX (d:=d+1) h.out.row;obtain⟨rS,k1,k2,k3⟩:=J3 aR.fu aR.cells (λr=>r.map (Go.Ai.cX s (d+1))) ts rows h.len λi t r hi hr=>by
  obtain⟨v,rfl,hM,_⟩:=h.qU i t r hi hr;obtain⟨z2,hz2⟩:=R1 hM d;refine⟨{ t with oz:=z2 },⟨z2,rfl⟩,?_⟩;simp only[aR.az,aR.cells,Zd4,Zh6,CR,CQ,hz2]
 refine⟨z,rS,?_,k2,k3⟩;rw[hz,k1];rfl
theorem GS.cX{s0 s:St}{V:AV}{ts:List aN}{rows:List (List AV)}(h:GS s0 s V ts rows)(d:Nat):∃z rS,Go.Ai.cX s (d+2) V=eN z rS/\rS.length=ts.length/\∀(i:Nat)(t t':aN),ts[i]? =some t->rS[i]? =some t'->t.fu t':=by
 obtain⟨z,hz⟩:=h.out.own.cX (d:=d+1) h.out.row;obtain⟨rS,k1,k2,k3⟩:=J3 aN.fu aN.cells (λr=>r.map (Go.Ai.cX s (d+1))) ts rows h.len λi t r hi hr=>by
  obtain⟨v,rfl,hM,_⟩:=h.qU i t r hi hr;obtain⟨z2,hz2⟩:=aas hM d;refine⟨{ t with tz:=z2 },⟨z2,rfl⟩,?_⟩;simp only[aN.az,aN.cells,Zd4,Zh6,CR,CQ,aar,hz2]
 refine⟨z,rS,?_,k2,k3⟩;rw[hz,k1];rfl
end
end Go.Proofs.YtoeleelojgimfaaGreatDoor
section
end
namespace Go.Proofs.YtoeleelojgimfaaGreatDoor
section
open Go Go.Ai Go.Proofs
variable{c:ai}
structure bX.fu(p p':bX):Prop where
 tl:p'.ts.length=p.ts.length
 ts:∀(i:Nat)(t t':aR),p.ts[i]? =some t->p'.ts[i]? =some t'->t.fu t'
 gl:p'.gs.length=p.gs.length
 gs:∀(i:Nat)(t t':aN),p.gs[i]? =some t->p'.gs[i]? =some t'->t.fu t'
 ys:p'.ys=p.ys
 cs:p'.cs=p.cs
 rs:p'.rs=p.rs
theorem PS.cX{s0 s:St}{Vs:List AV}{p:bX}(h:PS s0 s Vs p)(d:Nat):∃p',Go.Ai.cX s (d+3) (.agg Vs)= .agg p'.cells/\p.fu p':=by obtain⟨V1,V2,V3,V4,V5,r1,r2,rfl,h1,h2,h3,h4,h5⟩:=h.all;obtain⟨z1,rS,e1,l1,k1⟩:=h1.cX d;obtain⟨z2,gs',e2,l2,k2⟩:=h2.cX d;obtain⟨z3,e3⟩:=abH h3 (d+1);obtain⟨z4,e4⟩:=R1 h4 (d+1);obtain⟨z5,e5⟩:=abI h5 (d+1);refine⟨⟨z1,rS,z2,gs',z3,p.ys,z4,p.cs,z5,p.rs⟩,?_,⟨l1,k1,l2,k2,rfl,rfl,rfl⟩⟩;rw[Tm];simp only[Zd4,Zh6,e1,e2,e3,e4,e5];rfl
theorem H7{α β:Type}{P:α->α->Prop}{l l':List α}(hl:l'.length=l.length)(hs:∀(i:Nat)(t t':α),l[i]? =some t->l'[i]? =some t'->P t t')(f:α->β)(hf:∀t t',P t t'->f t'=f t)(i:Nat):l'[i]?.map f=l[i]?.map f:=by
 by_cases h:i<l.length
 .have h':i<l'.length:=(by omega);rw[H4 h,H4 h'];simp only[Ze2,H0];exact hf _ _ (hs i _ _ (H4 h) (H4 h'))
 .rw[Zb7 (by omega),Zb7 (by omega)]
theorem aat{t t':aR}(h:t.fu t'):rq t'=rq t:=by obtain⟨z,rfl⟩:=h;rfl
theorem T7{t t':aR}(h:t.fu t'):dN t'=dN t:=by obtain⟨z,rfl⟩:=h;rfl
theorem Yc{t t':aN}(h:t.fu t'):fR t'=fR t:=by obtain⟨z,rfl⟩:=h;rfl
variable{p p':bX}
theorem bX.fu.nm(h:p.fu p')(s:List Nat):m7 p'.ts s=m7 p.ts s:=funext λi=>by
 unfold m7;rw[H7 h.tl h.ts aR.name (λt t' k=>by obtain⟨z,rfl⟩:=k;rfl)]
theorem bX.fu.gm(h:p.fu p')(s:List Nat):jH p'.gs s=jH p.gs s:=funext λi=>by
 unfold jH;rw[H7 h.gl h.gs aN.name (λt t' k=>by obtain⟨z,rfl⟩:=k;rfl)]
theorem bX.fu.at(h:p.fu p'):∀(m k:Nat),fG p'.ts m k=fG p.ts m k
 |0,_=>rfl
 |m +1,k=>by
  have ih:=h.at m (k+1);unfold fG;by_cases hk:k<p.ts.length
  .have jO:k<p'.ts.length:=(by rw[h.tl];exact hk);have hs:=h.ts k _ _ (H4 hk) (H4 jO);have hn:p'.ts[k].name=p.ts[k].name:=(by obtain⟨z,e⟩:=hs;rw[e]);rw[H4 hk,H4 jO];simp only[aat hs,hn,h.nm,ih]
  .have jO:¬k<p'.ts.length:=(by rw[h.tl];exact hk);rw[Zb7 (by omega),Zb7 (by omega)]
theorem bX.fu.xB(h:p.fu p'):bG p'.ts=bG p.ts:=by unfold bG;rw[h.tl,h.at]
theorem bX.fu.gsAt(h:p.fu p'):∀(m k:Nat),jM p'.gs m k=jM p.gs m k
 |0,_=>rfl
 |m +1,k=>by
  have ih:=h.gsAt m (k+1);unfold jM;by_cases hk:k<p.gs.length
  .have jO:k<p'.gs.length:=(by rw[h.gl];exact hk);have hs:=h.gs k _ _ (H4 hk) (H4 jO);have hn:p'.gs[k].name=p.gs[k].name:=(by obtain⟨z,e⟩:=hs;rw[e]);rw[H4 hk,H4 jO];simp only[Yc hs,hn,h.gm,ih]
  .have jO:¬k<p'.gs.length:=(by rw[h.gl];exact hk);rw[Zb7 (by omega),Zb7 (by omega)]
theorem bX.fu.unk(h:p.fu p')(t:Ty):kV p'.gs t=kV p.gs t:=by unfold kV;rw[h.gm,h.gm,h.gl]
theorem bX.fu.tyAt(h:p.fu p')(ts:List Ty):∀(m k:Nat),fS p'.gs ts m k=fS p.gs ts m k
 |0,_=>rfl
 |m+1,k=>by
  have ih:=h.tyAt ts m (k+1);unfold fS;cases ts[k]? with
  |none=>rfl
  |some t=>simp only[h.gl,h.unk,ih]
theorem bX.fu.roll(h:p.fu p'):cH p'.gs p'.ys=cH p.gs p.ys:=by unfold cH;rw[h.ys,h.gsAt,h.tyAt]
theorem bX.fu.sum(h:p.fu p'):bC p'.ts=bC p.ts:=by
 unfold bC;congr 1;refine Zh1 λi=> ?_
 rw[Zc0,Zc0];exact H7 h.tl h.ts dN (λt t' k=>T7 k) i
theorem bX.fu.basis(h:p.fu p'):ia p'=ia p:=by unfold ia;rw[h.xB,h.roll,h.cs,h.gl,h.sum]
theorem bX.fu.gi(h:p.fu p')(s:List Nat):Go.Proofs.YtoeleelojgimfaaGreatDoor.gi p' s=Go.Proofs.YtoeleelojgimfaaGreatDoor.gi p s:=by unfold Go.Proofs.YtoeleelojgimfaaGreatDoor.gi;rw[h.gm,h.gl]
theorem bX.fu.ti(h:p.fu p')(s:List Nat):Go.Proofs.YtoeleelojgimfaaGreatDoor.ti p' s=Go.Proofs.YtoeleelojgimfaaGreatDoor.ti p s:=by unfold Go.Proofs.YtoeleelojgimfaaGreatDoor.ti;rw[h.nm,h.tl]
theorem bX.fu.ru(h:p.fu p')(i:Int):Go.Proofs.YtoeleelojgimfaaGreatDoor.ru p' i=Go.Proofs.YtoeleelojgimfaaGreatDoor.ru p i:=by
 unfold Go.Proofs.YtoeleelojgimfaaGreatDoor.ru;have:=H7 h.tl h.ts dN (λt t' k=>T7 k) i.toNat;cases h1:p.ts[i.toNat]? with
 |none=>rw[h1]at this;cases h2:p'.ts[i.toNat]? with
  |none=>rfl
  |some t=>rw[h2]at this;cases this
 |some t=>rw[h1]at this;cases h2:p'.ts[i.toNat]? with
  |none=>rw[h2]at this;cases this
  |some t'=>rw[h2]at this;simp only[Ze2,H0]at this;simp only[this]
theorem bX.fu.rule(h:p.fu p')(r:Rl):qJ p' r=qJ p r:=by
 unfold qJ J2 RW LP;simp only[h.gi,h.ti,h.ru]
theorem bX.fu.CN(h:p.fu p'):∀(m k:Nat),jv p' m k=jv p m k
 |0,_=>rfl
 |m+1,k=>by
  have ih:=h.CN m (k+1);unfold jv;rw[h.rs];cases p.rs[k]? with
  |none=>rfl
  |some r=>simp only[h.rule,ih]
theorem bX.fu.check(h:p.fu p'):g9 p'=g9 p:=by unfold g9;rw[h.basis,h.CN]
end
section
open Go Go.Ai Go.Proofs
section
variable{p p':bX}
theorem bX.fu.tab(h:p.fu p'){t':aR}(ht:t'∈p'.ts):∃t∈p.ts,t.fu t':=by
 obtain⟨i,hi,rfl⟩:=Zk7.1 ht;have K7:i<p.ts.length:=by rw[<-h.tl];exact hi
 exact⟨p.ts[i],Zb9 K7,h.ts i _ _ (H4 K7) (H4 hi)⟩
theorem bX.fu.CB(h:p.fu p')(hp:p.EW):p'.EW where
 ts:=by rw[h.tl];exact hp.ts
 gs:=by rw[h.gl];exact hp.gs
 ys:=by rw[h.ys];exact hp.ys
 cs:=by rw[h.cs];exact hp.cs
 rs:=by rw[h.rs];exact hp.rs
 ok t ht:=by obtain⟨u,hu,z,rfl⟩:=h.tab ht;have:=hp.ok u hu;exact⟨this.1,this.2⟩
end
section
variable{s s1:St}
end
end
noncomputable section
open Go Go.Ai Go.Proofs
def J4(f:FuncId):List AV->St->Option (AV×St):=Gg (run Eg gg) f 4
def Bn:dR:=ud [(238,Fz),(15,HU),(49,J4 49),(30,J4 30),(41,J4 41),(64,J4 64),(63,J4 63)]
def cE(c:ai):Prop:=c=run Bn gg
theorem cE.o0{c:ai}(hc:cE c)(F:Nat){f:FuncId}{args:List AV}{st:St}{r:AV×St}(s:Sh)(hk:(qR (Bn f)&& !qR (gg.get (key f))&&(dP (gA f).code s).isEmpty)=true)
  {k:O2} (hd:xP c F (Ph []) (gA f) s args st=k) (h:k=some r):c f args st=some (tidy st r):=by
 subst hc;exact Tv s hk hd h
theorem cE.o1{c:ai}(hc:cE c)(F:Nat){f:FuncId}{args:List AV}{st:St}{r:AV×St}(Ls:Un->List Q2->Nat->Q2)(s:Sh)(hk:(qR (Bn f)&& !qR (gg.get (key f))&&Nat.beq (dP (gA f).code s).length 1)=true)
  (hs:(Mg (eV (gA f) s 0).2&&Nat.beq (WQ (eV (gA f) s 0).2) 0)=true) (h0:∀K' vs st,mC Ls (gA f) s 0 K' 0 vs st=none)
  (h1:∀K' n vs st,mC Ls (gA f) s 0 K' (n+1) vs st=Cs (den c F (mC Ls (gA f) s) (eV (gA f) s 0).1 (lpB (eV (gA f) s 0).2)) (lpI (eV (gA f) s 0).2) (WS (eV (gA f) s 0).2) K' (mC Ls (gA f) s 0 K' n) vs st)
  {k:O2} (hd:xP c F (mC Ls (gA f) s) (gA f) s args st=k) (h:k=some r):c f args st=some (tidy st r):=by
 subst hc;exact Tw Ls s hk hs h0 h1 hd h
theorem cE.oL{c:ai}(hc:cE c)(F:Nat){f:FuncId}{args:List AV}{st:St}{r:AV×St}(Ls:Un->List Q2->Nat->Q2)(s:Sh)(n:Nat)(hk:(qR (Bn f)&& !qR (gg.get (key f))&&Nat.beq (dP (gA f).code s).length n)=true)
  (hL:∀i,i<n->uw c F (mC Ls (gA f) s) (eV (gA f) s i).1 (eV (gA f) s i).2) {k:O2} (hd:xP c F (mC Ls (gA f) s) (gA f) s args st=k) (h:k=some r):c f args st=some (tidy st r):=by
 subst hc;exact MC Ls s n hk hL hd h
theorem cE.at{c:ai}(hc:cE c){f:FuncId}{s:List AV->St->Option (AV×St)}{args:List AV}{st:St}{r:AV×St}(ho:Bn f=some s)(h:s args st=some r):c f args st=some r:=by subst hc;exact KU ho h
section
variable{c:ai}{s0 s:St}{Vs:List AV}{p:bX}
theorem Oq(hc:cE c)(s:St):c 15 [] s=some (.bool true,s):=hc.at (s:=HU) rfl rfl
theorem Xt(hc:cE c)(h:PS s0 s Vs p)(hp:p.EW)(hr:∀r∈p.rs,r.Ok):c 49 [.agg Vs] s=some (.tuple [.int .i64 (g9 p).1,.int .i64 (g9 p).2],s):=by
 obtain⟨p',e,S⟩:=h.cX 1;refine hc.at (s:=J4 49) rfl (Lb ?_ (mW.tuple (by intro v hv;simp at hv;rcases hv with rfl|rfl<;>exact mW.int _ _)));rw[Zd4,Zh6,e, <-S.check];exact O7 rfl p' (S.CB hp) (abC rfl (S.CB hp)) (by rw[S.rs];exact hr) (emptyAt s) (La s)
theorem PS.tabs(h:PS s0 s Vs p):∃V1 z p',Vs[0]? =some V1/\Go.Ai.cX s 4 V1=Go.Proofs.YtoeleelojgimfaaGreatDoor.tabs z p'.ts/\p.fu p':=by
 obtain⟨V1,V2,V3,V4,V5,r1,r2,rfl,h1,h2,h3,h4,h5⟩:=h.all;obtain⟨z,rS,e,l,k⟩:=h1.cX 2;exact⟨V1,z,{ p with ts:=rS },rfl,e,⟨l,k,rfl,λi t t' a b=>by rw[a]at b;cases b;exact⟨t.tz,rfl⟩,rfl,rfl,rfl⟩⟩
theorem Of(hc:cE c)(h:PS s0 s Vs p)(eI:∀t∈p.ts,t.Ok)(hv:(bG p.ts).2=0){V1:AV}(e1:Vs[0]? =some V1):c 30 [V1] s=some (.int .i64 (bC p.ts),s):=by
 obtain⟨V,z,p',e,ez,S⟩:=h.tabs;rw[e1]at e;cases e;refine hc.at (s:=J4 30) rfl (Lb ?_ (mW.int _ _));rw[Zd4,Zh6,ez];have:=wB (c:=run Eg gg) rfl z p'.ts (λt ht=>by obtain⟨u,hu,z,rfl⟩:=S.tab ht;have:=eI u hu;exact⟨this.1,this.2⟩) (emptyAt s) (La s);rw[this,S.xB,Za7 hv,S.sum]
end
end
end Go.Proofs.YtoeleelojgimfaaGreatDoor
