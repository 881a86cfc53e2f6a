/- Checks of a problem. -/
import Derived.Test.YtgihekklfnjkiaaGreatDoorDLawsA
set_option linter.all false
set_option linter.unusedSectionVars false
set_option linter.deprecated false
namespace Go.Proofs.YtgihekklfnjkiaaGreatDoor
section
set_option maxRecDepth 100000
open Go Go.Ai Go.Proofs
variable{c : aj}
def kd:Nat->Kd
 |1=>⟨[97,112,97,114,116],103,true,0,true,0,false,.func 90 [] []⟩
 |2=>⟨[98,101,115,105,100,101],103,true,0,false,0,false,.func 91 [] []⟩
 |3=>⟨[97,99,114,111,115,115],103,true,0,false,0,false,.func 92 [] []⟩
 |4=>⟨[110,101,97,114],103,true,0,true,1,false,.func 93 [] []⟩
 |5=>⟨[116,111,103,101,116,104,101,114],103,true,0,false,0,false,.func 94 [] []⟩
 |6=>⟨[97,116],103,false,116,false,0,false,.func 95 [] []⟩
 |7=>⟨[115,101,97,116],103,false,116,true,0,true,.func 96 [] []⟩
 |8=>⟨[97,108,116,101,114,110,97,116,101],0,false,101,false,0,false,.func 97 [] []⟩
 |9=>⟨[104,111,115,116],0,false,101,false,0,false,.func 98 [] []⟩
 |10=>⟨[114,101,97,99,104],101,false,0,false,0,false,.func 99 [] []⟩
 |11=>⟨[115,112,101,97,107],0,false,101,false,0,false,.func 100 [] []⟩
 |12=>⟨[112,101,97,99,101],0,false,101,false,0,false,.func 101 [] []⟩
 |13=>⟨[99,111,109,112,97,110,121],0,false,101,false,0,false,.func 102 [] []⟩
 |14=>⟨[104,111,110,111,117,114],0,false,101,false,0,false,.func 103 [] []⟩
 |15=>⟨[102,105,108,108],0,false,101,true,0,false,.func 104 [] []⟩
 |16=>⟨[108,105,109,105,116],0,false,101,true,0,false,.func 105 [] []⟩
 |17=>⟨[107,105,116,99,104,101,110],100,false,116,false,0,false,.func 106 [] []⟩
 |18=>⟨[109,105,120],0,false,101,false,0,false,.func 107 [] []⟩
 |_=>⟨[],0,false,0,false,0,false,.jK⟩
def E7:List (AV×AV×Nat):=[(.int .u8 1,.agg (kd 1).cells,0),(.int .u8 2,.agg (kd 2).cells,1),(.int .u8 3,.agg (kd 3).cells,2),(.int .u8 4,.agg (kd 4).cells,3),(.int .u8 5,.agg (kd 5).cells,4),(.int .u8 6,.agg (kd 6).cells,5),(.int .u8 7,.agg (kd 7).cells,6),(.int .u8 8,.agg (kd 8).cells,7),(.int .u8 9,.agg (kd 9).cells,8),(.int .u8 10,.agg (kd 10).cells,9),(.int .u8 11,.agg (kd 11).cells,10),(.int .u8 12,.agg (kd 12).cells,11),(.int .u8 13,.agg (kd 13).cells,12),(.int .u8 14,.agg (kd 14).cells,13),(.int .u8 15,.agg (kd 15).cells,14),(.int .u8 16,.agg (kd 16).cells,15),(.int .u8 17,.agg (kd 17).cells,16),(.int .u8 18,.agg (kd 18).cells,17)]
theorem afQ(p:Pos):¬Plain (.map p):=λh=>by have:=h (λ_=>(⟨0,0,0⟩:Go.Ai.Loc)) (λ_=>⟨1,0,0⟩) (p.toNat+1) (p.toNat+1) (λ_=>none) _ (.map p (Nat.lt_succ_self _));cases this
theorem ail(st:St)(p:Pos)(s':St):tidy st (.map p,s')=(.map p,s'):=by unfold tidy;rw[Za7];exact λe=>afQ p e.1
theorem ez{R:Type}(c:aj)(K:AV->St->Option R)(st:St)(z:List AV)(ps:List (Nat×Nat))(xs l:List AV)(h:cF z ps xs=some l):aq c (.build z ps) xs st K=K (.agg l) st:=by rw[ig,h];rfl
theorem eP{R:Type}(c:aj)(K:AV->St->Option R)(st:St)(es:List (AV×AV×Nat))(cl:Nat)(k:IntKind)(x:Int)(v:AV)(hf:ir .i (.int k x) es 0=some none):
  aq c (.mapSet .i) [.map st.next,.int k x,v] (ah st (.map es cl)) K=K .undef (ah st (.map (es++[(.int k x,v,cl)]) (cl+1))):=by
 have:aH.run (λb=>(ah st (.map es cl)).heap.get b) (ah st (.map es cl)).next (.mapSet .i) [.map st.next,.int k x,v]=some (.bh .undef none (some (st.next,.map (es++[(.int k x,v,cl)]) (cl+1))) none):=by
  simp[aH.run,yj,hf,agt]
 unfold aq cL;rw[this];show K .undef (bk (ah st (.map es cl)) st.next _)=_;rw[YA]
theorem aim(hc:Sem c)(s:St):c 50 [] s=some (.map s.next,ah s (.map E7 18)):=by
 rw[aec hc 1 (r:=(.map s.next,ah s (.map E7 18))),ail];rw[ain];rw[ay,Wi];rw[ez (l:=(kd 1).cells) (h:=rfl),eP (hf:=rfl)];rw[ez (l:=(kd 2).cells) (h:=rfl),eP (hf:=rfl)];rw[ez (l:=(kd 3).cells) (h:=rfl),eP (hf:=rfl)];rw[ez (l:=(kd 4).cells) (h:=rfl),eP (hf:=rfl)];rw[ez (l:=(kd 5).cells) (h:=rfl),eP (hf:=rfl)];rw[ez (l:=(kd 6).cells) (h:=rfl),eP (hf:=rfl)];rw[ez (l:=(kd 7).cells) (h:=rfl),eP (hf:=rfl)];rw[ez (l:=(kd 8).cells) (h:=rfl),eP (hf:=rfl)];rw[ez (l:=(kd 9).cells) (h:=rfl),eP (hf:=rfl)];rw[ez (l:=(kd 10).cells) (h:=rfl),eP (hf:=rfl)];rw[ez (l:=(kd 11).cells) (h:=rfl),eP (hf:=rfl)];rw[ez (l:=(kd 12).cells) (h:=rfl),eP (hf:=rfl)];rw[ez (l:=(kd 13).cells) (h:=rfl),eP (hf:=rfl)];rw[ez (l:=(kd 14).cells) (h:=rfl),eP (hf:=rfl)];rw[ez (l:=(kd 15).cells) (h:=rfl),eP (hf:=rfl)];rw[ez (l:=(kd 16).cells) (h:=rfl),eP (hf:=rfl)];rw[ez (l:=(kd 17).cells) (h:=rfl),eP (hf:=rfl)];rw[ez (l:=(kd 18).cells) (h:=rfl),eP (hf:=rfl)];rw[ay,ay]
 . rfl
theorem asJ{R:Type}(c:aj)(K:AV->St->Option R)(st:St)(m:Pos)(cl:Nat)(h:st.heap.get m=some (.map E7 cl))(n:Nat):
   aq c (.lookup .i (.agg [.str [],.int .u8 0,.bool false,.int .u8 0,.bool false,.int .i64 0,.bool false,.jK]) false) [.map m,.int .u8 (n:Int)] st K=K (.agg (kd n).cells) st:=by
 have e:ir .i (.int .u8 (n:Int)) E7 0=some (if 1<=n/\n<=18 then some (n - 1,.agg (kd n).cells)else none):=by
   by_cases h:n<=18
   . have:n=0\/n=1\/n=2\/n=3\/n=4\/n=5\/n=6\/n=7\/n=8\/n=9\/n=10\/n=11\/n=12\/n=13\/n=14\/n=15\/n=16\/n=17\/n=18:=(by omega);rcases this with rfl|rfl|rfl|rfl|rfl|rfl|rfl|rfl|rfl|rfl|rfl|rfl|rfl|rfl|rfl|rfl|rfl|rfl|rfl<;>rfl
   . have Hf:∀j:Int,j<=18->Bi (n:Int) j=false:=λj hj=>by rw[mH];simp;omega
     rw[Za7 (by omega)];simp[E7,ir,Bv,Hf,dK]
 have:∀z:AV,aH.run (λb=>st.heap.get b) st.next (.lookup .i z false) [.map m,.int .u8 (n:Int)]=some (.val (if 1<=n/\n<=18 then .agg (kd n).cells else z)):=λz=>by
   simp only[aH.run,lC,h,e];by_cases h1:1<=n/\n<=18
   . rw[Zb2 h1,Zb2 h1]
   . rw[Za7 h1,Za7 h1]
 unfold aq cL;rw[this];by_cases h1:1<=n/\n<=18
 . rw[Zb2 h1]
 . rw[Za7 h1];have:kd n=⟨[],0,false,0,false,0,false,.jK⟩:=(by unfold kd;split<;>first|rfl|omega);rw[this];rfl
theorem asK(n:Nat):(kd n).kz=true->(kd n).t=116:=by unfold kd;split<;>simp
def Rl.Ok(r:Rl):Prop:=0<=r.k/\r.k<256
def uA(p:cw)(r:Rl):Int:=Sv (kd r.k.toNat) p r
def oa(p:cw):Nat->Nat->Int×Int
 |0,_=>(0,0)
 |  m+1,i=>match p.rs[i]? with
    |none=>(0,0)
    |some r=>if uA p r≠0 then((i:Int),uA p r)else if i=64 then((i:Int),7)else oa p m (i+1)
theorem aaa(p:cw):∀(m i:Nat),(oa p m i).2=0->(oa p m i).1=0
 |0,_,_=>rfl
 |m+    1,i,h=>by
  rw[oa]at h ⊢;cases h0:p.rs[i]? with
  |none=>rfl
  |some r=>
   rw[h0]at h;simp only at h ⊢;by_cases h1:uA p r=0
   .    rw[Za7 (by simp[h1])]at h ⊢;by_cases h2:i=64
        . rw[Zb2 h2]at h;simp at h
        . rw[Za7 h2]at h ⊢; exact aaa p m (i+1) h
   .    rw[Zb2 h1]at h;exact absurd h h1
def jY(p:cw):Int×Int:=if(jE p).2≠0 then jE p else oa p 100 0
theorem alN(hc:Sem c)(p:cw)(hp:p.GY)(hr:∀r∈p.rs,r.Ok)(hv:(bV p.ts).2=0)(q1 mp:Pos)(cl:Nat)(F:Nat)(k1 k2):∀(m k:Nat)(st:St),Wf st->st.heap.get q1=some (.cells p.cells 0)->st.heap.get mp=some (.map E7 cl)->p.rs.length<=k+m->k<=p.rs.length->
  ∃st',Grew st st'/\wR c F k1 k2 (m+1) [.ptr q1 0,.map mp,iY p.rz p.rs,.int .i64 (p.rs.length:Int),.int .i64 (k:Int)] st=if(oa p m k).2=0 then k2 [] st' else k1 [.int .i64 (oa p m k).1,.int .i64 (oa p m k).2] st':=by
 have hl:=hp.rs;intro m;induction m with
 |zero=>
  intro k st hw h1 h2 h3 h4;obtain rfl:k=p.rs.length:=by omega
  refine⟨st,Grew.refl hw,?_⟩;rw[Dw];simp[oa]
 |succ m ih=>
  intro k st hw hq hm h3 h4;by_cases h:k<p.rs.length
  . have w:av .i64 ((k:Int)+1)=((k+1:Nat):Int):=wrap64 (by omega) (by omega);have cV:Wf (ah st (.cells p.rs[k].cells 0)):=bG hw;have hg:=Grew.ah hw (.cells p.rs[k].cells 0);have hq1:=hg.get hq;have oI:=hg.get hm;have hn:=aA st (.cells p.rs[k].cells 0);obtain⟨n,hk⟩:∃n:Nat,p.rs[k].k=(n:Int):=⟨p.rs[k].k.toNat,by have:=(hr _ (Zb9 h)).1;omega⟩
    have hkc:=anT hc (kd n) (asK n) p hp hv p.rs[k] _ cV;have hS:uA p p.rs[k]=Sv (kd n) p p.rs[k]:=(by unfold uA;rw[hk];rfl);have RA:=λ(K:AV->St->Option (AV×St))=>asJ c K _ mp cl oI n
    have gI:=λ(K:AV->St->Option (AV×St))=>cE c K st 6 (.agg p.rs[k].cells) [.int .u8 0,.int .i64 0,.str [],.str [],.str [],.int .i64 0] rfl rfl (Rl.one _)
    rw[show(AV.agg p.rs[k].cells).cells=p.rs[k].cells from rfl]at gI;rw[<-hS]at hkc;rw[<-hk]at RA;obtain⟨st',g1,g2⟩:=ih (k+1) _ cV hq1 oI (by omega) (by omega);rw[Dw,oa,H0 h];simp only;by_cases h5:uA p p.rs[k]=0
    .   rw[Za7 (by simp[h5])];by_cases h6:k=64
        . refine⟨_,hg,?_⟩;rw[Zb2 h6];have h6i:decide ((k:Int)=64)=true:=(by simp only[Ze4];omega);simp[-cE,gI,iY,h,hq1,oI,RA,hkc,h5,h6i]
        . refine⟨st',hg.trans g1,?_⟩;rw[Za7 h6, <-g2];have h6i:¬(k:Int)=64:=(by omega);simp[-cE,gI,iY,h,hq1,oI,RA,hkc,h5,h6i,w]
    .   refine⟨_,hg,?_⟩;rw[Zb2 h5];simp[-cE,gI,iY,h,hq1,oI,RA,hkc,h5]
  . obtain rfl:k=p.rs.length:=(by omega);refine⟨st,Grew.refl hw,?_⟩;rw[Dw];simp[oa]
theorem ajr{p:cw}(h:(jE p).2=0):(bV p.ts).2=0:=by
 unfold jE at h;by_cases h1:(bV p.ts).2=0
 . exact h1
 . rw[Zb2 h1]at h;exact absurd h h1
theorem afR(hc:Sem c)(p:cw)(hp:p.GY)(hR:acW c p)(hr:∀r∈p.rs,r.Ok)(st:St)(hw:Wf st):c 56 [.agg p.cells] st=some (.tuple [.int .i64 (jY p).1,.int .i64 (jY p).2],st):=by
 have zJ:Plain (.tuple [.int .i64 (jY p).1,.int .i64 (jY p).2]):=Plain.tuple (by simp[Plain.int]);have cV:Wf (ah st (.cells p.cells 0)):=bG hw;have hg1:=Grew.ah hw (.cells p.cells 0);have j8:(ah st (.cells p.cells 0)).heap.get st.next=some (.cells p.cells 0):=aA _ _;have B:=aqt hc p hp hR _ cV;by_cases h:(jE p).2=0
 . have hv:=ajr h;have K:=aim hc (ah st (.cells p.cells 0));have tq:Wf (ah (ah st (.cells p.cells 0)) (.map E7 18)):=bG cV;have C9:=Grew.ah cV (.map E7 18);obtain⟨st',g1,g2⟩:=alN hc p hp hr hv st.next (ah st (.cells p.cells 0)).next 18 101 (λvs s50=>gW vs λx2 vs=>gW vs λx3 vs=>mo vs (
   some (.tuple [x2,x3],s50))) (λvs s51=>mo vs (
   aq c .move [(.int .i64 0)] s51 λx2 s52=>
 aq c .move [(.int .i64 0)] s52 λx3 s53=>
 some (.tuple [x2,x3],s53))) 100 0 _ tq (C9.get j8) (aA _ _) (by have:=hp.rs;omega) (by omega)
   have e:jY p=oa p 100 0:=(by unfold jY;rw[Za7 (by simp[h])]);have e0:=ajq h;rw[Qu hc 101 (r:=(.tuple [.int .i64 (jY p).1,.int .i64 (jY p).2],st')),aC zJ ((hg1.trans C9).trans g1).keeps];rw[Xm,e];simp at g2;simp[j8,B,h,K,g2];by_cases h2:(oa p 100 0).2=0
   . have:=aaa p 100 0 h2;simp[h2,this]
   . simp[h2]
 . have e:jY p=jE p:=(by unfold jY;rw[Zb2 h]);rw[Qu hc 101 (r:=(.tuple [.int .i64 (jY p).1,.int .i64 (jY p).2],ah st (.cells p.cells 0))),aC zJ hg1.keeps];rw[Xm,e];simp[j8,B,h]
def wl:List AV:=(List.range 19).map λi=> .str (kd i).w
end
section
set_option maxRecDepth 100000
set_option linter.unusedVariables false
open Go Go.Ai Go.Proofs
variable{c : aj}
end
section
set_option maxRecDepth 100000
open Go Go.Ai Go.Proofs
variable{c : aj}
end
section
set_option maxRecDepth 100000
open Go Go.Ai Go.Proofs
theorem GU{Q:List AV->Prop}{Qs:List (List AV->Prop)}{ps:List (List AV)}(h:R5 (Q::Qs) ps):∃p qs,ps=p::qs/\Q p/\R5 Qs qs:=by
 cases ps with
 |nil=>exact h.elim
 |cons p qs=>exact⟨p,qs,rfl,h⟩
theorem ahs{ps:List (List AV)}(h:R5 [] ps):ps=[]:=by
 cases ps with
 |nil=>rfl
 |cons p qs=>exact h.elim
section
variable{H : Type}{enc : TypeId × Value -> H}{w : World}{base : Nat}{spare : Nat -> Bool}{held : Bool}
end
variable{c : aj}
abbrev E0:Nat:=1048576
abbrev bU(i:Int):List AV:=[.int .i64 i]
abbrev SY(s:List Nat):List AV:=[.str s]
def aE.ax(t:aE)(v:AV):List AV:=[.str t.name,.int .u8 t.sh,.int .i64 t.a,.int .i64 t.b,v,.int .i64 t.x,.int .i64 t.y]
theorem aE.LD(t:aE){v:AV}(h:aS [v]=true):aS (t.ax v)=true:=by
 simp only[aS]at h;unfold aE.ax;simp only[aS,AV.one,h,Zk1,Zi5]at*
structure TS(s0 s:St)(V:AV)(ts:List aE)(rows:List (List AV)):Prop where
 out:Mk 7 s0 s V rows
 len:rows.length=ts.length
 eF:∀(i:Nat)(t:aE)(r:List AV),ts[i]? =some t->rows[i]? =some r->∃v,r=t.ax v/\Mk 1 s0 s v (t.ku.map bU)/\∀b,aM v=some b->aM V≠some b
structure GS(s0 s:St)(V:AV)(ts:List aV)(rows:List (List AV)):Prop where
 out:Mk 9 s0 s V rows
 len:rows.length=ts.length
 eF:∀(i:Nat)(t:aV)(r:List AV),ts[i]? =some t->rows[i]? =some r->∃v,r=t.ax v/\Mk 1 s0 s v (t.tg.map SY)/\∀b,aM v=some b->aM V≠some b
structure PS(s0 s:St)(Vs:List AV)(p:cw):Prop where
 ai:Grew s0 s
 all:∃V1 V2 V3 V4 V5 r1 r2,Vs=[V1,V2,V3,V4,V5]/\TS s0 s V1 p.ts r1/\GS s0 s V2 p.gs r2/\Mk 3 s0 s V3 (p.ys.map Ty.cells)/\Mk 1 s0 s V4 (p.cs.map bU)/\Mk 6 s0 s V5 (p.rs.map Rl.cells)
theorem TS.rQ{s0 s s':St}{V:AV}{ts:List aE}{rows:List (List AV)}(h:TS s0 s V ts rows)(hg:Grew s0 s')(hk:∀b x,s0.next.toNat<=b.toNat->(aM V=some b\/∃(i:Nat) (r:List AV) (v:AV),rows[i]? =some r/\r[4]? =some v/\aM v=some b)->s.heap.get b=some x->s'.heap.get b=some x):TS s0 s' V ts rows:=
 ⟨Mk.rQ h.out hg λb x hb hx=>hk b x (h.out.new b hb) (.inl hb) hx,h.len,λi t r hi hr=>by
  obtain⟨v,e1,e2,e3⟩:=h.eF i t r hi hr;exact⟨v,e1,Mk.rQ e2 hg λb x hb hx=>hk b x (e2.new b hb) (.inr ⟨i,r,v,hr,by rw[e1];rfl,hb⟩) hx,e3⟩⟩
theorem GS.rQ{s0 s s':St}{V:AV}{ts:List aV}{rows:List (List AV)}(h:GS s0 s V ts rows)(hg:Grew s0 s')(hk:∀b x,s0.next.toNat<=b.toNat->(aM V=some b\/∃(i:Nat) (r:List AV) (v:AV),rows[i]? =some r/\r[8]? =some v/\aM v=some b)->s.heap.get b=some x->s'.heap.get b=some x):GS s0 s' V ts rows:=
 ⟨Mk.rQ h.out hg λb x hb hx=>hk b x (h.out.new b hb) (.inl hb) hx,h.len,λi t r hi hr=>by
  obtain⟨v,e1,e2,e3⟩:=h.eF i t r hi hr;exact⟨v,e1,Mk.rQ e2 hg λb x hb hx=>hk b x (e2.new b hb) (.inr ⟨i,r,v,hr,by rw[e1];rfl,hb⟩) hx,e3⟩⟩
structure aE.Real(t:aE):Prop where
 name:∀x∈t.name,x<256
 ku:t.ku.length<=E0
structure aV.Real(g:aV):Prop where
 name:∀x∈g.name,x<256
 Ab:∀x∈g.Ab,x<256
 ke:∀x∈g.ke,x<256
 nG:∀x∈g.nG,x<256
 tg:g.tg.length<=E0
theorem TS.rU{s0 s1 s s':St}{V:AV}{ts:List aE}{rows:List (List AV)}(h:TS s1 s V ts rows)(h0:Wf s0)(Nt:Grew s0 s1)(hg:Grew s0 s')(hk:∀q b,s1.next.toNat<=q.toNat->s.heap.get q=some b->s'.heap.get q=some b):TS s0 s' V ts rows:=
 ⟨Mk.rU h.out h0 Nt hg hk,h.len,λi t r hi hr=>by obtain⟨v,e1,e2,e3⟩:=h.eF i t r hi hr;exact⟨v,e1,Mk.rU e2 h0 Nt hg hk,e3⟩⟩
theorem GS.rU{s0 s1 s s':St}{V:AV}{ts:List aV}{rows:List (List AV)}(h:GS s1 s V ts rows)(h0:Wf s0)(Nt:Grew s0 s1)(hg:Grew s0 s')(hk:∀q b,s1.next.toNat<=q.toNat->s.heap.get q=some b->s'.heap.get q=some b):GS s0 s' V ts rows:=
 ⟨Mk.rU h.out h0 Nt hg hk,h.len,λi t r hi hr=>by obtain⟨v,e1,e2,e3⟩:=h.eF i t r hi hr;exact⟨v,e1,Mk.rU e2 h0 Nt hg hk,e3⟩⟩
structure cw.Real(p:cw):Prop where
 ts:p.ts.length<=1000
 tab:∀t∈p.ts,t.Real
 gs:p.gs.length<=1000
 pV:∀t∈p.gs,t.Real
 ys:p.ys.length<=E0
 cs:p.cs.length<=E0
 rs:p.rs.length<=E0
theorem Hw{R:Type}{p:Pos}{o:Nat}{h:T AB}{v:AV}(hv:((cellsOf (h.get p)).bind λcs=>cs[o]?)=some v)(ok:AV->Bool)(cJ:ok v=true)(K:AV->Option R):jt (.load none) [.ptr p o] h ok K=K v:=by
 unfold jt;have e:aH.run (λ_=>none) .h (.load none) [.ptr p o]=none:=rfl;rw[e];simp only;rw[tD,hv];simp only[Ze6];rw[cJ]
theorem LS{p:Pos}{o:Nat}{h:T AB}{v:AV}(hv:((cellsOf (h.get p)).bind λcs=>cs[o]?)=some v)(hb:eM v v=true):pn (.load none) [.ptr p o] v (nJ [] h)=true:=by unfold pn;show(match aH.run (λb=>h.get b) .h (.load none) [.ptr p o]with|some (.val u)=>eM u v|_=>false)=true;rw[tD,hv];exact hb
variable{c : aj}
abbrev Sm(v:Int):Prop:=0<=v/\v<=1000000
def alO(a x y:Int):Bool:=decide (y - x=1)||decide (y - x=a - 1)
def alP(a x y:Int):Bool:=decide (a.tmod 2=0)&&decide (y - x=a.tdiv 2)
def IJ(a b:Int):Int:=a+min b 1
def alQ(a b x y:Int):Bool:=
 bif decide (b=2)&&decide (y=2*a+1)then decide (x=0)||decide (x=y - 1)
 else bif decide (0<b)&&(decide (x=a)||decide (y=a))then decide (y - x=1)else decide (y - x=1)&&(decide (y<a)||decide (IJ a b<=x))
def alR(a b x y:Int):Bool:=bif decide (b=2)&&decide (y=2*a+1)then decide (x=a)else decide (x<a)&&decide (x+y=IJ a b+a - 1)
def alS(x y:Int):Bool:=decide (y - x=1)
def alT(a b x y:Int):Bool:=decide (x<b)&&decide (x+y=a+2*b - 1)
def alU(b x y:Int):Bool:=decide (y - x=1)&&(decide (b=0)|| !decide (y.tmod b=0))
theorem aed(hc:Sem c)(a b x y:Int)(ha:Sm a)(hx:Sm x)(hy:Sm y)(st:St):
  c 205 [.int .i64 a,.int .i64 b,.int .i64 x,.int .i64 y] st=some (.bool (alO a x y),st):=by
 have w1:av .i64 (y - x)=y - x:=wrap64 (by omega) (by omega);have w2:av .i64 (a - 1)=a - 1:=wrap64 (by omega) (by omega);rw[S6 hc 1 (r:=(.bool (alO a x y),st)),aC (Plain.bool _) (aW.refl st)];rw[Xn];unfold alO;cases h:decide (y - x=1)<;>simp[w1,w2,h]
theorem aee(hc:Sem c)(a b x y:Int)(ha:Sm a)(hx:Sm x)(hy:Sm y)(st:St):
  c 206 [.int .i64 a,.int .i64 b,.int .i64 x,.int .i64 y] st=some (.bool (alP a x y),st):=by
 have w1:av .i64 (y - x)=y - x:=wrap64 (by omega) (by omega);have hq:0<=a.tdiv 2/\a.tdiv 2<=1000000:=by rw[Zi0 ha.1];omega
 have w2:av .i64 (a.tdiv 2)=a.tdiv 2:=wrap64 (by omega) (by omega);rw[S7 hc 1 (r:=(.bool (alP a x y),st)),aC (Plain.bool _) (aW.refl st)];rw[Xo];unfold alP;cases h:decide (a.tmod 2=0)<;>simp[w1,w2,h]
theorem akn(hc:Sem c)(a b:Int)(ha:Sm a)(hb:Sm b)(st:St):c 238 [.int .i64 a,.int .i64 b] st=some (.int .i64 (IJ a b),st):=by
 have w1:av .i64 (a+min b 1)=a+min b 1:=wrap64 (by omega) (by omega);rw[aio hc 1 (r:=(.int .i64 (IJ a b),st)),aC (Plain.int _ _) (aW.refl st)];rw[alV];unfold IJ;simp[w1]
theorem afS (hc:Sem c)(a b x y:Int)(ha:Sm a)(hb:Sm b)(hx:Sm x)(hy:Sm y)(st:St):
   c 210 [.int .i64 a,.int .i64 b,.int .i64 x,.int .i64 y] st=some (.bool (alQ a b x y),st):=by
 have w1:av .i64 (y - x)=y - x:=wrap64 (by omega) (by omega);have w2:av .i64 (y - 1)=y - 1:=wrap64 (by omega) (by omega);have w3:av .i64 (2*a)=2*a:=wrap64 (by omega) (by omega);have w4:av .i64 (2*a+1)=2*a+1:=wrap64 (by omega) (by omega);have t:=akn hc a b ha hb st;rw[Vb hc 1 (r:=(.bool (alQ a b x y),st)),aC (Plain.bool _) (aW.refl st)];rw[Zu];unfold alQ;cases h1:decide (b=2)
 . cases  h4:decide (0<b)
   . cases h7:decide (y - x=1)
     .  simp[w1,w2,w3,w4,t,h1,h4,h7]
     .  cases h8:decide (y<a)<;>simp[w1,w2,w3,w4,t,h1,h4,h7,h8]
   . cases h5:decide (x=a)
     .  cases h6:decide (y=a)
        . cases h7:decide (y - x=1)
          . simp[w1,w2,w3,w4,t,h1,h4,h5,h6,h7]
          . cases h8:decide (y<a)<;>simp[w1,w2,w3,w4,t,h1,h4,h5,h6,h7,h8]
        . simp[w1,w2,w3,w4,t,h1,h4,h5,h6]
     .  simp[w1,w2,w3,w4,t,h1,h4,h5]
 . cases  h2:decide (y=2*a+1)
   . cases  h4:decide (0<b)
     .  simp at h1 h4;omega
     .  cases h5:decide (x=a)
        . cases h6:decide (y=a)
          . cases h7:decide (y - x=1)
            . simp[w1,w2,w3,w4,t,h1,h2,h4,h5,h6,h7]
            . cases h8:decide (y<a)<;>simp[w1,w2,w3,w4,t,h1,h2,h4,h5,h6,h7,h8]
          . simp[w1,w2,w3,w4,t,h1,h2,h4,h5,h6]
        . simp[w1,w2,w3,w4,t,h1,h2,h4,h5]
   . cases h3:decide (x=0)<;>simp[w1,w2,w3,w4,t,h1,h2,h3]
theorem afT(hc:Sem c)(a b x y:Int)(ha:Sm a)(hb:Sm b)(hx:Sm x)(hy:Sm y)(st:St):
   c 211 [.int .i64 a,.int .i64 b,.int .i64 x,.int .i64 y] st=some (.bool (alR a b x y),st):=by
 have w1:av .i64 (x+y)=x+y:=wrap64 (by omega) (by omega);have w3:av .i64 (2*a)=2*a:=wrap64 (by omega) (by omega);have w4:av .i64 (2*a+1)=2*a+1:=wrap64 (by omega) (by omega);have hT:0<=IJ a b/\IJ a b<=1000001:=by unfold IJ;omega
 have w5:av .i64 (IJ a b+a)=IJ a b+a:=wrap64 (by omega) (by omega);have w6:av .i64 (IJ a b+a - 1)=IJ a b+a - 1:=wrap64 (by omega) (by omega);have t:=akn hc a b ha hb st;rw[Vc hc 1 (r:=(.bool (alR a b x y),st)),aC (Plain.bool _) (aW.refl st)];rw[Zv];unfold alR;cases h1:decide (b=2)
 . cases h3:decide (x<a)<;>simp[w1,w3,w4,w5,w6,t,h1,h3]
 . cases h2:decide (y=2*a+1)
   . cases h3:decide (x<a)<;>simp[w1,w3,w4,w5,w6,t,h1,h2,h3]
   . simp[w1,w3,w4,t,h1,h2]
theorem afU(hc:Sem c)(a b x y:Int)(hx:Sm x)(hy:Sm y)(st:St):
  c 215 [.int .i64 a,.int .i64 b,.int .i64 x,.int .i64 y] st=some (.bool (alS x y),st):=by
 have w1:av .i64 (y - x)=y - x:=wrap64 (by omega) (by omega);rw[Vd hc 1 (r:=(.bool (alS x y),st)),aC (Plain.bool _) (aW.refl st)];rw[Zw];unfold alS;simp[w1]
theorem afV(hc:Sem c)(a b x y:Int)(ha:Sm a)(hb:Sm b)(hx:Sm x)(hy:Sm y)(st:St):
  c 216 [.int .i64 a,.int .i64 b,.int .i64 x,.int .i64 y] st=some (.bool (alT a b x y),st):=by
 have w1:av .i64 (x+y)=x+y:=wrap64 (by omega) (by omega);have w2:av .i64 (2*b)=2*b:=wrap64 (by omega) (by omega);have w3:av .i64 (a+2*b)=a+2*b:=wrap64 (by omega) (by omega);have w4:av .i64 (a+2*b - 1)=a+2*b - 1:=wrap64 (by omega) (by omega);rw[Ve hc 1 (r:=(.bool (alT a b x y),st)),aC (Plain.bool _) (aW.refl st)];rw[Zx];unfold alT;cases h:decide (x<b)<;>simp[w1,w2,w3,w4,h]
theorem aip(hc:Sem c)(a b x y:Int)(hx:Sm x)(hy:Sm y)(st:St):
   c 220 [.int .i64 a,.int .i64 b,.int .i64 x,.int .i64 y] st=some (.bool (alU b x y),st):=by
 have w1:av .i64 (y - x)=y - x:=wrap64 (by omega) (by omega);rw[Xp hc 1 (r:=(.bool (alU b x y),st)),aC (Plain.bool _) (aW.refl st)];rw[abr];unfold alU;cases h:decide (y - x=1)
 . simp[w1,h]
 . cases h2:decide (b=0)
   . have hb:b≠0:=(by simpa using h2);simp[w1,h,h2,adI _ _ _ _ _ _ _ hb]
   . simp[w1,h,h2]
theorem auX(hc:Sem c)(a b x y:Int)(st:St):c 221 [.int .i64 a,.int .i64 b,.int .i64 x,.int .i64 y] st=some (.bool false,st):=by rw[Vf hc 1 (r:=(.bool false,st)),aC (Plain.bool _) (aW.refl st)];rw[Zy];simp
variable{c : aj}
structure aE.Fit(t:aE):Prop where
 sh:1<=t.sh/\t.sh<=4
 a:0<=t.a/\t.a<=24
 b:0<=t.b/\t.b<=24
theorem acX{t:aE}(h:bJ t≠0):t.Fit:=by
 unfold bJ at h;split at h
 . split at h
   . exact⟨by omega,by omega,by omega⟩
   . exact absurd rfl h
 split at h
 . split at h
   . exact⟨by omega,by omega,by omega⟩
   . exact absurd rfl h
 split at h
 . split at h
   . exact⟨by omega,by omega,by omega⟩
   . exact absurd rfl h
 split at h
 . split at h
   . exact⟨by omega,by omega,by omega⟩
   . exact absurd rfl h
 . exact absurd rfl h
def OC(t:aE)(x y:Int):Bool:=
 !decide (x=y)&&(if t.sh=1 then alO t.a (min x y) (max x y)else if t.sh=2 then alQ t.a t.b (min x y) (max x y)else if t.sh=3 then alS (min x y) (max x y)else alU t.b (min x y) (max x y))
def S8(t:aE)(x y:Int):Bool:=
 !decide (x=y)&&(if t.sh=1 then alP t.a (min x y) (max x y)else if t.sh=2 then alR t.a t.b (min x y) (max x y)else if t.sh=3 then alT t.a t.b (min x y) (max x y)else false)
def Ad(t:aE)(x y:Int):Bool:=OC t x y||S8 t x y
theorem afb(hc:Sem c)(t:aE)(ht:t.Fit)(x y:Int)(hx:Sm x)(hy:Sm y)(st:St)(hw:Wf st):
   c 126 [.agg t.cells,.int .i64 x,.int .i64 y] st=some (.bool (OC t x y),st):=by
 have hm:Sm (min x y):=by omega
 have hM:Sm (max x y):=by omega
 obtain⟨⟨s1,s2⟩,⟨a1,a2⟩,b1,b2⟩:=ht;rw[acY hc 1 (r:=(.bool (OC t x y),ah (ah st (.cells t.cells 0)) (.cells (ic t.sh) 0))),aC (Plain.bool _) ((cq hw).trans (cq (bG hw)))];rw[afW];obtain⟨name,sh,a,b,oz,ku,tx,ty⟩:=t;simp only at s1 s2 a1 a2 b1 b2;have ha:Sm a:=by omega
 have hb:Sm b:=by omega
 have hS:sh=1\/sh=2\/sh=3\/sh=4:=by omega
 cases h:decide (x=y)
 . rcases hS with rfl|rfl|rfl|rfl
   . simp[aE.cells,AV.cells,fO hc,hw,OC,ic,aS,AV.one,h,aed hc a b _ _ ha hm hM]
   . simp[aE.cells,AV.cells,fO hc,hw,OC,ic,aS,AV.one,h,afS hc a b _ _ ha hb hm hM]
   . simp[aE.cells,AV.cells,fO hc,hw,OC,ic,aS,AV.one,h,afU hc a b _ _ hm hM]
   . simp[aE.cells,AV.cells,fO hc,hw,OC,ic,aS,AV.one,h,aip hc a b _ _ hm hM]
 . rcases hS with rfl|rfl|rfl|rfl<;>simp[aE.cells,AV.cells,fO hc,hw,OC,ic,aS,AV.one,h]
theorem afc(hc:Sem c)(t:aE)(ht:t.Fit)(x y:Int)(hx:Sm x)(hy:Sm y)(st:St)(hw:Wf st):
   c 127 [.agg t.cells,.int .i64 x,.int .i64 y] st=some (.bool (S8 t x y),st):=by
 have hm:Sm (min x y):=by omega
 have hM:Sm (max x y):=by omega
 obtain⟨⟨s1,s2⟩,⟨a1,a2⟩,b1,b2⟩:=ht;rw[acZ hc 1 (r:=(.bool (S8 t x y),ah (ah st (.cells t.cells 0)) (.cells (ic t.sh) 0))),aC (Plain.bool _) ((cq hw).trans (cq (bG hw)))];rw[afX];obtain⟨name,sh,a,b,oz,ku,tx,ty⟩:=t;simp only at s1 s2 a1 a2 b1 b2;have ha:Sm a:=by omega
 have hb:Sm b:=by omega
 have hS:sh=1\/sh=2\/sh=3\/sh=4:=by omega
 cases h:decide (x=y)
 . rcases hS with rfl|rfl|rfl|rfl
   . simp[aE.cells,AV.cells,fO hc,hw,S8,ic,aS,AV.one,h,aee hc a b _ _ ha hm hM]
   . simp[aE.cells,AV.cells,fO hc,hw,S8,ic,aS,AV.one,h,afT hc a b _ _ ha hb hm hM]
   . simp[aE.cells,AV.cells,fO hc,hw,S8,ic,aS,AV.one,h,afV hc a b _ _ ha hb hm hM]
   . simp[aE.cells,AV.cells,fO hc,hw,S8,ic,aS,AV.one,h,auX hc]
 . rcases hS with rfl|rfl|rfl|rfl<;>simp[aE.cells,AV.cells,fO hc,hw,S8,ic,aS,AV.one,h]
theorem asL(hc:Sem c)(t:aE)(ht:t.Fit)(x y:Int)(hx:Sm x)(hy:Sm y)(st:St)(hw:Wf st):
  c 224 [.agg t.cells,.int .i64 x,.int .i64 y] st=some (.bool (Ad t x y),st):=by
 have hp:=aA st (.cells t.cells 0);have B:=afb hc t ht x y hx hy _ (bG (b:= .cells t.cells 0) hw);have A:=afc hc t ht x y hx hy _ (bG (b:= .cells t.cells 0) hw);rw[afY hc 1 (r:=(.bool (Ad t x y),ah st (.cells t.cells 0))),aC (Plain.bool _) (cq hw)];rw[ajs];unfold Ad;cases h:OC t x y<;>simp[hp,B,A,h,aE.len]
def Xq:List aE->Int->Nat->Option (Nat×Int)
 |[],_,_=>none
 |t::ts,s,i=>if s<bJ t then some (i,s)else Xq ts (s - bJ t) (i+1)
theorem aiq:∀{ts:List aE}{s:Int}{i:Nat}{k:Nat}{x:Int},0<=s->Xq ts s i=some (k,x)->i<=k/\0<=x/\∃t,ts[k - i]? =some t/\x<bJ t
 |[],_,_,_,_,_,h=>by cases h
 |t ::ts,s,i,k,x,hs,h=>by
  unfold Xq at h;split at h
  . simp only[H5,Zd0]at h;obtain⟨rfl,rfl⟩:=h;exact⟨Za3 _,hs,t,by simp,by assumption⟩
  . obtain⟨h1,h2,t',h3,h4⟩:=aiq (by omega) h;refine⟨by omega,h2,t',?_,h4⟩;rw[show k - i=(k - (i+1))+1 by omega,Zb7];exact h3
def Fc:Option (Nat×Int)->AV
 |some (i,x)=> .tuple [.int .i64 (i:Int),.int .i64 x,.bool true]
 |none=> .tuple [.int .i64 0,.int .i64 0,.bool false]
theorem afd(o:Option (Nat×Int)):Plain (Fc o):=by
 cases o with
 |none=>exact Plain.tuple λv hv=>by simp at hv;rcases hv with rfl|rfl|rfl<;>first|exact Plain.int _ _|exact Plain.bool _
 |some p=>exact Plain.tuple λv hv=>by simp at hv;rcases hv with rfl|rfl|rfl<;>first|exact Plain.int _ _|exact Plain.bool _
def Fe(ts:List aE)(s:Int):Option (Nat×Int):=if s<0\/(bV ts).2≠0 then none else Xq ts s 0
theorem alW(hc:Sem c)(z:Bool)(ts:List aE)(hl:ts.length<=16)(F:Nat)(k1 k2):∀(m k:Nat)(s:Int)(st:St),Wf st->ts.length<=k+m->k<=ts.length->0<=s->s<=4611686018427387904->
  ∃ st',Grew st st'/\sV c F k1 k2 (m+1) [.int .i64 s,tabs z ts,.int .i64 (ts.length:Int),.int .i64 (k:Int)] st=
    (match Xq (ts.drop k) s k with|some (i,x)=>k1 [.int .i64 (i:Int),.int .i64 x,.bool true] st'|none=>k2 [] st'):=by
 intro m;induction m with
 |zero=>
  intro k s st hw h1 h2 h3 h4;obtain rfl:k=ts.length:=by omega
  refine⟨st,Grew.refl hw,?_⟩;rw[ye];simp[Xq]
 |succ m ih=>
  intro k s st hw h1 h2 h3 h4;by_cases h:k<ts.length
  . have w:av .i64 ((k:Int)+1)=((k+1:Nat):Int):=wrap64 (by omega) (by omega);have cV:Wf (ah st (.cells ts[k].cells 0)):=bG hw;have hg:=Grew.ah hw (.cells ts[k].cells 0);have hs:=Ql hc ts[k] _ cV;have b2:=AQ ts[k];have w2:av .i64 (s - bJ ts[k])=s - bJ ts[k]:=wrap64 (by omega) (by omega);rw[Zd1 h];unfold Xq;by_cases aT:s<bJ ts[k]
    .   refine⟨_,hg,?_⟩;rw[ye];simp[tabs,h,hs,aT,aE.len]
    .   obtain⟨st',g1,g2⟩:=ih (k+1) (s - bJ ts[k]) _ cV (by omega) (by omega) (by omega) (by omega);refine⟨st',hg.trans g1,?_⟩;simp only[aT,Zh0];rw[<-g2,ye];simp[tabs,h,hs,w,w2,aT,aE.len]
  . obtain rfl:k=ts.length:=(by omega);refine⟨st,Grew.refl hw,?_⟩;rw[ye];simp[Xq]
theorem S9(hc:Sem c)(z:Bool)(ts:List aE)(cJ:∀t∈ts,t.Ok)(s:Int)(hs:s<=4611686018427387904)(st:St)(hw:Wf st):
   c 123 [tabs z ts,.int .i64 s] st=some (Fc (Fe ts s),st):=by
 have lT:∀(K:AV->St->Option (AV×St))(s:St),aq c (.lenB .l) [tabs z ts] s K=K (.int .i64 (ts.length:Int)) s:=λK s=>by unfold tabs;rw[jv];simp
 have hv:=SQ hc z ts cJ st hw;by_cases h:s<0\/(bV ts).2≠0
 . have e:Fe ts s=none:=(by rw[Fe,Zb2 h]);rw[Qv hc 1 (r:=(Fc (Fe ts s),st)),aC (afd _) (aW.refl st)];rw[Xr,e];by_cases h1:s<0
   . simp[h1,Fc]
   . have h3:(bV ts).2≠0:=h.resolve_left h1;simp[h1,h3,hv,Fc]
 . have e:Fe ts s=Xq ts s 0:=(by rw[Fe,Za7 h]);have h1:¬s<0:=λe=>h (.inl e)
   have h3:(bV ts).2=0:=Zl0 λe=>h (.inr e)
   have hl:=NH h3;have hex:=λk1 k2=>alW hc z ts hl 20 k1 k2 19 0 s st hw (by omega) (by omega) (by omega) hs
   obtain⟨st',hg,L⟩:=hex (λvs s40=>gW vs λx4 vs=>gW vs λx5 vs=>gW vs λx6 vs=>mo vs (some (.tuple [x4,x5,x6],s40)))
     (λvs s41=>mo vs (aq c .move [.int .i64 0] s41 λx4 s42=>aq c .move [.int .i64 0] s42 λx5 s43=>aq c .move [.bool false] s43 λx6 s44=>some (.tuple [x4,x5,x6],s44)))
   rw[Qv hc 20 (r:=(Fc (Fe ts s),st')),aC (afd _) hg.keeps];rw[Xr,e]
   have L':sV c 20 (λvs s40=>gW vs λx4 vs=>gW vs λx5 vs=>gW vs λx6 vs=>mo vs (some (.tuple [x4,x5,x6],s40)))
     (fun vs s41=>mo vs (aq c .move [.int .i64 0] s41 fun x4 s42=>aq c .move [.int .i64 0] s42 fun x5 s43=>aq c .move [.bool false] s43 fun x6 s44=>some (.tuple [x4,x5,x6],s44))) 20
        [.int .i64 s,tabs z ts,.int .i64 (ts.length:Int),.int .i64 0] st=some (Fc (Xq ts s 0),st'):=by
     have:=L;simp only[Ze2]at this;rw[show((0:Nat):Int)=0 from rfl]at this;rw[this];cases Xq ts s 0 with
     |none=>simp[Fc]
     |some p=>simp[Fc]
   simp at L';simp[h1,h3,hv,lT,L']
def qE(ts:List aE)(a b:Int):Option (aE×Int×Int):=match Fe ts a,Fe ts b with
 |some (i,x),some (k,y)=>if i=k then(ts[i]?).map λt=>(t,x,y)else none
 |_,_=>none
def zT:aE:=⟨[],0,0,0,true,[],0,0⟩
def Bq:Option (aE×Int×Int)->AV
 |some (t,x,y)=> .tuple [.agg t.cells,.int .i64 x,.int .i64 y,.bool true]
 |none=> .tuple [.agg zT.cells,.int .i64 0,.int .i64 0,.bool false]
theorem aab(ts:List aE):∀(m k:Nat),ts.length<=k+m->(iE ts m k).2=0->∀(i:Nat)(t:aE),k<=i->ts[i]? =some t->sK t=0
 |0,k,h1,_,i,t,h3,h4=>by rw[Zc1 (by omega)]at h4;cases h4
 |m +   1,k,h1,h2,i,t,h3,h4=>by
  have hk:k<ts.length:=by have:=(Za2.1 h4).1;omega
  rw[iE,H0 hk]at h2;simp only at h2;by_cases h5:sK ts[k]=0
  . rw[Za7 (by simpa using h5)]at h2;split at h2
    .   simp at h2
    .   by_cases h6:i=k
        . subst h6;rw[H0 hk]at h4;cases h4;exact h5
        . exact aab ts m (k+1) (by omega) h2 i t (by omega) h4
  . rw[Zb2 h5]at h2;exact absurd h2 h5
theorem afe{ts:List aE}(h:(bV ts).2=0){i:Nat}{t:aE}(ht:ts[i]? =some t):sK t=0:=by
 unfold bV at h;split at h
 . simp at h
 . exact aab ts _ 0 (by omega) h i t (by omega) ht
theorem anU{t:aE}(h:sK t=0):bJ t≠0:=by
 unfold sK at h;split at h
 . cases h
 . split at h
   . cases h
   . assumption
theorem LU{ts:List aE}{s:Int}{i:Nat}{x:Int}(h:Fe ts s=some (i,x)):(bV ts).2=0/\0<=x/\∃t,ts[i]? =some t/\x<bJ t/\t.Fit:=by
 unfold Fe at h;split at h
 . cases h
 . (rename_i hn;have h1:¬s<0:=λe=>hn (.inl e));have h3:(bV ts).2=0:=Zl0 λe=>hn (.inr e)
   obtain⟨_,q2,t,q3,q4⟩:=aiq (by omega) h;exact⟨h3,q2,t,q3,q4,acX (anU (afe h3 q3))⟩
theorem ac0{ts:List aE}{a b:Int}{t:aE}{x y:Int}(h:qE ts a b=some (t,x,y)):t.Fit/\Sm x/\Sm y:=by
 unfold qE at h;split at h
 . rename_i i x' k y' h1 h2;split at h
   . rename_i hk;subst hk;obtain⟨_,p1,t1,p2,p3,p4⟩:=LU h1;obtain⟨_,q1,t2,q2,q3,_⟩:=LU h2;rw[p2]at q2 h;cases q2;simp only[Ze6,H5,Zd0]at h;obtain⟨rfl,rfl,rfl⟩:=h;have:=AQ t1;exact⟨p4,by omega,by omega⟩
   . cases h
 . cases h
theorem ajt(o:Option (aE×Int×Int)):Plain (Bq o):=by
 cases o with
 |none=>exact Plain.tuple λv hv=>by simp at hv;rcases hv with rfl|rfl|rfl|rfl<;>first|exact Plain.agg (by intro v hv;simp only[aE.cells,Zb0,Zc5,Zf3]at hv;rcases hv with rfl|rfl|rfl|rfl|rfl|rfl|rfl<;>first|exact Plain.str _|exact Plain.int _ _|exact acG _ _)|exact Plain.int _ _|exact Plain.bool _
 |some p=>exact Plain.tuple λv hv=>by simp at hv;rcases hv with rfl|rfl|rfl|rfl<;>first|exact Plain.agg (by intro v hv;simp only[aE.cells,Zb0,Zc5,Zf3]at hv;rcases hv with rfl|rfl|rfl|rfl|rfl|rfl|rfl<;>first|exact Plain.str _|exact Plain.int _ _|exact acG _ _)|exact Plain.int _ _|exact Plain.bool _
def Br:Option (aE×Int×Int)->List AV
 |some (t,_,_)=>t.cells
 |none=>zT.cells
theorem air(hc:Sem c)(z:Bool)(ts:List aE)(cJ:∀t∈ts,t.Ok)(a b:Int)(ha:a<=4611686018427387904)(hb:b<=4611686018427387904)(st:St)(hw:Wf st):
  c 125 [tabs z ts,.int .i64 a,.int .i64 b] st=some (Bq (qE ts a b),st):=by
 have cV:Wf (ah st (.cells [.str [],.int .u8 0,.int .i64 0,.int .i64 0,.af,.int .i64 0,.int .i64 0] 0)):=bG hw;have hcut:cut [AV.str [],.int .u8 0,.int .i64 0,.int .i64 0,.af,.int .i64 0,.int .i64 0] 0 7=some [AV.str [],.int .u8 0,.int .i64 0,.int .i64 0,.af,.int .i64 0,.int .i64 0]:=rfl;have Wa:=S9 hc z ts cJ a ha _ cV;have Wb:=S9 hc z ts cJ b hb _ cV;rw[afZ hc 1 (r:=(Bq (qE ts a b),ah st (.cells (Br (qE ts a b)) 0))),aC (ajt _) (cq hw)];rw[aju];cases h1:Fe ts a with
 |none=>
  have e:qE ts a b=none:=by unfold qE;rw[h1]
  rw[h1]at Wa;rw[e];cases h2:Fe ts b with
  |none=>rw[h2]at Wb;simp[Wa,Wb,Fc,Bq,Br,zT,aE.cells,AV.cells,ints,ro,aS,AV.one,cF,hcut]
  |some q=>rw[h2]at Wb;simp[Wa,Wb,Fc,Bq,Br,zT,aE.cells,AV.cells,ints,ro,aS,AV.one,cF,hcut]
 |some p=>
  obtain⟨i,x⟩:=p;rw[h1]at Wa;cases h2:Fe ts b with
  |none=>
   have e:qE ts a b=none:=(by unfold qE;rw[h1,h2]);rw[h2]at Wb;rw[e];simp[Wa,Wb,Fc,Bq,Br,zT,aE.cells,AV.cells,ints,ro,aS,AV.one,cF,hcut]
  |some q=>
   obtain⟨k,y⟩:=q;rw[h2]at Wb;obtain⟨_,p1,t1,p2,p3,p4⟩:=LU h1;by_cases hk:i=k
   .    subst hk;have e:qE ts a b=some (t1,x,y):=(by unfold qE;rw[h1,h2];simp[p2]);obtain⟨hi,hg⟩:=Za2.1 p2;rw[e];subst hg;unfold tabs at Wa Wb ⊢;simp[Wa,Wb,Fc,Bq,Br,hi,aE.len]
   .    have e:qE ts a b=none:=(by unfold qE;rw[h1,h2];simp[hk]);have uq:¬(i:Int)=(k:Int):=(by omega);rw[e];simp[Wa,Wb,Fc,uq,Bq,Br,zT,aE.cells,AV.cells,ints,ro,aS,AV.one,cF,hcut]
def Xs(ts:List aE)(a b:Int):Bool:=match qE ts a b with|some (t,x,y)=>OC t x y|none=>false
def Xt(ts:List aE)(a b:Int):Bool:=match qE ts a b with|some (t,x,y)=>S8 t x y|none=>false
theorem anV(hc:Sem c)(z:Bool)(ts:List aE)(cJ:∀t∈ts,t.Ok)(a b:Int)(ha:a<=4611686018427387904)(hb:b<=4611686018427387904)(st:St)(hw:Wf st):
  c 64 [tabs z ts,.int .i64 a,.int .i64 b] st=some (.bool (Xs ts a b),st):=by
 have P:=air hc z ts cJ a b ha hb st hw;rw[ac1 hc 1 (r:=(.bool (Xs ts a b),ah st (.cells (Br (qE ts a b)) 0))),aC (Plain.bool _) (cq hw)];rw[af0];unfold Xs;cases h:qE ts a b with
 |none=>rw[h]at P;simp[P,Bq,Br,aE.len]
 |some p=>
  obtain⟨t,x,y⟩:=p;obtain⟨q1,q2,q3⟩:=ac0 h;have B:=afb hc t q1 x y q2 q3 (ah st (.cells t.cells 0)) (bG hw);rw[h]at P;simp[P,Bq,Br,aE.len,B]
theorem anW(hc:Sem c)(z:Bool)(ts:List aE)(cJ:∀t∈ts,t.Ok)(a b:Int)(ha:a<=4611686018427387904)(hb:b<=4611686018427387904)(st:St)(hw:Wf st):
  c 66 [tabs z ts,.int .i64 a,.int .i64 b] st=some (.bool (Xt ts a b),st):=by
 have P:=air hc z ts cJ a b ha hb st hw;rw[ac2 hc 1 (r:=(.bool (Xt ts a b),ah st (.cells (Br (qE ts a b)) 0))),aC (Plain.bool _) (cq hw)];rw[af1];unfold Xt;cases h:qE ts a b with
 |none=>rw[h]at P;simp[P,Bq,Br,aE.len]
 |some p=>
  obtain⟨t,x,y⟩:=p;obtain⟨q1,q2,q3⟩:=ac0 h;have B:=afc hc t q1 x y q2 q3 (ah st (.cells t.cells 0)) (bG hw);rw[h]at P;simp[P,Bq,Br,aE.len,B]
def yV(x:Int):List Int->Nat->Int
 |[],_=> -1
 |y::l,i=>if x=y then(i:Int)else yV x l (i+1)
theorem ako{x:Int}:∀(l:List Int)(i:Nat),(0<=yV x l i)↔x∈l
 |[],i=>by simp[yV]
 |y::l,i=>by
  unfold yV;by_cases h:x=y
  . simp[h]
  . rw[Za7 h,ako l (i+1)];simp[h]
theorem anX(x:Int)(z:Bool)(l:List Int)(hl:l.length<wP)(F:Nat)(st:St)(k1 k2):∀(m k:Nat),l.length<=k+m->k<=l.length->
  iq c F k1 k2 (m+1) [ints z l,.int .i64 x,.int .i64 (l.length:Int),.int .i64 (k:Int)] st=
    if 0<=yV x (l.drop k) k then k1 [.int .i64 (yV x (l.drop k) k)] st else k2 [] st:=by
 intro m;induction m with
 |zero=>
  intro k h1 h2;obtain rfl:k=l.length:=by omega
  rw[iZ];simp[yV]
 |succ m ih=>
  intro k h1 h2;rw[iZ];by_cases h:k<l.length
  . have w:av .i64 ((k:Int)+1)=((k+1:Nat):Int):=wrap64 (by omega) (by unfold wP at hl;omega);rw[Zd1 h,yV];by_cases h3:x=l[k]
    .   subst h3;simp[ints,h]
    .   have:=ih (k+1) (by omega) (by omega);simp only[h3,Zh0];rw[<-this];simp[ints,h,h3,w]
  . obtain rfl:k=l.length:=(by omega);simp[yV]
theorem anY(hc:Sem c)(z:Bool)(l:List Int)(hl:l.length<wP)(x:Int)(st:St):c 138 [ints z l,.int .i64 x] st=some (.int .i64 (yV x l 0),st):=by
 have lI:∀(K:AV->St->Option (AV×St))(s:St),aq c (.lenB .l) [ints z l] s K=K (.int .i64 (l.length:Int)) s:=λK s=>by unfold ints;rw[jv];simp
 have L:=λk1 k2=>anX (c:=c) x z l hl (l.length+1) st k1 k2 l.length 0 (by omega) (by omega)
 simp only[Ze2]at L;rw[LV hc (l.length+1) (r:=(.int .i64 (yV x l 0),st)),aC (Plain.int _ _) (aW.refl st)];rw[AO];simp only[ay,lI];rw[show(0:Int)=((0:Nat):Int)from rfl,L];by_cases h:0<=yV x l 0
 . simp[h]
 . have:yV x l 0= -1:=by
    have:∀(l:List Int)(i:Nat),0<=yV x l i\/yV x l i= -1:=by
        intro l;induction l with
        |nil=>intro i;exact .inr rfl
        |cons y l ih=>intro i;unfold yV;split;exact .inl (by omega);exact ih _
    exact(this l 0).resolve_left h
   simp[h,this]
theorem ais(hc:Sem c)(z:Bool)(l:List Int)(hl:l.length<wP)(x:Int)(st:St):c 73 [ints z l,.int .i64 x] st=some (.bool (decide (x∈l)),st):=by
 rw[Hx hc 1 (r:=(.bool (decide (x∈l)),st)),aC (Plain.bool _) (aW.refl st)];rw[xY];have e:decide (0<=yV x l 0)=decide (x∈l):=by rw[decide_eq_decide];exact ako l 0
 simp[anY hc z l hl x st,e]
def Om(ts:List aE)(a:Int):Bool:=match Fe ts a with|some (i,x)=>decide (x∈(ts[i]?.getD zT).ku)|none=>false
theorem asM(hc:Sem c)(z:Bool)(ts:List aE)(cJ:∀t∈ts,t.Ok)(a:Int)(ha:a<=4611686018427387904)(st:St)(hw:Wf st):
  c 61 [tabs z ts,.int .i64 a] st=some (.bool (Om ts a),st):=by
 have W:=S9 hc z ts cJ a ha st hw;rw[af2 hc 1 (r:=(.bool (Om ts a),st)),aC (Plain.bool _) (aW.refl st)];rw[ajv];unfold Om;cases h:Fe ts a with
 |none=>rw[h]at W;simp[W,Fc]
 |some p=>
  obtain⟨i,x⟩:=p;obtain⟨_,p1,t1,p2,p3,p4⟩:=LU h;obtain⟨hi,hg⟩:=Za2.1 p2;subst hg;have c4:(ts[i]).cells[4]? =some (ints (ts[i]).oz (ts[i]).ku):=rfl;have C:=ais hc (ts[i]).oz (ts[i]).ku (cJ _ (Zb9 hi)).ku x st;rw[h]at W;unfold tabs at W ⊢;simp[W,Fc,hi,c4,C]
variable{c : aj}
abbrev ait(m:Nat):List AV:=[.int .i64 (m:Int)]
abbrev cI(i:Int):AV:= .int .i64 i
def rD(nr:Nat->Bool)(k:Nat):List Nat->List Int->List Nat->List Int×List Nat
 |[],o,q=>(o,q)
 |m::ms,o,q=>if o.getD m 0<0/\nr m=true then rD nr k ms (o.set m (o.getD k 0+1)) (q++[m])else rD nr k ms o q
def agl(nr:Nat->Nat->Bool)(n:Nat):Nat->List Int->List Nat->List Int
 |0,o,_=>o
 |_+1,o,[]=>o
 |f+1,o,k::q=>agl nr n f (rD (nr k) k (List.range n) o q).1 (rD (nr k) k (List.range n) o q).2
structure SI(s0 s:St)(pt po:Pos)(t:aE)(n:Nat)(o:List Int)(qv:AV)(q:List Nat)(B:Int):Prop where
 jJ:Wf s0
 ai:Grew s0 s
 tab:s.heap.get pt=some (.cells t.cells 0)
 out:s.heap.get po=some (.cells (o.map cI) 0)
 len:o.length=n
 LW:QS 1 s qv (q.map ait)
 ne1:aM qv≠some pt
 ne2:aM qv≠some po
 ne3:pt≠po
 aqv:s0.next.toNat<=pt.toNat
 alX:s0.next.toNat<=po.toNat
 F7:∀b,aM qv=some b->s0.next.toNat<=b.toNat
 small:∀v∈o,-1<=v/\v<=B
 qlt:∀m∈q,m<n
theorem KL(o:List Int)(j:Nat)(h:j<o.length)(v:Int):aX (o.map cI) j [cI v]=(o.set j v).map cI:=by unfold aX;rw[Zp5,Zn3,Zb2 (by simpa using h)];simp
theorem asN (hc:Sem c){s0:St}{pt po:Pos}{t:aE}(ht:t.Fit){n:Nat}(hn:n<=1000){k:Nat}(hk:k<n){B:Int}(hB:B<=1000000)(F:Nat)(k6):
  ∀ (r j f:Nat)(s:St)(o:List Int)(qv:AV)(q:List Nat),r<f->j+r=n->SI s0 s pt po t n o qv q (B+1)->o.getD k 0<=B->0<=o.getD k 0->q.length<=4000+j->
    ∃   s' qv',SI s0 s' pt po t n (rD (λm=>Ad t k m) k (List.range' j r) o q).1 qv' (rD (λm=>Ad t k m) k (List.range' j r) o q).2 (B+1)/\
        sW c F k6 f [.ptr pt 0,.slice po 0 n (some n) 1,qv,.int .i64 (k:Int),.slice po 0 n (some n) 1,.int .i64 (n:Int),.int .i64 (j:Int)] s=k6 [.ptr pt 0,.slice po 0 n (some n) 1,qv'] s':=by
 intro r;induction r with
 |zero=>
  intro j f s o qv q hf h1 hI ur Dx hq;obtain⟨g,rfl⟩:∃g,f=g+1:=⟨f - 1,by omega⟩
  obtain rfl:j=n:=by omega
  refine⟨s,qv,hI,?_⟩;rw[yf];simp
 |succ r ih=>
  intro j f s o qv q hf h1 hI ur Dx hq;obtain⟨g,rfl⟩:∃g,f=g+1:=⟨f - 1,by omega⟩
  have hj:j<n:=by omega
  have hjo:j<o.length:=by rw[hI.len];exact hj
  have T9:k<o.length:=by rw[hI.len];exact hk
  have hw:=hI.ai.wf;have w:av .i64 ((j:Int)+1)=((j+1:Nat):Int):=wrap64 (by omega) (by omega);have N:=asL hc t ht k j ⟨by omega,by omega⟩ ⟨by omega,by omega⟩ s hw;have ix:∀(i:Nat),i<n->∀(K:AV->St->Option (AV×St))(s1:St),aq c (.idxA 1 none) [.slice po 0 n (some n) 1,.int .i64 (i:Int)] s1 K=K (.ptr po i) s1:=λi hi K s1=>by rw[iy c K s1 hi];simp
  have ixj:=ix j hj;have ixk:=ix k hk;have gj:(o.map cI)[j]? =some (.int .i64 o[j]):=by rw[Zb8,H0 hjo];rfl
  have gk:(o.map cI)[k]? =some (.int .i64 o[k]):=by rw[Zb8,H0 T9];rfl
  have ej:o.getD j 0=o[j]:=by simp[List.getD,H0 hjo]
  have ek:o.getD k 0=o[k]:=by simp[List.getD,H0 T9]
  have tb:=hI.tab;have ou:=hI.out;rw[Zq7];by_cases hd:o[j]<0
  . cases   hb:Ad t k j with
    |   true=>
        have e:rD (λm=>Ad t k m) k (j::List.range' (j+1) r) o q=rD (λm=>Ad t k m) k (List.range' (j+1) r) (o.set j (o[k]+1)) (q++[j]):=by
         rw[rD,Zb2 ⟨by rw[ej];exact hd,hb⟩,ek]
        have w2:av .i64 (o[k]+1)=o[k]+1:=wrap64 (by omega) (by omega);have Xu:=hw _ _ ou;have gI:∀(K:AV->St->Option (AV×St)),aq c (.store 1) [.ptr po j,.int .i64 (o[k]+1)] s K=K .undef (bk s po (.cells ((o.set j (o[k]+1)).map cI) 0)):=λK=>by rw[cr c K s 1 po j (.int .i64 (o[k]+1)) (o.map cI) ou rfl (by simp;omega) rfl, <-KL o j hjo];rfl
        have cV:Wf (bk s po (.cells ((o.set j (o[k]+1)).map cI) 0)):=jV hw Xu;have q1:QS 1 (bk s po (.cells ((o.set j (o[k]+1)).map cI) 0)) qv (q.map ait):=hI.LW.mono λb x hb hx=>by rw[aJ (λe=>hI.ne2 (by rw[hb,e]))];exact hx
        obtain⟨s5,v5,a1,a2,a3,a4,a5,a6⟩:=q1.push (c:=c) (R:=AV×St) (bytes:=8) cV (λr hr=>by simp only[Zc9]at hr;obtain⟨m,_,rfl⟩:=hr;rfl) (z:=[.int .i64 0]) (x:= .int .i64 (j:Int)) rfl rfl rfl (by decide) (by simp;omega) (by simp;omega);have t5:s5.heap.get pt=some (.cells t.cells 0):=a5 pt _ hI.ne1 (by rw[aJ (λe=>hI.ne3 e.symm)];exact tb);have o5:s5.heap.get po=some (.cells ((o.set j (o[k]+1)).map cI) 0):=a5 po _ hI.ne2 (bP _ _ _);have g5:Grew s0 s5:=⟨a3,λp b hg=>by
         have h0:=hI.jJ _ _ hg;refine a5 p b (λe=> ?_) ?_
         .  have:=hI.F7 p e;omega
         .  rw[aJ (λe=>by have:=hI.alX;rw[e]at this;omega)];exact hI.ai.get hg,Zb1 hI.ai.next (by rw[dQ]at a4;exact a4)⟩
        have I5:SI s0 s5 pt po t n (o.set j (o[k]+1)) v5 (q++[j]) (B+1):=by
         refine⟨hI.jJ,g5,t5,o5,by simp[hI.len],by rw[Zd4];exact a2,λe=> ?_,λe=> ?_,hI.ne3,hI.aqv,hI.alX,λb e=> ?_,λv hv=> ?_,λm hm=> ?_⟩
         .  have:=a6 _ e;rw[dQ]at this;have:=hw _ _ tb;omega
         .  have:=a6 _ e;rw[dQ]at this;omega
         .  have:=a6 _ e;rw[dQ]at this;have:=hI.ai.next;omega
         .  rcases Zg7 hv with h|h
            . exact hI.small v h
            . subst h;omega
         .  rcases Zd8.1 hm with h|h
            . exact hI.qlt m h
            . simp at h;omega
        have hkj:j≠k:=λe=>by subst e;omega
        have ek5:(o.set j (o[k]+1)).getD k 0=o[k]:=(by simp[List.getD,Ze5 hkj,H0 T9]);obtain⟨s',qv',b1,b2⟩:=ih (j+1) g s5 _ v5 (q++[j]) (by omega) (by omega) I5 (by rw[ek5];omega) (by rw[ek5];omega) (by simp;omega);rw[e];refine⟨s',qv',b1,?_⟩;rw[<-b2,yf];rw[hb]at N;simp[-au,-List.map_set,jU,hj,ixj,ixk,tb,ou,gj,gk,hd,N,aE.len,w2,gI,a1,w]
    |   false=>
        have e:rD (λm=>Ad t k m) k (j::List.range' (j+1) r) o q=rD (λm=>Ad t k m) k (List.range' (j+1) r) o q:=by
         rw[rD,Za7 (by rw[hb];simp)]
        obtain⟨s',qv',b1,b2⟩:=ih (j+1) g s _ qv q (by omega) (by omega) hI ur Dx (by omega);rw[e];refine⟨s',qv',b1,?_⟩;rw[<-b2,yf];rw[hb]at N;simp[jU,hj,ixj,tb,ou,gj,hd,N,aE.len,w]
  . have e:rD (λm=>Ad t k m) k (j::List.range' (j+1) r) o q=rD (λm=>Ad t k m) k (List.range' (j+1) r) o q:=by
        rw[rD,Za7 (by rw[ej];simp[hd])]
    obtain⟨s',qv',b1,b2⟩:=ih (j+1) g s _ qv q (by omega) (by omega) hI ur Dx (by omega);rw[e];refine⟨s',qv',b1,?_⟩;rw[<-b2,yf];simp[jU,hj,ixj,tb,ou,gj,hd,w]
variable{c : aj}
def neg(o:List Int):Nat:=o.countP λv=>decide (v<0)
theorem asO{o:List Int}{m:Nat}{v:Int}(h:m<o.length)(h1:o[m]<0)(h2:0<=v):neg (o.set m v)+1=neg o:=by
 unfold neg;rw[List.countP_set h];have a:(decide (o[m]<0))=true:=by simpa using h1
 have b:(decide (v<0))=false:=by simp;omega
 simp only[a,b,Zh6,Zf5,Zh0];have:0<o.countP λv=>decide (v<0):=List.countP_pos_iff.2 ⟨o[m],Zb9 h,a⟩
 omega
theorem Ta(nr:Nat->Bool)(k:Nat):∀(ms:List Nat)(o:List Int)(q:List Nat),(∀m∈ms,m<o.length)->0<=o.getD k 0->(∀m∈q,0<=o.getD m 0)->
  2*neg (rD nr k ms o q).1+(rD nr k ms o q).2.length<=2*neg o+q.length/\(rD nr k ms o q).1.length=o.length/\(∀m∈(rD nr k ms o q).2,0<=(rD nr k ms o q).1.getD m 0)/\(∀m,0<=o.getD m 0->(rD nr k ms o q).1.getD m 0=o.getD m 0)
 |[],o,q,_,_,h=>⟨Za3 _,rfl,h,λ_ _=>rfl⟩
 |m ::ms,o,q,hm,hk,h=>by
  have hmo:=hm m (by simp);by_cases hc:o.getD m 0<0/\nr m=true
  . (rw[rD,Zb2 hc];have em:o.getD m 0=o[m]:=(by simp[List.getD,H0 hmo]);have dP:∀i,0<=o.getD i 0->m≠i:=λi hi e=>by subst e;omega);have get:∀i,m≠i->(o.set m (o.getD k 0+1)).getD i 0=o.getD i 0:=λi hi=>by simp[List.getD,Ze5 hi]
    have gm:(o.set m (o.getD k 0+1)).getD m 0=o.getD k 0+1:=(by simp[List.getD,hmo]);obtain⟨a1,a2,a3,a4⟩:=Ta nr k ms (o.set m (o.getD k 0+1)) (q++[m]) (λi hi=>by simpa using hm i (Za9 _ hi)) (by rw[get k (dP k hk)];exact hk) (λi hi=>by
        rcases Zd8.1 hi with hi|hi
        . rw[get i (dP i (h i hi))];exact h i hi
        . simp at hi;subst hi;rw[gm];omega)
    have hs:=asO hmo (by rw[<-em];exact hc.1) (show 0<=o.getD k 0+1 by omega);refine⟨by simp only[Ze3,Zc6,Zi8]at a1;omega,by simpa using a2,a3,λi hi=> ?_⟩;rw[a4 i (by rw[get i (dP i hi)];exact hi),get i (dP i hi)]
  . rw[rD,Za7 hc];exact Ta nr k ms o q (λi hi=>hm i (Za9 _ hi)) hk h
theorem SI.le{s0 s:St}{pt po:Pos}{t:aE}{n:Nat}{o:List Int}{qv:AV}{q:List Nat}{B B':Int}(h:SI s0 s pt po t n o qv q B)(hB:B<=B'):SI s0 s pt po t n o qv q B':=
 ⟨h.jJ,h.ai,h.tab,h.out,h.len,h.LW,h.ne1,h.ne2,h.ne3,h.aqv,h.alX,h.F7,λv hv=>⟨(h.small v hv).1,by have:=(h.small v hv).2;omega⟩,h.qlt⟩
theorem aqw(hc:Sem c){s0:St}{pt po:Pos}{t:aE}(ht:t.Fit){n:Nat}(hn:n<=1000)(F:Nat)(hF:n<F)(k4):
  ∀(f:Nat)(g:Nat)(s:St)(o:List Int)(qv:AV)(q:List Nat)(B:Int),f<g->SI s0 s pt po t n o qv q B->2*neg o+q.length<=f->B+f<=1000000->0<=B->f<=3000->(∀m∈q,0<=o.getD m 0)->
   ∃    s',Grew s0 s'/\s'.heap.get po=some (.cells ((agl (λk m=>Ad t k m) n f o q).map cI) 0)/\(agl (λk m=>Ad t k m) n f o q).length=n/\
        pR c F k4 g [.ptr pt 0,.slice po 0 n (some n) 1,qv] s=k4 [.slice po 0 n (some n) 1] s':=by
 intro f;induction f with
 |zero=>
  intro g s o qv q B hg hI h1 h2 h3 h4 h5;obtain⟨g,rfl⟩:∃g',g=g'+1:=⟨g - 1,by omega⟩
  have hq:q=[]:=Zc4 (by omega);subst hq;refine⟨s,hI.ai,hI.out,hI.len,?_⟩;have hl:∀(K:AV->St->Option (AV×St))(s1:St),aq c (.lenB .l) [qv] s1 K=K (.int .i64 0) s1:=λK s1=>by rw[hI.LW.lenB];simp
  rw[Dy];simp[hl]
 |succ f ih=>
  intro g s o qv q B hg hI h1 h2 h3 h4 h5;obtain⟨g,rfl⟩:∃g',g=g'+1:=⟨g - 1,by omega⟩
  have hl:∀(K:AV->St->Option (AV×St))(s1:St),aq c (.lenB .l) [qv] s1 K=K (.int .i64 (q.length:Int)) s1:=λK s1=>by rw[hI.LW.lenB];simp
  cases q with
  |nil=>
   refine⟨s,hI.ai,hI.out,hI.len,?_⟩;rw[Dy];simp[hl]
  |cons k q=>
   have hr:∀r∈(k::q).map ait,r.length=1:=λr hr=>by simp only[Zc9]at hr;obtain⟨m,_,rfl⟩:=hr;rfl
   obtain⟨b,ob,cs,a1,a2,a3,a4⟩:=hI.LW.at (c:=c) (R:=AV×St) hr (by decide) (i:=0) (by simp);obtain⟨v',t1,t2,t3⟩:=QS.tail (R:=AV×St) (c:=c) (r:=ait k) (rows:=q.map ait) hI.LW rfl;have hk:k<n:=hI.qlt k (by simp);have T9:k<o.length:=(by rw[hI.len];exact hk);have gk:cs[ob]? =some (.int .i64 (k:Int)):=(by simpa using a4 0 (.int .i64 (k:Int)) rfl);have i0:∀(K:AV->St->Option (AV×St))(s1:St),aq c (.idxA 1 none) [qv,.int .i64 0] s1 K=K (.ptr b ob) s1:=λK s1=>a1 K .i64 s1
   have lo:∀(K:AV->St->Option (AV×St))(s1:St),aq c (.lenB .l) [.slice po 0 n (some n) 1] s1 K=K (.int .i64 (n:Int)) s1:=λK s1=>kY c K s1 _ _ _ _ _
   have ek:o.getD k 0=o[k]:=(by simp[List.getD,H0 T9]);have sm:=hI.small o[k] (Zb9 T9);have yu:=h5 k (by simp);have I1:SI s0 s pt po t n o v' q (B+1):=by
        have I2:=hI.le (B':=B+1) (by omega);exact⟨I2.jJ,I2.ai,I2.tab,I2.out,I2.len,t2,λe=>I2.ne1 (t3 _ e),λe=>I2.ne2 (t3 _ e),I2.ne3,I2.aqv,I2.alX,λb hb=>I2.F7 b (t3 b hb),I2.small,λm hm=>I2.qlt m (Za9 _ hm)⟩
   obtain⟨s1,v1,b1,b2⟩:=asN hc ht hn hk (B:=B) (by omega) F (λvs s71=>gW vs λx2 vs=>gW vs λx5 vs=>gW vs λx7 vs=>mo vs (pR c F k4 g [x2,x5,x7] s71)) n 0 F s o v' q hF (by omega) I1 (by rw[ek];omega) yu (by simp only[Zc6]at h1;omega);rw[<-Zm2]at b1;obtain⟨p1,p2,p3,p4⟩:=Ta (λm=>Ad t k m) k (List.range n) o q (λm hm=>by rw[hI.len];exact Zh1.1 hm) yu (λm hm=>h5 m (Za9 _ hm));obtain⟨s',c1,c2,c3,c4⟩:=ih g s1 _ v1 _ (B+1) (by omega) b1 (by simp only[Zc6]at h1;omega) (by omega) (by omega) (by omega) p3;refine⟨s',c1,c2,c3,?_⟩;rw[<-c4,Dy];simp at b2;have VH:0<(q.length:Int)+1:=(by omega);simp[hl,i0,a3,gk,t1,lo,b2,VH]
variable{c : aj}
def BD(n k:Nat):List Int:=List.replicate k (-1)++List.replicate (n - k) 0
theorem asP{n k:Nat}(h:k<n):(BD n k).set k (-1)=BD n (k+1):=by unfold BD;rw[Zj9 _ _ (by simp)];simp only[List.length_replicate,Zk6];rw[show n - k=(n - (k+1))+1 by omega,Zm6,Zq0,List.replicate_succ',Zf1];rfl
theorem asQ{n k:Nat}(h:k<=n):(BD n k).length=n:=by unfold BD;simp;omega
theorem anZ{s0:St}{pt po:Pos}{t:aE}{n:Nat}(hn:n<=1000)(dP:pt≠po)(Xu:s0.next.toNat<=po.toNat)(Hr:Wf s0)(x1:AV)(F:Nat)(k2):∀(m k f:Nat)(s:St),m<f->k+m=n->Grew s0 s->s.heap.get pt=some (.cells t.cells 0)->s.heap.get po=some (.cells ((BD n k).map cI) 0)->
  ∃s',Grew s0 s'/\s'.heap.get pt=some (.cells t.cells 0)/\s'.heap.get po=some (.cells ((BD n n).map cI) 0)/\
   sY c F k2 f [x1,.ptr pt 0,.slice po 0 n (some n) 1,.int .i64 (n:Int),.int .i64 (k:Int)] s=k2 [x1,.ptr pt 0,.slice po 0 n (some n) 1] s':=by
 intro m;induction m with
 |zero=>
  intro k f s hf h1 hg ht ho;obtain⟨f,rfl⟩:∃g,f=g+1:=⟨f - 1,by omega⟩
  obtain rfl:k=n:=by omega
  refine⟨s,hg,ht,ho,?_⟩;rw[NJ];simp
 |succ m ih=>
  intro k f s hf h1 hg ht ho;obtain⟨f,rfl⟩:∃g,f=g+1:=⟨f - 1,by omega⟩
  have hk:k<n:=by omega
  have w:av .i64 ((k:Int)+1)=((k+1:Nat):Int):=wrap64 (by omega) (by omega);have ix:∀(K:AV->St->Option (AV×St))(s1:St),aq c (.idxA 1 none) [.slice po 0 n (some n) 1,.int .i64 (k:Int)] s1 K=K (.ptr po k) s1:=λK s1=>by rw[iy c K s1 hk];simp
  have hl:(BD n k).length=n:=asQ (by omega);have aT:=hg.wf _ _ ho;have gI:∀(K:AV->St->Option (AV×St)),aq c (.store 1) [.ptr po k,.int .i64 (-1)] s K=K .undef (bk s po (.cells ((BD n (k+1)).map cI) 0)):=λK=>by rw[cr c K s 1 po k (.int .i64 (-1)) ((BD n k).map cI) ho rfl (by simp[hl];omega) rfl, <-asP hk, <-KL _ _ (by omega)];rfl
  have g1:Grew s0 (bk s po (.cells ((BD n (k+1)).map cI) 0)):=⟨jV hg.wf aT,λp b hp=>by have:=Hr _ _ hp;rw[aJ (λe=>by rw[e]at Xu;omega)];exact hg.get hp,by rw[dQ];exact hg.next⟩
  obtain⟨s',a1,a2,a3,a4⟩:=ih (k+1) f _ (by omega) (by omega) g1 (by rw[aJ (λe=>dP e.symm)];exact ht) (bP _ _ _);refine⟨s',a1,a2,a3,?_⟩;rw[<-a4,NJ];simp[-List.map_set,hk,ix,gI,w]
def Qw(t:aE)(fr:Nat):List Int:=agl (λk m=>Ad t k m) (bJ t).toNat (2*(bJ t).toNat+1) ((List.replicate (bJ t).toNat (-1)).set fr 0) [fr]
theorem LX{b:Pos}{off n es:Nat}(hn:n≠0)(h:Plain (.slice b off n (some n) es)):False:=by
 have h1:aD (λ_=>⟨0,0,off+n*es⟩) (b.toNat+1) (λ_=>none) (.slice b off n (some n) es) (.slice (some ⟨0,0+off,none⟩) n n):=
  .slice b off n (some n) es n _ (Za3 _) (λc hc=>by cases hc;rfl) (λ_=>⟨by omega,rfl,by simp⟩) (λh=>by cases h)
 have h2:=h _ (λ_=>⟨0,0,0⟩) _ 0 _ _ h1;cases h2 with
 |slice _ _ _ _ _ _ _ _ _ ha _=>exact absurd (ha hn).1 (by omega)
theorem aiu{s s':St}{v:AV}(h:¬Plain v):tidy s (v,s')=(v,s'):=by
 unfold tidy;rw[Za7 (λe=>h e.1)]
theorem aqx(hc:Sem c)(t:aE)(hz:bJ t≠0)(fr:Nat)(hf:(fr:Int)<bJ t)(s:St)(hw:Wf s):
  ∃b s',c 181 [.agg t.cells,.int .i64 (fr:Int)] s=some (.slice b 0 (bJ t).toNat (some (bJ t).toNat) 1,s')/\Grew s s'/\s'.heap.get b=some (.cells ((Qw t fr).map cI) 0)/\s.next.toNat<=b.toNat/\(Qw t fr).length=(bJ t).toNat:=by
 have ht:=acX hz;have hb:=AQ t;obtain⟨n,hn⟩:∃n:Nat,bJ t=(n:Int):=⟨(bJ t).toNat,by omega⟩
 have hn1:(bJ t).toNat=n:=by omega
 have Pp:n≠0:=by omega
 have Hf:n<=1000:=by omega
 have GK:fr<n:=by omega
 unfold Qw;rw[hn1];have cV:Wf (ah s (.cells t.cells 0)):=bG hw;have g1:=Grew.ah hw (.cells t.cells 0);have sz:=Ql hc t (ah s (.cells t.cells 0)) cV;rw[hn]at sz;have mk:=λ(K:AV->St->Option (AV×St))=>YG c K (ah s (.cells t.cells 0)) (es:=1) (bytes:=8) (z:=[.int .i64 0]) (k:= .i64) (k':= .i64) (n:=n) (by omega) (by omega)
 rw[zx]at mk;have tq:Wf (ah (ah s (.cells t.cells 0)) (.cells (List.replicate n (.int .i64 0)) 0)):=bG cV;have g2:=g1.trans (Grew.ah cV (.cells (List.replicate n (.int .i64 0)) 0));generalize uu:ah (ah s (.cells t.cells 0)) (.cells (List.replicate n (.int .i64 0)) 0)=s2 at mk tq g2;have pt2:s2.heap.get s.next=some (.cells t.cells 0):=by rw[<-uu];exact(Grew.ah cV _).get (aA _ _)
 have po2:s2.heap.get (ah s (.cells t.cells 0)).next=some (.cells ((BD n 0).map cI) 0):=by rw[<-uu,aA];simp[BD]
 have ZH:s.next≠(ah s (.cells t.cells 0)).next:=by rw[bQ];exact Pos.YE _
 have Xu:s.next.toNat<=(ah s (.cells t.cells 0)).next.toNat:=by rw[bQ,Pos.aF];omega
 generalize (ah s (.cells t.cells 0)).next=po at mk po2 ZH Xu
 let k2:List AV->St->Option (AV×St):=λvs s18=>gW vs λx1 vs=>gW vs λx2 vs=>gW vs λx5 vs=>mo vs (
  aq c .move [x5] s18 λx23 s19=>
  aq c .move [x1] s19 λx24 s20=>
  aq c (.idxA 1 none) [x23,x24] s20 λx25 s21=>
  aq c (.store 1) [x25,(.int .i64 0)] s21 λ_ s22=>
  aq c .move [x1] s22 λx26 s23=>
  aq c (.buildSlice 1 1 [(.int .i64 0)] [0]) [x26] s23 λx27 s24=>
  aq c .move [x27] s24 λx7 s25=>
  pR c 4000 (λvs s72=>gW vs λx5 vs=>mo vs (
     aq c .move [x5] s72 λx64 s73=>
     aq c .move [x64] s73 λx4 s74=>
     some (x4,s74))) 4000 [x2,x5,x7] s25)
 obtain⟨s3,a1,a2,a3,a4⟩:=anZ (c:=c) (s0:=s) (t:=t) Hf ZH Xu hw (.int .i64 (fr:Int)) 4000 k2 n 0 4000 s2 (by omega) (by omega) g2 pt2 po2;have em:BD n n=List.replicate n (-1):=by simp[BD]
 rw[em]at a3;have hl:(List.replicate n (-1:Int)).length=n:=by simp
 have aT:=a1.wf _ _ a3;have ix:∀(K:AV->St->Option (AV×St))(s1:St),aq c (.idxA 1 none) [.slice po 0 n (some n) 1,.int .i64 (fr:Int)] s1 K=K (.ptr po fr) s1:=λK s1=>by rw[iy c K s1 GK];simp
 have gI:∀(K:AV->St->Option (AV×St)),aq c (.store 1) [.ptr po fr,.int .i64 0] s3 K=K .undef (bk s3 po (.cells (((List.replicate n (-1:Int)).set fr 0).map cI) 0)):=λK=>by rw[cr c K s3 1 po fr (.int .i64 0) _ a3 rfl (by simp;omega) rfl, <-KL _ _ (by omega)];rfl
 have g4:Grew s (bk s3 po (.cells (((List.replicate n (-1:Int)).set fr 0).map cI) 0)):=⟨jV a1.wf aT,λp b hp=>by have:=hw _ _ hp;rw[aJ (λe=>by rw[e]at Xu;omega)];exact a1.get hp,by rw[dQ];exact a1.next⟩
 have pt4:(bk s3 po (.cells (((List.replicate n (-1:Int)).set fr 0).map cI) 0)).heap.get s.next=some (.cells t.cells 0):=by rw[aJ (λe=>ZH e.symm)];exact a2
 have po4:(bk s3 po (.cells (((List.replicate n (-1:Int)).set fr 0).map cI) 0)).heap.get po=some (.cells (((List.replicate n (-1:Int)).set fr 0).map cI) 0):=bP _ _ _;generalize hs4:bk s3 po (.cells (((List.replicate n (-1:Int)).set fr 0).map cI) 0)=s4 at gI g4 pt4 po4;have row:=λ(K:AV->St->Option (AV×St))=>KU (c:=c) (es:=1) (z:=[.int .i64 0]) (x:= .int .i64 (fr:Int)) rfl rfl s4 K
 have g5:=g4.trans (Grew.ah g4.wf (.cells (AV.cells (.int .i64 (fr:Int))) 0));have arA:=Grew.ah g4.wf (.cells (AV.cells (.int .i64 (fr:Int))) 0);have n4:s.next.toNat<s4.next.toNat:=g4.wf _ _ pt4;have n4o:po.toNat<s4.next.toNat:=g4.wf _ _ po4;have I:SI s (ah s4 (.cells (AV.cells (.int .i64 (fr:Int))) 0)) s.next po t n ((List.replicate n (-1:Int)).set fr 0) (.slice s4.next 0 1 (some 1) 1) [fr] 0:=by
  refine⟨hw,g5,arA.get pt4,arA.get po4,by simp,.inr (.inl ⟨s4.next,0,some 1,[.int .i64 (fr:Int)],rfl,aA _ _,by simp,by simp,.inr rfl⟩),λe=> ?_,λe=> ?_,ZH,Za3 _,Xu,λb e=> ?_,λv hv=> ?_,λm hm=> ?_⟩
  .  have:=congrArg Pos.toNat (tE e);omega
  .  have:=congrArg Pos.toNat (tE e);omega
  .  have:=congrArg Pos.toNat (tE e);omega
  .  rcases Zg7 hv with h|h
     . rw[(List.mem_replicate.1 h).2];omega
     . subst h;omega
  .  simp at hm;omega
 have alI:neg ((List.replicate n (-1:Int)).set fr 0)<=n:=by unfold neg;refine Zb1 List.countP_le_length ?_;simp
 obtain⟨s6,b1,b2,b3,b4⟩:=aqw hc ht Hf 4000 (by omega) (λvs s72=>gW vs λx5 vs=>mo vs (aq c .move [x5] s72 λx64 s73=>aq c .move [x64] s73 λx4 s74=>some (x4,s74))) (2*n+1) 4000 _ _ _ [fr] 0 (by omega) I (by simp;omega) (by omega) (by omega) (by omega) (λm hm=>by
  simp at hm;subst hm;simp[List.getD,GK])
 refine⟨po,s6,?_,b1,b2,Xu,b3⟩;have np:¬Plain (.slice po 0 n (some n) 1):=LX Pp;rw[aef hc 4000 (r:=(.slice po 0 n (some n) 1,s6)),aiu np];rw[aiv];have L:sY c 4000 k2 4000 [.int .i64 (fr:Int),.ptr s.next 0,.slice po 0 n (some n) 1,.int .i64 (n:Int),.int .i64 0] s2=some (.slice po 0 n (some n) 1,s6):=by
  rw[show(0:Int)=((0:Nat):Int)from rfl,a4];simp only[k2];simp at b4;simp[-au,ix,gI,row,b4]
 simp only[k2]at L;simp[-au,aE.len,sz,mk,kY];simp[-au]at L;exact L
variable{c : aj}
def LY(t:aE):Int:=if t.sh=1 then 0 else if t.sh=2 then(if 0<t.b then t.a else t.a.tdiv 2)else if t.sh=3 then t.b+t.a.tdiv 2 else t.a.tdiv 2
theorem asR{t:aE}(h:bJ t≠0):0<=LY t/\LY t<bJ t:=by
 have f:=acX h;unfold LY;rw[Zi0 f.a.1]
 revert h
 unfold bJ;intro h;split
 . rename_i h1;rw[Zb2 h1]at h;split at h
   . rename_i h2;rw[Zb2 h2];omega
   . exact absurd rfl h
 rename_i h1;rw[Za7 h1]at h;split
 . rename_i h2;rw[Zb2 h2]at h;split at h
   . rename_i h3;rw[Zb2 h3];split<;>omega
   . exact absurd rfl h
 rename_i h2;rw[Za7 h2]at h;split
 . rename_i h3;rw[Zb2 h3]at h;split at h
   . rename_i h4;rw[Zb2 h4];omega
   . exact absurd rfl h
 rename_i h3;rw[Za7 h3]at h;split at h
 . rename_i h4;rw[Zb2 h4];split at h
   . rename_i h5;rw[Zb2 h5];omega
   . exact absurd rfl h
 . exact absurd rfl h
theorem asS(hc:Sem c)(a b:Int)(st:St):c 207 [.int .i64 a,.int .i64 b] st=some (.int .i64 0,st):=by rw[Vg hc 1 (r:=(.int .i64 0,st)),aC (Plain.int _ _) (aW.refl st)];rw[Zz];simp
theorem asT(hc:Sem c)(a b:Int)(ha:Sm a)(st:St):c 212 [.int .i64 a,.int .i64 b] st=some (.int .i64 (if 0<b then a else a.tdiv 2),st):=by
 have hq:0<=a.tdiv 2/\a.tdiv 2<=1000000:=by rw[Zi0 ha.1];omega
 have w2:av .i64 (a.tdiv 2)=a.tdiv 2:=wrap64 (by omega) (by omega);rw[Vh hc 1 (r:=(.int .i64 (if 0<b then a else a.tdiv 2),st)),aC (Plain.int _ _) (aW.refl st)];rw[ZA];by_cases h:0<b<;>simp[h,w2]
theorem asU(hc:Sem c)(a b:Int)(ha:Sm a)(hb:Sm b)(st:St):c 217 [.int .i64 a,.int .i64 b] st=some (.int .i64 (b+a.tdiv 2),st):=by
 have hq:0<=a.tdiv 2/\a.tdiv 2<=1000000:=by rw[Zi0 ha.1];omega
 have w2:av .i64 (a.tdiv 2)=a.tdiv 2:=wrap64 (by omega) (by omega);have w3:av .i64 (b+a.tdiv 2)=b+a.tdiv 2:=wrap64 (by omega) (by omega);rw[Vi hc 1 (r:=(.int .i64 (b+a.tdiv 2),st)),aC (Plain.int _ _) (aW.refl st)];rw[ZB];simp[w2,w3]
theorem asV(hc:Sem c)(a b:Int)(ha:Sm a)(st:St):c 222 [.int .i64 a,.int .i64 b] st=some (.int .i64 (a.tdiv 2),st):=by
 have hq:0<=a.tdiv 2/\a.tdiv 2<=1000000:=by rw[Zi0 ha.1];omega
 have w2:av .i64 (a.tdiv 2)=a.tdiv 2:=wrap64 (by omega) (by omega);rw[Vj hc 1 (r:=(.int .i64 (a.tdiv 2),st)),aC (Plain.int _ _) (aW.refl st)];rw[ZC];simp[w2]
def Qx(n:Nat)(d:Int):Int:=if d<0 then(n:Int)else d
def LZ(t:aE):List Int:=(Qw t (LY t).toNat).map (Qx (bJ t).toNat)
theorem aqy{s0:St}{po:Pos}{n:Nat}(hn:n<=1000)(Xu:s0.next.toNat<=po.toNat)(Hr:Wf s0)(o:List Int)(ho0:o.length=n)(F:Nat)(k2):∀(m k f:Nat)(s:St),m<f->k+m=n->Grew s0 s->s.heap.get po=some (.cells (((o.take k).map (Qx n)++o.drop k).map cI) 0)->
  ∃ s',Grew s0 s'/\s'.heap.get po=some (.cells ((o.map (Qx n)).map cI) 0)/\
    uS c F k2 f [.slice po 0 n (some n) 1,.slice po 0 n (some n) 1,.int .i64 (n:Int),.int .i64 (k:Int)] s=k2 [.slice po 0 n (some n) 1] s':=by
 intro m;induction m with
 |zero=>
  intro k f s hf h1 hg ho;obtain⟨f,rfl⟩:∃g,f=g+1:=⟨f - 1,by omega⟩
  obtain rfl:k=n:=by omega
  refine⟨s,hg,?_,?_⟩
  . rw[ho,Zf9 (by omega),Zl4 (by omega),Zd9]
  . rw[BE];simp
 |succ m ih=>
  intro k f s hf h1 hg ho;obtain⟨f,rfl⟩:∃g,f=g+1:=⟨f - 1,by omega⟩
  have hk:k<n:=by omega
  have T9:k<o.length:=by omega
  have w:av .i64 ((k:Int)+1)=((k+1:Nat):Int):=wrap64 (by omega) (by omega);have ix:∀(K:AV->St->Option (AV×St))(s1:St),aq c (.idxA 1 none) [.slice po 0 n (some n) 1,.int .i64 (k:Int)] s1 K=K (.ptr po k) s1:=λK s1=>by rw[iy c K s1 hk];simp
  have lo:∀(K:AV->St->Option (AV×St))(s1:St),aq c (.lenB .l) [.slice po 0 n (some n) 1] s1 K=K (.int .i64 (n:Int)) s1:=λK s1=>kY c K s1 _ _ _ _ _
  generalize hL:(o.take k).map (Qx n)++o.drop k=L at ho;have hLl:L.length=n:=by rw[<-hL];simp;omega
  have hLk:L[k]? =some o[k]:=by
    rw[<-hL,Zc2 (by simp;omega)];simp only[Za5,Zh5,Zk3 (Zn4 T9),Zk6];rw[Ze8,Zg0,H0 T9]
  have gk:(L.map cI)[k]? =some (.int .i64 o[k]):=by rw[Zb8,hLk];rfl
  have eL:L.set k (Qx n o[k])=(o.take (k+1)).map (Qx n)++o.drop (k+1):=by rw[<-hL,Zj9 _ _ (by simp;omega)];simp only[Za5,Zh5,Zk3 (Zn4 T9),Zk6];rw[Zd1 T9,Zq0,Zd3 T9,Zd4,Zf1];rfl
  have aT:=hg.wf _ _ ho;by_cases hd:o[k]<0
  . have el:Qx n o[k]=(n:Int):=(by unfold Qx;rw[Zb2 hd]);rw[el]at eL;have gI:∀(K:AV->St->Option (AV×St)),aq c (.store 1) [.ptr po k,.int .i64 (n:Int)] s K=K .undef (bk s po (.cells (((o.take (k+1)).map (Qx n)++o.drop (k+1)).map cI) 0)):=λK=>by rw[cr c K s 1 po k (.int .i64 (n:Int)) _ ho rfl (by simp[hLl];omega) rfl, <-eL, <-KL _ _ (by omega)];rfl
    have g1:Grew s0 (bk s po (.cells (((o.take (k+1)).map (Qx n)++o.drop (k+1)).map cI) 0)):=⟨jV hg.wf aT,λp b hp=>by have:=Hr _ _ hp;rw[aJ (λe=>by rw[e]at Xu;omega)];exact hg.get hp,by rw[dQ];exact hg.next⟩
    obtain⟨s',a1,a2,a3⟩:=ih (k+1) f _ (by omega) (by omega) g1 (bP _ _ _);refine⟨s',a1,a2,?_⟩;rw[<-a3,BE];simp[-List.map_append,-List.map_take,-List.map_drop,-List.map_map,jU,hk,ix,lo,ho,gk,hd,gI,w]
  . have el:Qx n o[k]=o[k]:=(by unfold Qx;rw[Za7 hd]);rw[el]at eL;have e2:L.set k o[k]=L:=by
        (refine Zi4 λi=> ?_);rw[List.getElem?_set];split
        . rename_i e;subst e;rw[Zb2 (by omega),hLk]
        . rfl
    rw[e2]at eL;obtain⟨s',a1,a2,a3⟩:=ih (k+1) f s (by omega) (by omega) hg (by rw[<-eL];exact ho);refine⟨s',a1,a2,?_⟩;rw[<-a3,BE];simp[jU,hk,ix,ho,gk,hd,w]
theorem abt(sh:Int):(ic sh).length=6:=by
 unfold ic
 repeat' split
 all_goals rfl
theorem aqz(sh:Int):aS (ic sh)=true:=by
 unfold ic
 repeat' split
 all_goals rfl
theorem atZ(hc:Sem c)(t:aE)(ht:t.Fit):∃f:FuncId,(ic t.sh)[4]? =some (.func f [] [])/\∀st,c f [.int .i64 t.a,.int .i64 t.b] st=some (.int .i64 (LY t),st):=by
 have hS:t.sh=1\/t.sh=2\/t.sh=3\/t.sh=4:=by have:=ht.sh;omega
 have ha:Sm t.a:=by have:=ht.a;omega
 have hb:Sm t.b:=by have:=ht.b;omega
 rcases hS with h|h|h|h
 . exact⟨207,by rw[h];rfl,λst=>by rw[asS hc];simp[LY,h]⟩
 . exact⟨212,by rw[h];rfl,λst=>by rw[asT hc _ _ ha];simp[LY,h]⟩
 . exact⟨217,by rw[h];rfl,λst=>by rw[asU hc _ _ ha hb];simp[LY,h]⟩
 . exact⟨222,by rw[h];rfl,λst=>by rw[asV hc _ _ ha];simp[LY,h]⟩
theorem an0(hc:Sem c)(t:aE)(hz:bJ t≠0)(s:St)(hw:Wf s):
  ∃b s',c 124 [.agg t.cells] s=some (.slice b 0 (bJ t).toNat (some (bJ t).toNat) 1,s')/\Grew s s'/\s'.heap.get b=some (.cells ((LZ t).map cI) 0)/\s.next.toNat<=b.toNat/\(LZ t).length=(bJ t).toNat:=by
 have ht:=acX hz;have hb:=AQ t;have hh:=asR hz;have cV:Wf (ah s (.cells t.cells 0)):=bG hw;have tq:Wf (ah (ah s (.cells t.cells 0)) (.cells (ic t.sh) 0)):=bG cV;have g2:=(Grew.ah hw (.cells t.cells 0)).trans (Grew.ah cV (.cells (ic t.sh) 0));have gT:(ah (ah s (.cells t.cells 0)) (.cells (ic t.sh) 0)).heap.get s.next=some (.cells t.cells 0):=(Grew.ah cV _).get (aA _ _);obtain⟨fr,vq⟩:∃n:Nat,LY t=(n:Int):=⟨(LY t).toNat,by omega⟩
 obtain⟨b,s1,S1,S2,S3,S4,S5⟩:=aqx hc t hz fr (by omega) _ tq;have GF:s.next.toNat<=b.toNat:=Zb1 g2.next S4;have g1:=g2.trans S2;have e1:LZ t=(Qw t fr).map (Qx (bJ t).toNat):=by unfold LZ;rw[vq];rfl
 have hl1:(LZ t).length=(bJ t).toNat:=by rw[e1];simpa using S5
 obtain⟨s2,a1,a2,a3⟩:=aqy (c:=c) (s0:=s) (po:=b) (n:=(bJ t).toNat) (by omega) GF hw (Qw t fr) S5 4000 (λvs s34=>gW vs λx5 vs=>mo vs (
  aq c .move [x5] s34 λx38 s35=>aq c .move [x38] s35 λx2 s36=>some (x2,s36))) (bJ t).toNat 0 4000 s1 (by omega) (by omega) g1 (by simpa using S3)
 rw[<-e1]at a2;refine⟨b,s2,?_,a1,a2,GF,hl1⟩;have np:¬Plain (.slice b 0 (bJ t).toNat (some (bJ t).toNat) 1):=LX (by omega);rw[ac3 hc 4000 (r:=(.slice b 0 (bJ t).toNat (some (bJ t).toNat) 1,s2)),aiu np];rw[af3];have hlay:=fO hc t.sh (ah s (.cells t.cells 0)) cV;rw[<-vq]at S1;have rd:=λ(K:AV->Option (AV×St))=>ahg K (m:=7) (p:=s.next) (o:=0) (l:=t.cells) (h:=(ah (ah s (.cells t.cells 0)) (.cells (ic t.sh) 0)).heap) (h2:=(ah (ah s (.cells t.cells 0)) (.cells (ic t.sh) 0)).heap) (by rw[gT];rfl) (by rw[gT];rfl) (TW λv hv=>by simp only[aE.cells,Zb0,Zc5,Zf3]at hv;rcases hv with rfl|rfl|rfl|rfl|rfl|rfl|rfl<;>first|exact fV.str _|exact fV.int _ _|exact acV _ _)
 simp at a3;have lo:∀(K:AV->St->Option (AV×St))(s1:St),aq c (.lenB .l) [.slice b 0 (bJ t).toNat (some (bJ t).toNat) 1] s1 K=K (.int .i64 ((bJ t).toNat:Int)) s1:=λK s1=>kY c K s1 _ _ _ _ _
 obtain⟨hf,hf1,hf2⟩:=atZ hc t ht;have hf3:(ic t.sh)[4]'(by rw[abt];omega)= .func hf [] []:=by rw[H0 (by rw[abt];omega)]at hf1;exact Zi7 hf1
 have c1:t.cells[1]? =some (.int .u8 t.sh):=rfl;have c2:t.cells[2]? =some (.int .i64 t.a):=rfl;have c3:t.cells[3]? =some (.int .i64 t.b):=rfl;simp[hlay,c1,c2,c3,AV.cells,abt,aqz,gT,hf1,hf3,hf2,S1,rd,lo,a3]
theorem an1{t:aE}{k:Nat}(h:k<(LZ t).length):((LZ t).map cI)[k]? =some (.int .i64 (LZ t)[k]):=by rw[Zb8,H0 h];rfl
def ID(ts:List aE)(a:Int):Int:=match Fe ts a with|some (i,x)=>(LZ (ts[i]?.getD zT)).getD x.toNat 0|none=>0
theorem aqA(hc:Sem c)(z:Bool)(ts:List aE)(cJ:∀t∈ts,t.Ok)(a:Int)(ha:a<=4611686018427387904)(st:St)(hw:Wf st):
  c 60 [tabs z ts,.int .i64 a] st=some (.int .i64 (ID ts a),st):=by
 have W:=S9 hc z ts cJ a ha st hw;cases h:Fe ts a with
 |none=>
  rw[Qy hc 1 (r:=(.int .i64 (ID ts a),st)),aC (Plain.int _ _) (aW.refl st)];rw[Xv];unfold ID;rw[h]at W ⊢; simp[W,Fc]
 |some p=>
  obtain⟨i,x⟩:=p;obtain⟨hv,p1,t1,p2,p3,p4⟩:=LU h;have hz:=anU (afe hv p2);obtain⟨hi,hg⟩:=Za2.1 p2;obtain⟨b,s',L1,L2,L3,L4,L5⟩:=an0 hc t1 hz st hw;have hx:x.toNat<(LZ t1).length:=by omega
  have e:ID ts a=(LZ t1)[x.toNat]:=by
   unfold ID;rw[h];simp only;rw[p2];simp[List.getD,H0 hx]
  obtain⟨k,hk⟩:∃k:Nat,x=(k:Int):=⟨x.toNat,by omega⟩
  subst hk;simp only[Zc8]at hx e;have ix:∀(K:AV->St->Option (AV×St))(s1:St),aq c (.idxA 1 none) [.slice b 0 (bJ t1).toNat (some (bJ t1).toNat) 1,.int .i64 (k:Int)] s1 K=K (.ptr b k) s1:=λK s1=>by rw[iy c K s1 (by omega)];simp
  have gk:=an1 hx;rw[Qy hc 1 (r:=(.int .i64 (ID ts a),s')),aC (Plain.int _ _) L2.keeps];rw[Xv,e];rw[h]at W;subst hg;unfold tabs at W ⊢;simp[W,Fc,hi,aE.len,L1,ix,L3,gk]
variable{c : aj}
def lZ(first:Int)(n:Nat)(so:Int->Bool):List Int:=((List.range n).map λ(i:Nat)=>first+(i:Int)).filter so
theorem aac(first:Int)(n:Nat)(so:Int->Bool):lZ first (n+1) so=lZ first n so++if so (first+(n:Int))=true then [first+(n:Int)]else []:=by
 unfold lZ;rw[Zf8,Zd4,Zk8];congr 1;simp only[Zd6,Zi1,List.filter_cons,List.filter_nil]
theorem KE(first:Int)(n:Nat)(so:Int->Bool):(lZ first n so).length<=n:=by
 unfold lZ;exact Zb1 (Zl9 _ _) (by simp)
theorem alY{first:Int}(hfi:0<=first/\first<=1000000){n:Nat}(hn:n<=1000000){g:FuncId}{x y:List AV}{so:Int->Bool}{s0:St}
  (H:∀(k:Int)(s:St),Grew s0 s->first<=k->k<first+(n:Int)->c g (x++([.int .i64 k]++y)) s=some (.bool (so k),s)) (F:Nat) (k2):
  ∀(m i f:Nat)(s:St)(v:AV),m<f->i+m=n->Mk 1 s0 s v ((lZ first i so).map bU)->
   ∃s' v',Mk 1 s0 s' v' ((lZ first n so).map bU)/\wS c F k2 f [.int .i64 first,.int .i64 (n:Int),.func g x y,v,.int .i64 (first+(i:Int))] s=k2 [v'] s':=by
 have w0:av .i64 (first+(n:Int))=first+(n:Int):=wrap64 (by omega) (by omega)
 intro m;induction m with
 |zero=>
  intro i f s v hf h1 hM;obtain⟨f,rfl⟩:∃g,f=g+1:=⟨f - 1,by omega⟩
  obtain rfl:i=n:=by omega
  refine⟨s,v,hM,?_⟩;rw[Dz];simp[w0]
 |succ m ih=>
  intro i f s v hf h1 hM;obtain⟨f,rfl⟩:∃g,f=g+1:=⟨f - 1,by omega⟩
  have hi:i<n:=by omega
  have aT:first+(i:Int)<first+(n:Int):=by omega
  have w:av .i64 (first+(i:Int)+1)=first+((i+1:Nat):Int):=by rw[wrap64 (by omega) (by omega)];omega
  have A:=H (first+(i:Int)) s hM.ai (by omega) aT;simp only[List.singleton_append]at A;have hlen:=KE first i so
  cases hs:so (first+(i:Int))with
  |true=>
   obtain⟨s5,v5,a1,a2,a3,_⟩:=hM.push (c:=c) (R:=AV×St) (bytes:=8) (z:=[.int .i64 0]) (x:= .int .i64 (first+(i:Int))) rfl rfl rfl (by decide) (by simp;omega) (by simp;omega);have e:(lZ first (i+1) so).map bU=(lZ first i so).map bU++[AV.cells (.int .i64 (first+(i:Int)))]:=(by rw[aac,Zb2 hs,Zd4];rfl);rw[<-e]at a2;obtain⟨s',v',b1,b2⟩:=ih (i+1) f s5 v5 (by omega) (by omega) a2;refine⟨s',v',b1,?_⟩;rw[<-b2,Dz];rw[hs]at A;simp[-au,jU,w0,aT,A,a1,w]
  |false=>
   have e:(lZ first (i+1) so).map bU=(lZ first i so).map bU:=(by rw[aac,Za7 (by rw[hs];simp),Zd9]);rw[<-e]at hM;obtain⟨s',v',b1,b2⟩:=ih (i+1) f s v (by omega) (by omega) hM;refine⟨s',v',b1,?_⟩;rw[<-b2,Dz];rw[hs]at A;simp[jU,w0,aT,A,w]
theorem aiw(hc:Sem c){first:Int}(hfi:0<=first/\first<=1000000){n:Nat}(hn:n<=1000000){g:FuncId}{x y:List AV}{so:Int->Bool}{s:St}(hw:Wf s)
  (H:∀(k:Int)(t:St),Grew s t->first<=k->k<first+(n:Int)->c g (x++([.int .i64 k]++y)) t=some (.bool (so k),t)):
  ∃v s',c 62 [.int .i64 first,.int .i64 (n:Int),.func g x y] s=some (v,s')/\Mk 1 s s' v ((lZ first n so).map bU):=by
 obtain⟨s',v,hM,L⟩:=alY hfi hn H (n+1) (λvs s22=>gW vs λx7 vs=>mo vs (aq c .move [x7] s22 λx24 s23=>aq c .move [x24] s23 λx6 s24=>some (x6,s24))) n 0 (n+1) s .af (by omega) (by omega) (Mk.start hw (Grew.refl hw));obtain⟨fP,t1,t2⟩:=hM.tidy;refine⟨v,fP,?_,t2⟩;rw[aeg hc (n+1) (r:=(v,s')),t1];rw[aix];simp at L;simp[L]
end
end Go.Proofs.YtgihekklfnjkiaaGreatDoor
