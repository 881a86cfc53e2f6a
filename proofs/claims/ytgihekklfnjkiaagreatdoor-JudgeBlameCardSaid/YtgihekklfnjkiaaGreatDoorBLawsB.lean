/- Checks of a problem. -/
import Derived.Test.YtgihekklfnjkiaaGreatDoorBLawsA
set_option linter.all false
set_option maxRecDepth 100000
namespace Go.Proofs.YtgihekklfnjkiaaGreatDoor
section
open Go Go.Ai Go.Proofs
variable{c:aj}
def kd:Nat->Kd
 |1=>⟨[97,112,97,114,116],103,true,0,true,0,false,.func 90 [] []⟩
 |2=>⟨[98,101,115,105,100,101],103,true,0,false,0,false,.func 91 [] []⟩
 |3=>⟨[97,99,114,111,115,115],103,true,0,false,0,false,.func 92 [] []⟩
 |4=>⟨[110,101,97,114],103,true,0,true,1,false,.func 93 [] []⟩
 |5=>⟨[116,111,103,101,116,104,101,114],103,true,0,false,0,false,.func 94 [] []⟩
 |6=>⟨[97,116],103,false,116,false,0,false,.func 95 [] []⟩
 |7=>⟨[115,101,97,116],103,false,116,true,0,true,.func 96 [] []⟩
 |8=>⟨[97,108,116,101,114,110,97,116,101],0,false,101,false,0,false,.func 97 [] []⟩
 |9=>⟨[104,111,115,116],0,false,101,false,0,false,.func 98 [] []⟩
 |10=>⟨[114,101,97,99,104],101,false,0,false,0,false,.func 99 [] []⟩
 |11=>⟨[115,112,101,97,107],0,false,101,false,0,false,.func 100 [] []⟩
 |12=>⟨[112,101,97,99,101],0,false,101,false,0,false,.func 101 [] []⟩
 |13=>⟨[99,111,109,112,97,110,121],0,false,101,false,0,false,.func 102 [] []⟩
 |14=>⟨[104,111,110,111,117,114],0,false,101,false,0,false,.func 103 [] []⟩
 |15=>⟨[102,105,108,108],0,false,101,true,0,false,.func 104 [] []⟩
 |16=>⟨[108,105,109,105,116],0,false,101,true,0,false,.func 105 [] []⟩
 |17=>⟨[107,105,116,99,104,101,110],100,false,116,false,0,false,.func 106 [] []⟩
 |18=>⟨[109,105,120],0,false,101,false,0,false,.func 107 [] []⟩
 |_=>⟨[],0,false,0,false,0,false,.jM⟩
def EL:List (AV×AV×Nat):=[(.int .u8 1,.agg (kd 1).cells,0),(.int .u8 2,.agg (kd 2).cells,1),(.int .u8 3,.agg (kd 3).cells,2),(.int .u8 4,.agg (kd 4).cells,3),(.int .u8 5,.agg (kd 5).cells,4),(.int .u8 6,.agg (kd 6).cells,5),(.int .u8 7,.agg (kd 7).cells,6),(.int .u8 8,.agg (kd 8).cells,7),(.int .u8 9,.agg (kd 9).cells,8),(.int .u8 10,.agg (kd 10).cells,9),(.int .u8 11,.agg (kd 11).cells,10),(.int .u8 12,.agg (kd 12).cells,11),(.int .u8 13,.agg (kd 13).cells,12),(.int .u8 14,.agg (kd 14).cells,13),(.int .u8 15,.agg (kd 15).cells,14),(.int .u8 16,.agg (kd 16).cells,15),(.int .u8 17,.agg (kd 17).cells,16),(.int .u8 18,.agg (kd 18).cells,17)]
theorem afw(p:Pos):¬Plain (.map p):=λh=>by have:=h (λ_=>(⟨0,0,0⟩:Go.Ai.Loc)) (λ_=>⟨1,0,0⟩) (p.toNat+1) (p.toNat+1) (λ_=>none) _ (.map p (Nat.lt_succ_self _));cases this
theorem ah2(st:St)(p:Pos)(s':St):tidy st (.map p,s')=(.map p,s'):=by unfold tidy;rw[Za6];exact λe=>afw p e.1
theorem dV{R:Type}(c:aj)(K:AV->St->Option R)(st:St)(z:List AV)(ps:List (Nat×Nat))(xs l:List AV)(h:cF z ps xs=some l):aq c (.build z ps) xs st K=K (.agg l) st:=by rw[ig,h];rfl
theorem eF{R:Type}(c:aj)(K:AV->St->Option R)(st:St)(es:List (AV×AV×Nat))(cl:Nat)(k:IntKind)(x:Int)(v:AV)(hf:gM .i (.int k x) es 0=some none):
  aq c (.mapSet .i) [.map st.next,.int k x,v] (ah st (.map es cl)) K=K .undef (ah st (.map (es++[(.int k x,v,cl)]) (cl+1))):=by
 have:aE.run (λb=>(ah st (.map es cl)).heap.get b) (ah st (.map es cl)).next (.mapSet .i) [.map st.next,.int k x,v]=some (.bh .undef none (some (st.next,.map (es++[(.int k x,v,cl)]) (cl+1))) none):=by
  simp[aE.run,ye,hf,af7]
 unfold aq cC;rw[this];show K .undef (bg (ah st (.map es cl)) st.next _)=_;rw[Yi]
theorem ah3(hc:Sem c)(s:St):c 50 [] s=some (.map s.next,ah s (.map EL 18)):=by
 rw[adX hc 1 (r:=(.map s.next,ah s (.map EL 18))),ah2];rw[ah4];rw[az,VO];rw[dV (l:=(kd 1).cells) (h:=rfl),eF (hf:=rfl)];rw[dV (l:=(kd 2).cells) (h:=rfl),eF (hf:=rfl)];rw[dV (l:=(kd 3).cells) (h:=rfl),eF (hf:=rfl)];rw[dV (l:=(kd 4).cells) (h:=rfl),eF (hf:=rfl)];rw[dV (l:=(kd 5).cells) (h:=rfl),eF (hf:=rfl)];rw[dV (l:=(kd 6).cells) (h:=rfl),eF (hf:=rfl)];rw[dV (l:=(kd 7).cells) (h:=rfl),eF (hf:=rfl)];rw[dV (l:=(kd 8).cells) (h:=rfl),eF (hf:=rfl)];rw[dV (l:=(kd 9).cells) (h:=rfl),eF (hf:=rfl)];rw[dV (l:=(kd 10).cells) (h:=rfl),eF (hf:=rfl)];rw[dV (l:=(kd 11).cells) (h:=rfl),eF (hf:=rfl)];rw[dV (l:=(kd 12).cells) (h:=rfl),eF (hf:=rfl)];rw[dV (l:=(kd 13).cells) (h:=rfl),eF (hf:=rfl)];rw[dV (l:=(kd 14).cells) (h:=rfl),eF (hf:=rfl)];rw[dV (l:=(kd 15).cells) (h:=rfl),eF (hf:=rfl)];rw[dV (l:=(kd 16).cells) (h:=rfl),eF (hf:=rfl)];rw[dV (l:=(kd 17).cells) (h:=rfl),eF (hf:=rfl)];rw[dV (l:=(kd 18).cells) (h:=rfl),eF (hf:=rfl)];rw[az,az]
 .rfl
theorem as5{R:Type}(c:aj)(K:AV->St->Option R)(st:St)(m:Pos)(cl:Nat)(h:st.heap.get m=some (.map EL cl))(n:Nat):
   aq c (.lookup .i (.agg [.str [],.int .u8 0,.bool false,.int .u8 0,.bool false,.int .i64 0,.bool false,.jM]) false) [.map m,.int .u8 (n:Int)] st K=K (.agg (kd n).cells) st:=by
 have e:gM .i (.int .u8 (n:Int)) EL 0=some (if 1<=n/\n<=18 then some (n - 1,.agg (kd n).cells)else none):=by
   by_cases h:n<=18
   .have:n=0\/n=1\/n=2\/n=3\/n=4\/n=5\/n=6\/n=7\/n=8\/n=9\/n=10\/n=11\/n=12\/n=13\/n=14\/n=15\/n=16\/n=17\/n=18:=(by omega);rcases this with rfl|rfl|rfl|rfl|rfl|rfl|rfl|rfl|rfl|rfl|rfl|rfl|rfl|rfl|rfl|rfl|rfl|rfl|rfl<;>rfl
   . have GF:∀j:Int,j<=18->AZ (n:Int) j=false:=λj hj=>by rw[n9];simp;omega
     rw[Za6 (by omega)];simp[EL,gM,yd,GF,dG]
 have:∀z:AV,aE.run (λb=>st.heap.get b) st.next (.lookup .i z false) [.map m,.int .u8 (n:Int)]=some (.val (if 1<=n/\n<=18 then .agg (kd n).cells else z)):=λz=>by
   simp only[aE.run,lz,h,e];by_cases h1:1<=n/\n<=18
   .rw[Zb4 h1,Zb4 h1]
   .rw[Za6 h1,Za6 h1]
 unfold aq cC;rw[this];by_cases h1:1<=n/\n<=18
 .rw[Zb4 h1]
 .rw[Za6 h1];have:kd n=⟨[],0,false,0,false,0,false,.jM⟩:=(by unfold kd;split<;>first|rfl|omega);rw[this];rfl
theorem as6(n:Nat):(kd n).kB=true->(kd n).t=116:=by unfold kd;split<;>simp
def Rl.Ok(r:Rl):Prop:=0<=r.k/\r.k<256
def ua(p:cr)(r:Rl):Int:=Sa (kd r.k.toNat) p r
def nU(p:cr):Nat->Nat->Int×Int
 |0,_=>(0,0)
 |  m+1,i=>match p.rs[i]? with
    |none=>(0,0)
    |some r=>if ua p r≠0 then((i:Int),ua p r)else if i=64 then((i:Int),7)else nU p m (i+1)
theorem ZR(p:cr):∀(m i:Nat),(nU p m i).2=0->(nU p m i).1=0
 |0,_,_=>rfl
 |m+    1,i,h=>by
  rw[nU]at h ⊢;cases h0:p.rs[i]? with
  |none=>rfl
  |some r=>
   rw[h0]at h;simp only at h ⊢;by_cases h1:ua p r=0
   .    rw[Za6 (by simp[h1])]at h ⊢;by_cases h2:i=64
        .rw[Zb4 h2]at h;simp at h
        .rw[Za6 h2]at h ⊢; exact ZR p m (i+1) h
   .    rw[Zb4 h1]at h;exact absurd h h1
def jZ(p:cr):Int×Int:=if(jF p).2≠0 then jF p else nU p 100 0
theorem alK(hc:Sem c)(p:cr)(hp:p.Gw)(hr:∀r∈p.rs,r.Ok)(hv:(bR p.ts).2=0)(q1 mp:Pos)(cl:Nat)(F:Nat)(k1 k2):∀(m k:Nat)(st:St),Wf st->st.heap.get q1=some (.cells p.cells 0)->st.heap.get mp=some (.map EL cl)->p.rs.length<=k+m->k<=p.rs.length->
  ∃st',Grew st st'/\wF c F k1 k2 (m+1) [.ptr q1 0,.map mp,jx p.rz p.rs,.int .i64 (p.rs.length:Int),.int .i64 (k:Int)] st=if(nU p m k).2=0 then k2 [] st' else k1 [.int .i64 (nU p m k).1,.int .i64 (nU p m k).2] st':=by
 have hl:=hp.rs;intro m;induction m with
 |zero=>
  intro k st hw h1 h2 h3 h4;obtain rfl:k=p.rs.length:=by omega
  refine⟨st,Grew.refl hw,?_⟩;rw[Di];simp[nU]
 |succ m ih=>
  intro k st hw hq hm h3 h4;by_cases h:k<p.rs.length
  . have w:ax .i64 ((k:Int)+1)=((k+1:Nat):Int):=wrap64 (by omega) (by omega);have cO:Wf (ah st (.cells p.rs[k].cells 0)):=bF hw;have hg:=Grew.ah hw (.cells p.rs[k].cells 0);have hq1:=hg.get hq;have mR:=hg.get hm;have hn:=aA st (.cells p.rs[k].cells 0);obtain⟨n,hk⟩:∃n:Nat,p.rs[k].k=(n:Int):=⟨p.rs[k].k.toNat,by have:=(hr _ (Zb8 h)).1;omega⟩
    have hkc:=an8 hc (kd n) (as6 n) p hp hv p.rs[k] _ cO;have hS:ua p p.rs[k]=Sa (kd n) p p.rs[k]:=(by unfold ua;rw[hk];rfl);have Rk:=λ(K:AV->St->Option (AV×St))=>as5 c K _ mp cl mR n
    have iY:=λ(K:AV->St->Option (AV×St))=>cG c K st 6 (.agg p.rs[k].cells) [.int .u8 0,.int .i64 0,.str [],.str [],.str [],.int .i64 0] rfl rfl (Rl.one _)
    rw[show(AV.agg p.rs[k].cells).cells=p.rs[k].cells from rfl]at iY;rw[<-hS]at hkc;rw[<-hk]at Rk;obtain⟨st',g1,g2⟩:=ih (k+1) _ cO hq1 mR (by omega) (by omega);rw[Di,nU,H0 h];simp only;by_cases h5:ua p p.rs[k]=0
    .   rw[Za6 (by simp[h5])];by_cases h6:k=64
        .refine⟨_,hg,?_⟩;rw[Zb4 h6];have h6i:decide ((k:Int)=64)=true:=(by simp only[Ze7];omega);simp[-cG,iY,jx,h,hq1,mR,Rk,hkc,h5,h6i]
        .refine⟨st',hg.trans g1,?_⟩;rw[Za6 h6, <-g2];have h6i:¬(k:Int)=64:=(by omega);simp[-cG,iY,jx,h,hq1,mR,Rk,hkc,h5,h6i,w]
    .   refine⟨_,hg,?_⟩;rw[Zb4 h5];simp[-cG,iY,jx,h,hq1,mR,Rk,hkc,h5]
  .obtain rfl:k=p.rs.length:=(by omega);refine⟨st,Grew.refl hw,?_⟩;rw[Di];simp[nU]
theorem ajd{p:cr}(h:(jF p).2=0):(bR p.ts).2=0:=by
 unfold jF at h;by_cases h1:(bR p.ts).2=0
 .exact h1
 .rw[Zb4 h1]at h;exact absurd h h1
theorem afx(hc:Sem c)(p:cr)(hp:p.Gw)(hR:acE c p)(hr:∀r∈p.rs,r.Ok)(st:St)(hw:Wf st):c 56 [.agg p.cells] st=some (.tuple [.int .i64 (jZ p).1,.int .i64 (jZ p).2],st):=by
 have zx:Plain (.tuple [.int .i64 (jZ p).1,.int .i64 (jZ p).2]):=Plain.tuple (by simp[Plain.int]);have cO:Wf (ah st (.cells p.cells 0)):=bF hw;have hg1:=Grew.ah hw (.cells p.cells 0);have ke:(ah st (.cells p.cells 0)).heap.get st.next=some (.cells p.cells 0):=aA _ _;have B:=aqN hc p hp hR _ cO;by_cases h:(jF p).2=0
 . have hv:=ajd h;have K:=ah3 hc (ah st (.cells p.cells 0));have sH:Wf (ah (ah st (.cells p.cells 0)) (.map EL 18)):=bF cO;have zA:=Grew.ah cO (.map EL 18);obtain⟨st',g1,g2⟩:=alK hc p hp hr hv st.next (ah st (.cells p.cells 0)).next 18 101 (λvs s50=>gV vs λx2 vs=>gV vs λx3 vs=>mo vs (
   some (.tuple [x2,x3],s50))) (λvs s51=>mo vs (
   aq c .move [(.int .i64 0)] s51 λx2 s52=>
 aq c .move [(.int .i64 0)] s52 λx3 s53=>
 some (.tuple [x2,x3],s53))) 100 0 _ sH (zA.get ke) (aA _ _) (by have:=hp.rs;omega) (by omega)
   have e:jZ p=nU p 100 0:=(by unfold jZ;rw[Za6 (by simp[h])]);have e0:=ajc h;rw[Qh hc 101 (r:=(.tuple [.int .i64 (jZ p).1,.int .i64 (jZ p).2],st')),aF zx ((hg1.trans zA).trans g1).keeps];rw[WY,e];simp at g2;simp[ke,B,h,K,g2];by_cases h2:(nU p 100 0).2=0
   .have:=ZR p 100 0 h2;simp[h2,this]
   .simp[h2]
 .have e:jZ p=jF p:=(by unfold jZ;rw[Zb4 h]);rw[Qh hc 101 (r:=(.tuple [.int .i64 (jZ p).1,.int .i64 (jZ p).2],ah st (.cells p.cells 0))),aF zx hg1.keeps];rw[WY,e];simp[ke,B,h]
def wl:List AV:=(List.range 19).map λi=>.str (kd i).w
end
section
open Go Go.Ai Go.Proofs
variable{c:aj}
end
section
open Go Go.Ai Go.Proofs
variable{c:aj}
end
section
open Go Go.Ai Go.Proofs
theorem Gt{Q:List AV->Prop}{Qs:List (List AV->Prop)}{ps:List (List AV)}(h:RI (Q::Qs) ps):∃p qs,ps=p::qs/\Q p/\RI Qs qs:=by
 cases ps with
 |nil=>exact h.elim
 |cons p qs=>exact⟨p,qs,rfl,h⟩
theorem ag8{ps:List (List AV)}(h:RI [] ps):ps=[]:=by
 cases ps with
 |nil=>rfl
 |cons p qs=>exact h.elim
section
variable{H:Type}{enc:TypeId×Value->H}{w:World}{base:Nat}{spare:Nat->Bool}{held:Bool}
end
variable{c:aj}
abbrev lim:Nat:=1048576
abbrev bJ(i:Int):List AV:=[.int .i64 i]
abbrev SD(s:List Nat):List AV:=[.str s]
def aB.av(t:aB)(v:AV):List AV:=[.str t.name,.int .u8 t.sh,.int .i64 t.a,.int .i64 t.b,v,.int .i64 t.x,.int .i64 t.y]
theorem aB.Le(t:aB){v:AV}(h:aN [v]=true):aN (t.av v)=true:=by
 simp only[aN]at h;unfold aB.av;simp only[aN,AV.one,h,Zk6,Zj5]at*
structure TS(s0 s:St)(V:AV)(ts:List aB)(rows:List (List AV)):Prop where
 out:Mk 7 s0 s V rows
 len:rows.length=ts.length
 dY:∀(i:Nat)(t:aB)(r:List AV),ts[i]? =some t->rows[i]? =some r->∃v,r=t.av v/\Mk 1 s0 s v (t.kA.map bJ)/\∀b,aK v=some b->aK V≠some b
structure GS(s0 s:St)(V:AV)(ts:List aR)(rows:List (List AV)):Prop where
 out:Mk 9 s0 s V rows
 len:rows.length=ts.length
 dY:∀(i:Nat)(t:aR)(r:List AV),ts[i]? =some t->rows[i]? =some r->∃v,r=t.av v/\Mk 1 s0 s v (t.tg.map SD)/\∀b,aK v=some b->aK V≠some b
structure PS(s0 s:St)(Vs:List AV)(p:cr):Prop where
 ai:Grew s0 s
 all:∃V1 V2 V3 V4 V5 r1 r2,Vs=[V1,V2,V3,V4,V5]/\TS s0 s V1 p.ts r1/\GS s0 s V2 p.gs r2/\Mk 3 s0 s V3 (p.ys.map Ty.cells)/\Mk 1 s0 s V4 (p.cs.map bJ)/\Mk 6 s0 s V5 (p.rs.map Rl.cells)
theorem TS.qO{s0 s s':St}{V:AV}{ts:List aB}{rows:List (List AV)}(h:TS s0 s V ts rows)(hg:Grew s0 s')(hk:∀b x,s0.next.toNat<=b.toNat->(aK V=some b\/∃(i:Nat) (r:List AV) (v:AV),rows[i]? =some r/\r[4]? =some v/\aK v=some b)->s.heap.get b=some x->s'.heap.get b=some x):TS s0 s' V ts rows:=
 ⟨Mk.qO h.out hg λb x hb hx=>hk b x (h.out.new b hb) (.inl hb) hx,h.len,λi t r hi hr=>by
  obtain⟨v,e1,e2,e3⟩:=h.dY i t r hi hr;exact⟨v,e1,Mk.qO e2 hg λb x hb hx=>hk b x (e2.new b hb) (.inr ⟨i,r,v,hr,by rw[e1];rfl,hb⟩) hx,e3⟩⟩
theorem GS.qO{s0 s s':St}{V:AV}{ts:List aR}{rows:List (List AV)}(h:GS s0 s V ts rows)(hg:Grew s0 s')(hk:∀b x,s0.next.toNat<=b.toNat->(aK V=some b\/∃(i:Nat) (r:List AV) (v:AV),rows[i]? =some r/\r[8]? =some v/\aK v=some b)->s.heap.get b=some x->s'.heap.get b=some x):GS s0 s' V ts rows:=
 ⟨Mk.qO h.out hg λb x hb hx=>hk b x (h.out.new b hb) (.inl hb) hx,h.len,λi t r hi hr=>by
  obtain⟨v,e1,e2,e3⟩:=h.dY i t r hi hr;exact⟨v,e1,Mk.qO e2 hg λb x hb hx=>hk b x (e2.new b hb) (.inr ⟨i,r,v,hr,by rw[e1];rfl,hb⟩) hx,e3⟩⟩
structure aB.Real(t:aB):Prop where
 name:∀x∈t.name,x<256
 kA:t.kA.length<=lim
structure aR.Real(g:aR):Prop where
 name:∀x∈g.name,x<256
 zQ:∀x∈g.zQ,x<256
 kj:∀x∈g.kj,x<256
 nD:∀x∈g.nD,x<256
 tg:g.tg.length<=lim
theorem TS.qP{s0 s1 s s':St}{V:AV}{ts:List aB}{rows:List (List AV)}(h:TS s1 s V ts rows)(h0:Wf s0)(M7:Grew s0 s1)(hg:Grew s0 s')(hk:∀q b,s1.next.toNat<=q.toNat->s.heap.get q=some b->s'.heap.get q=some b):TS s0 s' V ts rows:=
 ⟨Mk.qP h.out h0 M7 hg hk,h.len,λi t r hi hr=>by obtain⟨v,e1,e2,e3⟩:=h.dY i t r hi hr;exact⟨v,e1,Mk.qP e2 h0 M7 hg hk,e3⟩⟩
theorem GS.qP{s0 s1 s s':St}{V:AV}{ts:List aR}{rows:List (List AV)}(h:GS s1 s V ts rows)(h0:Wf s0)(M7:Grew s0 s1)(hg:Grew s0 s')(hk:∀q b,s1.next.toNat<=q.toNat->s.heap.get q=some b->s'.heap.get q=some b):GS s0 s' V ts rows:=
 ⟨Mk.qP h.out h0 M7 hg hk,h.len,λi t r hi hr=>by obtain⟨v,e1,e2,e3⟩:=h.dY i t r hi hr;exact⟨v,e1,Mk.qP e2 h0 M7 hg hk,e3⟩⟩
structure cr.Real(p:cr):Prop where
 ts:p.ts.length<=1000
 tab:∀t∈p.ts,t.Real
 gs:p.gs.length<=1000
 qy:∀t∈p.gs,t.Real
 ys:p.ys.length<=lim
 cs:p.cs.length<=lim
 rs:p.rs.length<=lim
theorem GU{R:Type}{p:Pos}{o:Nat}{h:T AB}{v:AV}(hv:((cellsOf (h.get p)).bind λcs=>cs[o]?)=some v)(ok:AV->Bool)(cw:ok v=true)(K:AV->Option R):jt (.load none) [.ptr p o] h ok K=K v:=by
 unfold jt;have e:aE.run (λ_=>none) .h (.load none) [.ptr p o]=none:=rfl;rw[e];simp only;rw[sM,hv];simp only[Zd9];rw[cw]
theorem Lu{p:Pos}{o:Nat}{h:T AB}{v:AV}(hv:((cellsOf (h.get p)).bind λcs=>cs[o]?)=some v)(hb:eO v v=true):oR (.load none) [.ptr p o] v (nG [] h)=true:=by unfold oR;show(match aE.run (λb=>h.get b) .h (.load none) [.ptr p o]with|some (.val u)=>eO u v|_=>false)=true;rw[sM,hv];exact hb
abbrev Sm(v:Int):Prop:=0<=v/\v<=1000000
def alL(a x y:Int):Bool:=decide (y - x=1)||decide (y - x=a - 1)
def alM(a x y:Int):Bool:=decide (a.tmod 2=0)&&decide (y - x=a.tdiv 2)
def Ih(a b:Int):Int:=a+min b 1
def alN(a b x y:Int):Bool:=
 bif decide (b=2)&&decide (y=2*a+1)then decide (x=0)||decide (x=y - 1)
 else bif decide (0<b)&&(decide (x=a)||decide (y=a))then decide (y - x=1)else decide (y - x=1)&&(decide (y<a)||decide (Ih a b<=x))
def alO(a b x y:Int):Bool:=bif decide (b=2)&&decide (y=2*a+1)then decide (x=a)else decide (x<a)&&decide (x+y=Ih a b+a - 1)
def alP(x y:Int):Bool:=decide (y - x=1)
def alQ(a b x y:Int):Bool:=decide (x<b)&&decide (x+y=a+2*b - 1)
def alR(b x y:Int):Bool:=decide (y - x=1)&&(decide (b=0)|| !decide (y.tmod b=0))
theorem adY(hc:Sem c)(a b x y:Int)(ha:Sm a)(hx:Sm x)(hy:Sm y)(st:St):
  c 205 [.int .i64 a,.int .i64 b,.int .i64 x,.int .i64 y] st=some (.bool (alL a x y),st):=by
 have w1:ax .i64 (y - x)=y - x:=wrap64 (by omega) (by omega);have w2:ax .i64 (a - 1)=a - 1:=wrap64 (by omega) (by omega);rw[SE hc 1 (r:=(.bool (alL a x y),st)),aF (Plain.bool _) (aX.refl st)];rw[WZ];unfold alL;cases h:decide (y - x=1)<;>simp[w1,w2,h]
theorem adZ(hc:Sem c)(a b x y:Int)(ha:Sm a)(hx:Sm x)(hy:Sm y)(st:St):
  c 206 [.int .i64 a,.int .i64 b,.int .i64 x,.int .i64 y] st=some (.bool (alM a x y),st):=by
 have w1:ax .i64 (y - x)=y - x:=wrap64 (by omega) (by omega);have hq:0<=a.tdiv 2/\a.tdiv 2<=1000000:=by rw[Zi4 ha.1];omega
 have w2:ax .i64 (a.tdiv 2)=a.tdiv 2:=wrap64 (by omega) (by omega);rw[SG hc 1 (r:=(.bool (alM a x y),st)),aF (Plain.bool _) (aX.refl st)];rw[W4];unfold alM;cases h:decide (a.tmod 2=0)<;>simp[w1,w2,h]
theorem akf(hc:Sem c)(a b:Int)(ha:Sm a)(hb:Sm b)(st:St):c 238 [.int .i64 a,.int .i64 b] st=some (.int .i64 (Ih a b),st):=by
 have w1:ax .i64 (a+min b 1)=a+min b 1:=wrap64 (by omega) (by omega);rw[ah5 hc 1 (r:=(.int .i64 (Ih a b),st)),aF (Plain.int _ _) (aX.refl st)];rw[alS];unfold Ih;simp[w1]
theorem afy (hc:Sem c)(a b x y:Int)(ha:Sm a)(hb:Sm b)(hx:Sm x)(hy:Sm y)(st:St):
   c 210 [.int .i64 a,.int .i64 b,.int .i64 x,.int .i64 y] st=some (.bool (alN a b x y),st):=by
 have w1:ax .i64 (y - x)=y - x:=wrap64 (by omega) (by omega);have w2:ax .i64 (y - 1)=y - 1:=wrap64 (by omega) (by omega);have w3:ax .i64 (2*a)=2*a:=wrap64 (by omega) (by omega);have w4:ax .i64 (2*a+1)=2*a+1:=wrap64 (by omega) (by omega);have t:=akf hc a b ha hb st;rw[US hc 1 (r:=(.bool (alN a b x y),st)),aF (Plain.bool _) (aX.refl st)];rw[Y9];unfold alN;cases h1:decide (b=2)
 . cases  h4:decide (0<b)
   . cases h7:decide (y - x=1)
     .  simp[w1,w2,w3,w4,t,h1,h4,h7]
     .  cases h8:decide (y<a)<;>simp[w1,w2,w3,w4,t,h1,h4,h7,h8]
   . cases h5:decide (x=a)
     .  cases h6:decide (y=a)
        . cases h7:decide (y - x=1)
          .simp[w1,w2,w3,w4,t,h1,h4,h5,h6,h7]
          .cases h8:decide (y<a)<;>simp[w1,w2,w3,w4,t,h1,h4,h5,h6,h7,h8]
        .simp[w1,w2,w3,w4,t,h1,h4,h5,h6]
     .  simp[w1,w2,w3,w4,t,h1,h4,h5]
 . cases  h2:decide (y=2*a+1)
   . cases  h4:decide (0<b)
     .  simp at h1 h4;omega
     .  cases h5:decide (x=a)
        . cases h6:decide (y=a)
          . cases h7:decide (y - x=1)
            .simp[w1,w2,w3,w4,t,h1,h2,h4,h5,h6,h7]
            .cases h8:decide (y<a)<;>simp[w1,w2,w3,w4,t,h1,h2,h4,h5,h6,h7,h8]
          .simp[w1,w2,w3,w4,t,h1,h2,h4,h5,h6]
        .simp[w1,w2,w3,w4,t,h1,h2,h4,h5]
   .cases h3:decide (x=0)<;>simp[w1,w2,w3,w4,t,h1,h2,h3]
theorem afz(hc:Sem c)(a b x y:Int)(ha:Sm a)(hb:Sm b)(hx:Sm x)(hy:Sm y)(st:St):
   c 211 [.int .i64 a,.int .i64 b,.int .i64 x,.int .i64 y] st=some (.bool (alO a b x y),st):=by
 have w1:ax .i64 (x+y)=x+y:=wrap64 (by omega) (by omega);have w3:ax .i64 (2*a)=2*a:=wrap64 (by omega) (by omega);have w4:ax .i64 (2*a+1)=2*a+1:=wrap64 (by omega) (by omega);have hT:0<=Ih a b/\Ih a b<=1000001:=by unfold Ih;omega
 have w5:ax .i64 (Ih a b+a)=Ih a b+a:=wrap64 (by omega) (by omega);have w6:ax .i64 (Ih a b+a - 1)=Ih a b+a - 1:=wrap64 (by omega) (by omega);have t:=akf hc a b ha hb st;rw[UT hc 1 (r:=(.bool (alO a b x y),st)),aF (Plain.bool _) (aX.refl st)];rw[Za];unfold alO;cases h1:decide (b=2)
 .cases h3:decide (x<a)<;>simp[w1,w3,w4,w5,w6,t,h1,h3]
 . cases h2:decide (y=2*a+1)
   .cases h3:decide (x<a)<;>simp[w1,w3,w4,w5,w6,t,h1,h2,h3]
   .simp[w1,w3,w4,t,h1,h2]
theorem afA(hc:Sem c)(a b x y:Int)(hx:Sm x)(hy:Sm y)(st:St):
  c 215 [.int .i64 a,.int .i64 b,.int .i64 x,.int .i64 y] st=some (.bool (alP x y),st):=by
 have w1:ax .i64 (y - x)=y - x:=wrap64 (by omega) (by omega);rw[UU hc 1 (r:=(.bool (alP x y),st)),aF (Plain.bool _) (aX.refl st)];rw[Zb];unfold alP;simp[w1]
theorem afB(hc:Sem c)(a b x y:Int)(ha:Sm a)(hb:Sm b)(hx:Sm x)(hy:Sm y)(st:St):
  c 216 [.int .i64 a,.int .i64 b,.int .i64 x,.int .i64 y] st=some (.bool (alQ a b x y),st):=by
 have w1:ax .i64 (x+y)=x+y:=wrap64 (by omega) (by omega);have w2:ax .i64 (2*b)=2*b:=wrap64 (by omega) (by omega);have w3:ax .i64 (a+2*b)=a+2*b:=wrap64 (by omega) (by omega);have w4:ax .i64 (a+2*b - 1)=a+2*b - 1:=wrap64 (by omega) (by omega);rw[UW hc 1 (r:=(.bool (alQ a b x y),st)),aF (Plain.bool _) (aX.refl st)];rw[Zc];unfold alQ;cases h:decide (x<b)<;>simp[w1,w2,w3,w4,h]
theorem ah6(hc:Sem c)(a b x y:Int)(hx:Sm x)(hy:Sm y)(st:St):
   c 220 [.int .i64 a,.int .i64 b,.int .i64 x,.int .i64 y] st=some (.bool (alR b x y),st):=by
 have w1:ax .i64 (y - x)=y - x:=wrap64 (by omega) (by omega);rw[W6 hc 1 (r:=(.bool (alR b x y),st)),aF (Plain.bool _) (aX.refl st)];rw[abb];unfold alR;cases h:decide (y - x=1)
 .simp[w1,h]
 . cases h2:decide (b=0)
   .have hb:b≠0:=(by simpa using h2);simp[w1,h,h2,adp _ _ _ _ _ _ _ hb]
   .simp[w1,h,h2]
theorem avg(hc:Sem c)(a b x y:Int)(st:St):c 221 [.int .i64 a,.int .i64 b,.int .i64 x,.int .i64 y] st=some (.bool false,st):=by rw[UX hc 1 (r:=(.bool false,st)),aF (Plain.bool _) (aX.refl st)];rw[Zd];simp
structure aB.Fit(t:aB):Prop where
 sh:1<=t.sh/\t.sh<=4
 a:0<=t.a/\t.a<=24
 b:0<=t.b/\t.b<=24
theorem acF{t:aB}(h:bw t≠0):t.Fit:=by
 unfold bw at h;split at h
 . split at h
   .exact⟨by omega,by omega,by omega⟩
   .exact absurd rfl h
 split at h
 . split at h
   .exact⟨by omega,by omega,by omega⟩
   .exact absurd rfl h
 split at h
 . split at h
   .exact⟨by omega,by omega,by omega⟩
   .exact absurd rfl h
 split at h
 . split at h
   .exact⟨by omega,by omega,by omega⟩
   .exact absurd rfl h
 .exact absurd rfl h
def FG(t:aB)(x y:Int):Bool:=
 !decide (x=y)&&(if t.sh=1 then alL t.a (min x y) (max x y)else if t.sh=2 then alN t.a t.b (min x y) (max x y)else if t.sh=3 then alP (min x y) (max x y)else alR t.b (min x y) (max x y))
def Ib(t:aB)(x y:Int):Bool:=
 !decide (x=y)&&(if t.sh=1 then alM t.a (min x y) (max x y)else if t.sh=2 then alO t.a t.b (min x y) (max x y)else if t.sh=3 then alQ t.a t.b (min x y) (max x y)else false)
def zU(t:aB)(x y:Int):Bool:=FG t x y||Ib t x y
theorem aeS(hc:Sem c)(t:aB)(ht:t.Fit)(x y:Int)(hx:Sm x)(hy:Sm y)(st:St)(hw:Wf st):
   c 126 [.agg t.cells,.int .i64 x,.int .i64 y] st=some (.bool (FG t x y),st):=by
 have hm:Sm (min x y):=by omega
 have hM:Sm (max x y):=by omega
 obtain⟨⟨s1,s2⟩,⟨a1,a2⟩,b1,b2⟩:=ht;rw[acG hc 1 (r:=(.bool (FG t x y),ah (ah st (.cells t.cells 0)) (.cells (ia t.sh) 0))),aF (Plain.bool _) ((cq hw).trans (cq (bF hw)))];rw[afC];obtain⟨name,sh,a,b,oz,kA,tx,ty⟩:=t;simp only at s1 s2 a1 a2 b1 b2;have ha:Sm a:=by omega
 have hb:Sm b:=by omega
 have hS:sh=1\/sh=2\/sh=3\/sh=4:=by omega
 cases h:decide (x=y)
 . rcases hS with rfl|rfl|rfl|rfl
   .simp[aB.cells,AV.cells,fH hc,hw,FG,ia,aN,AV.one,h,adY hc a b _ _ ha hm hM]
   .simp[aB.cells,AV.cells,fH hc,hw,FG,ia,aN,AV.one,h,afy hc a b _ _ ha hb hm hM]
   .simp[aB.cells,AV.cells,fH hc,hw,FG,ia,aN,AV.one,h,afA hc a b _ _ hm hM]
   .simp[aB.cells,AV.cells,fH hc,hw,FG,ia,aN,AV.one,h,ah6 hc a b _ _ hm hM]
 .rcases hS with rfl|rfl|rfl|rfl<;>simp[aB.cells,AV.cells,fH hc,hw,FG,ia,aN,AV.one,h]
theorem aeT(hc:Sem c)(t:aB)(ht:t.Fit)(x y:Int)(hx:Sm x)(hy:Sm y)(st:St)(hw:Wf st):
   c 127 [.agg t.cells,.int .i64 x,.int .i64 y] st=some (.bool (Ib t x y),st):=by
 have hm:Sm (min x y):=by omega
 have hM:Sm (max x y):=by omega
 obtain⟨⟨s1,s2⟩,⟨a1,a2⟩,b1,b2⟩:=ht;rw[acH hc 1 (r:=(.bool (Ib t x y),ah (ah st (.cells t.cells 0)) (.cells (ia t.sh) 0))),aF (Plain.bool _) ((cq hw).trans (cq (bF hw)))];rw[afD];obtain⟨name,sh,a,b,oz,kA,tx,ty⟩:=t;simp only at s1 s2 a1 a2 b1 b2;have ha:Sm a:=by omega
 have hb:Sm b:=by omega
 have hS:sh=1\/sh=2\/sh=3\/sh=4:=by omega
 cases h:decide (x=y)
 . rcases hS with rfl|rfl|rfl|rfl
   .simp[aB.cells,AV.cells,fH hc,hw,Ib,ia,aN,AV.one,h,adZ hc a b _ _ ha hm hM]
   .simp[aB.cells,AV.cells,fH hc,hw,Ib,ia,aN,AV.one,h,afz hc a b _ _ ha hb hm hM]
   .simp[aB.cells,AV.cells,fH hc,hw,Ib,ia,aN,AV.one,h,afB hc a b _ _ ha hb hm hM]
   .simp[aB.cells,AV.cells,fH hc,hw,Ib,ia,aN,AV.one,h,avg hc]
 .rcases hS with rfl|rfl|rfl|rfl<;>simp[aB.cells,AV.cells,fH hc,hw,Ib,ia,aN,AV.one,h]
theorem as7(hc:Sem c)(t:aB)(ht:t.Fit)(x y:Int)(hx:Sm x)(hy:Sm y)(st:St)(hw:Wf st):
  c 224 [.agg t.cells,.int .i64 x,.int .i64 y] st=some (.bool (zU t x y),st):=by
 have hp:=aA st (.cells t.cells 0);have B:=aeS hc t ht x y hx hy _ (bF (b:= .cells t.cells 0) hw);have A:=aeT hc t ht x y hx hy _ (bF (b:= .cells t.cells 0) hw);rw[afE hc 1 (r:=(.bool (zU t x y),ah st (.cells t.cells 0))),aF (Plain.bool _) (cq hw)];rw[aje];unfold zU;cases h:FG t x y<;>simp[hp,B,A,h,aB.len]
def W7:List aB->Int->Nat->Option (Nat×Int)
 |[],_,_=>none
 |t::ts,s,i=>if s<bw t then some (i,s)else W7 ts (s - bw t) (i+1)
theorem ah7:∀{ts:List aB}{s:Int}{i:Nat}{k:Nat}{x:Int},0<=s->W7 ts s i=some (k,x)->i<=k/\0<=x/\∃t,ts[k - i]? =some t/\x<bw t
 |[],_,_,_,_,_,h=>by cases h
 |t ::ts,s,i,k,x,hs,h=>by
  unfold W7 at h;split at h
  .simp only[H5,Zd4]at h;obtain⟨rfl,rfl⟩:=h;exact⟨Za3 _,hs,t,by simp,by assumption⟩
  .obtain⟨h1,h2,t',h3,h4⟩:=ah7 (by omega) h;refine⟨by omega,h2,t',?_,h4⟩;rw[show k - i=(k - (i+1))+1 by omega,Zb6];exact h3
def EO:Option (Nat×Int)->AV
 |some (i,x)=>.tuple [.int .i64 (i:Int),.int .i64 x,.bool true]
 |none=>.tuple [.int .i64 0,.int .i64 0,.bool false]
theorem aeU(o:Option (Nat×Int)):Plain (EO o):=by
 cases o with
 |none=>exact Plain.tuple λv hv=>by simp at hv;rcases hv with rfl|rfl|rfl<;>first|exact Plain.int _ _|exact Plain.bool _
 |some p=>exact Plain.tuple λv hv=>by simp at hv;rcases hv with rfl|rfl|rfl<;>first|exact Plain.int _ _|exact Plain.bool _
def xT(ts:List aB)(s:Int):Option (Nat×Int):=if s<0\/(bR ts).2≠0 then none else W7 ts s 0
theorem alT(hc:Sem c)(z:Bool)(ts:List aB)(hl:ts.length<=16)(F:Nat)(k1 k2):∀(m k:Nat)(s:Int)(st:St),Wf st->ts.length<=k+m->k<=ts.length->0<=s->s<=4611686018427387904->
  ∃ st',Grew st st'/\se c F k1 k2 (m+1) [.int .i64 s,tabs z ts,.int .i64 (ts.length:Int),.int .i64 (k:Int)] st=
    (match W7 (ts.drop k) s k with|some (i,x)=>k1 [.int .i64 (i:Int),.int .i64 x,.bool true] st'|none=>k2 [] st'):=by
 intro m;induction m with
 |zero=>
  intro k s st hw h1 h2 h3 h4;obtain rfl:k=ts.length:=by omega
  refine⟨st,Grew.refl hw,?_⟩;rw[xX];simp[W7]
 |succ m ih=>
  intro k s st hw h1 h2 h3 h4;by_cases h:k<ts.length
  . have w:ax .i64 ((k:Int)+1)=((k+1:Nat):Int):=wrap64 (by omega) (by omega);have cO:Wf (ah st (.cells ts[k].cells 0)):=bF hw;have hg:=Grew.ah hw (.cells ts[k].cells 0);have hs:=P9 hc ts[k] _ cO;have b2:=Av ts[k];have w2:ax .i64 (s - bw ts[k])=s - bw ts[k]:=wrap64 (by omega) (by omega);rw[Ze2 h];unfold W7;by_cases aV:s<bw ts[k]
    .   refine⟨_,hg,?_⟩;rw[xX];simp[tabs,h,hs,aV,aB.len]
    .   obtain⟨st',g1,g2⟩:=ih (k+1) (s - bw ts[k]) _ cO (by omega) (by omega) (by omega) (by omega);refine⟨st',hg.trans g1,?_⟩;simp only[aV,Zh0];rw[<-g2,xX];simp[tabs,h,hs,w,w2,aV,aB.len]
  .obtain rfl:k=ts.length:=(by omega);refine⟨st,Grew.refl hw,?_⟩;rw[xX];simp[W7]
theorem SH(hc:Sem c)(z:Bool)(ts:List aB)(cw:∀t∈ts,t.Ok)(s:Int)(hs:s<=4611686018427387904)(st:St)(hw:Wf st):
   c 123 [tabs z ts,.int .i64 s] st=some (EO (xT ts s),st):=by
 have lT:∀(K:AV->St->Option (AV×St))(s:St),aq c (.lenB .l) [tabs z ts] s K=K (.int .i64 (ts.length:Int)) s:=λK s=>by unfold tabs;rw[jv];simp
 have hv:=Sx hc z ts cw st hw;by_cases h:s<0\/(bR ts).2≠0
 . have e:xT ts s=none:=(by rw[xT,Zb4 h]);rw[Qi hc 1 (r:=(EO (xT ts s),st)),aF (aeU _) (aX.refl st)];rw[W9,e];by_cases h1:s<0
   .simp[h1,EO]
   .have h3:(bR ts).2≠0:=h.resolve_left h1;simp[h1,h3,hv,EO]
 . have e:xT ts s=W7 ts s 0:=(by rw[xT,Za6 h]);have h1:¬s<0:=λe=>h (.inl e)
   have h3:(bR ts).2=0:=Zl5 λe=>h (.inr e)
   have hl:=Ng h3;have hex:=λk1 k2=>alT hc z ts hl 20 k1 k2 19 0 s st hw (by omega) (by omega) (by omega) hs
   obtain⟨st',hg,L⟩:=hex (λvs s40=>gV vs λx4 vs=>gV vs λx5 vs=>gV vs λx6 vs=>mo vs (some (.tuple [x4,x5,x6],s40)))
     (λvs s41=>mo vs (aq c .move [.int .i64 0] s41 λx4 s42=>aq c .move [.int .i64 0] s42 λx5 s43=>aq c .move [.bool false] s43 λx6 s44=>some (.tuple [x4,x5,x6],s44)))
   rw[Qi hc 20 (r:=(EO (xT ts s),st')),aF (aeU _) hg.keeps];rw[W9,e]
   have L':se c 20 (λvs s40=>gV vs λx4 vs=>gV vs λx5 vs=>gV vs λx6 vs=>mo vs (some (.tuple [x4,x5,x6],s40)))
     (fun vs s41=>mo vs (aq c .move [.int .i64 0] s41 fun x4 s42=>aq c .move [.int .i64 0] s42 fun x5 s43=>aq c .move [.bool false] s43 fun x6 s44=>some (.tuple [x4,x5,x6],s44))) 20
        [.int .i64 s,tabs z ts,.int .i64 (ts.length:Int),.int .i64 0] st=some (EO (W7 ts s 0),st'):=by
     have:=L;simp only[Ze6]at this;rw[show((0:Nat):Int)=0 from rfl]at this;rw[this];cases W7 ts s 0 with
     |none=>simp[EO]
     |some p=>simp[EO]
   simp at L';simp[h1,h3,hv,lT,L']
def oH(ts:List aB)(a b:Int):Option (aB×Int×Int):=match xT ts a,xT ts b with
 |some (i,x),some (k,y)=>if i=k then(ts[i]?).map λt=>(t,x,y)else none
 |_,_=>none
def zT:aB:=⟨[],0,0,0,true,[],0,0⟩
def Bc:Option (aB×Int×Int)->AV
 |some (t,x,y)=>.tuple [.agg t.cells,.int .i64 x,.int .i64 y,.bool true]
 |none=>.tuple [.agg zT.cells,.int .i64 0,.int .i64 0,.bool false]
theorem ZS(ts:List aB):∀(m k:Nat),ts.length<=k+m->(iD ts m k).2=0->∀(i:Nat)(t:aB),k<=i->ts[i]? =some t->rM t=0
 |0,k,h1,_,i,t,h3,h4=>by rw[Zc2 (by omega)]at h4;cases h4
 |m +   1,k,h1,h2,i,t,h3,h4=>by
  have hk:k<ts.length:=by have:=(Za1.1 h4).1;omega
  rw[iD,H0 hk]at h2;simp only at h2;by_cases h5:rM ts[k]=0
  . rw[Za6 (by simpa using h5)]at h2;split at h2
    .   simp at h2
    .   by_cases h6:i=k
        .subst h6;rw[H0 hk]at h4;cases h4;exact h5
        .exact ZS ts m (k+1) (by omega) h2 i t (by omega) h4
  .rw[Zb4 h5]at h2;exact absurd h2 h5
theorem aeV{ts:List aB}(h:(bR ts).2=0){i:Nat}{t:aB}(ht:ts[i]? =some t):rM t=0:=by
 unfold bR at h;split at h
 .simp at h
 .exact ZS ts _ 0 (by omega) h i t (by omega) ht
theorem an9{t:aB}(h:rM t=0):bw t≠0:=by
 unfold rM at h;split at h
 .cases h
 . split at h
   .cases h
   .assumption
theorem Lv{ts:List aB}{s:Int}{i:Nat}{x:Int}(h:xT ts s=some (i,x)):(bR ts).2=0/\0<=x/\∃t,ts[i]? =some t/\x<bw t/\t.Fit:=by
 unfold xT at h;split at h
 .cases h
 . (rename_i hn;have h1:¬s<0:=λe=>hn (.inl e));have h3:(bR ts).2=0:=Zl5 λe=>hn (.inr e)
   obtain⟨_,q2,t,q3,q4⟩:=ah7 (by omega) h;exact⟨h3,q2,t,q3,q4,acF (an9 (aeV h3 q3))⟩
theorem acI{ts:List aB}{a b:Int}{t:aB}{x y:Int}(h:oH ts a b=some (t,x,y)):t.Fit/\Sm x/\Sm y:=by
 unfold oH at h;split at h
 . rename_i i x' k y' h1 h2;split at h
   .rename_i hk;subst hk;obtain⟨_,p1,t1,p2,p3,p4⟩:=Lv h1;obtain⟨_,q1,t2,q2,q3,_⟩:=Lv h2;rw[p2]at q2 h;cases q2;simp only[Zd9,H5,Zd4]at h;obtain⟨rfl,rfl,rfl⟩:=h;have:=Av t1;exact⟨p4,by omega,by omega⟩
   .cases h
 .cases h
theorem ajf(o:Option (aB×Int×Int)):Plain (Bc o):=by
 cases o with
 |none=>exact Plain.tuple λv hv=>by simp at hv;rcases hv with rfl|rfl|rfl|rfl<;>first|exact Plain.agg (by intro v hv;simp only[aB.cells,Za9,Zc3,Zf0]at hv;rcases hv with rfl|rfl|rfl|rfl|rfl|rfl|rfl<;>first|exact Plain.str _|exact Plain.int _ _|exact ack _ _)|exact Plain.int _ _|exact Plain.bool _
 |some p=>exact Plain.tuple λv hv=>by simp at hv;rcases hv with rfl|rfl|rfl|rfl<;>first|exact Plain.agg (by intro v hv;simp only[aB.cells,Za9,Zc3,Zf0]at hv;rcases hv with rfl|rfl|rfl|rfl|rfl|rfl|rfl<;>first|exact Plain.str _|exact Plain.int _ _|exact ack _ _)|exact Plain.int _ _|exact Plain.bool _
def Be:Option (aB×Int×Int)->List AV
 |some (t,_,_)=>t.cells
 |none=>zT.cells
theorem ah8(hc:Sem c)(z:Bool)(ts:List aB)(cw:∀t∈ts,t.Ok)(a b:Int)(ha:a<=4611686018427387904)(hb:b<=4611686018427387904)(st:St)(hw:Wf st):
  c 125 [tabs z ts,.int .i64 a,.int .i64 b] st=some (Bc (oH ts a b),st):=by
 have cO:Wf (ah st (.cells [.str [],.int .u8 0,.int .i64 0,.int .i64 0,.af,.int .i64 0,.int .i64 0] 0)):=bF hw;have hcut:cut [AV.str [],.int .u8 0,.int .i64 0,.int .i64 0,.af,.int .i64 0,.int .i64 0] 0 7=some [AV.str [],.int .u8 0,.int .i64 0,.int .i64 0,.af,.int .i64 0,.int .i64 0]:=rfl;have Wa:=SH hc z ts cw a ha _ cO;have Wb:=SH hc z ts cw b hb _ cO;rw[afF hc 1 (r:=(Bc (oH ts a b),ah st (.cells (Be (oH ts a b)) 0))),aF (ajf _) (cq hw)];rw[ajg];cases h1:xT ts a with
 |none=>
  have e:oH ts a b=none:=by unfold oH;rw[h1]
  rw[h1]at Wa;rw[e];cases h2:xT ts b with
  |none=>rw[h2]at Wb;simp[Wa,Wb,EO,Bc,Be,zT,aB.cells,AV.cells,ints,ro,aN,AV.one,cF,hcut]
  |some q=>rw[h2]at Wb;simp[Wa,Wb,EO,Bc,Be,zT,aB.cells,AV.cells,ints,ro,aN,AV.one,cF,hcut]
 |some p=>
  obtain⟨i,x⟩:=p;rw[h1]at Wa;cases h2:xT ts b with
  |none=>
   have e:oH ts a b=none:=(by unfold oH;rw[h1,h2]);rw[h2]at Wb;rw[e];simp[Wa,Wb,EO,Bc,Be,zT,aB.cells,AV.cells,ints,ro,aN,AV.one,cF,hcut]
  |some q=>
   obtain⟨k,y⟩:=q;rw[h2]at Wb;obtain⟨_,p1,t1,p2,p3,p4⟩:=Lv h1;by_cases hk:i=k
   .    subst hk;have e:oH ts a b=some (t1,x,y):=(by unfold oH;rw[h1,h2];simp[p2]);obtain⟨hi,hg⟩:=Za1.1 p2;rw[e];subst hg;unfold tabs at Wa Wb ⊢;simp[Wa,Wb,EO,Bc,Be,hi,aB.len]
   .    have e:oH ts a b=none:=(by unfold oH;rw[h1,h2];simp[hk]);have pF:¬(i:Int)=(k:Int):=(by omega);rw[e];simp[Wa,Wb,EO,pF,Bc,Be,zT,aB.cells,AV.cells,ints,ro,aN,AV.one,cF,hcut]
def Lm(ts:List aB)(a b:Int):Bool:=match oH ts a b with|some (t,x,y)=>FG t x y|none=>false
def Ln(ts:List aB)(a b:Int):Bool:=match oH ts a b with|some (t,x,y)=>Ib t x y|none=>false
theorem aoa(hc:Sem c)(z:Bool)(ts:List aB)(cw:∀t∈ts,t.Ok)(a b:Int)(ha:a<=4611686018427387904)(hb:b<=4611686018427387904)(st:St)(hw:Wf st):
  c 64 [tabs z ts,.int .i64 a,.int .i64 b] st=some (.bool (Lm ts a b),st):=by
 have P:=ah8 hc z ts cw a b ha hb st hw;rw[acJ hc 1 (r:=(.bool (Lm ts a b),ah st (.cells (Be (oH ts a b)) 0))),aF (Plain.bool _) (cq hw)];rw[afG];unfold Lm;cases h:oH ts a b with
 |none=>rw[h]at P;simp[P,Bc,Be,aB.len]
 |some p=>
  obtain⟨t,x,y⟩:=p;obtain⟨q1,q2,q3⟩:=acI h;have B:=aeS hc t q1 x y q2 q3 (ah st (.cells t.cells 0)) (bF hw);rw[h]at P;simp[P,Bc,Be,aB.len,B]
theorem aob(hc:Sem c)(z:Bool)(ts:List aB)(cw:∀t∈ts,t.Ok)(a b:Int)(ha:a<=4611686018427387904)(hb:b<=4611686018427387904)(st:St)(hw:Wf st):
  c 66 [tabs z ts,.int .i64 a,.int .i64 b] st=some (.bool (Ln ts a b),st):=by
 have P:=ah8 hc z ts cw a b ha hb st hw;rw[acK hc 1 (r:=(.bool (Ln ts a b),ah st (.cells (Be (oH ts a b)) 0))),aF (Plain.bool _) (cq hw)];rw[afH];unfold Ln;cases h:oH ts a b with
 |none=>rw[h]at P;simp[P,Bc,Be,aB.len]
 |some p=>
  obtain⟨t,x,y⟩:=p;obtain⟨q1,q2,q3⟩:=acI h;have B:=aeT hc t q1 x y q2 q3 (ah st (.cells t.cells 0)) (bF hw);rw[h]at P;simp[P,Bc,Be,aB.len,B]
def yM(x:Int):List Int->Nat->Int
 |[],_=> -1
 |y::l,i=>if x=y then(i:Int)else yM x l (i+1)
theorem akg{x:Int}:∀(l:List Int)(i:Nat),(0<=yM x l i)↔x∈l
 |[],i=>by simp[yM]
 |y::l,i=>by
  unfold yM;by_cases h:x=y
  .simp[h]
  .rw[Za6 h,akg l (i+1)];simp[h]
theorem aoc(x:Int)(z:Bool)(l:List Int)(hl:l.length<wD)(F:Nat)(st:St)(k1 k2):∀(m k:Nat),l.length<=k+m->k<=l.length->
  j5 c F k1 k2 (m+1) [ints z l,.int .i64 x,.int .i64 (l.length:Int),.int .i64 (k:Int)] st=
    if 0<=yM x (l.drop k) k then k1 [.int .i64 (yM x (l.drop k) k)] st else k2 [] st:=by
 intro m;induction m with
 |zero=>
  intro k h1 h2;obtain rfl:k=l.length:=by omega
  rw[xY];simp[yM]
 |succ m ih=>
  intro k h1 h2;rw[xY];by_cases h:k<l.length
  . have w:ax .i64 ((k:Int)+1)=((k+1:Nat):Int):=wrap64 (by omega) (by unfold wD at hl;omega);rw[Ze2 h,yM];by_cases h3:x=l[k]
    .   subst h3;simp[ints,h]
    .   have:=ih (k+1) (by omega) (by omega);simp only[h3,Zh0];rw[<-this];simp[ints,h,h3,w]
  .obtain rfl:k=l.length:=(by omega);simp[yM]
theorem aod(hc:Sem c)(z:Bool)(l:List Int)(hl:l.length<wD)(x:Int)(st:St):c 138 [ints z l,.int .i64 x] st=some (.int .i64 (yM x l 0),st):=by
 have lI:∀(K:AV->St->Option (AV×St))(s:St),aq c (.lenB .l) [ints z l] s K=K (.int .i64 (l.length:Int)) s:=λK s=>by unfold ints;rw[jv];simp
 have L:=λk1 k2=>aoc (c:=c) x z l hl (l.length+1) st k1 k2 l.length 0 (by omega) (by omega)
 simp only[Ze6]at L;rw[Lw hc (l.length+1) (r:=(.int .i64 (yM x l 0),st)),aF (Plain.int _ _) (aX.refl st)];rw[Od];simp only[az,lI];rw[show(0:Int)=((0:Nat):Int)from rfl,L];by_cases h:0<=yM x l 0
 .simp[h]
 . have:yM x l 0= -1:=by
    have:∀(l:List Int)(i:Nat),0<=yM x l i\/yM x l i= -1:=by
        intro l;induction l with
        |nil=>intro i;exact .inr rfl
        |cons y l ih=>intro i;unfold yM;split;exact .inl (by omega);exact ih _
    exact(this l 0).resolve_left h
   simp[h,this]
theorem ah9(hc:Sem c)(z:Bool)(l:List Int)(hl:l.length<wD)(x:Int)(st:St):c 73 [ints z l,.int .i64 x] st=some (.bool (decide (x∈l)),st):=by
 rw[GV hc 1 (r:=(.bool (decide (x∈l)),st)),aF (Plain.bool _) (aX.refl st)];rw[Kg];have e:decide (0<=yM x l 0)=decide (x∈l):=by rw[decide_eq_decide];exact akg l 0
 simp[aod hc z l hl x st,e]
def NU(ts:List aB)(a:Int):Bool:=match xT ts a with|some (i,x)=>decide (x∈(ts[i]?.getD zT).kA)|none=>false
theorem as8(hc:Sem c)(z:Bool)(ts:List aB)(cw:∀t∈ts,t.Ok)(a:Int)(ha:a<=4611686018427387904)(st:St)(hw:Wf st):
  c 61 [tabs z ts,.int .i64 a] st=some (.bool (NU ts a),st):=by
 have W:=SH hc z ts cw a ha st hw;rw[afI hc 1 (r:=(.bool (NU ts a),st)),aF (Plain.bool _) (aX.refl st)];rw[ajh];unfold NU;cases h:xT ts a with
 |none=>rw[h]at W;simp[W,EO]
 |some p=>
  obtain⟨i,x⟩:=p;obtain⟨_,p1,t1,p2,p3,p4⟩:=Lv h;obtain⟨hi,hg⟩:=Za1.1 p2;subst hg;have c4:(ts[i]).cells[4]? =some (ints (ts[i]).oz (ts[i]).kA):=rfl;have C:=ah9 hc (ts[i]).oz (ts[i]).kA (cw _ (Zb8 hi)).kA x st;rw[h]at W;unfold tabs at W ⊢;simp[W,EO,hi,c4,C]
abbrev aia(m:Nat):List AV:=[.int .i64 (m:Int)]
abbrev cI(i:Int):AV:= .int .i64 i
def qG(nr:Nat->Bool)(k:Nat):List Nat->List Int->List Nat->List Int×List Nat
 |[],o,q=>(o,q)
 |m::ms,o,q=>if o.getD m 0<0/\nr m=true then qG nr k ms (o.set m (o.getD k 0+1)) (q++[m])else qG nr k ms o q
def af0(nr:Nat->Nat->Bool)(n:Nat):Nat->List Int->List Nat->List Int
 |0,o,_=>o
 |_+1,o,[]=>o
 |f+1,o,k::q=>af0 nr n f (qG (nr k) k (List.range n) o q).1 (qG (nr k) k (List.range n) o q).2
structure SI(s0 s:St)(pt po:Pos)(t:aB)(n:Nat)(o:List Int)(qv:AV)(q:List Nat)(B:Int):Prop where
 jk:Wf s0
 ai:Grew s0 s
 tab:s.heap.get pt=some (.cells t.cells 0)
 out:s.heap.get po=some (.cells (o.map cI) 0)
 len:o.length=n
 Lx:QS 1 s qv (q.map aia)
 ne1:aK qv≠some pt
 ne2:aK qv≠some po
 ne3:pt≠po
 aqP:s0.next.toNat<=pt.toNat
 alU:s0.next.toNat<=po.toNat
 FL:∀b,aK qv=some b->s0.next.toNat<=b.toNat
 small:∀v∈o,-1<=v/\v<=B
 qlt:∀m∈q,m<n
theorem Kh(o:List Int)(j:Nat)(h:j<o.length)(v:Int):aQ (o.map cI) j [cI v]=(o.set j v).map cI:=by unfold aQ;rw[Zq2,Zo0,Zb4 (by simpa using h)];simp
theorem as9 (hc:Sem c){s0:St}{pt po:Pos}{t:aB}(ht:t.Fit){n:Nat}(hn:n<=1000){k:Nat}(hk:k<n){B:Int}(hB:B<=1000000)(F:Nat)(k6):
  ∀ (r j f:Nat)(s:St)(o:List Int)(qv:AV)(q:List Nat),r<f->j+r=n->SI s0 s pt po t n o qv q (B+1)->o.getD k 0<=B->0<=o.getD k 0->q.length<=4000+j->
    ∃   s' qv',SI s0 s' pt po t n (qG (λm=>zU t k m) k (List.range' j r) o q).1 qv' (qG (λm=>zU t k m) k (List.range' j r) o q).2 (B+1)/\
        sg c F k6 f [.ptr pt 0,.slice po 0 n (some n) 1,qv,.int .i64 (k:Int),.slice po 0 n (some n) 1,.int .i64 (n:Int),.int .i64 (j:Int)] s=k6 [.ptr pt 0,.slice po 0 n (some n) 1,qv'] s':=by
 intro r;induction r with
 |zero=>
  intro j f s o qv q hf h1 hI tS Dj hq;obtain⟨g,rfl⟩:∃g,f=g+1:=⟨f - 1,by omega⟩
  obtain rfl:j=n:=by omega
  refine⟨s,qv,hI,?_⟩;rw[xZ];simp
 |succ r ih=>
  intro j f s o qv q hf h1 hI tS Dj hq;obtain⟨g,rfl⟩:∃g,f=g+1:=⟨f - 1,by omega⟩
  have hj:j<n:=by omega
  have hjo:j<o.length:=by rw[hI.len];exact hj
  have TN:k<o.length:=by rw[hI.len];exact hk
  have hw:=hI.ai.wf;have w:ax .i64 ((j:Int)+1)=((j+1:Nat):Int):=wrap64 (by omega) (by omega);have N:=as7 hc t ht k j ⟨by omega,by omega⟩ ⟨by omega,by omega⟩ s hw;have ix:∀(i:Nat),i<n->∀(K:AV->St->Option (AV×St))(s1:St),aq c (.idxA 1 none) [.slice po 0 n (some n) 1,.int .i64 (i:Int)] s1 K=K (.ptr po i) s1:=λi hi K s1=>by rw[iR c K s1 hi];simp
  have ixj:=ix j hj;have ixk:=ix k hk;have gj:(o.map cI)[j]? =some (.int .i64 o[j]):=by rw[Zb7,H0 hjo];rfl
  have gk:(o.map cI)[k]? =some (.int .i64 o[k]):=by rw[Zb7,H0 TN];rfl
  have ej:o.getD j 0=o[j]:=by simp[List.getD,H0 hjo]
  have ek:o.getD k 0=o[k]:=by simp[List.getD,H0 TN]
  have tb:=hI.tab;have ou:=hI.out;rw[Zp0];by_cases hd:o[j]<0
  . cases   hb:zU t k j with
    |   true=>
        have e:qG (λm=>zU t k m) k (j::List.range' (j+1) r) o q=qG (λm=>zU t k m) k (List.range' (j+1) r) (o.set j (o[k]+1)) (q++[j]):=by
         rw[qG,Zb4 ⟨by rw[ej];exact hd,hb⟩,ek]
        have w2:ax .i64 (o[k]+1)=o[k]+1:=wrap64 (by omega) (by omega);have Xa:=hw _ _ ou;have iY:∀(K:AV->St->Option (AV×St)),aq c (.store 1) [.ptr po j,.int .i64 (o[k]+1)] s K=K .undef (bg s po (.cells ((o.set j (o[k]+1)).map cI) 0)):=λK=>by rw[bY c K s 1 po j (.int .i64 (o[k]+1)) (o.map cI) ou rfl (by simp;omega) rfl, <-Kh o j hjo];rfl
        have cO:Wf (bg s po (.cells ((o.set j (o[k]+1)).map cI) 0)):=iG hw Xa;have q1:QS 1 (bg s po (.cells ((o.set j (o[k]+1)).map cI) 0)) qv (q.map aia):=hI.Lx.mono λb x hb hx=>by rw[aH (λe=>hI.ne2 (by rw[hb,e]))];exact hx
        obtain⟨s5,v5,a1,a2,a3,a4,a5,a6⟩:=q1.push (c:=c) (R:=AV×St) (bytes:=8) cO (λr hr=>by simp only[Zc6]at hr;obtain⟨m,_,rfl⟩:=hr;rfl) (z:=[.int .i64 0]) (x:= .int .i64 (j:Int)) rfl rfl rfl (by decide) (by simp;omega) (by simp;omega);have t5:s5.heap.get pt=some (.cells t.cells 0):=a5 pt _ hI.ne1 (by rw[aH (λe=>hI.ne3 e.symm)];exact tb);have o5:s5.heap.get po=some (.cells ((o.set j (o[k]+1)).map cI) 0):=a5 po _ hI.ne2 (bG _ _ _);have g5:Grew s0 s5:=⟨a3,λp b hg=>by
         have h0:=hI.jk _ _ hg;refine a5 p b (λe=> ?_) ?_
         .  have:=hI.FL p e;omega
         .  rw[aH (λe=>by have:=hI.alU;rw[e]at this;omega)];exact hI.ai.get hg,Zb3 hI.ai.next (by rw[dH]at a4;exact a4)⟩
        have I5:SI s0 s5 pt po t n (o.set j (o[k]+1)) v5 (q++[j]) (B+1):=by
         refine⟨hI.jk,g5,t5,o5,by simp[hI.len],by rw[Zc8];exact a2,λe=> ?_,λe=> ?_,hI.ne3,hI.aqP,hI.alU,λb e=> ?_,λv hv=> ?_,λm hm=> ?_⟩
         .  have:=a6 _ e;rw[dH]at this;have:=hw _ _ tb;omega
         .  have:=a6 _ e;rw[dH]at this;omega
         .  have:=a6 _ e;rw[dH]at this;have:=hI.ai.next;omega
         .  rcases Zh2 hv with h|h
            .exact hI.small v h
            .subst h;omega
         .  rcases Zd5.1 hm with h|h
            .exact hI.qlt m h
            .simp at h;omega
        have hkj:j≠k:=λe=>by subst e;omega
        have ek5:(o.set j (o[k]+1)).getD k 0=o[k]:=(by simp[List.getD,Ze4 hkj,H0 TN]);obtain⟨s',qv',b1,b2⟩:=ih (j+1) g s5 _ v5 (q++[j]) (by omega) (by omega) I5 (by rw[ek5];omega) (by rw[ek5];omega) (by simp;omega);rw[e];refine⟨s',qv',b1,?_⟩;rw[<-b2,xZ];rw[hb]at N;simp[-au,-List.map_set,iZ,hj,ixj,ixk,tb,ou,gj,gk,hd,N,aB.len,w2,iY,a1,w]
    |   false=>
        have e:qG (λm=>zU t k m) k (j::List.range' (j+1) r) o q=qG (λm=>zU t k m) k (List.range' (j+1) r) o q:=by
         rw[qG,Za6 (by rw[hb];simp)]
        obtain⟨s',qv',b1,b2⟩:=ih (j+1) g s _ qv q (by omega) (by omega) hI tS Dj (by omega);rw[e];refine⟨s',qv',b1,?_⟩;rw[<-b2,xZ];rw[hb]at N;simp[iZ,hj,ixj,tb,ou,gj,hd,N,aB.len,w]
  . have e:qG (λm=>zU t k m) k (j::List.range' (j+1) r) o q=qG (λm=>zU t k m) k (List.range' (j+1) r) o q:=by
        rw[qG,Za6 (by rw[ej];simp[hd])]
    obtain⟨s',qv',b1,b2⟩:=ih (j+1) g s _ qv q (by omega) (by omega) hI tS Dj (by omega);rw[e];refine⟨s',qv',b1,?_⟩;rw[<-b2,xZ];simp[iZ,hj,ixj,tb,ou,gj,hd,w]
def neg(o:List Int):Nat:=o.countP λv=>decide (v<0)
theorem ata{o:List Int}{m:Nat}{v:Int}(h:m<o.length)(h1:o[m]<0)(h2:0<=v):neg (o.set m v)+1=neg o:=by
 unfold neg;rw[List.countP_set h];have a:(decide (o[m]<0))=true:=by simpa using h1
 have b:(decide (v<0))=false:=by simp;omega
 simp only[a,b,Zh1,Zf4,Zh0];have:0<o.countP λv=>decide (v<0):=List.countP_pos_iff.2 ⟨o[m],Zb8 h,a⟩
 omega
theorem SJ(nr:Nat->Bool)(k:Nat):∀(ms:List Nat)(o:List Int)(q:List Nat),(∀m∈ms,m<o.length)->0<=o.getD k 0->(∀m∈q,0<=o.getD m 0)->
  2*neg (qG nr k ms o q).1+(qG nr k ms o q).2.length<=2*neg o+q.length/\(qG nr k ms o q).1.length=o.length/\(∀m∈(qG nr k ms o q).2,0<=(qG nr k ms o q).1.getD m 0)/\(∀m,0<=o.getD m 0->(qG nr k ms o q).1.getD m 0=o.getD m 0)
 |[],o,q,_,_,h=>⟨Za3 _,rfl,h,λ_ _=>rfl⟩
 |m ::ms,o,q,hm,hk,h=>by
  have hmo:=hm m (by simp);by_cases hc:o.getD m 0<0/\nr m=true
  . (rw[qG,Zb4 hc];have em:o.getD m 0=o[m]:=(by simp[List.getD,H0 hmo]);have cN:∀i,0<=o.getD i 0->m≠i:=λi hi e=>by subst e;omega);have get:∀i,m≠i->(o.set m (o.getD k 0+1)).getD i 0=o.getD i 0:=λi hi=>by simp[List.getD,Ze4 hi]
    have gm:(o.set m (o.getD k 0+1)).getD m 0=o.getD k 0+1:=(by simp[List.getD,hmo]);obtain⟨a1,a2,a3,a4⟩:=SJ nr k ms (o.set m (o.getD k 0+1)) (q++[m]) (λi hi=>by simpa using hm i (Zb0 _ hi)) (by rw[get k (cN k hk)];exact hk) (λi hi=>by
        rcases Zd5.1 hi with hi|hi
        .rw[get i (cN i (h i hi))];exact h i hi
        .simp at hi;subst hi;rw[gm];omega)
    have hs:=ata hmo (by rw[<-em];exact hc.1) (show 0<=o.getD k 0+1 by omega);refine⟨by simp only[Zd8,Zc9,Zi6]at a1;omega,by simpa using a2,a3,λi hi=> ?_⟩;rw[a4 i (by rw[get i (cN i hi)];exact hi),get i (cN i hi)]
  .rw[qG,Za6 hc];exact SJ nr k ms o q (λi hi=>hm i (Zb0 _ hi)) hk h
theorem SI.le{s0 s:St}{pt po:Pos}{t:aB}{n:Nat}{o:List Int}{qv:AV}{q:List Nat}{B B':Int}(h:SI s0 s pt po t n o qv q B)(hB:B<=B'):SI s0 s pt po t n o qv q B':=
 ⟨h.jk,h.ai,h.tab,h.out,h.len,h.Lx,h.ne1,h.ne2,h.ne3,h.aqP,h.alU,h.FL,λv hv=>⟨(h.small v hv).1,by have:=(h.small v hv).2;omega⟩,h.qlt⟩
theorem aqQ(hc:Sem c){s0:St}{pt po:Pos}{t:aB}(ht:t.Fit){n:Nat}(hn:n<=1000)(F:Nat)(hF:n<F)(k4):
  ∀(f:Nat)(g:Nat)(s:St)(o:List Int)(qv:AV)(q:List Nat)(B:Int),f<g->SI s0 s pt po t n o qv q B->2*neg o+q.length<=f->B+f<=1000000->0<=B->f<=3000->(∀m∈q,0<=o.getD m 0)->
   ∃    s',Grew s0 s'/\s'.heap.get po=some (.cells ((af0 (λk m=>zU t k m) n f o q).map cI) 0)/\(af0 (λk m=>zU t k m) n f o q).length=n/\
        pn c F k4 g [.ptr pt 0,.slice po 0 n (some n) 1,qv] s=k4 [.slice po 0 n (some n) 1] s':=by
 intro f;induction f with
 |zero=>
  intro g s o qv q B hg hI h1 h2 h3 h4 h5;obtain⟨g,rfl⟩:∃g',g=g'+1:=⟨g - 1,by omega⟩
  have hq:q=[]:=Zc0 (by omega);subst hq;refine⟨s,hI.ai,hI.out,hI.len,?_⟩;have hl:∀(K:AV->St->Option (AV×St))(s1:St),aq c (.lenB .l) [qv] s1 K=K (.int .i64 0) s1:=λK s1=>by rw[hI.Lx.lenB];simp
  rw[Dk];simp[hl]
 |succ f ih=>
  intro g s o qv q B hg hI h1 h2 h3 h4 h5;obtain⟨g,rfl⟩:∃g',g=g'+1:=⟨g - 1,by omega⟩
  have hl:∀(K:AV->St->Option (AV×St))(s1:St),aq c (.lenB .l) [qv] s1 K=K (.int .i64 (q.length:Int)) s1:=λK s1=>by rw[hI.Lx.lenB];simp
  cases q with
  |nil=>
   refine⟨s,hI.ai,hI.out,hI.len,?_⟩;rw[Dk];simp[hl]
  |cons k q=>
   have hr:∀r∈(k::q).map aia,r.length=1:=λr hr=>by simp only[Zc6]at hr;obtain⟨m,_,rfl⟩:=hr;rfl
   obtain⟨b,ob,cs,a1,a2,a3,a4⟩:=hI.Lx.at (c:=c) (R:=AV×St) hr (by decide) (i:=0) (by simp);obtain⟨v',t1,t2,t3⟩:=QS.tail (R:=AV×St) (c:=c) (r:=aia k) (rows:=q.map aia) hI.Lx rfl;have hk:k<n:=hI.qlt k (by simp);have TN:k<o.length:=(by rw[hI.len];exact hk);have gk:cs[ob]? =some (.int .i64 (k:Int)):=(by simpa using a4 0 (.int .i64 (k:Int)) rfl);have i0:∀(K:AV->St->Option (AV×St))(s1:St),aq c (.idxA 1 none) [qv,.int .i64 0] s1 K=K (.ptr b ob) s1:=λK s1=>a1 K .i64 s1
   have lo:∀(K:AV->St->Option (AV×St))(s1:St),aq c (.lenB .l) [.slice po 0 n (some n) 1] s1 K=K (.int .i64 (n:Int)) s1:=λK s1=>kX c K s1 _ _ _ _ _
   have ek:o.getD k 0=o[k]:=(by simp[List.getD,H0 TN]);have sm:=hI.small o[k] (Zb8 TN);have rj:=h5 k (by simp);have I1:SI s0 s pt po t n o v' q (B+1):=by
        have I2:=hI.le (B':=B+1) (by omega);exact⟨I2.jk,I2.ai,I2.tab,I2.out,I2.len,t2,λe=>I2.ne1 (t3 _ e),λe=>I2.ne2 (t3 _ e),I2.ne3,I2.aqP,I2.alU,λb hb=>I2.FL b (t3 b hb),I2.small,λm hm=>I2.qlt m (Zb0 _ hm)⟩
   obtain⟨s1,v1,b1,b2⟩:=as9 hc ht hn hk (B:=B) (by omega) F (λvs s71=>gV vs λx2 vs=>gV vs λx5 vs=>gV vs λx7 vs=>mo vs (pn c F k4 g [x2,x5,x7] s71)) n 0 F s o v' q hF (by omega) I1 (by rw[ek];omega) rj (by simp only[Zc9]at h1;omega);rw[<-Zl8]at b1;obtain⟨p1,p2,p3,p4⟩:=SJ (λm=>zU t k m) k (List.range n) o q (λm hm=>by rw[hI.len];exact Zg3.1 hm) rj (λm hm=>h5 m (Zb0 _ hm));obtain⟨s',c1,c2,c3,c4⟩:=ih g s1 _ v1 _ (B+1) (by omega) b1 (by simp only[Zc9]at h1;omega) (by omega) (by omega) (by omega) p3;refine⟨s',c1,c2,c3,?_⟩;rw[<-c4,Dk];simp at b2;have Vn:0<(q.length:Int)+1:=(by omega);simp[hl,i0,a3,gk,t1,lo,b2,Vn]
def Bt(n k:Nat):List Int:=List.replicate k (-1)++List.replicate (n - k) 0
theorem atb{n k:Nat}(h:k<n):(Bt n k).set k (-1)=Bt n (k+1):=by unfold Bt;rw[Zk2 _ _ (by simp)];simp only[Zk3,Zl0];rw[show n - k=(n - (k+1))+1 by omega,Zn2,Zq8,List.replicate_succ',Zf7];rfl
theorem atc{n k:Nat}(h:k<=n):(Bt n k).length=n:=by unfold Bt;simp;omega
theorem aoe{s0:St}{pt po:Pos}{t:aB}{n:Nat}(hn:n<=1000)(cN:pt≠po)(Xa:s0.next.toNat<=po.toNat)(GM:Wf s0)(x1:AV)(F:Nat)(k2):∀(m k f:Nat)(s:St),m<f->k+m=n->Grew s0 s->s.heap.get pt=some (.cells t.cells 0)->s.heap.get po=some (.cells ((Bt n k).map cI) 0)->
  ∃s',Grew s0 s'/\s'.heap.get pt=some (.cells t.cells 0)/\s'.heap.get po=some (.cells ((Bt n n).map cI) 0)/\
   su c F k2 f [x1,.ptr pt 0,.slice po 0 n (some n) 1,.int .i64 (n:Int),.int .i64 (k:Int)] s=k2 [x1,.ptr pt 0,.slice po 0 n (some n) 1] s':=by
 intro m;induction m with
 |zero=>
  intro k f s hf h1 hg ht ho;obtain⟨f,rfl⟩:∃g,f=g+1:=⟨f - 1,by omega⟩
  obtain rfl:k=n:=by omega
  refine⟨s,hg,ht,ho,?_⟩;rw[Ni];simp
 |succ m ih=>
  intro k f s hf h1 hg ht ho;obtain⟨f,rfl⟩:∃g,f=g+1:=⟨f - 1,by omega⟩
  have hk:k<n:=by omega
  have w:ax .i64 ((k:Int)+1)=((k+1:Nat):Int):=wrap64 (by omega) (by omega);have ix:∀(K:AV->St->Option (AV×St))(s1:St),aq c (.idxA 1 none) [.slice po 0 n (some n) 1,.int .i64 (k:Int)] s1 K=K (.ptr po k) s1:=λK s1=>by rw[iR c K s1 hk];simp
  have hl:(Bt n k).length=n:=atc (by omega);have aV:=hg.wf _ _ ho;have iY:∀(K:AV->St->Option (AV×St)),aq c (.store 1) [.ptr po k,.int .i64 (-1)] s K=K .undef (bg s po (.cells ((Bt n (k+1)).map cI) 0)):=λK=>by rw[bY c K s 1 po k (.int .i64 (-1)) ((Bt n k).map cI) ho rfl (by simp[hl];omega) rfl, <-atb hk, <-Kh _ _ (by omega)];rfl
  have g1:Grew s0 (bg s po (.cells ((Bt n (k+1)).map cI) 0)):=⟨iG hg.wf aV,λp b hp=>by have:=GM _ _ hp;rw[aH (λe=>by rw[e]at Xa;omega)];exact hg.get hp,by rw[dH];exact hg.next⟩
  obtain⟨s',a1,a2,a3,a4⟩:=ih (k+1) f _ (by omega) (by omega) g1 (by rw[aH (λe=>cN e.symm)];exact ht) (bG _ _ _);refine⟨s',a1,a2,a3,?_⟩;rw[<-a4,Ni];simp[-List.map_set,hk,ix,iY,w]
def Qj(t:aB)(fr:Nat):List Int:=af0 (λk m=>zU t k m) (bw t).toNat (2*(bw t).toNat+1) ((List.replicate (bw t).toNat (-1)).set fr 0) [fr]
theorem Lz{b:Pos}{off n es:Nat}(hn:n≠0)(h:Plain (.slice b off n (some n) es)):False:=by
 have h1:aC (λ_=>⟨0,0,off+n*es⟩) (b.toNat+1) (λ_=>none) (.slice b off n (some n) es) (.slice (some ⟨0,0+off,none⟩) n n):=
  .slice b off n (some n) es n _ (Za3 _) (λc hc=>by cases hc;rfl) (λ_=>⟨by omega,rfl,by simp⟩) (λh=>by cases h)
 have h2:=h _ (λ_=>⟨0,0,0⟩) _ 0 _ _ h1;cases h2 with
 |slice _ _ _ _ _ _ _ _ _ ha _=>exact absurd (ha hn).1 (by omega)
theorem aib{s s':St}{v:AV}(h:¬Plain v):tidy s (v,s')=(v,s'):=by
 unfold tidy;rw[Za6 (λe=>h e.1)]
theorem aqR(hc:Sem c)(t:aB)(hz:bw t≠0)(fr:Nat)(hf:(fr:Int)<bw t)(s:St)(hw:Wf s):
  ∃b s',c 181 [.agg t.cells,.int .i64 (fr:Int)] s=some (.slice b 0 (bw t).toNat (some (bw t).toNat) 1,s')/\Grew s s'/\s'.heap.get b=some (.cells ((Qj t fr).map cI) 0)/\s.next.toNat<=b.toNat/\(Qj t fr).length=(bw t).toNat:=by
 have ht:=acF hz;have hb:=Av t;obtain⟨n,hn⟩:∃n:Nat,bw t=(n:Int):=⟨(bw t).toNat,by omega⟩
 have hn1:(bw t).toNat=n:=by omega
 have OV:n≠0:=by omega
 have GF:n<=1000:=by omega
 have Gm:fr<n:=by omega
 unfold Qj;rw[hn1];have cO:Wf (ah s (.cells t.cells 0)):=bF hw;have g1:=Grew.ah hw (.cells t.cells 0);have sz:=P9 hc t (ah s (.cells t.cells 0)) cO;rw[hn]at sz;have mk:=λ(K:AV->St->Option (AV×St))=>adq c K (ah s (.cells t.cells 0)) (es:=1) (bytes:=8) (z:=[.int .i64 0]) (k:= .i64) (k':= .i64) (n:=n) (by omega) (by omega)
 rw[CS]at mk;have sH:Wf (ah (ah s (.cells t.cells 0)) (.cells (List.replicate n (.int .i64 0)) 0)):=bF cO;have g2:=g1.trans (Grew.ah cO (.cells (List.replicate n (.int .i64 0)) 0));generalize tT:ah (ah s (.cells t.cells 0)) (.cells (List.replicate n (.int .i64 0)) 0)=s2 at mk sH g2;have pt2:s2.heap.get s.next=some (.cells t.cells 0):=by rw[<-tT];exact(Grew.ah cO _).get (aA _ _)
 have po2:s2.heap.get (ah s (.cells t.cells 0)).next=some (.cells ((Bt n 0).map cI) 0):=by rw[<-tT,aA];simp[Bt]
 have Zo:s.next≠(ah s (.cells t.cells 0)).next:=by rw[bN];exact Pos.Yj _
 have Xa:s.next.toNat<=(ah s (.cells t.cells 0)).next.toNat:=by rw[bN,Pos.aD];omega
 generalize (ah s (.cells t.cells 0)).next=po at mk po2 Zo Xa
 let k2:List AV->St->Option (AV×St):=λvs s18=>gV vs λx1 vs=>gV vs λx2 vs=>gV vs λx5 vs=>mo vs (
  aq c .move [x5] s18 λx23 s19=>
  aq c .move [x1] s19 λx24 s20=>
  aq c (.idxA 1 none) [x23,x24] s20 λx25 s21=>
  aq c (.store 1) [x25,(.int .i64 0)] s21 λ_ s22=>
  aq c .move [x1] s22 λx26 s23=>
  aq c (.buildSlice 1 1 [(.int .i64 0)] [0]) [x26] s23 λx27 s24=>
  aq c .move [x27] s24 λx7 s25=>
  pn c 4000 (λvs s72=>gV vs λx5 vs=>mo vs (
     aq c .move [x5] s72 λx64 s73=>
     aq c .move [x64] s73 λx4 s74=>
     some (x4,s74))) 4000 [x2,x5,x7] s25)
 obtain⟨s3,a1,a2,a3,a4⟩:=aoe (c:=c) (s0:=s) (t:=t) GF Zo Xa hw (.int .i64 (fr:Int)) 4000 k2 n 0 4000 s2 (by omega) (by omega) g2 pt2 po2;have em:Bt n n=List.replicate n (-1):=by simp[Bt]
 rw[em]at a3;have hl:(List.replicate n (-1:Int)).length=n:=by simp
 have aV:=a1.wf _ _ a3;have ix:∀(K:AV->St->Option (AV×St))(s1:St),aq c (.idxA 1 none) [.slice po 0 n (some n) 1,.int .i64 (fr:Int)] s1 K=K (.ptr po fr) s1:=λK s1=>by rw[iR c K s1 Gm];simp
 have iY:∀(K:AV->St->Option (AV×St)),aq c (.store 1) [.ptr po fr,.int .i64 0] s3 K=K .undef (bg s3 po (.cells (((List.replicate n (-1:Int)).set fr 0).map cI) 0)):=λK=>by rw[bY c K s3 1 po fr (.int .i64 0) _ a3 rfl (by simp;omega) rfl, <-Kh _ _ (by omega)];rfl
 have g4:Grew s (bg s3 po (.cells (((List.replicate n (-1:Int)).set fr 0).map cI) 0)):=⟨iG a1.wf aV,λp b hp=>by have:=hw _ _ hp;rw[aH (λe=>by rw[e]at Xa;omega)];exact a1.get hp,by rw[dH];exact a1.next⟩
 have pt4:(bg s3 po (.cells (((List.replicate n (-1:Int)).set fr 0).map cI) 0)).heap.get s.next=some (.cells t.cells 0):=by rw[aH (λe=>Zo e.symm)];exact a2
 have po4:(bg s3 po (.cells (((List.replicate n (-1:Int)).set fr 0).map cI) 0)).heap.get po=some (.cells (((List.replicate n (-1:Int)).set fr 0).map cI) 0):=bG _ _ _;generalize hs4:bg s3 po (.cells (((List.replicate n (-1:Int)).set fr 0).map cI) 0)=s4 at iY g4 pt4 po4;have row:=λ(K:AV->St->Option (AV×St))=>Kr (c:=c) (es:=1) (z:=[.int .i64 0]) (x:= .int .i64 (fr:Int)) rfl rfl s4 K
 have g5:=g4.trans (Grew.ah g4.wf (.cells (AV.cells (.int .i64 (fr:Int))) 0));have arT:=Grew.ah g4.wf (.cells (AV.cells (.int .i64 (fr:Int))) 0);have n4:s.next.toNat<s4.next.toNat:=g4.wf _ _ pt4;have n4o:po.toNat<s4.next.toNat:=g4.wf _ _ po4;have I:SI s (ah s4 (.cells (AV.cells (.int .i64 (fr:Int))) 0)) s.next po t n ((List.replicate n (-1:Int)).set fr 0) (.slice s4.next 0 1 (some 1) 1) [fr] 0:=by
  refine⟨hw,g5,arT.get pt4,arT.get po4,by simp,.inr (.inl ⟨s4.next,0,some 1,[.int .i64 (fr:Int)],rfl,aA _ _,by simp,by simp,.inr rfl⟩),λe=> ?_,λe=> ?_,Zo,Za3 _,Xa,λb e=> ?_,λv hv=> ?_,λm hm=> ?_⟩
  .  have:=congrArg Pos.toNat (sO e);omega
  .  have:=congrArg Pos.toNat (sO e);omega
  .  have:=congrArg Pos.toNat (sO e);omega
  .  rcases Zh2 hv with h|h
     .rw[(List.mem_replicate.1 h).2];omega
     .subst h;omega
  .  simp at hm;omega
 have alF:neg ((List.replicate n (-1:Int)).set fr 0)<=n:=by unfold neg;refine Zb3 List.countP_le_length ?_;simp
 obtain⟨s6,b1,b2,b3,b4⟩:=aqQ hc ht GF 4000 (by omega) (λvs s72=>gV vs λx5 vs=>mo vs (aq c .move [x5] s72 λx64 s73=>aq c .move [x64] s73 λx4 s74=>some (x4,s74))) (2*n+1) 4000 _ _ _ [fr] 0 (by omega) I (by simp;omega) (by omega) (by omega) (by omega) (λm hm=>by
  simp at hm;subst hm;simp[List.getD,Gm])
 refine⟨po,s6,?_,b1,b2,Xa,b3⟩;have np:¬Plain (.slice po 0 n (some n) 1):=Lz OV;rw[ad0 hc 4000 (r:=(.slice po 0 n (some n) 1,s6)),aib np];rw[aic];have L:su c 4000 k2 4000 [.int .i64 (fr:Int),.ptr s.next 0,.slice po 0 n (some n) 1,.int .i64 (n:Int),.int .i64 0] s2=some (.slice po 0 n (some n) 1,s6):=by
  rw[show(0:Int)=((0:Nat):Int)from rfl,a4];simp only[k2];simp at b4;simp[-au,ix,iY,row,b4]
 simp only[k2]at L;simp[-au,aB.len,sz,mk,kX];simp[-au]at L;exact L
def LA(t:aB):Int:=if t.sh=1 then 0 else if t.sh=2 then(if 0<t.b then t.a else t.a.tdiv 2)else if t.sh=3 then t.b+t.a.tdiv 2 else t.a.tdiv 2
theorem atd{t:aB}(h:bw t≠0):0<=LA t/\LA t<bw t:=by
 have f:=acF h;unfold LA;rw[Zi4 f.a.1]
 revert h
 unfold bw;intro h;split
 . rename_i h1;rw[Zb4 h1]at h;split at h
   .rename_i h2;rw[Zb4 h2];omega
   .exact absurd rfl h
 rename_i h1;rw[Za6 h1]at h;split
 . rename_i h2;rw[Zb4 h2]at h;split at h
   .rename_i h3;rw[Zb4 h3];split<;>omega
   .exact absurd rfl h
 rename_i h2;rw[Za6 h2]at h;split
 . rename_i h3;rw[Zb4 h3]at h;split at h
   .rename_i h4;rw[Zb4 h4];omega
   .exact absurd rfl h
 rename_i h3;rw[Za6 h3]at h;split at h
 . rename_i h4;rw[Zb4 h4];split at h
   .rename_i h5;rw[Zb4 h5];omega
   .exact absurd rfl h
 .exact absurd rfl h
theorem ate(hc:Sem c)(a b:Int)(st:St):c 207 [.int .i64 a,.int .i64 b] st=some (.int .i64 0,st):=by rw[UY hc 1 (r:=(.int .i64 0,st)),aF (Plain.int _ _) (aX.refl st)];rw[Ze];simp
theorem atf(hc:Sem c)(a b:Int)(ha:Sm a)(st:St):c 212 [.int .i64 a,.int .i64 b] st=some (.int .i64 (if 0<b then a else a.tdiv 2),st):=by
 have hq:0<=a.tdiv 2/\a.tdiv 2<=1000000:=by rw[Zi4 ha.1];omega
 have w2:ax .i64 (a.tdiv 2)=a.tdiv 2:=wrap64 (by omega) (by omega);rw[UZ hc 1 (r:=(.int .i64 (if 0<b then a else a.tdiv 2),st)),aF (Plain.int _ _) (aX.refl st)];rw[Zf];by_cases h:0<b<;>simp[h,w2]
theorem atg(hc:Sem c)(a b:Int)(ha:Sm a)(hb:Sm b)(st:St):c 217 [.int .i64 a,.int .i64 b] st=some (.int .i64 (b+a.tdiv 2),st):=by
 have hq:0<=a.tdiv 2/\a.tdiv 2<=1000000:=by rw[Zi4 ha.1];omega
 have w2:ax .i64 (a.tdiv 2)=a.tdiv 2:=wrap64 (by omega) (by omega);have w3:ax .i64 (b+a.tdiv 2)=b+a.tdiv 2:=wrap64 (by omega) (by omega);rw[U0 hc 1 (r:=(.int .i64 (b+a.tdiv 2),st)),aF (Plain.int _ _) (aX.refl st)];rw[Zg];simp[w2,w3]
theorem ath(hc:Sem c)(a b:Int)(ha:Sm a)(st:St):c 222 [.int .i64 a,.int .i64 b] st=some (.int .i64 (a.tdiv 2),st):=by
 have hq:0<=a.tdiv 2/\a.tdiv 2<=1000000:=by rw[Zi4 ha.1];omega
 have w2:ax .i64 (a.tdiv 2)=a.tdiv 2:=wrap64 (by omega) (by omega);rw[U1 hc 1 (r:=(.int .i64 (a.tdiv 2),st)),aF (Plain.int _ _) (aX.refl st)];rw[Zh];simp[w2]
def Qk(n:Nat)(d:Int):Int:=if d<0 then(n:Int)else d
def LB(t:aB):List Int:=(Qj t (LA t).toNat).map (Qk (bw t).toNat)
theorem aqS{s0:St}{po:Pos}{n:Nat}(hn:n<=1000)(Xa:s0.next.toNat<=po.toNat)(GM:Wf s0)(o:List Int)(ho0:o.length=n)(F:Nat)(k2):∀(m k f:Nat)(s:St),m<f->k+m=n->Grew s0 s->s.heap.get po=some (.cells (((o.take k).map (Qk n)++o.drop k).map cI) 0)->
  ∃ s',Grew s0 s'/\s'.heap.get po=some (.cells ((o.map (Qk n)).map cI) 0)/\
    uH c F k2 f [.slice po 0 n (some n) 1,.slice po 0 n (some n) 1,.int .i64 (n:Int),.int .i64 (k:Int)] s=k2 [.slice po 0 n (some n) 1] s':=by
 intro m;induction m with
 |zero=>
  intro k f s hf h1 hg ho;obtain⟨f,rfl⟩:∃g,f=g+1:=⟨f - 1,by omega⟩
  obtain rfl:k=n:=by omega
  refine⟨s,hg,?_,?_⟩
  .rw[ho,Ze9 (by omega),Zo5 (by omega),Ze1]
  .rw[Bu];simp
 |succ m ih=>
  intro k f s hf h1 hg ho;obtain⟨f,rfl⟩:∃g,f=g+1:=⟨f - 1,by omega⟩
  have hk:k<n:=by omega
  have TN:k<o.length:=by omega
  have w:ax .i64 ((k:Int)+1)=((k+1:Nat):Int):=wrap64 (by omega) (by omega);have ix:∀(K:AV->St->Option (AV×St))(s1:St),aq c (.idxA 1 none) [.slice po 0 n (some n) 1,.int .i64 (k:Int)] s1 K=K (.ptr po k) s1:=λK s1=>by rw[iR c K s1 hk];simp
  have lo:∀(K:AV->St->Option (AV×St))(s1:St),aq c (.lenB .l) [.slice po 0 n (some n) 1] s1 K=K (.int .i64 (n:Int)) s1:=λK s1=>kX c K s1 _ _ _ _ _
  generalize hL:(o.take k).map (Qk n)++o.drop k=L at ho;have hLl:L.length=n:=by rw[<-hL];simp;omega
  have hLk:L[k]? =some o[k]:=by
    rw[<-hL,Zc4 (by simp;omega)];simp only[Za5,Zg7,Zl6 (Zo1 TN),Zl0];rw[Ze5,Zf5,H0 TN]
  have gk:(L.map cI)[k]? =some (.int .i64 o[k]):=by rw[Zb7,hLk];rfl
  have eL:L.set k (Qk n o[k])=(o.take (k+1)).map (Qk n)++o.drop (k+1):=by rw[<-hL,Zk2 _ _ (by simp;omega)];simp only[Za5,Zg7,Zl6 (Zo1 TN),Zl0];rw[Ze2 TN,Zq8,Zc7 TN,Zc8,Zf7];rfl
  have aV:=hg.wf _ _ ho;by_cases hd:o[k]<0
  . have el:Qk n o[k]=(n:Int):=(by unfold Qk;rw[Zb4 hd]);rw[el]at eL;have iY:∀(K:AV->St->Option (AV×St)),aq c (.store 1) [.ptr po k,.int .i64 (n:Int)] s K=K .undef (bg s po (.cells (((o.take (k+1)).map (Qk n)++o.drop (k+1)).map cI) 0)):=λK=>by rw[bY c K s 1 po k (.int .i64 (n:Int)) _ ho rfl (by simp[hLl];omega) rfl, <-eL, <-Kh _ _ (by omega)];rfl
    have g1:Grew s0 (bg s po (.cells (((o.take (k+1)).map (Qk n)++o.drop (k+1)).map cI) 0)):=⟨iG hg.wf aV,λp b hp=>by have:=GM _ _ hp;rw[aH (λe=>by rw[e]at Xa;omega)];exact hg.get hp,by rw[dH];exact hg.next⟩
    obtain⟨s',a1,a2,a3⟩:=ih (k+1) f _ (by omega) (by omega) g1 (bG _ _ _);refine⟨s',a1,a2,?_⟩;rw[<-a3,Bu];simp[-List.map_append,-List.map_take,-List.map_drop,-List.map_map,iZ,hk,ix,lo,ho,gk,hd,iY,w]
  . have el:Qk n o[k]=o[k]:=(by unfold Qk;rw[Za6 hd]);rw[el]at eL;have e2:L.set k o[k]=L:=by
        (refine Zi3 λi=> ?_);rw[List.getElem?_set];split
        .rename_i e;subst e;rw[Zb4 (by omega),hLk]
        .rfl
    rw[e2]at eL;obtain⟨s',a1,a2,a3⟩:=ih (k+1) f s (by omega) (by omega) hg (by rw[<-eL];exact ho);refine⟨s',a1,a2,?_⟩;rw[<-a3,Bu];simp[iZ,hk,ix,ho,gk,hd,w]
theorem abc(sh:Int):(ia sh).length=6:=by
 unfold ia
 repeat' split
 all_goals rfl
theorem aqT(sh:Int):aN (ia sh)=true:=by
 unfold ia
 repeat' split
 all_goals rfl
theorem auk(hc:Sem c)(t:aB)(ht:t.Fit):∃f:FuncId,(ia t.sh)[4]? =some (.func f [] [])/\∀st,c f [.int .i64 t.a,.int .i64 t.b] st=some (.int .i64 (LA t),st):=by
 have hS:t.sh=1\/t.sh=2\/t.sh=3\/t.sh=4:=by have:=ht.sh;omega
 have ha:Sm t.a:=by have:=ht.a;omega
 have hb:Sm t.b:=by have:=ht.b;omega
 rcases hS with h|h|h|h
 .exact⟨207,by rw[h];rfl,λst=>by rw[ate hc];simp[LA,h]⟩
 .exact⟨212,by rw[h];rfl,λst=>by rw[atf hc _ _ ha];simp[LA,h]⟩
 .exact⟨217,by rw[h];rfl,λst=>by rw[atg hc _ _ ha hb];simp[LA,h]⟩
 .exact⟨222,by rw[h];rfl,λst=>by rw[ath hc _ _ ha];simp[LA,h]⟩
theorem aof(hc:Sem c)(t:aB)(hz:bw t≠0)(s:St)(hw:Wf s):
  ∃b s',c 124 [.agg t.cells] s=some (.slice b 0 (bw t).toNat (some (bw t).toNat) 1,s')/\Grew s s'/\s'.heap.get b=some (.cells ((LB t).map cI) 0)/\s.next.toNat<=b.toNat/\(LB t).length=(bw t).toNat:=by
 have ht:=acF hz;have hb:=Av t;have hh:=atd hz;have cO:Wf (ah s (.cells t.cells 0)):=bF hw;have sH:Wf (ah (ah s (.cells t.cells 0)) (.cells (ia t.sh) 0)):=bF cO;have g2:=(Grew.ah hw (.cells t.cells 0)).trans (Grew.ah cO (.cells (ia t.sh) 0));have gT:(ah (ah s (.cells t.cells 0)) (.cells (ia t.sh) 0)).heap.get s.next=some (.cells t.cells 0):=(Grew.ah cO _).get (aA _ _);obtain⟨fr,EF⟩:∃n:Nat,LA t=(n:Int):=⟨(LA t).toNat,by omega⟩
 obtain⟨b,s1,S1,S2,S3,S4,S5⟩:=aqR hc t hz fr (by omega) _ sH;have Gi:s.next.toNat<=b.toNat:=Zb3 g2.next S4;have g1:=g2.trans S2;have e1:LB t=(Qj t fr).map (Qk (bw t).toNat):=by unfold LB;rw[EF];rfl
 have hl1:(LB t).length=(bw t).toNat:=by rw[e1];simpa using S5
 obtain⟨s2,a1,a2,a3⟩:=aqS (c:=c) (s0:=s) (po:=b) (n:=(bw t).toNat) (by omega) Gi hw (Qj t fr) S5 4000 (λvs s34=>gV vs λx5 vs=>mo vs (
  aq c .move [x5] s34 λx38 s35=>aq c .move [x38] s35 λx2 s36=>some (x2,s36))) (bw t).toNat 0 4000 s1 (by omega) (by omega) g1 (by simpa using S3)
 rw[<-e1]at a2;refine⟨b,s2,?_,a1,a2,Gi,hl1⟩;have np:¬Plain (.slice b 0 (bw t).toNat (some (bw t).toNat) 1):=Lz (by omega);rw[acL hc 4000 (r:=(.slice b 0 (bw t).toNat (some (bw t).toNat) 1,s2)),aib np];rw[afJ];have hlay:=fH hc t.sh (ah s (.cells t.cells 0)) cO;rw[<-EF]at S1;have rd:=λ(K:AV->Option (AV×St))=>agW K (m:=7) (p:=s.next) (o:=0) (l:=t.cells) (h:=(ah (ah s (.cells t.cells 0)) (.cells (ia t.sh) 0)).heap) (h2:=(ah (ah s (.cells t.cells 0)) (.cells (ia t.sh) 0)).heap) (by rw[gT];rfl) (by rw[gT];rfl) (TE λv hv=>by simp only[aB.cells,Za9,Zc3,Zf0]at hv;rcases hv with rfl|rfl|rfl|rfl|rfl|rfl|rfl<;>first|exact fS.str _|exact fS.int _ _|exact acD _ _)
 simp at a3;have lo:∀(K:AV->St->Option (AV×St))(s1:St),aq c (.lenB .l) [.slice b 0 (bw t).toNat (some (bw t).toNat) 1] s1 K=K (.int .i64 ((bw t).toNat:Int)) s1:=λK s1=>kX c K s1 _ _ _ _ _
 obtain⟨hf,hf1,hf2⟩:=auk hc t ht;have hf3:(ia t.sh)[4]'(by rw[abc];omega)= .func hf [] []:=by rw[H0 (by rw[abc];omega)]at hf1;exact Zi5 hf1
 have c1:t.cells[1]? =some (.int .u8 t.sh):=rfl;have c2:t.cells[2]? =some (.int .i64 t.a):=rfl;have c3:t.cells[3]? =some (.int .i64 t.b):=rfl;simp[hlay,c1,c2,c3,AV.cells,abc,aqT,gT,hf1,hf3,hf2,S1,rd,lo,a3]
theorem aog{t:aB}{k:Nat}(h:k<(LB t).length):((LB t).map cI)[k]? =some (.int .i64 (LB t)[k]):=by rw[Zb7,H0 h];rfl
def H9(ts:List aB)(a:Int):Int:=match xT ts a with|some (i,x)=>(LB (ts[i]?.getD zT)).getD x.toNat 0|none=>0
theorem aqU(hc:Sem c)(z:Bool)(ts:List aB)(cw:∀t∈ts,t.Ok)(a:Int)(ha:a<=4611686018427387904)(st:St)(hw:Wf st):
  c 60 [tabs z ts,.int .i64 a] st=some (.int .i64 (H9 ts a),st):=by
 have W:=SH hc z ts cw a ha st hw;cases h:xT ts a with
 |none=>
  rw[Ql hc 1 (r:=(.int .i64 (H9 ts a),st)),aF (Plain.int _ _) (aX.refl st)];rw[Xb];unfold H9;rw[h]at W ⊢; simp[W,EO]
 |some p=>
  obtain⟨i,x⟩:=p;obtain⟨hv,p1,t1,p2,p3,p4⟩:=Lv h;have hz:=an9 (aeV hv p2);obtain⟨hi,hg⟩:=Za1.1 p2;obtain⟨b,s',L1,L2,L3,L4,L5⟩:=aof hc t1 hz st hw;have hx:x.toNat<(LB t1).length:=by omega
  have e:H9 ts a=(LB t1)[x.toNat]:=by
   unfold H9;rw[h];simp only;rw[p2];simp[List.getD,H0 hx]
  obtain⟨k,hk⟩:∃k:Nat,x=(k:Int):=⟨x.toNat,by omega⟩
  subst hk;simp only[Zd0]at hx e;have ix:∀(K:AV->St->Option (AV×St))(s1:St),aq c (.idxA 1 none) [.slice b 0 (bw t1).toNat (some (bw t1).toNat) 1,.int .i64 (k:Int)] s1 K=K (.ptr b k) s1:=λK s1=>by rw[iR c K s1 (by omega)];simp
  have gk:=aog hx;rw[Ql hc 1 (r:=(.int .i64 (H9 ts a),s')),aF (Plain.int _ _) L2.keeps];rw[Xb,e];rw[h]at W;subst hg;unfold tabs at W ⊢;simp[W,EO,hi,aB.len,L1,ix,L3,gk]
def ja(first:Int)(n:Nat)(so:Int->Bool):List Int:=((List.range n).map λ(i:Nat)=>first+(i:Int)).filter so
theorem ZT(first:Int)(n:Nat)(so:Int->Bool):ja first (n+1) so=ja first n so++if so (first+(n:Int))=true then [first+(n:Int)]else []:=by
 unfold ja;rw[Zg2,Zc8,Zk4];congr 1;simp only[Zd3,Zi8,List.filter_cons,List.filter_nil]
theorem J7(first:Int)(n:Nat)(so:Int->Bool):(ja first n so).length<=n:=by
 unfold ja;exact Zb3 (Zk1 _ _) (by simp)
theorem alV{first:Int}(hfi:0<=first/\first<=1000000){n:Nat}(hn:n<=1000000){g:FuncId}{x y:List AV}{so:Int->Bool}{s0:St}
  (H:∀(k:Int)(s:St),Grew s0 s->first<=k->k<first+(n:Int)->c g (x++([.int .i64 k]++y)) s=some (.bool (so k),s)) (F:Nat) (k2):
  ∀(m i f:Nat)(s:St)(v:AV),m<f->i+m=n->Mk 1 s0 s v ((ja first i so).map bJ)->
   ∃s' v',Mk 1 s0 s' v' ((ja first n so).map bJ)/\wG c F k2 f [.int .i64 first,.int .i64 (n:Int),.func g x y,v,.int .i64 (first+(i:Int))] s=k2 [v'] s':=by
 have w0:ax .i64 (first+(n:Int))=first+(n:Int):=wrap64 (by omega) (by omega)
 intro m;induction m with
 |zero=>
  intro i f s v hf h1 hM;obtain⟨f,rfl⟩:∃g,f=g+1:=⟨f - 1,by omega⟩
  obtain rfl:i=n:=by omega
  refine⟨s,v,hM,?_⟩;rw[Dl];simp[w0]
 |succ m ih=>
  intro i f s v hf h1 hM;obtain⟨f,rfl⟩:∃g,f=g+1:=⟨f - 1,by omega⟩
  have hi:i<n:=by omega
  have aV:first+(i:Int)<first+(n:Int):=by omega
  have w:ax .i64 (first+(i:Int)+1)=first+((i+1:Nat):Int):=by rw[wrap64 (by omega) (by omega)];omega
  have A:=H (first+(i:Int)) s hM.ai (by omega) aV;simp only[List.singleton_append]at A;have hlen:=J7 first i so
  cases hs:so (first+(i:Int))with
  |true=>
   obtain⟨s5,v5,a1,a2,a3,_⟩:=hM.push (c:=c) (R:=AV×St) (bytes:=8) (z:=[.int .i64 0]) (x:= .int .i64 (first+(i:Int))) rfl rfl rfl (by decide) (by simp;omega) (by simp;omega);have e:(ja first (i+1) so).map bJ=(ja first i so).map bJ++[AV.cells (.int .i64 (first+(i:Int)))]:=(by rw[ZT,Zb4 hs,Zc8];rfl);rw[<-e]at a2;obtain⟨s',v',b1,b2⟩:=ih (i+1) f s5 v5 (by omega) (by omega) a2;refine⟨s',v',b1,?_⟩;rw[<-b2,Dl];rw[hs]at A;simp[-au,iZ,w0,aV,A,a1,w]
  |false=>
   have e:(ja first (i+1) so).map bJ=(ja first i so).map bJ:=(by rw[ZT,Za6 (by rw[hs];simp),Ze1]);rw[<-e]at hM;obtain⟨s',v',b1,b2⟩:=ih (i+1) f s v (by omega) (by omega) hM;refine⟨s',v',b1,?_⟩;rw[<-b2,Dl];rw[hs]at A;simp[iZ,w0,aV,A,w]
theorem aid(hc:Sem c){first:Int}(hfi:0<=first/\first<=1000000){n:Nat}(hn:n<=1000000){g:FuncId}{x y:List AV}{so:Int->Bool}{s:St}(hw:Wf s)
  (H:∀(k:Int)(t:St),Grew s t->first<=k->k<first+(n:Int)->c g (x++([.int .i64 k]++y)) t=some (.bool (so k),t)):
  ∃v s',c 62 [.int .i64 first,.int .i64 (n:Int),.func g x y] s=some (v,s')/\Mk 1 s s' v ((ja first n so).map bJ):=by
 obtain⟨s',v,hM,L⟩:=alV hfi hn H (n+1) (λvs s22=>gV vs λx7 vs=>mo vs (aq c .move [x7] s22 λx24 s23=>aq c .move [x24] s23 λx6 s24=>some (x6,s24))) n 0 (n+1) s .af (by omega) (by omega) (Mk.start hw (Grew.refl hw));obtain⟨fI,t1,t2⟩:=hM.tidy;refine⟨v,fI,?_,t2⟩;rw[ad1 hc (n+1) (r:=(v,s')),t1];rw[aie];simp at L;simp[L]
end
end Go.Proofs.YtgihekklfnjkiaaGreatDoor
