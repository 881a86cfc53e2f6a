/- Checks of a problem. -/
import Derived.Test.YtgihekklfnjkiaaGreatDoorGLawsA
set_option linter.all false
set_option linter.unusedSectionVars false
set_option linter.deprecated false
namespace Go.Proofs.YtgihekklfnjkiaaGreatDoor
section
set_option maxRecDepth 100000
open Go Go.Ai Go.Proofs
variable{c : aj}
def kd:Nat->Kd
 |1=>⟨[97,112,97,114,116],103,true,0,true,0,false,.func 90 [] []⟩
 |2=>⟨[98,101,115,105,100,101],103,true,0,false,0,false,.func 91 [] []⟩
 |3=>⟨[97,99,114,111,115,115],103,true,0,false,0,false,.func 92 [] []⟩
 |4=>⟨[110,101,97,114],103,true,0,true,1,false,.func 93 [] []⟩
 |5=>⟨[116,111,103,101,116,104,101,114],103,true,0,false,0,false,.func 94 [] []⟩
 |6=>⟨[97,116],103,false,116,false,0,false,.func 95 [] []⟩
 |7=>⟨[115,101,97,116],103,false,116,true,0,true,.func 96 [] []⟩
 |8=>⟨[97,108,116,101,114,110,97,116,101],0,false,101,false,0,false,.func 97 [] []⟩
 |9=>⟨[104,111,115,116],0,false,101,false,0,false,.func 98 [] []⟩
 |10=>⟨[114,101,97,99,104],101,false,0,false,0,false,.func 99 [] []⟩
 |11=>⟨[115,112,101,97,107],0,false,101,false,0,false,.func 100 [] []⟩
 |12=>⟨[112,101,97,99,101],0,false,101,false,0,false,.func 101 [] []⟩
 |13=>⟨[99,111,109,112,97,110,121],0,false,101,false,0,false,.func 102 [] []⟩
 |14=>⟨[104,111,110,111,117,114],0,false,101,false,0,false,.func 103 [] []⟩
 |15=>⟨[102,105,108,108],0,false,101,true,0,false,.func 104 [] []⟩
 |16=>⟨[108,105,109,105,116],0,false,101,true,0,false,.func 105 [] []⟩
 |17=>⟨[107,105,116,99,104,101,110],100,false,116,false,0,false,.func 106 [] []⟩
 |18=>⟨[109,105,120],0,false,101,false,0,false,.func 107 [] []⟩
 |_=>⟨[],0,false,0,false,0,false,.jO⟩
def EO:List (AV×AV×Nat):=[(.int .u8 1,.agg (kd 1).cells,0),(.int .u8 2,.agg (kd 2).cells,1),(.int .u8 3,.agg (kd 3).cells,2),(.int .u8 4,.agg (kd 4).cells,3),(.int .u8 5,.agg (kd 5).cells,4),(.int .u8 6,.agg (kd 6).cells,5),(.int .u8 7,.agg (kd 7).cells,6),(.int .u8 8,.agg (kd 8).cells,7),(.int .u8 9,.agg (kd 9).cells,8),(.int .u8 10,.agg (kd 10).cells,9),(.int .u8 11,.agg (kd 11).cells,10),(.int .u8 12,.agg (kd 12).cells,11),(.int .u8 13,.agg (kd 13).cells,12),(.int .u8 14,.agg (kd 14).cells,13),(.int .u8 15,.agg (kd 15).cells,14),(.int .u8 16,.agg (kd 16).cells,15),(.int .u8 17,.agg (kd 17).cells,16),(.int .u8 18,.agg (kd 18).cells,17)]
theorem afH(p:Pos):¬Plain (.map p):=λh=>by have:=h (λ_=>(⟨0,0,0⟩:Go.Ai.Loc)) (λ_=>⟨1,0,0⟩) (p.toNat+1) (p.toNat+1) (λ_=>none) _ (.map p (Nat.lt_succ_self _));cases this
theorem ah9(st:St)(p:Pos)(s':St):tidy st (.map p,s')=(.map p,s'):=by unfold tidy;rw[Za7];exact λe=>afH p e.1
theorem dU{R:Type}(c:aj)(K:AV->St->Option R)(st:St)(z:List AV)(ps:List (Nat×Nat))(xs l:List AV)(h:cE z ps xs=some l):aq c (.build z ps) xs st K=K (.agg l) st:=by rw[iq,h];rfl
theorem eF{R:Type}(c:aj)(K:AV->St->Option R)(st:St)(es:List (AV×AV×Nat))(cl:Nat)(k:IntKind)(x:Int)(v:AV)(hf:iu .i (.int k x) es 0=some none):
  aq c (.mapSet .i) [.map st.next,.int k x,v] (ah st (.map es cl)) K=K .undef (ah st (.map (es++[(.int k x,v,cl)]) (cl+1))):=by
 have:aG.run (λb=>(ah st (.map es cl)).heap.get b) (ah st (.map es cl)).next (.mapSet .i) [.map st.next,.int k x,v]=some (.bk .undef none (some (st.next,.map (es++[(.int k x,v,cl)]) (cl+1))) none):=by
  simp[aG.run,yf,hf,agj]
 unfold aq cH;rw[this];show K .undef (bg (ah st (.map es cl)) st.next _)=_;rw[Yp]
theorem aia(hc:Sem c)(s:St):c 50 [] s=some (.map s.next,ah s (.map EO 18)):=by
 rw[ad3 hc 1 (r:=(.map s.next,ah s (.map EO 18))),ah9];rw[aib];rw[az,VU];rw[dU (l:=(kd 1).cells) (h:=rfl),eF (hf:=rfl)];rw[dU (l:=(kd 2).cells) (h:=rfl),eF (hf:=rfl)];rw[dU (l:=(kd 3).cells) (h:=rfl),eF (hf:=rfl)];rw[dU (l:=(kd 4).cells) (h:=rfl),eF (hf:=rfl)];rw[dU (l:=(kd 5).cells) (h:=rfl),eF (hf:=rfl)];rw[dU (l:=(kd 6).cells) (h:=rfl),eF (hf:=rfl)];rw[dU (l:=(kd 7).cells) (h:=rfl),eF (hf:=rfl)];rw[dU (l:=(kd 8).cells) (h:=rfl),eF (hf:=rfl)];rw[dU (l:=(kd 9).cells) (h:=rfl),eF (hf:=rfl)];rw[dU (l:=(kd 10).cells) (h:=rfl),eF (hf:=rfl)];rw[dU (l:=(kd 11).cells) (h:=rfl),eF (hf:=rfl)];rw[dU (l:=(kd 12).cells) (h:=rfl),eF (hf:=rfl)];rw[dU (l:=(kd 13).cells) (h:=rfl),eF (hf:=rfl)];rw[dU (l:=(kd 14).cells) (h:=rfl),eF (hf:=rfl)];rw[dU (l:=(kd 15).cells) (h:=rfl),eF (hf:=rfl)];rw[dU (l:=(kd 16).cells) (h:=rfl),eF (hf:=rfl)];rw[dU (l:=(kd 17).cells) (h:=rfl),eF (hf:=rfl)];rw[dU (l:=(kd 18).cells) (h:=rfl),eF (hf:=rfl)];rw[az,az]
 . rfl
theorem asC{R:Type}(c:aj)(K:AV->St->Option R)(st:St)(m:Pos)(cl:Nat)(h:st.heap.get m=some (.map EO cl))(n:Nat):
   aq c (.lookup .i (.agg [.str [],.int .u8 0,.bool false,.int .u8 0,.bool false,.int .i64 0,.bool false,.jO]) false) [.map m,.int .u8 (n:Int)] st K=K (.agg (kd n).cells) st:=by
 have e:iu .i (.int .u8 (n:Int)) EO 0=some (if 1<=n/\n<=18 then some (n - 1,.agg (kd n).cells)else none):=by
   by_cases h:n<=18
   . have:n=0\/n=1\/n=2\/n=3\/n=4\/n=5\/n=6\/n=7\/n=8\/n=9\/n=10\/n=11\/n=12\/n=13\/n=14\/n=15\/n=16\/n=17\/n=18:=(by omega);rcases this with rfl|rfl|rfl|rfl|rfl|rfl|rfl|rfl|rfl|rfl|rfl|rfl|rfl|rfl|rfl|rfl|rfl|rfl|rfl<;>rfl
   . have GP:∀j:Int,j<=18->Ba (n:Int) j=false:=λj hj=>by rw[mK];simp;omega
     rw[Za7 (by omega)];simp[EO,iu,Bp,GP,dD]
 have:∀z:AV,aG.run (λb=>st.heap.get b) st.next (.lookup .i z false) [.map m,.int .u8 (n:Int)]=some (.val (if 1<=n/\n<=18 then .agg (kd n).cells else z)):=λz=>by
   simp only[aG.run,lH,h,e];by_cases h1:1<=n/\n<=18
   . rw[Zb3 h1,Zb3 h1]
   . rw[Za7 h1,Za7 h1]
 unfold aq cH;rw[this];by_cases h1:1<=n/\n<=18
 . rw[Zb3 h1]
 . rw[Za7 h1];have:kd n=⟨[],0,false,0,false,0,false,.jO⟩:=(by unfold kd;split<;>first|rfl|omega);rw[this];rfl
theorem asD(n:Nat):(kd n).kB=true->(kd n).t=116:=by unfold kd;split<;>simp
def Rl.Ok(r:Rl):Prop:=0<=r.k/\r.k<256
def uq(p:cm)(r:Rl):Int:=Se (kd r.k.toNat) p r
def n7(p:cm):Nat->Nat->Int×Int
 |0,_=>(0,0)
 |  m+1,i=>match p.rs[i]? with
    |none=>(0,0)
    |some r=>if uq p r≠0 then((i:Int),uq p r)else if i=64 then((i:Int),7)else n7 p m (i+1)
theorem ZX(p:cm):∀(m i:Nat),(n7 p m i).2=0->(n7 p m i).1=0
 |0,_,_=>rfl
 |m+    1,i,h=>by
  rw[n7]at h ⊢;cases h0:p.rs[i]? with
  |none=>rfl
  |some r=>
   rw[h0]at h;simp only at h ⊢;by_cases h1:uq p r=0
   .    rw[Za7 (by simp[h1])]at h ⊢;by_cases h2:i=64
        . rw[Zb3 h2]at h;simp at h
        . rw[Za7 h2]at h ⊢; exact ZX p m (i+1) h
   .    rw[Zb3 h1]at h;exact absurd h h1
def j6(p:cm):Int×Int:=if(jH p).2≠0 then jH p else n7 p 100 0
theorem alF(hc:Sem c)(p:cm)(hp:p.GK)(hr:∀r∈p.rs,r.Ok)(hv:(bP p.ts).2=0)(q1 mp:Pos)(cl:Nat)(F:Nat)(k1 k2):∀(m k:Nat)(st:St),Wf st->st.heap.get q1=some (.cells p.cells 0)->st.heap.get mp=some (.map EO cl)->p.rs.length<=k+m->k<=p.rs.length->
  ∃st',Grew st st'/\wM c F k1 k2 (m+1) [.ptr q1 0,.map mp,jq p.rz p.rs,.int .i64 (p.rs.length:Int),.int .i64 (k:Int)] st=if(n7 p m k).2=0 then k2 [] st' else k1 [.int .i64 (n7 p m k).1,.int .i64 (n7 p m k).2] st':=by
 have hl:=hp.rs;intro m;induction m with
 |zero=>
  intro k st hw h1 h2 h3 h4;obtain rfl:k=p.rs.length:=by omega
  refine⟨st,Grew.refl hw,?_⟩;rw[Dn];simp[n7]
 |succ m ih=>
  intro k st hw hq hm h3 h4;by_cases h:k<p.rs.length
  . have w:av .i64 ((k:Int)+1)=((k+1:Nat):Int):=wrap64 (by omega) (by omega);have cN:Wf (ah st (.cells p.rs[k].cells 0)):=bF hw;have hg:=Grew.ah hw (.cells p.rs[k].cells 0);have hq1:=hg.get hq;have oG:=hg.get hm;have hn:=aA st (.cells p.rs[k].cells 0);obtain⟨n,hk⟩:∃n:Nat,p.rs[k].k=(n:Int):=⟨p.rs[k].k.toNat,by have:=(hr _ (Zb8 h)).1;omega⟩
    have hkc:=anL hc (kd n) (asD n) p hp hv p.rs[k] _ cN;have hS:uq p p.rs[k]=Se (kd n) p p.rs[k]:=(by unfold uq;rw[hk];rfl);have Rk:=λ(K:AV->St->Option (AV×St))=>asC c K _ mp cl oG n
    have fT:=λ(K:AV->St->Option (AV×St))=>cw c K st 6 (.agg p.rs[k].cells) [.int .u8 0,.int .i64 0,.str [],.str [],.str [],.int .i64 0] rfl rfl (Rl.one _)
    rw[show(AV.agg p.rs[k].cells).cells=p.rs[k].cells from rfl]at fT;rw[<-hS]at hkc;rw[<-hk]at Rk;obtain⟨st',g1,g2⟩:=ih (k+1) _ cN hq1 oG (by omega) (by omega);rw[Dn,n7,H0 h];simp only;by_cases h5:uq p p.rs[k]=0
    .   rw[Za7 (by simp[h5])];by_cases h6:k=64
        . refine⟨_,hg,?_⟩;rw[Zb3 h6];have h6i:decide ((k:Int)=64)=true:=(by simp only[Ze4];omega);simp[-cw,fT,jq,h,hq1,oG,Rk,hkc,h5,h6i]
        . refine⟨st',hg.trans g1,?_⟩;rw[Za7 h6, <-g2];have h6i:¬(k:Int)=64:=(by omega);simp[-cw,fT,jq,h,hq1,oG,Rk,hkc,h5,h6i,w]
    .   refine⟨_,hg,?_⟩;rw[Zb3 h5];simp[-cw,fT,jq,h,hq1,oG,Rk,hkc,h5]
  . obtain rfl:k=p.rs.length:=(by omega);refine⟨st,Grew.refl hw,?_⟩;rw[Dn];simp[n7]
theorem ajg{p:cm}(h:(jH p).2=0):(bP p.ts).2=0:=by
 unfold jH at h;by_cases h1:(bP p.ts).2=0
 . exact h1
 . rw[Zb3 h1]at h;exact absurd h h1
theorem afI(hc:Sem c)(p:cm)(hp:p.GK)(hR:acM c p)(hr:∀r∈p.rs,r.Ok)(st:St)(hw:Wf st):c 56 [.agg p.cells] st=some (.tuple [.int .i64 (j6 p).1,.int .i64 (j6 p).2],st):=by
 have zB:Plain (.tuple [.int .i64 (j6 p).1,.int .i64 (j6 p).2]):=Plain.tuple (by simp[Plain.int]);have cN:Wf (ah st (.cells p.cells 0)):=bF hw;have hg1:=Grew.ah hw (.cells p.cells 0);have ki:(ah st (.cells p.cells 0)).heap.get st.next=some (.cells p.cells 0):=aA _ _;have B:=aqm hc p hp hR _ cN;by_cases h:(jH p).2=0
 . have hv:=ajg h;have K:=aia hc (ah st (.cells p.cells 0));have sQ:Wf (ah (ah st (.cells p.cells 0)) (.map EO 18)):=bF cN;have CR:=Grew.ah cN (.map EO 18);obtain⟨st',g1,g2⟩:=alF hc p hp hr hv st.next (ah st (.cells p.cells 0)).next 18 101 (λvs s50=>gY vs λx2 vs=>gY vs λx3 vs=>mz vs (
   some (.tuple [x2,x3],s50))) (λvs s51=>mz vs (
   aq c .move [(.int .i64 0)] s51 λx2 s52=>
 aq c .move [(.int .i64 0)] s52 λx3 s53=>
 some (.tuple [x2,x3],s53))) 100 0 _ sQ (CR.get ki) (aA _ _) (by have:=hp.rs;omega) (by omega)
   have e:j6 p=n7 p 100 0:=(by unfold j6;rw[Za7 (by simp[h])]);have e0:=ajf h;rw[Qg hc 101 (r:=(.tuple [.int .i64 (j6 p).1,.int .i64 (j6 p).2],st')),aE zB ((hg1.trans CR).trans g1).keeps];rw[Xa,e];simp at g2;simp[ki,B,h,K,g2];by_cases h2:(n7 p 100 0).2=0
   . have:=ZX p 100 0 h2;simp[h2,this]
   . simp[h2]
 . have e:j6 p=jH p:=(by unfold j6;rw[Zb3 h]);rw[Qg hc 101 (r:=(.tuple [.int .i64 (j6 p).1,.int .i64 (j6 p).2],ah st (.cells p.cells 0))),aE zB hg1.keeps];rw[Xa,e];simp[ki,B,h]
def wl:List AV:=(List.range 19).map λi=> .str (kd i).w
end
section
set_option maxRecDepth 100000
set_option linter.unusedVariables false
open Go Go.Ai Go.Proofs
variable{c : aj}
end
section
set_option maxRecDepth 100000
open Go Go.Ai Go.Proofs
variable{c : aj}
end
section
set_option maxRecDepth 100000
open Go Go.Ai Go.Proofs
theorem GG{Q:List AV->Prop}{Qs:List (List AV->Prop)}{ps:List (List AV)}(h:RH (Q::Qs) ps):∃p qs,ps=p::qs/\Q p/\RH Qs qs:=by
 cases ps with
 |nil=>exact h.elim
 |cons p qs=>exact⟨p,qs,rfl,h⟩
theorem ahi{ps:List (List AV)}(h:RH [] ps):ps=[]:=by
 cases ps with
 |nil=>rfl
 |cons p qs=>exact h.elim
section
variable{H : Type}{enc : TypeId × Value -> H}{w : World}{base : Nat}{spare : Nat -> Bool}{held : Bool}
end
variable{c : aj}
abbrev EN:Nat:=1048576
abbrev bV(i:Int):List AV:=[.int .i64 i]
abbrev SG(s:List Nat):List AV:=[.str s]
def aD.ax(t:aD)(v:AV):List AV:=[.str t.name,.int .u8 t.sh,.int .i64 t.a,.int .i64 t.b,v,.int .i64 t.x,.int .i64 t.y]
theorem aD.Ln(t:aD){v:AV}(h:aQ [v]=true):aQ (t.ax v)=true:=by
 simp only[aQ]at h;unfold aD.ax;simp only[aQ,AV.one,h,Zk2,Zi3]at*
structure TS(s0 s:St)(V:AV)(ts:List aD)(rows:List (List AV)):Prop where
 out:Mk 7 s0 s V rows
 len:rows.length=ts.length
 dX:∀(i:Nat)(t:aD)(r:List AV),ts[i]? =some t->rows[i]? =some r->∃v,r=t.ax v/\Mk 1 s0 s v (t.kA.map bV)/\∀b,aL v=some b->aL V≠some b
structure GS(s0 s:St)(V:AV)(ts:List aT)(rows:List (List AV)):Prop where
 out:Mk 9 s0 s V rows
 len:rows.length=ts.length
 dX:∀(i:Nat)(t:aT)(r:List AV),ts[i]? =some t->rows[i]? =some r->∃v,r=t.ax v/\Mk 1 s0 s v (t.tg.map SG)/\∀b,aL v=some b->aL V≠some b
structure PS(s0 s:St)(Vs:List AV)(p:cm):Prop where
 ai:Grew s0 s
 all:∃V1 V2 V3 V4 V5 r1 r2,Vs=[V1,V2,V3,V4,V5]/\TS s0 s V1 p.ts r1/\GS s0 s V2 p.gs r2/\Mk 3 s0 s V3 (p.ys.map Ty.cells)/\Mk 1 s0 s V4 (p.cs.map bV)/\Mk 6 s0 s V5 (p.rs.map Rl.cells)
theorem TS.qY{s0 s s':St}{V:AV}{ts:List aD}{rows:List (List AV)}(h:TS s0 s V ts rows)(hg:Grew s0 s')(hk:∀b x,s0.next.toNat<=b.toNat->(aL V=some b\/∃(i:Nat) (r:List AV) (v:AV),rows[i]? =some r/\r[4]? =some v/\aL v=some b)->s.heap.get b=some x->s'.heap.get b=some x):TS s0 s' V ts rows:=
 ⟨Mk.qY h.out hg λb x hb hx=>hk b x (h.out.new b hb) (.inl hb) hx,h.len,λi t r hi hr=>by
  obtain⟨v,e1,e2,e3⟩:=h.dX i t r hi hr;exact⟨v,e1,Mk.qY e2 hg λb x hb hx=>hk b x (e2.new b hb) (.inr ⟨i,r,v,hr,by rw[e1];rfl,hb⟩) hx,e3⟩⟩
theorem GS.qY{s0 s s':St}{V:AV}{ts:List aT}{rows:List (List AV)}(h:GS s0 s V ts rows)(hg:Grew s0 s')(hk:∀b x,s0.next.toNat<=b.toNat->(aL V=some b\/∃(i:Nat) (r:List AV) (v:AV),rows[i]? =some r/\r[8]? =some v/\aL v=some b)->s.heap.get b=some x->s'.heap.get b=some x):GS s0 s' V ts rows:=
 ⟨Mk.qY h.out hg λb x hb hx=>hk b x (h.out.new b hb) (.inl hb) hx,h.len,λi t r hi hr=>by
  obtain⟨v,e1,e2,e3⟩:=h.dX i t r hi hr;exact⟨v,e1,Mk.qY e2 hg λb x hb hx=>hk b x (e2.new b hb) (.inr ⟨i,r,v,hr,by rw[e1];rfl,hb⟩) hx,e3⟩⟩
structure aD.Real(t:aD):Prop where
 name:∀x∈t.name,x<256
 kA:t.kA.length<=EN
structure aT.Real(g:aT):Prop where
 name:∀x∈g.name,x<256
 zX:∀x∈g.zX,x<256
 kq:∀x∈g.kq,x<256
 nH:∀x∈g.nH,x<256
 tg:g.tg.length<=EN
theorem TS.qZ{s0 s1 s s':St}{V:AV}{ts:List aD}{rows:List (List AV)}(h:TS s1 s V ts rows)(h0:Wf s0)(zF:Grew s0 s1)(hg:Grew s0 s')(hk:∀q b,s1.next.toNat<=q.toNat->s.heap.get q=some b->s'.heap.get q=some b):TS s0 s' V ts rows:=
 ⟨Mk.qZ h.out h0 zF hg hk,h.len,λi t r hi hr=>by obtain⟨v,e1,e2,e3⟩:=h.dX i t r hi hr;exact⟨v,e1,Mk.qZ e2 h0 zF hg hk,e3⟩⟩
theorem GS.qZ{s0 s1 s s':St}{V:AV}{ts:List aT}{rows:List (List AV)}(h:GS s1 s V ts rows)(h0:Wf s0)(zF:Grew s0 s1)(hg:Grew s0 s')(hk:∀q b,s1.next.toNat<=q.toNat->s.heap.get q=some b->s'.heap.get q=some b):GS s0 s' V ts rows:=
 ⟨Mk.qZ h.out h0 zF hg hk,h.len,λi t r hi hr=>by obtain⟨v,e1,e2,e3⟩:=h.dX i t r hi hr;exact⟨v,e1,Mk.qZ e2 h0 zF hg hk,e3⟩⟩
structure cm.Real(p:cm):Prop where
 ts:p.ts.length<=1000
 tab:∀t∈p.ts,t.Real
 gs:p.gs.length<=1000
 pN:∀t∈p.gs,t.Real
 ys:p.ys.length<=EN
 cs:p.cs.length<=EN
 rs:p.rs.length<=EN
theorem Hh{R:Type}{p:Pos}{o:Nat}{h:T AB}{v:AV}(hv:((cellsOf (h.get p)).bind λcs=>cs[o]?)=some v)(ok:AV->Bool)(cG:ok v=true)(K:AV->Option R):jx (.load none) [.ptr p o] h ok K=K v:=by
 unfold jx;have e:aG.run (λ_=>none) .h (.load none) [.ptr p o]=none:=rfl;rw[e];simp only;rw[sW,hv];simp only[Ze5];rw[cG]
theorem Ly{p:Pos}{o:Nat}{h:T AB}{v:AV}(hv:((cellsOf (h.get p)).bind λcs=>cs[o]?)=some v)(hb:ey v v=true):oY (.load none) [.ptr p o] v (nK [] h)=true:=by unfold oY;show(match aG.run (λb=>h.get b) .h (.load none) [.ptr p o]with|some (.val u)=>ey u v|_=>false)=true;rw[sW,hv];exact hb
variable{c : aj}
abbrev Sm(v:Int):Prop:=0<=v/\v<=1000000
def alG(a x y:Int):Bool:=decide (y - x=1)||decide (y - x=a - 1)
def alH(a x y:Int):Bool:=decide (a.tmod 2=0)&&decide (y - x=a.tdiv 2)
def Ir(a b:Int):Int:=a+min b 1
def alI(a b x y:Int):Bool:=
 bif decide (b=2)&&decide (y=2*a+1)then decide (x=0)||decide (x=y - 1)
 else bif decide (0<b)&&(decide (x=a)||decide (y=a))then decide (y - x=1)else decide (y - x=1)&&(decide (y<a)||decide (Ir a b<=x))
def alJ(a b x y:Int):Bool:=bif decide (b=2)&&decide (y=2*a+1)then decide (x=a)else decide (x<a)&&decide (x+y=Ir a b+a - 1)
def alK(x y:Int):Bool:=decide (y - x=1)
def alL(a b x y:Int):Bool:=decide (x<b)&&decide (x+y=a+2*b - 1)
def alM(b x y:Int):Bool:=decide (y - x=1)&&(decide (b=0)|| !decide (y.tmod b=0))
theorem ad4(hc:Sem c)(a b x y:Int)(ha:Sm a)(hx:Sm x)(hy:Sm y)(st:St):
  c 205 [.int .i64 a,.int .i64 b,.int .i64 x,.int .i64 y] st=some (.bool (alG a x y),st):=by
 have w1:av .i64 (y - x)=y - x:=wrap64 (by omega) (by omega);have w2:av .i64 (a - 1)=a - 1:=wrap64 (by omega) (by omega);rw[SH hc 1 (r:=(.bool (alG a x y),st)),aE (Plain.bool _) (aW.refl st)];rw[Xb];unfold alG;cases h:decide (y - x=1)<;>simp[w1,w2,h]
theorem ad5(hc:Sem c)(a b x y:Int)(ha:Sm a)(hx:Sm x)(hy:Sm y)(st:St):
  c 206 [.int .i64 a,.int .i64 b,.int .i64 x,.int .i64 y] st=some (.bool (alH a x y),st):=by
 have w1:av .i64 (y - x)=y - x:=wrap64 (by omega) (by omega);have hq:0<=a.tdiv 2/\a.tdiv 2<=1000000:=by rw[Zi2 ha.1];omega
 have w2:av .i64 (a.tdiv 2)=a.tdiv 2:=wrap64 (by omega) (by omega);rw[SJ hc 1 (r:=(.bool (alH a x y),st)),aE (Plain.bool _) (aW.refl st)];rw[Xc];unfold alH;cases h:decide (a.tmod 2=0)<;>simp[w1,w2,h]
theorem akd(hc:Sem c)(a b:Int)(ha:Sm a)(hb:Sm b)(st:St):c 238 [.int .i64 a,.int .i64 b] st=some (.int .i64 (Ir a b),st):=by
 have w1:av .i64 (a+min b 1)=a+min b 1:=wrap64 (by omega) (by omega);rw[aic hc 1 (r:=(.int .i64 (Ir a b),st)),aE (Plain.int _ _) (aW.refl st)];rw[alN];unfold Ir;simp[w1]
theorem afJ (hc:Sem c)(a b x y:Int)(ha:Sm a)(hb:Sm b)(hx:Sm x)(hy:Sm y)(st:St):
   c 210 [.int .i64 a,.int .i64 b,.int .i64 x,.int .i64 y] st=some (.bool (alI a b x y),st):=by
 have w1:av .i64 (y - x)=y - x:=wrap64 (by omega) (by omega);have w2:av .i64 (y - 1)=y - 1:=wrap64 (by omega) (by omega);have w3:av .i64 (2*a)=2*a:=wrap64 (by omega) (by omega);have w4:av .i64 (2*a+1)=2*a+1:=wrap64 (by omega) (by omega);have t:=akd hc a b ha hb st;rw[UX hc 1 (r:=(.bool (alI a b x y),st)),aE (Plain.bool _) (aW.refl st)];rw[Zg];unfold alI;cases h1:decide (b=2)
 . cases  h4:decide (0<b)
   . cases h7:decide (y - x=1)
     .  simp[w1,w2,w3,w4,t,h1,h4,h7]
     .  cases h8:decide (y<a)<;>simp[w1,w2,w3,w4,t,h1,h4,h7,h8]
   . cases h5:decide (x=a)
     .  cases h6:decide (y=a)
        . cases h7:decide (y - x=1)
          . simp[w1,w2,w3,w4,t,h1,h4,h5,h6,h7]
          . cases h8:decide (y<a)<;>simp[w1,w2,w3,w4,t,h1,h4,h5,h6,h7,h8]
        . simp[w1,w2,w3,w4,t,h1,h4,h5,h6]
     .  simp[w1,w2,w3,w4,t,h1,h4,h5]
 . cases  h2:decide (y=2*a+1)
   . cases  h4:decide (0<b)
     .  simp at h1 h4;omega
     .  cases h5:decide (x=a)
        . cases h6:decide (y=a)
          . cases h7:decide (y - x=1)
            . simp[w1,w2,w3,w4,t,h1,h2,h4,h5,h6,h7]
            . cases h8:decide (y<a)<;>simp[w1,w2,w3,w4,t,h1,h2,h4,h5,h6,h7,h8]
          . simp[w1,w2,w3,w4,t,h1,h2,h4,h5,h6]
        . simp[w1,w2,w3,w4,t,h1,h2,h4,h5]
   . cases h3:decide (x=0)<;>simp[w1,w2,w3,w4,t,h1,h2,h3]
theorem afK(hc:Sem c)(a b x y:Int)(ha:Sm a)(hb:Sm b)(hx:Sm x)(hy:Sm y)(st:St):
   c 211 [.int .i64 a,.int .i64 b,.int .i64 x,.int .i64 y] st=some (.bool (alJ a b x y),st):=by
 have w1:av .i64 (x+y)=x+y:=wrap64 (by omega) (by omega);have w3:av .i64 (2*a)=2*a:=wrap64 (by omega) (by omega);have w4:av .i64 (2*a+1)=2*a+1:=wrap64 (by omega) (by omega);have hT:0<=Ir a b/\Ir a b<=1000001:=by unfold Ir;omega
 have w5:av .i64 (Ir a b+a)=Ir a b+a:=wrap64 (by omega) (by omega);have w6:av .i64 (Ir a b+a - 1)=Ir a b+a - 1:=wrap64 (by omega) (by omega);have t:=akd hc a b ha hb st;rw[UY hc 1 (r:=(.bool (alJ a b x y),st)),aE (Plain.bool _) (aW.refl st)];rw[Zh];unfold alJ;cases h1:decide (b=2)
 . cases h3:decide (x<a)<;>simp[w1,w3,w4,w5,w6,t,h1,h3]
 . cases h2:decide (y=2*a+1)
   . cases h3:decide (x<a)<;>simp[w1,w3,w4,w5,w6,t,h1,h2,h3]
   . simp[w1,w3,w4,t,h1,h2]
theorem afL(hc:Sem c)(a b x y:Int)(hx:Sm x)(hy:Sm y)(st:St):
  c 215 [.int .i64 a,.int .i64 b,.int .i64 x,.int .i64 y] st=some (.bool (alK x y),st):=by
 have w1:av .i64 (y - x)=y - x:=wrap64 (by omega) (by omega);rw[UZ hc 1 (r:=(.bool (alK x y),st)),aE (Plain.bool _) (aW.refl st)];rw[Zi];unfold alK;simp[w1]
theorem afM(hc:Sem c)(a b x y:Int)(ha:Sm a)(hb:Sm b)(hx:Sm x)(hy:Sm y)(st:St):
  c 216 [.int .i64 a,.int .i64 b,.int .i64 x,.int .i64 y] st=some (.bool (alL a b x y),st):=by
 have w1:av .i64 (x+y)=x+y:=wrap64 (by omega) (by omega);have w2:av .i64 (2*b)=2*b:=wrap64 (by omega) (by omega);have w3:av .i64 (a+2*b)=a+2*b:=wrap64 (by omega) (by omega);have w4:av .i64 (a+2*b - 1)=a+2*b - 1:=wrap64 (by omega) (by omega);rw[U0 hc 1 (r:=(.bool (alL a b x y),st)),aE (Plain.bool _) (aW.refl st)];rw[Zj];unfold alL;cases h:decide (x<b)<;>simp[w1,w2,w3,w4,h]
theorem aid(hc:Sem c)(a b x y:Int)(hx:Sm x)(hy:Sm y)(st:St):
   c 220 [.int .i64 a,.int .i64 b,.int .i64 x,.int .i64 y] st=some (.bool (alM b x y),st):=by
 have w1:av .i64 (y - x)=y - x:=wrap64 (by omega) (by omega);rw[Xd hc 1 (r:=(.bool (alM b x y),st)),aE (Plain.bool _) (aW.refl st)];rw[abh];unfold alM;cases h:decide (y - x=1)
 . simp[w1,h]
 . cases h2:decide (b=0)
   . have hb:b≠0:=(by simpa using h2);simp[w1,h,h2,adz _ _ _ _ _ _ _ hb]
   . simp[w1,h,h2]
theorem auL(hc:Sem c)(a b x y:Int)(st:St):c 221 [.int .i64 a,.int .i64 b,.int .i64 x,.int .i64 y] st=some (.bool false,st):=by rw[U1 hc 1 (r:=(.bool false,st)),aE (Plain.bool _) (aW.refl st)];rw[Zk];simp
variable{c : aj}
structure aD.Fit(t:aD):Prop where
 sh:1<=t.sh/\t.sh<=4
 a:0<=t.a/\t.a<=24
 b:0<=t.b/\t.b<=24
theorem acN{t:aD}(h:bI t≠0):t.Fit:=by
 unfold bI at h;split at h
 . split at h
   . exact⟨by omega,by omega,by omega⟩
   . exact absurd rfl h
 split at h
 . split at h
   . exact⟨by omega,by omega,by omega⟩
   . exact absurd rfl h
 split at h
 . split at h
   . exact⟨by omega,by omega,by omega⟩
   . exact absurd rfl h
 split at h
 . split at h
   . exact⟨by omega,by omega,by omega⟩
   . exact absurd rfl h
 . exact absurd rfl h
def Oj(t:aD)(x y:Int):Bool:=
 !decide (x=y)&&(if t.sh=1 then alG t.a (min x y) (max x y)else if t.sh=2 then alI t.a t.b (min x y) (max x y)else if t.sh=3 then alK (min x y) (max x y)else alM t.b (min x y) (max x y))
def SK(t:aD)(x y:Int):Bool:=
 !decide (x=y)&&(if t.sh=1 then alH t.a (min x y) (max x y)else if t.sh=2 then alJ t.a t.b (min x y) (max x y)else if t.sh=3 then alL t.a t.b (min x y) (max x y)else false)
def zZ(t:aD)(x y:Int):Bool:=Oj t x y||SK t x y
theorem ae2(hc:Sem c)(t:aD)(ht:t.Fit)(x y:Int)(hx:Sm x)(hy:Sm y)(st:St)(hw:Wf st):
   c 126 [.agg t.cells,.int .i64 x,.int .i64 y] st=some (.bool (Oj t x y),st):=by
 have hm:Sm (min x y):=by omega
 have hM:Sm (max x y):=by omega
 obtain⟨⟨s1,s2⟩,⟨a1,a2⟩,b1,b2⟩:=ht;rw[acO hc 1 (r:=(.bool (Oj t x y),ah (ah st (.cells t.cells 0)) (.cells (ij t.sh) 0))),aE (Plain.bool _) ((b9 hw).trans (b9 (bF hw)))];rw[afN];obtain⟨name,sh,a,b,oz,kA,tx,ty⟩:=t;simp only at s1 s2 a1 a2 b1 b2;have ha:Sm a:=by omega
 have hb:Sm b:=by omega
 have hS:sh=1\/sh=2\/sh=3\/sh=4:=by omega
 cases h:decide (x=y)
 . rcases hS with rfl|rfl|rfl|rfl
   . simp[aD.cells,AV.cells,fM hc,hw,Oj,ij,aQ,AV.one,h,ad4 hc a b _ _ ha hm hM]
   . simp[aD.cells,AV.cells,fM hc,hw,Oj,ij,aQ,AV.one,h,afJ hc a b _ _ ha hb hm hM]
   . simp[aD.cells,AV.cells,fM hc,hw,Oj,ij,aQ,AV.one,h,afL hc a b _ _ hm hM]
   . simp[aD.cells,AV.cells,fM hc,hw,Oj,ij,aQ,AV.one,h,aid hc a b _ _ hm hM]
 . rcases hS with rfl|rfl|rfl|rfl<;>simp[aD.cells,AV.cells,fM hc,hw,Oj,ij,aQ,AV.one,h]
theorem ae3(hc:Sem c)(t:aD)(ht:t.Fit)(x y:Int)(hx:Sm x)(hy:Sm y)(st:St)(hw:Wf st):
   c 127 [.agg t.cells,.int .i64 x,.int .i64 y] st=some (.bool (SK t x y),st):=by
 have hm:Sm (min x y):=by omega
 have hM:Sm (max x y):=by omega
 obtain⟨⟨s1,s2⟩,⟨a1,a2⟩,b1,b2⟩:=ht;rw[acP hc 1 (r:=(.bool (SK t x y),ah (ah st (.cells t.cells 0)) (.cells (ij t.sh) 0))),aE (Plain.bool _) ((b9 hw).trans (b9 (bF hw)))];rw[afO];obtain⟨name,sh,a,b,oz,kA,tx,ty⟩:=t;simp only at s1 s2 a1 a2 b1 b2;have ha:Sm a:=by omega
 have hb:Sm b:=by omega
 have hS:sh=1\/sh=2\/sh=3\/sh=4:=by omega
 cases h:decide (x=y)
 . rcases hS with rfl|rfl|rfl|rfl
   . simp[aD.cells,AV.cells,fM hc,hw,SK,ij,aQ,AV.one,h,ad5 hc a b _ _ ha hm hM]
   . simp[aD.cells,AV.cells,fM hc,hw,SK,ij,aQ,AV.one,h,afK hc a b _ _ ha hb hm hM]
   . simp[aD.cells,AV.cells,fM hc,hw,SK,ij,aQ,AV.one,h,afM hc a b _ _ ha hb hm hM]
   . simp[aD.cells,AV.cells,fM hc,hw,SK,ij,aQ,AV.one,h,auL hc]
 . rcases hS with rfl|rfl|rfl|rfl<;>simp[aD.cells,AV.cells,fM hc,hw,SK,ij,aQ,AV.one,h]
theorem asE(hc:Sem c)(t:aD)(ht:t.Fit)(x y:Int)(hx:Sm x)(hy:Sm y)(st:St)(hw:Wf st):
  c 224 [.agg t.cells,.int .i64 x,.int .i64 y] st=some (.bool (zZ t x y),st):=by
 have hp:=aA st (.cells t.cells 0);have B:=ae2 hc t ht x y hx hy _ (bF (b:= .cells t.cells 0) hw);have A:=ae3 hc t ht x y hx hy _ (bF (b:= .cells t.cells 0) hw);rw[afP hc 1 (r:=(.bool (zZ t x y),ah st (.cells t.cells 0))),aE (Plain.bool _) (b9 hw)];rw[ajh];unfold zZ;cases h:Oj t x y<;>simp[hp,B,A,h,aD.len]
def Xe:List aD->Int->Nat->Option (Nat×Int)
 |[],_,_=>none
 |t::ts,s,i=>if s<bI t then some (i,s)else Xe ts (s - bI t) (i+1)
theorem aie:∀{ts:List aD}{s:Int}{i:Nat}{k:Nat}{x:Int},0<=s->Xe ts s i=some (k,x)->i<=k/\0<=x/\∃t,ts[k - i]? =some t/\x<bI t
 |[],_,_,_,_,_,h=>by cases h
 |t ::ts,s,i,k,x,hs,h=>by
  unfold Xe at h;split at h
  . simp only[H5,Zc9]at h;obtain⟨rfl,rfl⟩:=h;exact⟨Za3 _,hs,t,by simp,by assumption⟩
  . obtain⟨h1,h2,t',h3,h4⟩:=aie (by omega) h;refine⟨by omega,h2,t',?_,h4⟩;rw[show k - i=(k - (i+1))+1 by omega,Zc0];exact h3
def EV:Option (Nat×Int)->AV
 |some (i,x)=> .tuple [.int .i64 (i:Int),.int .i64 x,.bool true]
 |none=> .tuple [.int .i64 0,.int .i64 0,.bool false]
theorem ae4(o:Option (Nat×Int)):Plain (EV o):=by
 cases o with
 |none=>exact Plain.tuple λv hv=>by simp at hv;rcases hv with rfl|rfl|rfl<;>first|exact Plain.int _ _|exact Plain.bool _
 |some p=>exact Plain.tuple λv hv=>by simp at hv;rcases hv with rfl|rfl|rfl<;>first|exact Plain.int _ _|exact Plain.bool _
def EW(ts:List aD)(s:Int):Option (Nat×Int):=if s<0\/(bP ts).2≠0 then none else Xe ts s 0
theorem alO(hc:Sem c)(z:Bool)(ts:List aD)(hl:ts.length<=16)(F:Nat)(k1 k2):∀(m k:Nat)(s:Int)(st:St),Wf st->ts.length<=k+m->k<=ts.length->0<=s->s<=4611686018427387904->
  ∃ st',Grew st st'/\sH c F k1 k2 (m+1) [.int .i64 s,tabs z ts,.int .i64 (ts.length:Int),.int .i64 (k:Int)] st=
    (match Xe (ts.drop k) s k with|some (i,x)=>k1 [.int .i64 (i:Int),.int .i64 x,.bool true] st'|none=>k2 [] st'):=by
 intro m;induction m with
 |zero=>
  intro k s st hw h1 h2 h3 h4;obtain rfl:k=ts.length:=by omega
  refine⟨st,Grew.refl hw,?_⟩;rw[xZ];simp[Xe]
 |succ m ih=>
  intro k s st hw h1 h2 h3 h4;by_cases h:k<ts.length
  . have w:av .i64 ((k:Int)+1)=((k+1:Nat):Int):=wrap64 (by omega) (by omega);have cN:Wf (ah st (.cells ts[k].cells 0)):=bF hw;have hg:=Grew.ah hw (.cells ts[k].cells 0);have hs:=P8 hc ts[k] _ cN;have b2:=AH ts[k];have w2:av .i64 (s - bI ts[k])=s - bI ts[k]:=wrap64 (by omega) (by omega);rw[Zd6 h];unfold Xe;by_cases aS:s<bI ts[k]
    .   refine⟨_,hg,?_⟩;rw[xZ];simp[tabs,h,hs,aS,aD.len]
    .   obtain⟨st',g1,g2⟩:=ih (k+1) (s - bI ts[k]) _ cN (by omega) (by omega) (by omega) (by omega);refine⟨st',hg.trans g1,?_⟩;simp only[aS,Zh2];rw[<-g2,xZ];simp[tabs,h,hs,w,w2,aS,aD.len]
  . obtain rfl:k=ts.length:=(by omega);refine⟨st,Grew.refl hw,?_⟩;rw[xZ];simp[Xe]
theorem SL(hc:Sem c)(z:Bool)(ts:List aD)(cG:∀t∈ts,t.Ok)(s:Int)(hs:s<=4611686018427387904)(st:St)(hw:Wf st):
   c 123 [tabs z ts,.int .i64 s] st=some (EV (EW ts s),st):=by
 have lT:∀(K:AV->St->Option (AV×St))(s:St),aq c (.lenB .l) [tabs z ts] s K=K (.int .i64 (ts.length:Int)) s:=λK s=>by unfold tabs;rw[iy];simp
 have hv:=SA hc z ts cG st hw;by_cases h:s<0\/(bP ts).2≠0
 . have e:EW ts s=none:=(by rw[EW,Zb3 h]);rw[Qh hc 1 (r:=(EV (EW ts s),st)),aE (ae4 _) (aW.refl st)];rw[Xf,e];by_cases h1:s<0
   . simp[h1,EV]
   . have h3:(bP ts).2≠0:=h.resolve_left h1;simp[h1,h3,hv,EV]
 . have e:EW ts s=Xe ts s 0:=(by rw[EW,Za7 h]);have h1:¬s<0:=λe=>h (.inl e)
   have h3:(bP ts).2=0:=Zl2 λe=>h (.inr e)
   have hl:=Nt h3;have hex:=λk1 k2=>alO hc z ts hl 20 k1 k2 19 0 s st hw (by omega) (by omega) (by omega) hs
   obtain⟨st',hg,L⟩:=hex (λvs s40=>gY vs λx4 vs=>gY vs λx5 vs=>gY vs λx6 vs=>mz vs (some (.tuple [x4,x5,x6],s40)))
     (λvs s41=>mz vs (aq c .move [.int .i64 0] s41 λx4 s42=>aq c .move [.int .i64 0] s42 λx5 s43=>aq c .move [.bool false] s43 λx6 s44=>some (.tuple [x4,x5,x6],s44)))
   rw[Qh hc 20 (r:=(EV (EW ts s),st')),aE (ae4 _) hg.keeps];rw[Xf,e]
   have L':sH c 20 (λvs s40=>gY vs λx4 vs=>gY vs λx5 vs=>gY vs λx6 vs=>mz vs (some (.tuple [x4,x5,x6],s40)))
     (fun vs s41=>mz vs (aq c .move [.int .i64 0] s41 fun x4 s42=>aq c .move [.int .i64 0] s42 fun x5 s43=>aq c .move [.bool false] s43 fun x6 s44=>some (.tuple [x4,x5,x6],s44))) 20
        [.int .i64 s,tabs z ts,.int .i64 (ts.length:Int),.int .i64 0] st=some (EV (Xe ts s 0),st'):=by
     have:=L;simp only[Ze6]at this;rw[show((0:Nat):Int)=0 from rfl]at this;rw[this];cases Xe ts s 0 with
     |none=>simp[EV]
     |some p=>simp[EV]
   simp at L';simp[h1,h3,hv,lT,L']
def qk(ts:List aD)(a b:Int):Option (aD×Int×Int):=match EW ts a,EW ts b with
 |some (i,x),some (k,y)=>if i=k then(ts[i]?).map λt=>(t,x,y)else none
 |_,_=>none
def zT:aD:=⟨[],0,0,0,true,[],0,0⟩
def Bk:Option (aD×Int×Int)->AV
 |some (t,x,y)=> .tuple [.agg t.cells,.int .i64 x,.int .i64 y,.bool true]
 |none=> .tuple [.agg zT.cells,.int .i64 0,.int .i64 0,.bool false]
theorem ZY(ts:List aD):∀(m k:Nat),ts.length<=k+m->(iE ts m k).2=0->∀(i:Nat)(t:aD),k<=i->ts[i]? =some t->rZ t=0
 |0,k,h1,_,i,t,h3,h4=>by rw[Zc1 (by omega)]at h4;cases h4
 |m +   1,k,h1,h2,i,t,h3,h4=>by
  have hk:k<ts.length:=by have:=(Za2.1 h4).1;omega
  rw[iE,H0 hk]at h2;simp only at h2;by_cases h5:rZ ts[k]=0
  . rw[Za7 (by simpa using h5)]at h2;split at h2
    .   simp at h2
    .   by_cases h6:i=k
        . subst h6;rw[H0 hk]at h4;cases h4;exact h5
        . exact ZY ts m (k+1) (by omega) h2 i t (by omega) h4
  . rw[Zb3 h5]at h2;exact absurd h2 h5
theorem ae5{ts:List aD}(h:(bP ts).2=0){i:Nat}{t:aD}(ht:ts[i]? =some t):rZ t=0:=by
 unfold bP at h;split at h
 . simp at h
 . exact ZY ts _ 0 (by omega) h i t (by omega) ht
theorem anM{t:aD}(h:rZ t=0):bI t≠0:=by
 unfold rZ at h;split at h
 . cases h
 . split at h
   . cases h
   . assumption
theorem Lz{ts:List aD}{s:Int}{i:Nat}{x:Int}(h:EW ts s=some (i,x)):(bP ts).2=0/\0<=x/\∃t,ts[i]? =some t/\x<bI t/\t.Fit:=by
 unfold EW at h;split at h
 . cases h
 . (rename_i hn;have h1:¬s<0:=λe=>hn (.inl e));have h3:(bP ts).2=0:=Zl2 λe=>hn (.inr e)
   obtain⟨_,q2,t,q3,q4⟩:=aie (by omega) h;exact⟨h3,q2,t,q3,q4,acN (anM (ae5 h3 q3))⟩
theorem acQ{ts:List aD}{a b:Int}{t:aD}{x y:Int}(h:qk ts a b=some (t,x,y)):t.Fit/\Sm x/\Sm y:=by
 unfold qk at h;split at h
 . rename_i i x' k y' h1 h2;split at h
   . rename_i hk;subst hk;obtain⟨_,p1,t1,p2,p3,p4⟩:=Lz h1;obtain⟨_,q1,t2,q2,q3,_⟩:=Lz h2;rw[p2]at q2 h;cases q2;simp only[Ze5,H5,Zc9]at h;obtain⟨rfl,rfl,rfl⟩:=h;have:=AH t1;exact⟨p4,by omega,by omega⟩
   . cases h
 . cases h
theorem aji(o:Option (aD×Int×Int)):Plain (Bk o):=by
 cases o with
 |none=>exact Plain.tuple λv hv=>by simp at hv;rcases hv with rfl|rfl|rfl|rfl<;>first|exact Plain.agg (by intro v hv;simp only[aD.cells,Zb0,Zc5,Zf2]at hv;rcases hv with rfl|rfl|rfl|rfl|rfl|rfl|rfl<;>first|exact Plain.str _|exact Plain.int _ _|exact acv _ _)|exact Plain.int _ _|exact Plain.bool _
 |some p=>exact Plain.tuple λv hv=>by simp at hv;rcases hv with rfl|rfl|rfl|rfl<;>first|exact Plain.agg (by intro v hv;simp only[aD.cells,Zb0,Zc5,Zf2]at hv;rcases hv with rfl|rfl|rfl|rfl|rfl|rfl|rfl<;>first|exact Plain.str _|exact Plain.int _ _|exact acv _ _)|exact Plain.int _ _|exact Plain.bool _
def Bl:Option (aD×Int×Int)->List AV
 |some (t,_,_)=>t.cells
 |none=>zT.cells
theorem aif(hc:Sem c)(z:Bool)(ts:List aD)(cG:∀t∈ts,t.Ok)(a b:Int)(ha:a<=4611686018427387904)(hb:b<=4611686018427387904)(st:St)(hw:Wf st):
  c 125 [tabs z ts,.int .i64 a,.int .i64 b] st=some (Bk (qk ts a b),st):=by
 have cN:Wf (ah st (.cells [.str [],.int .u8 0,.int .i64 0,.int .i64 0,.af,.int .i64 0,.int .i64 0] 0)):=bF hw;have hcut:cut [AV.str [],.int .u8 0,.int .i64 0,.int .i64 0,.af,.int .i64 0,.int .i64 0] 0 7=some [AV.str [],.int .u8 0,.int .i64 0,.int .i64 0,.af,.int .i64 0,.int .i64 0]:=rfl;have Wa:=SL hc z ts cG a ha _ cN;have Wb:=SL hc z ts cG b hb _ cN;rw[afQ hc 1 (r:=(Bk (qk ts a b),ah st (.cells (Bl (qk ts a b)) 0))),aE (aji _) (b9 hw)];rw[ajj];cases h1:EW ts a with
 |none=>
  have e:qk ts a b=none:=by unfold qk;rw[h1]
  rw[h1]at Wa;rw[e];cases h2:EW ts b with
  |none=>rw[h2]at Wb;simp[Wa,Wb,EV,Bk,Bl,zT,aD.cells,AV.cells,ints,ro,aQ,AV.one,cE,hcut]
  |some q=>rw[h2]at Wb;simp[Wa,Wb,EV,Bk,Bl,zT,aD.cells,AV.cells,ints,ro,aQ,AV.one,cE,hcut]
 |some p=>
  obtain⟨i,x⟩:=p;rw[h1]at Wa;cases h2:EW ts b with
  |none=>
   have e:qk ts a b=none:=(by unfold qk;rw[h1,h2]);rw[h2]at Wb;rw[e];simp[Wa,Wb,EV,Bk,Bl,zT,aD.cells,AV.cells,ints,ro,aQ,AV.one,cE,hcut]
  |some q=>
   obtain⟨k,y⟩:=q;rw[h2]at Wb;obtain⟨_,p1,t1,p2,p3,p4⟩:=Lz h1;by_cases hk:i=k
   .    subst hk;have e:qk ts a b=some (t1,x,y):=(by unfold qk;rw[h1,h2];simp[p2]);obtain⟨hi,hg⟩:=Za2.1 p2;rw[e];subst hg;unfold tabs at Wa Wb ⊢;simp[Wa,Wb,EV,Bk,Bl,hi,aD.len]
   .    have e:qk ts a b=none:=(by unfold qk;rw[h1,h2];simp[hk]);have uf:¬(i:Int)=(k:Int):=(by omega);rw[e];simp[Wa,Wb,EV,uf,Bk,Bl,zT,aD.cells,AV.cells,ints,ro,aQ,AV.one,cE,hcut]
def Xg(ts:List aD)(a b:Int):Bool:=match qk ts a b with|some (t,x,y)=>Oj t x y|none=>false
def Xh(ts:List aD)(a b:Int):Bool:=match qk ts a b with|some (t,x,y)=>SK t x y|none=>false
theorem anN(hc:Sem c)(z:Bool)(ts:List aD)(cG:∀t∈ts,t.Ok)(a b:Int)(ha:a<=4611686018427387904)(hb:b<=4611686018427387904)(st:St)(hw:Wf st):
  c 64 [tabs z ts,.int .i64 a,.int .i64 b] st=some (.bool (Xg ts a b),st):=by
 have P:=aif hc z ts cG a b ha hb st hw;rw[acR hc 1 (r:=(.bool (Xg ts a b),ah st (.cells (Bl (qk ts a b)) 0))),aE (Plain.bool _) (b9 hw)];rw[afR];unfold Xg;cases h:qk ts a b with
 |none=>rw[h]at P;simp[P,Bk,Bl,aD.len]
 |some p=>
  obtain⟨t,x,y⟩:=p;obtain⟨q1,q2,q3⟩:=acQ h;have B:=ae2 hc t q1 x y q2 q3 (ah st (.cells t.cells 0)) (bF hw);rw[h]at P;simp[P,Bk,Bl,aD.len,B]
theorem anO(hc:Sem c)(z:Bool)(ts:List aD)(cG:∀t∈ts,t.Ok)(a b:Int)(ha:a<=4611686018427387904)(hb:b<=4611686018427387904)(st:St)(hw:Wf st):
  c 66 [tabs z ts,.int .i64 a,.int .i64 b] st=some (.bool (Xh ts a b),st):=by
 have P:=aif hc z ts cG a b ha hb st hw;rw[acS hc 1 (r:=(.bool (Xh ts a b),ah st (.cells (Bl (qk ts a b)) 0))),aE (Plain.bool _) (b9 hw)];rw[afS];unfold Xh;cases h:qk ts a b with
 |none=>rw[h]at P;simp[P,Bk,Bl,aD.len]
 |some p=>
  obtain⟨t,x,y⟩:=p;obtain⟨q1,q2,q3⟩:=acQ h;have B:=ae3 hc t q1 x y q2 q3 (ah st (.cells t.cells 0)) (bF hw);rw[h]at P;simp[P,Bk,Bl,aD.len,B]
def yQ(x:Int):List Int->Nat->Int
 |[],_=> -1
 |y::l,i=>if x=y then(i:Int)else yQ x l (i+1)
theorem ake{x:Int}:∀(l:List Int)(i:Nat),(0<=yQ x l i)↔x∈l
 |[],i=>by simp[yQ]
 |y::l,i=>by
  unfold yQ;by_cases h:x=y
  . simp[h]
  . rw[Za7 h,ake l (i+1)];simp[h]
theorem anP(x:Int)(z:Bool)(l:List Int)(hl:l.length<wE)(F:Nat)(st:St)(k1 k2):∀(m k:Nat),l.length<=k+m->k<=l.length->
  j7 c F k1 k2 (m+1) [ints z l,.int .i64 x,.int .i64 (l.length:Int),.int .i64 (k:Int)] st=
    if 0<=yQ x (l.drop k) k then k1 [.int .i64 (yQ x (l.drop k) k)] st else k2 [] st:=by
 intro m;induction m with
 |zero=>
  intro k h1 h2;obtain rfl:k=l.length:=by omega
  rw[ya];simp[yQ]
 |succ m ih=>
  intro k h1 h2;rw[ya];by_cases h:k<l.length
  . have w:av .i64 ((k:Int)+1)=((k+1:Nat):Int):=wrap64 (by omega) (by unfold wE at hl;omega);rw[Zd6 h,yQ];by_cases h3:x=l[k]
    .   subst h3;simp[ints,h]
    .   have:=ih (k+1) (by omega) (by omega);simp only[h3,Zh2];rw[<-this];simp[ints,h,h3,w]
  . obtain rfl:k=l.length:=(by omega);simp[yQ]
theorem anQ(hc:Sem c)(z:Bool)(l:List Int)(hl:l.length<wE)(x:Int)(st:St):c 138 [ints z l,.int .i64 x] st=some (.int .i64 (yQ x l 0),st):=by
 have lI:∀(K:AV->St->Option (AV×St))(s:St),aq c (.lenB .l) [ints z l] s K=K (.int .i64 (l.length:Int)) s:=λK s=>by unfold ints;rw[iy];simp
 have L:=λk1 k2=>anP (c:=c) x z l hl (l.length+1) st k1 k2 l.length 0 (by omega) (by omega)
 simp only[Ze6]at L;rw[LA hc (l.length+1) (r:=(.int .i64 (yQ x l 0),st)),aE (Plain.int _ _) (aW.refl st)];rw[Ol];simp only[az,lI];rw[show(0:Int)=((0:Nat):Int)from rfl,L];by_cases h:0<=yQ x l 0
 . simp[h]
 . have:yQ x l 0= -1:=by
    have:∀(l:List Int)(i:Nat),0<=yQ x l i\/yQ x l i= -1:=by
        intro l;induction l with
        |nil=>intro i;exact .inr rfl
        |cons y l ih=>intro i;unfold yQ;split;exact .inl (by omega);exact ih _
    exact(this l 0).resolve_left h
   simp[h,this]
theorem aih(hc:Sem c)(z:Bool)(l:List Int)(hl:l.length<wE)(x:Int)(st:St):c 73 [ints z l,.int .i64 x] st=some (.bool (decide (x∈l)),st):=by
 rw[Hi hc 1 (r:=(.bool (decide (x∈l)),st)),aE (Plain.bool _) (aW.refl st)];rw[Kr];have e:decide (0<=yQ x l 0)=decide (x∈l):=by rw[decide_eq_decide];exact ake l 0
 simp[anQ hc z l hl x st,e]
def N7(ts:List aD)(a:Int):Bool:=match EW ts a with|some (i,x)=>decide (x∈(ts[i]?.getD zT).kA)|none=>false
theorem asF(hc:Sem c)(z:Bool)(ts:List aD)(cG:∀t∈ts,t.Ok)(a:Int)(ha:a<=4611686018427387904)(st:St)(hw:Wf st):
  c 61 [tabs z ts,.int .i64 a] st=some (.bool (N7 ts a),st):=by
 have W:=SL hc z ts cG a ha st hw;rw[afT hc 1 (r:=(.bool (N7 ts a),st)),aE (Plain.bool _) (aW.refl st)];rw[ajk];unfold N7;cases h:EW ts a with
 |none=>rw[h]at W;simp[W,EV]
 |some p=>
  obtain⟨i,x⟩:=p;obtain⟨_,p1,t1,p2,p3,p4⟩:=Lz h;obtain⟨hi,hg⟩:=Za2.1 p2;subst hg;have c4:(ts[i]).cells[4]? =some (ints (ts[i]).oz (ts[i]).kA):=rfl;have C:=aih hc (ts[i]).oz (ts[i]).kA (cG _ (Zb8 hi)).kA x st;rw[h]at W;unfold tabs at W ⊢;simp[W,EV,hi,c4,C]
variable{c : aj}
abbrev aii(m:Nat):List AV:=[.int .i64 (m:Int)]
abbrev cI(i:Int):AV:= .int .i64 i
def qO(nr:Nat->Bool)(k:Nat):List Nat->List Int->List Nat->List Int×List Nat
 |[],o,q=>(o,q)
 |m::ms,o,q=>if o.getD m 0<0/\nr m=true then qO nr k ms (o.set m (o.getD k 0+1)) (q++[m])else qO nr k ms o q
def agb(nr:Nat->Nat->Bool)(n:Nat):Nat->List Int->List Nat->List Int
 |0,o,_=>o
 |_+1,o,[]=>o
 |f+1,o,k::q=>agb nr n f (qO (nr k) k (List.range n) o q).1 (qO (nr k) k (List.range n) o q).2
structure SI(s0 s:St)(pt po:Pos)(t:aD)(n:Nat)(o:List Int)(qv:AV)(q:List Nat)(B:Int):Prop where
 jN:Wf s0
 ai:Grew s0 s
 tab:s.heap.get pt=some (.cells t.cells 0)
 out:s.heap.get po=some (.cells (o.map cI) 0)
 len:o.length=n
 LB:QS 1 s qv (q.map aii)
 ne1:aL qv≠some pt
 ne2:aL qv≠some po
 ne3:pt≠po
 aqo:s0.next.toNat<=pt.toNat
 alP:s0.next.toNat<=po.toNat
 FR:∀b,aL qv=some b->s0.next.toNat<=b.toNat
 small:∀v∈o,-1<=v/\v<=B
 qlt:∀m∈q,m<n
theorem Ks(o:List Int)(j:Nat)(h:j<o.length)(v:Int):aX (o.map cI) j [cI v]=(o.set j v).map cI:=by unfold aX;rw[Zm9,Zn5,Zb3 (by simpa using h)];simp
theorem asG (hc:Sem c){s0:St}{pt po:Pos}{t:aD}(ht:t.Fit){n:Nat}(hn:n<=1000){k:Nat}(hk:k<n){B:Int}(hB:B<=1000000)(F:Nat)(k6):
  ∀ (r j f:Nat)(s:St)(o:List Int)(qv:AV)(q:List Nat),r<f->j+r=n->SI s0 s pt po t n o qv q (B+1)->o.getD k 0<=B->0<=o.getD k 0->q.length<=4000+j->
    ∃   s' qv',SI s0 s' pt po t n (qO (λm=>zZ t k m) k (List.range' j r) o q).1 qv' (qO (λm=>zZ t k m) k (List.range' j r) o q).2 (B+1)/\
        sI c F k6 f [.ptr pt 0,.slice po 0 n (some n) 1,qv,.int .i64 (k:Int),.slice po 0 n (some n) 1,.int .i64 (n:Int),.int .i64 (j:Int)] s=k6 [.ptr pt 0,.slice po 0 n (some n) 1,qv'] s':=by
 intro r;induction r with
 |zero=>
  intro j f s o qv q hf h1 hI ug Dp hq;obtain⟨g,rfl⟩:∃g,f=g+1:=⟨f - 1,by omega⟩
  obtain rfl:j=n:=by omega
  refine⟨s,qv,hI,?_⟩;rw[yb];simp
 |succ r ih=>
  intro j f s o qv q hf h1 hI ug Dp hq;obtain⟨g,rfl⟩:∃g,f=g+1:=⟨f - 1,by omega⟩
  have hj:j<n:=by omega
  have hjo:j<o.length:=by rw[hI.len];exact hj
  have TP:k<o.length:=by rw[hI.len];exact hk
  have hw:=hI.ai.wf;have w:av .i64 ((j:Int)+1)=((j+1:Nat):Int):=wrap64 (by omega) (by omega);have N:=asE hc t ht k j ⟨by omega,by omega⟩ ⟨by omega,by omega⟩ s hw;have ix:∀(i:Nat),i<n->∀(K:AV->St->Option (AV×St))(s1:St),aq c (.idxA 1 none) [.slice po 0 n (some n) 1,.int .i64 (i:Int)] s1 K=K (.ptr po i) s1:=λi hi K s1=>by rw[fG c K s1 hi];simp
  have ixj:=ix j hj;have ixk:=ix k hk;have gj:(o.map cI)[j]? =some (.int .i64 o[j]):=by rw[Zb7,H0 hjo];rfl
  have gk:(o.map cI)[k]? =some (.int .i64 o[k]):=by rw[Zb7,H0 TP];rfl
  have ej:o.getD j 0=o[j]:=by simp[List.getD,H0 hjo]
  have ek:o.getD k 0=o[k]:=by simp[List.getD,H0 TP]
  have tb:=hI.tab;have ou:=hI.out;rw[Zq6];by_cases hd:o[j]<0
  . cases   hb:zZ t k j with
    |   true=>
        have e:qO (λm=>zZ t k m) k (j::List.range' (j+1) r) o q=qO (λm=>zZ t k m) k (List.range' (j+1) r) (o.set j (o[k]+1)) (q++[j]):=by
         rw[qO,Zb3 ⟨by rw[ej];exact hd,hb⟩,ek]
        have w2:av .i64 (o[k]+1)=o[k]+1:=wrap64 (by omega) (by omega);have Xi:=hw _ _ ou;have fT:∀(K:AV->St->Option (AV×St)),aq c (.store 1) [.ptr po j,.int .i64 (o[k]+1)] s K=K .undef (bg s po (.cells ((o.set j (o[k]+1)).map cI) 0)):=λK=>by rw[cg c K s 1 po j (.int .i64 (o[k]+1)) (o.map cI) ou rfl (by simp;omega) rfl, <-Ks o j hjo];rfl
        have cN:Wf (bg s po (.cells ((o.set j (o[k]+1)).map cI) 0)):=jY hw Xi;have q1:QS 1 (bg s po (.cells ((o.set j (o[k]+1)).map cI) 0)) qv (q.map aii):=hI.LB.mono λb x hb hx=>by rw[aJ (λe=>hI.ne2 (by rw[hb,e]))];exact hx
        obtain⟨s5,v5,a1,a2,a3,a4,a5,a6⟩:=q1.push (c:=c) (R:=AV×St) (bytes:=8) cN (λr hr=>by simp only[Zd0]at hr;obtain⟨m,_,rfl⟩:=hr;rfl) (z:=[.int .i64 0]) (x:= .int .i64 (j:Int)) rfl rfl rfl (by decide) (by simp;omega) (by simp;omega);have t5:s5.heap.get pt=some (.cells t.cells 0):=a5 pt _ hI.ne1 (by rw[aJ (λe=>hI.ne3 e.symm)];exact tb);have o5:s5.heap.get po=some (.cells ((o.set j (o[k]+1)).map cI) 0):=a5 po _ hI.ne2 (bG _ _ _);have g5:Grew s0 s5:=⟨a3,λp b hg=>by
         have h0:=hI.jN _ _ hg;refine a5 p b (λe=> ?_) ?_
         .  have:=hI.FR p e;omega
         .  rw[aJ (λe=>by have:=hI.alP;rw[e]at this;omega)];exact hI.ai.get hg,Zb2 hI.ai.next (by rw[dK]at a4;exact a4)⟩
        have I5:SI s0 s5 pt po t n (o.set j (o[k]+1)) v5 (q++[j]) (B+1):=by
         refine⟨hI.jN,g5,t5,o5,by simp[hI.len],by rw[Zd3];exact a2,λe=> ?_,λe=> ?_,hI.ne3,hI.aqo,hI.alP,λb e=> ?_,λv hv=> ?_,λm hm=> ?_⟩
         .  have:=a6 _ e;rw[dK]at this;have:=hw _ _ tb;omega
         .  have:=a6 _ e;rw[dK]at this;omega
         .  have:=a6 _ e;rw[dK]at this;have:=hI.ai.next;omega
         .  rcases Zg8 hv with h|h
            . exact hI.small v h
            . subst h;omega
         .  rcases Zd8.1 hm with h|h
            . exact hI.qlt m h
            . simp at h;omega
        have hkj:j≠k:=λe=>by subst e;omega
        have ek5:(o.set j (o[k]+1)).getD k 0=o[k]:=(by simp[List.getD,Zd7 hkj,H0 TP]);obtain⟨s',qv',b1,b2⟩:=ih (j+1) g s5 _ v5 (q++[j]) (by omega) (by omega) I5 (by rw[ek5];omega) (by rw[ek5];omega) (by simp;omega);rw[e];refine⟨s',qv',b1,?_⟩;rw[<-b2,yb];rw[hb]at N;simp[-au,-List.map_set,iH,hj,ixj,ixk,tb,ou,gj,gk,hd,N,aD.len,w2,fT,a1,w]
    |   false=>
        have e:qO (λm=>zZ t k m) k (j::List.range' (j+1) r) o q=qO (λm=>zZ t k m) k (List.range' (j+1) r) o q:=by
         rw[qO,Za7 (by rw[hb];simp)]
        obtain⟨s',qv',b1,b2⟩:=ih (j+1) g s _ qv q (by omega) (by omega) hI ug Dp (by omega);rw[e];refine⟨s',qv',b1,?_⟩;rw[<-b2,yb];rw[hb]at N;simp[iH,hj,ixj,tb,ou,gj,hd,N,aD.len,w]
  . have e:qO (λm=>zZ t k m) k (j::List.range' (j+1) r) o q=qO (λm=>zZ t k m) k (List.range' (j+1) r) o q:=by
        rw[qO,Za7 (by rw[ej];simp[hd])]
    obtain⟨s',qv',b1,b2⟩:=ih (j+1) g s _ qv q (by omega) (by omega) hI ug Dp (by omega);rw[e];refine⟨s',qv',b1,?_⟩;rw[<-b2,yb];simp[iH,hj,ixj,tb,ou,gj,hd,w]
variable{c : aj}
def neg(o:List Int):Nat:=o.countP λv=>decide (v<0)
theorem asH{o:List Int}{m:Nat}{v:Int}(h:m<o.length)(h1:o[m]<0)(h2:0<=v):neg (o.set m v)+1=neg o:=by
 unfold neg;rw[List.countP_set h];have a:(decide (o[m]<0))=true:=by simpa using h1
 have b:(decide (v<0))=false:=by simp;omega
 simp only[a,b,Zh5,Zf5,Zh2];have:0<o.countP λv=>decide (v<0):=List.countP_pos_iff.2 ⟨o[m],Zb8 h,a⟩
 omega
theorem SM(nr:Nat->Bool)(k:Nat):∀(ms:List Nat)(o:List Int)(q:List Nat),(∀m∈ms,m<o.length)->0<=o.getD k 0->(∀m∈q,0<=o.getD m 0)->
  2*neg (qO nr k ms o q).1+(qO nr k ms o q).2.length<=2*neg o+q.length/\(qO nr k ms o q).1.length=o.length/\(∀m∈(qO nr k ms o q).2,0<=(qO nr k ms o q).1.getD m 0)/\(∀m,0<=o.getD m 0->(qO nr k ms o q).1.getD m 0=o.getD m 0)
 |[],o,q,_,_,h=>⟨Za3 _,rfl,h,λ_ _=>rfl⟩
 |m ::ms,o,q,hm,hk,h=>by
  have hmo:=hm m (by simp);by_cases hc:o.getD m 0<0/\nr m=true
  . (rw[qO,Zb3 hc];have em:o.getD m 0=o[m]:=(by simp[List.getD,H0 hmo]);have dJ:∀i,0<=o.getD i 0->m≠i:=λi hi e=>by subst e;omega);have get:∀i,m≠i->(o.set m (o.getD k 0+1)).getD i 0=o.getD i 0:=λi hi=>by simp[List.getD,Zd7 hi]
    have gm:(o.set m (o.getD k 0+1)).getD m 0=o.getD k 0+1:=(by simp[List.getD,hmo]);obtain⟨a1,a2,a3,a4⟩:=SM nr k ms (o.set m (o.getD k 0+1)) (q++[m]) (λi hi=>by simpa using hm i (Za9 _ hi)) (by rw[get k (dJ k hk)];exact hk) (λi hi=>by
        rcases Zd8.1 hi with hi|hi
        . rw[get i (dJ i (h i hi))];exact h i hi
        . simp at hi;subst hi;rw[gm];omega)
    have hs:=asH hmo (by rw[<-em];exact hc.1) (show 0<=o.getD k 0+1 by omega);refine⟨by simp only[Ze8,Zc6,Zi9]at a1;omega,by simpa using a2,a3,λi hi=> ?_⟩;rw[a4 i (by rw[get i (dJ i hi)];exact hi),get i (dJ i hi)]
  . rw[qO,Za7 hc];exact SM nr k ms o q (λi hi=>hm i (Za9 _ hi)) hk h
theorem SI.le{s0 s:St}{pt po:Pos}{t:aD}{n:Nat}{o:List Int}{qv:AV}{q:List Nat}{B B':Int}(h:SI s0 s pt po t n o qv q B)(hB:B<=B'):SI s0 s pt po t n o qv q B':=
 ⟨h.jN,h.ai,h.tab,h.out,h.len,h.LB,h.ne1,h.ne2,h.ne3,h.aqo,h.alP,h.FR,λv hv=>⟨(h.small v hv).1,by have:=(h.small v hv).2;omega⟩,h.qlt⟩
theorem aqp(hc:Sem c){s0:St}{pt po:Pos}{t:aD}(ht:t.Fit){n:Nat}(hn:n<=1000)(F:Nat)(hF:n<F)(k4):
  ∀(f:Nat)(g:Nat)(s:St)(o:List Int)(qv:AV)(q:List Nat)(B:Int),f<g->SI s0 s pt po t n o qv q B->2*neg o+q.length<=f->B+f<=1000000->0<=B->f<=3000->(∀m∈q,0<=o.getD m 0)->
   ∃    s',Grew s0 s'/\s'.heap.get po=some (.cells ((agb (λk m=>zZ t k m) n f o q).map cI) 0)/\(agb (λk m=>zZ t k m) n f o q).length=n/\
        pJ c F k4 g [.ptr pt 0,.slice po 0 n (some n) 1,qv] s=k4 [.slice po 0 n (some n) 1] s':=by
 intro f;induction f with
 |zero=>
  intro g s o qv q B hg hI h1 h2 h3 h4 h5;obtain⟨g,rfl⟩:∃g',g=g'+1:=⟨g - 1,by omega⟩
  have hq:q=[]:=Zc4 (by omega);subst hq;refine⟨s,hI.ai,hI.out,hI.len,?_⟩;have hl:∀(K:AV->St->Option (AV×St))(s1:St),aq c (.lenB .l) [qv] s1 K=K (.int .i64 0) s1:=λK s1=>by rw[hI.LB.lenB];simp
  rw[Dq];simp[hl]
 |succ f ih=>
  intro g s o qv q B hg hI h1 h2 h3 h4 h5;obtain⟨g,rfl⟩:∃g',g=g'+1:=⟨g - 1,by omega⟩
  have hl:∀(K:AV->St->Option (AV×St))(s1:St),aq c (.lenB .l) [qv] s1 K=K (.int .i64 (q.length:Int)) s1:=λK s1=>by rw[hI.LB.lenB];simp
  cases q with
  |nil=>
   refine⟨s,hI.ai,hI.out,hI.len,?_⟩;rw[Dq];simp[hl]
  |cons k q=>
   have hr:∀r∈(k::q).map aii,r.length=1:=λr hr=>by simp only[Zd0]at hr;obtain⟨m,_,rfl⟩:=hr;rfl
   obtain⟨b,ob,cs,a1,a2,a3,a4⟩:=hI.LB.at (c:=c) (R:=AV×St) hr (by decide) (i:=0) (by simp);obtain⟨v',t1,t2,t3⟩:=QS.tail (R:=AV×St) (c:=c) (r:=aii k) (rows:=q.map aii) hI.LB rfl;have hk:k<n:=hI.qlt k (by simp);have TP:k<o.length:=(by rw[hI.len];exact hk);have gk:cs[ob]? =some (.int .i64 (k:Int)):=(by simpa using a4 0 (.int .i64 (k:Int)) rfl);have i0:∀(K:AV->St->Option (AV×St))(s1:St),aq c (.idxA 1 none) [qv,.int .i64 0] s1 K=K (.ptr b ob) s1:=λK s1=>a1 K .i64 s1
   have lo:∀(K:AV->St->Option (AV×St))(s1:St),aq c (.lenB .l) [.slice po 0 n (some n) 1] s1 K=K (.int .i64 (n:Int)) s1:=λK s1=>kZ c K s1 _ _ _ _ _
   have ek:o.getD k 0=o[k]:=(by simp[List.getD,H0 TP]);have sm:=hI.small o[k] (Zb8 TP);have yo:=h5 k (by simp);have I1:SI s0 s pt po t n o v' q (B+1):=by
        have I2:=hI.le (B':=B+1) (by omega);exact⟨I2.jN,I2.ai,I2.tab,I2.out,I2.len,t2,λe=>I2.ne1 (t3 _ e),λe=>I2.ne2 (t3 _ e),I2.ne3,I2.aqo,I2.alP,λb hb=>I2.FR b (t3 b hb),I2.small,λm hm=>I2.qlt m (Za9 _ hm)⟩
   obtain⟨s1,v1,b1,b2⟩:=asG hc ht hn hk (B:=B) (by omega) F (λvs s71=>gY vs λx2 vs=>gY vs λx5 vs=>gY vs λx7 vs=>mz vs (pJ c F k4 g [x2,x5,x7] s71)) n 0 F s o v' q hF (by omega) I1 (by rw[ek];omega) yo (by simp only[Zc6]at h1;omega);rw[<-Zm6]at b1;obtain⟨p1,p2,p3,p4⟩:=SM (λm=>zZ t k m) k (List.range n) o q (λm hm=>by rw[hI.len];exact Zh3.1 hm) yo (λm hm=>h5 m (Za9 _ hm));obtain⟨s',c1,c2,c3,c4⟩:=ih g s1 _ v1 _ (B+1) (by omega) b1 (by simp only[Zc6]at h1;omega) (by omega) (by omega) (by omega) p3;refine⟨s',c1,c2,c3,?_⟩;rw[<-c4,Dq];simp at b2;have Vq:0<(q.length:Int)+1:=(by omega);simp[hl,i0,a3,gk,t1,lo,b2,Vq]
variable{c : aj}
def Bx(n k:Nat):List Int:=List.replicate k (-1)++List.replicate (n - k) 0
theorem asI{n k:Nat}(h:k<n):(Bx n k).set k (-1)=Bx n (k+1):=by unfold Bx;rw[Zj8 _ _ (by simp)];simp only[Zl1,Zk8];rw[show n - k=(n - (k+1))+1 by omega,Zl5,Zp9,List.replicate_succ',Zf4];rfl
theorem asJ{n k:Nat}(h:k<=n):(Bx n k).length=n:=by unfold Bx;simp;omega
theorem anR{s0:St}{pt po:Pos}{t:aD}{n:Nat}(hn:n<=1000)(dJ:pt≠po)(Xi:s0.next.toNat<=po.toNat)(GZ:Wf s0)(x1:AV)(F:Nat)(k2):∀(m k f:Nat)(s:St),m<f->k+m=n->Grew s0 s->s.heap.get pt=some (.cells t.cells 0)->s.heap.get po=some (.cells ((Bx n k).map cI) 0)->
  ∃s',Grew s0 s'/\s'.heap.get pt=some (.cells t.cells 0)/\s'.heap.get po=some (.cells ((Bx n n).map cI) 0)/\
   sJ c F k2 f [x1,.ptr pt 0,.slice po 0 n (some n) 1,.int .i64 (n:Int),.int .i64 (k:Int)] s=k2 [x1,.ptr pt 0,.slice po 0 n (some n) 1] s':=by
 intro m;induction m with
 |zero=>
  intro k f s hf h1 hg ht ho;obtain⟨f,rfl⟩:∃g,f=g+1:=⟨f - 1,by omega⟩
  obtain rfl:k=n:=by omega
  refine⟨s,hg,ht,ho,?_⟩;rw[Nv];simp
 |succ m ih=>
  intro k f s hf h1 hg ht ho;obtain⟨f,rfl⟩:∃g,f=g+1:=⟨f - 1,by omega⟩
  have hk:k<n:=by omega
  have w:av .i64 ((k:Int)+1)=((k+1:Nat):Int):=wrap64 (by omega) (by omega);have ix:∀(K:AV->St->Option (AV×St))(s1:St),aq c (.idxA 1 none) [.slice po 0 n (some n) 1,.int .i64 (k:Int)] s1 K=K (.ptr po k) s1:=λK s1=>by rw[fG c K s1 hk];simp
  have hl:(Bx n k).length=n:=asJ (by omega);have aS:=hg.wf _ _ ho;have fT:∀(K:AV->St->Option (AV×St)),aq c (.store 1) [.ptr po k,.int .i64 (-1)] s K=K .undef (bg s po (.cells ((Bx n (k+1)).map cI) 0)):=λK=>by rw[cg c K s 1 po k (.int .i64 (-1)) ((Bx n k).map cI) ho rfl (by simp[hl];omega) rfl, <-asI hk, <-Ks _ _ (by omega)];rfl
  have g1:Grew s0 (bg s po (.cells ((Bx n (k+1)).map cI) 0)):=⟨jY hg.wf aS,λp b hp=>by have:=GZ _ _ hp;rw[aJ (λe=>by rw[e]at Xi;omega)];exact hg.get hp,by rw[dK];exact hg.next⟩
  obtain⟨s',a1,a2,a3,a4⟩:=ih (k+1) f _ (by omega) (by omega) g1 (by rw[aJ (λe=>dJ e.symm)];exact ht) (bG _ _ _);refine⟨s',a1,a2,a3,?_⟩;rw[<-a4,Nv];simp[-List.map_set,hk,ix,fT,w]
def Qi(t:aD)(fr:Nat):List Int:=agb (λk m=>zZ t k m) (bI t).toNat (2*(bI t).toNat+1) ((List.replicate (bI t).toNat (-1)).set fr 0) [fr]
theorem LC{b:Pos}{off n es:Nat}(hn:n≠0)(h:Plain (.slice b off n (some n) es)):False:=by
 have h1:aC (λ_=>⟨0,0,off+n*es⟩) (b.toNat+1) (λ_=>none) (.slice b off n (some n) es) (.slice (some ⟨0,0+off,none⟩) n n):=
  .slice b off n (some n) es n _ (Za3 _) (λc hc=>by cases hc;rfl) (λ_=>⟨by omega,rfl,by simp⟩) (λh=>by cases h)
 have h2:=h _ (λ_=>⟨0,0,0⟩) _ 0 _ _ h1;cases h2 with
 |slice _ _ _ _ _ _ _ _ _ ha _=>exact absurd (ha hn).1 (by omega)
theorem aij{s s':St}{v:AV}(h:¬Plain v):tidy s (v,s')=(v,s'):=by
 unfold tidy;rw[Za7 (λe=>h e.1)]
theorem aqq(hc:Sem c)(t:aD)(hz:bI t≠0)(fr:Nat)(hf:(fr:Int)<bI t)(s:St)(hw:Wf s):
  ∃b s',c 181 [.agg t.cells,.int .i64 (fr:Int)] s=some (.slice b 0 (bI t).toNat (some (bI t).toNat) 1,s')/\Grew s s'/\s'.heap.get b=some (.cells ((Qi t fr).map cI) 0)/\s.next.toNat<=b.toNat/\(Qi t fr).length=(bI t).toNat:=by
 have ht:=acN hz;have hb:=AH t;obtain⟨n,hn⟩:∃n:Nat,bI t=(n:Int):=⟨(bI t).toNat,by omega⟩
 have hn1:(bI t).toNat=n:=by omega
 have KU:n≠0:=by omega
 have GP:n<=1000:=by omega
 have Gu:fr<n:=by omega
 unfold Qi;rw[hn1];have cN:Wf (ah s (.cells t.cells 0)):=bF hw;have g1:=Grew.ah hw (.cells t.cells 0);have sz:=P8 hc t (ah s (.cells t.cells 0)) cN;rw[hn]at sz;have mk:=λ(K:AV->St->Option (AV×St))=>KE c K (ah s (.cells t.cells 0)) (es:=1) (bytes:=8) (z:=[.int .i64 0]) (k:= .i64) (k':= .i64) (n:=n) (by omega) (by omega)
 rw[sZ]at mk;have sQ:Wf (ah (ah s (.cells t.cells 0)) (.cells (List.replicate n (.int .i64 0)) 0)):=bF cN;have g2:=g1.trans (Grew.ah cN (.cells (List.replicate n (.int .i64 0)) 0));generalize rI:ah (ah s (.cells t.cells 0)) (.cells (List.replicate n (.int .i64 0)) 0)=s2 at mk sQ g2;have pt2:s2.heap.get s.next=some (.cells t.cells 0):=by rw[<-rI];exact(Grew.ah cN _).get (aA _ _)
 have po2:s2.heap.get (ah s (.cells t.cells 0)).next=some (.cells ((Bx n 0).map cI) 0):=by rw[<-rI,aA];simp[Bx]
 have Zu:s.next≠(ah s (.cells t.cells 0)).next:=by rw[bM];exact Pos.Yq _
 have Xi:s.next.toNat<=(ah s (.cells t.cells 0)).next.toNat:=by rw[bM,Pos.aF];omega
 generalize (ah s (.cells t.cells 0)).next=po at mk po2 Zu Xi
 let k2:List AV->St->Option (AV×St):=λvs s18=>gY vs λx1 vs=>gY vs λx2 vs=>gY vs λx5 vs=>mz vs (
  aq c .move [x5] s18 λx23 s19=>
  aq c .move [x1] s19 λx24 s20=>
  aq c (.idxA 1 none) [x23,x24] s20 λx25 s21=>
  aq c (.store 1) [x25,(.int .i64 0)] s21 λ_ s22=>
  aq c .move [x1] s22 λx26 s23=>
  aq c (.buildSlice 1 1 [(.int .i64 0)] [0]) [x26] s23 λx27 s24=>
  aq c .move [x27] s24 λx7 s25=>
  pJ c 4000 (λvs s72=>gY vs λx5 vs=>mz vs (
     aq c .move [x5] s72 λx64 s73=>
     aq c .move [x64] s73 λx4 s74=>
     some (x4,s74))) 4000 [x2,x5,x7] s25)
 obtain⟨s3,a1,a2,a3,a4⟩:=anR (c:=c) (s0:=s) (t:=t) GP Zu Xi hw (.int .i64 (fr:Int)) 4000 k2 n 0 4000 s2 (by omega) (by omega) g2 pt2 po2;have em:Bx n n=List.replicate n (-1):=by simp[Bx]
 rw[em]at a3;have hl:(List.replicate n (-1:Int)).length=n:=by simp
 have aS:=a1.wf _ _ a3;have ix:∀(K:AV->St->Option (AV×St))(s1:St),aq c (.idxA 1 none) [.slice po 0 n (some n) 1,.int .i64 (fr:Int)] s1 K=K (.ptr po fr) s1:=λK s1=>by rw[fG c K s1 Gu];simp
 have fT:∀(K:AV->St->Option (AV×St)),aq c (.store 1) [.ptr po fr,.int .i64 0] s3 K=K .undef (bg s3 po (.cells (((List.replicate n (-1:Int)).set fr 0).map cI) 0)):=λK=>by rw[cg c K s3 1 po fr (.int .i64 0) _ a3 rfl (by simp;omega) rfl, <-Ks _ _ (by omega)];rfl
 have g4:Grew s (bg s3 po (.cells (((List.replicate n (-1:Int)).set fr 0).map cI) 0)):=⟨jY a1.wf aS,λp b hp=>by have:=hw _ _ hp;rw[aJ (λe=>by rw[e]at Xi;omega)];exact a1.get hp,by rw[dK];exact a1.next⟩
 have pt4:(bg s3 po (.cells (((List.replicate n (-1:Int)).set fr 0).map cI) 0)).heap.get s.next=some (.cells t.cells 0):=by rw[aJ (λe=>Zu e.symm)];exact a2
 have po4:(bg s3 po (.cells (((List.replicate n (-1:Int)).set fr 0).map cI) 0)).heap.get po=some (.cells (((List.replicate n (-1:Int)).set fr 0).map cI) 0):=bG _ _ _;generalize ZS:bg s3 po (.cells (((List.replicate n (-1:Int)).set fr 0).map cI) 0)=s4 at fT g4 pt4 po4;have row:=λ(K:AV->St->Option (AV×St))=>KD (c:=c) (es:=1) (z:=[.int .i64 0]) (x:= .int .i64 (fr:Int)) rfl rfl s4 K
 have g5:=g4.trans (Grew.ah g4.wf (.cells (AV.cells (.int .i64 (fr:Int))) 0));have arv:=Grew.ah g4.wf (.cells (AV.cells (.int .i64 (fr:Int))) 0);have n4:s.next.toNat<s4.next.toNat:=g4.wf _ _ pt4;have n4o:po.toNat<s4.next.toNat:=g4.wf _ _ po4;have I:SI s (ah s4 (.cells (AV.cells (.int .i64 (fr:Int))) 0)) s.next po t n ((List.replicate n (-1:Int)).set fr 0) (.slice s4.next 0 1 (some 1) 1) [fr] 0:=by
  refine⟨hw,g5,arv.get pt4,arv.get po4,by simp,.inr (.inl ⟨s4.next,0,some 1,[.int .i64 (fr:Int)],rfl,aA _ _,by simp,by simp,.inr rfl⟩),λe=> ?_,λe=> ?_,Zu,Za3 _,Xi,λb e=> ?_,λv hv=> ?_,λm hm=> ?_⟩
  .  have:=congrArg Pos.toNat (sY e);omega
  .  have:=congrArg Pos.toNat (sY e);omega
  .  have:=congrArg Pos.toNat (sY e);omega
  .  rcases Zg8 hv with h|h
     . rw[(Zq0.1 h).2];omega
     . subst h;omega
  .  simp at hm;omega
 have alA:neg ((List.replicate n (-1:Int)).set fr 0)<=n:=by unfold neg;refine Zb2 List.countP_le_length ?_;simp
 obtain⟨s6,b1,b2,b3,b4⟩:=aqp hc ht GP 4000 (by omega) (λvs s72=>gY vs λx5 vs=>mz vs (aq c .move [x5] s72 λx64 s73=>aq c .move [x64] s73 λx4 s74=>some (x4,s74))) (2*n+1) 4000 _ _ _ [fr] 0 (by omega) I (by simp;omega) (by omega) (by omega) (by omega) (λm hm=>by
  simp at hm;subst hm;simp[List.getD,Gu])
 refine⟨po,s6,?_,b1,b2,Xi,b3⟩;have np:¬Plain (.slice po 0 n (some n) 1):=LC KU;rw[ad6 hc 4000 (r:=(.slice po 0 n (some n) 1,s6)),aij np];rw[aik];have L:sJ c 4000 k2 4000 [.int .i64 (fr:Int),.ptr s.next 0,.slice po 0 n (some n) 1,.int .i64 (n:Int),.int .i64 0] s2=some (.slice po 0 n (some n) 1,s6):=by
  rw[show(0:Int)=((0:Nat):Int)from rfl,a4];simp only[k2];simp at b4;simp[-au,ix,fT,row,b4]
 simp only[k2]at L;simp[-au,aD.len,sz,mk,kZ];simp[-au]at L;exact L
variable{c : aj}
def LD(t:aD):Int:=if t.sh=1 then 0 else if t.sh=2 then(if 0<t.b then t.a else t.a.tdiv 2)else if t.sh=3 then t.b+t.a.tdiv 2 else t.a.tdiv 2
theorem asK{t:aD}(h:bI t≠0):0<=LD t/\LD t<bI t:=by
 have f:=acN h;unfold LD;rw[Zi2 f.a.1]
 revert h
 unfold bI;intro h;split
 . rename_i h1;rw[Zb3 h1]at h;split at h
   . rename_i h2;rw[Zb3 h2];omega
   . exact absurd rfl h
 rename_i h1;rw[Za7 h1]at h;split
 . rename_i h2;rw[Zb3 h2]at h;split at h
   . rename_i h3;rw[Zb3 h3];split<;>omega
   . exact absurd rfl h
 rename_i h2;rw[Za7 h2]at h;split
 . rename_i h3;rw[Zb3 h3]at h;split at h
   . rename_i h4;rw[Zb3 h4];omega
   . exact absurd rfl h
 rename_i h3;rw[Za7 h3]at h;split at h
 . rename_i h4;rw[Zb3 h4];split at h
   . rename_i h5;rw[Zb3 h5];omega
   . exact absurd rfl h
 . exact absurd rfl h
theorem asL(hc:Sem c)(a b:Int)(st:St):c 207 [.int .i64 a,.int .i64 b] st=some (.int .i64 0,st):=by rw[U2 hc 1 (r:=(.int .i64 0,st)),aE (Plain.int _ _) (aW.refl st)];rw[Zl];simp
theorem asM(hc:Sem c)(a b:Int)(ha:Sm a)(st:St):c 212 [.int .i64 a,.int .i64 b] st=some (.int .i64 (if 0<b then a else a.tdiv 2),st):=by
 have hq:0<=a.tdiv 2/\a.tdiv 2<=1000000:=by rw[Zi2 ha.1];omega
 have w2:av .i64 (a.tdiv 2)=a.tdiv 2:=wrap64 (by omega) (by omega);rw[U3 hc 1 (r:=(.int .i64 (if 0<b then a else a.tdiv 2),st)),aE (Plain.int _ _) (aW.refl st)];rw[Zm];by_cases h:0<b<;>simp[h,w2]
theorem asN(hc:Sem c)(a b:Int)(ha:Sm a)(hb:Sm b)(st:St):c 217 [.int .i64 a,.int .i64 b] st=some (.int .i64 (b+a.tdiv 2),st):=by
 have hq:0<=a.tdiv 2/\a.tdiv 2<=1000000:=by rw[Zi2 ha.1];omega
 have w2:av .i64 (a.tdiv 2)=a.tdiv 2:=wrap64 (by omega) (by omega);have w3:av .i64 (b+a.tdiv 2)=b+a.tdiv 2:=wrap64 (by omega) (by omega);rw[U4 hc 1 (r:=(.int .i64 (b+a.tdiv 2),st)),aE (Plain.int _ _) (aW.refl st)];rw[Zn];simp[w2,w3]
theorem asO(hc:Sem c)(a b:Int)(ha:Sm a)(st:St):c 222 [.int .i64 a,.int .i64 b] st=some (.int .i64 (a.tdiv 2),st):=by
 have hq:0<=a.tdiv 2/\a.tdiv 2<=1000000:=by rw[Zi2 ha.1];omega
 have w2:av .i64 (a.tdiv 2)=a.tdiv 2:=wrap64 (by omega) (by omega);rw[U5 hc 1 (r:=(.int .i64 (a.tdiv 2),st)),aE (Plain.int _ _) (aW.refl st)];rw[Zo];simp[w2]
def Qj(n:Nat)(d:Int):Int:=if d<0 then(n:Int)else d
def LF(t:aD):List Int:=(Qi t (LD t).toNat).map (Qj (bI t).toNat)
theorem aqr{s0:St}{po:Pos}{n:Nat}(hn:n<=1000)(Xi:s0.next.toNat<=po.toNat)(GZ:Wf s0)(o:List Int)(ho0:o.length=n)(F:Nat)(k2):∀(m k f:Nat)(s:St),m<f->k+m=n->Grew s0 s->s.heap.get po=some (.cells (((o.take k).map (Qj n)++o.drop k).map cI) 0)->
  ∃ s',Grew s0 s'/\s'.heap.get po=some (.cells ((o.map (Qj n)).map cI) 0)/\
    uK c F k2 f [.slice po 0 n (some n) 1,.slice po 0 n (some n) 1,.int .i64 (n:Int),.int .i64 (k:Int)] s=k2 [.slice po 0 n (some n) 1] s':=by
 intro m;induction m with
 |zero=>
  intro k f s hf h1 hg ho;obtain⟨f,rfl⟩:∃g,f=g+1:=⟨f - 1,by omega⟩
  obtain rfl:k=n:=by omega
  refine⟨s,hg,?_,?_⟩
  . rw[ho,Zf7 (by omega),Zm0 (by omega),Ze0]
  . rw[By];simp
 |succ m ih=>
  intro k f s hf h1 hg ho;obtain⟨f,rfl⟩:∃g,f=g+1:=⟨f - 1,by omega⟩
  have hk:k<n:=by omega
  have TP:k<o.length:=by omega
  have w:av .i64 ((k:Int)+1)=((k+1:Nat):Int):=wrap64 (by omega) (by omega);have ix:∀(K:AV->St->Option (AV×St))(s1:St),aq c (.idxA 1 none) [.slice po 0 n (some n) 1,.int .i64 (k:Int)] s1 K=K (.ptr po k) s1:=λK s1=>by rw[fG c K s1 hk];simp
  have lo:∀(K:AV->St->Option (AV×St))(s1:St),aq c (.lenB .l) [.slice po 0 n (some n) 1] s1 K=K (.int .i64 (n:Int)) s1:=λK s1=>kZ c K s1 _ _ _ _ _
  generalize hL:(o.take k).map (Qj n)++o.drop k=L at ho;have hLl:L.length=n:=by rw[<-hL];simp;omega
  have hLk:L[k]? =some o[k]:=by
    rw[<-hL,Zc2 (by simp;omega)];simp only[Za4,Zi4,Zl3 (Zn6 TP),Zk8];rw[Ze7,Zf8,H0 TP]
  have gk:(L.map cI)[k]? =some (.int .i64 o[k]):=by rw[Zb7,hLk];rfl
  have eL:L.set k (Qj n o[k])=(o.take (k+1)).map (Qj n)++o.drop (k+1):=by rw[<-hL,Zj8 _ _ (by simp;omega)];simp only[Za4,Zi4,Zl3 (Zn6 TP),Zk8];rw[Zd6 TP,Zp9,Zd4 TP,Zd3,Zf4];rfl
  have aS:=hg.wf _ _ ho;by_cases hd:o[k]<0
  . have el:Qj n o[k]=(n:Int):=(by unfold Qj;rw[Zb3 hd]);rw[el]at eL;have fT:∀(K:AV->St->Option (AV×St)),aq c (.store 1) [.ptr po k,.int .i64 (n:Int)] s K=K .undef (bg s po (.cells (((o.take (k+1)).map (Qj n)++o.drop (k+1)).map cI) 0)):=λK=>by rw[cg c K s 1 po k (.int .i64 (n:Int)) _ ho rfl (by simp[hLl];omega) rfl, <-eL, <-Ks _ _ (by omega)];rfl
    have g1:Grew s0 (bg s po (.cells (((o.take (k+1)).map (Qj n)++o.drop (k+1)).map cI) 0)):=⟨jY hg.wf aS,λp b hp=>by have:=GZ _ _ hp;rw[aJ (λe=>by rw[e]at Xi;omega)];exact hg.get hp,by rw[dK];exact hg.next⟩
    obtain⟨s',a1,a2,a3⟩:=ih (k+1) f _ (by omega) (by omega) g1 (bG _ _ _);refine⟨s',a1,a2,?_⟩;rw[<-a3,By];simp[-List.map_append,-List.map_take,-List.map_drop,-List.map_map,iH,hk,ix,lo,ho,gk,hd,fT,w]
  . have el:Qj n o[k]=o[k]:=(by unfold Qj;rw[Za7 hd]);rw[el]at eL;have e2:L.set k o[k]=L:=by
        (refine Zh7 λi=> ?_);rw[List.getElem?_set];split
        . rename_i e;subst e;rw[Zb3 (by omega),hLk]
        . rfl
    rw[e2]at eL;obtain⟨s',a1,a2,a3⟩:=ih (k+1) f s (by omega) (by omega) hg (by rw[<-eL];exact ho);refine⟨s',a1,a2,?_⟩;rw[<-a3,By];simp[iH,hk,ix,ho,gk,hd,w]
theorem abi(sh:Int):(ij sh).length=6:=by
 unfold ij
 repeat' split
 all_goals rfl
theorem aqs(sh:Int):aQ (ij sh)=true:=by
 unfold ij
 repeat' split
 all_goals rfl
theorem atN(hc:Sem c)(t:aD)(ht:t.Fit):∃f:FuncId,(ij t.sh)[4]? =some (.func f [] [])/\∀st,c f [.int .i64 t.a,.int .i64 t.b] st=some (.int .i64 (LD t),st):=by
 have hS:t.sh=1\/t.sh=2\/t.sh=3\/t.sh=4:=by have:=ht.sh;omega
 have ha:Sm t.a:=by have:=ht.a;omega
 have hb:Sm t.b:=by have:=ht.b;omega
 rcases hS with h|h|h|h
 . exact⟨207,by rw[h];rfl,λst=>by rw[asL hc];simp[LD,h]⟩
 . exact⟨212,by rw[h];rfl,λst=>by rw[asM hc _ _ ha];simp[LD,h]⟩
 . exact⟨217,by rw[h];rfl,λst=>by rw[asN hc _ _ ha hb];simp[LD,h]⟩
 . exact⟨222,by rw[h];rfl,λst=>by rw[asO hc _ _ ha];simp[LD,h]⟩
theorem anS(hc:Sem c)(t:aD)(hz:bI t≠0)(s:St)(hw:Wf s):
  ∃b s',c 124 [.agg t.cells] s=some (.slice b 0 (bI t).toNat (some (bI t).toNat) 1,s')/\Grew s s'/\s'.heap.get b=some (.cells ((LF t).map cI) 0)/\s.next.toNat<=b.toNat/\(LF t).length=(bI t).toNat:=by
 have ht:=acN hz;have hb:=AH t;have hh:=asK hz;have cN:Wf (ah s (.cells t.cells 0)):=bF hw;have sQ:Wf (ah (ah s (.cells t.cells 0)) (.cells (ij t.sh) 0)):=bF cN;have g2:=(Grew.ah hw (.cells t.cells 0)).trans (Grew.ah cN (.cells (ij t.sh) 0));have gT:(ah (ah s (.cells t.cells 0)) (.cells (ij t.sh) 0)).heap.get s.next=some (.cells t.cells 0):=(Grew.ah cN _).get (aA _ _);obtain⟨fr,sO⟩:∃n:Nat,LD t=(n:Int):=⟨(LD t).toNat,by omega⟩
 obtain⟨b,s1,S1,S2,S3,S4,S5⟩:=aqq hc t hz fr (by omega) _ sQ;have Gq:s.next.toNat<=b.toNat:=Zb2 g2.next S4;have g1:=g2.trans S2;have e1:LF t=(Qi t fr).map (Qj (bI t).toNat):=by unfold LF;rw[sO];rfl
 have hl1:(LF t).length=(bI t).toNat:=by rw[e1];simpa using S5
 obtain⟨s2,a1,a2,a3⟩:=aqr (c:=c) (s0:=s) (po:=b) (n:=(bI t).toNat) (by omega) Gq hw (Qi t fr) S5 4000 (λvs s34=>gY vs λx5 vs=>mz vs (
  aq c .move [x5] s34 λx38 s35=>aq c .move [x38] s35 λx2 s36=>some (x2,s36))) (bI t).toNat 0 4000 s1 (by omega) (by omega) g1 (by simpa using S3)
 rw[<-e1]at a2;refine⟨b,s2,?_,a1,a2,Gq,hl1⟩;have np:¬Plain (.slice b 0 (bI t).toNat (some (bI t).toNat) 1):=LC (by omega);rw[acT hc 4000 (r:=(.slice b 0 (bI t).toNat (some (bI t).toNat) 1,s2)),aij np];rw[afU];have hlay:=fM hc t.sh (ah s (.cells t.cells 0)) cN;rw[<-sO]at S1;have rd:=λ(K:AV->Option (AV×St))=>ag6 K (m:=7) (p:=s.next) (o:=0) (l:=t.cells) (h:=(ah (ah s (.cells t.cells 0)) (.cells (ij t.sh) 0)).heap) (h2:=(ah (ah s (.cells t.cells 0)) (.cells (ij t.sh) 0)).heap) (by rw[gT];rfl) (by rw[gT];rfl) (TE λv hv=>by simp only[aD.cells,Zb0,Zc5,Zf2]at hv;rcases hv with rfl|rfl|rfl|rfl|rfl|rfl|rfl<;>first|exact fV.str _|exact fV.int _ _|exact acL _ _)
 simp at a3;have lo:∀(K:AV->St->Option (AV×St))(s1:St),aq c (.lenB .l) [.slice b 0 (bI t).toNat (some (bI t).toNat) 1] s1 K=K (.int .i64 ((bI t).toNat:Int)) s1:=λK s1=>kZ c K s1 _ _ _ _ _
 obtain⟨hf,hf1,hf2⟩:=atN hc t ht;have hf3:(ij t.sh)[4]'(by rw[abi];omega)= .func hf [] []:=by rw[H0 (by rw[abi];omega)]at hf1;exact Zg3 hf1
 have c1:t.cells[1]? =some (.int .u8 t.sh):=rfl;have c2:t.cells[2]? =some (.int .i64 t.a):=rfl;have c3:t.cells[3]? =some (.int .i64 t.b):=rfl;simp[hlay,c1,c2,c3,AV.cells,abi,aqs,gT,hf1,hf3,hf2,S1,rd,lo,a3]
theorem anT{t:aD}{k:Nat}(h:k<(LF t).length):((LF t).map cI)[k]? =some (.int .i64 (LF t)[k]):=by rw[Zb7,H0 h];rfl
def Im(ts:List aD)(a:Int):Int:=match EW ts a with|some (i,x)=>(LF (ts[i]?.getD zT)).getD x.toNat 0|none=>0
theorem aqt(hc:Sem c)(z:Bool)(ts:List aD)(cG:∀t∈ts,t.Ok)(a:Int)(ha:a<=4611686018427387904)(st:St)(hw:Wf st):
  c 60 [tabs z ts,.int .i64 a] st=some (.int .i64 (Im ts a),st):=by
 have W:=SL hc z ts cG a ha st hw;cases h:EW ts a with
 |none=>
  rw[Qk hc 1 (r:=(.int .i64 (Im ts a),st)),aE (Plain.int _ _) (aW.refl st)];rw[Xj];unfold Im;rw[h]at W ⊢; simp[W,EV]
 |some p=>
  obtain⟨i,x⟩:=p;obtain⟨hv,p1,t1,p2,p3,p4⟩:=Lz h;have hz:=anM (ae5 hv p2);obtain⟨hi,hg⟩:=Za2.1 p2;obtain⟨b,s',L1,L2,L3,L4,L5⟩:=anS hc t1 hz st hw;have hx:x.toNat<(LF t1).length:=by omega
  have e:Im ts a=(LF t1)[x.toNat]:=by
   unfold Im;rw[h];simp only;rw[p2];simp[List.getD,H0 hx]
  obtain⟨k,hk⟩:∃k:Nat,x=(k:Int):=⟨x.toNat,by omega⟩
  subst hk;simp only[Zc7]at hx e;have ix:∀(K:AV->St->Option (AV×St))(s1:St),aq c (.idxA 1 none) [.slice b 0 (bI t1).toNat (some (bI t1).toNat) 1,.int .i64 (k:Int)] s1 K=K (.ptr b k) s1:=λK s1=>by rw[fG c K s1 (by omega)];simp
  have gk:=anT hx;rw[Qk hc 1 (r:=(.int .i64 (Im ts a),s')),aE (Plain.int _ _) L2.keeps];rw[Xj,e];rw[h]at W;subst hg;unfold tabs at W ⊢;simp[W,EV,hi,aD.len,L1,ix,L3,gk]
variable{c : aj}
def l9(first:Int)(n:Nat)(so:Int->Bool):List Int:=((List.range n).map λ(i:Nat)=>first+(i:Int)).filter so
theorem ZZ(first:Int)(n:Nat)(so:Int->Bool):l9 first (n+1) so=l9 first n so++if so (first+(n:Int))=true then [first+(n:Int)]else []:=by
 unfold l9;rw[Zf9,Zd3,Zk9];congr 1;simp only[Zd5,Zi5,List.filter_cons,List.filter_nil]
theorem Kk(first:Int)(n:Nat)(so:Int->Bool):(l9 first n so).length<=n:=by
 unfold l9;exact Zb2 (Zm3 _ _) (by simp)
theorem alQ{first:Int}(hfi:0<=first/\first<=1000000){n:Nat}(hn:n<=1000000){g:FuncId}{x y:List AV}{so:Int->Bool}{s0:St}
  (H:∀(k:Int)(s:St),Grew s0 s->first<=k->k<first+(n:Int)->c g (x++([.int .i64 k]++y)) s=some (.bool (so k),s)) (F:Nat) (k2):
  ∀(m i f:Nat)(s:St)(v:AV),m<f->i+m=n->Mk 1 s0 s v ((l9 first i so).map bV)->
   ∃s' v',Mk 1 s0 s' v' ((l9 first n so).map bV)/\wO c F k2 f [.int .i64 first,.int .i64 (n:Int),.func g x y,v,.int .i64 (first+(i:Int))] s=k2 [v'] s':=by
 have w0:av .i64 (first+(n:Int))=first+(n:Int):=wrap64 (by omega) (by omega)
 intro m;induction m with
 |zero=>
  intro i f s v hf h1 hM;obtain⟨f,rfl⟩:∃g,f=g+1:=⟨f - 1,by omega⟩
  obtain rfl:i=n:=by omega
  refine⟨s,v,hM,?_⟩;rw[Dr];simp[w0]
 |succ m ih=>
  intro i f s v hf h1 hM;obtain⟨f,rfl⟩:∃g,f=g+1:=⟨f - 1,by omega⟩
  have hi:i<n:=by omega
  have aS:first+(i:Int)<first+(n:Int):=by omega
  have w:av .i64 (first+(i:Int)+1)=first+((i+1:Nat):Int):=by rw[wrap64 (by omega) (by omega)];omega
  have A:=H (first+(i:Int)) s hM.ai (by omega) aS;simp only[List.singleton_append]at A;have hlen:=Kk first i so
  cases hs:so (first+(i:Int))with
  |true=>
   obtain⟨s5,v5,a1,a2,a3,_⟩:=hM.push (c:=c) (R:=AV×St) (bytes:=8) (z:=[.int .i64 0]) (x:= .int .i64 (first+(i:Int))) rfl rfl rfl (by decide) (by simp;omega) (by simp;omega);have e:(l9 first (i+1) so).map bV=(l9 first i so).map bV++[AV.cells (.int .i64 (first+(i:Int)))]:=(by rw[ZZ,Zb3 hs,Zd3];rfl);rw[<-e]at a2;obtain⟨s',v',b1,b2⟩:=ih (i+1) f s5 v5 (by omega) (by omega) a2;refine⟨s',v',b1,?_⟩;rw[<-b2,Dr];rw[hs]at A;simp[-au,iH,w0,aS,A,a1,w]
  |false=>
   have e:(l9 first (i+1) so).map bV=(l9 first i so).map bV:=(by rw[ZZ,Za7 (by rw[hs];simp),Ze0]);rw[<-e]at hM;obtain⟨s',v',b1,b2⟩:=ih (i+1) f s v (by omega) (by omega) hM;refine⟨s',v',b1,?_⟩;rw[<-b2,Dr];rw[hs]at A;simp[iH,w0,aS,A,w]
theorem ail(hc:Sem c){first:Int}(hfi:0<=first/\first<=1000000){n:Nat}(hn:n<=1000000){g:FuncId}{x y:List AV}{so:Int->Bool}{s:St}(hw:Wf s)
  (H:∀(k:Int)(t:St),Grew s t->first<=k->k<first+(n:Int)->c g (x++([.int .i64 k]++y)) t=some (.bool (so k),t)):
  ∃v s',c 62 [.int .i64 first,.int .i64 (n:Int),.func g x y] s=some (v,s')/\Mk 1 s s' v ((l9 first n so).map bV):=by
 obtain⟨s',v,hM,L⟩:=alQ hfi hn H (n+1) (λvs s22=>gY vs λx7 vs=>mz vs (aq c .move [x7] s22 λx24 s23=>aq c .move [x24] s23 λx6 s24=>some (x6,s24))) n 0 (n+1) s .af (by omega) (by omega) (Mk.start hw (Grew.refl hw));obtain⟨fN,t1,t2⟩:=hM.tidy;refine⟨v,fN,?_,t2⟩;rw[ad7 hc (n+1) (r:=(v,s')),t1];rw[aim];simp at L;simp[L]
end
end Go.Proofs.YtgihekklfnjkiaaGreatDoor
