/- Checks of a problem. -/
import Derived.Test.YtmldijpopgaaeaaGreatDoorSLawsA
set_option linter.all false
set_option maxRecDepth 100000
namespace Go.Proofs.YtmldijpopgaaeaaGreatDoor
section
open Go Go.Ai Go.Proofs
variable{c:aj}
def kd:Nat->Kd
 |1=>⟨[97,112,97,114,116],103,true,0,true,0,false,.func 77 [] []⟩
 |2=>⟨[98,101,115,105,100,101],103,true,0,false,0,false,.func 78 [] []⟩
 |3=>⟨[97,99,114,111,115,115],103,true,0,false,0,false,.func 79 [] []⟩
 |4=>⟨[110,101,97,114],103,true,0,true,1,false,.func 80 [] []⟩
 |5=>⟨[116,111,103,101,116,104,101,114],103,true,0,false,0,false,.func 81 [] []⟩
 |6=>⟨[97,116],103,false,116,false,0,false,.func 82 [] []⟩
 |7=>⟨[115,101,97,116],103,false,116,true,0,true,.func 83 [] []⟩
 |8=>⟨[97,108,116,101,114,110,97,116,101],0,false,101,false,0,false,.func 84 [] []⟩
 |9=>⟨[104,111,115,116],0,false,101,false,0,false,.func 85 [] []⟩
 |10=>⟨[114,101,97,99,104],101,false,0,false,0,false,.func 86 [] []⟩
 |11=>⟨[115,112,101,97,107],0,false,101,false,0,false,.func 87 [] []⟩
 |12=>⟨[112,101,97,99,101],0,false,101,false,0,false,.func 88 [] []⟩
 |13=>⟨[99,111,109,112,97,110,121],0,false,101,false,0,false,.func 89 [] []⟩
 |14=>⟨[104,111,110,111,117,114],0,false,101,false,0,false,.func 90 [] []⟩
 |15=>⟨[102,105,108,108],0,false,101,true,0,false,.func 91 [] []⟩
 |16=>⟨[108,105,109,105,116],0,false,101,true,0,false,.func 92 [] []⟩
 |17=>⟨[107,105,116,99,104,101,110],100,false,116,false,0,false,.func 93 [] []⟩
 |18=>⟨[109,105,120],0,false,101,false,0,false,.func 94 [] []⟩
 |_=>⟨[],0,false,0,false,0,false,.jX⟩
def FY:List (AV×AV×Nat):=[(.int .u8 1,.agg (kd 1).cells,0),(.int .u8 2,.agg (kd 2).cells,1),(.int .u8 3,.agg (kd 3).cells,2),(.int .u8 4,.agg (kd 4).cells,3),(.int .u8 5,.agg (kd 5).cells,4),(.int .u8 6,.agg (kd 6).cells,5),(.int .u8 7,.agg (kd 7).cells,6),(.int .u8 8,.agg (kd 8).cells,7),(.int .u8 9,.agg (kd 9).cells,8),(.int .u8 10,.agg (kd 10).cells,9),(.int .u8 11,.agg (kd 11).cells,10),(.int .u8 12,.agg (kd 12).cells,11),(.int .u8 13,.agg (kd 13).cells,12),(.int .u8 14,.agg (kd 14).cells,13),(.int .u8 15,.agg (kd 15).cells,14),(.int .u8 16,.agg (kd 16).cells,15),(.int .u8 17,.agg (kd 17).cells,16),(.int .u8 18,.agg (kd 18).cells,17)]
theorem agP(p:Pos):¬Plain (.map p):=λh=>by have:=h (λ_=>(⟨0,0,0⟩:Go.Ai.Loc)) (λ_=>⟨1,0,0⟩) (p.toNat+1) (p.toNat+1) (λ_=>none) _ (.map p (Nat.lt_succ_self _));cases this
theorem ajk(st:St)(p:Pos)(s':St):tidy st (.map p,s')=(.map p,s'):=by unfold tidy;rw[Za7];exact λe=>agP p e.1
theorem dZ{R:Type}(c:aj)(K:AV->St->Option R)(st:St)(z:List AV)(ps:List (Nat×Nat))(xs l:List AV)(h:cK z ps xs=some l):aq c (.build z ps) xs st K=K (.agg l) st:=by rw[iF,h];rfl
theorem eN{R:Type}(c:aj)(K:AV->St->Option R)(st:St)(es:List (AV×AV×Nat))(cl:Nat)(k:IntKind)(x:Int)(v:AV)(hf:ic .i (.int k x) es 0=some none):
  aq c (.mapSet .i) [.map st.next,.int k x,v] (ah st (.map es cl)) K=K .undef (ah st (.map (es++[(.int k x,v,cl)]) (cl+1))):=by
 have:aG.run (λb=>(ah st (.map es cl)).heap.get b) (ah st (.map es cl)).next (.mapSet .i) [.map st.next,.int k x,v]=some (.bk .undef none (some (st.next,.map (es++[(.int k x,v,cl)]) (cl+1))) none):=by
  simp[aG.run,yW,hf,aho]
 unfold aq cJ;rw[this];show K .undef (bh (ah st (.map es cl)) st.next _)=_;rw[ZN]
theorem ajl(hc:Sem c)(s:St):c 42 [] s=some (.map s.next,ah s (.map FY 18)):=by
 rw[afc hc 1 (r:=(.map s.next,ah s (.map FY 18))),ajk];rw[ajm];rw[av,XC];rw[dZ (l:=(kd 1).cells) (h:=rfl),eN (hf:=rfl)];rw[dZ (l:=(kd 2).cells) (h:=rfl),eN (hf:=rfl)];rw[dZ (l:=(kd 3).cells) (h:=rfl),eN (hf:=rfl)];rw[dZ (l:=(kd 4).cells) (h:=rfl),eN (hf:=rfl)];rw[dZ (l:=(kd 5).cells) (h:=rfl),eN (hf:=rfl)];rw[dZ (l:=(kd 6).cells) (h:=rfl),eN (hf:=rfl)];rw[dZ (l:=(kd 7).cells) (h:=rfl),eN (hf:=rfl)];rw[dZ (l:=(kd 8).cells) (h:=rfl),eN (hf:=rfl)];rw[dZ (l:=(kd 9).cells) (h:=rfl),eN (hf:=rfl)];rw[dZ (l:=(kd 10).cells) (h:=rfl),eN (hf:=rfl)];rw[dZ (l:=(kd 11).cells) (h:=rfl),eN (hf:=rfl)];rw[dZ (l:=(kd 12).cells) (h:=rfl),eN (hf:=rfl)];rw[dZ (l:=(kd 13).cells) (h:=rfl),eN (hf:=rfl)];rw[dZ (l:=(kd 14).cells) (h:=rfl),eN (hf:=rfl)];rw[dZ (l:=(kd 15).cells) (h:=rfl),eN (hf:=rfl)];rw[dZ (l:=(kd 16).cells) (h:=rfl),eN (hf:=rfl)];rw[dZ (l:=(kd 17).cells) (h:=rfl),eN (hf:=rfl)];rw[dZ (l:=(kd 18).cells) (h:=rfl),eN (hf:=rfl)];rw[av,av]
 .rfl
theorem auz{R:Type}(c:aj)(K:AV->St->Option R)(st:St)(m:Pos)(cl:Nat)(h:st.heap.get m=some (.map FY cl))(n:Nat):
   aq c (.lookup .i (.agg [.str [],.int .u8 0,.bool false,.int .u8 0,.bool false,.int .i64 0,.bool false,.jX]) false) [.map m,.int .u8 (n:Int)] st K=K (.agg (kd n).cells) st:=by
 have e:ic .i (.int .u8 (n:Int)) FY 0=some (if 1<=n/\n<=18 then some (n - 1,.agg (kd n).cells)else none):=by
   by_cases h:n<=18
   .have:n=0\/n=1\/n=2\/n=3\/n=4\/n=5\/n=6\/n=7\/n=8\/n=9\/n=10\/n=11\/n=12\/n=13\/n=14\/n=15\/n=16\/n=17\/n=18:=(by omega);rcases this with rfl|rfl|rfl|rfl|rfl|rfl|rfl|rfl|rfl|rfl|rfl|rfl|rfl|rfl|rfl|rfl|rfl|rfl|rfl<;>rfl
   . have Ik:∀j:Int,j<=18->BP (n:Int) j=false:=λj hj=>by rw[oM];simp;omega
     rw[Za7 (by omega)];simp[FY,ic,yV,Ik,dL]
 have:∀z:AV,aG.run (λb=>st.heap.get b) st.next (.lookup .i z false) [.map m,.int .u8 (n:Int)]=some (.val (if 1<=n/\n<=18 then .agg (kd n).cells else z)):=λz=>by
   simp only[aG.run,l9,h,e];by_cases h1:1<=n/\n<=18
   .rw[Zb6 h1,Zb6 h1]
   .rw[Za7 h1,Za7 h1]
 unfold aq cJ;rw[this];by_cases h1:1<=n/\n<=18
 .rw[Zb6 h1]
 .rw[Za7 h1];have:kd n=⟨[],0,false,0,false,0,false,.jX⟩:=(by unfold kd;split<;>first|rfl|omega);rw[this];rfl
theorem auA(n:Nat):(kd n).kR=true->(kd n).t=116:=by unfold kd;split<;>simp
def Rl.Ok(r:Rl):Prop:=0<=r.k/\r.k<256
def uL(p:bS)(r:Rl):Int:=TW (kd r.k.toNat) p r
def oF(p:bS):Nat->Nat->Int×Int
 |0,_=>(0,0)
 |  m+1,i=>match p.rs[i]? with
    |none=>(0,0)
    |some r=>if uL p r≠0 then((i:Int),uL p r)else if i=64 then((i:Int),7)else oF p m (i+1)
theorem aa7(p:bS):∀(m i:Nat),(oF p m i).2=0->(oF p m i).1=0
 |0,_,_=>rfl
 |m+    1,i,h=>by
  rw[oF]at h ⊢;cases h0:p.rs[i]? with
  |none=>rfl
  |some r=>
   rw[h0]at h;simp only at h ⊢;by_cases h1:uL p r=0
   .    rw[Za7 (by simp[h1])]at h ⊢;by_cases h2:i=64
        .rw[Zb6 h2]at h;simp at h
        .rw[Za7 h2]at h ⊢; exact aa7 p m (i+1) h
   .    rw[Zb6 h1]at h;exact absurd h h1
def iH(p:bS):Int×Int:=if(jQ p).2≠0 then jQ p else oF p 100 0
theorem am4(hc:Sem c)(p:bS)(hp:p.Dh)(hr:∀r∈p.rs,r.Ok)(hv:(bU p.ts).2=0)(q1 mp:Pos)(cl:Nat)(F:Nat)(k1 k2):∀(m k:Nat)(st:St),Wf st->st.heap.get q1=some (.cells p.cells 0)->st.heap.get mp=some (.map FY cl)->p.rs.length<=k+m->k<=p.rs.length->
  ∃st',Grew st st'/\xH c F k1 k2 (m+1) [.ptr q1 0,.map mp,jf p.rz p.rs,.int .i64 (p.rs.length:Int),.int .i64 (k:Int)] st=if(oF p m k).2=0 then k2 [] st' else k1 [.int .i64 (oF p m k).1,.int .i64 (oF p m k).2] st':=by
 have hl:=hp.rs;intro m;induction m with
 |zero=>
  intro k st hw h1 h2 h3 h4;obtain rfl:k=p.rs.length:=by omega
  refine⟨st,Grew.refl hw,?_⟩;rw[Ex];simp[oF]
 |succ m ih=>
  intro k st hw hq hm h3 h4;by_cases h:k<p.rs.length
  . have w:ax .i64 ((k:Int)+1)=((k+1:Nat):Int):=wrap64 (by omega) (by omega);have cZ:Wf (ah st (.cells p.rs[k].cells 0)):=bG hw;have hg:=Grew.ah hw (.cells p.rs[k].cells 0);have hq1:=hg.get hq;have nF:=hg.get hm;have hn:=aA st (.cells p.rs[k].cells 0);obtain⟨n,hk⟩:∃n:Nat,p.rs[k].k=(n:Int):=⟨p.rs[k].k.toNat,by have:=(hr _ (Zb9 h)).1;omega⟩
    have hkc:=apn hc (kd n) (auA n) p hp hv p.rs[k] _ cZ;have hS:uL p p.rs[k]=TW (kd n) p p.rs[k]:=(by unfold uL;rw[hk];rfl);have SY:=λ(K:AV->St->Option (AV×St))=>auz c K _ mp cl nF n
    have iQ:=λ(K:AV->St->Option (AV×St))=>cr c K st 6 (.agg p.rs[k].cells) [.int .u8 0,.int .i64 0,.str [],.str [],.str [],.int .i64 0] rfl rfl (Rl.one _)
    rw[show(AV.agg p.rs[k].cells).cells=p.rs[k].cells from rfl]at iQ;rw[<-hS]at hkc;rw[<-hk]at SY;obtain⟨st',g1,g2⟩:=ih (k+1) _ cZ hq1 nF (by omega) (by omega);rw[Ex,oF,H0 h];simp only;by_cases h5:uL p p.rs[k]=0
    .   rw[Za7 (by simp[h5])];by_cases h6:k=64
        .refine⟨_,hg,?_⟩;rw[Zb6 h6];have h6i:decide ((k:Int)=64)=true:=(by simp only[Ze1];omega);simp[-cr,iQ,jf,h,hq1,nF,SY,hkc,h5,h6i]
        .refine⟨st',hg.trans g1,?_⟩;rw[Za7 h6, <-g2];have h6i:¬(k:Int)=64:=(by omega);simp[-cr,iQ,jf,h,hq1,nF,SY,hkc,h5,h6i,w]
    .   refine⟨_,hg,?_⟩;rw[Zb6 h5];simp[-cr,iQ,jf,h,hq1,nF,SY,hkc,h5]
  .obtain rfl:k=p.rs.length:=(by omega);refine⟨st,Grew.refl hw,?_⟩;rw[Ex];simp[oF]
theorem aku{p:bS}(h:(jQ p).2=0):(bU p.ts).2=0:=by
 unfold jQ at h;by_cases h1:(bU p.ts).2=0
 .exact h1
 .rw[Zb6 h1]at h;exact absurd h h1
theorem Vh(hc:Sem c)(p:bS)(hp:p.Dh)(hR:Yl c p)(hr:∀r∈p.rs,r.Ok)(st:St)(hw:Wf st):c 28 [.agg p.cells] st=some (.tuple [.int .i64 (iH p).1,.int .i64 (iH p).2],st):=by
 have Ap:Plain (.tuple [.int .i64 (iH p).1,.int .i64 (iH p).2]):=Plain.tuple (by simp[Plain.int]);have cZ:Wf (ah st (.cells p.cells 0)):=bG hw;have hg1:=Grew.ah hw (.cells p.cells 0);have kH:(ah st (.cells p.cells 0)).heap.get st.next=some (.cells p.cells 0):=aA _ _;have B:=ar9 hc p hp hR _ cZ;by_cases h:(jQ p).2=0
 . have hv:=aku h;have K:=ajl hc (ah st (.cells p.cells 0));have tH:Wf (ah (ah st (.cells p.cells 0)) (.map FY 18)):=bG cZ;have xC:=Grew.ah cZ (.map FY 18);obtain⟨st',g1,g2⟩:=am4 hc p hp hr hv st.next (ah st (.cells p.cells 0)).next 18 101 (λvs s50=>iw vs λx2 vs=>iw vs λx3 vs=>mO vs (
   some (.tuple [x2,x3],s50))) (λvs s51=>mO vs (
   aq c .move [(.int .i64 0)] s51 λx2 s52=>
 aq c .move [(.int .i64 0)] s52 λx3 s53=>
 some (.tuple [x2,x3],s53))) 100 0 _ tH (xC.get kH) (aA _ _) (by have:=hp.rs;omega) (by omega)
   have e:iH p=oF p 100 0:=(by unfold iH;rw[Za7 (by simp[h])]);have e0:=akt h;rw[RH hc 101 (r:=(.tuple [.int .i64 (iH p).1,.int .i64 (iH p).2],st')),aB Ap ((hg1.trans xC).trans g1).keeps];rw[Yw,e];simp at g2;simp[kH,B,h,K,g2];by_cases h2:(oF p 100 0).2=0
   .have:=aa7 p 100 0 h2;simp[h2,this]
   .simp[h2]
 .have e:iH p=jQ p:=(by unfold iH;rw[Zb6 h]);rw[RH hc 101 (r:=(.tuple [.int .i64 (iH p).1,.int .i64 (iH p).2],ah st (.cells p.cells 0))),aB Ap hg1.keeps];rw[Yw,e];simp[kH,B,h]
def wl:List AV:=(List.range 19).map λi=>.str (kd i).w
end
section
open Go Go.Ai Go.Proofs
variable{c:aj}
end
section
open Go Go.Ai Go.Proofs
variable{c:aj}
end
section
open Go Go.Ai Go.Proofs
theorem H8{Q:List AV->Prop}{Qs:List (List AV->Prop)}{ps:List (List AV)}(h:Ts (Q::Qs) ps):∃p qs,ps=p::qs/\Q p/\Ts Qs qs:=by
 cases ps with
 |nil=>exact h.elim
 |cons p qs=>exact⟨p,qs,rfl,h⟩
theorem aio{ps:List (List AV)}(h:Ts [] ps):ps=[]:=by
 cases ps with
 |nil=>rfl
 |cons p qs=>exact h.elim
section
variable{H:Type}{enc:TypeId×Value->H}{w:World}{base:Nat}{spare:Nat->Bool}{held:Bool}
end
variable{c:aj}
abbrev lim:Nat:=1048576
abbrev bC(i:Int):List AV:=[.int .i64 i]
abbrev Ut(s:List Nat):List AV:=[.str s]
def aE.ay(t:aE)(v:AV):List AV:=[.str t.name,.int .u8 t.sh,.int .i64 t.a,.int .i64 t.b,v,.int .i64 t.x,.int .i64 t.y]
theorem aE.MG(t:aE){v:AV}(h:aQ [v]=true):aQ (t.ay v)=true:=by
 simp only[aQ]at h;unfold aE.ay;simp only[aQ,AV.one,h,Zk5,Zj4]at*
structure TS(s0 s:St)(V:AV)(ts:List aE)(rows:List (List AV)):Prop where
 out:Mk 7 s0 s V rows
 len:rows.length=ts.length
 ez:∀(i:Nat)(t:aE)(r:List AV),ts[i]? =some t->rows[i]? =some r->∃v,r=t.ay v/\Mk 1 s0 s v (t.kQ.map bC)/\∀b,aL v=some b->aL V≠some b
structure GS(s0 s:St)(V:AV)(ts:List aN)(rows:List (List AV)):Prop where
 out:Mk 9 s0 s V rows
 len:rows.length=ts.length
 ez:∀(i:Nat)(t:aN)(r:List AV),ts[i]? =some t->rows[i]? =some r->∃v,r=t.ay v/\Mk 1 s0 s v (t.tg.map Ut)/\∀b,aL v=some b->aL V≠some b
structure PS(s0 s:St)(Vs:List AV)(p:bS):Prop where
 ai:Grew s0 s
 all:∃V1 V2 V3 V4 V5 r1 r2,Vs=[V1,V2,V3,V4,V5]/\TS s0 s V1 p.ts r1/\GS s0 s V2 p.gs r2/\Mk 3 s0 s V3 (p.ys.map Ty.cells)/\Mk 1 s0 s V4 (p.cs.map bC)/\Mk 6 s0 s V5 (p.rs.map Rl.cells)
theorem TS.rW{s0 s s':St}{V:AV}{ts:List aE}{rows:List (List AV)}(h:TS s0 s V ts rows)(hg:Grew s0 s')(hk:∀b x,s0.next.toNat<=b.toNat->(aL V=some b\/∃(i:Nat) (r:List AV) (v:AV),rows[i]? =some r/\r[4]? =some v/\aL v=some b)->s.heap.get b=some x->s'.heap.get b=some x):TS s0 s' V ts rows:=
 ⟨Mk.rW h.out hg λb x hb hx=>hk b x (h.out.new b hb) (.inl hb) hx,h.len,λi t r hi hr=>by
  obtain⟨v,e1,e2,e3⟩:=h.ez i t r hi hr;exact⟨v,e1,Mk.rW e2 hg λb x hb hx=>hk b x (e2.new b hb) (.inr ⟨i,r,v,hr,by rw[e1];rfl,hb⟩) hx,e3⟩⟩
theorem GS.rW{s0 s s':St}{V:AV}{ts:List aN}{rows:List (List AV)}(h:GS s0 s V ts rows)(hg:Grew s0 s')(hk:∀b x,s0.next.toNat<=b.toNat->(aL V=some b\/∃(i:Nat) (r:List AV) (v:AV),rows[i]? =some r/\r[8]? =some v/\aL v=some b)->s.heap.get b=some x->s'.heap.get b=some x):GS s0 s' V ts rows:=
 ⟨Mk.rW h.out hg λb x hb hx=>hk b x (h.out.new b hb) (.inl hb) hx,h.len,λi t r hi hr=>by
  obtain⟨v,e1,e2,e3⟩:=h.ez i t r hi hr;exact⟨v,e1,Mk.rW e2 hg λb x hb hx=>hk b x (e2.new b hb) (.inr ⟨i,r,v,hr,by rw[e1];rfl,hb⟩) hx,e3⟩⟩
structure aE.Real(t:aE):Prop where
 name:∀x∈t.name,x<256
 kQ:t.kQ.length<=lim
structure aN.Real(g:aN):Prop where
 name:∀x∈g.name,x<256
 AN:∀x∈g.AN,x<256
 jv:∀x∈g.jv,x<256
 nk:∀x∈g.nk,x<256
 tg:g.tg.length<=lim
theorem TS.rX{s0 s1 s s':St}{V:AV}{ts:List aE}{rows:List (List AV)}(h:TS s1 s V ts rows)(h0:Wf s0)(OD:Grew s0 s1)(hg:Grew s0 s')(hk:∀q b,s1.next.toNat<=q.toNat->s.heap.get q=some b->s'.heap.get q=some b):TS s0 s' V ts rows:=
 ⟨Mk.rX h.out h0 OD hg hk,h.len,λi t r hi hr=>by obtain⟨v,e1,e2,e3⟩:=h.ez i t r hi hr;exact⟨v,e1,Mk.rX e2 h0 OD hg hk,e3⟩⟩
theorem GS.rX{s0 s1 s s':St}{V:AV}{ts:List aN}{rows:List (List AV)}(h:GS s1 s V ts rows)(h0:Wf s0)(OD:Grew s0 s1)(hg:Grew s0 s')(hk:∀q b,s1.next.toNat<=q.toNat->s.heap.get q=some b->s'.heap.get q=some b):GS s0 s' V ts rows:=
 ⟨Mk.rX h.out h0 OD hg hk,h.len,λi t r hi hr=>by obtain⟨v,e1,e2,e3⟩:=h.ez i t r hi hr;exact⟨v,e1,Mk.rX e2 h0 OD hg hk,e3⟩⟩
structure bS.Real(p:bS):Prop where
 ts:p.ts.length<=1000
 tab:∀t∈p.ts,t.Real
 gs:p.gs.length<=1000
 qM:∀t∈p.gs,t.Real
 ys:p.ys.length<=lim
 cs:p.cs.length<=lim
 rs:p.rs.length<=lim
theorem Iy{R:Type}{p:Pos}{o:Nat}{h:T AB}{v:AV}(hv:((cellsOf (h.get p)).bind λcs=>cs[o]?)=some v)(ok:AV->Bool)(cH:ok v=true)(K:AV->Option R):jI (.load none) [.ptr p o] h ok K=K v:=by
 unfold jI;have e:aG.run (λ_=>none) .h (.load none) [.ptr p o]=none:=rfl;rw[e];simp only;rw[tM,hv];simp only[Ze0];rw[cH]
theorem MV{p:Pos}{o:Nat}{h:T AB}{v:AV}(hv:((cellsOf (h.get p)).bind λcs=>cs[o]?)=some v)(hb:eZ v v=true):pL (.load none) [.ptr p o] v (nZ [] h)=true:=by unfold pL;show(match aG.run (λb=>h.get b) .h (.load none) [.ptr p o]with|some (.val u)=>eZ u v|_=>false)=true;rw[tM,hv];exact hb
abbrev Sm(v:Int):Prop:=0<=v/\v<=1000000
def am5(a x y:Int):Bool:=decide (y - x=1)||decide (y - x=a - 1)
def am6(a x y:Int):Bool:=decide (a.tmod 2=0)&&decide (y - x=a.tdiv 2)
def JH(a b:Int):Int:=a+min b 1
def am7(a b x y:Int):Bool:=
 bif decide (b=2)&&decide (y=2*a+1)then decide (x=0)||decide (x=y - 1)
 else bif decide (0<b)&&(decide (x=a)||decide (y=a))then decide (y - x=1)else decide (y - x=1)&&(decide (y<a)||decide (JH a b<=x))
def am8(a b x y:Int):Bool:=bif decide (b=2)&&decide (y=2*a+1)then decide (x=a)else decide (x<a)&&decide (x+y=JH a b+a - 1)
def am9(x y:Int):Bool:=decide (y - x=1)
def ana(a b x y:Int):Bool:=decide (x<b)&&decide (x+y=a+2*b - 1)
def anb(b x y:Int):Bool:=decide (y - x=1)&&(decide (b=0)|| !decide (y.tmod b=0))
theorem afd(hc:Sem c)(a b x y:Int)(ha:Sm a)(hx:Sm x)(hy:Sm y)(st:St):
  c 183 [.int .i64 a,.int .i64 b,.int .i64 x,.int .i64 y] st=some (.bool (am5 a x y),st):=by
 have w1:ax .i64 (y - x)=y - x:=wrap64 (by omega) (by omega);have w2:ax .i64 (a - 1)=a - 1:=wrap64 (by omega) (by omega);rw[Uu hc 1 (r:=(.bool (am5 a x y),st)),aB (Plain.bool _) (aX.refl st)];rw[Yx];unfold am5;cases h:decide (y - x=1)<;>simp[w1,w2,h]
theorem afe(hc:Sem c)(a b x y:Int)(ha:Sm a)(hx:Sm x)(hy:Sm y)(st:St):
  c 184 [.int .i64 a,.int .i64 b,.int .i64 x,.int .i64 y] st=some (.bool (am6 a x y),st):=by
 have w1:ax .i64 (y - x)=y - x:=wrap64 (by omega) (by omega);have hq:0<=a.tdiv 2/\a.tdiv 2<=1000000:=by rw[Zi7 ha.1];omega
 have w2:ax .i64 (a.tdiv 2)=a.tdiv 2:=wrap64 (by omega) (by omega);rw[Uv hc 1 (r:=(.bool (am6 a x y),st)),aB (Plain.bool _) (aX.refl st)];rw[Yy];unfold am6;cases h:decide (a.tmod 2=0)<;>simp[w1,w2,h]
theorem aly(hc:Sem c)(a b:Int)(ha:Sm a)(hb:Sm b)(st:St):c 217 [.int .i64 a,.int .i64 b] st=some (.int .i64 (JH a b),st):=by
 have w1:ax .i64 (a+min b 1)=a+min b 1:=wrap64 (by omega) (by omega);rw[ajn hc 1 (r:=(.int .i64 (JH a b),st)),aB (Plain.int _ _) (aX.refl st)];rw[anc];unfold JH;simp[w1]
theorem agQ (hc:Sem c)(a b x y:Int)(ha:Sm a)(hb:Sm b)(hx:Sm x)(hy:Sm y)(st:St):
   c 188 [.int .i64 a,.int .i64 b,.int .i64 x,.int .i64 y] st=some (.bool (am7 a b x y),st):=by
 have w1:ax .i64 (y - x)=y - x:=wrap64 (by omega) (by omega);have w2:ax .i64 (y - 1)=y - 1:=wrap64 (by omega) (by omega);have w3:ax .i64 (2*a)=2*a:=wrap64 (by omega) (by omega);have w4:ax .i64 (2*a+1)=2*a+1:=wrap64 (by omega) (by omega);have t:=aly hc a b ha hb st;rw[Wx hc 1 (r:=(.bool (am7 a b x y),st)),aB (Plain.bool _) (aX.refl st)];rw[aaF];unfold am7;cases h1:decide (b=2)
 . cases  h4:decide (0<b)
   . cases h7:decide (y - x=1)
     .  simp[w1,w2,w3,w4,t,h1,h4,h7]
     .  cases h8:decide (y<a)<;>simp[w1,w2,w3,w4,t,h1,h4,h7,h8]
   . cases h5:decide (x=a)
     .  cases h6:decide (y=a)
        . cases h7:decide (y - x=1)
          .simp[w1,w2,w3,w4,t,h1,h4,h5,h6,h7]
          .cases h8:decide (y<a)<;>simp[w1,w2,w3,w4,t,h1,h4,h5,h6,h7,h8]
        .simp[w1,w2,w3,w4,t,h1,h4,h5,h6]
     .  simp[w1,w2,w3,w4,t,h1,h4,h5]
 . cases  h2:decide (y=2*a+1)
   . cases  h4:decide (0<b)
     .  simp at h1 h4;omega
     .  cases h5:decide (x=a)
        . cases h6:decide (y=a)
          . cases h7:decide (y - x=1)
            .simp[w1,w2,w3,w4,t,h1,h2,h4,h5,h6,h7]
            .cases h8:decide (y<a)<;>simp[w1,w2,w3,w4,t,h1,h2,h4,h5,h6,h7,h8]
          .simp[w1,w2,w3,w4,t,h1,h2,h4,h5,h6]
        .simp[w1,w2,w3,w4,t,h1,h2,h4,h5]
   .cases h3:decide (x=0)<;>simp[w1,w2,w3,w4,t,h1,h2,h3]
theorem agR(hc:Sem c)(a b x y:Int)(ha:Sm a)(hb:Sm b)(hx:Sm x)(hy:Sm y)(st:St):
   c 189 [.int .i64 a,.int .i64 b,.int .i64 x,.int .i64 y] st=some (.bool (am8 a b x y),st):=by
 have w1:ax .i64 (x+y)=x+y:=wrap64 (by omega) (by omega);have w3:ax .i64 (2*a)=2*a:=wrap64 (by omega) (by omega);have w4:ax .i64 (2*a+1)=2*a+1:=wrap64 (by omega) (by omega);have hT:0<=JH a b/\JH a b<=1000001:=by unfold JH;omega
 have w5:ax .i64 (JH a b+a)=JH a b+a:=wrap64 (by omega) (by omega);have w6:ax .i64 (JH a b+a - 1)=JH a b+a - 1:=wrap64 (by omega) (by omega);have t:=aly hc a b ha hb st;rw[Wy hc 1 (r:=(.bool (am8 a b x y),st)),aB (Plain.bool _) (aX.refl st)];rw[aaG];unfold am8;cases h1:decide (b=2)
 .cases h3:decide (x<a)<;>simp[w1,w3,w4,w5,w6,t,h1,h3]
 . cases h2:decide (y=2*a+1)
   .cases h3:decide (x<a)<;>simp[w1,w3,w4,w5,w6,t,h1,h2,h3]
   .simp[w1,w3,w4,t,h1,h2]
theorem agS(hc:Sem c)(a b x y:Int)(hx:Sm x)(hy:Sm y)(st:St):
  c 193 [.int .i64 a,.int .i64 b,.int .i64 x,.int .i64 y] st=some (.bool (am9 x y),st):=by
 have w1:ax .i64 (y - x)=y - x:=wrap64 (by omega) (by omega);rw[Wz hc 1 (r:=(.bool (am9 x y),st)),aB (Plain.bool _) (aX.refl st)];rw[aaH];unfold am9;simp[w1]
theorem agT(hc:Sem c)(a b x y:Int)(ha:Sm a)(hb:Sm b)(hx:Sm x)(hy:Sm y)(st:St):
  c 194 [.int .i64 a,.int .i64 b,.int .i64 x,.int .i64 y] st=some (.bool (ana a b x y),st):=by
 have w1:ax .i64 (x+y)=x+y:=wrap64 (by omega) (by omega);have w2:ax .i64 (2*b)=2*b:=wrap64 (by omega) (by omega);have w3:ax .i64 (a+2*b)=a+2*b:=wrap64 (by omega) (by omega);have w4:ax .i64 (a+2*b - 1)=a+2*b - 1:=wrap64 (by omega) (by omega);rw[WA hc 1 (r:=(.bool (ana a b x y),st)),aB (Plain.bool _) (aX.refl st)];rw[aaI];unfold ana;cases h:decide (x<b)<;>simp[w1,w2,w3,w4,h]
theorem ajo(hc:Sem c)(a b x y:Int)(hx:Sm x)(hy:Sm y)(st:St):
   c 198 [.int .i64 a,.int .i64 b,.int .i64 x,.int .i64 y] st=some (.bool (anb b x y),st):=by
 have w1:ax .i64 (y - x)=y - x:=wrap64 (by omega) (by omega);rw[Yz hc 1 (r:=(.bool (anb b x y),st)),aB (Plain.bool _) (aX.refl st)];rw[acs];unfold anb;cases h:decide (y - x=1)
 .simp[w1,h]
 . cases h2:decide (b=0)
   .have hb:b≠0:=(by simpa using h2);simp[w1,h,h2,aeA _ _ _ _ _ _ _ hb]
   .simp[w1,h,h2]
theorem awI(hc:Sem c)(a b x y:Int)(st:St):c 199 [.int .i64 a,.int .i64 b,.int .i64 x,.int .i64 y] st=some (.bool false,st):=by rw[WE hc 1 (r:=(.bool false,st)),aB (Plain.bool _) (aX.refl st)];rw[aaJ];simp
structure aE.Fit(t:aE):Prop where
 sh:1<=t.sh/\t.sh<=4
 a:0<=t.a/\t.a<=24
 b:0<=t.b/\t.b<=24
theorem adS{t:aE}(h:bJ t≠0):t.Fit:=by
 unfold bJ at h;split at h
 . split at h
   .exact⟨by omega,by omega,by omega⟩
   .exact absurd rfl h
 split at h
 . split at h
   .exact⟨by omega,by omega,by omega⟩
   .exact absurd rfl h
 split at h
 . split at h
   .exact⟨by omega,by omega,by omega⟩
   .exact absurd rfl h
 split at h
 . split at h
   .exact⟨by omega,by omega,by omega⟩
   .exact absurd rfl h
 .exact absurd rfl h
def Qe(t:aE)(x y:Int):Bool:=
 !decide (x=y)&&(if t.sh=1 then am5 t.a (min x y) (max x y)else if t.sh=2 then am7 t.a t.b (min x y) (max x y)else if t.sh=3 then am9 (min x y) (max x y)else anb t.b (min x y) (max x y))
def Uw(t:aE)(x y:Int):Bool:=
 !decide (x=y)&&(if t.sh=1 then am6 t.a (min x y) (max x y)else if t.sh=2 then am8 t.a t.b (min x y) (max x y)else if t.sh=3 then ana t.a t.b (min x y) (max x y)else false)
def AR(t:aE)(x y:Int):Bool:=Qe t x y||Uw t x y
theorem aga(hc:Sem c)(t:aE)(ht:t.Fit)(x y:Int)(hx:Sm x)(hy:Sm y)(st:St)(hw:Wf st):
   c 101 [.agg t.cells,.int .i64 x,.int .i64 y] st=some (.bool (Qe t x y),st):=by
 have hm:Sm (min x y):=by omega
 have hM:Sm (max x y):=by omega
 obtain⟨⟨s1,s2⟩,⟨a1,a2⟩,b1,b2⟩:=ht;rw[adT hc 1 (r:=(.bool (Qe t x y),ah (ah st (.cells t.cells 0)) (.cells (iD t.sh) 0))),aB (Plain.bool _) ((bY hw).trans (bY (bG hw)))];rw[agU];obtain⟨name,sh,a,b,oz,kQ,tx,ty⟩:=t;simp only at s1 s2 a1 a2 b1 b2;have ha:Sm a:=by omega
 have hb:Sm b:=by omega
 have hS:sh=1\/sh=2\/sh=3\/sh=4:=by omega
 cases h:decide (x=y)
 . rcases hS with rfl|rfl|rfl|rfl
   .simp[aE.cells,AV.cells,fT hc,hw,Qe,iD,aQ,AV.one,h,afd hc a b _ _ ha hm hM]
   .simp[aE.cells,AV.cells,fT hc,hw,Qe,iD,aQ,AV.one,h,agQ hc a b _ _ ha hb hm hM]
   .simp[aE.cells,AV.cells,fT hc,hw,Qe,iD,aQ,AV.one,h,agS hc a b _ _ hm hM]
   .simp[aE.cells,AV.cells,fT hc,hw,Qe,iD,aQ,AV.one,h,ajo hc a b _ _ hm hM]
 .rcases hS with rfl|rfl|rfl|rfl<;>simp[aE.cells,AV.cells,fT hc,hw,Qe,iD,aQ,AV.one,h]
theorem agb(hc:Sem c)(t:aE)(ht:t.Fit)(x y:Int)(hx:Sm x)(hy:Sm y)(st:St)(hw:Wf st):
   c 102 [.agg t.cells,.int .i64 x,.int .i64 y] st=some (.bool (Uw t x y),st):=by
 have hm:Sm (min x y):=by omega
 have hM:Sm (max x y):=by omega
 obtain⟨⟨s1,s2⟩,⟨a1,a2⟩,b1,b2⟩:=ht;rw[adU hc 1 (r:=(.bool (Uw t x y),ah (ah st (.cells t.cells 0)) (.cells (iD t.sh) 0))),aB (Plain.bool _) ((bY hw).trans (bY (bG hw)))];rw[agV];obtain⟨name,sh,a,b,oz,kQ,tx,ty⟩:=t;simp only at s1 s2 a1 a2 b1 b2;have ha:Sm a:=by omega
 have hb:Sm b:=by omega
 have hS:sh=1\/sh=2\/sh=3\/sh=4:=by omega
 cases h:decide (x=y)
 . rcases hS with rfl|rfl|rfl|rfl
   .simp[aE.cells,AV.cells,fT hc,hw,Uw,iD,aQ,AV.one,h,afe hc a b _ _ ha hm hM]
   .simp[aE.cells,AV.cells,fT hc,hw,Uw,iD,aQ,AV.one,h,agR hc a b _ _ ha hb hm hM]
   .simp[aE.cells,AV.cells,fT hc,hw,Uw,iD,aQ,AV.one,h,agT hc a b _ _ ha hb hm hM]
   .simp[aE.cells,AV.cells,fT hc,hw,Uw,iD,aQ,AV.one,h,awI hc]
 .rcases hS with rfl|rfl|rfl|rfl<;>simp[aE.cells,AV.cells,fT hc,hw,Uw,iD,aQ,AV.one,h]
theorem auB(hc:Sem c)(t:aE)(ht:t.Fit)(x y:Int)(hx:Sm x)(hy:Sm y)(st:St)(hw:Wf st):
  c 202 [.agg t.cells,.int .i64 x,.int .i64 y] st=some (.bool (AR t x y),st):=by
 have hp:=aA st (.cells t.cells 0);have B:=aga hc t ht x y hx hy _ (bG (b:= .cells t.cells 0) hw);have A:=agb hc t ht x y hx hy _ (bG (b:= .cells t.cells 0) hw);rw[agW hc 1 (r:=(.bool (AR t x y),ah st (.cells t.cells 0))),aB (Plain.bool _) (bY hw)];rw[akv];unfold AR;cases h:Qe t x y<;>simp[hp,B,A,h,aE.len]
def YA:List aE->Int->Nat->Option (Nat×Int)
 |[],_,_=>none
 |t::ts,s,i=>if s<bJ t then some (i,s)else YA ts (s - bJ t) (i+1)
theorem ajp:∀{ts:List aE}{s:Int}{i:Nat}{k:Nat}{x:Int},0<=s->YA ts s i=some (k,x)->i<=k/\0<=x/\∃t,ts[k - i]? =some t/\x<bJ t
 |[],_,_,_,_,_,h=>by cases h
 |t ::ts,s,i,k,x,hs,h=>by
  unfold YA at h;split at h
  .simp only[H5,Zd2]at h;obtain⟨rfl,rfl⟩:=h;exact⟨Za3 _,hs,t,by simp,by assumption⟩
  .obtain⟨h1,h2,t',h3,h4⟩:=ajp (by omega) h;refine⟨by omega,h2,t',?_,h4⟩;rw[show k - i=(k - (i+1))+1 by omega,Zb4];exact h3
def F8:Option (Nat×Int)->AV
 |some (i,x)=>.tuple [.int .i64 (i:Int),.int .i64 x,.bool true]
 |none=>.tuple [.int .i64 0,.int .i64 0,.bool false]
theorem agc(o:Option (Nat×Int)):Plain (F8 o):=by
 cases o with
 |none=>exact Plain.tuple λv hv=>by simp at hv;rcases hv with rfl|rfl|rfl<;>first|exact Plain.int _ _|exact Plain.bool _
 |some p=>exact Plain.tuple λv hv=>by simp at hv;rcases hv with rfl|rfl|rfl<;>first|exact Plain.int _ _|exact Plain.bool _
def F9(ts:List aE)(s:Int):Option (Nat×Int):=if s<0\/(bU ts).2≠0 then none else YA ts s 0
theorem ane(hc:Sem c)(z:Bool)(ts:List aE)(hl:ts.length<=16)(F:Nat)(k1 k2):∀(m k:Nat)(s:Int)(st:St),Wf st->ts.length<=k+m->k<=ts.length->0<=s->s<=4611686018427387904->
  ∃ st',Grew st st'/\tr c F k1 k2 (m+1) [.int .i64 s,tabs z ts,.int .i64 (ts.length:Int),.int .i64 (k:Int)] st=
    (match YA (ts.drop k) s k with|some (i,x)=>k1 [.int .i64 (i:Int),.int .i64 x,.bool true] st'|none=>k2 [] st'):=by
 intro m;induction m with
 |zero=>
  intro k s st hw h1 h2 h3 h4;obtain rfl:k=ts.length:=by omega
  refine⟨st,Grew.refl hw,?_⟩;rw[yO];simp[YA]
 |succ m ih=>
  intro k s st hw h1 h2 h3 h4;by_cases h:k<ts.length
  . have w:ax .i64 ((k:Int)+1)=((k+1:Nat):Int):=wrap64 (by omega) (by omega);have cZ:Wf (ah st (.cells ts[k].cells 0)):=bG hw;have hg:=Grew.ah hw (.cells ts[k].cells 0);have hs:=Rx hc ts[k] _ cZ;have b2:=Bp ts[k];have w2:ax .i64 (s - bJ ts[k])=s - bJ ts[k]:=wrap64 (by omega) (by omega);rw[Zd8 h];unfold YA;by_cases aW:s<bJ ts[k]
    .   refine⟨_,hg,?_⟩;rw[yO];simp[tabs,h,hs,aW,aE.len]
    .   obtain⟨st',g1,g2⟩:=ih (k+1) (s - bJ ts[k]) _ cZ (by omega) (by omega) (by omega) (by omega);refine⟨st',hg.trans g1,?_⟩;simp only[aW,Zg7];rw[<-g2,yO];simp[tabs,h,hs,w,w2,aW,aE.len]
  .obtain rfl:k=ts.length:=(by omega);refine⟨st,Grew.refl hw,?_⟩;rw[yO];simp[YA]
theorem Ux(hc:Sem c)(z:Bool)(ts:List aE)(cH:∀t∈ts,t.Ok)(s:Int)(hs:s<=4611686018427387904)(st:St)(hw:Wf st):
   c 98 [tabs z ts,.int .i64 s] st=some (F8 (F9 ts s),st):=by
 have lT:∀(K:AV->St->Option (AV×St))(s:St),aq c (.lenB .l) [tabs z ts] s K=K (.int .i64 (ts.length:Int)) s:=λK s=>by unfold tabs;rw[jL];simp
 have hv:=Ul hc z ts cH st hw;by_cases h:s<0\/(bU ts).2≠0
 . have e:F9 ts s=none:=(by rw[F9,Zb6 h]);rw[RI hc 1 (r:=(F8 (F9 ts s),st)),aB (agc _) (aX.refl st)];rw[YE,e];by_cases h1:s<0
   .simp[h1,F8]
   .have h3:(bU ts).2≠0:=h.resolve_left h1;simp[h1,h3,hv,F8]
 . have e:F9 ts s=YA ts s 0:=(by rw[F9,Za7 h]);have h1:¬s<0:=λe=>h (.inl e)
   have h3:(bU ts).2=0:=Zl4 λe=>h (.inr e)
   have hl:=OS h3;have hex:=λk1 k2=>ane hc z ts hl 20 k1 k2 19 0 s st hw (by omega) (by omega) (by omega) hs
   obtain⟨st',hg,L⟩:=hex (λvs s40=>iw vs λx4 vs=>iw vs λx5 vs=>iw vs λx6 vs=>mO vs (some (.tuple [x4,x5,x6],s40)))
     (λvs s41=>mO vs (aq c .move [.int .i64 0] s41 λx4 s42=>aq c .move [.int .i64 0] s42 λx5 s43=>aq c .move [.bool false] s43 λx6 s44=>some (.tuple [x4,x5,x6],s44)))
   rw[RI hc 20 (r:=(F8 (F9 ts s),st')),aB (agc _) hg.keeps];rw[YE,e]
   have L':tr c 20 (λvs s40=>iw vs λx4 vs=>iw vs λx5 vs=>iw vs λx6 vs=>mO vs (some (.tuple [x4,x5,x6],s40)))
     (fun vs s41=>mO vs (aq c .move [.int .i64 0] s41 fun x4 s42=>aq c .move [.int .i64 0] s42 fun x5 s43=>aq c .move [.bool false] s43 fun x6 s44=>some (.tuple [x4,x5,x6],s44))) 20
        [.int .i64 s,tabs z ts,.int .i64 (ts.length:Int),.int .i64 0] st=some (F8 (YA ts s 0),st'):=by
     have:=L;simp only[Ze5]at this;rw[show((0:Nat):Int)=0 from rfl]at this;rw[this];cases YA ts s 0 with
     |none=>simp[F8]
     |some p=>simp[F8]
   simp at L';simp[h1,h3,hv,lT,L']
def qK(ts:List aE)(a b:Int):Option (aE×Int×Int):=match F9 ts a,F9 ts b with
 |some (i,x),some (k,y)=>if i=k then(ts[i]?).map λt=>(t,x,y)else none
 |_,_=>none
def zT:aE:=⟨[],0,0,0,true,[],0,0⟩
def B5:Option (aE×Int×Int)->AV
 |some (t,x,y)=>.tuple [.agg t.cells,.int .i64 x,.int .i64 y,.bool true]
 |none=>.tuple [.agg zT.cells,.int .i64 0,.int .i64 0,.bool false]
theorem aa8(ts:List aE):∀(m k:Nat),ts.length<=k+m->(iO ts m k).2=0->∀(i:Nat)(t:aE),k<=i->ts[i]? =some t->sU t=0
 |0,k,h1,_,i,t,h3,h4=>by rw[Zc3 (by omega)]at h4;cases h4
 |m +   1,k,h1,h2,i,t,h3,h4=>by
  have hk:k<ts.length:=by have:=(Za2.1 h4).1;omega
  rw[iO,H0 hk]at h2;simp only at h2;by_cases h5:sU ts[k]=0
  . rw[Za7 (by simpa using h5)]at h2;split at h2
    .   simp at h2
    .   by_cases h6:i=k
        .subst h6;rw[H0 hk]at h4;cases h4;exact h5
        .exact aa8 ts m (k+1) (by omega) h2 i t (by omega) h4
  .rw[Zb6 h5]at h2;exact absurd h2 h5
theorem agd{ts:List aE}(h:(bU ts).2=0){i:Nat}{t:aE}(ht:ts[i]? =some t):sU t=0:=by
 unfold bU at h;split at h
 .simp at h
 .exact aa8 ts _ 0 (by omega) h i t (by omega) ht
theorem apo{t:aE}(h:sU t=0):bJ t≠0:=by
 unfold sU at h;split at h
 .cases h
 . split at h
   .cases h
   .assumption
theorem MW{ts:List aE}{s:Int}{i:Nat}{x:Int}(h:F9 ts s=some (i,x)):(bU ts).2=0/\0<=x/\∃t,ts[i]? =some t/\x<bJ t/\t.Fit:=by
 unfold F9 at h;split at h
 .cases h
 . (rename_i hn;have h1:¬s<0:=λe=>hn (.inl e));have h3:(bU ts).2=0:=Zl4 λe=>hn (.inr e)
   obtain⟨_,q2,t,q3,q4⟩:=ajp (by omega) h;exact⟨h3,q2,t,q3,q4,adS (apo (agd h3 q3))⟩
theorem adV{ts:List aE}{a b:Int}{t:aE}{x y:Int}(h:qK ts a b=some (t,x,y)):t.Fit/\Sm x/\Sm y:=by
 unfold qK at h;split at h
 . rename_i i x' k y' h1 h2;split at h
   .rename_i hk;subst hk;obtain⟨_,p1,t1,p2,p3,p4⟩:=MW h1;obtain⟨_,q1,t2,q2,q3,_⟩:=MW h2;rw[p2]at q2 h;cases q2;simp only[Ze0,H5,Zd2]at h;obtain⟨rfl,rfl,rfl⟩:=h;have:=Bp t1;exact⟨p4,by omega,by omega⟩
   .cases h
 .cases h
theorem akw(o:Option (aE×Int×Int)):Plain (B5 o):=by
 cases o with
 |none=>exact Plain.tuple λv hv=>by simp at hv;rcases hv with rfl|rfl|rfl|rfl<;>first|exact Plain.agg (by intro v hv;simp only[aE.cells,Za8,Zc0,Ze9]at hv;rcases hv with rfl|rfl|rfl|rfl|rfl|rfl|rfl<;>first|exact Plain.str _|exact Plain.int _ _|exact adC _ _)|exact Plain.int _ _|exact Plain.bool _
 |some p=>exact Plain.tuple λv hv=>by simp at hv;rcases hv with rfl|rfl|rfl|rfl<;>first|exact Plain.agg (by intro v hv;simp only[aE.cells,Za8,Zc0,Ze9]at hv;rcases hv with rfl|rfl|rfl|rfl|rfl|rfl|rfl<;>first|exact Plain.str _|exact Plain.int _ _|exact adC _ _)|exact Plain.int _ _|exact Plain.bool _
def B6:Option (aE×Int×Int)->List AV
 |some (t,_,_)=>t.cells
 |none=>zT.cells
theorem ajq(hc:Sem c)(z:Bool)(ts:List aE)(cH:∀t∈ts,t.Ok)(a b:Int)(ha:a<=4611686018427387904)(hb:b<=4611686018427387904)(st:St)(hw:Wf st):
  c 100 [tabs z ts,.int .i64 a,.int .i64 b] st=some (B5 (qK ts a b),st):=by
 have cZ:Wf (ah st (.cells [.str [],.int .u8 0,.int .i64 0,.int .i64 0,.af,.int .i64 0,.int .i64 0] 0)):=bG hw;have hcut:cut [AV.str [],.int .u8 0,.int .i64 0,.int .i64 0,.af,.int .i64 0,.int .i64 0] 0 7=some [AV.str [],.int .u8 0,.int .i64 0,.int .i64 0,.af,.int .i64 0,.int .i64 0]:=rfl;have Wa:=Ux hc z ts cH a ha _ cZ;have Wb:=Ux hc z ts cH b hb _ cZ;rw[agX hc 1 (r:=(B5 (qK ts a b),ah st (.cells (B6 (qK ts a b)) 0))),aB (akw _) (bY hw)];rw[akx];cases h1:F9 ts a with
 |none=>
  have e:qK ts a b=none:=by unfold qK;rw[h1]
  rw[h1]at Wa;rw[e];cases h2:F9 ts b with
  |none=>rw[h2]at Wb;simp[Wa,Wb,F8,B5,B6,zT,aE.cells,AV.cells,ints,ro,aQ,AV.one,cK,hcut]
  |some q=>rw[h2]at Wb;simp[Wa,Wb,F8,B5,B6,zT,aE.cells,AV.cells,ints,ro,aQ,AV.one,cK,hcut]
 |some p=>
  obtain⟨i,x⟩:=p;rw[h1]at Wa;cases h2:F9 ts b with
  |none=>
   have e:qK ts a b=none:=(by unfold qK;rw[h1,h2]);rw[h2]at Wb;rw[e];simp[Wa,Wb,F8,B5,B6,zT,aE.cells,AV.cells,ints,ro,aQ,AV.one,cK,hcut]
  |some q=>
   obtain⟨k,y⟩:=q;rw[h2]at Wb;obtain⟨_,p1,t1,p2,p3,p4⟩:=MW h1;by_cases hk:i=k
   .    subst hk;have e:qK ts a b=some (t1,x,y):=(by unfold qK;rw[h1,h2];simp[p2]);obtain⟨hi,hg⟩:=Za2.1 p2;rw[e];subst hg;unfold tabs at Wa Wb ⊢;simp[Wa,Wb,F8,B5,B6,hi,aE.len]
   .    have e:qK ts a b=none:=(by unfold qK;rw[h1,h2];simp[hk]);have ri:¬(i:Int)=(k:Int):=(by omega);rw[e];simp[Wa,Wb,F8,ri,B5,B6,zT,aE.cells,AV.cells,ints,ro,aQ,AV.one,cK,hcut]
def YF(ts:List aE)(a b:Int):Bool:=match qK ts a b with|some (t,x,y)=>Qe t x y|none=>false
def YG(ts:List aE)(a b:Int):Bool:=match qK ts a b with|some (t,x,y)=>Uw t x y|none=>false
theorem apq(hc:Sem c)(z:Bool)(ts:List aE)(cH:∀t∈ts,t.Ok)(a b:Int)(ha:a<=4611686018427387904)(hb:b<=4611686018427387904)(st:St)(hw:Wf st):
  c 49 [tabs z ts,.int .i64 a,.int .i64 b] st=some (.bool (YF ts a b),st):=by
 have P:=ajq hc z ts cH a b ha hb st hw;rw[adW hc 1 (r:=(.bool (YF ts a b),ah st (.cells (B6 (qK ts a b)) 0))),aB (Plain.bool _) (bY hw)];rw[agY];unfold YF;cases h:qK ts a b with
 |none=>rw[h]at P;simp[P,B5,B6,aE.len]
 |some p=>
  obtain⟨t,x,y⟩:=p;obtain⟨q1,q2,q3⟩:=adV h;have B:=aga hc t q1 x y q2 q3 (ah st (.cells t.cells 0)) (bG hw);rw[h]at P;simp[P,B5,B6,aE.len,B]
theorem apr(hc:Sem c)(z:Bool)(ts:List aE)(cH:∀t∈ts,t.Ok)(a b:Int)(ha:a<=4611686018427387904)(hb:b<=4611686018427387904)(st:St)(hw:Wf st):
  c 51 [tabs z ts,.int .i64 a,.int .i64 b] st=some (.bool (YG ts a b),st):=by
 have P:=ajq hc z ts cH a b ha hb st hw;rw[adX hc 1 (r:=(.bool (YG ts a b),ah st (.cells (B6 (qK ts a b)) 0))),aB (Plain.bool _) (bY hw)];rw[agZ];unfold YG;cases h:qK ts a b with
 |none=>rw[h]at P;simp[P,B5,B6,aE.len]
 |some p=>
  obtain⟨t,x,y⟩:=p;obtain⟨q1,q2,q3⟩:=adV h;have B:=agb hc t q1 x y q2 q3 (ah st (.cells t.cells 0)) (bG hw);rw[h]at P;simp[P,B5,B6,aE.len,B]
def zM(x:Int):List Int->Nat->Int
 |[],_=> -1
 |y::l,i=>if x=y then(i:Int)else zM x l (i+1)
theorem alz{x:Int}:∀(l:List Int)(i:Nat),(0<=zM x l i)↔x∈l
 |[],i=>by simp[zM]
 |y::l,i=>by
  unfold zM;by_cases h:x=y
  .simp[h]
  .rw[Za7 h,alz l (i+1)];simp[h]
theorem aps(x:Int)(z:Bool)(l:List Int)(hl:l.length<sH)(F:Nat)(st:St)(k1 k2):∀(m k:Nat),l.length<=k+m->k<=l.length->
  kz c F k1 k2 (m+1) [ints z l,.int .i64 x,.int .i64 (l.length:Int),.int .i64 (k:Int)] st=
    if 0<=zM x (l.drop k) k then k1 [.int .i64 (zM x (l.drop k) k)] st else k2 [] st:=by
 intro m;induction m with
 |zero=>
  intro k h1 h2;obtain rfl:k=l.length:=by omega
  rw[yP];simp[zM]
 |succ m ih=>
  intro k h1 h2;rw[yP];by_cases h:k<l.length
  . have w:ax .i64 ((k:Int)+1)=((k+1:Nat):Int):=wrap64 (by omega) (by unfold sH at hl;omega);rw[Zd8 h,zM];by_cases h3:x=l[k]
    .   subst h3;simp[ints,h]
    .   have:=ih (k+1) (by omega) (by omega);simp only[h3,Zg7];rw[<-this];simp[ints,h,h3,w]
  .obtain rfl:k=l.length:=(by omega);simp[zM]
theorem apt(hc:Sem c)(z:Bool)(l:List Int)(hl:l.length<sH)(x:Int)(st:St):c 114 [ints z l,.int .i64 x] st=some (.int .i64 (zM x l 0),st):=by
 have lI:∀(K:AV->St->Option (AV×St))(s:St),aq c (.lenB .l) [ints z l] s K=K (.int .i64 (l.length:Int)) s:=λK s=>by unfold ints;rw[jL];simp
 have L:=λk1 k2=>aps (c:=c) x z l hl (l.length+1) st k1 k2 l.length 0 (by omega) (by omega)
 simp only[Ze5]at L;rw[MX hc (l.length+1) (r:=(.int .i64 (zM x l 0),st)),aB (Plain.int _ _) (aX.refl st)];rw[Qf];simp only[av,lI];rw[show(0:Int)=((0:Nat):Int)from rfl,L];by_cases h:0<=zM x l 0
 .simp[h]
 . have:zM x l 0= -1:=by
    have:∀(l:List Int)(i:Nat),0<=zM x l i\/zM x l i= -1:=by
        intro l;induction l with
        |nil=>intro i;exact .inr rfl
        |cons y l ih=>intro i;unfold zM;split;exact .inl (by omega);exact ih _
    exact(this l 0).resolve_left h
   simp[h,this]
theorem ajr(hc:Sem c)(z:Bool)(l:List Int)(hl:l.length<sH)(x:Int)(st:St):c 58 [ints z l,.int .i64 x] st=some (.bool (decide (x∈l)),st):=by
 rw[Iz hc 1 (r:=(.bool (decide (x∈l)),st)),aB (Plain.bool _) (aX.refl st)];rw[LD];have e:decide (0<=zM x l 0)=decide (x∈l):=by rw[decide_eq_decide];exact alz l 0
 simp[apt hc z l hl x st,e]
def PN(ts:List aE)(a:Int):Bool:=match F9 ts a with|some (i,x)=>decide (x∈(ts[i]?.getD zT).kQ)|none=>false
theorem auC(hc:Sem c)(z:Bool)(ts:List aE)(cH:∀t∈ts,t.Ok)(a:Int)(ha:a<=4611686018427387904)(st:St)(hw:Wf st):
  c 46 [tabs z ts,.int .i64 a] st=some (.bool (PN ts a),st):=by
 have W:=Ux hc z ts cH a ha st hw;rw[ag0 hc 1 (r:=(.bool (PN ts a),st)),aB (Plain.bool _) (aX.refl st)];rw[aky];unfold PN;cases h:F9 ts a with
 |none=>rw[h]at W;simp[W,F8]
 |some p=>
  obtain⟨i,x⟩:=p;obtain⟨_,p1,t1,p2,p3,p4⟩:=MW h;obtain⟨hi,hg⟩:=Za2.1 p2;subst hg;have c4:(ts[i]).cells[4]? =some (ints (ts[i]).oz (ts[i]).kQ):=rfl;have C:=ajr hc (ts[i]).oz (ts[i]).kQ (cH _ (Zb9 hi)).kQ x st;rw[h]at W;unfold tabs at W ⊢;simp[W,F8,hi,c4,C]
abbrev ajs(m:Nat):List AV:=[.int .i64 (m:Int)]
abbrev cI(i:Int):AV:= .int .i64 i
def rH(nr:Nat->Bool)(k:Nat):List Nat->List Int->List Nat->List Int×List Nat
 |[],o,q=>(o,q)
 |m::ms,o,q=>if o.getD m 0<0/\nr m=true then rH nr k ms (o.set m (o.getD k 0+1)) (q++[m])else rH nr k ms o q
def ahh(nr:Nat->Nat->Bool)(n:Nat):Nat->List Int->List Nat->List Int
 |0,o,_=>o
 |_+1,o,[]=>o
 |f+1,o,k::q=>ahh nr n f (rH (nr k) k (List.range n) o q).1 (rH (nr k) k (List.range n) o q).2
structure SI(s0 s:St)(pt po:Pos)(t:aE)(n:Nat)(o:List Int)(qv:AV)(q:List Nat)(B:Int):Prop where
 jE:Wf s0
 ai:Grew s0 s
 tab:s.heap.get pt=some (.cells t.cells 0)
 out:s.heap.get po=some (.cells (o.map cI) 0)
 len:o.length=n
 MY:QS 1 s qv (q.map ajs)
 ne1:aL qv≠some pt
 ne2:aL qv≠some po
 ne3:pt≠po
 asb:s0.next.toNat<=pt.toNat
 anf:s0.next.toNat<=po.toNat
 Ho:∀b,aL qv=some b->s0.next.toNat<=b.toNat
 small:∀v∈o,-1<=v/\v<=B
 qlt:∀m∈q,m<n
theorem LF(o:List Int)(j:Nat)(h:j<o.length)(v:Int):aU (o.map cI) j [cI v]=(o.set j v).map cI:=by unfold aU;rw[Zq3,Zn7,Zb6 (by simpa using h)];simp
theorem auD (hc:Sem c){s0:St}{pt po:Pos}{t:aE}(ht:t.Fit){n:Nat}(hn:n<=1000){k:Nat}(hk:k<n){B:Int}(hB:B<=1000000)(F:Nat)(k6):
  ∀ (r j f:Nat)(s:St)(o:List Int)(qv:AV)(q:List Nat),r<f->j+r=n->SI s0 s pt po t n o qv q (B+1)->o.getD k 0<=B->0<=o.getD k 0->q.length<=4000+j->
    ∃   s' qv',SI s0 s' pt po t n (rH (λm=>AR t k m) k (List.range' j r) o q).1 qv' (rH (λm=>AR t k m) k (List.range' j r) o q).2 (B+1)/\
        tu c F k6 f [.ptr pt 0,.slice po 0 n (some n) 1,qv,.int .i64 (k:Int),.slice po 0 n (some n) 1,.int .i64 (n:Int),.int .i64 (j:Int)] s=k6 [.ptr pt 0,.slice po 0 n (some n) 1,qv'] s':=by
 intro r;induction r with
 |zero=>
  intro j f s o qv q hf h1 hI uC Ey hq;obtain⟨g,rfl⟩:∃g,f=g+1:=⟨f - 1,by omega⟩
  obtain rfl:j=n:=by omega
  refine⟨s,qv,hI,?_⟩;rw[yQ];simp
 |succ r ih=>
  intro j f s o qv q hf h1 hI uC Ey hq;obtain⟨g,rfl⟩:∃g,f=g+1:=⟨f - 1,by omega⟩
  have hj:j<n:=by omega
  have hjo:j<o.length:=by rw[hI.len];exact hj
  have Vj:k<o.length:=by rw[hI.len];exact hk
  have hw:=hI.ai.wf;have w:ax .i64 ((j:Int)+1)=((j+1:Nat):Int):=wrap64 (by omega) (by omega);have N:=auB hc t ht k j ⟨by omega,by omega⟩ ⟨by omega,by omega⟩ s hw;have ix:∀(i:Nat),i<n->∀(K:AV->St->Option (AV×St))(s1:St),aq c (.idxA 1 none) [.slice po 0 n (some n) 1,.int .i64 (i:Int)] s1 K=K (.ptr po i) s1:=λi hi K s1=>by rw[ji c K s1 hi];simp
  have ixj:=ix j hj;have ixk:=ix k hk;have gj:(o.map cI)[j]? =some (.int .i64 o[j]):=by rw[Zb7,H0 hjo];rfl
  have gk:(o.map cI)[k]? =some (.int .i64 o[k]):=by rw[Zb7,H0 Vj];rfl
  have ej:o.getD j 0=o[j]:=by simp[List.getD,H0 hjo]
  have ek:o.getD k 0=o[k]:=by simp[List.getD,H0 Vj]
  have tb:=hI.tab;have ou:=hI.out;rw[Zp0];by_cases hd:o[j]<0
  . cases   hb:AR t k j with
    |   true=>
        have e:rH (λm=>AR t k m) k (j::List.range' (j+1) r) o q=rH (λm=>AR t k m) k (List.range' (j+1) r) (o.set j (o[k]+1)) (q++[j]):=by
         rw[rH,Zb6 ⟨by rw[ej];exact hd,hb⟩,ek]
        have w2:ax .i64 (o[k]+1)=o[k]+1:=wrap64 (by omega) (by omega);have YH:=hw _ _ ou;have iQ:∀(K:AV->St->Option (AV×St)),aq c (.store 1) [.ptr po j,.int .i64 (o[k]+1)] s K=K .undef (bh s po (.cells ((o.set j (o[k]+1)).map cI) 0)):=λK=>by rw[cm c K s 1 po j (.int .i64 (o[k]+1)) (o.map cI) ou rfl (by simp;omega) rfl, <-LF o j hjo];rfl
        have cZ:Wf (bh s po (.cells ((o.set j (o[k]+1)).map cI) 0)):=iU hw YH;have q1:QS 1 (bh s po (.cells ((o.set j (o[k]+1)).map cI) 0)) qv (q.map ajs):=hI.MY.mono λb x hb hx=>by rw[aJ (λe=>hI.ne2 (by rw[hb,e]))];exact hx
        obtain⟨s5,v5,a1,a2,a3,a4,a5,a6⟩:=q1.push (c:=c) (R:=AV×St) (bytes:=8) cZ (λr hr=>by simp only[Zc7]at hr;obtain⟨m,_,rfl⟩:=hr;rfl) (z:=[.int .i64 0]) (x:= .int .i64 (j:Int)) rfl rfl rfl (by decide) (by simp;omega) (by simp;omega);have t5:s5.heap.get pt=some (.cells t.cells 0):=a5 pt _ hI.ne1 (by rw[aJ (λe=>hI.ne3 e.symm)];exact tb);have o5:s5.heap.get po=some (.cells ((o.set j (o[k]+1)).map cI) 0):=a5 po _ hI.ne2 (bH _ _ _);have g5:Grew s0 s5:=⟨a3,λp b hg=>by
         have h0:=hI.jE _ _ hg;refine a5 p b (λe=> ?_) ?_
         .  have:=hI.Ho p e;omega
         .  rw[aJ (λe=>by have:=hI.anf;rw[e]at this;omega)];exact hI.ai.get hg,Zb2 hI.ai.next (by rw[dM]at a4;exact a4)⟩
        have I5:SI s0 s5 pt po t n (o.set j (o[k]+1)) v5 (q++[j]) (B+1):=by
         refine⟨hI.jE,g5,t5,o5,by simp[hI.len],by rw[Zc8];exact a2,λe=> ?_,λe=> ?_,hI.ne3,hI.asb,hI.anf,λb e=> ?_,λv hv=> ?_,λm hm=> ?_⟩
         .  have:=a6 _ e;rw[dM]at this;have:=hw _ _ tb;omega
         .  have:=a6 _ e;rw[dM]at this;omega
         .  have:=a6 _ e;rw[dM]at this;have:=hI.ai.next;omega
         .  rcases Zh2 hv with h|h
            .exact hI.small v h
            .subst h;omega
         .  rcases Zd7.1 hm with h|h
            .exact hI.qlt m h
            .simp at h;omega
        have hkj:j≠k:=λe=>by subst e;omega
        have ek5:(o.set j (o[k]+1)).getD k 0=o[k]:=(by simp[List.getD,Ze6 hkj,H0 Vj]);obtain⟨s',qv',b1,b2⟩:=ih (j+1) g s5 _ v5 (q++[j]) (by omega) (by omega) I5 (by rw[ek5];omega) (by rw[ek5];omega) (by simp;omega);rw[e];refine⟨s',qv',b1,?_⟩;rw[<-b2,yQ];rw[hb]at N;simp[-au,-List.map_set,jK,hj,ixj,ixk,tb,ou,gj,gk,hd,N,aE.len,w2,iQ,a1,w]
    |   false=>
        have e:rH (λm=>AR t k m) k (j::List.range' (j+1) r) o q=rH (λm=>AR t k m) k (List.range' (j+1) r) o q:=by
         rw[rH,Za7 (by rw[hb];simp)]
        obtain⟨s',qv',b1,b2⟩:=ih (j+1) g s _ qv q (by omega) (by omega) hI uC Ey (by omega);rw[e];refine⟨s',qv',b1,?_⟩;rw[<-b2,yQ];rw[hb]at N;simp[jK,hj,ixj,tb,ou,gj,hd,N,aE.len,w]
  . have e:rH (λm=>AR t k m) k (j::List.range' (j+1) r) o q=rH (λm=>AR t k m) k (List.range' (j+1) r) o q:=by
        rw[rH,Za7 (by rw[ej];simp[hd])]
    obtain⟨s',qv',b1,b2⟩:=ih (j+1) g s _ qv q (by omega) (by omega) hI uC Ey (by omega);rw[e];refine⟨s',qv',b1,?_⟩;rw[<-b2,yQ];simp[jK,hj,ixj,tb,ou,gj,hd,w]
def neg(o:List Int):Nat:=o.countP λv=>decide (v<0)
theorem auE{o:List Int}{m:Nat}{v:Int}(h:m<o.length)(h1:o[m]<0)(h2:0<=v):neg (o.set m v)+1=neg o:=by
 unfold neg;rw[List.countP_set h];have a:(decide (o[m]<0))=true:=by simpa using h1
 have b:(decide (v<0))=false:=by simp;omega
 simp only[a,b,Zh1,Zf0,Zg7];have:0<o.countP λv=>decide (v<0):=List.countP_pos_iff.2 ⟨o[m],Zb9 h,a⟩
 omega
theorem Uy(nr:Nat->Bool)(k:Nat):∀(ms:List Nat)(o:List Int)(q:List Nat),(∀m∈ms,m<o.length)->0<=o.getD k 0->(∀m∈q,0<=o.getD m 0)->
  2*neg (rH nr k ms o q).1+(rH nr k ms o q).2.length<=2*neg o+q.length/\(rH nr k ms o q).1.length=o.length/\(∀m∈(rH nr k ms o q).2,0<=(rH nr k ms o q).1.getD m 0)/\(∀m,0<=o.getD m 0->(rH nr k ms o q).1.getD m 0=o.getD m 0)
 |[],o,q,_,_,h=>⟨Za3 _,rfl,h,λ_ _=>rfl⟩
 |m ::ms,o,q,hm,hk,h=>by
  have hmo:=hm m (by simp);by_cases hc:o.getD m 0<0/\nr m=true
  . (rw[rH,Zb6 hc];have em:o.getD m 0=o[m]:=(by simp[List.getD,H0 hmo]);have cY:∀i,0<=o.getD i 0->m≠i:=λi hi e=>by subst e;omega);have get:∀i,m≠i->(o.set m (o.getD k 0+1)).getD i 0=o.getD i 0:=λi hi=>by simp[List.getD,Ze6 hi]
    have gm:(o.set m (o.getD k 0+1)).getD m 0=o.getD k 0+1:=(by simp[List.getD,hmo]);obtain⟨a1,a2,a3,a4⟩:=Uy nr k ms (o.set m (o.getD k 0+1)) (q++[m]) (λi hi=>by simpa using hm i (Zb0 _ hi)) (by rw[get k (cY k hk)];exact hk) (λi hi=>by
        rcases Zd7.1 hi with hi|hi
        .rw[get i (cY i (h i hi))];exact h i hi
        .simp at hi;subst hi;rw[gm];omega)
    have hs:=auE hmo (by rw[<-em];exact hc.1) (show 0<=o.getD k 0+1 by omega);refine⟨by simp only[Zd6,Zc6,Zi2]at a1;omega,by simpa using a2,a3,λi hi=> ?_⟩;rw[a4 i (by rw[get i (cY i hi)];exact hi),get i (cY i hi)]
  .rw[rH,Za7 hc];exact Uy nr k ms o q (λi hi=>hm i (Zb0 _ hi)) hk h
theorem SI.le{s0 s:St}{pt po:Pos}{t:aE}{n:Nat}{o:List Int}{qv:AV}{q:List Nat}{B B':Int}(h:SI s0 s pt po t n o qv q B)(hB:B<=B'):SI s0 s pt po t n o qv q B':=
 ⟨h.jE,h.ai,h.tab,h.out,h.len,h.MY,h.ne1,h.ne2,h.ne3,h.asb,h.anf,h.Ho,λv hv=>⟨(h.small v hv).1,by have:=(h.small v hv).2;omega⟩,h.qlt⟩
theorem asc(hc:Sem c){s0:St}{pt po:Pos}{t:aE}(ht:t.Fit){n:Nat}(hn:n<=1000)(F:Nat)(hF:n<F)(k4):
  ∀(f:Nat)(g:Nat)(s:St)(o:List Int)(qv:AV)(q:List Nat)(B:Int),f<g->SI s0 s pt po t n o qv q B->2*neg o+q.length<=f->B+f<=1000000->0<=B->f<=3000->(∀m∈q,0<=o.getD m 0)->
   ∃    s',Grew s0 s'/\s'.heap.get po=some (.cells ((ahh (λk m=>AR t k m) n f o q).map cI) 0)/\(ahh (λk m=>AR t k m) n f o q).length=n/\
        qc c F k4 g [.ptr pt 0,.slice po 0 n (some n) 1,qv] s=k4 [.slice po 0 n (some n) 1] s':=by
 intro f;induction f with
 |zero=>
  intro g s o qv q B hg hI h1 h2 h3 h4 h5;obtain⟨g,rfl⟩:∃g',g=g'+1:=⟨g - 1,by omega⟩
  have hq:q=[]:=Zc2 (by omega);subst hq;refine⟨s,hI.ai,hI.out,hI.len,?_⟩;have hl:∀(K:AV->St->Option (AV×St))(s1:St),aq c (.lenB .l) [qv] s1 K=K (.int .i64 0) s1:=λK s1=>by rw[hI.MY.lenB];simp
  rw[Ez];simp[hl]
 |succ f ih=>
  intro g s o qv q B hg hI h1 h2 h3 h4 h5;obtain⟨g,rfl⟩:∃g',g=g'+1:=⟨g - 1,by omega⟩
  have hl:∀(K:AV->St->Option (AV×St))(s1:St),aq c (.lenB .l) [qv] s1 K=K (.int .i64 (q.length:Int)) s1:=λK s1=>by rw[hI.MY.lenB];simp
  cases q with
  |nil=>
   refine⟨s,hI.ai,hI.out,hI.len,?_⟩;rw[Ez];simp[hl]
  |cons k q=>
   have hr:∀r∈(k::q).map ajs,r.length=1:=λr hr=>by simp only[Zc7]at hr;obtain⟨m,_,rfl⟩:=hr;rfl
   obtain⟨b,ob,cs,a1,a2,a3,a4⟩:=hI.MY.at (c:=c) (R:=AV×St) hr (by decide) (i:=0) (by simp);obtain⟨v',t1,t2,t3⟩:=QS.tail (R:=AV×St) (c:=c) (r:=ajs k) (rows:=q.map ajs) hI.MY rfl;have hk:k<n:=hI.qlt k (by simp);have Vj:k<o.length:=(by rw[hI.len];exact hk);have gk:cs[ob]? =some (.int .i64 (k:Int)):=(by simpa using a4 0 (.int .i64 (k:Int)) rfl);have i0:∀(K:AV->St->Option (AV×St))(s1:St),aq c (.idxA 1 none) [qv,.int .i64 0] s1 K=K (.ptr b ob) s1:=λK s1=>a1 K .i64 s1
   have lo:∀(K:AV->St->Option (AV×St))(s1:St),aq c (.lenB .l) [.slice po 0 n (some n) 1] s1 K=K (.int .i64 (n:Int)) s1:=λK s1=>lR c K s1 _ _ _ _ _
   have ek:o.getD k 0=o[k]:=(by simp[List.getD,H0 Vj]);have sm:=hI.small o[k] (Zb9 Vj);have tJ:=h5 k (by simp);have I1:SI s0 s pt po t n o v' q (B+1):=by
        have I2:=hI.le (B':=B+1) (by omega);exact⟨I2.jE,I2.ai,I2.tab,I2.out,I2.len,t2,λe=>I2.ne1 (t3 _ e),λe=>I2.ne2 (t3 _ e),I2.ne3,I2.asb,I2.anf,λb hb=>I2.Ho b (t3 b hb),I2.small,λm hm=>I2.qlt m (Zb0 _ hm)⟩
   obtain⟨s1,v1,b1,b2⟩:=auD hc ht hn hk (B:=B) (by omega) F (λvs s71=>iw vs λx2 vs=>iw vs λx5 vs=>iw vs λx7 vs=>mO vs (qc c F k4 g [x2,x5,x7] s71)) n 0 F s o v' q hF (by omega) I1 (by rw[ek];omega) tJ (by simp only[Zc6]at h1;omega);rw[<-Zl6]at b1;obtain⟨p1,p2,p3,p4⟩:=Uy (λm=>AR t k m) k (List.range n) o q (λm hm=>by rw[hI.len];exact Zg5.1 hm) tJ (λm hm=>h5 m (Zb0 _ hm));obtain⟨s',c1,c2,c3,c4⟩:=ih g s1 _ v1 _ (B+1) (by omega) b1 (by simp only[Zc6]at h1;omega) (by omega) (by omega) (by omega) p3;refine⟨s',c1,c2,c3,?_⟩;rw[<-c4,Ez];simp at b2;have Xf:0<(q.length:Int)+1:=(by omega);simp[hl,i0,a3,gk,t1,lo,b2,Xf]
def Ck(n k:Nat):List Int:=List.replicate k (-1)++List.replicate (n - k) 0
theorem auF{n k:Nat}(h:k<n):(Ck n k).set k (-1)=Ck n (k+1):=by unfold Ck;rw[Zk2 _ _ (by simp)];simp only[Zo7,Zl1];rw[show n - k=(n - (k+1))+1 by omega,Zn0,Zr0,List.replicate_succ',Zf5];rfl
theorem auG{n k:Nat}(h:k<=n):(Ck n k).length=n:=by unfold Ck;simp;omega
theorem apu{s0:St}{pt po:Pos}{t:aE}{n:Nat}(hn:n<=1000)(cY:pt≠po)(YH:s0.next.toNat<=po.toNat)(Ir:Wf s0)(x1:AV)(F:Nat)(k2):∀(m k f:Nat)(s:St),m<f->k+m=n->Grew s0 s->s.heap.get pt=some (.cells t.cells 0)->s.heap.get po=some (.cells ((Ck n k).map cI) 0)->
  ∃s',Grew s0 s'/\s'.heap.get pt=some (.cells t.cells 0)/\s'.heap.get po=some (.cells ((Ck n n).map cI) 0)/\
   tC c F k2 f [x1,.ptr pt 0,.slice po 0 n (some n) 1,.int .i64 (n:Int),.int .i64 (k:Int)] s=k2 [x1,.ptr pt 0,.slice po 0 n (some n) 1] s':=by
 intro m;induction m with
 |zero=>
  intro k f s hf h1 hg ht ho;obtain⟨f,rfl⟩:∃g,f=g+1:=⟨f - 1,by omega⟩
  obtain rfl:k=n:=by omega
  refine⟨s,hg,ht,ho,?_⟩;rw[OU];simp
 |succ m ih=>
  intro k f s hf h1 hg ht ho;obtain⟨f,rfl⟩:∃g,f=g+1:=⟨f - 1,by omega⟩
  have hk:k<n:=by omega
  have w:ax .i64 ((k:Int)+1)=((k+1:Nat):Int):=wrap64 (by omega) (by omega);have ix:∀(K:AV->St->Option (AV×St))(s1:St),aq c (.idxA 1 none) [.slice po 0 n (some n) 1,.int .i64 (k:Int)] s1 K=K (.ptr po k) s1:=λK s1=>by rw[ji c K s1 hk];simp
  have hl:(Ck n k).length=n:=auG (by omega);have aW:=hg.wf _ _ ho;have iQ:∀(K:AV->St->Option (AV×St)),aq c (.store 1) [.ptr po k,.int .i64 (-1)] s K=K .undef (bh s po (.cells ((Ck n (k+1)).map cI) 0)):=λK=>by rw[cm c K s 1 po k (.int .i64 (-1)) ((Ck n k).map cI) ho rfl (by simp[hl];omega) rfl, <-auF hk, <-LF _ _ (by omega)];rfl
  have g1:Grew s0 (bh s po (.cells ((Ck n (k+1)).map cI) 0)):=⟨iU hg.wf aW,λp b hp=>by have:=Ir _ _ hp;rw[aJ (λe=>by rw[e]at YH;omega)];exact hg.get hp,by rw[dM];exact hg.next⟩
  obtain⟨s',a1,a2,a3,a4⟩:=ih (k+1) f _ (by omega) (by omega) g1 (by rw[aJ (λe=>cY e.symm)];exact ht) (bH _ _ _);refine⟨s',a1,a2,a3,?_⟩;rw[<-a4,OU];simp[-List.map_set,hk,ix,iQ,w]
def RJ(t:aE)(fr:Nat):List Int:=ahh (λk m=>AR t k m) (bJ t).toNat (2*(bJ t).toNat+1) ((List.replicate (bJ t).toNat (-1)).set fr 0) [fr]
theorem MZ{b:Pos}{off n es:Nat}(hn:n≠0)(h:Plain (.slice b off n (some n) es)):False:=by
 have h1:aC (λ_=>⟨0,0,off+n*es⟩) (b.toNat+1) (λ_=>none) (.slice b off n (some n) es) (.slice (some ⟨0,0+off,none⟩) n n):=
  .slice b off n (some n) es n _ (Za3 _) (λc hc=>by cases hc;rfl) (λ_=>⟨by omega,rfl,by simp⟩) (λh=>by cases h)
 have h2:=h _ (λ_=>⟨0,0,0⟩) _ 0 _ _ h1;cases h2 with
 |slice _ _ _ _ _ _ _ _ _ ha _=>exact absurd (ha hn).1 (by omega)
theorem ajt{s s':St}{v:AV}(h:¬Plain v):tidy s (v,s')=(v,s'):=by
 unfold tidy;rw[Za7 (λe=>h e.1)]
theorem ase(hc:Sem c)(t:aE)(hz:bJ t≠0)(fr:Nat)(hf:(fr:Int)<bJ t)(s:St)(hw:Wf s):
  ∃b s',c 153 [.agg t.cells,.int .i64 (fr:Int)] s=some (.slice b 0 (bJ t).toNat (some (bJ t).toNat) 1,s')/\Grew s s'/\s'.heap.get b=some (.cells ((RJ t fr).map cI) 0)/\s.next.toNat<=b.toNat/\(RJ t fr).length=(bJ t).toNat:=by
 have ht:=adS hz;have hb:=Bp t;obtain⟨n,hn⟩:∃n:Nat,bJ t=(n:Int):=⟨(bJ t).toNat,by omega⟩
 have hn1:(bJ t).toNat=n:=by omega
 have QY:n≠0:=by omega
 have Ik:n<=1000:=by omega
 have HW:fr<n:=by omega
 unfold RJ;rw[hn1];have cZ:Wf (ah s (.cells t.cells 0)):=bG hw;have g1:=Grew.ah hw (.cells t.cells 0);have sz:=Rx hc t (ah s (.cells t.cells 0)) cZ;rw[hn]at sz;have mk:=λ(K:AV->St->Option (AV×St))=>aeB c K (ah s (.cells t.cells 0)) (es:=1) (bytes:=8) (z:=[.int .i64 0]) (k:= .i64) (k':= .i64) (n:=n) (by omega) (by omega)
 rw[D7]at mk;have tH:Wf (ah (ah s (.cells t.cells 0)) (.cells (List.replicate n (.int .i64 0)) 0)):=bG cZ;have g2:=g1.trans (Grew.ah cZ (.cells (List.replicate n (.int .i64 0)) 0));generalize uD:ah (ah s (.cells t.cells 0)) (.cells (List.replicate n (.int .i64 0)) 0)=s2 at mk tH g2;have pt2:s2.heap.get s.next=some (.cells t.cells 0):=by rw[<-uD];exact(Grew.ah cZ _).get (aA _ _)
 have po2:s2.heap.get (ah s (.cells t.cells 0)).next=some (.cells ((Ck n 0).map cI) 0):=by rw[<-uD,aA];simp[Ck]
 have hpp:s.next≠(ah s (.cells t.cells 0)).next:=by rw[bP];exact Pos.ZO _
 have YH:s.next.toNat<=(ah s (.cells t.cells 0)).next.toNat:=by rw[bP,Pos.aF];omega
 generalize (ah s (.cells t.cells 0)).next=po at mk po2 hpp YH
 let k2:List AV->St->Option (AV×St):=λvs s18=>iw vs λx1 vs=>iw vs λx2 vs=>iw vs λx5 vs=>mO vs (
  aq c .move [x5] s18 λx23 s19=>
  aq c .move [x1] s19 λx24 s20=>
  aq c (.idxA 1 none) [x23,x24] s20 λx25 s21=>
  aq c (.store 1) [x25,(.int .i64 0)] s21 λ_ s22=>
  aq c .move [x1] s22 λx26 s23=>
  aq c (.buildSlice 1 1 [(.int .i64 0)] [0]) [x26] s23 λx27 s24=>
  aq c .move [x27] s24 λx7 s25=>
  qc c 4000 (λvs s72=>iw vs λx5 vs=>mO vs (
     aq c .move [x5] s72 λx64 s73=>
     aq c .move [x64] s73 λx4 s74=>
     some (x4,s74))) 4000 [x2,x5,x7] s25)
 obtain⟨s3,a1,a2,a3,a4⟩:=apu (c:=c) (s0:=s) (t:=t) Ik hpp YH hw (.int .i64 (fr:Int)) 4000 k2 n 0 4000 s2 (by omega) (by omega) g2 pt2 po2;have em:Ck n n=List.replicate n (-1):=by simp[Ck]
 rw[em]at a3;have hl:(List.replicate n (-1:Int)).length=n:=by simp
 have aW:=a1.wf _ _ a3;have ix:∀(K:AV->St->Option (AV×St))(s1:St),aq c (.idxA 1 none) [.slice po 0 n (some n) 1,.int .i64 (fr:Int)] s1 K=K (.ptr po fr) s1:=λK s1=>by rw[ji c K s1 HW];simp
 have iQ:∀(K:AV->St->Option (AV×St)),aq c (.store 1) [.ptr po fr,.int .i64 0] s3 K=K .undef (bh s3 po (.cells (((List.replicate n (-1:Int)).set fr 0).map cI) 0)):=λK=>by rw[cm c K s3 1 po fr (.int .i64 0) _ a3 rfl (by simp;omega) rfl, <-LF _ _ (by omega)];rfl
 have g4:Grew s (bh s3 po (.cells (((List.replicate n (-1:Int)).set fr 0).map cI) 0)):=⟨iU a1.wf aW,λp b hp=>by have:=hw _ _ hp;rw[aJ (λe=>by rw[e]at YH;omega)];exact a1.get hp,by rw[dM];exact a1.next⟩
 have pt4:(bh s3 po (.cells (((List.replicate n (-1:Int)).set fr 0).map cI) 0)).heap.get s.next=some (.cells t.cells 0):=by rw[aJ (λe=>hpp e.symm)];exact a2
 have po4:(bh s3 po (.cells (((List.replicate n (-1:Int)).set fr 0).map cI) 0)).heap.get po=some (.cells (((List.replicate n (-1:Int)).set fr 0).map cI) 0):=bH _ _ _;generalize hs4:bh s3 po (.cells (((List.replicate n (-1:Int)).set fr 0).map cI) 0)=s4 at iQ g4 pt4 po4;have row:=λ(K:AV->St->Option (AV×St))=>LU (c:=c) (es:=1) (z:=[.int .i64 0]) (x:= .int .i64 (fr:Int)) rfl rfl s4 K
 have g5:=g4.trans (Grew.ah g4.wf (.cells (AV.cells (.int .i64 (fr:Int))) 0));have atg:=Grew.ah g4.wf (.cells (AV.cells (.int .i64 (fr:Int))) 0);have n4:s.next.toNat<s4.next.toNat:=g4.wf _ _ pt4;have n4o:po.toNat<s4.next.toNat:=g4.wf _ _ po4;have I:SI s (ah s4 (.cells (AV.cells (.int .i64 (fr:Int))) 0)) s.next po t n ((List.replicate n (-1:Int)).set fr 0) (.slice s4.next 0 1 (some 1) 1) [fr] 0:=by
  refine⟨hw,g5,atg.get pt4,atg.get po4,by simp,.inr (.inl ⟨s4.next,0,some 1,[.int .i64 (fr:Int)],rfl,aA _ _,by simp,by simp,.inr rfl⟩),λe=> ?_,λe=> ?_,hpp,Za3 _,YH,λb e=> ?_,λv hv=> ?_,λm hm=> ?_⟩
  .  have:=congrArg Pos.toNat (tO e);omega
  .  have:=congrArg Pos.toNat (tO e);omega
  .  have:=congrArg Pos.toNat (tO e);omega
  .  rcases Zh2 hv with h|h
     .rw[(List.mem_replicate.1 h).2];omega
     .subst h;omega
  .  simp at hm;omega
 have amZ:neg ((List.replicate n (-1:Int)).set fr 0)<=n:=by unfold neg;refine Zb2 List.countP_le_length ?_;simp
 obtain⟨s6,b1,b2,b3,b4⟩:=asc hc ht Ik 4000 (by omega) (λvs s72=>iw vs λx5 vs=>mO vs (aq c .move [x5] s72 λx64 s73=>aq c .move [x64] s73 λx4 s74=>some (x4,s74))) (2*n+1) 4000 _ _ _ [fr] 0 (by omega) I (by simp;omega) (by omega) (by omega) (by omega) (λm hm=>by
  simp at hm;subst hm;simp[List.getD,HW])
 refine⟨po,s6,?_,b1,b2,YH,b3⟩;have np:¬Plain (.slice po 0 n (some n) 1):=MZ QY;rw[aff hc 4000 (r:=(.slice po 0 n (some n) 1,s6)),ajt np];rw[aju];have L:tC c 4000 k2 4000 [.int .i64 (fr:Int),.ptr s.next 0,.slice po 0 n (some n) 1,.int .i64 (n:Int),.int .i64 0] s2=some (.slice po 0 n (some n) 1,s6):=by
  rw[show(0:Int)=((0:Nat):Int)from rfl,a4];simp only[k2];simp at b4;simp[-au,ix,iQ,row,b4]
 simp only[k2]at L;simp[-au,aE.len,sz,mk,lR];simp[-au]at L;exact L
def M8(t:aE):Int:=if t.sh=1 then 0 else if t.sh=2 then(if 0<t.b then t.a else t.a.tdiv 2)else if t.sh=3 then t.b+t.a.tdiv 2 else t.a.tdiv 2
theorem auH{t:aE}(h:bJ t≠0):0<=M8 t/\M8 t<bJ t:=by
 have f:=adS h;unfold M8;rw[Zi7 f.a.1]
 revert h
 unfold bJ;intro h;split
 . rename_i h1;rw[Zb6 h1]at h;split at h
   .rename_i h2;rw[Zb6 h2];omega
   .exact absurd rfl h
 rename_i h1;rw[Za7 h1]at h;split
 . rename_i h2;rw[Zb6 h2]at h;split at h
   .rename_i h3;rw[Zb6 h3];split<;>omega
   .exact absurd rfl h
 rename_i h2;rw[Za7 h2]at h;split
 . rename_i h3;rw[Zb6 h3]at h;split at h
   .rename_i h4;rw[Zb6 h4];omega
   .exact absurd rfl h
 rename_i h3;rw[Za7 h3]at h;split at h
 . rename_i h4;rw[Zb6 h4];split at h
   .rename_i h5;rw[Zb6 h5];omega
   .exact absurd rfl h
 .exact absurd rfl h
theorem auI(hc:Sem c)(a b:Int)(st:St):c 185 [.int .i64 a,.int .i64 b] st=some (.int .i64 0,st):=by rw[WG hc 1 (r:=(.int .i64 0,st)),aB (Plain.int _ _) (aX.refl st)];rw[aaK];simp
theorem auJ(hc:Sem c)(a b:Int)(ha:Sm a)(st:St):c 190 [.int .i64 a,.int .i64 b] st=some (.int .i64 (if 0<b then a else a.tdiv 2),st):=by
 have hq:0<=a.tdiv 2/\a.tdiv 2<=1000000:=by rw[Zi7 ha.1];omega
 have w2:ax .i64 (a.tdiv 2)=a.tdiv 2:=wrap64 (by omega) (by omega);rw[WH hc 1 (r:=(.int .i64 (if 0<b then a else a.tdiv 2),st)),aB (Plain.int _ _) (aX.refl st)];rw[aaL];by_cases h:0<b<;>simp[h,w2]
theorem auK(hc:Sem c)(a b:Int)(ha:Sm a)(hb:Sm b)(st:St):c 195 [.int .i64 a,.int .i64 b] st=some (.int .i64 (b+a.tdiv 2),st):=by
 have hq:0<=a.tdiv 2/\a.tdiv 2<=1000000:=by rw[Zi7 ha.1];omega
 have w2:ax .i64 (a.tdiv 2)=a.tdiv 2:=wrap64 (by omega) (by omega);have w3:ax .i64 (b+a.tdiv 2)=b+a.tdiv 2:=wrap64 (by omega) (by omega);rw[WJ hc 1 (r:=(.int .i64 (b+a.tdiv 2),st)),aB (Plain.int _ _) (aX.refl st)];rw[aaM];simp[w2,w3]
theorem auL(hc:Sem c)(a b:Int)(ha:Sm a)(st:St):c 200 [.int .i64 a,.int .i64 b] st=some (.int .i64 (a.tdiv 2),st):=by
 have hq:0<=a.tdiv 2/\a.tdiv 2<=1000000:=by rw[Zi7 ha.1];omega
 have w2:ax .i64 (a.tdiv 2)=a.tdiv 2:=wrap64 (by omega) (by omega);rw[WM hc 1 (r:=(.int .i64 (a.tdiv 2),st)),aB (Plain.int _ _) (aX.refl st)];rw[aaN];simp[w2]
def RN(n:Nat)(d:Int):Int:=if d<0 then(n:Int)else d
def M9(t:aE):List Int:=(RJ t (M8 t).toNat).map (RN (bJ t).toNat)
theorem asf{s0:St}{po:Pos}{n:Nat}(hn:n<=1000)(YH:s0.next.toNat<=po.toNat)(Ir:Wf s0)(o:List Int)(ho0:o.length=n)(F:Nat)(k2):∀(m k f:Nat)(s:St),m<f->k+m=n->Grew s0 s->s.heap.get po=some (.cells (((o.take k).map (RN n)++o.drop k).map cI) 0)->
  ∃ s',Grew s0 s'/\s'.heap.get po=some (.cells ((o.map (RN n)).map cI) 0)/\
    vr c F k2 f [.slice po 0 n (some n) 1,.slice po 0 n (some n) 1,.int .i64 (n:Int),.int .i64 (k:Int)] s=k2 [.slice po 0 n (some n) 1] s':=by
 intro m;induction m with
 |zero=>
  intro k f s hf h1 hg ho;obtain⟨f,rfl⟩:∃g,f=g+1:=⟨f - 1,by omega⟩
  obtain rfl:k=n:=by omega
  refine⟨s,hg,?_,?_⟩
  .rw[ho,Zf1 (by omega),Zo2 (by omega),Zd9]
  .rw[Cl];simp
 |succ m ih=>
  intro k f s hf h1 hg ho;obtain⟨f,rfl⟩:∃g,f=g+1:=⟨f - 1,by omega⟩
  have hk:k<n:=by omega
  have Vj:k<o.length:=by omega
  have w:ax .i64 ((k:Int)+1)=((k+1:Nat):Int):=wrap64 (by omega) (by omega);have ix:∀(K:AV->St->Option (AV×St))(s1:St),aq c (.idxA 1 none) [.slice po 0 n (some n) 1,.int .i64 (k:Int)] s1 K=K (.ptr po k) s1:=λK s1=>by rw[ji c K s1 hk];simp
  have lo:∀(K:AV->St->Option (AV×St))(s1:St),aq c (.lenB .l) [.slice po 0 n (some n) 1] s1 K=K (.int .i64 (n:Int)) s1:=λK s1=>lR c K s1 _ _ _ _ _
  generalize hL:(o.take k).map (RN n)++o.drop k=L at ho;have hLl:L.length=n:=by rw[<-hL];simp;omega
  have hLk:L[k]? =some o[k]:=by
    rw[<-hL,Zc4 (by simp;omega)];simp only[Za4,Zg3,Zk8 (Zn8 Vj),Zl1];rw[Ze7,Zf7,H0 Vj]
  have gk:(L.map cI)[k]? =some (.int .i64 o[k]):=by rw[Zb7,hLk];rfl
  have eL:L.set k (RN n o[k])=(o.take (k+1)).map (RN n)++o.drop (k+1):=by rw[<-hL,Zk2 _ _ (by simp;omega)];simp only[Za4,Zg3,Zk8 (Zn8 Vj),Zl1];rw[Zd8 Vj,Zr0,Zc9 Vj,Zc8,Zf5];rfl
  have aW:=hg.wf _ _ ho;by_cases hd:o[k]<0
  . have el:RN n o[k]=(n:Int):=(by unfold RN;rw[Zb6 hd]);rw[el]at eL;have iQ:∀(K:AV->St->Option (AV×St)),aq c (.store 1) [.ptr po k,.int .i64 (n:Int)] s K=K .undef (bh s po (.cells (((o.take (k+1)).map (RN n)++o.drop (k+1)).map cI) 0)):=λK=>by rw[cm c K s 1 po k (.int .i64 (n:Int)) _ ho rfl (by simp[hLl];omega) rfl, <-eL, <-LF _ _ (by omega)];rfl
    have g1:Grew s0 (bh s po (.cells (((o.take (k+1)).map (RN n)++o.drop (k+1)).map cI) 0)):=⟨iU hg.wf aW,λp b hp=>by have:=Ir _ _ hp;rw[aJ (λe=>by rw[e]at YH;omega)];exact hg.get hp,by rw[dM];exact hg.next⟩
    obtain⟨s',a1,a2,a3⟩:=ih (k+1) f _ (by omega) (by omega) g1 (bH _ _ _);refine⟨s',a1,a2,?_⟩;rw[<-a3,Cl];simp[-List.map_append,-List.map_take,-List.map_drop,-List.map_map,jK,hk,ix,lo,ho,gk,hd,iQ,w]
  . have el:RN n o[k]=o[k]:=(by unfold RN;rw[Za7 hd]);rw[el]at eL;have e2:L.set k o[k]=L:=by
        (refine Zi6 λi=> ?_);rw[List.getElem?_set];split
        .rename_i e;subst e;rw[Zb6 (by omega),hLk]
        .rfl
    rw[e2]at eL;obtain⟨s',a1,a2,a3⟩:=ih (k+1) f s (by omega) (by omega) hg (by rw[<-eL];exact ho);refine⟨s',a1,a2,?_⟩;rw[<-a3,Cl];simp[jK,hk,ix,ho,gk,hd,w]
theorem acu(sh:Int):(iD sh).length=6:=by
 unfold iD
 repeat' split
 all_goals rfl
theorem asg(sh:Int):aQ (iD sh)=true:=by
 unfold iD
 repeat' split
 all_goals rfl
theorem avL(hc:Sem c)(t:aE)(ht:t.Fit):∃f:FuncId,(iD t.sh)[4]? =some (.func f [] [])/\∀st,c f [.int .i64 t.a,.int .i64 t.b] st=some (.int .i64 (M8 t),st):=by
 have hS:t.sh=1\/t.sh=2\/t.sh=3\/t.sh=4:=by have:=ht.sh;omega
 have ha:Sm t.a:=by have:=ht.a;omega
 have hb:Sm t.b:=by have:=ht.b;omega
 rcases hS with h|h|h|h
 .exact⟨185,by rw[h];rfl,λst=>by rw[auI hc];simp[M8,h]⟩
 .exact⟨190,by rw[h];rfl,λst=>by rw[auJ hc _ _ ha];simp[M8,h]⟩
 .exact⟨195,by rw[h];rfl,λst=>by rw[auK hc _ _ ha hb];simp[M8,h]⟩
 .exact⟨200,by rw[h];rfl,λst=>by rw[auL hc _ _ ha];simp[M8,h]⟩
theorem apv(hc:Sem c)(t:aE)(hz:bJ t≠0)(s:St)(hw:Wf s):
  ∃b s',c 99 [.agg t.cells] s=some (.slice b 0 (bJ t).toNat (some (bJ t).toNat) 1,s')/\Grew s s'/\s'.heap.get b=some (.cells ((M9 t).map cI) 0)/\s.next.toNat<=b.toNat/\(M9 t).length=(bJ t).toNat:=by
 have ht:=adS hz;have hb:=Bp t;have hh:=auH hz;have cZ:Wf (ah s (.cells t.cells 0)):=bG hw;have tH:Wf (ah (ah s (.cells t.cells 0)) (.cells (iD t.sh) 0)):=bG cZ;have g2:=(Grew.ah hw (.cells t.cells 0)).trans (Grew.ah cZ (.cells (iD t.sh) 0));have gT:(ah (ah s (.cells t.cells 0)) (.cells (iD t.sh) 0)).heap.get s.next=some (.cells t.cells 0):=(Grew.ah cZ _).get (aA _ _);obtain⟨fr,FT⟩:∃n:Nat,M8 t=(n:Int):=⟨(M8 t).toNat,by omega⟩
 obtain⟨b,s1,S1,S2,S3,S4,S5⟩:=ase hc t hz fr (by omega) _ tH;have HS:s.next.toNat<=b.toNat:=Zb2 g2.next S4;have g1:=g2.trans S2;have e1:M9 t=(RJ t fr).map (RN (bJ t).toNat):=by unfold M9;rw[FT];rfl
 have hl1:(M9 t).length=(bJ t).toNat:=by rw[e1];simpa using S5
 obtain⟨s2,a1,a2,a3⟩:=asf (c:=c) (s0:=s) (po:=b) (n:=(bJ t).toNat) (by omega) HS hw (RJ t fr) S5 4000 (λvs s34=>iw vs λx5 vs=>mO vs (
  aq c .move [x5] s34 λx38 s35=>aq c .move [x38] s35 λx2 s36=>some (x2,s36))) (bJ t).toNat 0 4000 s1 (by omega) (by omega) g1 (by simpa using S3)
 rw[<-e1]at a2;refine⟨b,s2,?_,a1,a2,HS,hl1⟩;have np:¬Plain (.slice b 0 (bJ t).toNat (some (bJ t).toNat) 1):=MZ (by omega);rw[adY hc 4000 (r:=(.slice b 0 (bJ t).toNat (some (bJ t).toNat) 1,s2)),ajt np];rw[ag1];have hlay:=fT hc t.sh (ah s (.cells t.cells 0)) cZ;rw[<-FT]at S1;have rd:=λ(K:AV->Option (AV×St))=>aib K (m:=7) (p:=s.next) (o:=0) (l:=t.cells) (h:=(ah (ah s (.cells t.cells 0)) (.cells (iD t.sh) 0)).heap) (h2:=(ah (ah s (.cells t.cells 0)) (.cells (iD t.sh) 0)).heap) (by rw[gT];rfl) (by rw[gT];rfl) (Va λv hv=>by simp only[aE.cells,Za8,Zc0,Ze9]at hv;rcases hv with rfl|rfl|rfl|rfl|rfl|rfl|rfl<;>first|exact gD.str _|exact gD.int _ _|exact adR _ _)
 simp at a3;have lo:∀(K:AV->St->Option (AV×St))(s1:St),aq c (.lenB .l) [.slice b 0 (bJ t).toNat (some (bJ t).toNat) 1] s1 K=K (.int .i64 ((bJ t).toNat:Int)) s1:=λK s1=>lR c K s1 _ _ _ _ _
 obtain⟨hf,hf1,hf2⟩:=avL hc t ht;have hf3:(iD t.sh)[4]'(by rw[acu];omega)= .func hf [] []:=by rw[H0 (by rw[acu];omega)]at hf1;exact Zi8 hf1
 have c1:t.cells[1]? =some (.int .u8 t.sh):=rfl;have c2:t.cells[2]? =some (.int .i64 t.a):=rfl;have c3:t.cells[3]? =some (.int .i64 t.b):=rfl;simp[hlay,c1,c2,c3,AV.cells,acu,asg,gT,hf1,hf3,hf2,S1,rd,lo,a3]
theorem apw{t:aE}{k:Nat}(h:k<(M9 t).length):((M9 t).map cI)[k]? =some (.int .i64 (M9 t)[k]):=by rw[Zb7,H0 h];rfl
def JB(ts:List aE)(a:Int):Int:=match F9 ts a with|some (i,x)=>(M9 (ts[i]?.getD zT)).getD x.toNat 0|none=>0
theorem ash(hc:Sem c)(z:Bool)(ts:List aE)(cH:∀t∈ts,t.Ok)(a:Int)(ha:a<=4611686018427387904)(st:St)(hw:Wf st):
  c 45 [tabs z ts,.int .i64 a] st=some (.int .i64 (JB ts a),st):=by
 have W:=Ux hc z ts cH a ha st hw;cases h:F9 ts a with
 |none=>
  rw[RO hc 1 (r:=(.int .i64 (JB ts a),st)),aB (Plain.int _ _) (aX.refl st)];rw[YI];unfold JB;rw[h]at W ⊢; simp[W,F8]
 |some p=>
  obtain⟨i,x⟩:=p;obtain⟨hv,p1,t1,p2,p3,p4⟩:=MW h;have hz:=apo (agd hv p2);obtain⟨hi,hg⟩:=Za2.1 p2;obtain⟨b,s',L1,L2,L3,L4,L5⟩:=apv hc t1 hz st hw;have hx:x.toNat<(M9 t1).length:=by omega
  have e:JB ts a=(M9 t1)[x.toNat]:=by
   unfold JB;rw[h];simp only;rw[p2];simp[List.getD,H0 hx]
  obtain⟨k,hk⟩:∃k:Nat,x=(k:Int):=⟨x.toNat,by omega⟩
  subst hk;simp only[Zd4]at hx e;have ix:∀(K:AV->St->Option (AV×St))(s1:St),aq c (.idxA 1 none) [.slice b 0 (bJ t1).toNat (some (bJ t1).toNat) 1,.int .i64 (k:Int)] s1 K=K (.ptr b k) s1:=λK s1=>by rw[ji c K s1 (by omega)];simp
  have gk:=apw hx;rw[RO hc 1 (r:=(.int .i64 (JB ts a),s')),aB (Plain.int _ _) L2.keeps];rw[YI,e];rw[h]at W;subst hg;unfold tabs at W ⊢;simp[W,F8,hi,aE.len,L1,ix,L3,gk]
def mF(first:Int)(n:Nat)(so:Int->Bool):List Int:=((List.range n).map λ(i:Nat)=>first+(i:Int)).filter so
theorem aa9(first:Int)(n:Nat)(so:Int->Bool):mF first (n+1) so=mF first n so++if so (first+(n:Int))=true then [first+(n:Int)]else []:=by
 unfold mF;rw[Zg4,Zc8,Zk3];congr 1;simp only[Zd1,Zi5,List.filter_cons,List.filter_nil]
theorem Lw(first:Int)(n:Nat)(so:Int->Bool):(mF first n so).length<=n:=by
 unfold mF;exact Zb2 (Zk1 _ _) (by simp)
theorem ang{first:Int}(hfi:0<=first/\first<=1000000){n:Nat}(hn:n<=1000000){g:FuncId}{x y:List AV}{so:Int->Bool}{s0:St}
  (H:∀(k:Int)(s:St),Grew s0 s->first<=k->k<first+(n:Int)->c g (x++([.int .i64 k]++y)) s=some (.bool (so k),s)) (F:Nat) (k2):
  ∀(m i f:Nat)(s:St)(v:AV),m<f->i+m=n->Mk 1 s0 s v ((mF first i so).map bC)->
   ∃s' v',Mk 1 s0 s' v' ((mF first n so).map bC)/\xI c F k2 f [.int .i64 first,.int .i64 (n:Int),.func g x y,v,.int .i64 (first+(i:Int))] s=k2 [v'] s':=by
 have w0:ax .i64 (first+(n:Int))=first+(n:Int):=wrap64 (by omega) (by omega)
 intro m;induction m with
 |zero=>
  intro i f s v hf h1 hM;obtain⟨f,rfl⟩:∃g,f=g+1:=⟨f - 1,by omega⟩
  obtain rfl:i=n:=by omega
  refine⟨s,v,hM,?_⟩;rw[EA];simp[w0]
 |succ m ih=>
  intro i f s v hf h1 hM;obtain⟨f,rfl⟩:∃g,f=g+1:=⟨f - 1,by omega⟩
  have hi:i<n:=by omega
  have aW:first+(i:Int)<first+(n:Int):=by omega
  have w:ax .i64 (first+(i:Int)+1)=first+((i+1:Nat):Int):=by rw[wrap64 (by omega) (by omega)];omega
  have A:=H (first+(i:Int)) s hM.ai (by omega) aW;simp only[List.singleton_append]at A;have hlen:=Lw first i so
  cases hs:so (first+(i:Int))with
  |true=>
   obtain⟨s5,v5,a1,a2,a3,_⟩:=hM.push (c:=c) (R:=AV×St) (bytes:=8) (z:=[.int .i64 0]) (x:= .int .i64 (first+(i:Int))) rfl rfl rfl (by decide) (by simp;omega) (by simp;omega);have e:(mF first (i+1) so).map bC=(mF first i so).map bC++[AV.cells (.int .i64 (first+(i:Int)))]:=(by rw[aa9,Zb6 hs,Zc8];rfl);rw[<-e]at a2;obtain⟨s',v',b1,b2⟩:=ih (i+1) f s5 v5 (by omega) (by omega) a2;refine⟨s',v',b1,?_⟩;rw[<-b2,EA];rw[hs]at A;simp[-au,jK,w0,aW,A,a1,w]
  |false=>
   have e:(mF first (i+1) so).map bC=(mF first i so).map bC:=(by rw[aa9,Za7 (by rw[hs];simp),Zd9]);rw[<-e]at hM;obtain⟨s',v',b1,b2⟩:=ih (i+1) f s v (by omega) (by omega) hM;refine⟨s',v',b1,?_⟩;rw[<-b2,EA];rw[hs]at A;simp[jK,w0,aW,A,w]
theorem ajv(hc:Sem c){first:Int}(hfi:0<=first/\first<=1000000){n:Nat}(hn:n<=1000000){g:FuncId}{x y:List AV}{so:Int->Bool}{s:St}(hw:Wf s)
  (H:∀(k:Int)(t:St),Grew s t->first<=k->k<first+(n:Int)->c g (x++([.int .i64 k]++y)) t=some (.bool (so k),t)):
  ∃v s',c 47 [.int .i64 first,.int .i64 (n:Int),.func g x y] s=some (v,s')/\Mk 1 s s' v ((mF first n so).map bC):=by
 obtain⟨s',v,hM,L⟩:=ang hfi hn H (n+1) (λvs s22=>iw vs λx7 vs=>mO vs (aq c .move [x7] s22 λx24 s23=>aq c .move [x24] s23 λx6 s24=>some (x6,s24))) n 0 (n+1) s .af (by omega) (by omega) (Mk.start hw (Grew.refl hw));obtain⟨fU,t1,t2⟩:=hM.tidy;refine⟨v,fU,?_,t2⟩;rw[afg hc (n+1) (r:=(v,s')),t1];rw[ajw];simp at L;simp[L]
end
end Go.Proofs.YtmldijpopgaaeaaGreatDoor
