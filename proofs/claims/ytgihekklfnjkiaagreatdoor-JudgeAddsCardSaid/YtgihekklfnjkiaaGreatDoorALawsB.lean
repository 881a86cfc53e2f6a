/- Checks of a problem. -/
import Derived.Test.YtgihekklfnjkiaaGreatDoorALawsA
set_option linter.all false
set_option maxRecDepth 100000
namespace Go.Proofs.YtgihekklfnjkiaaGreatDoor
section
open Go Go.Ai Go.Proofs
variable{c:aj}
def kd:Nat->Kd
 |1=>⟨[97,112,97,114,116],103,true,0,true,0,false,.func 90 [] []⟩
 |2=>⟨[98,101,115,105,100,101],103,true,0,false,0,false,.func 91 [] []⟩
 |3=>⟨[97,99,114,111,115,115],103,true,0,false,0,false,.func 92 [] []⟩
 |4=>⟨[110,101,97,114],103,true,0,true,1,false,.func 93 [] []⟩
 |5=>⟨[116,111,103,101,116,104,101,114],103,true,0,false,0,false,.func 94 [] []⟩
 |6=>⟨[97,116],103,false,116,false,0,false,.func 95 [] []⟩
 |7=>⟨[115,101,97,116],103,false,116,true,0,true,.func 96 [] []⟩
 |8=>⟨[97,108,116,101,114,110,97,116,101],0,false,101,false,0,false,.func 97 [] []⟩
 |9=>⟨[104,111,115,116],0,false,101,false,0,false,.func 98 [] []⟩
 |10=>⟨[114,101,97,99,104],101,false,0,false,0,false,.func 99 [] []⟩
 |11=>⟨[115,112,101,97,107],0,false,101,false,0,false,.func 100 [] []⟩
 |12=>⟨[112,101,97,99,101],0,false,101,false,0,false,.func 101 [] []⟩
 |13=>⟨[99,111,109,112,97,110,121],0,false,101,false,0,false,.func 102 [] []⟩
 |14=>⟨[104,111,110,111,117,114],0,false,101,false,0,false,.func 103 [] []⟩
 |15=>⟨[102,105,108,108],0,false,101,true,0,false,.func 104 [] []⟩
 |16=>⟨[108,105,109,105,116],0,false,101,true,0,false,.func 105 [] []⟩
 |17=>⟨[107,105,116,99,104,101,110],100,false,116,false,0,false,.func 106 [] []⟩
 |18=>⟨[109,105,120],0,false,101,false,0,false,.func 107 [] []⟩
 |_=>⟨[],0,false,0,false,0,false,.jX⟩
def FA:List (AV×AV×Nat):=[(.int .u8 1,.agg (kd 1).cells,0),(.int .u8 2,.agg (kd 2).cells,1),(.int .u8 3,.agg (kd 3).cells,2),(.int .u8 4,.agg (kd 4).cells,3),(.int .u8 5,.agg (kd 5).cells,4),(.int .u8 6,.agg (kd 6).cells,5),(.int .u8 7,.agg (kd 7).cells,6),(.int .u8 8,.agg (kd 8).cells,7),(.int .u8 9,.agg (kd 9).cells,8),(.int .u8 10,.agg (kd 10).cells,9),(.int .u8 11,.agg (kd 11).cells,10),(.int .u8 12,.agg (kd 12).cells,11),(.int .u8 13,.agg (kd 13).cells,12),(.int .u8 14,.agg (kd 14).cells,13),(.int .u8 15,.agg (kd 15).cells,14),(.int .u8 16,.agg (kd 16).cells,15),(.int .u8 17,.agg (kd 17).cells,16),(.int .u8 18,.agg (kd 18).cells,17)]
theorem ag7(p:Pos):¬Plain (.map p):=λh=>by have:=h (λ_=>(⟨0,0,0⟩:Go.Ai.Loc)) (λ_=>⟨1,0,0⟩) (p.toNat+1) (p.toNat+1) (λ_=>none) _ (.map p (Nat.lt_succ_self _));cases this
theorem ajB(st:St)(p:Pos)(s':St):tidy st (.map p,s')=(.map p,s'):=by unfold tidy;rw[Za7];exact λe=>ag7 p e.1
theorem eE{R:Type}(c:aj)(K:AV->St->Option R)(st:St)(z:List AV)(ps:List (Nat×Nat))(xs l:List AV)(h:cS z ps xs=some l):aq c (.build z ps) xs st K=K (.agg l) st:=by rw[iF,h];rfl
theorem eX{R:Type}(c:aj)(K:AV->St->Option R)(st:St)(es:List (AV×AV×Nat))(cl:Nat)(k:IntKind)(x:Int)(v:AV)(hf:gX .i (.int k x) es 0=some none):
  aq c (.mapSet .i) [.map st.next,.int k x,v] (ah st (.map es cl)) K=K .undef (ah st (.map (es++[(.int k x,v,cl)]) (cl+1))):=by
 have:aJ.run (λb=>(ah st (.map es cl)).heap.get b) (ah st (.map es cl)).next (.mapSet .i) [.map st.next,.int k x,v]=some (.br .undef none (some (st.next,.map (es++[(.int k x,v,cl)]) (cl+1))) none):=by
  simp[aJ.run,yF,hf,ahG]
 unfold aq cW;rw[this];show K .undef (bn (ah st (.map es cl)) st.next _)=_;rw[Q6]
theorem ajC(hc:Sem c)(s:St):c 50 [] s=some (.map s.next,ah s (.map FA 18)):=by
 rw[afs hc 1 (r:=(.map s.next,ah s (.map FA 18))),ajB];rw[ajD];rw[au,XV];rw[eE (l:=(kd 1).cells) (h:=rfl),eX (hf:=rfl)];rw[eE (l:=(kd 2).cells) (h:=rfl),eX (hf:=rfl)];rw[eE (l:=(kd 3).cells) (h:=rfl),eX (hf:=rfl)];rw[eE (l:=(kd 4).cells) (h:=rfl),eX (hf:=rfl)];rw[eE (l:=(kd 5).cells) (h:=rfl),eX (hf:=rfl)];rw[eE (l:=(kd 6).cells) (h:=rfl),eX (hf:=rfl)];rw[eE (l:=(kd 7).cells) (h:=rfl),eX (hf:=rfl)];rw[eE (l:=(kd 8).cells) (h:=rfl),eX (hf:=rfl)];rw[eE (l:=(kd 9).cells) (h:=rfl),eX (hf:=rfl)];rw[eE (l:=(kd 10).cells) (h:=rfl),eX (hf:=rfl)];rw[eE (l:=(kd 11).cells) (h:=rfl),eX (hf:=rfl)];rw[eE (l:=(kd 12).cells) (h:=rfl),eX (hf:=rfl)];rw[eE (l:=(kd 13).cells) (h:=rfl),eX (hf:=rfl)];rw[eE (l:=(kd 14).cells) (h:=rfl),eX (hf:=rfl)];rw[eE (l:=(kd 15).cells) (h:=rfl),eX (hf:=rfl)];rw[eE (l:=(kd 16).cells) (h:=rfl),eX (hf:=rfl)];rw[eE (l:=(kd 17).cells) (h:=rfl),eX (hf:=rfl)];rw[eE (l:=(kd 18).cells) (h:=rfl),eX (hf:=rfl)];rw[au,au]
 .rfl
theorem auA{R:Type}(c:aj)(K:AV->St->Option R)(st:St)(m:Pos)(cl:Nat)(h:st.heap.get m=some (.map FA cl))(n:Nat):
   aq c (.lookup .i (.agg [.str [],.int .u8 0,.bool false,.int .u8 0,.bool false,.int .i64 0,.bool false,.jX]) false) [.map m,.int .u8 (n:Int)] st K=K (.agg (kd n).cells) st:=by
 have e:gX .i (.int .u8 (n:Int)) FA 0=some (if 1<=n/\n<=18 then some (n - 1,.agg (kd n).cells)else none):=by
   by_cases h:n<=18
   .have:n=0\/n=1\/n=2\/n=3\/n=4\/n=5\/n=6\/n=7\/n=8\/n=9\/n=10\/n=11\/n=12\/n=13\/n=14\/n=15\/n=16\/n=17\/n=18:=(by omega);rcases this with rfl|rfl|rfl|rfl|rfl|rfl|rfl|rfl|rfl|rfl|rfl|rfl|rfl|rfl|rfl|rfl|rfl|rfl|rfl<;>rfl
   . have H8:∀j:Int,j<=18->BC (n:Int) j=false:=λj hj=>by rw[mR];simp;omega
     rw[Za7 (by omega)];simp[FA,gX,yE,H8,dN]
 have:∀z:AV,aJ.run (λb=>st.heap.get b) st.next (.lookup .i z false) [.map m,.int .u8 (n:Int)]=some (.val (if 1<=n/\n<=18 then .agg (kd n).cells else z)):=λz=>by
   simp only[aJ.run,lU,h,e];by_cases h1:1<=n/\n<=18
   .rw[Zb4 h1,Zb4 h1]
   .rw[Za7 h1,Za7 h1]
 unfold aq cW;rw[this];by_cases h1:1<=n/\n<=18
 .rw[Zb4 h1]
 .rw[Za7 h1];have:kd n=⟨[],0,false,0,false,0,false,.jX⟩:=(by unfold kd;split<;>first|rfl|omega);rw[this];rfl
theorem auB(n:Nat):(kd n).kO=true->(kd n).t=116:=by unfold kd;split<;>simp
def Rl.Ok(r:Rl):Prop:=0<=r.k/\r.k<256
def nX(p:bE)(r:Rl):Int:=T9 (kd r.k.toNat) p r
def oo(p:bE):Nat->Nat->Int×Int
 |0,_=>(0,0)
 |  m+1,i=>match p.rs[i]? with
    |none=>(0,0)
    |some r=>if nX p r≠0 then((i:Int),nX p r)else if i=64 then((i:Int),7)else oo p m (i+1)
theorem abn(p:bE):∀(m i:Nat),(oo p m i).2=0->(oo p m i).1=0
 |0,_,_=>rfl
 |m+    1,i,h=>by
  rw[oo]at h ⊢;cases h0:p.rs[i]? with
  |none=>rfl
  |some r=>
   rw[h0]at h;simp only at h ⊢;by_cases h1:nX p r=0
   .    rw[Za7 (by simp[h1])]at h ⊢;by_cases h2:i=64
        .rw[Zb4 h2]at h;simp at h
        .rw[Za7 h2]at h ⊢; exact abn p m (i+1) h
   .    rw[Zb4 h1]at h;exact absurd h h1
def eD(p:bE):Int×Int:=if(iI p).2≠0 then iI p else oo p 100 0
theorem ang(hc:Sem c)(p:bE)(hp:p.uz)(hr:∀r∈p.rs,r.Ok)(hv:(bZ p.ts).2=0)(q1 mp:Pos)(cl:Nat)(F:Nat)(k1 k2):∀(m k:Nat)(st:St),Wf st->st.heap.get q1=some (.cells p.cells 0)->st.heap.get mp=some (.map FA cl)->p.rs.length<=k+m->k<=p.rs.length->
  ∃st',Grew st st'/\xA c F k1 k2 (m+1) [.ptr q1 0,.map mp,iG p.rz p.rs,.int .i64 (p.rs.length:Int),.int .i64 (k:Int)] st=if(oo p m k).2=0 then k2 [] st' else k1 [.int .i64 (oo p m k).1,.int .i64 (oo p m k).2] st':=by
 have hl:=hp.rs;intro m;induction m with
 |zero=>
  intro k st hw h1 h2 h3 h4;obtain rfl:k=p.rs.length:=by omega
  refine⟨st,Grew.refl hw,?_⟩;rw[DW];simp[oo]
 |succ m ih=>
  intro k st hw hq hm h3 h4;by_cases h:k<p.rs.length
  . have w:av .i64 ((k:Int)+1)=((k+1:Nat):Int):=wrap64 (by omega) (by omega);have dm:Wf (ah st (.cells p.rs[k].cells 0)):=bP hw;have hg:=Grew.ah hw (.cells p.rs[k].cells 0);have OR:=hg.get hq;have nu:=hg.get hm;have hn:=aB st (.cells p.rs[k].cells 0);obtain⟨n,hk⟩:∃n:Nat,p.rs[k].k=(n:Int):=⟨p.rs[k].k.toNat,by have:=(hr _ (Zb8 h)).1;omega⟩
    have hkc:=apv hc (kd n) (auB n) p hp hv p.rs[k] _ dm;have hS:nX p p.rs[k]=T9 (kd n) p p.rs[k]:=(by unfold nX;rw[hk];rfl);have SY:=λ(K:AV->St->Option (AV×St))=>auA c K _ mp cl nu n
    have iQ:=λ(K:AV->St->Option (AV×St))=>cq c K st 6 (.agg p.rs[k].cells) [.int .u8 0,.int .i64 0,.str [],.str [],.str [],.int .i64 0] rfl rfl (Rl.one _)
    rw[show(AV.agg p.rs[k].cells).cells=p.rs[k].cells from rfl]at iQ;rw[<-hS]at hkc;rw[<-hk]at SY;obtain⟨st',g1,g2⟩:=ih (k+1) _ dm OR nu (by omega) (by omega);rw[DW,oo,H0 h];simp only;by_cases h5:nX p p.rs[k]=0
    .   rw[Za7 (by simp[h5])];by_cases h6:k=64
        .refine⟨_,hg,?_⟩;rw[Zb4 h6];have h6i:decide ((k:Int)=64)=true:=(by simp only[Ze8];omega);simp[-cq,iQ,iG,h,OR,nu,SY,hkc,h5,h6i]
        .refine⟨st',hg.trans g1,?_⟩;rw[Za7 h6, <-g2];have h6i:¬(k:Int)=64:=(by omega);simp[-cq,iQ,iG,h,OR,nu,SY,hkc,h5,h6i,w]
    .   refine⟨_,hg,?_⟩;rw[Zb4 h5];simp[-cq,iQ,iG,h,OR,nu,SY,hkc,h5]
  .obtain rfl:k=p.rs.length:=(by omega);refine⟨st,Grew.refl hw,?_⟩;rw[DW];simp[oo]
theorem akL{p:bE}(h:(iI p).2=0):(bZ p.ts).2=0:=by
 unfold iI at h;by_cases h1:(bZ p.ts).2=0
 .exact h1
 .rw[Zb4 h1]at h;exact absurd h h1
theorem Jv(hc:Sem c)(p:bE)(hp:p.uz)(hR:Ii c p)(hr:∀r∈p.rs,r.Ok)(st:St)(hw:Wf st):c 56 [.agg p.cells] st=some (.tuple [.int .i64 (eD p).1,.int .i64 (eD p).2],st):=by
 have zZ:Plain (.tuple [.int .i64 (eD p).1,.int .i64 (eD p).2]):=Plain.tuple (by simp[Plain.int]);have dm:Wf (ah st (.cells p.cells 0)):=bP hw;have hg1:=Grew.ah hw (.cells p.cells 0);have kF:(ah st (.cells p.cells 0)).heap.get st.next=some (.cells p.cells 0):=aB _ _;have B:=ase hc p hp hR _ dm;by_cases h:(iI p).2=0
 . have hv:=akL h;have K:=ajC hc (ah st (.cells p.cells 0));have tC:Wf (ah (ah st (.cells p.cells 0)) (.map FA 18)):=bP dm;have Ab:=Grew.ah dm (.map FA 18);obtain⟨st',g1,g2⟩:=ang hc p hp hr hv st.next (ah st (.cells p.cells 0)).next 18 101 (λvs s50=>ir vs λx2 vs=>ir vs λx3 vs=>mG vs (
   some (.tuple [x2,x3],s50))) (λvs s51=>mG vs (
   aq c .move [(.int .i64 0)] s51 λx2 s52=>
 aq c .move [(.int .i64 0)] s52 λx3 s53=>
 some (.tuple [x2,x3],s53))) 100 0 _ tC (Ab.get kF) (aB _ _) (by have:=hp.rs;omega) (by omega)
   have e:eD p=oo p 100 0:=(by unfold eD;rw[Za7 (by simp[h])]);have e0:=akK h;rw[RH hc 101 (r:=(.tuple [.int .i64 (eD p).1,.int .i64 (eD p).2],st')),aE zZ ((hg1.trans Ab).trans g1).keeps];rw[YM,e];simp at g2;simp[kF,B,h,K,g2];by_cases h2:(oo p 100 0).2=0
   .have:=abn p 100 0 h2;simp[h2,this]
   .simp[h2]
 .have e:eD p=iI p:=(by unfold eD;rw[Zb4 h]);rw[RH hc 101 (r:=(.tuple [.int .i64 (eD p).1,.int .i64 (eD p).2],ah st (.cells p.cells 0))),aE zZ hg1.keeps];rw[YM,e];simp[kF,B,h]
def wl:List AV:=(List.range 19).map λi=>.str (kd i).w
end
section
open Go Go.Ai Go.Proofs
variable{c:aj}
end
section
open Go Go.Ai Go.Proofs
variable{c:aj}
end
section
open Go Go.Ai Go.Proofs
theorem HV{Q:List AV->Prop}{Qs:List (List AV->Prop)}{ps:List (List AV)}(h:Ts (Q::Qs) ps):∃p qs,ps=p::qs/\Q p/\Ts Qs qs:=by
 cases ps with
 |nil=>exact h.elim
 |cons p qs=>exact⟨p,qs,rfl,h⟩
theorem aiE{ps:List (List AV)}(h:Ts [] ps):ps=[]:=by
 cases ps with
 |nil=>rfl
 |cons p qs=>exact h.elim
section
variable{H:Type}{enc:TypeId×Value->H}{w:World}{base:Nat}{spare:Nat->Bool}{held:Bool}
end
variable{c:aj}
abbrev HW:Nat:=1048576
abbrev bH(i:Int):List AV:=[.int .i64 i]
abbrev Uz(s:List Nat):List AV:=[.str s]
def aC.ay(t:aC)(v:AV):List AV:=[.str t.name,.int .u8 t.sh,.int .i64 t.a,.int .i64 t.b,v,.int .i64 t.x,.int .i64 t.y]
theorem aC.MT(t:aC){v:AV}(h:aV [v]=true):aV (t.ay v)=true:=by
 simp only[aV]at h;unfold aC.ay;simp only[aV,AV.one,h,Zj2,Zi9]at*
structure TS(s0 s:St)(V:AV)(ts:List aC)(rows:List (List AV)):Prop where
 out:Mk 7 s0 s V rows
 len:rows.length=ts.length
 eI:∀(i:Nat)(t:aC)(r:List AV),ts[i]? =some t->rows[i]? =some r->∃v,r=t.ay v/\Mk 1 s0 s v (t.kK.map bH)/\∀b,aR v=some b->aR V≠some b
structure GS(s0 s:St)(V:AV)(ts:List aS)(rows:List (List AV)):Prop where
 out:Mk 9 s0 s V rows
 len:rows.length=ts.length
 eI:∀(i:Nat)(t:aS)(r:List AV),ts[i]? =some t->rows[i]? =some r->∃v,r=t.ay v/\Mk 1 s0 s v (t.tg.map Uz)/\∀b,aR v=some b->aR V≠some b
structure PS(s0 s:St)(Vs:List AV)(p:bE):Prop where
 ai:Grew s0 s
 all:∃V1 V2 V3 V4 V5 r1 r2,Vs=[V1,V2,V3,V4,V5]/\TS s0 s V1 p.ts r1/\GS s0 s V2 p.gs r2/\Mk 3 s0 s V3 (p.ys.map Ty.cells)/\Mk 1 s0 s V4 (p.cs.map bH)/\Mk 6 s0 s V5 (p.rs.map Rl.cells)
theorem TS.rW{s0 s s':St}{V:AV}{ts:List aC}{rows:List (List AV)}(h:TS s0 s V ts rows)(hg:Grew s0 s')(hk:∀b x,s0.next.toNat<=b.toNat->(aR V=some b\/∃(i:Nat) (r:List AV) (v:AV),rows[i]? =some r/\r[4]? =some v/\aR v=some b)->s.heap.get b=some x->s'.heap.get b=some x):TS s0 s' V ts rows:=
 ⟨Mk.rW h.out hg λb x hb hx=>hk b x (h.out.new b hb) (.inl hb) hx,h.len,λi t r hi hr=>by
  obtain⟨v,e1,e2,e3⟩:=h.eI i t r hi hr;exact⟨v,e1,Mk.rW e2 hg λb x hb hx=>hk b x (e2.new b hb) (.inr ⟨i,r,v,hr,by rw[e1];rfl,hb⟩) hx,e3⟩⟩
theorem GS.rW{s0 s s':St}{V:AV}{ts:List aS}{rows:List (List AV)}(h:GS s0 s V ts rows)(hg:Grew s0 s')(hk:∀b x,s0.next.toNat<=b.toNat->(aR V=some b\/∃(i:Nat) (r:List AV) (v:AV),rows[i]? =some r/\r[8]? =some v/\aR v=some b)->s.heap.get b=some x->s'.heap.get b=some x):GS s0 s' V ts rows:=
 ⟨Mk.rW h.out hg λb x hb hx=>hk b x (h.out.new b hb) (.inl hb) hx,h.len,λi t r hi hr=>by
  obtain⟨v,e1,e2,e3⟩:=h.eI i t r hi hr;exact⟨v,e1,Mk.rW e2 hg λb x hb hx=>hk b x (e2.new b hb) (.inr ⟨i,r,v,hr,by rw[e1];rfl,hb⟩) hx,e3⟩⟩
structure aC.Real(t:aC):Prop where
 name:∀x∈t.name,x<256
 kK:t.kK.length<=HW
structure aS.Real(g:aS):Prop where
 name:∀x∈g.name,x<256
 Au:∀x∈g.Au,x<256
 j5:∀x∈g.j5,x<256
 mY:∀x∈g.mY,x<256
 tg:g.tg.length<=HW
theorem TS.pJ{s0 s1 s s':St}{V:AV}{ts:List aC}{rows:List (List AV)}(h:TS s1 s V ts rows)(h0:Wf s0)(ON:Grew s0 s1)(hg:Grew s0 s')(hk:∀q b,s1.next.toNat<=q.toNat->s.heap.get q=some b->s'.heap.get q=some b):TS s0 s' V ts rows:=
 ⟨Mk.pJ h.out h0 ON hg hk,h.len,λi t r hi hr=>by obtain⟨v,e1,e2,e3⟩:=h.eI i t r hi hr;exact⟨v,e1,Mk.pJ e2 h0 ON hg hk,e3⟩⟩
theorem GS.pJ{s0 s1 s s':St}{V:AV}{ts:List aS}{rows:List (List AV)}(h:GS s1 s V ts rows)(h0:Wf s0)(ON:Grew s0 s1)(hg:Grew s0 s')(hk:∀q b,s1.next.toNat<=q.toNat->s.heap.get q=some b->s'.heap.get q=some b):GS s0 s' V ts rows:=
 ⟨Mk.pJ h.out h0 ON hg hk,h.len,λi t r hi hr=>by obtain⟨v,e1,e2,e3⟩:=h.eI i t r hi hr;exact⟨v,e1,Mk.pJ e2 h0 ON hg hk,e3⟩⟩
structure bE.Real(p:bE):Prop where
 ts:p.ts.length<=1000
 tab:∀t∈p.ts,t.Real
 gs:p.gs.length<=1000
 qK:∀t∈p.gs,t.Real
 ys:p.ys.length<=HW
 cs:p.cs.length<=HW
 rs:p.rs.length<=HW
theorem Ir{R:Type}{p:Pos}{o:Nat}{h:T AB}{v:AV}(hv:((cellsOf (h.get p)).bind λcs=>cs[o]?)=some v)(ok:AV->Bool)(cF:ok v=true)(K:AV->Option R):jJ (.load none) [.ptr p o] h ok K=K v:=by
 unfold jJ;have e:aJ.run (λ_=>none) .h (.load none) [.ptr p o]=none:=rfl;rw[e];simp only;rw[tG,hv];simp only[Ze5];rw[cF]
theorem Ni{p:Pos}{o:Nat}{h:T AB}{v:AV}(hv:((cellsOf (h.get p)).bind λcs=>cs[o]?)=some v)(hb:eJ v v=true):pE (.load none) [.ptr p o] v (nW [] h)=true:=by unfold pE;show(match aJ.run (λb=>h.get b) .h (.load none) [.ptr p o]with|some (.val u)=>eJ u v|_=>false)=true;rw[tG,hv];exact hb
abbrev Sm(v:Int):Prop:=0<=v/\v<=1000000
def anh(a x y:Int):Bool:=decide (y - x=1)||decide (y - x=a - 1)
def ani(a x y:Int):Bool:=decide (a.tmod 2=0)&&decide (y - x=a.tdiv 2)
def JA(a b:Int):Int:=a+min b 1
def anj(a b x y:Int):Bool:=
 bif decide (b=2)&&decide (y=2*a+1)then decide (x=0)||decide (x=y - 1)
 else bif decide (0<b)&&(decide (x=a)||decide (y=a))then decide (y - x=1)else decide (y - x=1)&&(decide (y<a)||decide (JA a b<=x))
def ank(a b x y:Int):Bool:=bif decide (b=2)&&decide (y=2*a+1)then decide (x=a)else decide (x<a)&&decide (x+y=JA a b+a - 1)
def anl(x y:Int):Bool:=decide (y - x=1)
def anm(a b x y:Int):Bool:=decide (x<b)&&decide (x+y=a+2*b - 1)
def ann(b x y:Int):Bool:=decide (y - x=1)&&(decide (b=0)|| !decide (y.tmod b=0))
theorem afu(hc:Sem c)(a b x y:Int)(ha:Sm a)(hx:Sm x)(hy:Sm y)(st:St):
  c 205 [.int .i64 a,.int .i64 b,.int .i64 x,.int .i64 y] st=some (.bool (anh a x y),st):=by
 have w1:av .i64 (y - x)=y - x:=wrap64 (by omega) (by omega);have w2:av .i64 (a - 1)=a - 1:=wrap64 (by omega) (by omega);rw[UA hc 1 (r:=(.bool (anh a x y),st)),aE (Plain.bool _) (aZ.refl st)];rw[YN];unfold anh;cases h:decide (y - x=1)<;>simp[w1,w2,h]
theorem afv(hc:Sem c)(a b x y:Int)(ha:Sm a)(hx:Sm x)(hy:Sm y)(st:St):
  c 206 [.int .i64 a,.int .i64 b,.int .i64 x,.int .i64 y] st=some (.bool (ani a x y),st):=by
 have w1:av .i64 (y - x)=y - x:=wrap64 (by omega) (by omega);have hq:0<=a.tdiv 2/\a.tdiv 2<=1000000:=by rw[Zi8 ha.1];omega
 have w2:av .i64 (a.tdiv 2)=a.tdiv 2:=wrap64 (by omega) (by omega);rw[UB hc 1 (r:=(.bool (ani a x y),st)),aE (Plain.bool _) (aZ.refl st)];rw[YO];unfold ani;cases h:decide (a.tmod 2=0)<;>simp[w1,w2,h]
theorem alK(hc:Sem c)(a b:Int)(ha:Sm a)(hb:Sm b)(st:St):c 238 [.int .i64 a,.int .i64 b] st=some (.int .i64 (JA a b),st):=by
 have w1:av .i64 (a+min b 1)=a+min b 1:=wrap64 (by omega) (by omega);rw[ajE hc 1 (r:=(.int .i64 (JA a b),st)),aE (Plain.int _ _) (aZ.refl st)];rw[ano];unfold JA;simp[w1]
theorem ag8 (hc:Sem c)(a b x y:Int)(ha:Sm a)(hb:Sm b)(hx:Sm x)(hy:Sm y)(st:St):
   c 210 [.int .i64 a,.int .i64 b,.int .i64 x,.int .i64 y] st=some (.bool (anj a b x y),st):=by
 have w1:av .i64 (y - x)=y - x:=wrap64 (by omega) (by omega);have w2:av .i64 (y - 1)=y - 1:=wrap64 (by omega) (by omega);have w3:av .i64 (2*a)=2*a:=wrap64 (by omega) (by omega);have w4:av .i64 (2*a+1)=2*a+1:=wrap64 (by omega) (by omega);have t:=alK hc a b ha hb st;rw[WT hc 1 (r:=(.bool (anj a b x y),st)),aE (Plain.bool _) (aZ.refl st)];rw[aaS];unfold anj;cases h1:decide (b=2)
 . cases  h4:decide (0<b)
   . cases h7:decide (y - x=1)
     .  simp[w1,w2,w3,w4,t,h1,h4,h7]
     .  cases h8:decide (y<a)<;>simp[w1,w2,w3,w4,t,h1,h4,h7,h8]
   . cases h5:decide (x=a)
     .  cases h6:decide (y=a)
        . cases h7:decide (y - x=1)
          .simp[w1,w2,w3,w4,t,h1,h4,h5,h6,h7]
          .cases h8:decide (y<a)<;>simp[w1,w2,w3,w4,t,h1,h4,h5,h6,h7,h8]
        .simp[w1,w2,w3,w4,t,h1,h4,h5,h6]
     .  simp[w1,w2,w3,w4,t,h1,h4,h5]
 . cases  h2:decide (y=2*a+1)
   . cases  h4:decide (0<b)
     .  simp at h1 h4;omega
     .  cases h5:decide (x=a)
        . cases h6:decide (y=a)
          . cases h7:decide (y - x=1)
            .simp[w1,w2,w3,w4,t,h1,h2,h4,h5,h6,h7]
            .cases h8:decide (y<a)<;>simp[w1,w2,w3,w4,t,h1,h2,h4,h5,h6,h7,h8]
          .simp[w1,w2,w3,w4,t,h1,h2,h4,h5,h6]
        .simp[w1,w2,w3,w4,t,h1,h2,h4,h5]
   .cases h3:decide (x=0)<;>simp[w1,w2,w3,w4,t,h1,h2,h3]
theorem ag9(hc:Sem c)(a b x y:Int)(ha:Sm a)(hb:Sm b)(hx:Sm x)(hy:Sm y)(st:St):
   c 211 [.int .i64 a,.int .i64 b,.int .i64 x,.int .i64 y] st=some (.bool (ank a b x y),st):=by
 have w1:av .i64 (x+y)=x+y:=wrap64 (by omega) (by omega);have w3:av .i64 (2*a)=2*a:=wrap64 (by omega) (by omega);have w4:av .i64 (2*a+1)=2*a+1:=wrap64 (by omega) (by omega);have hT:0<=JA a b/\JA a b<=1000001:=by unfold JA;omega
 have w5:av .i64 (JA a b+a)=JA a b+a:=wrap64 (by omega) (by omega);have w6:av .i64 (JA a b+a - 1)=JA a b+a - 1:=wrap64 (by omega) (by omega);have t:=alK hc a b ha hb st;rw[WU hc 1 (r:=(.bool (ank a b x y),st)),aE (Plain.bool _) (aZ.refl st)];rw[aaT];unfold ank;cases h1:decide (b=2)
 .cases h3:decide (x<a)<;>simp[w1,w3,w4,w5,w6,t,h1,h3]
 . cases h2:decide (y=2*a+1)
   .cases h3:decide (x<a)<;>simp[w1,w3,w4,w5,w6,t,h1,h2,h3]
   .simp[w1,w3,w4,t,h1,h2]
theorem aha(hc:Sem c)(a b x y:Int)(hx:Sm x)(hy:Sm y)(st:St):
  c 215 [.int .i64 a,.int .i64 b,.int .i64 x,.int .i64 y] st=some (.bool (anl x y),st):=by
 have w1:av .i64 (y - x)=y - x:=wrap64 (by omega) (by omega);rw[WV hc 1 (r:=(.bool (anl x y),st)),aE (Plain.bool _) (aZ.refl st)];rw[aaU];unfold anl;simp[w1]
theorem ahb(hc:Sem c)(a b x y:Int)(ha:Sm a)(hb:Sm b)(hx:Sm x)(hy:Sm y)(st:St):
  c 216 [.int .i64 a,.int .i64 b,.int .i64 x,.int .i64 y] st=some (.bool (anm a b x y),st):=by
 have w1:av .i64 (x+y)=x+y:=wrap64 (by omega) (by omega);have w2:av .i64 (2*b)=2*b:=wrap64 (by omega) (by omega);have w3:av .i64 (a+2*b)=a+2*b:=wrap64 (by omega) (by omega);have w4:av .i64 (a+2*b - 1)=a+2*b - 1:=wrap64 (by omega) (by omega);rw[WW hc 1 (r:=(.bool (anm a b x y),st)),aE (Plain.bool _) (aZ.refl st)];rw[aaV];unfold anm;cases h:decide (x<b)<;>simp[w1,w2,w3,w4,h]
theorem ajF(hc:Sem c)(a b x y:Int)(hx:Sm x)(hy:Sm y)(st:St):
   c 220 [.int .i64 a,.int .i64 b,.int .i64 x,.int .i64 y] st=some (.bool (ann b x y),st):=by
 have w1:av .i64 (y - x)=y - x:=wrap64 (by omega) (by omega);rw[YP hc 1 (r:=(.bool (ann b x y),st)),aE (Plain.bool _) (aZ.refl st)];rw[acU];unfold ann;cases h:decide (y - x=1)
 .simp[w1,h]
 . cases h2:decide (b=0)
   .have hb:b≠0:=(by simpa using h2);simp[w1,h,h2,ae1 _ _ _ _ _ _ _ hb]
   .simp[w1,h,h2]
theorem awF(hc:Sem c)(a b x y:Int)(st:St):c 221 [.int .i64 a,.int .i64 b,.int .i64 x,.int .i64 y] st=some (.bool false,st):=by rw[WY hc 1 (r:=(.bool false,st)),aE (Plain.bool _) (aZ.refl st)];rw[aaW];simp
structure aC.Fit(t:aC):Prop where
 sh:1<=t.sh/\t.sh<=4
 a:0<=t.a/\t.a<=24
 b:0<=t.b/\t.b<=24
theorem aeh{t:aC}(h:bQ t≠0):t.Fit:=by
 unfold bQ at h;split at h
 . split at h
   .exact⟨by omega,by omega,by omega⟩
   .exact absurd rfl h
 split at h
 . split at h
   .exact⟨by omega,by omega,by omega⟩
   .exact absurd rfl h
 split at h
 . split at h
   .exact⟨by omega,by omega,by omega⟩
   .exact absurd rfl h
 split at h
 . split at h
   .exact⟨by omega,by omega,by omega⟩
   .exact absurd rfl h
 .exact absurd rfl h
def Qb(t:aC)(x y:Int):Bool:=
 !decide (x=y)&&(if t.sh=1 then anh t.a (min x y) (max x y)else if t.sh=2 then anj t.a t.b (min x y) (max x y)else if t.sh=3 then anl (min x y) (max x y)else ann t.b (min x y) (max x y))
def UC(t:aC)(x y:Int):Bool:=
 !decide (x=y)&&(if t.sh=1 then ani t.a (min x y) (max x y)else if t.sh=2 then ank t.a t.b (min x y) (max x y)else if t.sh=3 then anm t.a t.b (min x y) (max x y)else false)
def Ay(t:aC)(x y:Int):Bool:=Qb t x y||UC t x y
theorem ags(hc:Sem c)(t:aC)(ht:t.Fit)(x y:Int)(hx:Sm x)(hy:Sm y)(st:St)(hw:Wf st):
   c 126 [.agg t.cells,.int .i64 x,.int .i64 y] st=some (.bool (Qb t x y),st):=by
 have hm:Sm (min x y):=by omega
 have hM:Sm (max x y):=by omega
 obtain⟨⟨s1,s2⟩,⟨a1,a2⟩,b1,b2⟩:=ht;rw[aei hc 1 (r:=(.bool (Qb t x y),ah (ah st (.cells t.cells 0)) (.cells (iC t.sh) 0))),aE (Plain.bool _) ((cM hw).trans (cM (bP hw)))];rw[ahc];obtain⟨name,sh,a,b,oz,kK,tx,ty⟩:=t;simp only at s1 s2 a1 a2 b1 b2;have ha:Sm a:=by omega
 have hb:Sm b:=by omega
 have hS:sh=1\/sh=2\/sh=3\/sh=4:=by omega
 cases h:decide (x=y)
 . rcases hS with rfl|rfl|rfl|rfl
   .simp[aC.cells,AV.cells,fV hc,hw,Qb,iC,aV,AV.one,h,afu hc a b _ _ ha hm hM]
   .simp[aC.cells,AV.cells,fV hc,hw,Qb,iC,aV,AV.one,h,ag8 hc a b _ _ ha hb hm hM]
   .simp[aC.cells,AV.cells,fV hc,hw,Qb,iC,aV,AV.one,h,aha hc a b _ _ hm hM]
   .simp[aC.cells,AV.cells,fV hc,hw,Qb,iC,aV,AV.one,h,ajF hc a b _ _ hm hM]
 .rcases hS with rfl|rfl|rfl|rfl<;>simp[aC.cells,AV.cells,fV hc,hw,Qb,iC,aV,AV.one,h]
theorem agt(hc:Sem c)(t:aC)(ht:t.Fit)(x y:Int)(hx:Sm x)(hy:Sm y)(st:St)(hw:Wf st):
   c 127 [.agg t.cells,.int .i64 x,.int .i64 y] st=some (.bool (UC t x y),st):=by
 have hm:Sm (min x y):=by omega
 have hM:Sm (max x y):=by omega
 obtain⟨⟨s1,s2⟩,⟨a1,a2⟩,b1,b2⟩:=ht;rw[aej hc 1 (r:=(.bool (UC t x y),ah (ah st (.cells t.cells 0)) (.cells (iC t.sh) 0))),aE (Plain.bool _) ((cM hw).trans (cM (bP hw)))];rw[ahd];obtain⟨name,sh,a,b,oz,kK,tx,ty⟩:=t;simp only at s1 s2 a1 a2 b1 b2;have ha:Sm a:=by omega
 have hb:Sm b:=by omega
 have hS:sh=1\/sh=2\/sh=3\/sh=4:=by omega
 cases h:decide (x=y)
 . rcases hS with rfl|rfl|rfl|rfl
   .simp[aC.cells,AV.cells,fV hc,hw,UC,iC,aV,AV.one,h,afv hc a b _ _ ha hm hM]
   .simp[aC.cells,AV.cells,fV hc,hw,UC,iC,aV,AV.one,h,ag9 hc a b _ _ ha hb hm hM]
   .simp[aC.cells,AV.cells,fV hc,hw,UC,iC,aV,AV.one,h,ahb hc a b _ _ ha hb hm hM]
   .simp[aC.cells,AV.cells,fV hc,hw,UC,iC,aV,AV.one,h,awF hc]
 .rcases hS with rfl|rfl|rfl|rfl<;>simp[aC.cells,AV.cells,fV hc,hw,UC,iC,aV,AV.one,h]
theorem auC(hc:Sem c)(t:aC)(ht:t.Fit)(x y:Int)(hx:Sm x)(hy:Sm y)(st:St)(hw:Wf st):
  c 224 [.agg t.cells,.int .i64 x,.int .i64 y] st=some (.bool (Ay t x y),st):=by
 have hp:=aB st (.cells t.cells 0);have B:=ags hc t ht x y hx hy _ (bP (b:= .cells t.cells 0) hw);have A:=agt hc t ht x y hx hy _ (bP (b:= .cells t.cells 0) hw);rw[ahe hc 1 (r:=(.bool (Ay t x y),ah st (.cells t.cells 0))),aE (Plain.bool _) (cM hw)];rw[akM];unfold Ay;cases h:Qb t x y<;>simp[hp,B,A,h,aC.len]
def JU:List aC->Int->Nat->Option (Nat×Int)
 |[],_,_=>none
 |t::ts,s,i=>if s<bQ t then some (i,s)else JU ts (s - bQ t) (i+1)
theorem ajG:∀{ts:List aC}{s:Int}{i:Nat}{k:Nat}{x:Int},0<=s->JU ts s i=some (k,x)->i<=k/\0<=x/\∃t,ts[k - i]? =some t/\x<bQ t
 |[],_,_,_,_,_,h=>by cases h
 |t ::ts,s,i,k,x,hs,h=>by
  unfold JU at h;split at h
  .simp only[H5,Zd3]at h;obtain⟨rfl,rfl⟩:=h;exact⟨Za5 _,hs,t,by simp,by assumption⟩
  .obtain⟨h1,h2,t',h3,h4⟩:=ajG (by omega) h;refine⟨by omega,h2,t',?_,h4⟩;rw[show k - i=(k - (i+1))+1 by omega,Zb6];exact h3
def FG:Option (Nat×Int)->AV
 |some (i,x)=>.tuple [.int .i64 (i:Int),.int .i64 x,.bool true]
 |none=>.tuple [.int .i64 0,.int .i64 0,.bool false]
theorem agu(o:Option (Nat×Int)):Plain (FG o):=by
 cases o with
 |none=>exact Plain.tuple λv hv=>by simp at hv;rcases hv with rfl|rfl|rfl<;>first|exact Plain.int _ _|exact Plain.bool _
 |some p=>exact Plain.tuple λv hv=>by simp at hv;rcases hv with rfl|rfl|rfl<;>first|exact Plain.int _ _|exact Plain.bool _
def xx(ts:List aC)(s:Int):Option (Nat×Int):=if s<0\/(bZ ts).2≠0 then none else JU ts s 0
theorem anp(hc:Sem c)(z:Bool)(ts:List aC)(hl:ts.length<=16)(F:Nat)(k1 k2):∀(m k:Nat)(s:Int)(st:St),Wf st->ts.length<=k+m->k<=ts.length->0<=s->s<=4611686018427387904->
  ∃ st',Grew st st'/\sZ c F k1 k2 (m+1) [.int .i64 s,tabs z ts,.int .i64 (ts.length:Int),.int .i64 (k:Int)] st=
    (match JU (ts.drop k) s k with|some (i,x)=>k1 [.int .i64 (i:Int),.int .i64 x,.bool true] st'|none=>k2 [] st'):=by
 intro m;induction m with
 |zero=>
  intro k s st hw h1 h2 h3 h4;obtain rfl:k=ts.length:=by omega
  refine⟨st,Grew.refl hw,?_⟩;rw[yA];simp[JU]
 |succ m ih=>
  intro k s st hw h1 h2 h3 h4;by_cases h:k<ts.length
  . have w:av .i64 ((k:Int)+1)=((k+1:Nat):Int):=wrap64 (by omega) (by omega);have dm:Wf (ah st (.cells ts[k].cells 0)):=bP hw;have hg:=Grew.ah hw (.cells ts[k].cells 0);have hs:=Rx hc ts[k] _ dm;have b2:=Be ts[k];have w2:av .i64 (s - bQ ts[k])=s - bQ ts[k]:=wrap64 (by omega) (by omega);rw[Zd2 h];unfold JU;by_cases aW:s<bQ ts[k]
    .   refine⟨_,hg,?_⟩;rw[yA];simp[tabs,h,hs,aW,aC.len]
    .   obtain⟨st',g1,g2⟩:=ih (k+1) (s - bQ ts[k]) _ dm (by omega) (by omega) (by omega) (by omega);refine⟨st',hg.trans g1,?_⟩;simp only[aW,Zg7];rw[<-g2,yA];simp[tabs,h,hs,w,w2,aW,aC.len]
  .obtain rfl:k=ts.length:=(by omega);refine⟨st,Grew.refl hw,?_⟩;rw[yA];simp[JU]
theorem UD(hc:Sem c)(z:Bool)(ts:List aC)(cF:∀t∈ts,t.Ok)(s:Int)(hs:s<=4611686018427387904)(st:St)(hw:Wf st):
   c 123 [tabs z ts,.int .i64 s] st=some (FG (xx ts s),st):=by
 have lT:∀(K:AV->St->Option (AV×St))(s:St),aq c (.lenB .l) [tabs z ts] s K=K (.int .i64 (ts.length:Int)) s:=λK s=>by unfold tabs;rw[jL];simp
 have hv:=Ut hc z ts cF st hw;by_cases h:s<0\/(bZ ts).2≠0
 . have e:xx ts s=none:=(by rw[xx,Zb4 h]);rw[RI hc 1 (r:=(FG (xx ts s),st)),aE (agu _) (aZ.refl st)];rw[YQ,e];by_cases h1:s<0
   .simp[h1,FG]
   .have h3:(bZ ts).2≠0:=h.resolve_left h1;simp[h1,h3,hv,FG]
 . have e:xx ts s=JU ts s 0:=(by rw[xx,Za7 h]);have h1:¬s<0:=λe=>h (.inl e)
   have h3:(bZ ts).2=0:=Zl3 λe=>h (.inr e)
   have hl:=OV h3;have hex:=λk1 k2=>anp hc z ts hl 20 k1 k2 19 0 s st hw (by omega) (by omega) (by omega) hs
   obtain⟨st',hg,L⟩:=hex (λvs s40=>ir vs λx4 vs=>ir vs λx5 vs=>ir vs λx6 vs=>mG vs (some (.tuple [x4,x5,x6],s40)))
     (λvs s41=>mG vs (aq c .move [.int .i64 0] s41 λx4 s42=>aq c .move [.int .i64 0] s42 λx5 s43=>aq c .move [.bool false] s43 λx6 s44=>some (.tuple [x4,x5,x6],s44)))
   rw[RI hc 20 (r:=(FG (xx ts s),st')),aE (agu _) hg.keeps];rw[YQ,e]
   have L':sZ c 20 (λvs s40=>ir vs λx4 vs=>ir vs λx5 vs=>ir vs λx6 vs=>mG vs (some (.tuple [x4,x5,x6],s40)))
     (fun vs s41=>mG vs (aq c .move [.int .i64 0] s41 fun x4 s42=>aq c .move [.int .i64 0] s42 fun x5 s43=>aq c .move [.bool false] s43 fun x6 s44=>some (.tuple [x4,x5,x6],s44))) 20
        [.int .i64 s,tabs z ts,.int .i64 (ts.length:Int),.int .i64 0] st=some (FG (JU ts s 0),st'):=by
     have:=L;simp only[Ze3]at this;rw[show((0:Nat):Int)=0 from rfl]at this;rw[this];cases JU ts s 0 with
     |none=>simp[FG]
     |some p=>simp[FG]
   simp at L';simp[h1,h3,hv,lT,L']
def mE(ts:List aC)(a b:Int):Option (aC×Int×Int):=match xx ts a,xx ts b with
 |some (i,x),some (k,y)=>if i=k then(ts[i]?).map λt=>(t,x,y)else none
 |_,_=>none
def zT:aC:=⟨[],0,0,0,true,[],0,0⟩
def BO:Option (aC×Int×Int)->AV
 |some (t,x,y)=>.tuple [.agg t.cells,.int .i64 x,.int .i64 y,.bool true]
 |none=>.tuple [.agg zT.cells,.int .i64 0,.int .i64 0,.bool false]
theorem abo(ts:List aC):∀(m k:Nat),ts.length<=k+m->(iO ts m k).2=0->∀(i:Nat)(t:aC),k<=i->ts[i]? =some t->sN t=0
 |0,k,h1,_,i,t,h3,h4=>by rw[Zc0 (by omega)]at h4;cases h4
 |m +   1,k,h1,h2,i,t,h3,h4=>by
  have hk:k<ts.length:=by have:=(Za1.1 h4).1;omega
  rw[iO,H0 hk]at h2;simp only at h2;by_cases h5:sN ts[k]=0
  . rw[Za7 (by simpa using h5)]at h2;split at h2
    .   simp at h2
    .   by_cases h6:i=k
        .subst h6;rw[H0 hk]at h4;cases h4;exact h5
        .exact abo ts m (k+1) (by omega) h2 i t (by omega) h4
  .rw[Zb4 h5]at h2;exact absurd h2 h5
theorem agv{ts:List aC}(h:(bZ ts).2=0){i:Nat}{t:aC}(ht:ts[i]? =some t):sN t=0:=by
 unfold bZ at h;split at h
 .simp at h
 .exact abo ts _ 0 (by omega) h i t (by omega) ht
theorem apw{t:aC}(h:sN t=0):bQ t≠0:=by
 unfold sN at h;split at h
 .cases h
 . split at h
   .cases h
   .assumption
theorem Nj{ts:List aC}{s:Int}{i:Nat}{x:Int}(h:xx ts s=some (i,x)):(bZ ts).2=0/\0<=x/\∃t,ts[i]? =some t/\x<bQ t/\t.Fit:=by
 unfold xx at h;split at h
 .cases h
 . (rename_i hn;have h1:¬s<0:=λe=>hn (.inl e));have h3:(bZ ts).2=0:=Zl3 λe=>hn (.inr e)
   obtain⟨_,q2,t,q3,q4⟩:=ajG (by omega) h;exact⟨h3,q2,t,q3,q4,aeh (apw (agv h3 q3))⟩
theorem aek{ts:List aC}{a b:Int}{t:aC}{x y:Int}(h:mE ts a b=some (t,x,y)):t.Fit/\Sm x/\Sm y:=by
 unfold mE at h;split at h
 . rename_i i x' k y' h1 h2;split at h
   .rename_i hk;subst hk;obtain⟨_,p1,t1,p2,p3,p4⟩:=Nj h1;obtain⟨_,q1,t2,q2,q3,_⟩:=Nj h2;rw[p2]at q2 h;cases q2;simp only[Ze5,H5,Zd3]at h;obtain⟨rfl,rfl,rfl⟩:=h;have:=Be t1;exact⟨p4,by omega,by omega⟩
   .cases h
 .cases h
theorem akN(o:Option (aC×Int×Int)):Plain (BO o):=by
 cases o with
 |none=>exact Plain.tuple λv hv=>by simp at hv;rcases hv with rfl|rfl|rfl|rfl<;>first|exact Plain.agg (by intro v hv;simp only[aC.cells,Za9,Zc6,Zf3]at hv;rcases hv with rfl|rfl|rfl|rfl|rfl|rfl|rfl<;>first|exact Plain.str _|exact Plain.int _ _|exact ad1 _ _)|exact Plain.int _ _|exact Plain.bool _
 |some p=>exact Plain.tuple λv hv=>by simp at hv;rcases hv with rfl|rfl|rfl|rfl<;>first|exact Plain.agg (by intro v hv;simp only[aC.cells,Za9,Zc6,Zf3]at hv;rcases hv with rfl|rfl|rfl|rfl|rfl|rfl|rfl<;>first|exact Plain.str _|exact Plain.int _ _|exact ad1 _ _)|exact Plain.int _ _|exact Plain.bool _
def BP:Option (aC×Int×Int)->List AV
 |some (t,_,_)=>t.cells
 |none=>zT.cells
theorem ajH(hc:Sem c)(z:Bool)(ts:List aC)(cF:∀t∈ts,t.Ok)(a b:Int)(ha:a<=4611686018427387904)(hb:b<=4611686018427387904)(st:St)(hw:Wf st):
  c 125 [tabs z ts,.int .i64 a,.int .i64 b] st=some (BO (mE ts a b),st):=by
 have dm:Wf (ah st (.cells [.str [],.int .u8 0,.int .i64 0,.int .i64 0,.af,.int .i64 0,.int .i64 0] 0)):=bP hw;have hcut:cut [AV.str [],.int .u8 0,.int .i64 0,.int .i64 0,.af,.int .i64 0,.int .i64 0] 0 7=some [AV.str [],.int .u8 0,.int .i64 0,.int .i64 0,.af,.int .i64 0,.int .i64 0]:=rfl;have Wa:=UD hc z ts cF a ha _ dm;have Wb:=UD hc z ts cF b hb _ dm;rw[ahf hc 1 (r:=(BO (mE ts a b),ah st (.cells (BP (mE ts a b)) 0))),aE (akN _) (cM hw)];rw[akO];cases h1:xx ts a with
 |none=>
  have e:mE ts a b=none:=by unfold mE;rw[h1]
  rw[h1]at Wa;rw[e];cases h2:xx ts b with
  |none=>rw[h2]at Wb;simp[Wa,Wb,FG,BO,BP,zT,aC.cells,AV.cells,ints,ro,aV,AV.one,cS,hcut]
  |some q=>rw[h2]at Wb;simp[Wa,Wb,FG,BO,BP,zT,aC.cells,AV.cells,ints,ro,aV,AV.one,cS,hcut]
 |some p=>
  obtain⟨i,x⟩:=p;rw[h1]at Wa;cases h2:xx ts b with
  |none=>
   have e:mE ts a b=none:=(by unfold mE;rw[h1,h2]);rw[h2]at Wb;rw[e];simp[Wa,Wb,FG,BO,BP,zT,aC.cells,AV.cells,ints,ro,aV,AV.one,cS,hcut]
  |some q=>
   obtain⟨k,y⟩:=q;rw[h2]at Wb;obtain⟨_,p1,t1,p2,p3,p4⟩:=Nj h1;by_cases hk:i=k
   .    subst hk;have e:mE ts a b=some (t1,x,y):=(by unfold mE;rw[h1,h2];simp[p2]);obtain⟨hi,hg⟩:=Za1.1 p2;rw[e];subst hg;unfold tabs at Wa Wb ⊢;simp[Wa,Wb,FG,BO,BP,hi,aC.len]
   .    have e:mE ts a b=none:=(by unfold mE;rw[h1,h2];simp[hk]);have pX:¬(i:Int)=(k:Int):=(by omega);rw[e];simp[Wa,Wb,FG,pX,BO,BP,zT,aC.cells,AV.cells,ints,ro,aV,AV.one,cS,hcut]
def GN(ts:List aC)(a b:Int):Bool:=match mE ts a b with|some (t,x,y)=>Qb t x y|none=>false
def GO(ts:List aC)(a b:Int):Bool:=match mE ts a b with|some (t,x,y)=>UC t x y|none=>false
theorem apx(hc:Sem c)(z:Bool)(ts:List aC)(cF:∀t∈ts,t.Ok)(a b:Int)(ha:a<=4611686018427387904)(hb:b<=4611686018427387904)(st:St)(hw:Wf st):
  c 64 [tabs z ts,.int .i64 a,.int .i64 b] st=some (.bool (GN ts a b),st):=by
 have P:=ajH hc z ts cF a b ha hb st hw;rw[ael hc 1 (r:=(.bool (GN ts a b),ah st (.cells (BP (mE ts a b)) 0))),aE (Plain.bool _) (cM hw)];rw[ahg];unfold GN;cases h:mE ts a b with
 |none=>rw[h]at P;simp[P,BO,BP,aC.len]
 |some p=>
  obtain⟨t,x,y⟩:=p;obtain⟨q1,q2,q3⟩:=aek h;have B:=ags hc t q1 x y q2 q3 (ah st (.cells t.cells 0)) (bP hw);rw[h]at P;simp[P,BO,BP,aC.len,B]
theorem apy(hc:Sem c)(z:Bool)(ts:List aC)(cF:∀t∈ts,t.Ok)(a b:Int)(ha:a<=4611686018427387904)(hb:b<=4611686018427387904)(st:St)(hw:Wf st):
  c 66 [tabs z ts,.int .i64 a,.int .i64 b] st=some (.bool (GO ts a b),st):=by
 have P:=ajH hc z ts cF a b ha hb st hw;rw[aem hc 1 (r:=(.bool (GO ts a b),ah st (.cells (BP (mE ts a b)) 0))),aE (Plain.bool _) (cM hw)];rw[ahh];unfold GO;cases h:mE ts a b with
 |none=>rw[h]at P;simp[P,BO,BP,aC.len]
 |some p=>
  obtain⟨t,x,y⟩:=p;obtain⟨q1,q2,q3⟩:=aek h;have B:=agt hc t q1 x y q2 q3 (ah st (.cells t.cells 0)) (bP hw);rw[h]at P;simp[P,BO,BP,aC.len,B]
def zl(x:Int):List Int->Nat->Int
 |[],_=> -1
 |y::l,i=>if x=y then(i:Int)else zl x l (i+1)
theorem alL{x:Int}:∀(l:List Int)(i:Nat),(0<=zl x l i)↔x∈l
 |[],i=>by simp[zl]
 |y::l,i=>by
  unfold zl;by_cases h:x=y
  .simp[h]
  .rw[Za7 h,alL l (i+1)];simp[h]
theorem apz(x:Int)(z:Bool)(l:List Int)(hl:l.length<vM)(F:Nat)(st:St)(k1 k2):∀(m k:Nat),l.length<=k+m->k<=l.length->
  iJ c F k1 k2 (m+1) [ints z l,.int .i64 x,.int .i64 (l.length:Int),.int .i64 (k:Int)] st=
    if 0<=zl x (l.drop k) k then k1 [.int .i64 (zl x (l.drop k) k)] st else k2 [] st:=by
 intro m;induction m with
 |zero=>
  intro k h1 h2;obtain rfl:k=l.length:=by omega
  rw[js];simp[zl]
 |succ m ih=>
  intro k h1 h2;rw[js];by_cases h:k<l.length
  . have w:av .i64 ((k:Int)+1)=((k+1:Nat):Int):=wrap64 (by omega) (by unfold vM at hl;omega);rw[Zd2 h,zl];by_cases h3:x=l[k]
    .   subst h3;simp[ints,h]
    .   have:=ih (k+1) (by omega) (by omega);simp only[h3,Zg7];rw[<-this];simp[ints,h,h3,w]
  .obtain rfl:k=l.length:=(by omega);simp[zl]
theorem apA(hc:Sem c)(z:Bool)(l:List Int)(hl:l.length<vM)(x:Int)(st:St):c 138 [ints z l,.int .i64 x] st=some (.int .i64 (zl x l 0),st):=by
 have lI:∀(K:AV->St->Option (AV×St))(s:St),aq c (.lenB .l) [ints z l] s K=K (.int .i64 (l.length:Int)) s:=λK s=>by unfold ints;rw[jL];simp
 have L:=λk1 k2=>apz (c:=c) x z l hl (l.length+1) st k1 k2 l.length 0 (by omega) (by omega)
 simp only[Ze3]at L;rw[Nk hc (l.length+1) (r:=(.int .i64 (zl x l 0),st)),aE (Plain.int _ _) (aZ.refl st)];rw[Bb];simp only[au,lI];rw[show(0:Int)=((0:Nat):Int)from rfl,L];by_cases h:0<=zl x l 0
 .simp[h]
 . have:zl x l 0= -1:=by
    have:∀(l:List Int)(i:Nat),0<=zl x l i\/zl x l i= -1:=by
        intro l;induction l with
        |nil=>intro i;exact .inr rfl
        |cons y l ih=>intro i;unfold zl;split;exact .inl (by omega);exact ih _
    exact(this l 0).resolve_left h
   simp[h,this]
theorem YA(hc:Sem c)(z:Bool)(l:List Int)(hl:l.length<vM)(x:Int)(st:St):c 73 [ints z l,.int .i64 x] st=some (.bool (decide (x∈l)),st):=by
 rw[It hc 1 (r:=(.bool (decide (x∈l)),st)),aE (Plain.bool _) (aZ.refl st)];rw[yq];have e:decide (0<=zl x l 0)=decide (x∈l):=by rw[decide_eq_decide];exact alL l 0
 simp[apA hc z l hl x st,e]
def Gx(ts:List aC)(a:Int):Bool:=match xx ts a with|some (i,x)=>decide (x∈(ts[i]?.getD zT).kK)|none=>false
theorem auD(hc:Sem c)(z:Bool)(ts:List aC)(cF:∀t∈ts,t.Ok)(a:Int)(ha:a<=4611686018427387904)(st:St)(hw:Wf st):
  c 61 [tabs z ts,.int .i64 a] st=some (.bool (Gx ts a),st):=by
 have W:=UD hc z ts cF a ha st hw;rw[ahi hc 1 (r:=(.bool (Gx ts a),st)),aE (Plain.bool _) (aZ.refl st)];rw[akP];unfold Gx;cases h:xx ts a with
 |none=>rw[h]at W;simp[W,FG]
 |some p=>
  obtain⟨i,x⟩:=p;obtain⟨_,p1,t1,p2,p3,p4⟩:=Nj h;obtain⟨hi,hg⟩:=Za1.1 p2;subst hg;have c4:(ts[i]).cells[4]? =some (ints (ts[i]).oz (ts[i]).kK):=rfl;have C:=YA hc (ts[i]).oz (ts[i]).kK (cF _ (Zb8 hi)).kK x st;rw[h]at W;unfold tabs at W ⊢;simp[W,FG,hi,c4,C]
abbrev ajI(m:Nat):List AV:=[.int .i64 (m:Int)]
abbrev cI(i:Int):AV:= .int .i64 i
def rE(nr:Nat->Bool)(k:Nat):List Nat->List Int->List Nat->List Int×List Nat
 |[],o,q=>(o,q)
 |m::ms,o,q=>if o.getD m 0<0/\nr m=true then rE nr k ms (o.set m (o.getD k 0+1)) (q++[m])else rE nr k ms o q
def ahz(nr:Nat->Nat->Bool)(n:Nat):Nat->List Int->List Nat->List Int
 |0,o,_=>o
 |_+1,o,[]=>o
 |f+1,o,k::q=>ahz nr n f (rE (nr k) k (List.range n) o q).1 (rE (nr k) k (List.range n) o q).2
structure SI(s0 s:St)(pt po:Pos)(t:aC)(n:Nat)(o:List Int)(qv:AV)(q:List Nat)(B:Int):Prop where
 jW:Wf s0
 ai:Grew s0 s
 tab:s.heap.get pt=some (.cells t.cells 0)
 out:s.heap.get po=some (.cells (o.map cI) 0)
 len:o.length=n
 Nl:QS 1 s qv (q.map ajI)
 ne1:aR qv≠some pt
 ne2:aR qv≠some po
 ne3:pt≠po
 asg:s0.next.toNat<=pt.toNat
 anq:s0.next.toNat<=po.toNat
 GY:∀b,aR qv=some b->s0.next.toNat<=b.toNat
 small:∀v∈o,-1<=v/\v<=B
 qlt:∀m∈q,m<n
theorem LN(o:List Int)(j:Nat)(h:j<o.length)(v:Int):bf (o.map cI) j [cI v]=(o.set j v).map cI:=by unfold bf;rw[Zr8,Zn6,Zb4 (by simpa using h)];simp
theorem auE (hc:Sem c){s0:St}{pt po:Pos}{t:aC}(ht:t.Fit){n:Nat}(hn:n<=1000){k:Nat}(hk:k<n){B:Int}(hB:B<=1000000)(F:Nat)(k6):
  ∀ (r j f:Nat)(s:St)(o:List Int)(qv:AV)(q:List Nat),r<f->j+r=n->SI s0 s pt po t n o qv q (B+1)->o.getD k 0<=B->0<=o.getD k 0->q.length<=4000+j->
    ∃   s' qv',SI s0 s' pt po t n (rE (λm=>Ay t k m) k (List.range' j r) o q).1 qv' (rE (λm=>Ay t k m) k (List.range' j r) o q).2 (B+1)/\
        td c F k6 f [.ptr pt 0,.slice po 0 n (some n) 1,qv,.int .i64 (k:Int),.slice po 0 n (some n) 1,.int .i64 (n:Int),.int .i64 (j:Int)] s=k6 [.ptr pt 0,.slice po 0 n (some n) 1,qv'] s':=by
 intro r;induction r with
 |zero=>
  intro j f s o qv q hf h1 hI ux DX hq;obtain⟨g,rfl⟩:∃g,f=g+1:=⟨f - 1,by omega⟩
  obtain rfl:j=n:=by omega
  refine⟨s,qv,hI,?_⟩;rw[yB];simp
 |succ r ih=>
  intro j f s o qv q hf h1 hI ux DX hq;obtain⟨g,rfl⟩:∃g,f=g+1:=⟨f - 1,by omega⟩
  have hj:j<n:=by omega
  have hjo:j<o.length:=by rw[hI.len];exact hj
  have Vx:k<o.length:=by rw[hI.len];exact hk
  have hw:=hI.ai.wf;have w:av .i64 ((j:Int)+1)=((j+1:Nat):Int):=wrap64 (by omega) (by omega);have N:=auC hc t ht k j ⟨by omega,by omega⟩ ⟨by omega,by omega⟩ s hw;have ix:∀(i:Nat),i<n->∀(K:AV->St->Option (AV×St))(s1:St),aq c (.idxA 1 none) [.slice po 0 n (some n) 1,.int .i64 (i:Int)] s1 K=K (.ptr po i) s1:=λi hi K s1=>by rw[je c K s1 hi];simp
  have ixj:=ix j hj;have ixk:=ix k hk;have gj:(o.map cI)[j]? =some (.int .i64 o[j]):=by rw[Zb3,H0 hjo];rfl
  have gk:(o.map cI)[k]? =some (.int .i64 o[k]):=by rw[Zb3,H0 Vx];rfl
  have ej:o.getD j 0=o[j]:=by simp[List.getD,H0 hjo]
  have ek:o.getD k 0=o[k]:=by simp[List.getD,H0 Vx]
  have tb:=hI.tab;have ou:=hI.out;rw[Zp0];by_cases hd:o[j]<0
  . cases   hb:Ay t k j with
    |   true=>
        have e:rE (λm=>Ay t k m) k (j::List.range' (j+1) r) o q=rE (λm=>Ay t k m) k (List.range' (j+1) r) (o.set j (o[k]+1)) (q++[j]):=by
         rw[rE,Zb4 ⟨by rw[ej];exact hd,hb⟩,ek]
        have w2:av .i64 (o[k]+1)=o[k]+1:=wrap64 (by omega) (by omega);have YR:=hw _ _ ou;have iQ:∀(K:AV->St->Option (AV×St)),aq c (.store 1) [.ptr po j,.int .i64 (o[k]+1)] s K=K .undef (bn s po (.cells ((o.set j (o[k]+1)).map cI) 0)):=λK=>by rw[cH c K s 1 po j (.int .i64 (o[k]+1)) (o.map cI) ou rfl (by simp;omega) rfl, <-LN o j hjo];rfl
        have dm:Wf (bn s po (.cells ((o.set j (o[k]+1)).map cI) 0)):=kq hw YR;have q1:QS 1 (bn s po (.cells ((o.set j (o[k]+1)).map cI) 0)) qv (q.map ajI):=hI.Nl.mono λb x hb hx=>by rw[aM (λe=>hI.ne2 (by rw[hb,e]))];exact hx
        obtain⟨s5,v5,a1,a2,a3,a4,a5,a6⟩:=q1.push (c:=c) (R:=AV×St) (bytes:=8) dm (λr hr=>by simp only[Zc9]at hr;obtain⟨m,_,rfl⟩:=hr;rfl) (z:=[.int .i64 0]) (x:= .int .i64 (j:Int)) rfl rfl rfl (by decide) (by simp;omega) (by simp;omega);have t5:s5.heap.get pt=some (.cells t.cells 0):=a5 pt _ hI.ne1 (by rw[aM (λe=>hI.ne3 e.symm)];exact tb);have o5:s5.heap.get po=some (.cells ((o.set j (o[k]+1)).map cI) 0):=a5 po _ hI.ne2 (bW _ _ _);have g5:Grew s0 s5:=⟨a3,λp b hg=>by
         have h0:=hI.jW _ _ hg;refine a5 p b (λe=> ?_) ?_
         .  have:=hI.GY p e;omega
         .  rw[aM (λe=>by have:=hI.anq;rw[e]at this;omega)];exact hI.ai.get hg,Zb2 hI.ai.next (by rw[dS]at a4;exact a4)⟩
        have I5:SI s0 s5 pt po t n (o.set j (o[k]+1)) v5 (q++[j]) (B+1):=by
         refine⟨hI.jW,g5,t5,o5,by simp[hI.len],by rw[Zc8];exact a2,λe=> ?_,λe=> ?_,hI.ne3,hI.asg,hI.anq,λb e=> ?_,λv hv=> ?_,λm hm=> ?_⟩
         .  have:=a6 _ e;rw[dS]at this;have:=hw _ _ tb;omega
         .  have:=a6 _ e;rw[dS]at this;omega
         .  have:=a6 _ e;rw[dS]at this;have:=hI.ai.next;omega
         .  rcases Zh3 hv with h|h
            .exact hI.small v h
            .subst h;omega
         .  rcases Ze0.1 hm with h|h
            .exact hI.qlt m h
            .simp at h;omega
        have hkj:j≠k:=λe=>by subst e;omega
        have ek5:(o.set j (o[k]+1)).getD k 0=o[k]:=(by simp[List.getD,Zf2 hkj,H0 Vx]);obtain⟨s',qv',b1,b2⟩:=ih (j+1) g s5 _ v5 (q++[j]) (by omega) (by omega) I5 (by rw[ek5];omega) (by rw[ek5];omega) (by simp;omega);rw[e];refine⟨s',qv',b1,?_⟩;rw[<-b2,yB];rw[hb]at N;simp[-ax,-List.map_set,iE,hj,ixj,ixk,tb,ou,gj,gk,hd,N,aC.len,w2,iQ,a1,w]
    |   false=>
        have e:rE (λm=>Ay t k m) k (j::List.range' (j+1) r) o q=rE (λm=>Ay t k m) k (List.range' (j+1) r) o q:=by
         rw[rE,Za7 (by rw[hb];simp)]
        obtain⟨s',qv',b1,b2⟩:=ih (j+1) g s _ qv q (by omega) (by omega) hI ux DX (by omega);rw[e];refine⟨s',qv',b1,?_⟩;rw[<-b2,yB];rw[hb]at N;simp[iE,hj,ixj,tb,ou,gj,hd,N,aC.len,w]
  . have e:rE (λm=>Ay t k m) k (j::List.range' (j+1) r) o q=rE (λm=>Ay t k m) k (List.range' (j+1) r) o q:=by
        rw[rE,Za7 (by rw[ej];simp[hd])]
    obtain⟨s',qv',b1,b2⟩:=ih (j+1) g s _ qv q (by omega) (by omega) hI ux DX (by omega);rw[e];refine⟨s',qv',b1,?_⟩;rw[<-b2,yB];simp[iE,hj,ixj,tb,ou,gj,hd,w]
def neg(o:List Int):Nat:=o.countP λv=>decide (v<0)
theorem auF{o:List Int}{m:Nat}{v:Int}(h:m<o.length)(h1:o[m]<0)(h2:0<=v):neg (o.set m v)+1=neg o:=by
 unfold neg;rw[List.countP_set h];have a:(decide (o[m]<0))=true:=by simpa using h1
 have b:(decide (v<0))=false:=by simp;omega
 simp only[a,b,Zh6,Ze7,Zg7];have:0<o.countP λv=>decide (v<0):=List.countP_pos_iff.2 ⟨o[m],Zb8 h,a⟩
 omega
theorem UE(nr:Nat->Bool)(k:Nat):∀(ms:List Nat)(o:List Int)(q:List Nat),(∀m∈ms,m<o.length)->0<=o.getD k 0->(∀m∈q,0<=o.getD m 0)->
  2*neg (rE nr k ms o q).1+(rE nr k ms o q).2.length<=2*neg o+q.length/\(rE nr k ms o q).1.length=o.length/\(∀m∈(rE nr k ms o q).2,0<=(rE nr k ms o q).1.getD m 0)/\(∀m,0<=o.getD m 0->(rE nr k ms o q).1.getD m 0=o.getD m 0)
 |[],o,q,_,_,h=>⟨Za5 _,rfl,h,λ_ _=>rfl⟩
 |m ::ms,o,q,hm,hk,h=>by
  have hmo:=hm m (by simp);by_cases hc:o.getD m 0<0/\nr m=true
  . (rw[rE,Zb4 hc];have em:o.getD m 0=o[m]:=(by simp[List.getD,H0 hmo]);have dP:∀i,0<=o.getD i 0->m≠i:=λi hi e=>by subst e;omega);have get:∀i,m≠i->(o.set m (o.getD k 0+1)).getD i 0=o.getD i 0:=λi hi=>by simp[List.getD,Zf2 hi]
    have gm:(o.set m (o.getD k 0+1)).getD m 0=o.getD k 0+1:=(by simp[List.getD,hmo]);obtain⟨a1,a2,a3,a4⟩:=UE nr k ms (o.set m (o.getD k 0+1)) (q++[m]) (λi hi=>by simpa using hm i (Zb0 _ hi)) (by rw[get k (dP k hk)];exact hk) (λi hi=>by
        rcases Ze0.1 hi with hi|hi
        .rw[get i (dP i (h i hi))];exact h i hi
        .simp at hi;subst hi;rw[gm];omega)
    have hs:=auF hmo (by rw[<-em];exact hc.1) (show 0<=o.getD k 0+1 by omega);refine⟨by simp only[Zd9,Zc7,Zi2]at a1;omega,by simpa using a2,a3,λi hi=> ?_⟩;rw[a4 i (by rw[get i (dP i hi)];exact hi),get i (dP i hi)]
  .rw[rE,Za7 hc];exact UE nr k ms o q (λi hi=>hm i (Zb0 _ hi)) hk h
theorem SI.le{s0 s:St}{pt po:Pos}{t:aC}{n:Nat}{o:List Int}{qv:AV}{q:List Nat}{B B':Int}(h:SI s0 s pt po t n o qv q B)(hB:B<=B'):SI s0 s pt po t n o qv q B':=
 ⟨h.jW,h.ai,h.tab,h.out,h.len,h.Nl,h.ne1,h.ne2,h.ne3,h.asg,h.anq,h.GY,λv hv=>⟨(h.small v hv).1,by have:=(h.small v hv).2;omega⟩,h.qlt⟩
theorem ash(hc:Sem c){s0:St}{pt po:Pos}{t:aC}(ht:t.Fit){n:Nat}(hn:n<=1000)(F:Nat)(hF:n<F)(k4):
  ∀(f:Nat)(g:Nat)(s:St)(o:List Int)(qv:AV)(q:List Nat)(B:Int),f<g->SI s0 s pt po t n o qv q B->2*neg o+q.length<=f->B+f<=1000000->0<=B->f<=3000->(∀m∈q,0<=o.getD m 0)->
   ∃    s',Grew s0 s'/\s'.heap.get po=some (.cells ((ahz (λk m=>Ay t k m) n f o q).map cI) 0)/\(ahz (λk m=>Ay t k m) n f o q).length=n/\
        pU c F k4 g [.ptr pt 0,.slice po 0 n (some n) 1,qv] s=k4 [.slice po 0 n (some n) 1] s':=by
 intro f;induction f with
 |zero=>
  intro g s o qv q B hg hI h1 h2 h3 h4 h5;obtain⟨g,rfl⟩:∃g',g=g'+1:=⟨g - 1,by omega⟩
  have hq:q=[]:=Zc4 (by omega);subst hq;refine⟨s,hI.ai,hI.out,hI.len,?_⟩;have hl:∀(K:AV->St->Option (AV×St))(s1:St),aq c (.lenB .l) [qv] s1 K=K (.int .i64 0) s1:=λK s1=>by rw[hI.Nl.lenB];simp
  rw[DY];simp[hl]
 |succ f ih=>
  intro g s o qv q B hg hI h1 h2 h3 h4 h5;obtain⟨g,rfl⟩:∃g',g=g'+1:=⟨g - 1,by omega⟩
  have hl:∀(K:AV->St->Option (AV×St))(s1:St),aq c (.lenB .l) [qv] s1 K=K (.int .i64 (q.length:Int)) s1:=λK s1=>by rw[hI.Nl.lenB];simp
  cases q with
  |nil=>
   refine⟨s,hI.ai,hI.out,hI.len,?_⟩;rw[DY];simp[hl]
  |cons k q=>
   have hr:∀r∈(k::q).map ajI,r.length=1:=λr hr=>by simp only[Zc9]at hr;obtain⟨m,_,rfl⟩:=hr;rfl
   obtain⟨b,ob,cs,a1,a2,a3,a4⟩:=hI.Nl.at (c:=c) (R:=AV×St) hr (by decide) (i:=0) (by simp);obtain⟨v',t1,t2,t3⟩:=QS.tail (R:=AV×St) (c:=c) (r:=ajI k) (rows:=q.map ajI) hI.Nl rfl;have hk:k<n:=hI.qlt k (by simp);have Vx:k<o.length:=(by rw[hI.len];exact hk);have gk:cs[ob]? =some (.int .i64 (k:Int)):=(by simpa using a4 0 (.int .i64 (k:Int)) rfl);have i0:∀(K:AV->St->Option (AV×St))(s1:St),aq c (.idxA 1 none) [qv,.int .i64 0] s1 K=K (.ptr b ob) s1:=λK s1=>a1 K .i64 s1
   have lo:∀(K:AV->St->Option (AV×St))(s1:St),aq c (.lenB .l) [.slice po 0 n (some n) 1] s1 K=K (.int .i64 (n:Int)) s1:=λK s1=>lK c K s1 _ _ _ _ _
   have ek:o.getD k 0=o[k]:=(by simp[List.getD,H0 Vx]);have sm:=hI.small o[k] (Zb8 Vx);have tE:=h5 k (by simp);have I1:SI s0 s pt po t n o v' q (B+1):=by
        have I2:=hI.le (B':=B+1) (by omega);exact⟨I2.jW,I2.ai,I2.tab,I2.out,I2.len,t2,λe=>I2.ne1 (t3 _ e),λe=>I2.ne2 (t3 _ e),I2.ne3,I2.asg,I2.anq,λb hb=>I2.GY b (t3 b hb),I2.small,λm hm=>I2.qlt m (Zb0 _ hm)⟩
   obtain⟨s1,v1,b1,b2⟩:=auE hc ht hn hk (B:=B) (by omega) F (λvs s71=>ir vs λx2 vs=>ir vs λx5 vs=>ir vs λx7 vs=>mG vs (pU c F k4 g [x2,x5,x7] s71)) n 0 F s o v' q hF (by omega) I1 (by rw[ek];omega) tE (by simp only[Zc7]at h1;omega);rw[<-Zl4]at b1;obtain⟨p1,p2,p3,p4⟩:=UE (λm=>Ay t k m) k (List.range n) o q (λm hm=>by rw[hI.len];exact Zi0.1 hm) tE (λm hm=>h5 m (Zb0 _ hm));obtain⟨s',c1,c2,c3,c4⟩:=ih g s1 _ v1 _ (B+1) (by omega) b1 (by simp only[Zc7]at h1;omega) (by omega) (by omega) (by omega) p3;refine⟨s',c1,c2,c3,?_⟩;rw[<-c4,DY];simp at b2;have Xv:0<(q.length:Int)+1:=(by omega);simp[hl,i0,a3,gk,t1,lo,b2,Xv]
def B8(n k:Nat):List Int:=List.replicate k (-1)++List.replicate (n - k) 0
theorem auG{n k:Nat}(h:k<n):(B8 n k).set k (-1)=B8 n (k+1):=by unfold B8;rw[Zk1 _ _ (by simp)];simp only[List.length_replicate,Zk7];rw[show n - k=(n - (k+1))+1 by omega,Zm9,Zq6,List.replicate_succ',Zf0];rfl
theorem auH{n k:Nat}(h:k<=n):(B8 n k).length=n:=by unfold B8;simp;omega
theorem apB{s0:St}{pt po:Pos}{t:aC}{n:Nat}(hn:n<=1000)(dP:pt≠po)(YR:s0.next.toNat<=po.toNat)(Il:Wf s0)(x1:AV)(F:Nat)(k2):∀(m k f:Nat)(s:St),m<f->k+m=n->Grew s0 s->s.heap.get pt=some (.cells t.cells 0)->s.heap.get po=some (.cells ((B8 n k).map cI) 0)->
  ∃s',Grew s0 s'/\s'.heap.get pt=some (.cells t.cells 0)/\s'.heap.get po=some (.cells ((B8 n n).map cI) 0)/\
   th c F k2 f [x1,.ptr pt 0,.slice po 0 n (some n) 1,.int .i64 (n:Int),.int .i64 (k:Int)] s=k2 [x1,.ptr pt 0,.slice po 0 n (some n) 1] s':=by
 intro m;induction m with
 |zero=>
  intro k f s hf h1 hg ht ho;obtain⟨f,rfl⟩:∃g,f=g+1:=⟨f - 1,by omega⟩
  obtain rfl:k=n:=by omega
  refine⟨s,hg,ht,ho,?_⟩;rw[OX];simp
 |succ m ih=>
  intro k f s hf h1 hg ht ho;obtain⟨f,rfl⟩:∃g,f=g+1:=⟨f - 1,by omega⟩
  have hk:k<n:=by omega
  have w:av .i64 ((k:Int)+1)=((k+1:Nat):Int):=wrap64 (by omega) (by omega);have ix:∀(K:AV->St->Option (AV×St))(s1:St),aq c (.idxA 1 none) [.slice po 0 n (some n) 1,.int .i64 (k:Int)] s1 K=K (.ptr po k) s1:=λK s1=>by rw[je c K s1 hk];simp
  have hl:(B8 n k).length=n:=auH (by omega);have aW:=hg.wf _ _ ho;have iQ:∀(K:AV->St->Option (AV×St)),aq c (.store 1) [.ptr po k,.int .i64 (-1)] s K=K .undef (bn s po (.cells ((B8 n (k+1)).map cI) 0)):=λK=>by rw[cH c K s 1 po k (.int .i64 (-1)) ((B8 n k).map cI) ho rfl (by simp[hl];omega) rfl, <-auG hk, <-LN _ _ (by omega)];rfl
  have g1:Grew s0 (bn s po (.cells ((B8 n (k+1)).map cI) 0)):=⟨kq hg.wf aW,λp b hp=>by have:=Il _ _ hp;rw[aM (λe=>by rw[e]at YR;omega)];exact hg.get hp,by rw[dS];exact hg.next⟩
  obtain⟨s',a1,a2,a3,a4⟩:=ih (k+1) f _ (by omega) (by omega) g1 (by rw[aM (λe=>dP e.symm)];exact ht) (bW _ _ _);refine⟨s',a1,a2,a3,?_⟩;rw[<-a4,OX];simp[-List.map_set,hk,ix,iQ,w]
def RJ(t:aC)(fr:Nat):List Int:=ahz (λk m=>Ay t k m) (bQ t).toNat (2*(bQ t).toNat+1) ((List.replicate (bQ t).toNat (-1)).set fr 0) [fr]
theorem Nn{b:Pos}{off n es:Nat}(hn:n≠0)(h:Plain (.slice b off n (some n) es)):False:=by
 have h1:aG (λ_=>⟨0,0,off+n*es⟩) (b.toNat+1) (λ_=>none) (.slice b off n (some n) es) (.slice (some ⟨0,0+off,none⟩) n n):=
  .slice b off n (some n) es n _ (Za5 _) (λc hc=>by cases hc;rfl) (λ_=>⟨by omega,rfl,by simp⟩) (λh=>by cases h)
 have h2:=h _ (λ_=>⟨0,0,0⟩) _ 0 _ _ h1;cases h2 with
 |slice _ _ _ _ _ _ _ _ _ ha _=>exact absurd (ha hn).1 (by omega)
theorem ajJ{s s':St}{v:AV}(h:¬Plain v):tidy s (v,s')=(v,s'):=by
 unfold tidy;rw[Za7 (λe=>h e.1)]
theorem asi(hc:Sem c)(t:aC)(hz:bQ t≠0)(fr:Nat)(hf:(fr:Int)<bQ t)(s:St)(hw:Wf s):
  ∃b s',c 181 [.agg t.cells,.int .i64 (fr:Int)] s=some (.slice b 0 (bQ t).toNat (some (bQ t).toNat) 1,s')/\Grew s s'/\s'.heap.get b=some (.cells ((RJ t fr).map cI) 0)/\s.next.toNat<=b.toNat/\(RJ t fr).length=(bQ t).toNat:=by
 have ht:=aeh hz;have hb:=Be t;obtain⟨n,hn⟩:∃n:Nat,bQ t=(n:Int):=⟨(bQ t).toNat,by omega⟩
 have hn1:(bQ t).toNat=n:=by omega
 have QV:n≠0:=by omega
 have H8:n<=1000:=by omega
 have HO:fr<n:=by omega
 unfold RJ;rw[hn1];have dm:Wf (ah s (.cells t.cells 0)):=bP hw;have g1:=Grew.ah hw (.cells t.cells 0);have sz:=Rx hc t (ah s (.cells t.cells 0)) dm;rw[hn]at sz;have mk:=λ(K:AV->St->Option (AV×St))=>ae2 c K (ah s (.cells t.cells 0)) (es:=1) (bytes:=8) (z:=[.int .i64 0]) (k:= .i64) (k':= .i64) (n:=n) (by omega) (by omega)
 rw[DE]at mk;have tC:Wf (ah (ah s (.cells t.cells 0)) (.cells (List.replicate n (.int .i64 0)) 0)):=bP dm;have g2:=g1.trans (Grew.ah dm (.cells (List.replicate n (.int .i64 0)) 0));generalize uy:ah (ah s (.cells t.cells 0)) (.cells (List.replicate n (.int .i64 0)) 0)=s2 at mk tC g2;have pt2:s2.heap.get s.next=some (.cells t.cells 0):=by rw[<-uy];exact(Grew.ah dm _).get (aB _ _)
 have po2:s2.heap.get (ah s (.cells t.cells 0)).next=some (.cells ((B8 n 0).map cI) 0):=by rw[<-uy,aB];simp[B8]
 have hpp:s.next≠(ah s (.cells t.cells 0)).next:=by rw[bX];exact Pos.ZZ _
 have YR:s.next.toNat<=(ah s (.cells t.cells 0)).next.toNat:=by rw[bX,Pos.aH];omega
 generalize (ah s (.cells t.cells 0)).next=po at mk po2 hpp YR
 let k2:List AV->St->Option (AV×St):=λvs s18=>ir vs λx1 vs=>ir vs λx2 vs=>ir vs λx5 vs=>mG vs (
  aq c .move [x5] s18 λx23 s19=>
  aq c .move [x1] s19 λx24 s20=>
  aq c (.idxA 1 none) [x23,x24] s20 λx25 s21=>
  aq c (.store 1) [x25,(.int .i64 0)] s21 λ_ s22=>
  aq c .move [x1] s22 λx26 s23=>
  aq c (.buildSlice 1 1 [(.int .i64 0)] [0]) [x26] s23 λx27 s24=>
  aq c .move [x27] s24 λx7 s25=>
  pU c 4000 (λvs s72=>ir vs λx5 vs=>mG vs (
     aq c .move [x5] s72 λx64 s73=>
     aq c .move [x64] s73 λx4 s74=>
     some (x4,s74))) 4000 [x2,x5,x7] s25)
 obtain⟨s3,a1,a2,a3,a4⟩:=apB (c:=c) (s0:=s) (t:=t) H8 hpp YR hw (.int .i64 (fr:Int)) 4000 k2 n 0 4000 s2 (by omega) (by omega) g2 pt2 po2;have em:B8 n n=List.replicate n (-1):=by simp[B8]
 rw[em]at a3;have hl:(List.replicate n (-1:Int)).length=n:=by simp
 have aW:=a1.wf _ _ a3;have ix:∀(K:AV->St->Option (AV×St))(s1:St),aq c (.idxA 1 none) [.slice po 0 n (some n) 1,.int .i64 (fr:Int)] s1 K=K (.ptr po fr) s1:=λK s1=>by rw[je c K s1 HO];simp
 have iQ:∀(K:AV->St->Option (AV×St)),aq c (.store 1) [.ptr po fr,.int .i64 0] s3 K=K .undef (bn s3 po (.cells (((List.replicate n (-1:Int)).set fr 0).map cI) 0)):=λK=>by rw[cH c K s3 1 po fr (.int .i64 0) _ a3 rfl (by simp;omega) rfl, <-LN _ _ (by omega)];rfl
 have g4:Grew s (bn s3 po (.cells (((List.replicate n (-1:Int)).set fr 0).map cI) 0)):=⟨kq a1.wf aW,λp b hp=>by have:=hw _ _ hp;rw[aM (λe=>by rw[e]at YR;omega)];exact a1.get hp,by rw[dS];exact a1.next⟩
 have pt4:(bn s3 po (.cells (((List.replicate n (-1:Int)).set fr 0).map cI) 0)).heap.get s.next=some (.cells t.cells 0):=by rw[aM (λe=>hpp e.symm)];exact a2
 have po4:(bn s3 po (.cells (((List.replicate n (-1:Int)).set fr 0).map cI) 0)).heap.get po=some (.cells (((List.replicate n (-1:Int)).set fr 0).map cI) 0):=bW _ _ _;generalize hs4:bn s3 po (.cells (((List.replicate n (-1:Int)).set fr 0).map cI) 0)=s4 at iQ g4 pt4 po4;have row:=λ(K:AV->St->Option (AV×St))=>Gr (c:=c) (es:=1) (z:=[.int .i64 0]) (x:= .int .i64 (fr:Int)) rfl rfl s4 K
 have g5:=g4.trans (Grew.ah g4.wf (.cells (AV.cells (.int .i64 (fr:Int))) 0));have ati:=Grew.ah g4.wf (.cells (AV.cells (.int .i64 (fr:Int))) 0);have n4:s.next.toNat<s4.next.toNat:=g4.wf _ _ pt4;have n4o:po.toNat<s4.next.toNat:=g4.wf _ _ po4;have I:SI s (ah s4 (.cells (AV.cells (.int .i64 (fr:Int))) 0)) s.next po t n ((List.replicate n (-1:Int)).set fr 0) (.slice s4.next 0 1 (some 1) 1) [fr] 0:=by
  refine⟨hw,g5,ati.get pt4,ati.get po4,by simp,.inr (.inl ⟨s4.next,0,some 1,[.int .i64 (fr:Int)],rfl,aB _ _,by simp,by simp,.inr rfl⟩),λe=> ?_,λe=> ?_,hpp,Za5 _,YR,λb e=> ?_,λv hv=> ?_,λm hm=> ?_⟩
  .  have:=congrArg Pos.toNat (tI e);omega
  .  have:=congrArg Pos.toNat (tI e);omega
  .  have:=congrArg Pos.toNat (tI e);omega
  .  rcases Zh3 hv with h|h
     .rw[(List.mem_replicate.1 h).2];omega
     .subst h;omega
  .  simp at hm;omega
 have ana:neg ((List.replicate n (-1:Int)).set fr 0)<=n:=by unfold neg;refine Zb2 List.countP_le_length ?_;simp
 obtain⟨s6,b1,b2,b3,b4⟩:=ash hc ht H8 4000 (by omega) (λvs s72=>ir vs λx5 vs=>mG vs (aq c .move [x5] s72 λx64 s73=>aq c .move [x64] s73 λx4 s74=>some (x4,s74))) (2*n+1) 4000 _ _ _ [fr] 0 (by omega) I (by simp;omega) (by omega) (by omega) (by omega) (λm hm=>by
  simp at hm;subst hm;simp[List.getD,HO])
 refine⟨po,s6,?_,b1,b2,YR,b3⟩;have np:¬Plain (.slice po 0 n (some n) 1):=Nn QV;rw[afw hc 4000 (r:=(.slice po 0 n (some n) 1,s6)),ajJ np];rw[ajK];have L:th c 4000 k2 4000 [.int .i64 (fr:Int),.ptr s.next 0,.slice po 0 n (some n) 1,.int .i64 (n:Int),.int .i64 0] s2=some (.slice po 0 n (some n) 1,s6):=by
  rw[show(0:Int)=((0:Nat):Int)from rfl,a4];simp only[k2];simp at b4;simp[-ax,ix,iQ,row,b4]
 simp only[k2]at L;simp[-ax,aC.len,sz,mk,lK];simp[-ax]at L;exact L
def Np(t:aC):Int:=if t.sh=1 then 0 else if t.sh=2 then(if 0<t.b then t.a else t.a.tdiv 2)else if t.sh=3 then t.b+t.a.tdiv 2 else t.a.tdiv 2
theorem auI{t:aC}(h:bQ t≠0):0<=Np t/\Np t<bQ t:=by
 have f:=aeh h;unfold Np;rw[Zi8 f.a.1]
 revert h
 unfold bQ;intro h;split
 . rename_i h1;rw[Zb4 h1]at h;split at h
   .rename_i h2;rw[Zb4 h2];omega
   .exact absurd rfl h
 rename_i h1;rw[Za7 h1]at h;split
 . rename_i h2;rw[Zb4 h2]at h;split at h
   .rename_i h3;rw[Zb4 h3];split<;>omega
   .exact absurd rfl h
 rename_i h2;rw[Za7 h2]at h;split
 . rename_i h3;rw[Zb4 h3]at h;split at h
   .rename_i h4;rw[Zb4 h4];omega
   .exact absurd rfl h
 rename_i h3;rw[Za7 h3]at h;split at h
 . rename_i h4;rw[Zb4 h4];split at h
   .rename_i h5;rw[Zb4 h5];omega
   .exact absurd rfl h
 .exact absurd rfl h
theorem auJ(hc:Sem c)(a b:Int)(st:St):c 207 [.int .i64 a,.int .i64 b] st=some (.int .i64 0,st):=by rw[WZ hc 1 (r:=(.int .i64 0,st)),aE (Plain.int _ _) (aZ.refl st)];rw[aaX];simp
theorem auK(hc:Sem c)(a b:Int)(ha:Sm a)(st:St):c 212 [.int .i64 a,.int .i64 b] st=some (.int .i64 (if 0<b then a else a.tdiv 2),st):=by
 have hq:0<=a.tdiv 2/\a.tdiv 2<=1000000:=by rw[Zi8 ha.1];omega
 have w2:av .i64 (a.tdiv 2)=a.tdiv 2:=wrap64 (by omega) (by omega);rw[W6 hc 1 (r:=(.int .i64 (if 0<b then a else a.tdiv 2),st)),aE (Plain.int _ _) (aZ.refl st)];rw[aaY];by_cases h:0<b<;>simp[h,w2]
theorem auL(hc:Sem c)(a b:Int)(ha:Sm a)(hb:Sm b)(st:St):c 217 [.int .i64 a,.int .i64 b] st=some (.int .i64 (b+a.tdiv 2),st):=by
 have hq:0<=a.tdiv 2/\a.tdiv 2<=1000000:=by rw[Zi8 ha.1];omega
 have w2:av .i64 (a.tdiv 2)=a.tdiv 2:=wrap64 (by omega) (by omega);have w3:av .i64 (b+a.tdiv 2)=b+a.tdiv 2:=wrap64 (by omega) (by omega);rw[W7 hc 1 (r:=(.int .i64 (b+a.tdiv 2),st)),aE (Plain.int _ _) (aZ.refl st)];rw[aaZ];simp[w2,w3]
theorem auM(hc:Sem c)(a b:Int)(ha:Sm a)(st:St):c 222 [.int .i64 a,.int .i64 b] st=some (.int .i64 (a.tdiv 2),st):=by
 have hq:0<=a.tdiv 2/\a.tdiv 2<=1000000:=by rw[Zi8 ha.1];omega
 have w2:av .i64 (a.tdiv 2)=a.tdiv 2:=wrap64 (by omega) (by omega);rw[W9 hc 1 (r:=(.int .i64 (a.tdiv 2),st)),aE (Plain.int _ _) (aZ.refl st)];rw[aa0];simp[w2]
def RN(n:Nat)(d:Int):Int:=if d<0 then(n:Int)else d
def Nq(t:aC):List Int:=(RJ t (Np t).toNat).map (RN (bQ t).toNat)
theorem asj{s0:St}{po:Pos}{n:Nat}(hn:n<=1000)(YR:s0.next.toNat<=po.toNat)(Il:Wf s0)(o:List Int)(ho0:o.length=n)(F:Nat)(k2):∀(m k f:Nat)(s:St),m<f->k+m=n->Grew s0 s->s.heap.get po=some (.cells (((o.take k).map (RN n)++o.drop k).map cI) 0)->
  ∃ s',Grew s0 s'/\s'.heap.get po=some (.cells ((o.map (RN n)).map cI) 0)/\
    u6 c F k2 f [.slice po 0 n (some n) 1,.slice po 0 n (some n) 1,.int .i64 (n:Int),.int .i64 (k:Int)] s=k2 [.slice po 0 n (some n) 1] s':=by
 intro m;induction m with
 |zero=>
  intro k f s hf h1 hg ho;obtain⟨f,rfl⟩:∃g,f=g+1:=⟨f - 1,by omega⟩
  obtain rfl:k=n:=by omega
  refine⟨s,hg,?_,?_⟩
  .rw[ho,Zg0 (by omega),Zo3 (by omega),Zd7]
  .rw[B9];simp
 |succ m ih=>
  intro k f s hf h1 hg ho;obtain⟨f,rfl⟩:∃g,f=g+1:=⟨f - 1,by omega⟩
  have hk:k<n:=by omega
  have Vx:k<o.length:=by omega
  have w:av .i64 ((k:Int)+1)=((k+1:Nat):Int):=wrap64 (by omega) (by omega);have ix:∀(K:AV->St->Option (AV×St))(s1:St),aq c (.idxA 1 none) [.slice po 0 n (some n) 1,.int .i64 (k:Int)] s1 K=K (.ptr po k) s1:=λK s1=>by rw[je c K s1 hk];simp
  have lo:∀(K:AV->St->Option (AV×St))(s1:St),aq c (.lenB .l) [.slice po 0 n (some n) 1] s1 K=K (.int .i64 (n:Int)) s1:=λK s1=>lK c K s1 _ _ _ _ _
  generalize hL:(o.take k).map (RN n)++o.drop k=L at ho;have hLl:L.length=n:=by rw[<-hL];simp;omega
  have hLk:L[k]? =some o[k]:=by
    rw[<-hL,Zc1 (by simp;omega)];simp only[Za3,Zf1,Zj5 (Zn7 Vx),Zk7];rw[Ze4,Zg2,H0 Vx]
  have gk:(L.map cI)[k]? =some (.int .i64 o[k]):=by rw[Zb3,hLk];rfl
  have eL:L.set k (RN n o[k])=(o.take (k+1)).map (RN n)++o.drop (k+1):=by rw[<-hL,Zk1 _ _ (by simp;omega)];simp only[Za3,Zf1,Zj5 (Zn7 Vx),Zk7];rw[Zd2 Vx,Zq6,Zc2 Vx,Zc8,Zf0];rfl
  have aW:=hg.wf _ _ ho;by_cases hd:o[k]<0
  . have el:RN n o[k]=(n:Int):=(by unfold RN;rw[Zb4 hd]);rw[el]at eL;have iQ:∀(K:AV->St->Option (AV×St)),aq c (.store 1) [.ptr po k,.int .i64 (n:Int)] s K=K .undef (bn s po (.cells (((o.take (k+1)).map (RN n)++o.drop (k+1)).map cI) 0)):=λK=>by rw[cH c K s 1 po k (.int .i64 (n:Int)) _ ho rfl (by simp[hLl];omega) rfl, <-eL, <-LN _ _ (by omega)];rfl
    have g1:Grew s0 (bn s po (.cells (((o.take (k+1)).map (RN n)++o.drop (k+1)).map cI) 0)):=⟨kq hg.wf aW,λp b hp=>by have:=Il _ _ hp;rw[aM (λe=>by rw[e]at YR;omega)];exact hg.get hp,by rw[dS];exact hg.next⟩
    obtain⟨s',a1,a2,a3⟩:=ih (k+1) f _ (by omega) (by omega) g1 (bW _ _ _);refine⟨s',a1,a2,?_⟩;rw[<-a3,B9];simp[-List.map_append,-List.map_take,-List.map_drop,-List.map_map,iE,hk,ix,lo,ho,gk,hd,iQ,w]
  . have el:RN n o[k]=o[k]:=(by unfold RN;rw[Za7 hd]);rw[el]at eL;have e2:L.set k o[k]=L:=by
        (refine Zi7 λi=> ?_);rw[List.getElem?_set];split
        .rename_i e;subst e;rw[Zb4 (by omega),hLk]
        .rfl
    rw[e2]at eL;obtain⟨s',a1,a2,a3⟩:=ih (k+1) f s (by omega) (by omega) hg (by rw[<-eL];exact ho);refine⟨s',a1,a2,?_⟩;rw[<-a3,B9];simp[iE,hk,ix,ho,gk,hd,w]
theorem acV(sh:Int):(iC sh).length=6:=by
 unfold iC
 repeat' split
 all_goals rfl
theorem asl(sh:Int):aV (iC sh)=true:=by
 unfold iC
 repeat' split
 all_goals rfl
theorem avK(hc:Sem c)(t:aC)(ht:t.Fit):∃f:FuncId,(iC t.sh)[4]? =some (.func f [] [])/\∀st,c f [.int .i64 t.a,.int .i64 t.b] st=some (.int .i64 (Np t),st):=by
 have hS:t.sh=1\/t.sh=2\/t.sh=3\/t.sh=4:=by have:=ht.sh;omega
 have ha:Sm t.a:=by have:=ht.a;omega
 have hb:Sm t.b:=by have:=ht.b;omega
 rcases hS with h|h|h|h
 .exact⟨207,by rw[h];rfl,λst=>by rw[auJ hc];simp[Np,h]⟩
 .exact⟨212,by rw[h];rfl,λst=>by rw[auK hc _ _ ha];simp[Np,h]⟩
 .exact⟨217,by rw[h];rfl,λst=>by rw[auL hc _ _ ha hb];simp[Np,h]⟩
 .exact⟨222,by rw[h];rfl,λst=>by rw[auM hc _ _ ha];simp[Np,h]⟩
theorem apC(hc:Sem c)(t:aC)(hz:bQ t≠0)(s:St)(hw:Wf s):
  ∃b s',c 124 [.agg t.cells] s=some (.slice b 0 (bQ t).toNat (some (bQ t).toNat) 1,s')/\Grew s s'/\s'.heap.get b=some (.cells ((Nq t).map cI) 0)/\s.next.toNat<=b.toNat/\(Nq t).length=(bQ t).toNat:=by
 have ht:=aeh hz;have hb:=Be t;have hh:=auI hz;have dm:Wf (ah s (.cells t.cells 0)):=bP hw;have tC:Wf (ah (ah s (.cells t.cells 0)) (.cells (iC t.sh) 0)):=bP dm;have g2:=(Grew.ah hw (.cells t.cells 0)).trans (Grew.ah dm (.cells (iC t.sh) 0));have gT:(ah (ah s (.cells t.cells 0)) (.cells (iC t.sh) 0)).heap.get s.next=some (.cells t.cells 0):=(Grew.ah dm _).get (aB _ _);obtain⟨fr,Ft⟩:∃n:Nat,Np t=(n:Int):=⟨(Np t).toNat,by omega⟩
 obtain⟨b,s1,S1,S2,S3,S4,S5⟩:=asi hc t hz fr (by omega) _ tC;have HF:s.next.toNat<=b.toNat:=Zb2 g2.next S4;have g1:=g2.trans S2;have e1:Nq t=(RJ t fr).map (RN (bQ t).toNat):=by unfold Nq;rw[Ft];rfl
 have hl1:(Nq t).length=(bQ t).toNat:=by rw[e1];simpa using S5
 obtain⟨s2,a1,a2,a3⟩:=asj (c:=c) (s0:=s) (po:=b) (n:=(bQ t).toNat) (by omega) HF hw (RJ t fr) S5 4000 (λvs s34=>ir vs λx5 vs=>mG vs (
  aq c .move [x5] s34 λx38 s35=>aq c .move [x38] s35 λx2 s36=>some (x2,s36))) (bQ t).toNat 0 4000 s1 (by omega) (by omega) g1 (by simpa using S3)
 rw[<-e1]at a2;refine⟨b,s2,?_,a1,a2,HF,hl1⟩;have np:¬Plain (.slice b 0 (bQ t).toNat (some (bQ t).toNat) 1):=Nn (by omega);rw[aen hc 4000 (r:=(.slice b 0 (bQ t).toNat (some (bQ t).toNat) 1,s2)),ajJ np];rw[ahj];have hlay:=fV hc t.sh (ah s (.cells t.cells 0)) dm;rw[<-Ft]at S1;have rd:=λ(K:AV->Option (AV×St))=>ace K (m:=7) (p:=s.next) (o:=0) (l:=t.cells) (h:=(ah (ah s (.cells t.cells 0)) (.cells (iC t.sh) 0)).heap) (h2:=(ah (ah s (.cells t.cells 0)) (.cells (iC t.sh) 0)).heap) (by rw[gT];rfl) (by rw[gT];rfl) (Vm λv hv=>by simp only[aC.cells,Za9,Zc6,Zf3]at hv;rcases hv with rfl|rfl|rfl|rfl|rfl|rfl|rfl<;>first|exact gy.str _|exact gy.int _ _|exact aeg _ _)
 simp at a3;have lo:∀(K:AV->St->Option (AV×St))(s1:St),aq c (.lenB .l) [.slice b 0 (bQ t).toNat (some (bQ t).toNat) 1] s1 K=K (.int .i64 ((bQ t).toNat:Int)) s1:=λK s1=>lK c K s1 _ _ _ _ _
 obtain⟨hf,hf1,hf2⟩:=avK hc t ht;have hf3:(iC t.sh)[4]'(by rw[acV];omega)= .func hf [] []:=by rw[H0 (by rw[acV];omega)]at hf1;exact Zi1 hf1
 have c1:t.cells[1]? =some (.int .u8 t.sh):=rfl;have c2:t.cells[2]? =some (.int .i64 t.a):=rfl;have c3:t.cells[3]? =some (.int .i64 t.b):=rfl;simp[hlay,c1,c2,c3,AV.cells,acV,asl,gT,hf1,hf3,hf2,S1,rd,lo,a3]
theorem apD{t:aC}{k:Nat}(h:k<(Nq t).length):((Nq t).map cI)[k]? =some (.int .i64 (Nq t)[k]):=by rw[Zb3,H0 h];rfl
def BZ(ts:List aC)(a:Int):Int:=match xx ts a with|some (i,x)=>(Nq (ts[i]?.getD zT)).getD x.toNat 0|none=>0
theorem asm(hc:Sem c)(z:Bool)(ts:List aC)(cF:∀t∈ts,t.Ok)(a:Int)(ha:a<=4611686018427387904)(st:St)(hw:Wf st):
  c 60 [tabs z ts,.int .i64 a] st=some (.int .i64 (BZ ts a),st):=by
 have W:=UD hc z ts cF a ha st hw;cases h:xx ts a with
 |none=>
  rw[RO hc 1 (r:=(.int .i64 (BZ ts a),st)),aE (Plain.int _ _) (aZ.refl st)];rw[YS];unfold BZ;rw[h]at W ⊢; simp[W,FG]
 |some p=>
  obtain⟨i,x⟩:=p;obtain⟨hv,p1,t1,p2,p3,p4⟩:=Nj h;have hz:=apw (agv hv p2);obtain⟨hi,hg⟩:=Za1.1 p2;obtain⟨b,s',L1,L2,L3,L4,L5⟩:=apC hc t1 hz st hw;have hx:x.toNat<(Nq t1).length:=by omega
  have e:BZ ts a=(Nq t1)[x.toNat]:=by
   unfold BZ;rw[h];simp only;rw[p2];simp[List.getD,H0 hx]
  obtain⟨k,hk⟩:∃k:Nat,x=(k:Int):=⟨x.toNat,by omega⟩
  subst hk;simp only[Zd4]at hx e;have ix:∀(K:AV->St->Option (AV×St))(s1:St),aq c (.idxA 1 none) [.slice b 0 (bQ t1).toNat (some (bQ t1).toNat) 1,.int .i64 (k:Int)] s1 K=K (.ptr b k) s1:=λK s1=>by rw[je c K s1 (by omega)];simp
  have gk:=apD hx;rw[RO hc 1 (r:=(.int .i64 (BZ ts a),s')),aE (Plain.int _ _) L2.keeps];rw[YS,e];rw[h]at W;subst hg;unfold tabs at W ⊢;simp[W,FG,hi,aC.len,L1,ix,L3,gk]
def mA(first:Int)(n:Nat)(so:Int->Bool):List Int:=((List.range n).map λ(i:Nat)=>first+(i:Int)).filter so
theorem abp(first:Int)(n:Nat)(so:Int->Bool):mA first (n+1) so=mA first n so++if so (first+(n:Int))=true then [first+(n:Int)]else []:=by
 unfold mA;rw[Zf9,Zc8,Zk2];congr 1;simp only[Zd1,Zg9,List.filter_cons,List.filter_nil]
theorem Lz(first:Int)(n:Nat)(so:Int->Bool):(mA first n so).length<=n:=by
 unfold mA;exact Zb2 (Zl2 _ _) (by simp)
theorem anr{first:Int}(hfi:0<=first/\first<=1000000){n:Nat}(hn:n<=1000000){g:FuncId}{x y:List AV}{so:Int->Bool}{s0:St}
  (H:∀(k:Int)(s:St),Grew s0 s->first<=k->k<first+(n:Int)->c g (x++([.int .i64 k]++y)) s=some (.bool (so k),s)) (F:Nat) (k2):
  ∀(m i f:Nat)(s:St)(v:AV),m<f->i+m=n->Mk 1 s0 s v ((mA first i so).map bH)->
   ∃s' v',Mk 1 s0 s' v' ((mA first n so).map bH)/\xB c F k2 f [.int .i64 first,.int .i64 (n:Int),.func g x y,v,.int .i64 (first+(i:Int))] s=k2 [v'] s':=by
 have w0:av .i64 (first+(n:Int))=first+(n:Int):=wrap64 (by omega) (by omega)
 intro m;induction m with
 |zero=>
  intro i f s v hf h1 hM;obtain⟨f,rfl⟩:∃g,f=g+1:=⟨f - 1,by omega⟩
  obtain rfl:i=n:=by omega
  refine⟨s,v,hM,?_⟩;rw[DZ];simp[w0]
 |succ m ih=>
  intro i f s v hf h1 hM;obtain⟨f,rfl⟩:∃g,f=g+1:=⟨f - 1,by omega⟩
  have hi:i<n:=by omega
  have aW:first+(i:Int)<first+(n:Int):=by omega
  have w:av .i64 (first+(i:Int)+1)=first+((i+1:Nat):Int):=by rw[wrap64 (by omega) (by omega)];omega
  have A:=H (first+(i:Int)) s hM.ai (by omega) aW;simp only[List.singleton_append]at A;have hlen:=Lz first i so
  cases hs:so (first+(i:Int))with
  |true=>
   obtain⟨s5,v5,a1,a2,a3,_⟩:=hM.push (c:=c) (R:=AV×St) (bytes:=8) (z:=[.int .i64 0]) (x:= .int .i64 (first+(i:Int))) rfl rfl rfl (by decide) (by simp;omega) (by simp;omega);have e:(mA first (i+1) so).map bH=(mA first i so).map bH++[AV.cells (.int .i64 (first+(i:Int)))]:=(by rw[abp,Zb4 hs,Zc8];rfl);rw[<-e]at a2;obtain⟨s',v',b1,b2⟩:=ih (i+1) f s5 v5 (by omega) (by omega) a2;refine⟨s',v',b1,?_⟩;rw[<-b2,DZ];rw[hs]at A;simp[-ax,iE,w0,aW,A,a1,w]
  |false=>
   have e:(mA first (i+1) so).map bH=(mA first i so).map bH:=(by rw[abp,Za7 (by rw[hs];simp),Zd7]);rw[<-e]at hM;obtain⟨s',v',b1,b2⟩:=ih (i+1) f s v (by omega) (by omega) hM;refine⟨s',v',b1,?_⟩;rw[<-b2,DZ];rw[hs]at A;simp[iE,w0,aW,A,w]
theorem ajL(hc:Sem c){first:Int}(hfi:0<=first/\first<=1000000){n:Nat}(hn:n<=1000000){g:FuncId}{x y:List AV}{so:Int->Bool}{s:St}(hw:Wf s)
  (H:∀(k:Int)(t:St),Grew s t->first<=k->k<first+(n:Int)->c g (x++([.int .i64 k]++y)) t=some (.bool (so k),t)):
  ∃v s',c 62 [.int .i64 first,.int .i64 (n:Int),.func g x y] s=some (v,s')/\Mk 1 s s' v ((mA first n so).map bH):=by
 obtain⟨s',v,hM,L⟩:=anr hfi hn H (n+1) (λvs s22=>ir vs λx7 vs=>mG vs (aq c .move [x7] s22 λx24 s23=>aq c .move [x24] s23 λx6 s24=>some (x6,s24))) n 0 (n+1) s .af (by omega) (by omega) (Mk.start hw (Grew.refl hw));obtain⟨fD,t1,t2⟩:=hM.tidy;refine⟨v,fD,?_,t2⟩;rw[afx hc (n+1) (r:=(v,s')),t1];rw[ajM];simp at L;simp[L]
end
end Go.Proofs.YtgihekklfnjkiaaGreatDoor
