/- Whom a rule names, some of the rules. -/
import Derived.Test.YtngcejgciomphaaGreatDoorNLawsD
import Derived.Test.YtngcejgciomphaaGreatDoorNPlainC
set_option linter.all false
set_option maxRecDepth 100000
set_option maxHeartbeats 4000000
namespace Go.Proofs.YtngcejgciomphaaGreatDoor
section
open Go Go.Ai Go.Proofs
variable{c:aq}
theorem ahN(z:Bool)(rs:List (List AV))(hl:rs.length<cC)(dB:∀cs∈rs,cs.length=3)(g:Nat)(v:List AV)(P:Nat->Bool)(st:St)(F:Nat)(k1 k2)
  (hP:∀i (h:i<rs.length),c g (.agg rs[i]::v) st=some (.bool (P i),st)):∀(m k:Nat),rs.length<=k+m->k<=rs.length->
  cX c F k1 k2 (m+1) [ro 3 z rs,.func g [] v,.int .i64 (rs.length:Int),.int .i64 (k:Int)] st=if 0<=scan P (rs.length - k) k then k1 [.int .i64 (scan P (rs.length - k) k)] st else k2 [] st:=by
 intro m;induction m with
 |zero=>
  intro k h1 h2;obtain rfl:k=rs.length:=by omega
  rw[mV];simp[scan]
 |succ m ih=>
  intro k h1 h2;rw[mV];by_cases h:k<rs.length
  . have e:rs.length - k=(rs.length - (k+1))+1:=(by omega);have w:az .i64 ((k:Int)+1)=((k+1:Nat):Int):=wrap64 (by omega) (by unfold cC at hl;omega);have hcut:cut rs[k] 0 3=some rs[k]:=bP (dB _ (Zc0 h));have hp:=hP k h;rw[e,scan];cases hb:P k
    .   simp only[Zd3,Ze8];rw[<-ih (k+1) (by omega) (by omega)];simp[h,hcut,hp,hb,w]
    .   simp[h,hcut,hp,hb]
  .obtain rfl:k=rs.length:=(by omega);simp[scan]
theorem alN(hc:Sem c)(z:Bool)(rs:List (List AV))(hl:rs.length<cC)(dB:∀cs∈rs,cs.length=3)(g:Nat)(v:List AV)(P:Nat->Bool)(st:St)
   (hP:∀i (h:i<rs.length),c g (.agg rs[i]::v) st=some (.bool (P i),st)):c 76 [ro 3 z rs,.func g [] v] st=some (.int .i64 (scan P rs.length 0),st):=by
 rw[yw hc (rs.length+1) (r:=(.int .i64 (scan P rs.length 0),st)),aB (Plain.int _ _) (bf.refl st)];rw[zN];have L:∀k1 k2,cX c (rs.length+1) k1 k2 (rs.length+1) [ro 3 z rs,.func g [] v,.int .i64 (rs.length:Int),.int .i64 0] st=if 0<=scan P (rs.length - 0) 0 then k1 [.int .i64 (scan P (rs.length - 0) 0)] st else k2 [] st:=
   λk1 k2=>ahN z rs hl dB g v P st _ k1 k2 hP rs.length 0 (by omega) (by omega)
 rw[Zm0]at L;by_cases h:0<=scan P rs.length 0
 .simp[L,h]
 .have:=(HR P rs.length 0).2 (by omega);simp[L,this]
theorem alO(hc:Sem c)(z:Bool)(rs:List (List AV))(hl:rs.length<cC)(dB:∀cs∈rs,cs.length=3)(g:Nat)(v:List AV)(P:Nat->Bool)(st:St)
  (hP:∀i (h:i<rs.length),c g (.agg rs[i]::v) st=some (.bool (P i),st)):c 32 [ro 3 z rs,.func g [] v] st=some (.bool (decide (0<=scan P rs.length 0)),st):=by
 rw[vJ hc 1 (r:=(.bool (decide (0<=scan P rs.length 0)),st)),aB (Plain.bool _) (bf.refl st)];rw[xJ];simp[alN hc z rs hl dB g v P st hP]
def tdP(nm:List Nat)(k:Int)(t:Ty):Bool:=decide (t.k=k)&&(decide (t.a=nm)||decide (t.b=nm))
theorem agh(hc:Sem c)(t:Ty)(nm:List Nat)(k:Int)(p1 p2:Pos)(st:St)(hw:Wf st)(h1:st.heap.get p1=some (.cells [.int .u8 k] 0))(h2:st.heap.get p2=some (.cells [.str nm] 0)):
   c 33 [.agg t.cells,.ptr p1 0,.ptr p2 0] st=some (.bool (tdP nm k t),st):=by
 rw[SJ hc 1 (r:=(.bool (tdP nm k t),ah st (.cells t.cells 0))),aB (Plain.bool _) (bE hw)];rw[Wp];have e1:(ah st (.cells t.cells 0)).heap.get p1=some (.cells [.int .u8 k] 0):=bE hw _ _ h1;have e2:(ah st (.cells t.cells 0)).heap.get p2=some (.cells [.str nm] 0):=bE hw _ _ h2;unfold tdP;by_cases a:t.k=k
 .by_cases b:t.a=nm<;>simp[e1,e2,a,b]
 .simp[e1,e2,a]
def Vh(ys:List Ty)(nm:List Nat)(k:Int):Bool:=ys.any (tdP nm k)
theorem adp(P:Nat->Bool):∀(m k:Nat),decide (0<=scan P m k)=(List.range m).any λi=>P (k+i)
 |0,k=>by simp[scan]
 |m +1,k=>by
  have ih:=adp P m (k+1);unfold scan;rw[List.range_succ_eq_map,Zo8,List.any_map];by_cases h:P k=true
  .rw[Zb5 h,Zl0,h,Bool.true_or];exact Za1 (by omega)
  . have h':P k=false:=(by simpa using h);rw[Zb2 h,ih];show _=(P k||_)
    rw[h',Zl1];congr 1;funext i;show P (k+1+i)=P (k+Nat.succ i);congr 1;omega
theorem ahO(hc:Sem c)(p:aP)(hl:p.ys.length<=1000)(nm:List Nat)(k:Int)(pb:Pos)(st:St)(hw:Wf st)(hp:st.heap.get pb=some (.cells p.cells 0)):
  c 31 [.str nm,.int .u8 k,.ptr pb 0] st=some (.bool (Vh p.ys nm k),st):=by
 have g1:=Grew.ah hw (.cells [.str nm] 0);have g2:=Grew.ah g1.wf (.cells [.int .u8 k] 0);have gg:=g1.trans g2;have b1:=g2.get (aF st (.cells [.str nm] 0));have b2:=aF (ah st (.cells [.str nm] 0)) (.cells [.int .u8 k] 0);have b3:=gg.get hp
 have C:=alO (c:=c) hc p.yz (p.ys.map Ty.cells) (by rw[Zb9];unfold cC;omega) (λcs h=>by obtain⟨t,_,rfl⟩:=Zd0.1 h;rfl) 33
  [.ptr (ah st (.cells [.str nm] 0)).next 0,.ptr st.next 0] (λi=>match p.ys[i]? with|some t=>tdP nm k t|none=>false) _ (λi h=>by rw[Zb9]at h;simp only[Zm1,Za0 h];exact agh hc (p.ys[i]) nm k _ _ _ gg.wf b2 b1)
 rw[Zb9,adp]at C;have e:((List.range p.ys.length).any λi=>match p.ys[0+i]? with|some t=>tdP nm k t|none=>false)=Vh p.ys nm k:=by
  unfold Vh;rw[Zk7,Zo3,Zo3];constructor
  .rintro⟨i,hi,h⟩;have hi:=Zi5.1 hi;rw[Za5,Za0 hi]at h;exact⟨_,Zc0 hi,h⟩
  .rintro⟨t,ht,h⟩;obtain⟨i,hi,rfl⟩:=Zf0.1 ht;exact⟨i,Zi5.2 hi,by rw[Za5,Za0 hi];exact h⟩
 rw[e]at C;rw[Wq hc 1 (r:=(.bool (Vh p.ys nm k),ah (ah st (.cells [.str nm] 0)) (.cells [.int .u8 k] 0))),aB (Plain.bool _) gg.keeps];rw[Zq];simp only[dw,show AV.cells (.str nm)=[.str nm]from rfl,show AV.cells (.int .u8 k)=[.int .u8 k]from rfl,ai,aG,Za5,aN,b3,ak,Za2,aP.c2,aD,Lr,aT,show cj p.yz p.ys=ro 3 p.yz (p.ys.map Ty.cells)from rfl,C,aR]
def ya(p:aP)(r:Rl)(g:aS):Bool:=match r.k.toNat with
 |9=>true
 |11=>true
 |14=>true
 |15=>true
 |16=>true
 |8=>decide (0<g.side)
 |10=>decide (g.name=r.a)||(decide (r.a=[])&&g.access)
 |12=>Vh p.ys g.name 2
 |13=>Vh p.ys g.name 1
 |17=>decide (g.nv=r.a)
 |18=> !decide (g.jW=[])
 |_=>decide (g.name=r.a)||decide (g.name=r.b)
theorem ahP{R:Type}{f:(List AV->St->Option R)->Option R}{k:List AV->St->Option R}{vs:List AV}{s:St}(h:∀K,f K=K vs s):fB f k=k vs s:=h k
def qR(P:aS->Bool):List aS->Nat->List Int
 |[],_=>[]
 |g::l,k=>(if P g then [(k:Int)]else [])++qR P l (k+1)
theorem Zr(P:aS->Bool):∀(l:List aS)(g:aS)(k:Nat),qR P (l++[g]) k=qR P l k++if P g then [((k+l.length:Nat):Int)]else []
 |[],g,k=>by simp[qR]
 |a::l,g,k=>by
  have ih:=Zr P l g (k+1);rw[Ze3,qR,qR,ih,Zg4,Zc2,show k+1+l.length=k+(l.length+1)by omega]
theorem TX(P:aS->Bool):∀(l:List aS)(k:Nat),(qR P l k).length<=l.length
 |[],_=>Za6 _
 |a::l,k=>by
  have ih:=TX P l (k+1);rw[qR,Zc9,Zc2];split
  .rw[Zo0];omega
  .rw[Zi6];omega
theorem aj0 (hc:Sem c){p:aP}(hl:p.ys.length<=1000)(hg:p.gs.length<=100){r:Rl}{mm:Nat}(hm:r.k=(mm:Int))(h1:1<=mm)(h2:mm<=18){sB:St}{pb rb:Pos}(hpb:sB.heap.get pb=some (.cells p.cells 0))(Gg:sB.heap.get rb=some (.cells r.cells 0))(F:Nat):
  ∀(m i f:Nat)(s:St)(v:AV),i+m=p.gs.length->m<f->Mk 1 sB s v ((qR (ya p r) (p.gs.take i) 0).map dK)->∃s' v',Mk 1 sB s' v' ((qR (ya p r) p.gs 0).map dK)/\
   ∀k2:Q2,nY c F k2 f [.ptr rb 0,.func 31 [] [.ptr pb 0],v,bD p.gz p.gs,.int .i64 (p.gs.length:Int),.int .i64 (i:Int)] s=k2 [v'] s':=by
 intro m;induction m with
 |zero=>
  intro i f s v hi hf M;obtain⟨f,rfl⟩:∃g,f=g+1:=⟨f - 1,by omega⟩
  obtain rfl:i=p.gs.length:=by omega
  rw[Zh6]at M;refine⟨s,v,M,λk2=> ?_⟩;rw[KT];simp only[au,ay,aE,Zg1,Zf6,aX]
 |succ m ih   =>
  intro i f s v hi hf M;obtain⟨f,rfl⟩:∃g,f=g+1:=⟨f - 1,by omega⟩
  have fN:i<p.gs.length:=by omega
  have aW:decide ((i:Int)<(p.gs.length:Int))=true:=Za1 (by omega);have wr:az .i64 ((i:Int)+1)=((i+1:Nat):Int):=by rw[wrap64 (by omega) (by omega)];omega
  have et:p.gs.take (i+1)=p.gs.take i++[p.gs[i]]:=Zb8 fN;have ei:=Zr (ya p r) (p.gs.take i) p.gs[i] 0;rw[<-et,Ze0,Zh5 (by omega),Za5]at ei;have il:(qR (ya p r) (p.gs.take i) 0).length<=100:=Zb7 (TX _ _ _) (by rw[Ze0];omega);have g1:=Grew.ah M.aA.wf (.cells (p.gs[i]).cells 0);have M1:=M.grow g1;have xg:=aF s (.cells (p.gs[i]).cells 0);have xr:=g1.get (M.aA.get Gg);have xp:=g1.get (M.aA.get hpb);have st9:=λ(K:AV->St->Option (AV×St))=>cV c K s 9 (.agg (p.gs[i]).cells) [.str [],.str [],.str [],.int .i64 0,.int .i64 0,.str [],.bool false,.bool false,.af] rfl rfl (aS.one _)
  have kW:=aeP (c:=c) p.gz p.gs fN;have lC:=aeQ (c:=c) p.gs fN;generalize p.gs[i]=g at*
  have N:=λk=>ahO (c:=c) hc p hl g.name k pb _ g1.wf xp
  have bit:ya p r g=ya p r g:=rfl
  suffices tail:∃s' v',Mk 1 sB s' v' ((qR (ya p r) p.gs 0).map dK)/\∀k2:Q2,(MJ (.bool (ya p r g)) (aj c .move [v] (ah s (.cells g.cells 0)) λajF s=>aj c .move [.int .i64 (i:Int)] s λajG s=>aj c (.buildSlice 1 1 [(.int .i64 0)] [0]) [ajG] s λSx s=>aj c (.append 1 8) [ajF,Sx] s λajH s=>aj c .move [ajH] s λx9 s=>
        nY c F k2 f [.ptr rb 0,.func 31 [] [.ptr pb 0],x9,bD p.gz p.gs,.int .i64 (p.gs.length:Int),.int .i64 ((i+1:Nat):Int)] s) (nY c F k2 f [.ptr rb 0,.func 31 [] [.ptr pb 0],v,bD p.gz p.gs,.int .i64 (p.gs.length:Int),.int .i64 ((i+1:Nat):Int)] (ah s (.cells g.cells 0))))=k2 [v'] s' by
   obtain⟨s',v',z1,z2⟩:=tail;refine⟨s',v',z1,λk2=> ?_⟩;rw[<-z2 k2,KT];simp only[au,ay,aE,aW,bk];rw[bO,ai,kW,lC,bM,ai,st9,ai];refine(ahP (vs:=[.ptr rb 0,.func 31 [] [.ptr pb 0],v,.int .i64 (i:Int),.bool (ya p r g),bD p.gz p.gs,.int .i64 (p.gs.length:Int),.int .i64 (i:Int)]) (s:=ah s (.cells g.cells 0)) λK=> ?_).trans ?_
   .    clear z2 z1 ih ei M M1;unfold ya;rw[show r.k.toNat=mm by omega];rcases aeD h1 h2 with rfl|rfl|rfl|rfl|rfl|rfl|rfl|rfl|rfl|rfl|rfl|rfl|rfl|rfl|rfl|rfl|rfl|rfl
        . have hk:r.k=1:=(by have:=hm;omega);by_cases a:g.name=r.a
          .simp[fB,xr,xg,hk,a]
          .simp[fB,xr,xg,hk,a]
        . have hk:r.k=2:=(by have:=hm;omega);by_cases a:g.name=r.a
          .simp[fB,xr,xg,hk,a]
          .simp[fB,xr,xg,hk,a]
        . have hk:r.k=3:=(by have:=hm;omega);by_cases a:g.name=r.a
          .simp[fB,xr,xg,hk,a]
          .simp[fB,xr,xg,hk,a]
        . have hk:r.k=4:=(by have:=hm;omega);by_cases a:g.name=r.a
          .simp[fB,xr,xg,hk,a]
          .simp[fB,xr,xg,hk,a]
        . have hk:r.k=5:=(by have:=hm;omega);by_cases a:g.name=r.a
          .simp[fB,xr,xg,hk,a]
          .simp[fB,xr,xg,hk,a]
        . have hk:r.k=6:=(by have:=hm;omega);by_cases a:g.name=r.a
          .simp[fB,xr,xg,hk,a]
          .simp[fB,xr,xg,hk,a]
        . have hk:r.k=7:=(by have:=hm;omega);by_cases a:g.name=r.a
          .simp[fB,xr,xg,hk,a]
          .simp[fB,xr,xg,hk,a]
        .have hk:r.k=8:=(by have:=hm;omega);simp[fB,xr,xg,hk]
        .have hk:r.k=9:=(by have:=hm;omega);simp[fB,xr,hk]
        . have hk:r.k=10:=(by have:=hm;omega);by_cases a:g.name=r.a
          .simp[fB,xr,xg,hk,a]
          . by_cases b:r.a=[]
            .have a2:¬g.name=[]:=(by rw[<-b];exact a);simp[fB,xr,xg,hk,a2,b]
            .simp[fB,xr,xg,hk,a,b]
        .have hk:r.k=11:=(by have:=hm;omega);simp[fB,xr,hk]
        .have hk:r.k=12:=(by have:=hm;omega);have nc:=N 2;simp[fB,xr,xg,hk,kR,nc]
        .have hk:r.k=13:=(by have:=hm;omega);have nc:=N 1;simp[fB,xr,xg,hk,kR,nc]
        .have hk:r.k=14:=(by have:=hm;omega);simp[fB,xr,hk]
        .have hk:r.k=15:=(by have:=hm;omega);simp[fB,xr,hk]
        .have hk:r.k=16:=(by have:=hm;omega);simp[fB,xr,hk]
        .have hk:r.k=17:=(by have:=hm;omega);simp[fB,xr,xg,hk]
        .have hk:r.k=18:=(by have:=hm;omega);simp[fB,xr,xg,hk]
   .    simp only[au,ay,ai,bw,wr]
  cases hb:ya p r g with
  |true=>
   rw[hb,Zb5 rfl]at ei;obtain⟨t5,v5,a1,M5,_,_⟩:=M1.push (R:=AV×St) (c:=c) (bytes:=8) (z:=[.int .i64 0]) (x:= .int .i64 (i:Int)) rfl rfl rfl (by omega) (by rw[Zb9];omega) (by rw[Zb9];omega);obtain⟨s',v',z1,z2⟩:=ih (i+1) f t5 v5 (by omega) (by omega) (by rw[ei,Ze2];exact M5);refine⟨s',v',z1,λk2=> ?_⟩;rw[<-z2 k2];simp only[bk,ai,a1]
  |false=>
   rw[hb,Zb2 (by decide),Zd4]at ei;obtain⟨s',v',z1,z2⟩:=ih (i+1) f _ v (by omega) (by omega) (by rw[ei];exact M1);refine⟨s',v',z1,λk2=> ?_⟩;rw[<-z2 k2];simp only[aX]
theorem aj1(hc:Sem c)(p:aP)(hp:p.ew)(vK:mI c p)(hr:∀r∈p.rs,r.Ok)(hk:(aU p).2=0){i:Nat}{r:Rl}(hi:p.rs[i]? =some r){m:Nat}(hm:r.k=(m:Int))(h1:1<=m)(h2:m<=18)(s:St)(hw:Wf s):
  ∃v s',c 7 [.agg p.cells,.int .i64 (i:Int)] s=some (v,s')/\Mk 1 s s' v ((qR (ya p r) p.gs 0).map dK):=by
 have gA:=Grew.ah hw (.cells p.cells 0);have x2:=aF s (.cells p.cells 0);have bx:∀(K:AV->St->Option (AV×St)),aj c .box [.agg p.cells] s K=K (.ptr s.next 0) (ah s (.cells p.cells 0)):=λK=>by rw[dw];rfl
 have ck:=mg hc p hp vK hr _ gA.wf;have fN:=(Za4.1 hi).1;have er:p.rs[i]=r:=(Za4.1 hi).2;have gB:=Grew.ah gA.wf (.cells r.cells 0);have xr:=aF (ah s (.cells p.cells 0)) (.cells r.cells 0);have xp:=gB.get x2;have st:=λ(K:AV->St->Option (AV×St))=>Ua (c:=c) r (ah s (.cells p.cells 0)) K
 have kW:=Db (c:=c) p.rz p.rs fN;have lC:=Fm (c:=c) p.rs fN;rw[er]at lC;obtain⟨t',v',z1,z2⟩:=aj0 (c:=c) hc (Zb7 hp.ys (by decide)) hp.gs hm h1 h2 xp xr 200 p.gs.length 0 200 _ .af (Za5 _) (by have:=hp.gs;omega) (Mk.start gB.wf (Grew.refl gB.wf));simp only[show((0:Nat):Int)=0 from rfl]at z2;obtain⟨s3,t1,t2⟩:=(z1.back hw (gA.trans gB)).tidy;refine⟨v',s3,?_,t2⟩;have pV:cut p.cells 0 5=some p.cells:=bP rfl;have d0:decide ((aU p).2=0)=true:=Za1 hk;have d1:decide ((i:Int)<0)=false:=Za3 (by omega);have d2:decide ((p.rs.length:Int)<=(i:Int))=false:=Za3 (by omega);rw[Ns hc 200 (r:=(v',t')),t1];rw[SK];simp only[bx,ai,cY,x2,ak,Za2,pV,cT,aT,ck,aR,fq,Zb0,Zb3,aD,nM,d0,Zf8,dI,aE,d1,eM,aG,Za5,aN,aP.c4,ID,MM,d2,aX,kW,lC,bM,st,Lr,xp,aP.c1,acH,z2,au,ay]
theorem Sb{P Q:aS->Bool}:∀{l l':List aS}{k:Nat},l'.length=l.length->(∀(i:Nat)(g g':aS),l[i]? =some g->l'[i]? =some g'->Q g'=P g)->qR Q l' k=qR P l k
 |[],[],_,_,_=>rfl
 |[],_::_,_,h,_=>by simp at h
 |_::_,[],_,h,_=>by simp at h
 |g::l,g'::l',k,h,hh=>by
  rw[qR,qR,hh 0 g g' rfl rfl,Sb (by simpa using h) λi a b ha hb=>hh (i+1) a b (by rw[Zb3];exact ha) (by rw[Zb3];exact hb)]
theorem alP{p p':aP}(S:p.dA p')(r:Rl){g g':aS}(h:g.dA g'):ya p' r g'=ya p r g:=by obtain⟨tz,e⟩:=h;unfold ya;rw[S.ys];subst e;rfl
theorem alQ{p p':aP}(S:p.dA p'){r:Rl}{k:Nat}:qR (ya p' r) p'.gs k=qR (ya p r) p.gs k:=Sb S.gl λi g g' h h'=>alP S r (S.gs i g g' h h')
def pP(P:Rl->Bool):List Rl->Nat->List Int
 |[],_=>[]
 |r::l,k=>(if P r then [(k:Int)]else [])++pP P l (k+1)
theorem Iu(P:Rl->Bool):∀(l:List Rl)(k:Nat),(pP P l k).length<=l.length
 |[],_=>Za6 _
 |r::l,k=>by have:=Iu P l (k+1);unfold pP;rw[Zc9,Zc2];split<;>simp<;>omega
theorem Wt(P:Rl->Bool):∀(l:List Rl)(r:Rl)(k:Nat),pP P (l++[r]) k=pP P l k++(if P r then [((k+l.length:Nat):Int)]else [])
 |[],r,k=>by simp[pP]
 |a::l,r,k=>by rw[Ze3,pP,Wt P l r (k+1),pP,Zg4];congr 3;rw[Zc2];simp;omega
def yb(h:Bool)(r:Rl):Bool:=decide (r.wt=0)==h
theorem BL(a b:Bool)(K:AV->St->Option (AV×St))(s:St):aj c (.bin .eql .bool) [.bool a,.bool b] s K=K (.bool (a==b)) s:=bC c K (λH n=>by cases a<;>cases b<;>rfl) s
theorem ahQ{s1:St}{p:aP}(hl:p.rs.length<=100)(h:Bool)(F:Nat):
  ∀(m k f:Nat)(t:St)(v:AV),k+m=p.rs.length->m<f->Mk 1 s1 t v ((pP (yb h) (p.rs.take k) 0).map dK)->∃t' v',Mk 1 s1 t' v' ((pP (yb h) p.rs 0).map dK)/\
   ∀k2:Q2,sW c F k2 f [.bool h,v,dm p.rz p.rs,.int .i64 (p.rs.length:Int),.int .i64 (k:Int)] t=k2 [v'] t':=by
 intro m;induction m with
 |zero=>
  intro k f t v hk hf M;obtain⟨f,rfl⟩:∃g,f=g+1:=⟨f - 1,by omega⟩
  obtain rfl:k=p.rs.length:=by omega
  rw[Zh6]at M;refine⟨t,v,M,λk2=> ?_⟩;rw[A9];simp only[au,ay,aE,Zg1,Zf6,aX]
 |succ m ih=>
  intro k f t v hk hf M;obtain⟨f,rfl⟩:∃g,f=g+1:=⟨f - 1,by omega⟩
  have wN:k<p.rs.length:=by omega
  have aW:decide ((k:Int)<(p.rs.length:Int))=true:=Za1 (by omega);have wr:Unit->az .i64 ((k:Int)+1)=((k+1:Nat):Int):=λ_=>by rw[wrap64 (by omega) (by omega)];omega
  have et:p.rs.take (k+1)=p.rs.take k++[p.rs[k]]:=Zb8 wN;have ei:=Wt (yb h) (p.rs.take k) p.rs[k] 0;rw[<-et,Ze0,Zh5 (by omega),Za5]at ei;have il:(pP (yb h) (p.rs.take k) 0).length<=100:=Zb7 (Iu _ _ _) (by rw[Ze0];omega);have g1:=Grew.ah M.aA.wf (.cells (p.rs[k]).cells 0);have M1:=M.grow g1;have x9:=aF t (.cells (p.rs[k]).cells 0);have st:=λ(K:AV->St->Option (AV×St))=>Ua (c:=c) (p.rs[k]) t K
  have kW:=Db (c:=c) p.rz p.rs wN;have lC:=Fm (c:=c) p.rs wN;generalize p.rs[k]=r at*
  cases hb:yb h r with
  |true=>
   rw[hb,Zb5 rfl]at ei;have eb:(decide (r.wt=0)==h)=true:=hb;obtain⟨t5,v5,a1,M5,_,_⟩:=M1.push (R:=AV×St) (c:=c) (bytes:=8) (z:=[.int .i64 0]) (x:= .int .i64 (k:Int)) rfl rfl rfl (by omega) (by rw[Zb9];omega) (by rw[Zb9];omega);obtain⟨t',v',z1,z2⟩:=ih (k+1) f t5 v5 (by omega) (by omega) (by rw[ei,Ze2];exact M5);refine⟨t',v',z1,λk2=> ?_⟩;rw[<-z2 k2,A9];simp only[au,ay,bO,aE,aW,bk,ai,kW,lC,bM,st,aG,Za5,aN,x9,ak,Za2,Rl.c1,aD,nL,BL,eb,a1,bw,wr ()]
  |false=>
   rw[hb,Zb2 (by decide),Zd4]at ei;have eb:(decide (r.wt=0)==h)=false:=hb;obtain⟨t',v',z1,z2⟩:=ih (k+1) f _ v (by omega) (by omega) (by rw[ei];exact M1);refine⟨t',v',z1,λk2=> ?_⟩;rw[<-z2 k2,A9];simp only[au,ay,bO,aE,aW,bk,aX,ai,kW,lC,bM,st,aG,Za5,aN,x9,ak,Za2,Rl.c1,aD,nL,BL,eb,bw,wr ()]
theorem aak(hc:Sem c)(p:aP)(hp:p.ew)(vK:mI c p)(hr:∀r∈p.rs,r.Ok)(hk:(aU p).2=0)(h:Bool)(s:St)(hw:Wf s):
  ∃v s',c 34 [.agg p.cells,.bool h] s=some (v,s')/\Mk 1 s s' v ((pP (yb h) p.rs 0).map dK):=by
 have gA:=Grew.ah hw (.cells p.cells 0);have x2:=aF s (.cells p.cells 0);have bx:∀(K:AV->St->Option (AV×St)),aj c .box [.agg p.cells] s K=K (.ptr s.next 0) (ah s (.cells p.cells 0)):=λK=>by rw[dw];rfl
 have ck:=mg hc p hp vK hr _ gA.wf;have lr:=hp.rs;obtain⟨t',v',z1,z2⟩:=ahQ (c:=c) (s1:=s) hp.rs h 200 p.rs.length 0 200 (ah s (.cells p.cells 0)) .af (Za5 _) (by omega) (Mk.start hw gA);simp only[show((0:Nat):Int)=0 from rfl]at z2;obtain⟨s3,t1,t2⟩:=z1.tidy;refine⟨v',s3,?_,t2⟩;have pV:cut p.cells 0 5=some p.cells:=bP rfl;have d0:decide ((aU p).2=0)=true:=Za1 hk;rw[KU hc 200 (r:=(v',t')),t1];rw[Qe];simp only[bx,ai,cY,x2,ak,Za2,pV,cT,aT,ck,aR,fq,Zb0,Zb3,aD,nM,d0,Zf8,aX,aG,Za5,aN,aP.c4,ID,z2,au,ay]
theorem alR(hc:Sem c)(p:aP)(hp:p.ew)(vK:mI c p)(hr:∀r∈p.rs,r.Ok)(hk:(aU p).2=0)(s:St)(hw:Wf s):
  ∃v s',c 8 [.agg p.cells] s=some (v,s')/\Mk 1 s s' v ((pP (yb true) p.rs 0).map dK):=by
 have gA:=Grew.ah hw (.cells p.cells 0);have x2:=aF s (.cells p.cells 0);have bx:∀(K:AV->St->Option (AV×St)),aj c .box [.agg p.cells] s K=K (.ptr s.next 0) (ah s (.cells p.cells 0)):=λK=>by rw[dw];rfl
 obtain⟨v,s1,e,M⟩:=aak hc p hp vK hr hk true _ gA.wf;obtain⟨s3,t1,t2⟩:=(M.back hw gA).tidy;refine⟨v,s3,?_,t2⟩;have pV:cut p.cells 0 5=some p.cells:=bP rfl;rw[Qf hc 1 (r:=(v,s1)),t1];rw[Vi];simp only[bx,ai,cY,x2,ak,Za2,pV,cT,aT,e,aR]
theorem agi(hc:Sem c)(p:aP)(hp:p.ew)(vK:mI c p)(hr:∀r∈p.rs,r.Ok)(hk:(aU p).2=0)(s:St)(hw:Wf s):
  ∃v s',c 9 [.agg p.cells] s=some (v,s')/\Mk 1 s s' v ((pP (yb false) p.rs 0).map dK):=by
 have gA:=Grew.ah hw (.cells p.cells 0);have x2:=aF s (.cells p.cells 0);have bx:∀(K:AV->St->Option (AV×St)),aj c .box [.agg p.cells] s K=K (.ptr s.next 0) (ah s (.cells p.cells 0)):=λK=>by rw[dw];rfl
 obtain⟨v,s1,e,M⟩:=aak hc p hp vK hr hk false _ gA.wf;obtain⟨s3,t1,t2⟩:=(M.back hw gA).tidy;refine⟨v,s3,?_,t2⟩;have pV:cut p.cells 0 5=some p.cells:=bP rfl;rw[I7 hc 1 (r:=(v,s1)),t1];rw[Nt];simp only[bx,ai,cY,x2,ak,Za2,pV,cT,aT,e,aR]
def oR(l:List Int):List Rl->Nat->List Rl
 |[],_=>[]
 |r::rs,k=>(if(k:Int)∈l then [r]else [])++oR l rs (k+1)
theorem Wu(l:List Int):∀(rs:List Rl)(r:Rl)(k:Nat),oR l (rs++[r]) k=oR l rs k++if((k+rs.length:Nat):Int)∈l then [r]else []
 |[],r,k=>by simp[oR]
 |a::rs,r,k=>by
  rw[Ze3,oR,Wu l rs r (k+1),oR,Zg4,Zc2,show k+1+rs.length=k+(rs.length+1)by omega]
theorem OR(l:List Int):∀(rs:List Rl)(k:Nat),(oR l rs k).length<=rs.length
 |[],_=>Za6 _
 |r::rs,k=>by have:=OR l rs (k+1);unfold oR;rw[Zc9,Zc2];split<;>simp<;>omega
section
variable{s1:St}{b7:Pos}{U1 U2 U3 U4:AV}{p:aP}
theorem alS(hc:Sem c){l:List Int}(MR:l.length<cC)(hl:p.rs.length<=100)(hge:s1.next.toNat<=b7.toNat)(z:Bool)(x4:AV)(F:Nat):
  ∀ (m k f:Nat)(t:St)(V:AV),k+m=p.rs.length->m<f->Mk 6 s1 t V ((oR l (p.rs.take k) 0).map Rl.cells)->t.heap.get b7=some (.cells [U1,U2,U3,U4,V] 0)->bN V≠some b7->
    ∃t' V',Mk 6 s1 t' V' ((oR l p.rs 0).map Rl.cells)/\t'.heap.get b7=some (.cells [U1,U2,U3,U4,V'] 0)/\∀k2:Q2,yx c F k2 f [ints z l,x4,.ptr b7 0,dm p.rz p.rs,.int .i64 (p.rs.length:Int),.int .i64 (k:Int)] t=k2 [x4,.ptr b7 0] t':=by
 intro m;induction m with
 |zero=>
  intro k f t V hk hf M h7 ho;obtain⟨f,rfl⟩:∃g,f=g+1:=⟨f - 1,by omega⟩
  obtain rfl:k=p.rs.length:=by omega
  rw[Zh6]at M;refine⟨t,V,M,h7,λk2=> ?_⟩;rw[EC];simp only[au,ay,aE,Zg1,Zf6,aX]
 |succ m ih=>
  intro k f t V hk hf M h7 ho;obtain⟨f,rfl⟩:∃g,f=g+1:=⟨f - 1,by omega⟩
  have wN:k<p.rs.length:=by omega
  have aW:decide ((k:Int)<(p.rs.length:Int))=true:=Za1 (by omega);have wr:Unit->az .i64 ((k:Int)+1)=((k+1:Nat):Int):=λ_=>by rw[wrap64 (by omega) (by omega)];omega
  have g1:=Grew.ah M.aA.wf (.cells (p.rs[k]).cells 0);have M1:=M.grow g1;have x9:=aF t (.cells (p.rs[k]).cells 0);have h71:=g1.get h7;have aj2:=M1.aA.wf _ _ h71;have st:=λ(K:AV->St->Option (AV×St))=>Ua (c:=c) (p.rs[k]) t K
  obtain⟨t1,ht1⟩:∃t1,t1=ah t (.cells (p.rs[k]).cells 0):=⟨_,rfl⟩
  rw[<-ht1]at g1 M1 x9 h71 aj2;have st:∀(K:AV->St->Option (AV×St)),aj c (.store 6) [.ptr t.next 0,.agg (p.rs[k]).cells] (ah t (.cells [.int .u8 0,.int .i64 0,.str [],.str [],.str [],.int .i64 0] 0)) K=K .undef t1:=λK=>by rw[ht1];exact st K
  have ct:=ac8 hc z l MR (k:Int) t1;have et:p.rs.take (k+1)=p.rs.take k++[p.rs[k]]:=Zb8 wN;have ei:=Wu l (p.rs.take k) p.rs[k] 0;rw[<-et,Ze0,Zh5 (by omega),Za5]at ei;have il:(oR l (p.rs.take k) 0).length<=100:=Zb7 (OR l _ _) (by rw[Ze0];omega);by_cases e:(k:Int)∈l
  . have er:p.rs[k]=p.rs[k]:=rfl;rw[Za1 e]at ct;rw[Zb5 e]at ei;obtain⟨t5,V5,a1,M5,a3,a4⟩:=M1.push (R:=AV×St) (c:=c) (bytes:=72) (z:=[.int .u8 0,.int .i64 0,.str [],.str [],.str [],.int .i64 0]) (x:= .agg (p.rs[k]).cells) rfl rfl rfl (by omega) (by rw[Zb9];omega) (by rw[Zb9];omega);have h75:=a3 _ _ ho h71;obtain⟨v1,v2⟩:=M5.cells;have pt:∀(K:AV->St->Option (AV×St)),aj c (.store 1) [.ptr b7 4,V5] t5 K=K .undef (bI t5 b7 (.cells [U1,U2,U3,U4,V5] 0)):=λK=>by rw[Ex (c:=c) K h75 (o:=4) (by show 4<5;omega) v1 (Xx v2)];rfl
    have cA:bN V5≠some b7:=λe=>by have:=a4 _ e;omega
    obtain⟨t',V',z1,z2,z3⟩:=ih (k+1) f (bI t5 b7 (.cells [U1,U2,U3,U4,V5] 0)) V5 (by omega) (by omega) (by rw[ei,Ze2];exact M5.store hge (M5.aA.wf _ _ h75) cA) (cW _ _ _) cA;refine⟨t',V',z1,z2,λk2=> ?_⟩;rw[<-z3 k2,EC];have l6:∀(K:AV->St->Option (AV×St)),aj c (.load (some 6)) [.ptr t.next 0] t1 K=K (.agg (p.rs[k]).cells) t1:=λK=>by rw[cY,x9];rfl
    simp only[au,ay,aE,aW,bk,bO,ai,Db p.rz p.rs wN,Fm p.rs wN,bM,st,aT,ct,aR,aG,Za5,aN,h71,ak,Za2,Zb0,Zb3,aD,l6,a1,pt,bw,wr ()]
  .rw[Za3 e]at ct;rw[Zb2 e,Zd4]at ei;obtain⟨t',V',z1,z2,z3⟩:=ih (k+1) f t1 V (by omega) (by omega) (by rw[ei];exact M1) h71 ho;refine⟨t',V',z1,z2,λk2=> ?_⟩;rw[<-z3 k2,EC];simp only[au,ay,aE,aW,bk,aX,bO,ai,Db p.rz p.rs wN,Fm p.rs wN,bM,st,aT,ct,aR,bw,wr ()]
end
theorem alT(hc:Sem c)(p:aP)(hp:p.ew)(vK:mI c p)(hR:p.Real)(hr:∀r∈p.rs,r.Ok)(hk:(aU p).2=0)(z:Bool){l:List Int}(MR:l.length<cC)(s:St)(hw:Wf s):
  ∃Vs s',c 12 [.agg p.cells,ints z l] s=some (.agg Vs,s')/\PS s s' Vs (p.Hx true (oR l p.rs 0)):=by
 have gA:=Grew.ah hw (.cells p.cells 0);have gB:=Grew.ah gA.wf (.cells [.af,.af,.af,.af,.af] 0);have x2:=aF s (.cells p.cells 0);have x4:=aF (ah s (.cells p.cells 0)) (.cells [.af,.af,.af,.af,.af] 0);have n4:s.next.toNat<(ah s (.cells p.cells 0)).next.toNat:=by rw[cO,Pos.aK];omega
 obtain⟨sA,Fe⟩:∃sA,sA=ah s (.cells p.cells 0):=⟨_,rfl⟩
 rw[<-Fe]at gA gB x2 x4 n4;have bx:∀(K:AV->St->Option (AV×St)),aj c .box [.agg p.cells] s K=K (.ptr s.next 0) sA:=λK=>by rw[dw,Fe];rfl
 obtain⟨b4,hb4⟩:∃b4,b4=sA.next:=⟨_,rfl⟩
 have al:∀(K:AV->St->Option (AV×St)),aj c (.alloc [.af,.af,.af,.af,.af]) [] sA K=K (.ptr b4 0) (ah sA (.cells [.af,.af,.af,.af,.af] 0)):=λK=>by rw[bM,hb4]
 obtain⟨sB,hsB⟩:∃sB,sB=ah sA (.cells [.af,.af,.af,.af,.af] 0):=⟨_,rfl⟩
 rw[<-hsB]at gB x4 al;rw[<-hb4]at x4 n4;have x2B:=gB.get x2;have ck:=mg hc p hp vK hr sB gB.wf;obtain⟨Us,sC,cp,P⟩:=agc hc p hR sB gB.wf;obtain⟨ul,uo⟩:=P.cells;obtain⟨U1,U2,U3,U4,U5,r1,r2,rfl,h1,h2,h3,h4,h5⟩:=P.all;have wC:=P.aA.wf;have Sd:∀(K:AV->St->Option (AV×St)),aj c (.store 5) [.ptr sC.next 0,.agg [U1,U2,U3,U4,U5]] (ah sC (.cells [.af,.af,.af,.af,.af] 0)) K=K .undef (ah sC (.cells [U1,U2,U3,U4,U5] 0)):=λK=>cV c K sC 5 (.agg [U1,U2,U3,U4,U5]) _ ul rfl uo
 have pt4:∀(K:AV->St->Option (AV×St)),aj c (.store 1) [.ptr sC.next 4,.af] (ah sC (.cells [U1,U2,U3,U4,U5] 0)) K=K .undef (ah sC (.cells [U1,U2,U3,U4,.af] 0)):=λK=>by rw[Ex (c:=c) K (aF sC (.cells [U1,U2,U3,U4,U5] 0)) (o:=4) (by show 4<5;omega) rfl rfl,YM];rfl
 have gD:=Grew.ah wC (.cells [U1,U2,U3,U4,.af] 0);have x7:=aF sC (.cells [U1,U2,U3,U4,.af] 0);have lk:(p.rs.length:Nat)<=100:=hp.rs;have M0:Mk 6 sC (ah sC (.cells [U1,U2,U3,U4,.af] 0)) .af ((oR l (p.rs.take 0) 0).map Rl.cells):=Mk.start wC gD;obtain⟨t',V',z1,z2,z3⟩:=alS (c:=c) (b7:=sC.next) hc MR lk (Za6 _) z (.ptr b4 0) 200 p.rs.length 0 200 _ .af (Za5 _) (by omega) M0 x7 (λe=>by cases e);simp only[show((0:Nat):Int)=0 from rfl]at z3;have gT:=z1.aA;have Se:=gB.trans (P.aA.trans gT);have x4T:=(P.aA.trans gT).get x4;obtain⟨v1,v2⟩:=z1.cells;have onV:aV [U1,U2,U3,U4,V']=true:=by
  have o1:=h1.out.cells.2;have o2:=h2.out.cells.2;have o3:=h3.cells.2;have o4:=h4.cells.2;simp only[aV,Zg8]at o1 o2 o3 o4 v2;simp only[aV,o1,o2,o3,o4,v2,Ze5]
 have KD:∀(K:AV->St->Option (AV×St)),aj c (.store 5) [.ptr b4 0,.agg [U1,U2,U3,U4,V']] t' K=K .undef (bI t' b4 (.cells [U1,U2,U3,U4,V'] 0)):=λK=>by rw[dz c K t' 5 b4 0 (.agg [U1,U2,U3,U4,V']) _ x4T rfl (by simp) onV];rfl
 have l47:=Se.wf _ _ x4T;have nB4:b4.toNat<sB.next.toNat:=gB.wf _ _ x4;have nsC:=P.aA.next;have gF:Grew s (bI t' b4 (.cells [U1,U2,U3,U4,V'] 0)):=ajR hw (gA.trans Se) (by omega) l47 _;have keep:∀(q:Pos)(b:AB),sB.next.toNat<=q.toNat->t'.heap.get q=some b->(bI t' b4 (.cells [U1,U2,U3,U4,V'] 0)).heap.get q=some b:=λq b hq hb=>by rw[aO (λe=>by rw[<-e]at hq;omega)];exact hb
 have PF0:=P.kZ hw (gA.trans gB) gF λq b hq hb=>keep q b hq (gT.get hb)
 have MF:Mk 6 s (bI t' b4 (.cells [U1,U2,U3,U4,V'] 0)) V' ((oR l p.rs 0).map Rl.cells):=z1.kZ hw ((gA.trans gB).trans P.aA) gF λq b hq hb=>keep q b (by omega) hb
 have PF:PS s (bI t' b4 (.cells [U1,U2,U3,U4,V'] 0)) [U1,U2,U3,U4,V'] (p.Hx true (oR l p.rs 0)):=by
  obtain⟨W1,W2,W3,W4,W5,q1,q2,e,k1,k2,k3,k4,k5⟩:=PF0.all;simp only[Zh1,Zm4]at e;obtain⟨rfl,rfl,rfl,rfl,rfl⟩:=e;exact⟨gF,U1,U2,U3,U4,V',q1,q2,rfl,k1,k2,k3,k4,MF⟩
 obtain⟨cP,t1,t2⟩:=PF.tidy hw;refine⟨_,cP,?_,t2⟩;have x2T:=P.aA.get x2B;have x2D:=gD.get x2T;have pV:cut p.cells 0 5=some p.cells:=bP rfl;have hcV:cut [U1,U2,U3,U4,V'] 0 5=some [U1,U2,U3,U4,V']:=bP rfl;have d0:decide ((aU p).2=0)=true:=Za1 hk;rw[Qg hc 200 (r:=(.agg [U1,U2,U3,U4,V'],bI t' b4 (.cells [U1,U2,U3,U4,V'] 0))),t1];rw[Vj];simp only[bx,bM, <-hsB, <-hb4,ai,cY,x2B,ak,Za2,pV,cT,aT,ck,aR,fq,Zb0,Zb3,aD,nM,d0,Zf8,aX,cp,Sd,aG,Za5,pt4,aN,x2D,aP.c4,ID,z3,au,ay,z2,hcV,KD,OG,cW]
section
variable{p:aP}
theorem aal(hc:Sem c)(hp:p.ew)(vK:mI c p)(hr:∀r∈p.rs,r.Ok)(hk:(aU p).2≠0)(h:Bool)(s:St)(hw:Wf s):c 34 [.agg p.cells,.bool h] s=some (.af,s):=by
 have gA:=Grew.ah hw (.cells p.cells 0);have x2:=aF s (.cells p.cells 0);have bx:∀(K:AV->St->Option (AV×St)),aj c .box [.agg p.cells] s K=K (.ptr s.next 0) (ah s (.cells p.cells 0)):=λK=>by rw[dw];rfl
 have ck:=mg hc p hp vK hr _ gA.wf;have pV:cut p.cells 0 5=some p.cells:=bP rfl;have d0:decide ((aU p).2=0)=false:=Za3 hk;rw[KU hc 1 (r:=(.af,ah s (.cells p.cells 0))),aB Plain.af gA.keeps];rw[Qe];simp only[bx,ai,cY,x2,ak,Za2,pV,cT,aT,ck,aR,fq,Zb0,Zb3,aD,nM,d0,Zi4,bk]
theorem alU(hc:Sem c)(hp:p.ew)(vK:mI c p)(hr:∀r∈p.rs,r.Ok)(hk:(aU p).2≠0)(s:St)(hw:Wf s):c 8 [.agg p.cells] s=some (.af,s):=by
 have gA:=Grew.ah hw (.cells p.cells 0);have x2:=aF s (.cells p.cells 0);have bx:∀(K:AV->St->Option (AV×St)),aj c .box [.agg p.cells] s K=K (.ptr s.next 0) (ah s (.cells p.cells 0)):=λK=>by rw[dw];rfl
 have pV:cut p.cells 0 5=some p.cells:=bP rfl;have e:=aal hc hp vK hr hk true _ gA.wf;rw[Qf hc 1 (r:=(.af,ah s (.cells p.cells 0))),aB Plain.af gA.keeps];rw[Vi];simp only[bx,ai,cY,x2,ak,Za2,pV,cT,aT,e,aR]
theorem agj(hc:Sem c)(hp:p.ew)(vK:mI c p)(hr:∀r∈p.rs,r.Ok)(hk:(aU p).2≠0)(s:St)(hw:Wf s):c 9 [.agg p.cells] s=some (.af,s):=by
 have gA:=Grew.ah hw (.cells p.cells 0);have x2:=aF s (.cells p.cells 0);have bx:∀(K:AV->St->Option (AV×St)),aj c .box [.agg p.cells] s K=K (.ptr s.next 0) (ah s (.cells p.cells 0)):=λK=>by rw[dw];rfl
 have pV:cut p.cells 0 5=some p.cells:=bP rfl;have e:=aal hc hp vK hr hk false _ gA.wf;rw[I7 hc 1 (r:=(.af,ah s (.cells p.cells 0))),aB Plain.af gA.keeps];rw[Nt];simp only[bx,ai,cY,x2,ak,Za2,pV,cT,aT,e,aR]
theorem alV(hc:Sem c)(hp:p.ew)(vK:mI c p)(hr:∀r∈p.rs,r.Ok)(hk:(aU p).2≠0)(V:AV)(s:St)(hw:Wf s):c 12 [.agg p.cells,V] s=some (.agg [.af,.af,.af,.af,.af],s):=by
 have gA:=Grew.ah hw (.cells p.cells 0);have gB:=Grew.ah gA.wf (.cells [.af,.af,.af,.af,.af] 0);have x2:=aF s (.cells p.cells 0);have bx:∀(K:AV->St->Option (AV×St)),aj c .box [.agg p.cells] s K=K (.ptr s.next 0) (ah s (.cells p.cells 0)):=λK=>by rw[dw];rfl
 have x2B:=gB.get x2;have ck:=mg hc p hp vK hr _ gB.wf;have pV:cut p.cells 0 5=some p.cells:=bP rfl;have d0:decide ((aU p).2=0)=false:=Za3 hk;rw[Qg hc 1 (r:=(.agg [.af,.af,.af,.af,.af],ah (ah s (.cells p.cells 0)) (.cells [.af,.af,.af,.af,.af] 0))),aB (Plain.agg (λv hv=>by simp at hv;subst hv;exact Plain.af)) (gA.trans gB).keeps];rw[Vj];have fa:cH [.af,.af,.af,.af,.af] [] []=some [.af,.af,.af,.af,.af]:=rfl;have MH:∀(K:AV->St->Option (AV×St)),aj c (.store 5) [.ptr (ah s (.cells p.cells 0)).next 0,.agg [.af,.af,.af,.af,.af]] (ah (ah s (.cells p.cells 0)) (.cells [.af,.af,.af,.af,.af] 0)) K=K .undef (ah (ah s (.cells p.cells 0)) (.cells [.af,.af,.af,.af,.af] 0)):=λK=>cV c K (ah s (.cells p.cells 0)) 5 (.agg [.af,.af,.af,.af,.af]) [.af,.af,.af,.af,.af] rfl rfl rfl
 have hcZ:cut [AV.af,.af,.af,.af,.af] 0 5=some [.af,.af,.af,.af,.af]:=bP rfl;simp[bx,x2B,pV,ck,d0,fa,MH,hcZ]
end
end
section
open Go Go.Ai Go.Proofs
section
variable{p:aP}
theorem Zs(h:(aU p).2=0):(fU p).2=0:=by
 unfold aU at h;by_cases e:(fU p).2≠0
 .rw[Zb5 e]at h;exact absurd h e
 .exact Zq5.1 e
theorem Yd(p:aP):∀(m i:Nat),(fJ p m i).2=0->∀(k:Nat)(r:Rl),i<=k->k<i+m->p.rs[k]? =some r->sx p r=0
 |0,i,_,k,r,h1,h2,_=>by omega
 |m +   1,i,h,k,r,h1,h2,hr=>by
  rw[fJ]at h;have hi:i<p.rs.length:=by have:=(Za4.1 hr).1;omega
  rw[Za0 hi]at h;simp only at h;by_cases e:sx p p.rs[i]=0
  . rw[Zb2 (by simp[e])]at h;by_cases e2:i=64
    .   rw[Zb5 e2]at h;simp at h
    .   rw[Zb2 e2]at h;by_cases e3:i=k
        .subst e3;rw[Za0 hi]at hr;cases hr;exact e
        .exact Yd p m (i+1) h k r (by omega) (by omega) hr
  .rw[Zb5 e]at h;exact absurd h e
theorem amH(h:(aU p).2=0)(hl:p.rs.length<=100){r:Rl}(hr:r∈p.rs):sx p r=0:=by
 obtain⟨k,hk,rfl⟩:=Zf0.1 hr;have hb:=Zs h;unfold aU at h;rw[Zb2 (by simp[hb])]at h;exact Yd p 100 0 h k _ (Zj1 _) (by omega) (Za0 hk)
theorem MP(h:(aU p).2=0):(bJ p.ts).2=0:=by
 have h:=Zs h;unfold fU at h;by_cases e:(bJ p.ts).2≠0
 .rw[Zb5 e]at h;exact absurd h e
 .exact Zq5.1 e
theorem ahR(h:(aU p).2=0):(bW p.gs p.ys).2=0:=by
 have h:=Zs h;unfold fU at h;by_cases e:(bJ p.ts).2≠0
 .rw[Zb5 e]at h;exact absurd h e
 rw[Zb2 e]at h;by_cases e:(bW p.gs p.ys).2≠0
 .rw[Zb5 e]at h;exact absurd h e
 .exact Zq5.1 e
theorem afL(h:(aU p).2=0){i:Nat}{t:aH}(ht:p.ts[i]? =some t):mP t=0:=KQ (MP h) ht
theorem Ye(ts:List aH):∀(m k:Nat),ts.length<=k+m->(dW ts m k).2=0->∀(i:Nat)(t:aH),k<=i->ts[i]? =some t->scan (iP ts t.name) i 0<0
 |0,k,h1,_,i,t,h3,h4=>by rw[Zc6 (by omega)]at h4;cases h4
 |m +   1,k,h1,h2,i,t,h3,h4=>by
  have hk:k<ts.length:=by have:=(Za4.1 h4).1;omega
  rw[dW,Za0 hk]at h2;simp only at h2;by_cases h5:mP ts[k]=0
  . rw[Zb2 (by simpa using h5)]at h2;by_cases h7:0<=scan (iP ts ts[k].name) k 0
    .   rw[Zb5 h7]at h2;simp at h2
    .   rw[Zb2 h7]at h2;by_cases h6:i=k
        .subst h6;rw[Za0 hk]at h4;cases h4;omega
        .exact Ye ts m (k+1) (by omega) h2 i t (by omega) h4
  .rw[Zb5 h5]at h2;exact absurd h2 h5
theorem KV{P:Nat->Bool}:∀(m k:Nat),scan P m k<0->∀i,k<=i->i<k+m->P i=false
 |0,k,_,i,h1,h2=>by omega
 |m +1,k,h,i,h1,h2=>by
  unfold scan at h;by_cases e:P k=true
  .rw[Zb5 e]at h;omega
  . rw[Zb2 e]at h;by_cases e2:i=k
    .subst e2;simpa using e
    .exact KV m (k+1) h i (by omega) (by omega)
theorem amI(h:(aU p).2=0){i j:Nat}{t u:aH}(ht:p.ts[i]? =some t)(hu:p.ts[j]? =some u)(e:t.name=u.name):i=j:=by
 have hv:=MP h;have D:∀(i:Nat)(t:aH),p.ts[i]? =some t->scan (iP p.ts t.name) i 0<0:=λi t ht=>by
   unfold bJ at hv;by_cases e:16<p.ts.length
   .rw[Zb5 e]at hv;simp at hv
   .rw[Zb2 e]at hv;exact Ye p.ts _ 0 (by omega) hv i t (Zj1 _) ht
 by_cases h1:i<j
 .have:=KV j 0 (D j u hu) i (Zj1 _) (by omega);simp[iP,ht,e]at this
 . by_cases h2:j<i
   .have:=KV i 0 (D i t ht) j (Zj1 _) (by omega);simp[iP,hu,e]at this
   .omega
theorem aam(gs:List aS):∀(m k:Nat),(iq gs m k).2=0->∀(i:Nat)(g:aS),k<=i->i<k+m->gs[i]? =some g->fe g=0
 |0,k,_,i,g,h1,h2,_=>by omega
 |m +1,k,h,i,g,h1,h2,hg=>by
  have hk:k<gs.length:=by have:=(Za4.1 hg).1;omega
  rw[iq,Za0 hk]at h;simp only at h;by_cases e:fe gs[k]=0
  . rw[Zb2 (by simp[e])]at h;by_cases e2:0<=scan (jX gs gs[k].name) k 0
    .rw[Zb5 e2]at h;simp at h
    rw[Zb2 e2]at h;by_cases e3:64<=k
    .rw[Zb5 e3]at h;simp at h
    rw[Zb2 e3]at h;by_cases e4:i=k
    .subst e4;rw[Za0 hk]at hg;cases hg;exact e
    .exact aam gs m (k+1) h i g (by omega) (by omega) hg
  .rw[Zb5 e]at h;exact absurd h e
theorem abl(h:(aU p).2=0)(hl:p.gs.length<=100){g:aS}(hg:g∈p.gs):fe g=0:=by
 obtain⟨k,hk,rfl⟩:=Zf0.1 hg;have h:=ahR h;unfold bW at h;by_cases e:(iq p.gs 101 0).2=0
 .exact aam p.gs 101 0 e k _ (Zj1 _) (by omega) (Za0 hk)
 .rw[Zb5 e]at h;exact absurd h e
theorem aan(gs:List aS)(ts:List Ty):∀(m k:Nat),(fT gs ts m k).2=0->∀(i:Nat)(t:Ty),k<=i->i<k+m->ts[i]? =some t->Fg t=true
 |0,k,_,i,t,h1,h2,_=>by omega
 |m +1,k,h,i,t,h1,h2,ht=>by
  have hk:k<ts.length:=by have:=(Za4.1 ht).1;omega
  rw[fT,Za0 hk]at h;simp only at h;by_cases e:T6 ts[k] (nW ts k)=true
  .rw[Zb5 e]at h;simp at h
  rw[Zb2 e]at h;by_cases e1:mD gs ts[k]=true
  .rw[Zb5 e1]at h;simp at h
  rw[Zb2 e1]at h;by_cases e2:sw ts[k] (nW ts k)=true
  .rw[Zb5 e2]at h;simp at h
  rw[Zb2 e2]at h;by_cases e3:256<=k
  .rw[Zb5 e3]at h;simp at h
  rw[Zb2 e3]at h;by_cases e4:i=k
  . subst e4;rw[Za0 hk]at ht;cases ht;unfold T6 at e;cases hx:Fg ts[i]with
    |true=>rfl
    |false=>rw[hx]at e;simp at e
  .exact aan gs ts m (k+1) h i t (by omega) (by omega) ht
theorem anG(h:(aU p).2=0)(hl:p.ys.length<=100){t:Ty}(ht:t∈p.ys):t.k=1\/t.k=2:=by
 obtain⟨k,hk,rfl⟩:=Zf0.1 ht;have h:=ahR h;unfold bW at h;by_cases e:(iq p.gs 101 0).2=0
 .rw[Zb2 (by simp[e])]at h;have:=aan p.gs p.ys 101 0 h k _ (Zj1 _) (by omega) (Za0 hk);simpa [Fg]using this
 .rw[Zb5 e]at h;exact absurd h e
theorem amJ{s:List Nat}(h:eX s=true):s≠[]:=by intro e;subst e;simp[eX]at h
theorem alW(h:(aU p).2=0)(hl:p.gs.length<=100){g:aS}(hg:g∈p.gs):g.name≠[]:=by
 have e:=abl h hl hg;unfold fe at e;by_cases x:eX g.name=true
 .exact amJ x
 .rw[Zb5 (by simp[x])]at e;cases e
theorem v_tg(h:(aU p).2=0)(hl:p.gs.length<=100){g:aS}(hg:g∈p.gs):g.tg.length<=4:=by
 have e:=abl h hl hg;unfold fe at e;by_cases x:4<g.tg.length
 . repeat' split at e
   all_goals first|(cases e;done)|skip
 .omega
theorem adq:∀(l:List Int)(n last:Int),last<n->uE n last l=true->(l.length:Int)<=n - 1 - last
 |[],n,last,h,_=>by simp;omega
 |k::l,n,last,_,h=>by simp only[uE,Zb6,Zd1]at h;have:=adq l n k h.1.2 h.2;rw[Zc2];omega
theorem akD{t:aH}(h:mP t=0):(t.cD.length:Int)<=aY t:=by
 have hz:=jJ t;have hs:=SE h;unfold mP at h;by_cases x:uE (aY t) (-1) t.cD=true
 .have:=adq t.cD (aY t) (-1) (by omega) x;omega
 . repeat' split at h
   all_goals first|(cases h;done)|simp_all
end
section
variable{p:aP}
theorem alX{m:Nat}(h:¬(1<=m/\m<=18)):(kd m).w=[]:=by
 have:kd m=⟨[],0,false,0,false,0,false,.lf⟩:=by unfold kd;split<;>first|rfl|omega
 rw[this]
structure RV(p:aP)(r:Rl)(m:Nat):Prop where
 k:r.k=(m:Int)
 m1:1<=m
 m2:m<=18
 pl:yj (kd m) r=true
 mid:Wi (kd m) p r=0
theorem v_rl(h:(aU p).2=0)(hl:p.rs.length<=100){r:Rl}(hr:r∈p.rs)(ok:r.Ok):∃m,RV p r m:=by
 have e:=amH h hl hr;obtain⟨m,hm⟩:∃m:Nat,r.k=(m:Int):=⟨r.k.toNat,by have:=ok.1;omega⟩
 unfold sx at e;rw[hm,Zk9]at e;unfold IE at e;by_cases h1:(kd m).w=[]
 .rw[Zb5 h1]at e;cases e
 rw[Zb2 h1]at e;by_cases h2:r.wt<0\/1000<r.wt
 .rw[Zb5 h2]at e;cases e
 rw[Zb2 h2]at e;by_cases h3:yj (kd m) r=false
 .rw[Zb5 h3]at e;cases e
 rw[Zb2 h3]at e;have hm2:1<=m/\m<=18:=Decidable.byContradiction λhn=>h1 (alX hn)
 split at e
 .cases e
 .exact⟨m,hm,hm2.1,hm2.2,by simpa using h3,e⟩
def KA(p:aP)(r:Rl)(g:aS):Bool:=match r.k.toNat with
 |1=>decide (g.name=r.a)||decide (g.name=r.b)
 |2=>decide (g.name=r.a)||decide (g.name=r.b)
 |3=>decide (g.name=r.a)||decide (g.name=r.b)
 |4=>decide (g.name=r.a)||decide (g.name=r.b)
 |5=>decide (g.name=r.a)||decide (g.name=r.b)
 |6=>decide (g.name=r.a)
 |7=>decide (g.name=r.a)
 |10=>decide (g.name=r.a)||(decide (r.a=[])&&g.access)
 |8=> !decide (g.side=0)
 |18=> !decide (g.jW=[])
 |17=>decide (g.nv=r.a)
 |12=>p.ys.any λt=>(decide (t.a=g.name)||decide (t.b=g.name))&&(decide (t.k=2)==decide (r.k=12))
 |13=>p.ys.any λt=>(decide (t.a=g.name)||decide (t.b=g.name))&&(decide (t.k=2)==decide (r.k=12))
 |_=>true
theorem adr{α:Type}{l:List α}{P Q:α->Bool}(h:∀x∈l,P x=Q x):l.any P=l.any Q:=by
 induction l with
 |nil=>rfl
 |cons a l ih=>rw[Zo8,Zo8,h a (by simp),ih λx hx=>h x (Za8 _ hx)]
theorem ano(h:(aU p).2=0)(hp:p.ew){r:Rl}{m:Nat}(R:RV p r m){g:aS}(hg:g∈p.gs):KA p r g=ya p r g:=by
 have hn:=alW h hp.gs hg;have hs:0<=g.side:=by
   have e:=abl h hp.gs hg;unfold fe at e;by_cases x:0<=g.side/\g.side<=2
   .exact x.1
   . repeat' split at e
     all_goals first|(cases e;done)|simp_all
 have T:∀t∈p.ys,t.k=1\/t.k=2:=λt ht=>anG h hp.ys ht
 obtain⟨hk,h1,h2,oZ,_⟩:=R;have pb:(kd m).b=false->r.b=[]:=λe=>by unfold yj at oZ;rw[e]at oZ;simp only[Zl1,Zb6,Zd1]at oZ;exact oZ.1.1.2
 have ht:r.k.toNat=m:=by rw[hk];rfl
 unfold KA ya;rw[ht];have hm:m=1\/m=2\/m=3\/m=4\/m=5\/m=6\/m=7\/m=8\/m=9\/m=10\/m=11\/m=12\/m=13\/m=14\/m=15\/m=16\/m=17\/m=18:=by omega
 rcases hm with rfl|rfl|rfl|rfl|rfl|rfl|rfl|rfl|rfl|rfl|rfl|rfl|rfl|rfl|rfl|rfl|rfl|rfl<;>try rfl
 .have e:decide (g.name=r.b)=false:=Za3 (by rw[pb rfl];exact hn);simp only[e,Zh0]
 .have e:decide (g.name=r.b)=false:=Za3 (by rw[pb rfl];exact hn);simp only[e,Zh0]
 . by_cases e:g.side=0
   .simp[e]
   .have:0<g.side:=(by omega);simp[e,this]
 .show _=Vh p.ys g.name 2;unfold Vh;(refine adr λt ht=> ?_);unfold tdP;rw[hk];rcases T t ht with e|e<;>simp[e]
 .show _=Vh p.ys g.name 1;unfold Vh;(refine adr λt ht=> ?_);unfold tdP;rw[hk];rcases T t ht with e|e<;>simp[e]
def Dc(t:aH)(first:Int)(r:Rl):List Int:=if r.k=7/\r.t=t.name then [first+r.n]else if r.k=14/\(r.t=[]\/r.t=t.name)then [first+cG t]else []
def FO(t:aH)(first:Int)(rs:List Rl):List Int:=rs.flatMap (Dc t first)
def lV(t:aH)(k:Nat)(r:Rl):Bool:=(decide (r.k=7)&&decide (r.t=t.name)&&decide (r.n=(k:Int)))||(decide (r.k=14)&&(decide (r.t=[])||decide (r.t=t.name))&&decide (cG t=(k:Int)))
def zK(t:aH)(first:Int)(rs:List Rl)(n:Nat):List Int:=((List.range n).filter λk=>rs.any (lV t k)).map λ(k:Nat)=>first+(k:Int)
theorem aj3(l:List Int):(AQ l).Pairwise (· <= ·):=by unfold AQ;exact(List.pairwise_mergeSort (le:=λx y=>decide (x<=y)) (λa b d h1 h2=>by simp only[Zd1]at *; omega) (λa b=>by simp only[Zg5,Zd1];omega) l).imp λh=>by simpa using h
theorem aeS(h:(aU p).2=0)(hp:p.ew)(ok:∀r∈p.rs,r.Ok){i:Nat}{t:aH}(ht:p.ts[i]? =some t){r:Rl}(hr:r∈p.rs)(hk:r.k=7)(hn:r.t=t.name):0<=r.n/\r.n<aY t:=by
 obtain⟨m,R⟩:=v_rl h hp.rs hr (ok r hr);have hm:m=7:=by have:=R.k;omega
 subst hm;have e:=R.mid;have ei:ti p r.t=(i:Int):=by
   have fN:=(Za4.1 ht).1;have h0:0<=ti p r.t:=by
     (refine Decidable.byContradiction λhc=> ?_);have:=KV (P:=iP p.ts r.t) p.ts.length 0 (by unfold ti at hc;omega) i (Zj1 _) (by omega);simp[iP,ht,hn]at this
   obtain⟨a1,a2,a3⟩:=Iw p.ts.length 0 h0;simp only[iP,Zd1,Zi7]at a3;obtain⟨u,hu,MK⟩:=a3;have:=amI h hu ht (by rw[MK,hn]);change (ti p r.t).toNat=i at this;omega
 unfold Wi at e;rw[Zb2 (by simp[kd]),Zb2 (by simp[kd])]at e;unfold T7 at e;split at e
 .cases e
 . unfold zL at e;have hs:(kd 7).uJ=true:=rfl;have hn7:(kd 7).n=true:=rfl;have Cv:(kd 7).lo=0:=rfl;rw[Zb5 hs,Cv]at e;have hz:uK p (ti p r.t)=aY t:=(by rw[ei];unfold uK;rw[Zk9,ht]);rw[hz]at e;by_cases x:(kd 7).n=true/\(r.n<0\/aY t - 1<r.n)
   .rw[Zb5 x]at e;cases e
   . have:¬(r.n<0\/aY t - 1<r.n):=λy=>x ⟨hn7,y⟩
     omega
theorem alY(h:(aU p).2=0)(hp:p.ew)(ok:∀r∈p.rs,r.Ok){i:Nat}{t:aH}(ht:p.ts[i]? =some t)(first:Int):Lib.compact (AQ (FO t first p.rs))=zK t first p.rs (aY t).toNat:=by
 refine ag7 (adM (aj3 _)) (ag8 _ _ _) λx=> ?_
 have hz:=SE (afL h ht);have hh:=Ez hz;rw[ad8,ahS];unfold FO zK;simp only[List.mem_flatMap,Zd0,Zk2,Zi5,Zo3];constructor
 . rintro⟨r,hr,hx⟩;unfold Dc at hx;by_cases c1:r.k=7/\r.t=t.name
   .rw[Zb5 c1]at hx;have hx:=Zf1.1 hx;obtain⟨n1,n2⟩:=aeS h hp ok ht hr c1.1 c1.2;refine⟨r.n.toNat,⟨by omega,r,hr,?_⟩,by omega⟩;unfold lV;rw[Za1 c1.1,Za1 c1.2,Za1 (show r.n=(r.n.toNat:Int)by omega)];rfl
   . rw[Zb2 c1]at hx;by_cases c2:r.k=14/\(r.t=[]\/r.t=t.name)
     .  rw[Zb5 c2]at hx;have hx:=Zf1.1 hx;refine⟨(cG t).toNat,⟨by omega,r,hr,?_⟩,by omega⟩;unfold lV;rw[Za1 c2.1,Za1 (show cG t=((cG t).toNat:Int)by omega),Zg5];exact .inr (by simpa using c2.2)
     .  rw[Zb2 c2]at hx;cases hx
 . rintro⟨k,⟨hk,r,hr,hb⟩,rfl⟩;refine⟨r,hr,?_⟩;unfold lV at hb;unfold Dc;simp only[Zg5,Zb6,Zd1]at hb;rcases hb with⟨⟨b1,b2⟩,b3⟩|⟨⟨b1,b2⟩,b3⟩
   .rw[Zb5 ⟨b1,b2⟩,b3];exact Zf1.2 rfl
   .rw[Zb2 (by omega),Zb5 ⟨b1,b2⟩,b3];exact Zf1.2 rfl
end
variable{c:aq}
theorem alZ(hc:Sem c)(p:aP)(hp:p.ew)(vK:mI c p)(hr:∀r∈p.rs,r.Ok)(s:St)(hw:Wf s):c 6 [.agg p.cells] s=some (.bool (decide ((aU p).2=0)),s):=by
 have gA:=Grew.ah hw (.cells p.cells 0);have x2:=aF s (.cells p.cells 0);have bx:∀(K:AV->St->Option (AV×St)),aj c .box [.agg p.cells] s K=K (.ptr s.next 0) (ah s (.cells p.cells 0)):=λK=>by rw[dw];rfl
 have ck:=ac3 hc p hp vK hr _ gA.wf;have pV:cut p.cells 0 5=some p.cells:=bP rfl;rw[Nu hc 1 (r:=(.bool (decide ((aU p).2=0)),ah s (.cells p.cells 0))),aB (Plain.bool _) gA.keeps];rw[Rb];simp only[bx,ai,cY,x2,ak,Za2,pV,cT,aT,ck,aR,fq,Zb0,Zb3,aD,nL]
theorem anH(rs:List Rl){k:Nat}(hk:k<rs.length)(o:Nat):((rs.map Rl.cells)[k]?.bind λcs=>cs[o]?)=(rs[k]).cells[o]? :=by rw[Zc3,Za0 hk];rfl
theorem j7(z:Bool)(rs:List Rl)(K:AV->St->Option (AV×St))(s:St):aj c (.lenB .l) [dm z rs] s K=K (.int .i64 (rs.length:Int)) s:=ID ..
theorem al0{s1:St}{p:aP}{q:Pos}(hl:p.rs.length<=100)(hq:s1.heap.get q=some (.cells p.cells 0))(h:Bool)(F:Nat):
  ∀(m k f:Nat)(t:St)(v:AV),k+m=p.rs.length->m<f->Mk 1 s1 t v ((pP (yb h) (p.rs.take k) 0).map dK)->∃t' v',Mk 1 s1 t' v' ((pP (yb h) p.rs 0).map dK)/\
   ∀k2:Q2,lW c F k2 f [.bool h,.ptr q 0,v,.int .i64 (k:Int)] t=k2 [v'] t':=by
 intro m;induction m with
 |zero=>
  intro k f t v hk hf M;obtain⟨f,rfl⟩:∃g,f=g+1:=⟨f - 1,by omega⟩
  obtain rfl:k=p.rs.length:=by omega
  rw[Zh6]at M;have xq:=M.aA.get hq;refine⟨t,v,M,λk2=> ?_⟩;rw[rA];simp only[au,ay,ai,aG,Za5,aN,xq,ak,Za2,aP.c4,aD,j7,aE,Zg1,Zf6,aX]
 |succ m ih=>
  intro k f t v hk hf M;obtain⟨f,rfl⟩:∃g,f=g+1:=⟨f - 1,by omega⟩
  have wN:k<p.rs.length:=by omega
  have xq:=M.aA.get hq;have aW:decide ((k:Int)<(p.rs.length:Int))=true:=Za1 (by omega);have wr:Unit->az .i64 ((k:Int)+1)=((k+1:Nat):Int):=λ_=>by rw[wrap64 (by omega) (by omega)];omega
  have et:p.rs.take (k+1)=p.rs.take k++[p.rs[k]]:=Zb8 wN;have ei:=Wt (yb h) (p.rs.take k) p.rs[k] 0;rw[<-et,Ze0,Zh5 (by omega),Za5]at ei;have il:(pP (yb h) (p.rs.take k) 0).length<=100:=Zb7 (Iu _ _ _) (by rw[Ze0];omega);have kW:=Db (c:=c) p.rz p.rs wN;have rr:=anH p.rs wN 1;generalize p.rs[k]=r at*
  have rr:((p.rs.map Rl.cells)[k]?.bind λcs=>cs[1]?)=some (.int .i64 r.wt):=rr;have Vb:(h==decide (r.wt=0))=yb h r:=by unfold yb;cases h<;>cases decide (r.wt=0)<;>rfl
  cases hb:yb h r with
  |true=>
   rw[hb,Zb5 rfl]at ei;rw[hb]at Vb;obtain⟨t5,v5,a1,M5,_,_⟩:=M.push (R:=AV×St) (c:=c) (bytes:=8) (z:=[.int .i64 0]) (x:= .int .i64 (k:Int)) rfl rfl rfl (by omega) (by rw[Zb9];omega) (by rw[Zb9];omega);obtain⟨t',v',z1,z2⟩:=ih (k+1) f t5 v5 (by omega) (by omega) (by rw[ei,Ze2];exact M5);refine⟨t',v',z1,λk2=> ?_⟩;rw[<-z2 k2,rA];simp only[au,ay,ai,aG,Za5,aN,xq,ak,Za2,aP.c4,aD,j7,aE,aW,bk,bO,kW,R4,OE,rr,nL,BL,Vb,a1,bw,wr ()]
  |false=>
   rw[hb,Zb2 (by decide),Zd4]at ei;rw[hb]at Vb;obtain⟨t',v',z1,z2⟩:=ih (k+1) f t v (by omega) (by omega) (by rw[ei];exact M);refine⟨t',v',z1,λk2=> ?_⟩;rw[<-z2 k2,rA];simp only[au,ay,ai,aG,Za5,aN,xq,ak,Za2,aP.c4,aD,j7,aE,aW,bk,aX,bO,kW,R4,OE,rr,nL,BL,Vb,bw,wr ()]
theorem al1(hc:Sem c)(p:aP)(hl:p.rs.length<=100)(h:Bool)(s:St)(hw:Wf s):
  ∃v s',c 15 [.agg p.cells,.bool h] s=some (v,s')/\Mk 1 s s' v ((pP (yb h) p.rs 0).map dK):=by
 have gA:=Grew.ah hw (.cells p.cells 0);have x2:=aF s (.cells p.cells 0);have bx:∀(K:AV->St->Option (AV×St)),aj c .box [.agg p.cells] s K=K (.ptr s.next 0) (ah s (.cells p.cells 0)):=λK=>by rw[dw];rfl
 obtain⟨t',v',z1,z2⟩:=al0 (c:=c) (s1:=ah s (.cells p.cells 0)) hl x2 h 200 p.rs.length 0 200 (ah s (.cells p.cells 0)) .af (Za5 _) (by omega) (Mk.start gA.wf (Grew.refl gA.wf));simp only[show((0:Nat):Int)=0 from rfl]at z2;obtain⟨s3,t1,t2⟩:=(z1.back hw gA).tidy;refine⟨v',s3,?_,t2⟩;rw[Nv hc 200 (r:=(v',t')),t1];rw[Rc];simp only[bx,ai,z2,au,ay]
theorem aj4{x2 x4 x5 x6:AV}(z:Bool){l:List Int}(hl:l.length<=1000000)(k:Int)(F:Nat)(t:St):∀(m j f:Nat)(b:Bool),j+m=l.length->m<f->
   ∀k4:Q2,jF c F k4 f [ints z l,x2,x4,x5,x6,.int .i64 k,.bool b,.int .i64 (j:Int)] t=k4 [ints z l,x2,x4,x5,x6,.int .i64 k,.bool (b||decide (k∈l.drop j))] t:=by
 have ln:∀(K:AV->St->Option (AV×St))(s1:St),aj c (.lenB .l) [ints z l] s1 K=K (.int .i64 (l.length:Int)) s1:=λK s1=>by unfold ints;simp
 intro m;induction m with
 |zero=>
  intro j f b hj hf k4;obtain⟨f,rfl⟩:∃g,f=g+1:=⟨f - 1,by omega⟩
  obtain rfl:j=l.length:=by omega
  rw[Zo4,Za3 (by simp),Zh0,rC];simp only[au,ay,ai,ln,aE,Zg1,Zf6,aX]
 |succ m ih=>
  intro j f b hj hf k4;obtain⟨f,rfl⟩:∃g,f=g+1:=⟨f - 1,by omega⟩
  have EW:j<l.length:=by omega
  have aW:decide ((j:Int)<(l.length:Int))=true:=Za1 (by omega);have wr:Unit->az .i64 ((j:Int)+1)=((j+1:Nat):Int):=λ_=>by rw[wrap64 (by omega) (by omega)];omega
  have ix:∀(K:AV->St->Option (AV×St))(s:St),aj c (.idxA 1 none) [ints z l,.int .i64 (j:Int)] s K=K (.fp (l.map λi=>[AV.int .i64 i]) j 0) s:=λK s=>by
   unfold ints;rw[Io];simp[EW]
  have rd:=V8 l j EW;have ed:(b||decide (k∈l.drop j))=((b||decide (l[j]=k))||decide (k∈l.drop (j+1))):=by
   rw[Zd2 EW,Bool.or_assoc];congr 1;by_cases e:l[j]=k
   .    simp[e]
   .    rw[Za3 e,Zl1];refine decide_eq_decide.2 ⟨λh=> ?_,λh=>Za8 _ h⟩;rcases Zb4.1 h with h|h
        .exact absurd h.symm e
        .exact h
  rw[ed];cases b with
  |true=>
   rw[<-ih (j+1) f (true||decide (l[j]=k)) (by omega) (by omega) k4,rC];simp only[au,ay,ai,ln,aE,aW,bk,z8,fc,Bool.true_or,bw,wr ()]
  |false=>
   rw[<-ih (j+1) f (false||decide (l[j]=k)) (by omega) (by omega) k4,rC];simp only[au,ay,ai,ln,aE,aW,bk,dI,ix,OE,rd,aD,nL,eM,Zl1,bw,wr ()]
theorem aj5{s1:St}{p:aP}{q:Pos}{x4 x5:AV}(z:Bool){l:List Int}(Nn:l.length<=1000000)(hl:p.rs.length<=100)(hq:s1.heap.get q=some (.cells p.cells 0))(F:Nat)(hF:l.length<F):
  ∀ (m k f:Nat)(t:St)(v:AV),k+m=p.rs.length->m<f->Mk 6 s1 t v ((oR l (p.rs.take k) 0).map Rl.cells)->∃t' v',Mk 6 s1 t' v' ((oR l p.rs 0).map Rl.cells)/\
    ∀k2:Q2,lX c F k2 f [ints z l,.ptr q 0,x4,x5,v,.int .i64 (k:Int)] t=k2 [x4,x5,v'] t':=by
 intro m;induction m with
 |zero=>
  intro k f t v hk hf M;obtain⟨f,rfl⟩:∃g,f=g+1:=⟨f - 1,by omega⟩
  obtain rfl:k=p.rs.length:=by omega
  rw[Zh6]at M;have xq:=M.aA.get hq;refine⟨t,v,M,λk2=> ?_⟩;rw[rD];simp only[au,ay,ai,aG,Za5,aN,xq,ak,Za2,aP.c4,aD,j7,aE,Zg1,Zf6,aX]
 |succ m ih=>
  intro k f t v hk hf M;obtain⟨f,rfl⟩:∃g,f=g+1:=⟨f - 1,by omega⟩
  have wN:k<p.rs.length:=by omega
  have xq:=M.aA.get hq;have aW:decide ((k:Int)<(p.rs.length:Int))=true:=Za1 (by omega);have wr:Unit->az .i64 ((k:Int)+1)=((k+1:Nat):Int):=λ_=>by rw[wrap64 (by omega) (by omega)];omega
  have et:p.rs.take (k+1)=p.rs.take k++[p.rs[k]]:=Zb8 wN;have ei:=Wu l (p.rs.take k) p.rs[k] 0;rw[<-et,Ze0,Zh5 (by omega),Za5]at ei;have il:(oR l (p.rs.take k) 0).length<=100:=Zb7 (OR l _ _) (by rw[Ze0];omega);have kW:=Db (c:=c) p.rz p.rs wN;have lC:=Fm (c:=c) p.rs wN;have L1:=λ(x6:AV)(k4:Q2)=>aj4 (c:=c) (x2:= .ptr q 0) (x4:=x4) (x5:=x5) (x6:=x6) z Nn (k:Int) F t l.length 0 F false (Za5 _) hF k4
  simp only[show((0:Nat):Int)=0 from rfl,Zf4,Zl1]at L1;by_cases e:(k:Int)∈l
  .rw[Zb5 e]at ei;rw[Za1 e]at L1;obtain⟨t5,v5,a1,M5,_,_⟩:=M.push (R:=AV×St) (c:=c) (bytes:=72) (z:=[.int .u8 0,.int .i64 0,.str [],.str [],.str [],.int .i64 0]) (x:= .agg (p.rs[k]).cells) rfl rfl rfl (by omega) (by rw[Zb9];omega) (by rw[Zb9];omega);obtain⟨t',v',z1,z2⟩:=ih (k+1) f t5 v5 (by omega) (by omega) (by rw[ei,Ze2];exact M5);refine⟨t',v',z1,λk2=> ?_⟩;rw[<-z2 k2,rD];simp only[au,ay,ai,aG,Za5,aN,xq,ak,Za2,aP.c4,aD,j7,aE,aW,bk,bO,L1,kW,lC,a1,bw,wr ()]
  .rw[Zb2 e,Zd4]at ei;rw[Za3 e]at L1;obtain⟨t',v',z1,z2⟩:=ih (k+1) f t v (by omega) (by omega) (by rw[ei];exact M);refine⟨t',v',z1,λk2=> ?_⟩;rw[<-z2 k2,rD];simp only[au,ay,ai,aG,Za5,aN,xq,ak,Za2,aP.c4,aD,j7,aE,aW,bk,aX,bO,L1,bw,wr ()]
theorem aj6(hc:Sem c)(p:aP)(hl:p.rs.length<=100)(hR:p.Real)(z:Bool){l:List Int}(Nn:l.length<=1000000)(s:St)(hw:Wf s):
  ∃Vs s',c 16 [.agg p.cells,ints z l] s=some (.agg Vs,s')/\PS s s' Vs (p.Hx true (oR l p.rs 0)):=by
 have gA:=Grew.ah hw (.cells p.cells 0);have gB:=Grew.ah gA.wf (.cells [.af,.af,.af,.af,.af] 0);have x2:=aF s (.cells p.cells 0);have x4:=aF (ah s (.cells p.cells 0)) (.cells [.af,.af,.af,.af,.af] 0);have n4:s.next.toNat<(ah s (.cells p.cells 0)).next.toNat:=by rw[cO,Pos.aK];omega
 obtain⟨sA,Fe⟩:∃sA,sA=ah s (.cells p.cells 0):=⟨_,rfl⟩
 rw[<-Fe]at gA gB x2 x4 n4;have bx:∀(K:AV->St->Option (AV×St)),aj c .box [.agg p.cells] s K=K (.ptr s.next 0) sA:=λK=>by rw[dw,Fe];rfl
 obtain⟨b4,hb4⟩:∃b4,b4=sA.next:=⟨_,rfl⟩
 have al:∀(K:AV->St->Option (AV×St)),aj c (.alloc [.af,.af,.af,.af,.af]) [] sA K=K (.ptr b4 0) (ah sA (.cells [.af,.af,.af,.af,.af] 0)):=λK=>by rw[bM,hb4]
 obtain⟨sB,hsB⟩:∃sB,sB=ah sA (.cells [.af,.af,.af,.af,.af] 0):=⟨_,rfl⟩
 rw[<-hsB]at gB x4 al;rw[<-hb4]at x4 n4;have x2B:=gB.get x2;obtain⟨Us,sC,cp,P⟩:=Nr hc p hR sB gB.wf;obtain⟨ul,uo⟩:=P.cells;obtain⟨U1,U2,U3,U4,U5,r1,r2,rfl,h1,h2,h3,h4,h5⟩:=P.all;have wC:=P.aA.wf;have Sd:∀(K:AV->St->Option (AV×St)),aj c (.store 5) [.ptr sC.next 0,.agg [U1,U2,U3,U4,U5]] (ah sC (.cells [.af,.af,.af,.af,.af] 0)) K=K .undef (ah sC (.cells [U1,U2,U3,U4,U5] 0)):=λK=>cV c K sC 5 (.agg [U1,U2,U3,U4,U5]) _ ul rfl uo
 have gD:=Grew.ah wC (.cells [U1,U2,U3,U4,U5] 0);have x7:=aF sC (.cells [U1,U2,U3,U4,U5] 0);obtain⟨b7,hb7⟩:∃b7,b7=sC.next:=⟨_,rfl⟩
 obtain⟨sD,hsD⟩:∃sD,sD=ah sC (.cells [U1,U2,U3,U4,U5] 0):=⟨_,rfl⟩
 rw[<-hsD]at gD x7 Sd;rw[<-hb7]at x7 Sd;have xqD:sD.heap.get s.next=some (.cells p.cells 0):=gD.get (P.aA.get x2B);obtain⟨t',V',z1,z2⟩:=aj5 (c:=c) (s1:=sD) (x4:= .ptr b4 0) (x5:= .ptr b7 0) z Nn hl xqD (l.length+200) (by omega) p.rs.length 0 (l.length+200) sD .af (Za5 _) (by omega) (Mk.start gD.wf (Grew.refl gD.wf));simp only[show((0:Nat):Int)=0 from rfl]at z2;obtain⟨v1,v2⟩:=z1.cells;have x7T:=z1.aA.get x7;have aj2:=z1.aA.wf _ _ x7T;have hV7:bN V'≠some b7:=λe=>by have h1:=z1.new _ e;have h2:=gD.wf _ _ x7;omega
 have pt:∀(K:AV->St->Option (AV×St)),aj c (.store 1) [.ptr b7 4,V'] t' K=K .undef (bI t' b7 (.cells [U1,U2,U3,U4,V'] 0)):=λK=>by rw[Ex (c:=c) K x7T (o:=4) (by show 4<5;omega) v1 (Xx v2)];rfl
 have hge7:sB.next.toNat<=b7.toNat:=by rw[hb7];exact P.aA.next
 have Se:=gB.trans (P.aA.trans (gD.trans z1.aA));have x4T:(bI t' b7 (.cells [U1,U2,U3,U4,V'] 0)).heap.get b4=some (.cells [.af,.af,.af,.af,.af] 0):=by
  have cA:b7≠b4:=λe=>by have h1:=gB.wf _ _ x4;rw[<-e]at h1;omega
  rw[aO cA];exact(P.aA.trans (gD.trans z1.aA)).get x4
 obtain⟨tE,htE⟩:∃tE,tE=bI t' b7 (.cells [U1,U2,U3,U4,V'] 0):=⟨_,rfl⟩
 have x7E:tE.heap.get b7=some (.cells [U1,U2,U3,U4,V'] 0):=by rw[htE];exact cW _ _ _
 rw[<-htE]at pt x4T;have wE:Wf tE:=by rw[htE];exact jI z1.aA.wf aj2
 have onV:aV [U1,U2,U3,U4,V']=true:=by
  have o1:=h1.out.cells.2;have o2:=h2.out.cells.2;have o3:=h3.cells.2;have o4:=h4.cells.2;simp only[aV,Zg8]at o1 o2 o3 o4 v2;simp only[aV,o1,o2,o3,o4,v2,Ze5]
 have KD:∀(K:AV->St->Option (AV×St)),aj c (.store 5) [.ptr b4 0,.agg [U1,U2,U3,U4,V']] tE K=K .undef (bI tE b4 (.cells [U1,U2,U3,U4,V'] 0)):=λK=>by rw[dz c K tE 5 b4 0 (.agg [U1,U2,U3,U4,V']) _ x4T rfl (by simp) onV];rfl
 have l47:=wE _ _ x4T;have nB4:b4.toNat<sB.next.toNat:=gB.wf _ _ x4;have keep:∀(q:Pos)(b:AB),sB.next.toNat<=q.toNat->q≠b7->t'.heap.get q=some b->(bI tE b4 (.cells [U1,U2,U3,U4,V'] 0)).heap.get q=some b:=λq b hq hq7 hb=>by rw[aO (λe=>by rw[<-e]at hq;omega),htE,aO (λe=>hq7 e.symm)];exact hb
 have gF:Grew s (bI tE b4 (.cells [U1,U2,U3,U4,V'] 0)):=by
  have ga:=gA.trans Se;refine⟨jI wE l47,λq b hb=> ?_,?_⟩
  .have hq:=hw _ _ hb;have e1:=gA.next;have e2:=gB.next;rw[aO (λe=>by rw[<-e]at hq;omega),htE,aO (λe=>by rw[<-e]at hq;omega)];exact ga.get hb
  .rw[eB,htE,eB];exact ga.next
 have PF0:=P.kZ hw (gA.trans gB) gF λq b hq hb=>keep q b hq (λe=>by have:=wC _ _ hb;rw[e,hb7]at this;omega) ((gD.trans z1.aA).get hb)
 have MF:Mk 6 s (bI tE b4 (.cells [U1,U2,U3,U4,V'] 0)) V' ((oR l p.rs 0).map Rl.cells):=
  (z1.back hw (gA.trans (gB.trans (P.aA.trans gD)))).Hh gF λb x hb hx=>keep b x (Zb7 (P.aA.trans gD).next (z1.new b hb)) (λe=>hV7 (by rw[hb,e])) hx
 have PF:PS s (bI tE b4 (.cells [U1,U2,U3,U4,V'] 0)) [U1,U2,U3,U4,V'] (p.Hx true (oR l p.rs 0)):=by
  obtain⟨W1,W2,W3,W4,W5,q1,q2,e,k1,k2,k3,k4,k5⟩:=PF0.all;simp only[Zh1,Zm4]at e;obtain⟨rfl,rfl,rfl,rfl,rfl⟩:=e;exact⟨gF,U1,U2,U3,U4,V',q1,q2,rfl,k1,k2,k3,k4,MF⟩
 obtain⟨cP,t1,t2⟩:=PF.tidy hw;refine⟨_,cP,?_,t2⟩;have pV:cut p.cells 0 5=some p.cells:=bP rfl;have hcV:cut [U1,U2,U3,U4,V'] 0 5=some [U1,U2,U3,U4,V']:=bP rfl;rw[Nw hc (l.length+200) (r:=(.agg [U1,U2,U3,U4,V'],bI tE b4 (.cells [U1,U2,U3,U4,V'] 0))),t1];rw[Re];simp only[bx,bM, <-hsB, <-hb4,ai,cY,x2B,ak,Za2,pV,cT,aT,cp,aR, <-hb7,Sd,z2,au,ay,aG,Za5,pt,x7E,hcV,KD,OG,cW]
theorem amK(z:Bool)(ys:List Ty){i:Nat}(hi:i<ys.length)(K:AV->St->Option (AV×St))(s:St):aj c (.idxA 3 none) [cj z ys,.int .i64 (i:Int)] s K=K (.fp (ys.map Ty.cells) i 0) s:=by
 unfold cj;rw[Io];simp[hi]
theorem amL(ys:List Ty){i:Nat}(hi:i<ys.length)(K:AV->St->Option (AV×St))(s:St):aj c (.load (some 3)) [.fp (ys.map Ty.cells) i 0] s K=K (.agg (ys[i]).cells) s:=by
 rw[ER];simp[hi]
theorem I8(z:Bool)(ys:List Ty)(K:AV->St->Option (AV×St))(s:St):aj c (.lenB .l) [cj z ys] s K=K (.int .i64 (ys.length:Int)) s:=by unfold cj;simp
theorem aeT(z:Bool)(gs:List aS)(K:AV->St->Option (AV×St))(s:St):aj c (.lenB .l) [bD z gs] s K=K (.int .i64 (gs.length:Int)) s:=by unfold bD;simp
def Vk(r:Rl)(g:aS)(t:Ty):Bool:=(decide (t.a=g.name)||decide (t.b=g.name))&&(decide (t.k=2)==decide (r.k=12))
section
variable{p:aP}{r:Rl}{g:aS}{sB:St}{q rb gb:Pos}
theorem ahT(hl:p.ys.length<=1000)(hq:sB.heap.get q=some (.cells p.cells 0))(hr:sB.heap.get rb=some (.cells r.cells 0))(hg:sB.heap.get gb=some (.cells g.cells 0))(v x7:AV)(F:Nat):
  ∀(m j f:Nat)(t:St)(b:Bool),j+m=p.ys.length->m<f->Grew sB t->∃t',Grew t t'/\
   ∀k5:Q2,jd c F k5 f [.ptr q 0,.ptr rb 0,v,x7,.ptr gb 0,.bool b,.int .i64 (j:Int)] t=k5 [.ptr q 0,.ptr rb 0,v,x7,.bool (b||(p.ys.drop j).any (Vk r g))] t':=by
 intro m;induction m with
 |zero=>
  intro j f t b hj hf G;obtain⟨f,rfl⟩:∃g,f=g+1:=⟨f - 1,by omega⟩
  obtain rfl:j=p.ys.length:=by omega
  have xq:=G.get hq;refine⟨t,Grew.refl G.wf,λk5=> ?_⟩;rw[Zo4,List.any_nil,Zh0,zi];simp only[au,ay,ai,aG,Za5,aN,xq,ak,Za2,aP.c2,aD,I8,aE,Zg1,Zf6,aX]
 |succ m ih=>
  intro j f t b hj hf G;obtain⟨f,rfl⟩:∃g,f=g+1:=⟨f - 1,by omega⟩
  have EW:j<p.ys.length:=by omega
  have aW:decide ((j:Int)<(p.ys.length:Int))=true:=Za1 (by omega);have wr:az .i64 ((j:Int)+1)=((j+1:Nat):Int):=by rw[wrap64 (by omega) (by omega)];omega
  have kW:=amK (c:=c) p.yz p.ys EW;have lC:=amL (c:=c) p.ys EW;rw[Zd2 EW];generalize p.ys[j]=ty at*
  have g1:=Grew.ah G.wf (.cells ty.cells 0);have xt:=aF t (.cells ty.cells 0);have st:∀(K:AV->St->Option (AV×St)),aj c (.store 3) [.ptr t.next 0,.agg ty.cells] (ah t (.cells [.str [],.str [],.int .u8 0] 0)) K=K .undef (ah t (.cells ty.cells 0)):=λK=>cV c K t 3 (.agg ty.cells) [.str [],.str [],.int .u8 0] rfl rfl rfl
  have G1:=G.trans g1;have x0:=G.get hq;obtain⟨t1,ht1⟩:∃t1,t1=ah t (.cells ty.cells 0):=⟨_,rfl⟩
  rw[<-ht1]at g1 xt st G1;have xr:=G1.get hr;have xg:=G1.get hg;obtain⟨t',z1,z2⟩:=ih (j+1) f t1 (b||Vk r g ty) (by omega) (by omega) G1;refine⟨t',g1.trans z1,λk5=> ?_⟩;rw[Zo8, <-Bool.or_assoc, <-z2 k5,zi];have c0:ty.cells[0]? =some (.str ty.a):=rfl;have c1:ty.cells[1]? =some (.str ty.b):=rfl;have c2:ty.cells[2]? =some (.int .u8 ty.k):=rfl;have cg:g.cells[0]? =some (.str g.name):=rfl;have cr:r.cells[0]? =some (.int .u8 r.k):=rfl;have fin:∀x:Bool,Vk r g ty=x->(if x=true then true else b)=(b||Vk r g ty):=λx e=>by rw[e];cases x<;>cases b<;>rfl
  cases hC:(decide (ty.k=2)==decide (r.k=12))with
  |true=>
   by_cases a:ty.a=g.name
   .    have e:=fin true (by unfold Vk;rw[hC,Za1 a];rfl);rw[<-e];simp only[au,ay,ai,aG,Za5,aN,x0,ak,Za2,aP.c2,aD,I8,aE,aW,bk,bO,kW,lC,bM,st,xt,c0,c1,c2,cg,cr,xg,xr,Zb0,Zb3,Eu,Za1 a,z8,fc,dI,nL,BL,hC,bw,wr,Zg7]
   .    by_cases bb:ty.b=g.name
        .have e:=fin true (by unfold Vk;rw[hC,Za3 a,Za1 bb];rfl);rw[<-e];simp only[au,ay,ai,aG,Za5,aN,x0,ak,Za2,aP.c2,aD,I8,aE,aW,bk,bO,kW,lC,bM,st,xt,c0,c1,c2,cg,cr,xg,xr,Zb0,Zb3,Eu,Za3 a,Za1 bb,eM,fc,dI,nL,BL,hC,bw,wr,Zg7]
        .have e:=fin false (by unfold Vk;rw[Za3 a,Za3 bb];rfl);rw[<-e];simp only[au,ay,ai,aG,Za5,aN,x0,ak,Za2,aP.c2,aD,I8,aE,aW,bk,aX,bO,kW,lC,bM,st,xt,c0,c1,c2,cg,cr,xg,xr,Zb0,Zb3,Eu,Za3 a,Za3 bb,eM,dI,ML,bw,wr,Zd3,Ze8]
  |false=>
   have e:=fin false (by unfold Vk;rw[hC,Bool.and_false]);rw[<-e];by_cases a:ty.a=g.name
   .    simp only[au,ay,ai,aG,Za5,aN,x0,ak,Za2,aP.c2,aD,I8,aE,aW,bk,aX,bO,kW,lC,bM,st,xt,c0,c1,c2,cg,cr,xg,xr,Zb0,Zb3,Eu,Za1 a,z8,fc,dI,nL,BL,hC,bw,wr,Zd3,Ze8]
   .    by_cases bb:ty.b=g.name
        .simp only[au,ay,ai,aG,Za5,aN,x0,ak,Za2,aP.c2,aD,I8,aE,aW,bk,aX,bO,kW,lC,bM,st,xt,c0,c1,c2,cg,cr,xg,xr,Zb0,Zb3,Eu,Za3 a,Za1 bb,eM,fc,dI,nL,BL,hC,bw,wr,Zd3,Ze8]
        .simp only[au,ay,ai,aG,Za5,aN,x0,ak,Za2,aP.c2,aD,I8,aE,aW,bk,aX,bO,kW,lC,bM,st,xt,c0,c1,c2,cg,cr,xg,xr,Zb0,Zb3,Eu,Za3 a,Za3 bb,eM,dI,ML,bw,wr,Zd3,Ze8]
theorem ahU (hl:p.ys.length<=1000)(hgl:p.gs.length<=100){mm:Nat}(hm:r.k=(mm:Int))(h1:1<=mm)(h2:mm<=18)(hq:sB.heap.get q=some (.cells p.cells 0))(hr:sB.heap.get rb=some (.cells r.cells 0))(F:Nat)(hF:p.ys.length<F):
  ∀(m i f:Nat)(t:St)(v:AV),i+m=p.gs.length->m<f->Mk 1 sB t v ((qR (KA p r) (p.gs.take i) 0).map dK)->∃t' v',Mk 1 sB t' v' ((qR (KA p r) p.gs 0).map dK)/\
   ∀k2:Q2,gJ c F k2 f [.ptr q 0,.ptr rb 0,v,.int .i64 (i:Int)] t=k2 [v'] t':=by
 intro m;induction m with
 |zero=>
  intro i f t v hi hf M;obtain⟨f,rfl⟩:∃g,f=g+1:=⟨f - 1,by omega⟩
  obtain rfl:i=p.gs.length:=by omega
  rw[Zh6]at M;have xq:=M.aA.get hq;refine⟨t,v,M,λk2=> ?_⟩;rw[zj];simp only[au,ay,ai,aG,Za5,aN,xq,ak,Za2,aP.c1,aD,aeT,aE,Zg1,Zf6,aX]
 |succ m ih   =>
  intro i f t v hi hf M;obtain⟨f,rfl⟩:∃g,f=g+1:=⟨f - 1,by omega⟩
  have fN:i<p.gs.length:=by omega
  have aW:decide ((i:Int)<(p.gs.length:Int))=true:=Za1 (by omega);have wr:az .i64 ((i:Int)+1)=((i+1:Nat):Int):=by rw[wrap64 (by omega) (by omega)];omega
  have et:p.gs.take (i+1)=p.gs.take i++[p.gs[i]]:=Zb8 fN;have ei:=Zr (KA p r) (p.gs.take i) p.gs[i] 0;rw[<-et,Ze0,Zh5 (by omega),Za5]at ei;have il:(qR (KA p r) (p.gs.take i) 0).length<=100:=Zb7 (TX _ _ _) (by rw[Ze0];omega);have g1:=Grew.ah M.aA.wf (.cells (p.gs[i]).cells 0);have M1:=M.grow g1;have xg:=aF t (.cells (p.gs[i]).cells 0);have x0:=M.aA.get hq;have xr:=M1.aA.get hr;have xq:=M1.aA.get hq;have st9:∀(K:AV->St->Option (AV×St)),aj c (.store 9) [.ptr t.next 0,.agg (p.gs[i]).cells] (ah t (.cells [.str [],.str [],.str [],.int .i64 0,.int .i64 0,.str [],.bool false,.bool false,.af] 0)) K=K .undef (ah t (.cells (p.gs[i]).cells 0)):=λK=>cV c K t 9 (.agg (p.gs[i]).cells) [.str [],.str [],.str [],.int .i64 0,.int .i64 0,.str [],.bool false,.bool false,.af] rfl rfl (aS.one _)
  have kW:=aeP (c:=c) p.gz p.gs fN;have lC:=aeQ (c:=c) p.gs fN;generalize p.gs[i]=g at*
  obtain⟨t1,ht1⟩:∃t1,t1=ah t (.cells g.cells 0):=⟨_,rfl⟩
  rw[<-ht1]at g1 M1 xg xr xq st9;obtain⟨tL,gL,hL⟩:=ahT (c:=c) (F:=F) (r:=r) hl xq xr xg v (.int .i64 (i:Int)) p.ys.length 0 F t1 false (Za5 _) hF (Grew.refl g1.wf);simp only[show((0:Nat):Int)=0 from rfl,Zf4,Zl1]at hL;obtain⟨t2,vw⟩:∃t2,t2=if mm=12\/mm=13 then tL else t1:=⟨_,rfl⟩
  have g2:Grew t1 t2:=by
   rw[vw];split
   .    exact gL
   .    exact Grew.refl g1.wf
  have M2:=M1.grow g2
  suffices tail:∃t' v',Mk 1 sB t' v' ((qR (KA p r) p.gs 0).map dK)/\∀k2:Q2,(MJ (.bool (KA p r g)) (aj c .move [v] t2 λajI s=>aj c .move [.int .i64 (i:Int)] s λac1 s=>aj c (.buildSlice 1 1 [(.int .i64 0)] [0]) [ac1] s λajJ s=>aj c (.append 1 8) [ajI,ajJ] s λajK s=>aj c .move [ajK] s λx6 s=>
        gJ c F k2 f [.ptr q 0,.ptr rb 0,x6,.int .i64 ((i+1:Nat):Int)] s) (gJ c F k2 f [.ptr q 0,.ptr rb 0,v,.int .i64 ((i+1:Nat):Int)] t2))=k2 [v'] t' by
   obtain⟨t',v',z1,z2⟩:=tail;refine⟨t',v',z1,λk2=> ?_⟩;rw[<-z2 k2,zj];simp only[au,ay,ai,aG,Za5,aN,x0,ak,Za2,aP.c1,aD,aeT,aE,aW,bk];rw[bO,kW,lC,bM,st9];refine(ahP (vs:=[.ptr q 0,.ptr rb 0,v,.int .i64 (i:Int),.bool (KA p r g)]) (s:=t2) λK=> ?_).trans ?_
   .    clear z2 z1 ih ei M M1 M2;have c0:r.cells[0]? =some (.int .u8 r.k):=rfl;have c2:r.cells[2]? =some (.str r.a):=rfl;have c3:r.cells[3]? =some (.str r.b):=rfl;have d0:g.cells[0]? =some (.str g.name):=rfl;have d2:g.cells[2]? =some (.str g.jW):=rfl;have d4:g.cells[4]? =some (.int .i64 g.side):=rfl;have d5:g.cells[5]? =some (.str g.nv):=rfl;have d7:g.cells[7]? =some (.bool g.access):=rfl;unfold KA;rw[show r.k.toNat=mm by omega];rcases aeD h1 h2 with rfl|rfl|rfl|rfl|rfl|rfl|rfl|rfl|rfl|rfl|rfl|rfl|rfl|rfl|rfl|rfl|rfl|rfl
        .have hk:r.k=1:=hm;have e2:t2=t1:=vw;by_cases a:g.name=r.a<;>simp[fB,xr,xg,c0,c2,c3,d0,hk,a,e2]
        .have hk:r.k=2:=hm;have e2:t2=t1:=vw;by_cases a:g.name=r.a<;>simp[fB,xr,xg,c0,c2,c3,d0,hk,a,e2]
        .have hk:r.k=3:=hm;have e2:t2=t1:=vw;by_cases a:g.name=r.a<;>simp[fB,xr,xg,c0,c2,c3,d0,hk,a,e2]
        .have hk:r.k=4:=hm;have e2:t2=t1:=vw;by_cases a:g.name=r.a<;>simp[fB,xr,xg,c0,c2,c3,d0,hk,a,e2]
        .have hk:r.k=5:=hm;have e2:t2=t1:=vw;by_cases a:g.name=r.a<;>simp[fB,xr,xg,c0,c2,c3,d0,hk,a,e2]
        .have hk:r.k=6:=hm;have e2:t2=t1:=vw;simp[fB,xr,xg,c0,c2,d0,hk,e2]
        .have hk:r.k=7:=hm;have e2:t2=t1:=vw;simp[fB,xr,xg,c0,c2,d0,hk,e2]
        .have hk:r.k=8:=hm;have e2:t2=t1:=vw;simp[fB,xr,xg,c0,d4,hk,e2]
        .have hk:r.k=9:=hm;have e2:t2=t1:=vw;simp[fB,xr,c0,hk,e2]
        . have hk:r.k=10:=hm;have e2:t2=t1:=vw;by_cases a:g.name=r.a
          .simp[fB,xr,xg,c0,c2,d0,d7,hk,a,e2]
          . by_cases b:r.a=[]
            .have a2:¬g.name=[]:=(by rw[<-b];exact a);simp[fB,xr,xg,c0,c2,d0,d7,hk,a2,b,e2]
            .simp[fB,xr,xg,c0,c2,d0,d7,hk,a,b,e2]
        .have hk:r.k=11:=hm;have e2:t2=t1:=vw;simp[fB,xr,c0,hk,e2]
        .have hk:r.k=12:=hm;have e2:t2=tL:=vw;change _=K [.ptr q 0,.ptr rb 0,v,.int .i64 (i:Int),.bool (p.ys.any (Vk r g))] t2;simp[fB,xr,c0,hk,e2,hL]
        .have hk:r.k=13:=hm;have e2:t2=tL:=vw;change _=K [.ptr q 0,.ptr rb 0,v,.int .i64 (i:Int),.bool (p.ys.any (Vk r g))] t2;simp[fB,xr,c0,hk,e2,hL]
        .have hk:r.k=14:=hm;have e2:t2=t1:=vw;simp[fB,xr,c0,hk,e2]
        .have hk:r.k=15:=hm;have e2:t2=t1:=vw;simp[fB,xr,c0,hk,e2]
        .have hk:r.k=16:=hm;have e2:t2=t1:=vw;simp[fB,xr,c0,hk,e2]
        .have hk:r.k=17:=hm;have e2:t2=t1:=vw;simp[fB,xr,xg,c0,c2,d5,hk,e2]
        .have hk:r.k=18:=hm;have e2:t2=t1:=vw;simp[fB,xr,xg,c0,d2,hk,e2]
   .    simp only[au,ay,ai,bw,wr]
  cases hb:KA p r g with
  |true=>
   rw[hb,Zb5 rfl]at ei;obtain⟨t5,v5,a1,M5,_,_⟩:=M2.push (R:=AV×St) (c:=c) (bytes:=8) (z:=[.int .i64 0]) (x:= .int .i64 (i:Int)) rfl rfl rfl (by omega) (by rw[Zb9];omega) (by rw[Zb9];omega);obtain⟨t',v',z1,z2⟩:=ih (i+1) f t5 v5 (by omega) (by omega) (by rw[ei,Ze2];exact M5);refine⟨t',v',z1,λk2=> ?_⟩;rw[<-z2 k2];simp only[bk,ai,a1]
  |false=>
   rw[hb,Zb2 (by decide),Zd4]at ei;obtain⟨t',v',z1,z2⟩:=ih (i+1) f t2 v (by omega) (by omega) (by rw[ei];exact M2);refine⟨t',v',z1,λk2=> ?_⟩;rw[<-z2 k2];simp only[aX]
end
theorem ahV(hc:Sem c)(p:aP)(hp:p.ew){i:Nat}{r:Rl}(hi:p.rs[i]? =some r){m:Nat}(hm:r.k=(m:Int))(h1:1<=m)(h2:m<=18)(s:St)(hw:Wf s):
  ∃v s',c 17 [.agg p.cells,.int .i64 (i:Int)] s=some (v,s')/\Mk 1 s s' v ((qR (KA p r) p.gs 0).map dK):=by
 have gA:=Grew.ah hw (.cells p.cells 0);have x2:=aF s (.cells p.cells 0);have bx:∀(K:AV->St->Option (AV×St)),aj c .box [.agg p.cells] s K=K (.ptr s.next 0) (ah s (.cells p.cells 0)):=λK=>by rw[dw];rfl
 have fN:=(Za4.1 hi).1;have er:p.rs[i]=r:=(Za4.1 hi).2;have gB:=Grew.ah gA.wf (.cells r.cells 0);have xr:=aF (ah s (.cells p.cells 0)) (.cells r.cells 0);have xp:=gB.get x2;have st:=λ(K:AV->St->Option (AV×St))=>Ua (c:=c) r (ah s (.cells p.cells 0)) K
 have kW:=Db (c:=c) p.rz p.rs fN;have lC:=Fm (c:=c) p.rs fN;rw[er]at lC;have hy:=hp.ys;obtain⟨t',v',z1,z2⟩:=ahU (c:=c) (Zb7 hp.ys (by decide)) hp.gs hm h1 h2 xp xr 200 (by omega) p.gs.length 0 200 _ .af (Za5 _) (by have:=hp.gs;omega) (Mk.start gB.wf (Grew.refl gB.wf));simp only[show((0:Nat):Int)=0 from rfl]at z2;obtain⟨s3,t1,t2⟩:=(z1.back hw (gA.trans gB)).tidy;refine⟨v',s3,?_,t2⟩;rw[LV hc 200 (r:=(v',t')),t1];rw[Pn];simp only[bx,ai,aG,Za5,aN,x2,ak,Za2,aP.c4,aD,kW,lC,bM,st,z2,au,ay]
theorem ads(hc:Sem c){p:aP}(hp:p.ew)(vK:mI c p)(hr:∀r∈p.rs,r.Ok){x:Int}(hk:(aU p).2≠0\/x<0\/(p.rs.length:Int)<=x)(s:St)(hw:Wf s):c 7 [.agg p.cells,.int .i64 x] s=some (.af,s):=by
 have gA:=Grew.ah hw (.cells p.cells 0);have x2:=aF s (.cells p.cells 0);have bx:∀(K:AV->St->Option (AV×St)),aj c .box [.agg p.cells] s K=K (.ptr s.next 0) (ah s (.cells p.cells 0)):=λK=>by rw[dw];rfl
 have ck:=mg hc p hp vK hr _ gA.wf;have pV:cut p.cells 0 5=some p.cells:=bP rfl;rw[Ns hc 1 (r:=(.af,ah s (.cells p.cells 0))),aB Plain.af gA.keeps];rw[SK];by_cases h0:(aU p).2=0
 . have d0:decide ((aU p).2=0)=true:=Za1 h0;by_cases h1:x<0
   .have d1:decide (x<0)=true:=Za1 h1;simp only[bx,ai,cY,x2,ak,Za2,pV,cT,aT,ck,aR,fq,Zb0,Zb3,aD,nM,d0,Zf8,dI,aE,d1,eM,fc,z8,bk]
   .have d1:decide (x<0)=false:=Za3 h1;have d2:decide ((p.rs.length:Int)<=x)=true:=Za1 (by omega);simp only[bx,ai,cY,x2,ak,Za2,pV,cT,aT,ck,aR,fq,Zb0,Zb3,aD,nM,d0,Zf8,dI,aE,d1,eM,aG,Za5,aN,aP.c4,j7,MM,d2,bk]
 .have d0:decide ((aU p).2=0)=false:=Za3 h0;simp only[bx,ai,cY,x2,ak,Za2,pV,cT,aT,ck,aR,fq,Zb0,Zb3,aD,nM,d0,Zi4,z8,fc,bk]
end
end Go.Proofs.YtngcejgciomphaaGreatDoor
