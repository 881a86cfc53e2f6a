/- Checks of a problem. -/
import Derived.Test.YtngcejgciomphaaGreatDoorNLawsA
set_option linter.all false
set_option maxRecDepth 100000
namespace Go.Proofs.YtngcejgciomphaaGreatDoor
section
open Go Go.Ai Go.Proofs
variable{c:aq}
def kd:Nat->Kd
 |1=>⟨[97,112,97,114,116],103,true,0,true,0,false,.func 97 [] []⟩
 |2=>⟨[98,101,115,105,100,101],103,true,0,false,0,false,.func 98 [] []⟩
 |3=>⟨[97,99,114,111,115,115],103,true,0,false,0,false,.func 99 [] []⟩
 |4=>⟨[110,101,97,114],103,true,0,true,1,false,.func 100 [] []⟩
 |5=>⟨[116,111,103,101,116,104,101,114],103,true,0,false,0,false,.func 101 [] []⟩
 |6=>⟨[97,116],103,false,116,false,0,false,.func 102 [] []⟩
 |7=>⟨[115,101,97,116],103,false,116,true,0,true,.func 103 [] []⟩
 |8=>⟨[97,108,116,101,114,110,97,116,101],0,false,101,false,0,false,.func 104 [] []⟩
 |9=>⟨[104,111,115,116],0,false,101,false,0,false,.func 105 [] []⟩
 |10=>⟨[114,101,97,99,104],101,false,0,false,0,false,.func 106 [] []⟩
 |11=>⟨[115,112,101,97,107],0,false,101,false,0,false,.func 107 [] []⟩
 |12=>⟨[112,101,97,99,101],0,false,101,false,0,false,.func 108 [] []⟩
 |13=>⟨[99,111,109,112,97,110,121],0,false,101,false,0,false,.func 109 [] []⟩
 |14=>⟨[104,111,110,111,117,114],0,false,101,false,0,false,.func 110 [] []⟩
 |15=>⟨[102,105,108,108],0,false,101,true,0,false,.func 111 [] []⟩
 |16=>⟨[108,105,109,105,116],0,false,101,true,0,false,.func 112 [] []⟩
 |17=>⟨[107,105,116,99,104,101,110],100,false,116,false,0,false,.func 113 [] []⟩
 |18=>⟨[109,105,120],0,false,101,false,0,false,.func 114 [] []⟩
 |_=>⟨[],0,false,0,false,0,false,.lf⟩
def kEs:List (AV×AV×Nat):=[(.int .u8 1,.agg (kd 1).cells,0),(.int .u8 2,.agg (kd 2).cells,1),(.int .u8 3,.agg (kd 3).cells,2),(.int .u8 4,.agg (kd 4).cells,3),(.int .u8 5,.agg (kd 5).cells,4),(.int .u8 6,.agg (kd 6).cells,5),(.int .u8 7,.agg (kd 7).cells,6),(.int .u8 8,.agg (kd 8).cells,7),(.int .u8 9,.agg (kd 9).cells,8),(.int .u8 10,.agg (kd 10).cells,9),(.int .u8 11,.agg (kd 11).cells,10),(.int .u8 12,.agg (kd 12).cells,11),(.int .u8 13,.agg (kd 13).cells,12),(.int .u8 14,.agg (kd 14).cells,13),(.int .u8 15,.agg (kd 15).cells,14),(.int .u8 16,.agg (kd 16).cells,15),(.int .u8 17,.agg (kd 17).cells,16),(.int .u8 18,.agg (kd 18).cells,17)]
theorem aaQ(p:Pos):¬Plain (.map p):=λh=>by have:=h (λ_=>(⟨0,0,0⟩:Go.Ai.Loc)) (λ_=>⟨1,0,0⟩) (p.toNat+1) (p.toNat+1) (λ_=>none) _ (.map p (Nat.lt_succ_self _));cases this
theorem ajD(st:St)(p:Pos)(s':St):tidy st (.map p,s')=(.map p,s'):=by unfold tidy;rw[Zb2];exact λe=>aaQ p e.1
theorem dP{R:Type}(c:aq)(K:AV->St->Option R)(st:St)(z:List AV)(ps:List (Nat×Nat))(xs l:List AV)(h:cH z ps xs=some l):aj c (.build z ps) xs st K=K (.agg l) st:=by rw[agX,h];rfl
theorem ez{R:Type}(c:aq)(K:AV->St->Option R)(st:St)(es:List (AV×AV×Nat))(cl:Nat)(k:IntKind)(x:Int)(v:AV)(hf:lJ .i (.int k x) es 0=some none):
  aj c (.mapSet .i) [.map st.next,.int k x,v] (ah st (.map es cl)) K=K .undef (ah st (.map (es++[(.int k x,v,cl)]) (cl+1))):=by
 have:aJ.run (λb=>(ah st (.map es cl)).heap.get b) (ah st (.map es cl)).next (.mapSet .i) [.map st.next,.int k x,v]=some (.br .undef none (some (st.next,.map (es++[(.int k x,v,cl)]) (cl+1))) none):=by
  simp[aJ.run,Bj,hf,aeX]
 unfold aj cJ;rw[this];show K .undef (bI (ah st (.map es cl)) st.next _)=_;rw[YM]
theorem ajE(hc:Sem c)(s:St):c 52 [] s=some (.map s.next,ah s (.map kEs 18)):=by
 rw[Zh hc 1 (r:=(.map s.next,ah s (.map kEs 18))),ajD];rw[acX];rw[ai,agZ];rw[dP (l:=(kd 1).cells) (h:=rfl),ez (hf:=rfl)];rw[dP (l:=(kd 2).cells) (h:=rfl),ez (hf:=rfl)];rw[dP (l:=(kd 3).cells) (h:=rfl),ez (hf:=rfl)];rw[dP (l:=(kd 4).cells) (h:=rfl),ez (hf:=rfl)];rw[dP (l:=(kd 5).cells) (h:=rfl),ez (hf:=rfl)];rw[dP (l:=(kd 6).cells) (h:=rfl),ez (hf:=rfl)];rw[dP (l:=(kd 7).cells) (h:=rfl),ez (hf:=rfl)];rw[dP (l:=(kd 8).cells) (h:=rfl),ez (hf:=rfl)];rw[dP (l:=(kd 9).cells) (h:=rfl),ez (hf:=rfl)];rw[dP (l:=(kd 10).cells) (h:=rfl),ez (hf:=rfl)];rw[dP (l:=(kd 11).cells) (h:=rfl),ez (hf:=rfl)];rw[dP (l:=(kd 12).cells) (h:=rfl),ez (hf:=rfl)];rw[dP (l:=(kd 13).cells) (h:=rfl),ez (hf:=rfl)];rw[dP (l:=(kd 14).cells) (h:=rfl),ez (hf:=rfl)];rw[dP (l:=(kd 15).cells) (h:=rfl),ez (hf:=rfl)];rw[dP (l:=(kd 16).cells) (h:=rfl),ez (hf:=rfl)];rw[dP (l:=(kd 17).cells) (h:=rfl),ez (hf:=rfl)];rw[dP (l:=(kd 18).cells) (h:=rfl),ez (hf:=rfl)];rw[ai,ai]
 .rfl
theorem alr{R:Type}(c:aq)(K:AV->St->Option R)(st:St)(m:Pos)(cl:Nat)(h:st.heap.get m=some (.map kEs cl))(n:Nat):
   aj c (.lookup .i (.agg [.str [],.int .u8 0,.bool false,.int .u8 0,.bool false,.int .i64 0,.bool false,.lf]) false) [.map m,.int .u8 (n:Int)] st K=K (.agg (kd n).cells) st:=by
 have e:lJ .i (.int .u8 (n:Int)) kEs 0=some (if 1<=n/\n<=18 then some (n - 1,.agg (kd n).cells)else none):=by
   by_cases h:n<=18
   .have:n=0\/n=1\/n=2\/n=3\/n=4\/n=5\/n=6\/n=7\/n=8\/n=9\/n=10\/n=11\/n=12\/n=13\/n=14\/n=15\/n=16\/n=17\/n=18:=(by omega);rcases this with rfl|rfl|rfl|rfl|rfl|rfl|rfl|rfl|rfl|rfl|rfl|rfl|rfl|rfl|rfl|rfl|rfl|rfl|rfl<;>rfl
   . have Sn:∀j:Int,j<=18->EL (n:Int) j=false:=λj hj=>by rw[pI];simp;omega
     rw[Zb2 (by omega)];simp[kEs,lJ,zG,Sn,cN]
 have:∀z:AV,aJ.run (λb=>st.heap.get b) st.next (.lookup .i z false) [.map m,.int .u8 (n:Int)]=some (.val (if 1<=n/\n<=18 then .agg (kd n).cells else z)):=λz=>by
   simp only[aJ.run,Bi,h,e];by_cases h1:1<=n/\n<=18
   .rw[Zb5 h1,Zb5 h1]
   .rw[Zb2 h1,Zb2 h1]
 unfold aj cJ;rw[this];by_cases h1:1<=n/\n<=18
 .rw[Zb5 h1]
 .rw[Zb2 h1];have:kd n=⟨[],0,false,0,false,0,false,.lf⟩:=(by unfold kd;split<;>first|rfl|omega);rw[this];rfl
theorem als(n:Nat):(kd n).uJ=true->(kd n).t=116:=by unfold kd;split<;>simp
def Rl.Ok(r:Rl):Prop:=0<=r.k/\r.k<256
def sx(p:aP)(r:Rl):Int:=IE (kd r.k.toNat) p r
def fJ(p:aP):Nat->Nat->Int×Int
 |0,_=>(0,0)
 |  m+1,i=>match p.rs[i]? with
    |none=>(0,0)
    |some r=>if sx p r≠0 then((i:Int),sx p r)else if i=64 then((i:Int),7)else fJ p m (i+1)
theorem LD(p:aP):∀(m i:Nat),(fJ p m i).2=0->(fJ p m i).1=0
 |0,_,_=>rfl
 |m+    1,i,h=>by
  rw[fJ]at h ⊢;cases h0:p.rs[i]? with
  |none=>rfl
  |some r=>
   rw[h0]at h;simp only at h ⊢;by_cases h1:sx p r=0
   .    rw[Zb2 (by simp[h1])]at h ⊢;by_cases h2:i=64
        .rw[Zb5 h2]at h;simp at h
        .rw[Zb2 h2]at h ⊢; exact LD p m (i+1) h
   .    rw[Zb5 h1]at h;exact absurd h h1
def aU(p:aP):Int×Int:=if(fU p).2≠0 then fU p else fJ p 100 0
theorem afZ(hc:Sem c)(p:aP)(hp:p.ew)(hr:∀r∈p.rs,r.Ok)(hv:(bJ p.ts).2=0)(q1 mp:Pos)(cl:Nat)(F:Nat)(k1 k2):∀(m k:Nat)(st:St),Wf st->st.heap.get q1=some (.cells p.cells 0)->st.heap.get mp=some (.map kEs cl)->p.rs.length<=k+m->k<=p.rs.length->
  ∃st',Grew st st'/\vE c F k1 k2 (m+1) [.ptr q1 0,.map mp,dm p.rz p.rs,.int .i64 (p.rs.length:Int),.int .i64 (k:Int)] st=if(fJ p m k).2=0 then k2 [] st' else k1 [.int .i64 (fJ p m k).1,.int .i64 (fJ p m k).2] st':=by
 have hl:=hp.rs;intro m;induction m with
 |zero=>
  intro k st hw h1 h2 h3 h4;obtain rfl:k=p.rs.length:=by omega
  refine⟨st,Grew.refl hw,?_⟩;rw[CY];simp[fJ]
 |succ m ih=>
  intro k st hw hq hm h3 h4;by_cases h:k<p.rs.length
  . have w:az .i64 ((k:Int)+1)=((k+1:Nat):Int):=wrap64 (by omega) (by omega);have bX:Wf (ah st (.cells p.rs[k].cells 0)):=bL hw;have hg:=Grew.ah hw (.cells p.rs[k].cells 0);have hq1:=hg.get hq;have lU:=hg.get hm;have hn:=aF st (.cells p.rs[k].cells 0);obtain⟨n,hk⟩:∃n:Nat,p.rs[k].k=(n:Int):=⟨p.rs[k].k.toNat,by have:=(hr _ (Zc0 h)).1;omega⟩
    have Rw:=ahs hc (kd n) (als n) p hp hv p.rs[k] _ bX;have hS:sx p p.rs[k]=IE (kd n) p p.rs[k]:=(by unfold sx;rw[hk];rfl);have Oj:=λ(K:AV->St->Option (AV×St))=>alr c K _ mp cl lU n
    have nj:=λ(K:AV->St->Option (AV×St))=>cV c K st 6 (.agg p.rs[k].cells) [.int .u8 0,.int .i64 0,.str [],.str [],.str [],.int .i64 0] rfl rfl (Rl.one _)
    rw[show(AV.agg p.rs[k].cells).cells=p.rs[k].cells from rfl]at nj;rw[<-hS]at Rw;rw[<-hk]at Oj;obtain⟨st',g1,g2⟩:=ih (k+1) _ bX hq1 lU (by omega) (by omega);rw[CY,fJ,Za0 h];simp only;by_cases h5:sx p p.rs[k]=0
    .   rw[Zb2 (by simp[h5])];by_cases h6:k=64
        .refine⟨_,hg,?_⟩;rw[Zb5 h6];have h6i:decide ((k:Int)=64)=true:=(by simp only[Zd1];omega);simp[-cV,nj,dm,h,hq1,lU,Oj,Rw,h5,h6i]
        .refine⟨st',hg.trans g1,?_⟩;rw[Zb2 h6, <-g2];have h6i:¬(k:Int)=64:=(by omega);simp[-cV,nj,dm,h,hq1,lU,Oj,Rw,h5,h6i,w]
    .   refine⟨_,hg,?_⟩;rw[Zb5 h5];simp[-cV,nj,dm,h,hq1,lU,Oj,Rw,h5]
  .obtain rfl:k=p.rs.length:=(by omega);refine⟨st,Grew.refl hw,?_⟩;rw[CY];simp[fJ]
theorem ad3{p:aP}(h:(fU p).2=0):(bJ p.ts).2=0:=by
 unfold fU at h;by_cases h1:(bJ p.ts).2=0
 .exact h1
 .rw[Zb5 h1]at h;exact absurd h h1
theorem mg(hc:Sem c)(p:aP)(hp:p.ew)(hR:mI c p)(hr:∀r∈p.rs,r.Ok)(st:St)(hw:Wf st):c 30 [.agg p.cells] st=some (.tuple [.int .i64 (aU p).1,.int .i64 (aU p).2],st):=by
 have oZ:Plain (.tuple [.int .i64 (aU p).1,.int .i64 (aU p).2]):=Plain.tuple (by simp[Plain.int]);have bX:Wf (ah st (.cells p.cells 0)):=bL hw;have KM:=Grew.ah hw (.cells p.cells 0);have fD:(ah st (.cells p.cells 0)).heap.get st.next=some (.cells p.cells 0):=aF _ _;have B:=ajx hc p hp hR _ bX;by_cases h:(fU p).2=0
 . have hv:=ad3 h;have K:=ajE hc (ah st (.cells p.cells 0));have gS:Wf (ah (ah st (.cells p.cells 0)) (.map kEs 18)):=bL bX;have ze:=Grew.ah bX (.map kEs 18);obtain⟨st',g1,g2⟩:=afZ hc p hp hr hv st.next (ah st (.cells p.cells 0)).next 18 101 (λvs s50=>eP vs λx2 vs=>eP vs λx3 vs=>iD vs (
   some (.tuple [x2,x3],s50))) (λvs s51=>iD vs (
   aj c .move [(.int .i64 0)] s51 λx2 s52=>
 aj c .move [(.int .i64 0)] s52 λx3 s53=>
 some (.tuple [x2,x3],s53))) 100 0 _ gS (ze.get fD) (aF _ _) (by have:=hp.rs;omega) (by omega)
   have e:aU p=fJ p 100 0:=(by unfold aU;rw[Zb2 (by simp[h])]);have e0:=ad0 h;rw[Nb hc 101 (r:=(.tuple [.int .i64 (aU p).1,.int .i64 (aU p).2],st')),aB oZ ((KM.trans ze).trans g1).keeps];rw[Ss,e];simp at g2;simp[fD,B,h,K,g2];by_cases h2:(fJ p 100 0).2=0
   .have:=LD p 100 0 h2;simp[h2,this]
   .simp[h2]
 .have e:aU p=fU p:=(by unfold aU;rw[Zb5 h]);rw[Nb hc 101 (r:=(.tuple [.int .i64 (aU p).1,.int .i64 (aU p).2],ah st (.cells p.cells 0))),aB oZ KM.keeps];rw[Ss,e];simp[fD,B,h]
def nA(k:Int):Bool:=decide (k=1)||decide (k=2)||decide (k=3)||decide (k=4)||decide (k=5)
theorem Nc(hc:Sem c)(k:Int)(st:St):c 143 [.int .u8 k] st=some (.bool (nA k),st):=by
 rw[Pc hc 1 (r:=(.bool (nA k),st)),aB (Plain.bool _) (bf.refl st)];rw[Su];unfold nA;by_cases e0:k=1
 .simp[e0]
 by_cases e1:k=2
 .simp[e0,e1]
 by_cases e2:k=3
 .simp[e0,e1,e2]
 by_cases e3:k=4
 .simp[e0,e1,e2,e3]
 by_cases e4:k=5
 .simp[e0,e1,e2,e3,e4]
 simp[e0,e1,e2,e3,e4]
def zM(k:Int):Bool:=decide (k=6)||decide (k=7)||decide (k=10)
theorem aht(hc:Sem c)(k:Int)(st:St):c 144 [.int .u8 k] st=some (.bool (zM k),st):=by
 rw[Pd hc 1 (r:=(.bool (zM k),st)),aB (Plain.bool _) (bf.refl st)];rw[Sv];unfold zM;by_cases e0:k=6
 .simp[e0]
 by_cases e1:k=7
 .simp[e0,e1]
 by_cases e2:k=10
 .simp[e0,e1,e2]
 simp[e0,e1,e2]
def Sw(k:Int):Bool:=decide (k=1)||decide (k=4)||decide (k=7)||decide (k=15)||decide (k=16)
theorem aaf(hc:Sem c)(k:Int)(st:St):c 146 [.int .u8 k] st=some (.bool (Sw k),st):=by
 rw[JM hc 1 (r:=(.bool (Sw k),st)),aB (Plain.bool _) (bf.refl st)];rw[Nd];unfold Sw;by_cases e0:k=1
 .simp[e0]
 by_cases e1:k=4
 .simp[e0,e1]
 by_cases e2:k=7
 .simp[e0,e1,e2]
 by_cases e3:k=15
 .simp[e0,e1,e2,e3]
 by_cases e4:k=16
 .simp[e0,e1,e2,e3,e4]
 simp[e0,e1,e2,e3,e4]
def uL(k:Int):Int:=if nA k=true\/k=10 then 0 else if k=6\/k=7\/k=17 then 1 else 2
theorem aag(hc:Sem c)(k:Int)(st:St):c 145 [.int .u8 k] st=some (.int .i64 (uL k),st):=by
 rw[JN hc 1 (r:=(.int .i64 (uL k),st)),aB (Plain.int _ _) (bf.refl st)];rw[Nf];have t:=Nc hc k st;unfold uL;cases h:nA k with
 |true=>simp[t,h]
 |false=>
  by_cases e1:k=10
  .rw[e1]at t h;simp[t,h,e1]
  by_cases e2:k=6
  .rw[e2]at t h;simp[t,h,e2]
  by_cases e3:k=7
  .rw[e3]at t h;simp[t,h,e3]
  by_cases e4:k=17
  .rw[e4]at t h;simp[t,h,e4]
  simp[t,h,e1,e2,e3,e4]
def wl:List AV:=(List.range 19).map λi=>.str (kd i).w
theorem acY{R:Type}(c:aq)(K:AV->St->Option R)(st:St)(es len:Nat)(z:List AV)(ps:List Nat)(xs l:List AV)(h:cH (cv z len) (ps.map λi=>(i*es,es)) xs=some l):
  aj c (.buildSlice es len z ps) xs st K=K (.slice st.next 0 len (some len) es) (ah st (.cells l 0)):=by
 rw[eo,h];rfl
theorem amz(n:Nat)(h:n<19):wl[n]? =some (.str (kd n).w):=by simp[wl,h]
theorem alu(hc:Sem c)(n:Nat)(hn:n<256)(st:St)(hw:Wf st):c 142 [.int .u8 (n:Int)] st=some (.str (kd n).w,st):=by
 have w:az .i64 (n:Int)=(n:Int):=wrap64 (by omega) (by omega);rw[Ng hc 1 (r:=(.str (kd n).w,ah st (.cells wl 0))),aB (Plain.str _) (bE hw)];rw[QZ];rw[ai,acY (l:=wl) (h:=rfl)];have hlen:∀(K:AV->St->Option (AV×St))(s:St),aj c (.lenB .l) [.slice st.next 0 19 (some 19) 1] s K=K (.int .i64 19) s:=λK s=>bC c K (λH n=>rfl) s
 by_cases h:19<=n
 .have e:(kd n).w=[]:=(by unfold kd;split<;>first|rfl|omega);have hi:(19:Int)<=(n:Int):=(by omega);simp[w,h,hi,e,hlen]
 . have hi:¬(19:Int)<=(n:Int):=(by omega);have h':n<19:=(by omega);have hidx:∀(K:AV->St->Option (AV×St))(s:St),aj c (.idxA 1 none) [.slice st.next 0 19 (some 19) 1,.int .u8 (n:Int)] s K=K (.ptr st.next n) s:=λK s=>bC c K (λH m=>by
    simp[aJ.run,qC,kF,Hg,h']) s
   simp[w,h,hi,h',amz,hlen,hidx]
theorem acZ(z:Bool)(ts:List aH)(s:List Nat)(hl:ts.length<=100)(F:Nat)(st:St)(k1 k2):∀(m k:Nat),ts.length<=k+m->k<=ts.length->
  gY c F k1 k2 (m+1) [tabs z ts,.str s,.int .i64 (k:Int)] st=if 0<=scan (iP ts s) (ts.length - k) k then k1 [.int .i64 (scan (iP ts s) (ts.length - k) k)] st else k2 [] st:=by
 intro m;induction m with
 |zero=>
  intro k h1 h2;obtain rfl:k=ts.length:=by omega
  rw[xy];simp[scan]
 |succ m ih=>
  intro k h1 h2;rw[xy];by_cases h:k<ts.length
  . have e:ts.length - k=(ts.length - (k+1))+1:=(by omega);have w:az .i64 ((k:Int)+1)=((k+1:Nat):Int):=wrap64 (by omega) (by omega);rw[e,scan];by_cases hb:ts[k].name=s
    .   have Kt:iP ts s k=true:=(by simp[iP,h,hb]);rw[Kt];simp[tabs,h,hb]
    .   have Kt:iP ts s k=false:=(by simp[iP,h,hb]);rw[Kt];simp only[Zd3,Ze8];rw[<-ih (k+1) (by omega) (by omega)];simp[tabs,h,hb,w]
  .obtain rfl:k=ts.length:=(by omega);simp[scan]
theorem af0(hc:Sem c)(z:Bool)(ts:List aH)(s:List Nat)(hl:ts.length<=100)(st:St):c 149 [tabs z ts,.str s] st=some (.int .i64 (scan (iP ts s) ts.length 0),st):=by
 rw[IG hc 101 (r:=(.int .i64 (scan (iP ts s) ts.length 0),st)),aB (Plain.int _ _) (bf.refl st)];rw[LF];have L:∀k1 k2,gY c 101 k1 k2 101 [tabs z ts,.str s,.int .i64 0] st=if 0<=scan (iP ts s) ts.length 0 then k1 [.int .i64 (scan (iP ts s) ts.length 0)] st else k2 [] st:=
   λk1 k2=>acZ z ts s hl 101 st k1 k2 100 0 (by omega) (by omega)
 have g:=HR (iP ts s) ts.length 0;by_cases h:0<=scan (iP ts s) ts.length 0
 .simp only[h,Zg7]at L;simp[L]
 .simp only[h,Ze8]at L;have:=g.2 (by omega);simp[L,this]
end
section
open Go Go.Ai Go.Proofs
variable{c:aq}
theorem stW{R:Type}(hc:Sem c){p:aP}{r:Rl}{q2 q3:Pos}{s:St}{n:Nat}(hw:Wf s)(hn:n<256)(hk:r.k=(n:Int))(hp:p.ew)(p2:s.heap.get q2=some (.cells p.cells 0))(p3:s.heap.get q3=some (.cells r.cells 0))(K:AV->AV->St->Option R):
  (aj c (.fieldA 0) [(.ptr q3 0)] s λx9 s3=>
   aj c (.load none) [x9] s3 λFb s4=>
   aj c .move [Fb] s4 λx5 s5=>
   aj c .move [x5] s5 λFc s6=>
   aj c (.callF 142) [Fc] s6 λx12 s7=>
   aj c (.bin .eql .num) [x12,(.str [])] s7 λx13 s8=>
   K x5 x13 s8)=K (.int .u8 (n:Int)) (.bool (decide ((kd n).w=[]))) s:=by
 have W:=alu hc n hn s hw;simp[p3,hk,W]
theorem stWt{R:Type}(hc:Sem c){p:aP}{r:Rl}{q2 q3:Pos}{s:St}{n:Nat}(hw:Wf s)(hn:n<256)(hk:r.k=(n:Int))(hp:p.ew)(p2:s.heap.get q2=some (.cells p.cells 0))(p3:s.heap.get q3=some (.cells r.cells 0))(K:AV->St->Option R):
   (aj c (.fieldA 1) [(.ptr q3 0)] s λx14 s10=>
    aj c (.load none) [x14] s10 λx15 s11=>
    aj c (.bin .lss .num) [x15,(.int .i64 0)] s11 λx16 s12=>
    aj c .move [x16] s12 λx17 DX=>
    bT c x17 false (.fieldA 1) [(.ptr q3 0)] DX λGk s14=>
    bT c x17 false (.load none) [Gk] s14 λx19 s15=>
    bT c x17 false (.bin .gtr .num) [x19,(.int .i64 1000)] s15 λx20 Nh=>
    aj c .pick [x17,(.bool true),x20] Nh λx21 Ni=>
    K x21 Ni)=K (.bool (decide (r.wt<0\/1000<r.wt))) s:=by
 by_cases h1:r.wt<0
 .simp[p3,h1]
 .simp[p3,h1]
theorem stP1{R:Type}(hc:Sem c){p:aP}{r:Rl}{q2 q3:Pos}{s:St}{n:Nat}(hw:Wf s)(hn:n<256)(hk:r.k=(n:Int))(hp:p.ew)(p2:s.heap.get q2=some (.cells p.cells 0))(p3:s.heap.get q3=some (.cells r.cells 0))(K:AV->St->Option R):
   (aj c (.fieldA 2) [(.ptr q3 0)] s λx22 II=>
    aj c (.load none) [x22] II λx23 IJ=>
    aj c (.bin .neq .num) [x23,(.str [])] IJ λU8 s21=>
    aj c .move [U8] s21 λx25 s22=>
    bT c x25 true .move [(.int .u8 (n:Int))] s22 λx26 s23=>
    bT c x25 true (.callF 143) [x26] s23 λx27 s24=>
    bT c x25 true (.un .not) [x27] s24 λx28 s25=>
    aj c .pick [x25,x28,(.bool false)] s25 λx29 s26=>
    aj c .move [x29] s26 λVd s27=>
    bT c Vd true .move [(.int .u8 (n:Int))] s27 λx31 s28=>
    bT c Vd true (.callF 144) [x31] s28 λx32 s29=>
    bT c Vd true (.un .not) [x32] s29 λx33 s30=>
    aj c .pick [Vd,x33,(.bool false)] s30 λx34 s31=>
    aj c .move [x34] s31 λx35 s32=>
    bT c x35 true .move [(.int .u8 (n:Int))] s32 λx36 s33=>
    bT c x35 true (.bin .neq .num) [x36,(.int .u8 17)] s33 λx37 XT=>
    aj c .pick [x35,x37,(.bool false)] XT λx38 XU=>
    K x38 XU)=K (.bool (decide (r.a≠[])&& !nA n&& !zM n&&decide (n≠17))) s:=by
 have T1:=Nc hc (n:Int) s;have T2:=aht hc (n:Int) s;by_cases h:r.a=[]
 .simp[p3,h]
 . cases h1:nA (n:Int)with
   |true=>simp[p3,h,T1,h1]
   |false=>
    cases h2:zM (n:Int)with
    |true=>simp[p3,h,T1,T2,h1,h2]
    |   false=>
        have e:decide ((n:Int)=17)=decide (n=17):=(by by_cases hh:n=17<;>simp[hh];omega);simp[p3,h,T1,T2,h1,h2,e]
theorem stP2{R:Type}(hc:Sem c){p:aP}{r:Rl}{q2 q3:Pos}{s:St}{n:Nat}(hw:Wf s)(hn:n<256)(hk:r.k=(n:Int))(hp:p.ew)(p2:s.heap.get q2=some (.cells p.cells 0))(p3:s.heap.get q3=some (.cells r.cells 0))(b:Bool)(K:AV->St->Option R):
  (aj c .move [(.bool b)] s λx39 s36=>
    bT c x39 false (.fieldA 3) [(.ptr q3 0)] s36 λx40 s37=>
    bT c x39 false (.load none) [x40] s37 λx41 s38=>
    bT c x39 false (.bin .neq .num) [x41,(.str [])] s38 λx42 s39=>
    bT c x39 false .move [x42] s39 λx43 s40=>
    bT c x43 true .move [(.int .u8 (n:Int))] s40 λx44 s41=>
    bT c x43 true (.callF 143) [x44] s41 λx45 s42=>
    bT c x43 true (.un .not) [x45] s42 λx46 s43=>
    bT c x39 false .pick [x43,x46,(.bool false)] s43 λx47 s44=>
    aj c .pick [x39,(.bool true),x47] s44 λx48 s45=>
    K x48 s45)=K (.bool (b||(decide (r.b≠[])&& !nA n))) s:=by
 have T1:=Nc hc (n:Int) s;cases b with
 |true=>simp
 |false=>
  by_cases h:r.b=[]
  .simp[p3,h]
  .simp[p3,h,T1]
theorem stP3{R:Type}(hc:Sem c){p:aP}{r:Rl}{q2 q3:Pos}{s:St}{n:Nat}(hw:Wf s)(hn:n<256)(hk:r.k=(n:Int))(hp:p.ew)(p2:s.heap.get q2=some (.cells p.cells 0))(p3:s.heap.get q3=some (.cells r.cells 0))(b:Bool)(K:AV->St->Option R):
  (aj c .move [(.bool b)] s λx49 s46=>
    bT c x49 false (.fieldA 4) [(.ptr q3 0)] s46 λx50 s47=>
    bT c x49 false (.load none) [x50] s47 λx51 s48=>
    bT c x49 false (.bin .neq .num) [x51,(.str [])] s48 λx52 s49=>
    bT c x49 false .move [x52] s49 λx53 s50=>
    bT c x53 true .move [(.int .u8 (n:Int))] s50 λZ9 s51=>
    bT c x53 true (.callF 145) [Z9] s51 λx55 s52=>
    bT c x53 true (.bin .eql .num) [x55,(.int .i64 0)] s52 λx56 s53=>
    bT c x49 false .pick [x53,x56,(.bool false)] s53 λx57 s54=>
    aj c .pick [x49,(.bool true),x57] s54 λx58 s55=>
    K x58 s55)=K (.bool (b||(decide (r.t≠[])&&decide (uL n=0)))) s:=by
 have T1:=aag hc (n:Int) s;cases b with
 |true=>simp
 |false=>
  by_cases h:r.t=[]
  .simp[p3,h]
  .simp[p3,h,T1]
theorem stP4{R:Type}(hc:Sem c){p:aP}{r:Rl}{q2 q3:Pos}{s:St}{n:Nat}(hw:Wf s)(hn:n<256)(hk:r.k=(n:Int))(hp:p.ew)(p2:s.heap.get q2=some (.cells p.cells 0))(p3:s.heap.get q3=some (.cells r.cells 0))(b:Bool)(K:AV->St->Option R):
  (aj c .move [(.bool b)] s λXH s56=>
    bT c XH false (.fieldA 5) [(.ptr q3 0)] s56 λx60 s57=>
    bT c XH false (.load none) [x60] s57 λx61 s58=>
    bT c XH false (.bin .neq .num) [x61,(.int .i64 0)] s58 λx62 s59=>
    bT c XH false .move [x62] s59 λx63 s60=>
    bT c x63 true .move [(.int .u8 (n:Int))] s60 λX2 s61=>
    bT c x63 true (.callF 146) [X2] s61 λx65 s62=>
    bT c x63 true (.un .not) [x65] s62 λx66 s63=>
    bT c XH false .pick [x63,x66,(.bool false)] s63 λx67 s64=>
    aj c .pick [XH,(.bool true),x67] s64 λx68 s65=>
    K x68 s65)=K (.bool (b||(decide (r.n≠0)&& !Sw n))) s:=by
 have T1:=aaf hc (n:Int) s;cases b with
 |true=>simp
 |false=>
  by_cases h:r.n=0
  .simp[p3,h]
  .simp[p3,h,T1]
theorem stA{R:Type}(hc:Sem c){p:aP}{r:Rl}{q2 q3:Pos}{s:St}{n:Nat}(hw:Wf s)(hn:n<256)(hk:r.k=(n:Int))(hp:p.ew)(p2:s.heap.get q2=some (.cells p.cells 0))(p3:s.heap.get q3=some (.cells r.cells 0))(K:AV->St->Option R):
  (aj c .move [(.int .u8 (n:Int))] s λx69 s67=>
    aj c (.callF 143) [x69] s67 λx70 s68=>
    aj c .move [x70] s68 λx71 s69=>
    bT c x71 false .move [(.int .u8 (n:Int))] s69 λx72 s70=>
    bT c x71 false (.callF 144) [x72] s70 λx73 s71=>
    aj c .pick [x71,(.bool true),x73] s71 λx74 s72=>
    aj c .move [x74] s72 λx75 s73=>
    bT c x75 true .move [(.int .u8 (n:Int))] s73 λx76 s74=>
    bT c x75 true (.bin .eql .num) [x76,(.int .u8 10)] s74 λx77 s75=>
    bT c x75 true .move [x77] s75 λx78 s76=>
    bT c x78 true (.fieldA 2) [(.ptr q3 0)] s76 λx79 s77=>
    bT c x78 true (.load none) [x79] s77 λx80 s78=>
    bT c x78 true (.bin .eql .num) [x80,(.str [])] s78 λx81 s79=>
    bT c x75 true .pick [x78,x81,(.bool false)] s79 λx82 s80=>
    bT c x75 true (.un .not) [x82] s80 λx83 s81=>
    aj c .pick [x75,x83,(.bool false)] s81 λx84 s82=>
    aj c .move [x84] s82 λx85 s83=>
    bT c x85 true (.fieldA 1) [(.ptr q2 0)] s83 λx86 s84=>
    bT c x85 true (.load none) [x86] s84 λx87 s85=>
    bT c x85 true (.fieldA 2) [(.ptr q3 0)] s85 λx88 s86=>
    bT c x85 true (.load none) [x88] s86 λx89 s87=>
    bT c x85 true (.callF 147) [x87,x89] s87 λx90 s88=>
    bT c x85 true (.bin .lss .num) [x90,(.int .i64 0)] s88 λx91 s89=>
    aj c .pick [x85,x91,(.bool false)] s89 λx92 s90=>
    K x92 s90)=K (.bool ((nA n||zM n)&& !(decide (n=10)&&decide (r.a=[]))&&decide (gi p r.a<0))) s:=by
 have T1:=Nc hc (n:Int) s;have T2:=aht hc (n:Int) s;have A:c 147 [bD p.gz p.gs,.str r.a] s=some (.int .i64 (gi p r.a),s):=XX hc p.gz p.gs r.a (by have:=hp.gs;unfold cC;omega) s;have e:((n:Int)=10)=(n=10):=by apply propext;omega
 cases h1:nA (n:Int)with
 |true=>
  by_cases h3:n=10
  . by_cases h4:r.a=[]
    .   simp[p2,p3,T1,h1,h3,h4]
        try simp_all
    .   simp[p2,p3,T1,h1,h3,h4,A]
        try simp_all
  .simp[p2,p3,T1,h1,e,h3,A]
 |false   =>
  cases h2:zM (n:Int)with
  | true=>
    by_cases h3:n=10
    .   by_cases h4:r.a=[]
        . simp[p2,p3,T1,T2,h1,h2,h3,h4]
          try simp_all
        . simp[p2,p3,T1,T2,h1,h2,h3,h4,A]
          try simp_all
    .   simp[p2,p3,T1,T2,h1,h2,e,h3,A]
  |false=>simp[p2,p3,T1,T2,h1,h2]
theorem stB{R:Type}(hc:Sem c){p:aP}{r:Rl}{q2 q3:Pos}{s:St}{n:Nat}(hw:Wf s)(hn:n<256)(hk:r.k=(n:Int))(hp:p.ew)(p2:s.heap.get q2=some (.cells p.cells 0))(p3:s.heap.get q3=some (.cells r.cells 0))(K:AV->St->Option R):
  (aj c .move [(.int .u8 (n:Int))] s λx93 s92=>
   aj c (.callF 143) [x93] s92 λx94 s93=>
   aj c .move [x94] s93 λx95 s94=>
   bT c x95 true (.fieldA 1) [(.ptr q2 0)] s94 λx96 s95=>
   bT c x95 true (.load none) [x96] s95 λx97 s96=>
   bT c x95 true (.fieldA 3) [(.ptr q3 0)] s96 λx98 s97=>
   bT c x95 true (.load none) [x98] s97 λx99 s98=>
   bT c x95 true (.callF 147) [x97,x99] s98 λx100 s99=>
   bT c x95 true (.bin .lss .num) [x100,(.int .i64 0)] s99 λx101 s100=>
   aj c .pick [x95,x101,(.bool false)] s100 λx102 s101=>
   K x102 s101)=K (.bool (nA n&&decide (gi p r.b<0))) s:=by
 have T1:=Nc hc (n:Int) s;have A:c 147 [bD p.gz p.gs,.str r.b] s=some (.int .i64 (gi p r.b),s):=XX hc p.gz p.gs r.b (by have:=hp.gs;unfold cC;omega) s;cases h1:nA (n:Int)<;>simp[p2,p3,T1,h1,A]
theorem stN{R:Type}(hc:Sem c){p:aP}{r:Rl}{q2 q3:Pos}{s:St}{n:Nat}(hw:Wf s)(hn:n<256)(hk:r.k=(n:Int))(hp:p.ew)(p2:s.heap.get q2=some (.cells p.cells 0))(p3:s.heap.get q3=some (.cells r.cells 0))(K:AV->St->Option R):
   (aj c .move [(.int .u8 (n:Int))] s λx103 s103=>
    aj c (.bin .eql .num) [x103,(.int .u8 17)] s103 λx104 s104=>
    aj c .move [x104] s104 λac0 s105=>
    bT c ac0 true (.fieldA 2) [(.ptr q3 0)] s105 λx106 s106=>
    bT c ac0 true (.load none) [x106] s106 λx107 s107=>
    bT c ac0 true (.callF 148) [x107] s107 λx108 s108=>
    bT c ac0 true (.un .not) [x108] s108 λx109 s109=>
    aj c .pick [ac0,x109,(.bool false)] s109 λx110 s110=>
    K x110 s110)=K (.bool (decide (n=17)&& !eX r.a)) s:=by
 have A:=HQ hc r.a s;have e:((n:Int)=17)=(n=17):=by apply propext;omega
 by_cases h1:n=17
 .simp[p3,e,h1,A]
 .simp[p3,e,h1]
theorem stD{R:Type}(hc:Sem c){p:aP}{r:Rl}{q2 q3:Pos}{s:St}{n:Nat}(hw:Wf s)(hn:n<256)(hk:r.k=(n:Int))(hp:p.ew)(p2:s.heap.get q2=some (.cells p.cells 0))(p3:s.heap.get q3=some (.cells r.cells 0))(K:AV->St->Option R):
  (aj c .move [(.int .u8 (n:Int))] s λajF s112=>
   aj c (.callF 143) [ajF] s112 λajG s113=>
   aj c .move [ajG] s113 λSx s114=>
   bT c Sx true (.fieldA 2) [(.ptr q3 0)] s114 λajH s115=>
   bT c Sx true (.load none) [ajH] s115 λx115 s116=>
   bT c Sx true (.fieldA 3) [(.ptr q3 0)] s116 λx116 s117=>
   bT c Sx true (.load none) [x116] s117 λx117 s118=>
   bT c Sx true (.bin .eql .num) [x115,x117] s118 λx118 s119=>
   aj c .pick [Sx,x118,(.bool false)] s119 λx119 s120=>
   K x119 s120)=K (.bool (nA n&&decide (r.a=r.b))) s:=by
 have T1:=Nc hc (n:Int) s;cases h1:nA (n:Int)<;>simp[p3,T1,h1]
theorem stT{R:Type}(hc:Sem c){p:aP}{r:Rl}{q2 q3:Pos}{s:St}{n:Nat}(hw:Wf s)(hn:n<256)(hk:r.k=(n:Int))(hp:p.ew)(p2:s.heap.get q2=some (.cells p.cells 0))(p3:s.heap.get q3=some (.cells r.cells 0))(K:AV->AV->St->Option R):
   (aj c (.fieldA 0) [(.ptr q2 0)] s λx120 s122=>
     aj c (.load none) [x120] s122 λx121 s123=>
     aj c (.fieldA 4) [(.ptr q3 0)] s123 λx122 s124=>
     aj c (.load none) [x122] s124 λx123 s125=>
     aj c (.callF 149) [x121,x123] s125 λx124 s126=>
     aj c .move [x124] s126 λx6 s127=>
     aj c .move [(.int .u8 (n:Int))] s127 λx125 s128=>
     aj c (.callF 145) [x125] s128 λx126 s129=>
     aj c (.bin .eql .num) [x126,(.int .i64 1)] s129 λajI s130=>
     aj c .move [ajI] s130 λac1 s131=>
     bT c ac1 true .move [x6] s131 λajJ s132=>
     bT c ac1 true (.bin .lss .num) [ajJ,(.int .i64 0)] s132 λajK s133=>
     aj c .pick [ac1,ajK,(.bool false)] s133 λx131 s134=>
     aj c .move [x131] s134 λSy s135=>
     bT c Sy false .move [(.int .u8 (n:Int))] s135 λx133 s136=>
     bT c Sy false (.callF 145) [x133] s136 λx134 s137=>
     bT c Sy false (.bin .eql .num) [x134,(.int .i64 2)] s137 λx135 s138=>
     bT c Sy false .move [x135] s138 λaf1 s139=>
     bT c af1 true (.fieldA 4) [(.ptr q3 0)] s139 λx137 s140=>
     bT c af1 true (.load none) [x137] s140 λx138 s141=>
     bT c af1 true (.bin .neq .num) [x138,(.str [])] s141 λx139 ajz=>
     bT c Sy false .pick [af1,x139,(.bool false)] ajz λx140 ajA=>
     bT c Sy false .move [x140] ajA λajL ajB=>
     bT c ajL true .move [x6] ajB λx142 ajC=>
     bT c ajL true (.bin .lss .num) [x142,(.int .i64 0)] ajC λx143 s146=>
     bT c Sy false .pick [ajL,x143,(.bool false)] s146 λx144 s147=>
     aj c .pick [Sy,(.bool true),x144] s147 λx145 s148=>
     K x6 x145 s148)=K (.int .i64 (ti p r.t)) (.bool ((decide (uL n=1)&&decide (ti p r.t<0))||(decide (uL n=2)&&decide (r.t≠[])&&decide (ti p r.t<0)))) s:=by
 have T1:=aag hc (n:Int) s;have A:c 149 [tabs p.tz p.ts,.str r.t] s=some (.int .i64 (ti p r.t),s):=af0 hc p.tz p.ts r.t hp.ts s;by_cases h1:uL (n:Int)=1
 . by_cases h2:ti p r.t<0
   .simp[p2,p3,T1,h1,h2,A]
   .simp[p2,p3,T1,h1,h2,A]
 . by_cases h3:uL (n:Int)=2
   . by_cases h4:r.t=[]
     .  rw[h4]at A;simp[p2,p3,T1,h1,h3,h4,A]
     .  simp[p2,p3,T1,h1,h3,h4,A]
   .simp[p2,p3,T1,h1,h3,A]
theorem anx(hc:Sem c){p:aP}{r:Rl}{q2 q3:Pos}{s:St}{n:Nat}(hw:Wf s)(hn:n<256)(hk:r.k=(n:Int))(hp:p.ew)(p2:s.heap.get q2=some (.cells p.cells 0))(p3:s.heap.get q3=some (.cells r.cells 0))(Cv:(kd n).lo=if n=4 then 1 else 0)(akF:(kd n).uJ=decide (n=7))(hnum:Sw (n:Int)=(kd n).n)(ht:n=7->0<=ti p r.t)
   (x2 x3 x5 x6:AV) (e2:x2= .ptr q2 0) (e3:x3= .ptr q3 0) (e5:x5= .int .u8 (n:Int)) (e6:x6= .int .i64 (ti p r.t)):
   (aj c .move [(.int .i64 0)] s λx7 s150=>
   aj c .move [(.int .i64 24)] s150 λx8 s151=>
   fB (λj152=>
   aj c .move [x5] s151 λx146 s154=>
   aj c (.bin .eql .num) [x146,(.int .u8 4)] s154 λx147 s155=>
   MJ x147 (
   aj c .move [(.int .i64 1)] s155 λx7 s156=>
   j152 [x2,x3,x5,x6,x7,x8] s156) (
   j152 [x2,x3,x5,x6,x7,x8] s155))
   (λvs s153=>eP vs λx2 vs=>eP vs λx3 vs=>eP vs λx5 vs=>eP vs λx6 vs=>eP vs λx7 vs=>eP vs λx8 vs=>iD vs (
   fB (λj157=>
   aj c .move [x5] s153 λx148 s159=>
   aj c (.bin .eql .num) [x148,(.int .u8 7)] s159 λx149 s160=>
   MJ x149 (
   aj c (.fieldA 0) [x2] s160 λx150 s161=>
   aj c (.load none) [x150] s161 λx151 s162=>
   aj c .move [x6] s162 λx152 s163=>
   aj c (.idxA 7 none) [x151,x152] s163 λx153 s164=>
   aj c (.load (some 7)) [x153] s164 λx154 s165=>
   aj c (.callF 50) [x154] s165 λx155 s166=>
   aj c (.bin .sub .num) [x155,(.int .i64 1)] s166 λx156 s167=>
   aj c .move [x156] s167 λx8 s168=>
   j157 [x3,x5,x7,x8] s168) (
   j157 [x3,x5,x7,x8] s160))
   (λvs s158=>eP vs λx3 vs=>eP vs λx5 vs=>eP vs λx7 vs=>eP vs λx8 vs=>iD vs (
   aj c .move [x5] s158 λx157 s169=>
   aj c (.callF 146) [x157] s169 λx158 s170=>
   aj c .move [x158] s170 λWj s171=>
   bT c Wj true (.fieldA 5) [x3] s171 λx160 s172=>
   bT c Wj true (.load none) [x160] s172 λx161 s173=>
   bT c Wj true .move [x7] s173 λx162 s174=>
   bT c Wj true (.bin .lss .num) [x161,x162] s174 λx163 s175=>
   bT c Wj true .move [x163] s175 λac2 s176=>
   bT c ac2 false (.fieldA 5) [x3] s176 λx165 s177=>
   bT c ac2 false (.load none) [x165] s177 λx166 s178=>
   bT c ac2 false .move [x8] s178 λx167 s179=>
   bT c ac2 false (.bin .gtr .num) [x166,x167] s179 λx168 s180=>
   bT c Wj true .pick [ac2,(.bool true),x168] s180 λx169 s181=>
   aj c .pick [Wj,x169,(.bool false)] s181 λx170 s182=>
   MJ x170 (
   aj c .move [(.int .i64 42)] s182 λx4 s183=>
   some (x4,s183)) (
   aj c .move [(.int .i64 0)] s182 λx4 s184=>
   some (x4,s184)))))))=some (.int .i64 (zL (kd n) r (if(kd n).uJ=true then uK p (ti p r.t) - 1 else 24)),s):=by
 subst e2 e3 e5 e6;have T4:=aaf hc (n:Int) s;rw[hnum]at T4;have hit:=Iw (P:=iP p.ts r.t) p.ts.length 0;unfold zL;rw[Cv,akF];clear Cv akF hnum;by_cases h4:n=4
 . have d4:decide ((n:Int)=4)=true:=(by simp only[Zd1];omega);have d7:decide ((n:Int)=7)=false:=(by simp only[Zi2];omega);have n7:decide (n=7)=false:=(by simp only[Zi2];omega);rw[Zb5 h4,n7];clear h4 n7;cases hm:(kd n).n with
   |false=>simp[bO,p2,p3,T4,d4,d7,hm]
   | true=>
     by_cases e1:r.n<1
     .  simp[bO,p2,p3,T4,d4,d7,hm,e1]
     .  by_cases e2:24<r.n
        .simp[bO,p2,p3,T4,d4,d7,hm,e1,e2]
        .simp[bO,p2,p3,T4,d4,d7,hm,e1,e2]
 . have d4:decide ((n:Int)=4)=false:=(by simp only[Zi2];omega);rw[Zb2 h4];clear h4;by_cases h7:n=7
   . have d7:decide ((n:Int)=7)=true:=(by simp only[Zd1];omega);have n7:decide (n=7)=true:=(by simp only[Zd1];exact h7);have ZB:=ht h7;rw[n7];clear ht h7 n7;obtain⟨i,hi⟩:∃i:Nat,ti p r.t=(i:Int):=⟨(ti p r.t).toNat,by omega⟩
     have fN:i<p.ts.length:=(by have:=(hit ZB).2.1;unfold ti at hi;rw[hi]at this;simpa using this);have S:=uD hc p.ts[i] s hw;have b:=jJ p.ts[i];have w2:az .i64 (aY p.ts[i] - 1)=aY p.ts[i] - 1:=wrap64 (by omega) (by omega);have e3:uK p (i:Int)=aY p.ts[i]:=(by simp[uK,fN]);rw[hi,e3];clear hi e3 ZB hit;cases hm:(kd n).n with
     |false=>simp[bO,p2,p3,T4,d4,d7,tabs,fN,S,w2,hm]
     |  true=>
        by_cases e1:r.n<0
        .simp[bO,p2,p3,T4,d4,d7,tabs,fN,S,w2,hm,e1]
        . by_cases e2:aY p.ts[i] - 1<r.n
          .simp[bO,p2,p3,T4,d4,d7,tabs,fN,S,w2,hm,e1,e2]
          .simp[bO,p2,p3,T4,d4,d7,tabs,fN,S,w2,hm,e1,e2]
   . have d7:decide ((n:Int)=7)=false:=(by simp only[Zi2];omega);have n7:decide (n=7)=false:=(by simp only[Zi2];exact h7);rw[n7];clear h7 n7 ht hit;cases hm:(kd n).n with
     |false=>simp[bO,p2,p3,T4,d4,d7,hm]
     |  true=>
        by_cases e1:r.n<0
        .simp[bO,p2,p3,T4,d4,d7,hm,e1]
        . by_cases e2:24<r.n
          .simp[bO,p2,p3,T4,d4,d7,hm,e1,e2]
          .simp[bO,p2,p3,T4,d4,d7,hm,e1,e2]
end
section
open Go Go.Ai Go.Proofs
variable{c:aq}
structure Flags(n:Nat):Prop where
 two:nA (n:Int)=(kd n).b
 num:Sw (n:Int)=(kd n).n
 t0:uL (n:Int)=0↔(kd n).t=0
 t1:uL (n:Int)=1↔(kd n).t=116
 t2:uL (n:Int)=2↔(kd n).t=101
 a0:(nA (n:Int)=false/\zM (n:Int)=false/\n≠17)↔(kd n).a=0
 a1:((nA (n:Int)||zM (n:Int))=true/\n≠10)↔(kd n).a=103
 a2:n=10↔(kd n).a=101
 a3:n=17↔(kd n).a=100
 o10:n=10->zM (n:Int)=true
 lo:(kd n).lo=if n=4 then 1 else 0
 uJ:(kd n).uJ=decide (n=7)
 s7:n=7->(kd n).t=116
theorem flags{n:Nat}(h:(kd n).w≠[]):Flags n:=by
 have h18:n<=18:=by apply Zk5;intro h2;apply h;unfold kd;split<;>first|rfl|omega
 have:n=0\/n=1\/n=2\/n=3\/n=4\/n=5\/n=6\/n=7\/n=8\/n=9\/n=10\/n=11\/n=12\/n=13\/n=14\/n=15\/n=16\/n=17\/n=18:=by omega
 rcases this with rfl|rfl|rfl|rfl|rfl|rfl|rfl|rfl|rfl|rfl|rfl|rfl|rfl|rfl|rfl|rfl|rfl|rfl|rfl
 .exact absurd rfl h
 all_goals exact⟨by decide,by decide,by decide,by decide,by decide,by decide,by decide,by decide,by decide,by decide,by decide,by decide,by decide⟩
theorem ad4(hc:Sem c)(p:aP)(hp:p.ew)(r:Rl)(n:Nat)(hk:r.k=(n:Int))(hn:n<256)(st:St)(hw:Wf st):
   c 73 [.agg p.cells,.agg r.cells] st=some (.int .i64 (IE (kd n) p r),st):=by
 have bX:Wf (ah st (.cells p.cells 0)):=bL hw;have ze:=Grew.ah bX (.cells r.cells 0);have hg:=(Grew.ah hw (.cells p.cells 0)).trans ze;have gS:=hg.wf;have p2:=ze.get (aF st (.cells p.cells 0));have p3:=aF (ah st (.cells p.cells 0)) (.cells r.cells 0);rw[LG hc 1 (r:=(.int .i64 (IE (kd n) p r),ah (ah st (.cells p.cells 0)) (.cells r.cells 0))),aB (Plain.int _ _) hg.keeps];rw[Pe,dw,dw,ai];simp only[AV.cells];generalize ah (ah st (.cells p.cells 0)) (.cells r.cells 0)=s at*
 generalize (ah st (.cells p.cells 0)).next=q3 at*
 generalize st.next=q2 at*
 rw[stW hc gS hn hk hp p2 p3];unfold IE;by_cases h0:(kd n).w=[]
 .rw[Zb5 h0,Za1 h0,bk,ai]
 have fl:=flags h0;rw[Zb2 h0,Za3 h0,aX];rw[stWt hc gS hn hk hp p2 p3];by_cases h1:r.wt<0\/1000<r.wt
 .rw[Zb5 h1,Za1 h1,bk,ai]
 rw[Zb2 h1,Za3 h1,aX];rw[stP1 hc gS hn hk hp p2 p3,stP2 hc gS hn hk hp p2 p3,stP3 hc gS hn hk hp p2 p3,stP4 hc gS hn hk hp p2 p3];have ep:(((decide (r.a≠[])&& !nA n&& !zM n&&decide (n≠17))||(decide (r.b≠[])&& !nA n))||(decide (r.t≠[])&&decide (uL n=0))||(decide (r.n≠0)&& !Sw n))= !yj (kd n) r:=by
   (unfold yj;rw[<-fl.two, <-fl.num];have t0:=fl.t0;have a0:=fl.a0;have:decide (uL (n:Int)=0)= !decide ((kd n).t≠0):=(by simp[t0]);rw[this];have:(!nA (n:Int)&& !zM (n:Int)&&decide (n≠17))= !decide ((kd n).a≠0):=by simp only[ne_eq, <-a0];cases nA (n:Int)<;>cases zM (n:Int)<;>simp);rw[Bool.and_assoc,Bool.and_assoc, <-Bool.and_assoc (!nA (n:Int)),this];cases decide ((kd n).a≠0)<;>cases nA (n:Int)<;>cases decide ((kd n).t≠0)<;>cases Sw (n:Int)<;>by_cases h3:r.a=[]<;>by_cases h4:r.b=[]<;>by_cases h5:r.t=[]<;>by_cases h6:r.n=0<;>simp[h3,h4,h5,h6]
 rw[ep];cases h2:yj (kd n) r with
 |false=>rw[Zi4,bk,ai,Zb5 rfl]
 |true=>
 rw[Zf8,aX,Zb2 (by simp)];rw[stA hc gS hn hk hp p2 p3];have ea:((nA (n:Int)||zM (n:Int))&& !(decide (n=10)&&decide (r.a=[]))&&decide (gi p r.a<0))=decide (((kd n).a=103/\gi p r.a<0)\/((kd n).a=101/\r.a≠[]/\gi p r.a<0)):=by
   rw[Zk7,Zd1, <-fl.a1, <-fl.a2];by_cases Qb:n=10
   .have h11:=fl.o10 Qb;have ZL:(nA (n:Int)||zM (n:Int))=true:=(by rw[h11,Zr0]);rw[ZL];by_cases h3:r.a=[]<;>simp[h3,Qb]
   .simp only[Qb,Zf6,Bool.false_and,Zi4,Zg8,ne_eq,Zm9,Zm4,false_and,Zg9];cases nA (n:Int)||zM (n:Int)<;>simp
 rw[ea];by_cases h3:((kd n).a=103/\gi p r.a<0)\/((kd n).a=101/\r.a≠[]/\gi p r.a<0)
 .rw[Za1 h3,bk,ai,Zb5 (h3.elim .inl λh=>.inr (.inl h))]
 rw[Za3 h3,aX];rw[stB hc gS hn hk hp p2 p3];rw[fl.two];by_cases h4:(kd n).b=true/\gi p r.b<0
 .have:((kd n).b&&decide (gi p r.b<0))=true:=(by simp[h4]);rw[this,bk,ai,Zb5 (.inr (.inr h4))]
 have:((kd n).b&&decide (gi p r.b<0))=false:=by
   cases hb:(kd n).b
   .rfl
   .simp[hb]at h4;simp;exact h4
 rw[this,aX,Zb2 (λh=>h.elim (λh=>h3 (.inl h)) λh=>h.elim (λh=>h3 (.inr h)) h4)];rw[stN hc gS hn hk hp p2 p3];unfold Wi;simp only[<-fl.a3];by_cases h5:n=17/\eX r.a=false
 .have:(decide (n=17)&& !eX r.a)=true:=(by simp[h5]);rw[this,bk,ai,Zb5 h5]
 have:(decide (n=17)&& !eX r.a)=false:=by
   by_cases h17:n=17
   . cases hb:eX r.a
     .exact absurd ⟨h17,hb⟩ h5
     .simp
   .simp[h17]
 rw[this,aX,Zb2 h5];rw[stD hc gS hn hk hp p2 p3,fl.two];by_cases h6:(kd n).b=true/\r.a=r.b
 .have:((kd n).b&&decide (r.a=r.b))=true:=(by simp[h6]);rw[this,bk,ai,Zb5 h6]
 have:((kd n).b&&decide (r.a=r.b))=false:=by
   cases hb:(kd n).b
   .rfl
   .simp[hb]at h6;simp;exact h6
 rw[this,aX,Zb2 h6];rw[stT hc gS hn hk hp p2 p3];unfold T7;simp only[<-fl.t1, <-fl.t2];by_cases h7:(uL (n:Int)=1/\ti p r.t<0)\/(uL (n:Int)=2/\r.t≠[]/\ti p r.t<0)
 . have:((decide (uL (n:Int)=1)&&decide (ti p r.t<0))||(decide (uL (n:Int)=2)&&decide (r.t≠[])&&decide (ti p r.t<0)))=true:=by
     rcases h7 with⟨a,b⟩|⟨a,b,d⟩<;>simp[*]
   rw[this,bk,ai,Zb5 h7]
 have:((decide (uL (n:Int)=1)&&decide (ti p r.t<0))||(decide (uL (n:Int)=2)&&decide (r.t≠[])&&decide (ti p r.t<0)))=false:=by apply Bool.eq_false_iff.2;intro e;apply h7;simpa [and_assoc]using e
 rw[this,aX,Zb2 h7];have ht:n=7->0<=ti p r.t:=λe=>by
   apply Zk5;intro e2;exact h7 (.inl ⟨fl.t1.2 (fl.s7 e),by omega⟩)
 exact anx hc gS hn hk hp p2 p3 fl.lo fl.uJ fl.num ht _ _ _ _ rfl rfl rfl rfl
theorem Zi(hc:Sem c)(p:aP)(hp:p.ew)(hr:∀r∈p.rs,r.Ok)(q1:Pos)(F:Nat)(st:St)(hw:Wf st)(hq:st.heap.get q1=some (.cells p.cells 0))(k1 k2):∀(m k:Nat),p.rs.length<=k+m->k<=p.rs.length->k<=64->
  ja c F k1 k2 (m+1) [.ptr q1 0,.int .i64 (k:Int)] st=if(fJ p m k).2=0 then k2 [] st else k1 [.int .i64 (fJ p m k).1,.int .i64 (fJ p m k).2] st:=by
 have hl:=hp.rs;intro m;induction m with
 |zero=>
  intro k h3 h4 h64;obtain rfl:k=p.rs.length:=by omega
  rw[qk];simp[fJ,hq]
 |succ m ih=>
  intro k h3 h4 h64;by_cases h:k<p.rs.length
  . have w:az .i64 ((k:Int)+1)=((k+1:Nat):Int):=wrap64 (by omega) (by omega);obtain⟨n,hk⟩:∃n:Nat,p.rs[k].k=(n:Int):=⟨p.rs[k].k.toNat,by have:=(hr _ (Zc0 h)).1;omega⟩
    have hn:n<256:=(by have:=(hr _ (Zc0 h)).2;omega);have Rw:=ad4 hc p hp p.rs[k] n hk hn st hw;have hS:sx p p.rs[k]=IE (kd n) p p.rs[k]:=(by unfold sx;rw[hk];rfl);rw[<-hS]at Rw;rw[qk,fJ,Za0 h];simp only;by_cases h5:sx p p.rs[k]=0
    .   simp only[h5,ne_eq,not_true,Ze8];by_cases h6:k=64
        .rw[Zb5 h6];have h6i:decide ((64:Int)<=(k:Int))=true:=(by simp only[Zd1];omega);simp[dm,h,hq,Rw,h5,h6i]
        .have g2:=ih (k+1) (by omega) (by omega) (by omega);simp only[h6,Ze8];rw[<-g2];have h6i:¬(64:Int)<=(k:Int):=(by omega);simp[dm,h,hq,Rw,h5,h6i,w]
    .   simp only[ne_eq,h5,Zm9,Zg7,Ze8];simp[dm,h,hq,Rw,h5]
  .obtain rfl:k=p.rs.length:=(by omega);rw[qk];simp[fJ,hq]
theorem ac3(hc:Sem c)(p:aP)(hp:p.ew)(hR:mI c p)(hr:∀r∈p.rs,r.Ok)(st:St)(hw:Wf st):c 29 [.agg p.cells] st=some (.tuple [.int .i64 (aU p).1,.int .i64 (aU p).2],st):=by
 have oZ:Plain (.tuple [.int .i64 (aU p).1,.int .i64 (aU p).2]):=Plain.tuple (by simp[Plain.int]);have bX:Wf (ah st (.cells p.cells 0)):=bL hw;have KM:=Grew.ah hw (.cells p.cells 0);have fD:(ah st (.cells p.cells 0)).heap.get st.next=some (.cells p.cells 0):=aF _ _;have B:=ad2 hc p hp hR _ bX;rw[LH hc 101 (r:=(.tuple [.int .i64 (aU p).1,.int .i64 (aU p).2],ah st (.cells p.cells 0))),aB oZ KM.keeps];rw[Pg];have L:∀k1 k2,ja c 101 k1 k2 101 [.ptr st.next 0,.int .i64 0] (ah st (.cells p.cells 0))=if(fJ p 100 0).2=0 then k2 [] (ah st (.cells p.cells 0))else k1 [.int .i64 (fJ p 100 0).1,.int .i64 (fJ p 100 0).2] (ah st (.cells p.cells 0)):=
   λk1 k2=>Zi hc p hp hr st.next 101 _ bX fD k1 k2 100 0 (by have:=hp.rs;omega) (by omega) (by omega)
 by_cases h:(fU p).2=0
 . have e:aU p=fJ p 100 0:=(by unfold aU;rw[Zb2 (by simp[h])]);rw[e];by_cases h2:(fJ p 100 0).2=0
   .have:=LD p 100 0 h2;simp[fD,B,h,L,h2,this]
   .simp[fD,B,h,L,h2]
 .have e:aU p=fU p:=(by unfold aU;rw[Zb5 h]);rw[e];simp[fD,B,h]
end
section
open Go Go.Ai Go.Proofs
theorem cB{Q:List AV->Prop}{Qs:List (List AV->Prop)}{ps:List (List AV)}(h:OK (Q::Qs) ps):∃p qs,ps=p::qs/\Q p/\OK Qs qs:=by
 cases ps with
 |nil=>exact h.elim
 |cons p qs=>exact⟨p,qs,rfl,h⟩
theorem Ey{ps:List (List AV)}(h:OK [] ps):ps=[]:=by
 cases ps with
 |nil=>rfl
 |cons p qs=>exact h.elim
section
variable{H:Type}{enc:TypeId×Value->H}{w:World}{base:Nat}{spare:Nat->Bool}{held:Bool}
abbrev nB(enc:TypeId×Value->H)(w:World)(base:Nat)(spare:Nat->Bool)(held:Bool)(t:TypeId)(Q:List AV->Prop):Prop:=kY enc Tryz.prog w base spare held t Q
abbrev sy(k:IntKind)(vs:List AV):Prop:=∃i,vs=[.int k i]/\(Lit.int k i).wf=true
abbrev AR(vs:List AV):Prop:=∃s,vs=[.str s]/\s.length<=maxLen/\∀x∈s,x<256
abbrev ac4(vs:List AV):Prop:=∃b,vs=[.bool b]
theorem Hp:nB enc w base spare held 3 (sy .i64):=Ks (by kernel_rfl)
theorem CZ:nB enc w base spare held 9 AR:=ag1 (by kernel_rfl)
theorem ahu:nB enc w base spare held 4 ac4:=afD (by kernel_rfl)
theorem alv:nB enc w base spare held 42 (sy .u8):=Ks (by kernel_rfl)
theorem o_tk:nB enc w base spare held 64 (sy .u8):=Ks (by kernel_rfl)
theorem o_rk:nB enc w base spare held 46 (sy .u8):=Ks (by kernel_rfl)
abbrev ahv(vs:List AV):Prop:=∃z l,vs=[ints z l]/\l.length<=maxLen
theorem ac5:nB enc w base spare held 25 ahv:=by
 refine kY.mono (vR (es:=1) (Q:=sy .i64) (by kernel_rfl) (by kernel_rfl) (by omega) (λvs h=>by obtain⟨i,rfl,_⟩:=h;rfl) Hp) λvs h=> ?_
 obtain⟨z,rs,rfl,h1,h2⟩:=h;have:∃l:List Int,rs=l.map λi=>[AV.int .i64 i]:=by
  clear h2;induction rs with
  |nil=>exact⟨[],rfl⟩
  |cons r rs ih=>
   obtain⟨i,rfl,_⟩:=h1 r (by simp);obtain⟨l,rfl⟩:=ih (λq hq=>h1 q (Za8 _ hq));exact⟨i::l,rfl⟩
 obtain⟨l,rfl⟩:=this;exact⟨z,l,rfl,by simpa using h2⟩
abbrev ahw(vs:List AV):Prop:=∃z l,vs=[dY z l]/\l.length<=maxLen
theorem amA:nB enc w base spare held 39 ahw:=by
 refine kY.mono (vR (es:=1) (Q:=AR) (by kernel_rfl) (by kernel_rfl) (by omega) (λvs h=>by obtain⟨i,rfl,_⟩:=h;rfl) CZ) λvs h=> ?_
 obtain⟨z,rs,rfl,h1,h2⟩:=h;have:∃l:List (List Nat),rs=l.map λs=>[AV.str s]:=by
  clear h2;induction rs with
  |nil=>exact⟨[],rfl⟩
  |cons r rs ih=>
   obtain⟨i,rfl,_⟩:=h1 r (by simp);obtain⟨l,rfl⟩:=ih (λq hq=>h1 q (Za8 _ hq));exact⟨i::l,rfl⟩
 obtain⟨l,rfl⟩:=this;exact⟨z,l,rfl,by simpa using h2⟩
theorem anz:nB enc w base spare held 44 λvs=>∃t:aH,vs=t.cells/\t.Ok:=by
 refine kY.mono (xW [9,42,3,3,25,3,3] (Qs:=[AR,sy .u8,sy .i64,sy .i64,ahv,sy .i64,sy .i64]) (by kernel_rfl) (by kernel_rfl) (by kernel_rfl) ⟨CZ,alv,Hp,Hp,ac5,Hp,Hp,trivial⟩) λvs h=> ?_
 obtain⟨ps,rfl,m0⟩:=h;obtain⟨p0,q0,rfl,⟨s,rfl,hs,_⟩,m1⟩:=cB m0;obtain⟨p0,q0,rfl,⟨k,rfl,_⟩,m2⟩:=cB m1;obtain⟨p0,q0,rfl,⟨a,rfl,_⟩,m3⟩:=cB m2;obtain⟨p0,q0,rfl,⟨b,rfl,_⟩,m4⟩:=cB m3;obtain⟨p0,q0,rfl,⟨z,l,rfl,hl⟩,m5⟩:=cB m4;obtain⟨p0,q0,rfl,⟨x,rfl,_⟩,m6⟩:=cB m5;obtain⟨p0,q0,rfl,⟨y,rfl,_⟩,m7⟩:=cB m6;obtain rfl:=Ey m7;exact⟨⟨s,k,a,b,z,l,x,y⟩,rfl,⟨by show s.length<cC;unfold maxLen at hs;unfold cC;omega,by show l.length<cC;unfold maxLen at hl;unfold cC;omega⟩⟩
theorem anA:nB enc w base spare held 41 λvs=>∃t:aS,vs=t.cells:=by
 refine kY.mono (xW [9,9,9,3,3,9,4,4,39] (Qs:=[AR,AR,AR,sy .i64,sy .i64,AR,ac4,ac4,ahw]) (by kernel_rfl) (by kernel_rfl) (by kernel_rfl) ⟨CZ,CZ,CZ,Hp,Hp,CZ,ahu,ahu,amA,trivial⟩) λvs h=> ?_
 obtain⟨ps,rfl,m0⟩:=h;obtain⟨p0,q0,rfl,⟨name,rfl,mC,_⟩,m1⟩:=cB m0;obtain⟨p0,q0,rfl,⟨oQ,rfl,hrank,_⟩,m2⟩:=cB m1;obtain⟨p0,q0,rfl,⟨jW,rfl,hcourt,_⟩,m3⟩:=cB m2;obtain⟨p0,q0,rfl,⟨since,rfl,_⟩,m4⟩:=cB m3;obtain⟨p0,q0,rfl,⟨side,rfl,_⟩,m5⟩:=cB m4;obtain⟨p0,q0,rfl,⟨nv,rfl,hdiet,_⟩,m6⟩:=cB m5;obtain⟨p0,q0,rfl,⟨host,rfl⟩,m7⟩:=cB m6;obtain⟨p0,q0,rfl,⟨access,rfl⟩,m8⟩:=cB m7;obtain⟨p0,q0,rfl,⟨ztg,tg,rfl,htg⟩,m9⟩:=cB m8;obtain rfl:=Ey m9;exact⟨⟨name,oQ,jW,since,side,nv,host,access,ztg,tg⟩,rfl⟩
theorem o_ty:nB enc w base spare held 67 λvs=>∃t:Ty,vs=t.cells:=by
 refine kY.mono (xW [9,9,64] (Qs:=[AR,AR,sy .u8]) (by kernel_rfl) (by kernel_rfl) (by kernel_rfl) ⟨CZ,CZ,o_tk,trivial⟩) λvs h=> ?_
 obtain⟨ps,rfl,m0⟩:=h;obtain⟨p0,q0,rfl,⟨a,rfl,ha,_⟩,m1⟩:=cB m0;obtain⟨p0,q0,rfl,⟨b,rfl,hb,_⟩,m2⟩:=cB m1;obtain⟨p0,q0,rfl,⟨k,rfl,hk⟩,m3⟩:=cB m2;obtain rfl:=Ey m3;exact⟨⟨a,b,k⟩,rfl⟩
theorem anB{i:Int}(h:(Lit.int .u8 i).wf=true):0<=i/\i<256:=by
 simp only[Lit.wf,Zb6,Zd1]at h;have h1:IntKind.u8.min=0:=by decide
 have h2:IntKind.u8.max=255:=by decide
 omega
theorem o_rl:nB enc w base spare held 48 λvs=>∃t:Rl,vs=t.cells/\t.Ok:=by
 refine kY.mono (xW [46,3,9,9,9,3] (Qs:=[sy .u8,sy .i64,AR,AR,AR,sy .i64]) (by kernel_rfl) (by kernel_rfl) (by kernel_rfl) ⟨o_rk,Hp,CZ,CZ,CZ,Hp,trivial⟩) λvs h=> ?_
 obtain⟨ps,rfl,m0⟩:=h;obtain⟨p0,q0,rfl,⟨k,rfl,hk⟩,m1⟩:=cB m0;obtain⟨p0,q0,rfl,⟨wt,rfl,_⟩,m2⟩:=cB m1;obtain⟨p0,q0,rfl,⟨a,rfl,ha,_⟩,m3⟩:=cB m2;obtain⟨p0,q0,rfl,⟨b,rfl,hb,_⟩,m4⟩:=cB m3;obtain⟨p0,q0,rfl,⟨t,rfl,ht,_⟩,m5⟩:=cB m4;obtain⟨p0,q0,rfl,⟨n,rfl,_⟩,m6⟩:=cB m5;obtain rfl:=Ey m6;exact⟨⟨k,wt,a,b,t,n⟩,rfl,anB hk⟩
theorem amB:nB enc w base spare held 22 λvs=>∃(z:Bool) (l:List aH),vs=[tabs z l]/\∀t∈l,t.Ok:=by
 refine kY.mono (vR (es:=7) (Q:=(λvs=>∃t:aH,vs=t.cells/\t.Ok)) (by kernel_rfl) (by kernel_rfl) (by omega) (λvs h=>by obtain⟨t,rfl,ht⟩:=h;rfl) anz) λvs h=> ?_
 obtain ⟨z,rs,rfl,h1,h2⟩:=h;have:∃l:List aH,rs=l.map aH.cells/\∀t∈l,t.Ok:=by
  clear h2;induction rs with
  |nil=>exact⟨[],rfl,by simp⟩
  |cons r rs ih=>
   obtain⟨t,rfl,ht⟩:=h1 r (by simp);obtain⟨l,rfl,hl⟩:=ih (λq hq=>h1 q (Za8 _ hq));exact⟨t::l,rfl,λq hq=>by
        rcases Zb4.1 hq with rfl|hq
        .exact ht
        .exact hl q hq⟩
 obtain⟨l,rfl,hl⟩:=this;exact⟨z,l,rfl,hl⟩
theorem amC:nB enc w base spare held 23 λvs=>∃(z:Bool) (l:List aS),vs=[bD z l]:=by
 refine kY.mono (vR (es:=9) (Q:=(λvs=>∃t:aS,vs=t.cells)) (by kernel_rfl) (by kernel_rfl) (by omega) (λvs h=>by obtain⟨t,rfl⟩:=h;rfl) anA) λvs h=> ?_
 obtain⟨z,rs,rfl,h1,h2⟩:=h;have:∃l:List aS,rs=l.map aS.cells:=by
  clear h2;induction rs with
  |nil=>exact⟨[],rfl⟩
  |cons r rs ih=>
   obtain⟨t,rfl⟩:=h1 r (by simp);obtain⟨l,rfl⟩:=ih (λq hq=>h1 q (Za8 _ hq));exact⟨t::l,rfl⟩
 obtain⟨l,rfl⟩:=this;exact⟨z,l,rfl⟩
theorem anC:nB enc w base spare held 24 λvs=>∃(z:Bool) (l:List Ty),vs=[cj z l]:=by
 refine kY.mono (vR (es:=3) (Q:=(λvs=>∃t:Ty,vs=t.cells)) (by kernel_rfl) (by kernel_rfl) (by omega) (λvs h=>by obtain⟨t,rfl⟩:=h;rfl) o_ty) λvs h=> ?_
 obtain⟨z,rs,rfl,h1,h2⟩:=h;have:∃l:List Ty,rs=l.map Ty.cells:=by
  clear h2;induction rs with
  |nil=>exact⟨[],rfl⟩
  |cons r rs ih=>
   obtain⟨t,rfl⟩:=h1 r (by simp);obtain⟨l,rfl⟩:=ih (λq hq=>h1 q (Za8 _ hq));exact⟨t::l,rfl⟩
 obtain⟨l,rfl⟩:=this;exact⟨z,l,rfl⟩
theorem anD:nB enc w base spare held 26 λvs=>∃(z:Bool) (l:List Rl),vs=[dm z l]/\∀t∈l,t.Ok:=by
 refine kY.mono (vR (es:=6) (Q:=(λvs=>∃t:Rl,vs=t.cells/\t.Ok)) (by kernel_rfl) (by kernel_rfl) (by omega) (λvs h=>by obtain⟨t,rfl,ht⟩:=h;rfl) o_rl) λvs h=> ?_
 obtain ⟨z,rs,rfl,h1,h2⟩:=h;have:∃l:List Rl,rs=l.map Rl.cells/\∀t∈l,t.Ok:=by
  clear h2;induction rs with
  |nil=>exact⟨[],rfl,by simp⟩
  |cons r rs ih=>
   obtain⟨t,rfl,ht⟩:=h1 r (by simp);obtain⟨l,rfl,hl⟩:=ih (λq hq=>h1 q (Za8 _ hq));exact⟨t::l,rfl,λq hq=>by
        rcases Zb4.1 hq with rfl|hq
        .exact ht
        .exact hl q hq⟩
 obtain⟨l,rfl,hl⟩:=this;exact⟨z,l,rfl,hl⟩
theorem anE:nB enc w base spare held 28 λvs=>∃p:aP,vs=p.cells/\(∀t∈p.ts,t.Ok)/\∀r∈p.rs,r.Ok:=by
 refine kY.mono (xW [22,23,24,25,26] (Qs:=[_,_,_,_,_]) (by kernel_rfl) (by kernel_rfl) (by kernel_rfl) ⟨amB,amC,anC,ac5,anD,trivial⟩) λvs h=> ?_
 obtain⟨ps,rfl,m0⟩:=h;obtain⟨p0,q0,rfl,⟨z1,l1,rfl,h1⟩,m1⟩:=cB m0;obtain⟨p0,q0,rfl,⟨z2,l2,rfl⟩,m2⟩:=cB m1;obtain⟨p0,q0,rfl,⟨z3,l3,rfl⟩,m3⟩:=cB m2;obtain⟨p0,q0,rfl,⟨z4,l4,rfl,h4⟩,m4⟩:=cB m3;obtain⟨p0,q0,rfl,⟨z5,l5,rfl,h5⟩,m5⟩:=cB m4;obtain rfl:=Ey m5;exact⟨⟨z1,l1,z2,l2,z3,l3,z4,l4,z5,l5⟩,rfl,h1,h5⟩
end
variable{c:aq}
def CP(p:aP)(m:Nat):Bool:=decide (p.ts.length<=m)&&decide (p.gs.length<=m)&&decide (p.ys.length<=m)&&decide (p.cs.length<=m)&&decide (p.rs.length<=m)
theorem amD(hc:Sem c)(p:aP)(m:Nat)(st:St)(hw:Wf st):c 4 [.agg p.cells,.int .i64 (m:Int)] st=some (.bool (CP p m),st):=by
 have hp:=aF st (.cells p.cells 0);rw[Sz hc 1 (r:=(.bool (CP p m),ah st (.cells p.cells 0))),aB (Plain.bool _) (bE hw)];rw[Wk];unfold CP;by_cases h1:p.ts.length<=m
 . by_cases h2:p.gs.length<=m
   . by_cases h3:p.ys.length<=m
     .  by_cases h4:p.cs.length<=m
        .by_cases h5:p.rs.length<=m<;>simp[h1,h2,h3,h4,h5]
        .simp[h1,h2,h3,h4]
     .  simp[h1,h2,h3]
   .simp[h1,h2]
 .simp[h1]
abbrev lim:Nat:=1048576
abbrev dK(i:Int):List AV:=[.int .i64 i]
abbrev sN(s:List Nat):List AV:=[.str s]
def aH.aM(t:aH)(v:AV):List AV:=[.str t.name,.int .u8 t.sh,.int .i64 t.a,.int .i64 t.b,v,.int .i64 t.x,.int .i64 t.y]
theorem aH.Y9(t:aH){v:AV}(h:aV [v]=true):aV (t.aM v)=true:=by
 simp only[aV]at h;unfold aH.aM;simp only[aV,AV.one,h,Ze5,Zg8]at*
structure TS(s0 s:St)(V:AV)(ts:List aH)(rows:List (List AV)):Prop where
 out:Mk 7 s0 s V rows
 len:rows.length=ts.length
 Aa:∀(i:Nat)(t:aH)(r:List AV),ts[i]? =some t->rows[i]? =some r->∃v,r=t.aM v/\Mk 1 s0 s v (t.cD.map dK)/\∀b,bN v=some b->bN V≠some b
structure GS(s0 s:St)(V:AV)(ts:List aS)(rows:List (List AV)):Prop where
 out:Mk 9 s0 s V rows
 len:rows.length=ts.length
 Aa:∀(i:Nat)(t:aS)(r:List AV),ts[i]? =some t->rows[i]? =some r->∃v,r=t.aM v/\Mk 1 s0 s v (t.tg.map sN)/\∀b,bN v=some b->bN V≠some b
structure PS(s0 s:St)(Vs:List AV)(p:aP):Prop where
 aA:Grew s0 s
 all:∃V1 V2 V3 V4 V5 r1 r2,Vs=[V1,V2,V3,V4,V5]/\TS s0 s V1 p.ts r1/\GS s0 s V2 p.gs r2/\Mk 3 s0 s V3 (p.ys.map Ty.cells)/\Mk 1 s0 s V4 (p.cs.map dK)/\Mk 6 s0 s V5 (p.rs.map Rl.cells)
structure aH.Real(t:aH):Prop where
 name:∀x∈t.name,x<256
 cD:t.cD.length<=lim
structure aS.Real(g:aS):Prop where
 name:∀x∈g.name,x<256
 oQ:∀x∈g.oQ,x<256
 jW:∀x∈g.jW,x<256
 nv:∀x∈g.nv,x<256
 tg:g.tg.length<=lim
theorem TS.kZ{s0 s1 s s':St}{V:AV}{ts:List aH}{rows:List (List AV)}(h:TS s1 s V ts rows)(h0:Wf s0)(MO:Grew s0 s1)(hg:Grew s0 s')(hk:∀q b,s1.next.toNat<=q.toNat->s.heap.get q=some b->s'.heap.get q=some b):TS s0 s' V ts rows:=
 ⟨Mk.kZ h.out h0 MO hg hk,h.len,λi t r hi hr=>by obtain⟨v,e1,e2,e3⟩:=h.Aa i t r hi hr;exact⟨v,e1,Mk.kZ e2 h0 MO hg hk,e3⟩⟩
theorem GS.kZ{s0 s1 s s':St}{V:AV}{ts:List aS}{rows:List (List AV)}(h:GS s1 s V ts rows)(h0:Wf s0)(MO:Grew s0 s1)(hg:Grew s0 s')(hk:∀q b,s1.next.toNat<=q.toNat->s.heap.get q=some b->s'.heap.get q=some b):GS s0 s' V ts rows:=
 ⟨Mk.kZ h.out h0 MO hg hk,h.len,λi t r hi hr=>by obtain⟨v,e1,e2,e3⟩:=h.Aa i t r hi hr;exact⟨v,e1,Mk.kZ e2 h0 MO hg hk,e3⟩⟩
structure aP.Real(p:aP):Prop where
 ts:p.ts.length<=1000
 tab:∀t∈p.ts,t.Real
 gs:p.gs.length<=1000
 bT:∀t∈p.gs,t.Real
 ys:p.ys.length<=lim
 cs:p.cs.length<=lim
 rs:p.rs.length<=lim
theorem af2(z:Bool)(l:List Ty):cU 3 (cj z l):=cU.ro λr hr v hv=>by simp only[Zd0]at hr;obtain⟨g,_,rfl⟩:=hr;simp only[Ty.cells,Zb4,Zc8,Zg9]at hv;rcases hv with rfl|rfl|rfl<;>first|exact cU.str _|exact cU.int _ _
theorem pO{R:Type}{p:Pos}{o:Nat}{h:T AB}{v:AV}(hv:((cellsOf (h.get p)).bind λcs=>cs[o]?)=some v)(ok:AV->Bool)(cR:ok v=true)(K:AV->Option R):kB (.load none) [.ptr p o] h ok K=K v:=by
 unfold kB;have e:aJ.run (λ_=>none) .h (.load none) [.ptr p o]=none:=rfl;rw[e];simp only;rw[qP,hv];simp only[Zd8];rw[cR]
theorem jr{p:Pos}{o:Nat}{h:T AB}{v:AV}(hv:((cellsOf (h.get p)).bind λcs=>cs[o]?)=some v)(hb:dO v v=true):jA (.load none) [.ptr p o] v (jU [] h)=true:=by unfold jA;show(match aJ.run (λb=>h.get b) .h (.load none) [.ptr p o]with|some (.val u)=>dO u v|_=>false)=true;rw[qP,hv];exact hb
abbrev Sm(v:Int):Prop:=0<=v/\v<=1000000
def af3(a x y:Int):Bool:=decide (y - x=1)||decide (y - x=a - 1)
def af4(a x y:Int):Bool:=decide (a.tmod 2=0)&&decide (y - x=a.tdiv 2)
def FL(a b:Int):Int:=a+min b 1
def af5(a b x y:Int):Bool:=
 bif decide (b=2)&&decide (y=2*a+1)then decide (x=0)||decide (x=y - 1)
 else bif decide (0<b)&&(decide (x=a)||decide (y=a))then decide (y - x=1)else decide (y - x=1)&&(decide (y<a)||decide (FL a b<=x))
def af6(a b x y:Int):Bool:=bif decide (b=2)&&decide (y=2*a+1)then decide (x=a)else decide (x<a)&&decide (x+y=FL a b+a - 1)
def af7(x y:Int):Bool:=decide (y - x=1)
def af8(a b x y:Int):Bool:=decide (x<b)&&decide (x+y=a+2*b - 1)
def af9(b x y:Int):Bool:=decide (y - x=1)&&(decide (b=0)|| !decide (y.tmod b=0))
theorem Zj(hc:Sem c)(a b x y:Int)(ha:Sm a)(hx:Sm x)(hy:Sm y)(st:St):
  c 212 [.int .i64 a,.int .i64 b,.int .i64 x,.int .i64 y] st=some (.bool (af3 a x y),st):=by
 have w1:az .i64 (y - x)=y - x:=wrap64 (by omega) (by omega);have w2:az .i64 (a - 1)=a - 1:=wrap64 (by omega) (by omega);rw[Ph hc 1 (r:=(.bool (af3 a x y),st)),aB (Plain.bool _) (bf.refl st)];rw[SA];unfold af3;cases h:decide (y - x=1)<;>simp[w1,w2,h]
theorem Zk(hc:Sem c)(a b x y:Int)(ha:Sm a)(hx:Sm x)(hy:Sm y)(st:St):
  c 213 [.int .i64 a,.int .i64 b,.int .i64 x,.int .i64 y] st=some (.bool (af4 a x y),st):=by
 have w1:az .i64 (y - x)=y - x:=wrap64 (by omega) (by omega);have hq:0<=a.tdiv 2/\a.tdiv 2<=1000000:=by rw[Zh3 ha.1];omega
 have w2:az .i64 (a.tdiv 2)=a.tdiv 2:=wrap64 (by omega) (by omega);rw[Pj hc 1 (r:=(.bool (af4 a x y),st)),aB (Plain.bool _) (bf.refl st)];rw[SB];unfold af4;cases h:decide (a.tmod 2=0)<;>simp[w1,w2,h]
theorem aeM(hc:Sem c)(a b:Int)(ha:Sm a)(hb:Sm b)(st:St):c 256 [.int .i64 a,.int .i64 b] st=some (.int .i64 (FL a b),st):=by
 have w1:az .i64 (a+min b 1)=a+min b 1:=wrap64 (by omega) (by omega);rw[ac6 hc 1 (r:=(.int .i64 (FL a b),st)),aB (Plain.int _ _) (bf.refl st)];rw[aga];unfold FL;simp[w1]
theorem aaR (hc:Sem c)(a b x y:Int)(ha:Sm a)(hb:Sm b)(hx:Sm x)(hy:Sm y)(st:St):
   c 217 [.int .i64 a,.int .i64 b,.int .i64 x,.int .i64 y] st=some (.bool (af5 a b x y),st):=by
 have w1:az .i64 (y - x)=y - x:=wrap64 (by omega) (by omega);have w2:az .i64 (y - 1)=y - 1:=wrap64 (by omega) (by omega);have w3:az .i64 (2*a)=2*a:=wrap64 (by omega) (by omega);have w4:az .i64 (2*a+1)=2*a+1:=wrap64 (by omega) (by omega);have t:=aeM hc a b ha hb st;rw[Q0 hc 1 (r:=(.bool (af5 a b x y),st)),aB (Plain.bool _) (bf.refl st)];rw[Uu];unfold af5;cases h1:decide (b=2)
 . cases  h4:decide (0<b)
   . cases h7:decide (y - x=1)
     .  simp[w1,w2,w3,w4,t,h1,h4,h7]
     .  cases h8:decide (y<a)<;>simp[w1,w2,w3,w4,t,h1,h4,h7,h8]
   . cases h5:decide (x=a)
     .  cases h6:decide (y=a)
        . cases h7:decide (y - x=1)
          .simp[w1,w2,w3,w4,t,h1,h4,h5,h6,h7]
          .cases h8:decide (y<a)<;>simp[w1,w2,w3,w4,t,h1,h4,h5,h6,h7,h8]
        .simp[w1,w2,w3,w4,t,h1,h4,h5,h6]
     .  simp[w1,w2,w3,w4,t,h1,h4,h5]
 . cases  h2:decide (y=2*a+1)
   . cases  h4:decide (0<b)
     .  simp at h1 h4;omega
     .  cases h5:decide (x=a)
        . cases h6:decide (y=a)
          . cases h7:decide (y - x=1)
            .simp[w1,w2,w3,w4,t,h1,h2,h4,h5,h6,h7]
            .cases h8:decide (y<a)<;>simp[w1,w2,w3,w4,t,h1,h2,h4,h5,h6,h7,h8]
          .simp[w1,w2,w3,w4,t,h1,h2,h4,h5,h6]
        .simp[w1,w2,w3,w4,t,h1,h2,h4,h5]
   .cases h3:decide (x=0)<;>simp[w1,w2,w3,w4,t,h1,h2,h3]
theorem aaS(hc:Sem c)(a b x y:Int)(ha:Sm a)(hb:Sm b)(hx:Sm x)(hy:Sm y)(st:St):
   c 218 [.int .i64 a,.int .i64 b,.int .i64 x,.int .i64 y] st=some (.bool (af6 a b x y),st):=by
 have w1:az .i64 (x+y)=x+y:=wrap64 (by omega) (by omega);have w3:az .i64 (2*a)=2*a:=wrap64 (by omega) (by omega);have w4:az .i64 (2*a+1)=2*a+1:=wrap64 (by omega) (by omega);have hT:0<=FL a b/\FL a b<=1000001:=by unfold FL;omega
 have w5:az .i64 (FL a b+a)=FL a b+a:=wrap64 (by omega) (by omega);have w6:az .i64 (FL a b+a - 1)=FL a b+a - 1:=wrap64 (by omega) (by omega);have t:=aeM hc a b ha hb st;rw[Q3 hc 1 (r:=(.bool (af6 a b x y),st)),aB (Plain.bool _) (bf.refl st)];rw[Uv];unfold af6;cases h1:decide (b=2)
 .cases h3:decide (x<a)<;>simp[w1,w3,w4,w5,w6,t,h1,h3]
 . cases h2:decide (y=2*a+1)
   .cases h3:decide (x<a)<;>simp[w1,w3,w4,w5,w6,t,h1,h2,h3]
   .simp[w1,w3,w4,t,h1,h2]
theorem aaT(hc:Sem c)(a b x y:Int)(hx:Sm x)(hy:Sm y)(st:St):
  c 222 [.int .i64 a,.int .i64 b,.int .i64 x,.int .i64 y] st=some (.bool (af7 x y),st):=by
 have w1:az .i64 (y - x)=y - x:=wrap64 (by omega) (by omega);rw[Q4 hc 1 (r:=(.bool (af7 x y),st)),aB (Plain.bool _) (bf.refl st)];rw[Uw];unfold af7;simp[w1]
theorem aaU(hc:Sem c)(a b x y:Int)(ha:Sm a)(hb:Sm b)(hx:Sm x)(hy:Sm y)(st:St):
  c 223 [.int .i64 a,.int .i64 b,.int .i64 x,.int .i64 y] st=some (.bool (af8 a b x y),st):=by
 have w1:az .i64 (x+y)=x+y:=wrap64 (by omega) (by omega);have w2:az .i64 (2*b)=2*b:=wrap64 (by omega) (by omega);have w3:az .i64 (a+2*b)=a+2*b:=wrap64 (by omega) (by omega);have w4:az .i64 (a+2*b - 1)=a+2*b - 1:=wrap64 (by omega) (by omega);rw[Q5 hc 1 (r:=(.bool (af8 a b x y),st)),aB (Plain.bool _) (bf.refl st)];rw[Ux];unfold af8;cases h:decide (x<b)<;>simp[w1,w2,w3,w4,h]
theorem ac7(hc:Sem c)(a b x y:Int)(hx:Sm x)(hy:Sm y)(st:St):
   c 227 [.int .i64 a,.int .i64 b,.int .i64 x,.int .i64 y] st=some (.bool (af9 b x y),st):=by
 have w1:az .i64 (y - x)=y - x:=wrap64 (by omega) (by omega);rw[SC hc 1 (r:=(.bool (af9 b x y),st)),aB (Plain.bool _) (bf.refl st)];rw[Wl];unfold af9;cases h:decide (y - x=1)
 .simp[w1,h]
 . cases h2:decide (b=0)
   .have hb:b≠0:=(by simpa using h2);simp[w1,h,h2,aeB _ _ _ _ _ _ _ hb]
   .simp[w1,h,h2]
theorem anF(hc:Sem c)(a b x y:Int)(st:St):c 228 [.int .i64 a,.int .i64 b,.int .i64 x,.int .i64 y] st=some (.bool false,st):=by rw[Q6 hc 1 (r:=(.bool false,st)),aB (Plain.bool _) (bf.refl st)];rw[Uy];simp
structure aH.Fit(t:aH):Prop where
 sh:1<=t.sh/\t.sh<=4
 a:0<=t.a/\t.a<=24
 b:0<=t.b/\t.b<=24
theorem X3{t:aH}(h:aY t≠0):t.Fit:=by
 unfold aY at h;split at h
 . split at h
   .exact⟨by omega,by omega,by omega⟩
   .exact absurd rfl h
 split at h
 . split at h
   .exact⟨by omega,by omega,by omega⟩
   .exact absurd rfl h
 split at h
 . split at h
   .exact⟨by omega,by omega,by omega⟩
   .exact absurd rfl h
 split at h
 . split at h
   .exact⟨by omega,by omega,by omega⟩
   .exact absurd rfl h
 .exact absurd rfl h
def Pk(t:aH)(x y:Int):Bool:=
 !decide (x=y)&&(if t.sh=1 then af3 t.a (min x y) (max x y)else if t.sh=2 then af5 t.a t.b (min x y) (max x y)else if t.sh=3 then af7 (min x y) (max x y)else af9 t.b (min x y) (max x y))
def SD(t:aH)(x y:Int):Bool:=
 !decide (x=y)&&(if t.sh=1 then af4 t.a (min x y) (max x y)else if t.sh=2 then af6 t.a t.b (min x y) (max x y)else if t.sh=3 then af8 t.a t.b (min x y) (max x y)else false)
def ym(t:aH)(x y:Int):Bool:=Pk t x y||SD t x y
theorem ahx(hc:Sem c)(t:aH)(ht:t.Fit)(x y:Int)(hx:Sm x)(hy:Sm y)(st:St)(hw:Wf st):
   c 118 [.agg t.cells,.int .i64 x,.int .i64 y] st=some (.bool (Pk t x y),st):=by
 have hm:Sm (min x y):=by omega
 have hM:Sm (max x y):=by omega
 obtain⟨⟨s1,s2⟩,⟨a1,a2⟩,b1,b2⟩:=ht;rw[X4 hc 1 (r:=(.bool (Pk t x y),ah (ah st (.cells t.cells 0)) (.cells (gQ t.sh) 0))),aB (Plain.bool _) ((bE hw).trans (bE (bL hw)))];rw[aaV];obtain⟨name,sh,a,b,oz,cD,tx,ty⟩:=t;simp only at s1 s2 a1 a2 b1 b2;have ha:Sm a:=by omega
 have hb:Sm b:=by omega
 have hS:sh=1\/sh=2\/sh=3\/sh=4:=by omega
 cases h:decide (x=y)
 . rcases hS with rfl|rfl|rfl|rfl
   .simp[aH.cells,AV.cells,fy hc,hw,Pk,gQ,aV,AV.one,h,Zj hc a b _ _ ha hm hM]
   .simp[aH.cells,AV.cells,fy hc,hw,Pk,gQ,aV,AV.one,h,aaR hc a b _ _ ha hb hm hM]
   .simp[aH.cells,AV.cells,fy hc,hw,Pk,gQ,aV,AV.one,h,aaT hc a b _ _ hm hM]
   .simp[aH.cells,AV.cells,fy hc,hw,Pk,gQ,aV,AV.one,h,ac7 hc a b _ _ hm hM]
 .rcases hS with rfl|rfl|rfl|rfl<;>simp[aH.cells,AV.cells,fy hc,hw,Pk,gQ,aV,AV.one,h]
theorem ahy(hc:Sem c)(t:aH)(ht:t.Fit)(x y:Int)(hx:Sm x)(hy:Sm y)(st:St)(hw:Wf st):
   c 119 [.agg t.cells,.int .i64 x,.int .i64 y] st=some (.bool (SD t x y),st):=by
 have hm:Sm (min x y):=by omega
 have hM:Sm (max x y):=by omega
 obtain⟨⟨s1,s2⟩,⟨a1,a2⟩,b1,b2⟩:=ht;rw[X5 hc 1 (r:=(.bool (SD t x y),ah (ah st (.cells t.cells 0)) (.cells (gQ t.sh) 0))),aB (Plain.bool _) ((bE hw).trans (bE (bL hw)))];rw[aaW];obtain⟨name,sh,a,b,oz,cD,tx,ty⟩:=t;simp only at s1 s2 a1 a2 b1 b2;have ha:Sm a:=by omega
 have hb:Sm b:=by omega
 have hS:sh=1\/sh=2\/sh=3\/sh=4:=by omega
 cases h:decide (x=y)
 . rcases hS with rfl|rfl|rfl|rfl
   .simp[aH.cells,AV.cells,fy hc,hw,SD,gQ,aV,AV.one,h,Zk hc a b _ _ ha hm hM]
   .simp[aH.cells,AV.cells,fy hc,hw,SD,gQ,aV,AV.one,h,aaS hc a b _ _ ha hb hm hM]
   .simp[aH.cells,AV.cells,fy hc,hw,SD,gQ,aV,AV.one,h,aaU hc a b _ _ ha hb hm hM]
   .simp[aH.cells,AV.cells,fy hc,hw,SD,gQ,aV,AV.one,h,anF hc]
 .rcases hS with rfl|rfl|rfl|rfl<;>simp[aH.cells,AV.cells,fy hc,hw,SD,gQ,aV,AV.one,h]
theorem alw(hc:Sem c)(t:aH)(ht:t.Fit)(x y:Int)(hx:Sm x)(hy:Sm y)(st:St)(hw:Wf st):
  c 231 [.agg t.cells,.int .i64 x,.int .i64 y] st=some (.bool (ym t x y),st):=by
 have hp:=aF st (.cells t.cells 0);have B:=ahx hc t ht x y hx hy _ (bL (b:= .cells t.cells 0) hw);have A:=ahy hc t ht x y hx hy _ (bL (b:= .cells t.cells 0) hw);rw[aaX hc 1 (r:=(.bool (ym t x y),ah st (.cells t.cells 0))),aB (Plain.bool _) (bE hw)];rw[ad5];unfold ym;cases h:Pk t x y<;>simp[hp,B,A,h,aH.len]
theorem Ve(ts:List aH):∀(m k:Nat),ts.length<=k+m->(dW ts m k).2=0->∀(i:Nat)(t:aH),k<=i->ts[i]? =some t->mP t=0
 |0,k,h1,_,i,t,h3,h4=>by rw[Zc6 (by omega)]at h4;cases h4
 |m +   1,k,h1,h2,i,t,h3,h4=>by
  have hk:k<ts.length:=by have:=(Za4.1 h4).1;omega
  rw[dW,Za0 hk]at h2;simp only at h2;by_cases h5:mP ts[k]=0
  . rw[Zb2 (by simpa using h5)]at h2;split at h2
    .   simp at h2
    .   by_cases h6:i=k
        .subst h6;rw[Za0 hk]at h4;cases h4;exact h5
        .exact Ve ts m (k+1) (by omega) h2 i t (by omega) h4
  .rw[Zb5 h5]at h2;exact absurd h2 h5
theorem KQ{ts:List aH}(h:(bJ ts).2=0){i:Nat}{t:aH}(ht:ts[i]? =some t):mP t=0:=by
 unfold bJ at h;split at h
 .simp at h
 .exact Ve ts _ 0 (by omega) h i t (by omega) ht
theorem SE{t:aH}(h:mP t=0):aY t≠0:=by
 unfold mP at h;split at h
 .cases h
 . split at h
   .cases h
   .assumption
def yo(x:Int):List Int->Nat->Int
 |[],_=> -1
 |y::l,i=>if x=y then(i:Int)else yo x l (i+1)
theorem aeN{x:Int}:∀(l:List Int)(i:Nat),(0<=yo x l i)↔x∈l
 |[],i=>by simp[yo]
 |y::l,i=>by
  unfold yo;by_cases h:x=y
  .simp[h]
  .rw[Zb2 h,aeN l (i+1)];simp[h]
theorem ahz(x:Int)(z:Bool)(l:List Int)(hl:l.length<cC)(F:Nat)(st:St)(k1 k2):∀(m k:Nat),l.length<=k+m->k<=l.length->
  jK c F k1 k2 (m+1) [ints z l,.int .i64 x,.int .i64 (l.length:Int),.int .i64 (k:Int)] st=
    if 0<=yo x (l.drop k) k then k1 [.int .i64 (yo x (l.drop k) k)] st else k2 [] st:=by
 intro m;induction m with
 |zero=>
  intro k h1 h2;obtain rfl:k=l.length:=by omega
  rw[xz];simp[yo]
 |succ m ih=>
  intro k h1 h2;rw[xz];by_cases h:k<l.length
  . have w:az .i64 ((k:Int)+1)=((k+1:Nat):Int):=wrap64 (by omega) (by unfold cC at hl;omega);rw[Zd2 h,yo];by_cases h3:x=l[k]
    .   subst h3;simp[ints,h]
    .   have:=ih (k+1) (by omega) (by omega);simp only[h3,Ze8];rw[<-this];simp[ints,h,h3,w]
  .obtain rfl:k=l.length:=(by omega);simp[yo]
theorem ahA(hc:Sem c)(z:Bool)(l:List Int)(hl:l.length<cC)(x:Int)(st:St):c 92 [ints z l,.int .i64 x] st=some (.int .i64 (yo x l 0),st):=by
 have lI:∀(K:AV->St->Option (AV×St))(s:St),aj c (.lenB .l) [ints z l] s K=K (.int .i64 (l.length:Int)) s:=λK s=>by unfold ints;rw[dh];simp
 have L:=λk1 k2=>ahz (c:=c) x z l hl (l.length+1) st k1 k2 l.length 0 (by omega) (by omega)
 simp only[Zf4]at L;rw[IK hc (l.length+1) (r:=(.int .i64 (yo x l 0),st)),aB (Plain.int _ _) (bf.refl st)];rw[LJ];simp only[ai,lI];rw[show(0:Int)=((0:Nat):Int)from rfl,L];by_cases h:0<=yo x l 0
 .simp[h]
 . have:yo x l 0= -1:=by
    have:∀(l:List Int)(i:Nat),0<=yo x l i\/yo x l i= -1:=by
        intro l;induction l with
        |nil=>intro i;exact .inr rfl
        |cons y l ih=>intro i;unfold yo;split;exact .inl (by omega);exact ih _
    exact(this l 0).resolve_left h
   simp[h,this]
theorem ac8(hc:Sem c)(z:Bool)(l:List Int)(hl:l.length<cC)(x:Int)(st:St):c 43 [ints z l,.int .i64 x] st=some (.bool (decide (x∈l)),st):=by
 rw[Fj hc 1 (r:=(.bool (decide (x∈l)),st)),aB (Plain.bool _) (bf.refl st)];rw[Hq];have e:decide (0<=yo x l 0)=decide (x∈l):=by rw[decide_eq_decide];exact aeN l 0
 simp[ahA hc z l hl x st,e]
abbrev ac9(m:Nat):List AV:=[.int .i64 (m:Int)]
abbrev cI(i:Int):AV:= .int .i64 i
def j8(nr:Nat->Bool)(k:Nat):List Nat->List Int->List Nat->List Int×List Nat
 |[],o,q=>(o,q)
 |m::ms,o,q=>if o.getD m 0<0/\nr m=true then j8 nr k ms (o.set m (o.getD k 0+1)) (q++[m])else j8 nr k ms o q
def C0(nr:Nat->Nat->Bool)(n:Nat):Nat->List Int->List Nat->List Int
 |0,o,_=>o
 |_+1,o,[]=>o
 |f+1,o,k::q=>C0 nr n f (j8 (nr k) k (List.range n) o q).1 (j8 (nr k) k (List.range n) o q).2
structure SI(s0 s:St)(pt po:Pos)(t:aH)(n:Nat)(o:List Int)(qv:AV)(q:List Nat)(B:Int):Prop where
 tZ:Wf s0
 aA:Grew s0 s
 tab:s.heap.get pt=some (.cells t.cells 0)
 out:s.heap.get po=some (.cells (o.map cI) 0)
 len:o.length=n
 que:QS 1 s qv (q.map ac9)
 ne1:bN qv≠some pt
 ne2:bN qv≠some po
 ne3:pt≠po
 ajM:s0.next.toNat<=pt.toNat
 agb:s0.next.toNat<=po.toNat
 Pm:∀b,bN qv=some b->s0.next.toNat<=b.toNat
 small:∀v∈o,-1<=v/\v<=B
 qlt:∀m∈q,m<n
theorem Hr(o:List Int)(j:Nat)(h:j<o.length)(v:Int):aZ (o.map cI) j [cI v]=(o.set j v).map cI:=by unfold aZ;rw[List.map_set,Zm8,Zb5 (by simpa using h)];simp
theorem alx (hc:Sem c){s0:St}{pt po:Pos}{t:aH}(ht:t.Fit){n:Nat}(hn:n<=1000){k:Nat}(hk:k<n){B:Int}(hB:B<=1000000)(F:Nat)(k6):
  ∀ (r j f:Nat)(s:St)(o:List Int)(qv:AV)(q:List Nat),r<f->j+r=n->SI s0 s pt po t n o qv q (B+1)->o.getD k 0<=B->0<=o.getD k 0->q.length<=4000+j->
    ∃   s' qv',SI s0 s' pt po t n (j8 (λm=>ym t k m) k (List.range' j r) o q).1 qv' (j8 (λm=>ym t k m) k (List.range' j r) o q).2 (B+1)/\
        qG c F k6 f [.ptr pt 0,.slice po 0 n (some n) 1,qv,.int .i64 (k:Int),.slice po 0 n (some n) 1,.int .i64 (n:Int),.int .i64 (j:Int)] s=k6 [.ptr pt 0,.slice po 0 n (some n) 1,qv'] s':=by
 intro r;induction r with
 |zero=>
  intro j f s o qv q hf h1 hI rU Fk hq;obtain⟨g,rfl⟩:∃g,f=g+1:=⟨f - 1,by omega⟩
  obtain rfl:j=n:=by omega
  refine⟨s,qv,hI,?_⟩;rw[xA];simp
 |succ r ih=>
  intro j f s o qv q hf h1 hI rU Fk hq;obtain⟨g,rfl⟩:∃g,f=g+1:=⟨f - 1,by omega⟩
  have hj:j<n:=by omega
  have hjo:j<o.length:=by rw[hI.len];exact hj
  have Qd:k<o.length:=by rw[hI.len];exact hk
  have hw:=hI.aA.wf;have w:az .i64 ((j:Int)+1)=((j+1:Nat):Int):=wrap64 (by omega) (by omega);have N:=alw hc t ht k j ⟨by omega,by omega⟩ ⟨by omega,by omega⟩ s hw;have ix:∀(i:Nat),i<n->∀(K:AV->St->Option (AV×St))(s1:St),aj c (.idxA 1 none) [.slice po 0 n (some n) 1,.int .i64 (i:Int)] s1 K=K (.ptr po i) s1:=λi hi K s1=>by rw[xX c K s1 hi];simp
  have ixj:=ix j hj;have ixk:=ix k hk;have gj:(o.map cI)[j]? =some (.int .i64 o[j]):=by rw[Zc3,Za0 hjo];rfl
  have gk:(o.map cI)[k]? =some (.int .i64 o[k]):=by rw[Zc3,Za0 Qd];rfl
  have ej:o.getD j 0=o[j]:=by simp[List.getD,Za0 hjo]
  have ek:o.getD k 0=o[k]:=by simp[List.getD,Za0 Qd]
  have tb:=hI.tab;have ou:=hI.out;rw[Zq7];by_cases hd:o[j]<0
  . cases   hb:ym t k j with
    |   true=>
        have e:j8 (λm=>ym t k m) k (j::List.range' (j+1) r) o q=j8 (λm=>ym t k m) k (List.range' (j+1) r) (o.set j (o[k]+1)) (q++[j]):=by
         rw[j8,Zb5 ⟨by rw[ej];exact hd,hb⟩,ek]
        have w2:az .i64 (o[k]+1)=o[k]+1:=wrap64 (by omega) (by omega);have SG:=hw _ _ ou;have nj:∀(K:AV->St->Option (AV×St)),aj c (.store 1) [.ptr po j,.int .i64 (o[k]+1)] s K=K .undef (bI s po (.cells ((o.set j (o[k]+1)).map cI) 0)):=λK=>by rw[dz c K s 1 po j (.int .i64 (o[k]+1)) (o.map cI) ou rfl (by simp;omega) rfl, <-Hr o j hjo];rfl
        have bX:Wf (bI s po (.cells ((o.set j (o[k]+1)).map cI) 0)):=jI hw SG;have q1:QS 1 (bI s po (.cells ((o.set j (o[k]+1)).map cI) 0)) qv (q.map ac9):=hI.que.mono λb x hb hx=>by rw[aO (λe=>hI.ne2 (by rw[hb,e]))];exact hx
        obtain⟨s5,v5,a1,a2,a3,a4,a5,a6⟩:=q1.push (c:=c) (R:=AV×St) (bytes:=8) bX (λr hr=>by simp only[Zd0]at hr;obtain⟨m,_,rfl⟩:=hr;rfl) (z:=[.int .i64 0]) (x:= .int .i64 (j:Int)) rfl rfl rfl (by decide) (by simp;omega) (by simp;omega);have t5:s5.heap.get pt=some (.cells t.cells 0):=a5 pt _ hI.ne1 (by rw[aO (λe=>hI.ne3 e.symm)];exact tb);have o5:s5.heap.get po=some (.cells ((o.set j (o[k]+1)).map cI) 0):=a5 po _ hI.ne2 (cW _ _ _);have g5:Grew s0 s5:=⟨a3,λp b hg=>by
         have h0:=hI.tZ _ _ hg;refine a5 p b (λe=> ?_) ?_
         .  have:=hI.Pm p e;omega
         .  rw[aO (λe=>by have:=hI.agb;rw[e]at this;omega)];exact hI.aA.get hg,Zb7 hI.aA.next (by rw[eB]at a4;exact a4)⟩
        have I5:SI s0 s5 pt po t n (o.set j (o[k]+1)) v5 (q++[j]) (B+1):=by
         refine⟨hI.tZ,g5,t5,o5,by simp[hI.len],by rw[Ze2];exact a2,λe=> ?_,λe=> ?_,hI.ne3,hI.ajM,hI.agb,λb e=> ?_,λv hv=> ?_,λm hm=> ?_⟩
         .  have:=a6 _ e;rw[eB]at this;have:=hw _ _ tb;omega
         .  have:=a6 _ e;rw[eB]at this;omega
         .  have:=a6 _ e;rw[eB]at this;have:=hI.aA.next;omega
         .  rcases Zk6 hv with h|h
            .exact hI.small v h
            .subst h;omega
         .  rcases Ze7.1 hm with h|h
            .exact hI.qlt m h
            .simp at h;omega
        have hkj:j≠k:=λe=>by subst e;omega
        have ek5:(o.set j (o[k]+1)).getD k 0=o[k]:=(by simp[List.getD,Zg2 hkj,Za0 Qd]);obtain⟨s',qv',b1,b2⟩:=ih (j+1) g s5 _ v5 (q++[j]) (by omega) (by omega) I5 (by rw[ek5];omega) (by rw[ek5];omega) (by simp;omega);rw[e];refine⟨s',qv',b1,?_⟩;rw[<-b2,xA];rw[hb]at N;simp[-eo,-List.map_set,bO,hj,ixj,ixk,tb,ou,gj,gk,hd,N,aH.len,w2,nj,a1,w]
    |   false=>
        have e:j8 (λm=>ym t k m) k (j::List.range' (j+1) r) o q=j8 (λm=>ym t k m) k (List.range' (j+1) r) o q:=by
         rw[j8,Zb2 (by rw[hb];simp)]
        obtain⟨s',qv',b1,b2⟩:=ih (j+1) g s _ qv q (by omega) (by omega) hI rU Fk (by omega);rw[e];refine⟨s',qv',b1,?_⟩;rw[<-b2,xA];rw[hb]at N;simp[bO,hj,ixj,tb,ou,gj,hd,N,aH.len,w]
  . have e:j8 (λm=>ym t k m) k (j::List.range' (j+1) r) o q=j8 (λm=>ym t k m) k (List.range' (j+1) r) o q:=by
        rw[j8,Zb2 (by rw[ej];simp[hd])]
    obtain⟨s',qv',b1,b2⟩:=ih (j+1) g s _ qv q (by omega) (by omega) hI rU Fk (by omega);rw[e];refine⟨s',qv',b1,?_⟩;rw[<-b2,xA];simp[bO,hj,ixj,tb,ou,gj,hd,w]
def neg(o:List Int):Nat:=o.countP λv=>decide (v<0)
theorem aly{o:List Int}{m:Nat}{v:Int}(h:m<o.length)(h1:o[m]<0)(h2:0<=v):neg (o.set m v)+1=neg o:=by
 unfold neg;rw[List.countP_set h];have a:(decide (o[m]<0))=true:=by simpa using h1
 have b:(decide (v<0))=false:=by simp;omega
 simp only[a,b,Zg7,Zd3,Ze8];have:0<o.countP λv=>decide (v<0):=List.countP_pos_iff.2 ⟨o[m],Zc0 h,a⟩
 omega
theorem Hs(nr:Nat->Bool)(k:Nat):∀(ms:List Nat)(o:List Int)(q:List Nat),(∀m∈ms,m<o.length)->0<=o.getD k 0->(∀m∈q,0<=o.getD m 0)->
  2*neg (j8 nr k ms o q).1+(j8 nr k ms o q).2.length<=2*neg o+q.length/\(j8 nr k ms o q).1.length=o.length/\(∀m∈(j8 nr k ms o q).2,0<=(j8 nr k ms o q).1.getD m 0)/\(∀m,0<=o.getD m 0->(j8 nr k ms o q).1.getD m 0=o.getD m 0)
 |[],o,q,_,_,h=>⟨Za6 _,rfl,h,λ_ _=>rfl⟩
 |m ::ms,o,q,hm,hk,h=>by
  have hmo:=hm m (by simp);by_cases hc:o.getD m 0<0/\nr m=true
  . (rw[j8,Zb5 hc];have em:o.getD m 0=o[m]:=(by simp[List.getD,Za0 hmo]);have cA:∀i,0<=o.getD i 0->m≠i:=λi hi e=>by subst e;omega);have get:∀i,m≠i->(o.set m (o.getD k 0+1)).getD i 0=o.getD i 0:=λi hi=>by simp[List.getD,Zg2 hi]
    have gm:(o.set m (o.getD k 0+1)).getD m 0=o.getD k 0+1:=(by simp[List.getD,hmo]);obtain⟨a1,a2,a3,a4⟩:=Hs nr k ms (o.set m (o.getD k 0+1)) (q++[m]) (λi hi=>by simpa using hm i (Za8 _ hi)) (by rw[get k (cA k hk)];exact hk) (λi hi=>by
        rcases Ze7.1 hi with hi|hi
        .rw[get i (cA i (h i hi))];exact h i hi
        .simp at hi;subst hi;rw[gm];omega)
    have hs:=aly hmo (by rw[<-em];exact hc.1) (show 0<=o.getD k 0+1 by omega);refine⟨by simp only[Zc9,Zc2,Zi6]at a1;omega,by simpa using a2,a3,λi hi=> ?_⟩;rw[a4 i (by rw[get i (cA i hi)];exact hi),get i (cA i hi)]
  .rw[j8,Zb2 hc];exact Hs nr k ms o q (λi hi=>hm i (Za8 _ hi)) hk h
theorem SI.le{s0 s:St}{pt po:Pos}{t:aH}{n:Nat}{o:List Int}{qv:AV}{q:List Nat}{B B':Int}(h:SI s0 s pt po t n o qv q B)(hB:B<=B'):SI s0 s pt po t n o qv q B':=
 ⟨h.tZ,h.aA,h.tab,h.out,h.len,h.que,h.ne1,h.ne2,h.ne3,h.ajM,h.agb,h.Pm,λv hv=>⟨(h.small v hv).1,by have:=(h.small v hv).2;omega⟩,h.qlt⟩
theorem ajN(hc:Sem c){s0:St}{pt po:Pos}{t:aH}(ht:t.Fit){n:Nat}(hn:n<=1000)(F:Nat)(hF:n<F)(k4):
  ∀(f:Nat)(g:Nat)(s:St)(o:List Int)(qv:AV)(q:List Nat)(B:Int),f<g->SI s0 s pt po t n o qv q B->2*neg o+q.length<=f->B+f<=1000000->0<=B->f<=3000->(∀m∈q,0<=o.getD m 0)->
   ∃    s',Grew s0 s'/\s'.heap.get po=some (.cells ((C0 (λk m=>ym t k m) n f o q).map cI) 0)/\(C0 (λk m=>ym t k m) n f o q).length=n/\
        nX c F k4 g [.ptr pt 0,.slice po 0 n (some n) 1,qv] s=k4 [.slice po 0 n (some n) 1] s':=by
 intro f;induction f with
 |zero=>
  intro g s o qv q B hg hI h1 h2 h3 h4 h5;obtain⟨g,rfl⟩:∃g',g=g'+1:=⟨g - 1,by omega⟩
  have hq:q=[]:=Zc1 (by omega);subst hq;refine⟨s,hI.aA,hI.out,hI.len,?_⟩;have hl:∀(K:AV->St->Option (AV×St))(s1:St),aj c (.lenB .l) [qv] s1 K=K (.int .i64 0) s1:=λK s1=>by rw[hI.que.lenB];simp
  rw[C6];simp[hl]
 |succ f ih=>
  intro g s o qv q B hg hI h1 h2 h3 h4 h5;obtain⟨g,rfl⟩:∃g',g=g'+1:=⟨g - 1,by omega⟩
  have hl:∀(K:AV->St->Option (AV×St))(s1:St),aj c (.lenB .l) [qv] s1 K=K (.int .i64 (q.length:Int)) s1:=λK s1=>by rw[hI.que.lenB];simp
  cases q with
  |nil=>
   refine⟨s,hI.aA,hI.out,hI.len,?_⟩;rw[C6];simp[hl]
  |cons k q=>
   have hr:∀r∈(k::q).map ac9,r.length=1:=λr hr=>by simp only[Zd0]at hr;obtain⟨m,_,rfl⟩:=hr;rfl
   obtain⟨b,ob,cs,a1,a2,a3,a4⟩:=hI.que.at (c:=c) (R:=AV×St) hr (by decide) (i:=0) (by simp);obtain⟨v',t1,t2,t3⟩:=QS.tail (R:=AV×St) (c:=c) (r:=ac9 k) (rows:=q.map ac9) hI.que rfl;have hk:k<n:=hI.qlt k (by simp);have Qd:k<o.length:=(by rw[hI.len];exact hk);have gk:cs[ob]? =some (.int .i64 (k:Int)):=(by simpa using a4 0 (.int .i64 (k:Int)) rfl);have i0:∀(K:AV->St->Option (AV×St))(s1:St),aj c (.idxA 1 none) [qv,.int .i64 0] s1 K=K (.ptr b ob) s1:=λK s1=>a1 K .i64 s1
   have lo:∀(K:AV->St->Option (AV×St))(s1:St),aj c (.lenB .l) [.slice po 0 n (some n) 1] s1 K=K (.int .i64 (n:Int)) s1:=λK s1=>xY c K s1 _ _ _ _ _
   have ek:o.getD k 0=o[k]:=(by simp[List.getD,Za0 Qd]);have sm:=hI.small o[k] (Zc0 Qd);have tX:=h5 k (by simp);have I1:SI s0 s pt po t n o v' q (B+1):=by
        have I2:=hI.le (B':=B+1) (by omega);exact⟨I2.tZ,I2.aA,I2.tab,I2.out,I2.len,t2,λe=>I2.ne1 (t3 _ e),λe=>I2.ne2 (t3 _ e),I2.ne3,I2.ajM,I2.agb,λb hb=>I2.Pm b (t3 b hb),I2.small,λm hm=>I2.qlt m (Za8 _ hm)⟩
   obtain⟨s1,v1,b1,b2⟩:=alx hc ht hn hk (B:=B) (by omega) F (λvs s71=>eP vs λx2 vs=>eP vs λx5 vs=>eP vs λx7 vs=>iD vs (nX c F k4 g [x2,x5,x7] s71)) n 0 F s o v' q hF (by omega) I1 (by rw[ek];omega) tX (by simp only[Zc2]at h1;omega);rw[<-Zl8]at b1;obtain⟨p1,p2,p3,p4⟩:=Hs (λm=>ym t k m) k (List.range n) o q (λm hm=>by rw[hI.len];exact Zi5.1 hm) tX (λm hm=>h5 m (Za8 _ hm));obtain⟨s',c1,c2,c3,c4⟩:=ih g s1 _ v1 _ (B+1) (by omega) b1 (by simp only[Zc2]at h1;omega) (by omega) (by omega) (by omega) p3;refine⟨s',c1,c2,c3,?_⟩;rw[<-c4,C6];simp at b2;have Yz:0<(q.length:Int)+1:=(by omega);simp[hl,i0,a3,gk,t1,lo,b2,Yz]
def A6(n k:Nat):List Int:=List.replicate k (-1)++List.replicate (n - k) 0
theorem alz{n k:Nat}(h:k<n):(A6 n k).set k (-1)=A6 n (k+1):=by unfold A6;rw[Zl4 _ _ (by simp)];simp only[Zk4,Zk3];rw[show n - k=(n - (k+1))+1 by omega,Zp7,Zm6,List.replicate_succ',Zg4];rfl
theorem alA{n k:Nat}(h:k<=n):(A6 n k).length=n:=by unfold A6;simp;omega
theorem ahB{s0:St}{pt po:Pos}{t:aH}{n:Nat}(hn:n<=1000)(cA:pt≠po)(SG:s0.next.toNat<=po.toNat)(DY:Wf s0)(x1:AV)(F:Nat)(k2):∀(m k f:Nat)(s:St),m<f->k+m=n->Grew s0 s->s.heap.get pt=some (.cells t.cells 0)->s.heap.get po=some (.cells ((A6 n k).map cI) 0)->
  ∃s',Grew s0 s'/\s'.heap.get pt=some (.cells t.cells 0)/\s'.heap.get po=some (.cells ((A6 n n).map cI) 0)/\
   qH c F k2 f [x1,.ptr pt 0,.slice po 0 n (some n) 1,.int .i64 (n:Int),.int .i64 (k:Int)] s=k2 [x1,.ptr pt 0,.slice po 0 n (some n) 1] s':=by
 intro m;induction m with
 |zero=>
  intro k f s hf h1 hg ht ho;obtain⟨f,rfl⟩:∃g,f=g+1:=⟨f - 1,by omega⟩
  obtain rfl:k=n:=by omega
  refine⟨s,hg,ht,ho,?_⟩;rw[KR];simp
 |succ m ih=>
  intro k f s hf h1 hg ht ho;obtain⟨f,rfl⟩:∃g,f=g+1:=⟨f - 1,by omega⟩
  have hk:k<n:=by omega
  have w:az .i64 ((k:Int)+1)=((k+1:Nat):Int):=wrap64 (by omega) (by omega);have ix:∀(K:AV->St->Option (AV×St))(s1:St),aj c (.idxA 1 none) [.slice po 0 n (some n) 1,.int .i64 (k:Int)] s1 K=K (.ptr po k) s1:=λK s1=>by rw[xX c K s1 hk];simp
  have hl:(A6 n k).length=n:=alA (by omega);have aW:=hg.wf _ _ ho;have nj:∀(K:AV->St->Option (AV×St)),aj c (.store 1) [.ptr po k,.int .i64 (-1)] s K=K .undef (bI s po (.cells ((A6 n (k+1)).map cI) 0)):=λK=>by rw[dz c K s 1 po k (.int .i64 (-1)) ((A6 n k).map cI) ho rfl (by simp[hl];omega) rfl, <-alz hk, <-Hr _ _ (by omega)];rfl
  have g1:Grew s0 (bI s po (.cells ((A6 n (k+1)).map cI) 0)):=⟨jI hg.wf aW,λp b hp=>by have:=DY _ _ hp;rw[aO (λe=>by rw[e]at SG;omega)];exact hg.get hp,by rw[eB];exact hg.next⟩
  obtain⟨s',a1,a2,a3,a4⟩:=ih (k+1) f _ (by omega) (by omega) g1 (by rw[aO (λe=>cA e.symm)];exact ht) (cW _ _ _);refine⟨s',a1,a2,a3,?_⟩;rw[<-a4,KR];simp[-List.map_set,hk,ix,nj,w]
def qT(t:aH)(fr:Nat):List Int:=C0 (λk m=>ym t k m) (aY t).toNat (2*(aY t).toNat+1) ((List.replicate (aY t).toNat (-1)).set fr 0) [fr]
theorem A7{b:Pos}{off n es:Nat}(hn:n≠0)(h:Plain (.slice b off n (some n) es)):False:=by
 have h1:aC (λ_=>⟨0,0,off+n*es⟩) (b.toNat+1) (λ_=>none) (.slice b off n (some n) es) (.slice (some ⟨0,0+off,none⟩) n n):=
  .slice b off n (some n) es n _ (Za6 _) (λc hc=>by cases hc;rfl) (λ_=>⟨by omega,rfl,by simp⟩) (λh=>by cases h)
 have h2:=h _ (λ_=>⟨0,0,0⟩) _ 0 _ _ h1;cases h2 with
 |slice _ _ _ _ _ _ _ _ _ ha _=>exact absurd (ha hn).1 (by omega)
theorem Wm{s s':St}{v:AV}(h:¬Plain v):tidy s (v,s')=(v,s'):=by
 unfold tidy;rw[Zb2 (λe=>h e.1)]
theorem ajO(hc:Sem c)(t:aH)(hz:aY t≠0)(fr:Nat)(hf:(fr:Int)<aY t)(s:St)(hw:Wf s):
  ∃b s',c 157 [.agg t.cells,.int .i64 (fr:Int)] s=some (.slice b 0 (aY t).toNat (some (aY t).toNat) 1,s')/\Grew s s'/\s'.heap.get b=some (.cells ((qT t fr).map cI) 0)/\s.next.toNat<=b.toNat/\(qT t fr).length=(aY t).toNat:=by
 have ht:=X3 hz;have hb:=jJ t;obtain⟨n,hn⟩:∃n:Nat,aY t=(n:Int):=⟨(aY t).toNat,by omega⟩
 have hn1:(aY t).toNat=n:=by omega
 have MB:n≠0:=by omega
 have Sn:n<=1000:=by omega
 have EY:fr<n:=by omega
 unfold qT;rw[hn1];have bX:Wf (ah s (.cells t.cells 0)):=bL hw;have g1:=Grew.ah hw (.cells t.cells 0);have sz:=TY hc t (ah s (.cells t.cells 0)) bX;rw[hn]at sz;have mk:=λ(K:AV->St->Option (AV×St))=>aeC c K (ah s (.cells t.cells 0)) (es:=1) (bytes:=8) (z:=[.int .i64 0]) (k:= .i64) (k':= .i64) (n:=n) (by omega) (by omega)
 rw[OO]at mk;have gS:Wf (ah (ah s (.cells t.cells 0)) (.cells (List.replicate n (.int .i64 0)) 0)):=bL bX;have g2:=g1.trans (Grew.ah bX (.cells (List.replicate n (.int .i64 0)) 0));generalize wR:ah (ah s (.cells t.cells 0)) (.cells (List.replicate n (.int .i64 0)) 0)=s2 at mk gS g2;have pt2:s2.heap.get s.next=some (.cells t.cells 0):=by rw[<-wR];exact(Grew.ah bX _).get (aF _ _)
 have po2:s2.heap.get (ah s (.cells t.cells 0)).next=some (.cells ((A6 n 0).map cI) 0):=by rw[<-wR,aF];simp[A6]
 have UH:s.next≠(ah s (.cells t.cells 0)).next:=by rw[cO];exact Pos.TR _
 have SG:s.next.toNat<=(ah s (.cells t.cells 0)).next.toNat:=by rw[cO,Pos.aK];omega
 generalize (ah s (.cells t.cells 0)).next=po at mk po2 UH SG
 let k2:List AV->St->Option (AV×St):=λvs tY=>eP vs λx1 vs=>eP vs λx2 vs=>eP vs λx5 vs=>iD vs (
  aj c .move [x5] tY λx23 II=>
  aj c .move [x1] II λU8 IJ=>
  aj c (.idxA 1 none) [x23,U8] IJ λx25 s21=>
  aj c (.store 1) [x25,(.int .i64 0)] s21 λ_ s22=>
  aj c .move [x1] s22 λx26 s23=>
  aj c (.buildSlice 1 1 [(.int .i64 0)] [0]) [x26] s23 λx27 s24=>
  aj c .move [x27] s24 λx7 s25=>
  nX c 4000 (λvs s72=>eP vs λx5 vs=>iD vs (
     aj c .move [x5] s72 λX2 s73=>
     aj c .move [X2] s73 λx4 s74=>
     some (x4,s74))) 4000 [x2,x5,x7] s25)
 obtain⟨s3,a1,a2,a3,a4⟩:=ahB (c:=c) (s0:=s) (t:=t) Sn UH SG hw (.int .i64 (fr:Int)) 4000 k2 n 0 4000 s2 (by omega) (by omega) g2 pt2 po2;have em:A6 n n=List.replicate n (-1):=by simp[A6]
 rw[em]at a3;have hl:(List.replicate n (-1:Int)).length=n:=by simp
 have aW:=a1.wf _ _ a3;have ix:∀(K:AV->St->Option (AV×St))(s1:St),aj c (.idxA 1 none) [.slice po 0 n (some n) 1,.int .i64 (fr:Int)] s1 K=K (.ptr po fr) s1:=λK s1=>by rw[xX c K s1 EY];simp
 have nj:∀(K:AV->St->Option (AV×St)),aj c (.store 1) [.ptr po fr,.int .i64 0] s3 K=K .undef (bI s3 po (.cells (((List.replicate n (-1:Int)).set fr 0).map cI) 0)):=λK=>by rw[dz c K s3 1 po fr (.int .i64 0) _ a3 rfl (by simp;omega) rfl, <-Hr _ _ (by omega)];rfl
 have g4:Grew s (bI s3 po (.cells (((List.replicate n (-1:Int)).set fr 0).map cI) 0)):=⟨jI a1.wf aW,λp b hp=>by have:=hw _ _ hp;rw[aO (λe=>by rw[e]at SG;omega)];exact a1.get hp,by rw[eB];exact a1.next⟩
 have pt4:(bI s3 po (.cells (((List.replicate n (-1:Int)).set fr 0).map cI) 0)).heap.get s.next=some (.cells t.cells 0):=by rw[aO (λe=>UH e.symm)];exact a2
 have po4:(bI s3 po (.cells (((List.replicate n (-1:Int)).set fr 0).map cI) 0)).heap.get po=some (.cells (((List.replicate n (-1:Int)).set fr 0).map cI) 0):=cW _ _ _;generalize XG:bI s3 po (.cells (((List.replicate n (-1:Int)).set fr 0).map cI) 0)=s4 at nj g4 pt4 po4;have row:=λ(K:AV->St->Option (AV×St))=>TW (c:=c) (es:=1) (z:=[.int .i64 0]) (x:= .int .i64 (fr:Int)) rfl rfl s4 K
 have g5:=g4.trans (Grew.ah g4.wf (.cells (AV.cells (.int .i64 (fr:Int))) 0));have akG:=Grew.ah g4.wf (.cells (AV.cells (.int .i64 (fr:Int))) 0);have n4:s.next.toNat<s4.next.toNat:=g4.wf _ _ pt4;have n4o:po.toNat<s4.next.toNat:=g4.wf _ _ po4;have I:SI s (ah s4 (.cells (AV.cells (.int .i64 (fr:Int))) 0)) s.next po t n ((List.replicate n (-1:Int)).set fr 0) (.slice s4.next 0 1 (some 1) 1) [fr] 0:=by
  refine⟨hw,g5,akG.get pt4,akG.get po4,by simp,.inr (.inl ⟨s4.next,0,some 1,[.int .i64 (fr:Int)],rfl,aF _ _,by simp,by simp,.inr rfl⟩),λe=> ?_,λe=> ?_,UH,Za6 _,SG,λb e=> ?_,λv hv=> ?_,λm hm=> ?_⟩
  .  have:=congrArg Pos.toNat (Bu e);omega
  .  have:=congrArg Pos.toNat (Bu e);omega
  .  have:=congrArg Pos.toNat (Bu e);omega
  .  rcases Zk6 hv with h|h
     .rw[(List.mem_replicate.1 h).2];omega
     .subst h;omega
  .  simp at hm;omega
 have afS:neg ((List.replicate n (-1:Int)).set fr 0)<=n:=by unfold neg;refine Zb7 List.countP_le_length ?_;simp
 obtain⟨s6,b1,b2,b3,b4⟩:=ajN hc ht Sn 4000 (by omega) (λvs s72=>eP vs λx5 vs=>iD vs (aj c .move [x5] s72 λX2 s73=>aj c .move [X2] s73 λx4 s74=>some (x4,s74))) (2*n+1) 4000 _ _ _ [fr] 0 (by omega) I (by simp;omega) (by omega) (by omega) (by omega) (λm hm=>by
  simp at hm;subst hm;simp[List.getD,EY])
 refine⟨po,s6,?_,b1,b2,SG,b3⟩;have np:¬Plain (.slice po 0 n (some n) 1):=A7 MB;rw[Zl hc 4000 (r:=(.slice po 0 n (some n) 1,s6)),Wm np];rw[ada];have L:qH c 4000 k2 4000 [.int .i64 (fr:Int),.ptr s.next 0,.slice po 0 n (some n) 1,.int .i64 (n:Int),.int .i64 0] s2=some (.slice po 0 n (some n) 1,s6):=by
  rw[show(0:Int)=((0:Nat):Int)from rfl,a4];simp only[k2];simp at b4;simp[-eo,ix,nj,row,b4]
 simp only[k2]at L;simp[-eo,aH.len,sz,mk,xY];simp[-eo]at L;exact L
def cG(t:aH):Int:=if t.sh=1 then 0 else if t.sh=2 then(if 0<t.b then t.a else t.a.tdiv 2)else if t.sh=3 then t.b+t.a.tdiv 2 else t.a.tdiv 2
theorem Ez{t:aH}(h:aY t≠0):0<=cG t/\cG t<aY t:=by
 have f:=X3 h;unfold cG;rw[Zh3 f.a.1]
 revert h
 unfold aY;intro h;split
 . rename_i h1;rw[Zb5 h1]at h;split at h
   .rename_i h2;rw[Zb5 h2];omega
   .exact absurd rfl h
 rename_i h1;rw[Zb2 h1]at h;split
 . rename_i h2;rw[Zb5 h2]at h;split at h
   .rename_i h3;rw[Zb5 h3];split<;>omega
   .exact absurd rfl h
 rename_i h2;rw[Zb2 h2]at h;split
 . rename_i h3;rw[Zb5 h3]at h;split at h
   .rename_i h4;rw[Zb5 h4];omega
   .exact absurd rfl h
 rename_i h3;rw[Zb2 h3]at h;split at h
 . rename_i h4;rw[Zb5 h4];split at h
   .rename_i h5;rw[Zb5 h5];omega
   .exact absurd rfl h
 .exact absurd rfl h
theorem alB(hc:Sem c)(a b:Int)(st:St):c 214 [.int .i64 a,.int .i64 b] st=some (.int .i64 0,st):=by rw[Q7 hc 1 (r:=(.int .i64 0,st)),aB (Plain.int _ _) (bf.refl st)];rw[Uz];simp
theorem alC(hc:Sem c)(a b:Int)(ha:Sm a)(st:St):c 219 [.int .i64 a,.int .i64 b] st=some (.int .i64 (if 0<b then a else a.tdiv 2),st):=by
 have hq:0<=a.tdiv 2/\a.tdiv 2<=1000000:=by rw[Zh3 ha.1];omega
 have w2:az .i64 (a.tdiv 2)=a.tdiv 2:=wrap64 (by omega) (by omega);rw[Q8 hc 1 (r:=(.int .i64 (if 0<b then a else a.tdiv 2),st)),aB (Plain.int _ _) (bf.refl st)];rw[UA];by_cases h:0<b<;>simp[h,w2]
theorem alD(hc:Sem c)(a b:Int)(ha:Sm a)(hb:Sm b)(st:St):c 224 [.int .i64 a,.int .i64 b] st=some (.int .i64 (b+a.tdiv 2),st):=by
 have hq:0<=a.tdiv 2/\a.tdiv 2<=1000000:=by rw[Zh3 ha.1];omega
 have w2:az .i64 (a.tdiv 2)=a.tdiv 2:=wrap64 (by omega) (by omega);have w3:az .i64 (b+a.tdiv 2)=b+a.tdiv 2:=wrap64 (by omega) (by omega);rw[Q9 hc 1 (r:=(.int .i64 (b+a.tdiv 2),st)),aB (Plain.int _ _) (bf.refl st)];rw[UB];simp[w2,w3]
theorem alE(hc:Sem c)(a b:Int)(ha:Sm a)(st:St):c 229 [.int .i64 a,.int .i64 b] st=some (.int .i64 (a.tdiv 2),st):=by
 have hq:0<=a.tdiv 2/\a.tdiv 2<=1000000:=by rw[Zh3 ha.1];omega
 have w2:az .i64 (a.tdiv 2)=a.tdiv 2:=wrap64 (by omega) (by omega);rw[Ra hc 1 (r:=(.int .i64 (a.tdiv 2),st)),aB (Plain.int _ _) (bf.refl st)];rw[UC];simp[w2]
def IL(n:Nat)(d:Int):Int:=if d<0 then(n:Int)else d
def jE(t:aH):List Int:=(qT t (cG t).toNat).map (IL (aY t).toNat)
theorem ajP{s0:St}{po:Pos}{n:Nat}(hn:n<=1000)(SG:s0.next.toNat<=po.toNat)(DY:Wf s0)(o:List Int)(ho0:o.length=n)(F:Nat)(k2):∀(m k f:Nat)(s:St),m<f->k+m=n->Grew s0 s->s.heap.get po=some (.cells (((o.take k).map (IL n)++o.drop k).map cI) 0)->
  ∃ s',Grew s0 s'/\s'.heap.get po=some (.cells ((o.map (IL n)).map cI) 0)/\
    sS c F k2 f [.slice po 0 n (some n) 1,.slice po 0 n (some n) 1,.int .i64 (n:Int),.int .i64 (k:Int)] s=k2 [.slice po 0 n (some n) 1] s':=by
 intro m;induction m with
 |zero=>
  intro k f s hf h1 hg ho;obtain⟨f,rfl⟩:∃g,f=g+1:=⟨f - 1,by omega⟩
  obtain rfl:k=n:=by omega
  refine⟨s,hg,?_,?_⟩
  .rw[ho,Zg0 (by omega),Zn3 (by omega),Zd4]
  .rw[A8];simp
 |succ m ih=>
  intro k f s hf h1 hg ho;obtain⟨f,rfl⟩:∃g,f=g+1:=⟨f - 1,by omega⟩
  have hk:k<n:=by omega
  have Qd:k<o.length:=by omega
  have w:az .i64 ((k:Int)+1)=((k+1:Nat):Int):=wrap64 (by omega) (by omega);have ix:∀(K:AV->St->Option (AV×St))(s1:St),aj c (.idxA 1 none) [.slice po 0 n (some n) 1,.int .i64 (k:Int)] s1 K=K (.ptr po k) s1:=λK s1=>by rw[xX c K s1 hk];simp
  have lo:∀(K:AV->St->Option (AV×St))(s1:St),aj c (.lenB .l) [.slice po 0 n (some n) 1] s1 K=K (.int .i64 (n:Int)) s1:=λK s1=>xY c K s1 _ _ _ _ _
  generalize hL:(o.take k).map (IL n)++o.drop k=L at ho;have hLl:L.length=n:=by rw[<-hL];simp;omega
  have hLk:L[k]? =some o[k]:=by
    rw[<-hL,Zd6 (by simp;omega)];simp only[Zb9,Ze0,Zh5 (Zl9 Qd),Zk3];rw[Zf5,Zl0,Za0 Qd]
  have gk:(L.map cI)[k]? =some (.int .i64 o[k]):=by rw[Zc3,hLk];rfl
  have eL:L.set k (IL n o[k])=(o.take (k+1)).map (IL n)++o.drop (k+1):=by rw[<-hL,Zl4 _ _ (by simp;omega)];simp only[Zb9,Ze0,Zh5 (Zl9 Qd),Zk3];rw[Zd2 Qd,Zm6,Zb8 Qd,Ze2,Zg4];rfl
  have aW:=hg.wf _ _ ho;by_cases hd:o[k]<0
  . have el:IL n o[k]=(n:Int):=(by unfold IL;rw[Zb5 hd]);rw[el]at eL;have nj:∀(K:AV->St->Option (AV×St)),aj c (.store 1) [.ptr po k,.int .i64 (n:Int)] s K=K .undef (bI s po (.cells (((o.take (k+1)).map (IL n)++o.drop (k+1)).map cI) 0)):=λK=>by rw[dz c K s 1 po k (.int .i64 (n:Int)) _ ho rfl (by simp[hLl];omega) rfl, <-eL, <-Hr _ _ (by omega)];rfl
    have g1:Grew s0 (bI s po (.cells (((o.take (k+1)).map (IL n)++o.drop (k+1)).map cI) 0)):=⟨jI hg.wf aW,λp b hp=>by have:=DY _ _ hp;rw[aO (λe=>by rw[e]at SG;omega)];exact hg.get hp,by rw[eB];exact hg.next⟩
    obtain⟨s',a1,a2,a3⟩:=ih (k+1) f _ (by omega) (by omega) g1 (cW _ _ _);refine⟨s',a1,a2,?_⟩;rw[<-a3,A8];simp[-List.map_append,-List.map_take,-List.map_drop,-List.map_map,bO,hk,ix,lo,ho,gk,hd,nj,w]
  . have el:IL n o[k]=o[k]:=(by unfold IL;rw[Zb2 hd]);rw[el]at eL;have e2:L.set k o[k]=L:=by
        (refine Zj4 λi=> ?_);rw[List.getElem?_set];split
        .rename_i e;subst e;rw[Zb5 (by omega),hLk]
        .rfl
    rw[e2]at eL;obtain⟨s',a1,a2,a3⟩:=ih (k+1) f s (by omega) (by omega) hg (by rw[<-eL];exact ho);refine⟨s',a1,a2,?_⟩;rw[<-a3,A8];simp[bO,hk,ix,ho,gk,hd,w]
theorem Wn(sh:Int):(gQ sh).length=6:=by
 unfold gQ
 repeat' split
 all_goals rfl
theorem ajQ(sh:Int):aV (gQ sh)=true:=by
 unfold gQ
 repeat' split
 all_goals rfl
theorem amE(hc:Sem c)(t:aH)(ht:t.Fit):∃f:FuncId,(gQ t.sh)[4]? =some (.func f [] [])/\∀st,c f [.int .i64 t.a,.int .i64 t.b] st=some (.int .i64 (cG t),st):=by
 have hS:t.sh=1\/t.sh=2\/t.sh=3\/t.sh=4:=by have:=ht.sh;omega
 have ha:Sm t.a:=by have:=ht.a;omega
 have hb:Sm t.b:=by have:=ht.b;omega
 rcases hS with h|h|h|h
 .exact⟨214,by rw[h];rfl,λst=>by rw[alB hc];simp[cG,h]⟩
 .exact⟨219,by rw[h];rfl,λst=>by rw[alC hc _ _ ha];simp[cG,h]⟩
 .exact⟨224,by rw[h];rfl,λst=>by rw[alD hc _ _ ha hb];simp[cG,h]⟩
 .exact⟨229,by rw[h];rfl,λst=>by rw[alE hc _ _ ha];simp[cG,h]⟩
theorem ahC(hc:Sem c)(t:aH)(hz:aY t≠0)(s:St)(hw:Wf s):
  ∃b s',c 79 [.agg t.cells] s=some (.slice b 0 (aY t).toNat (some (aY t).toNat) 1,s')/\Grew s s'/\s'.heap.get b=some (.cells ((jE t).map cI) 0)/\s.next.toNat<=b.toNat/\(jE t).length=(aY t).toNat:=by
 have ht:=X3 hz;have hb:=jJ t;have hh:=Ez hz;have bX:Wf (ah s (.cells t.cells 0)):=bL hw;have gS:Wf (ah (ah s (.cells t.cells 0)) (.cells (gQ t.sh) 0)):=bL bX;have g2:=(Grew.ah hw (.cells t.cells 0)).trans (Grew.ah bX (.cells (gQ t.sh) 0));have gT:(ah (ah s (.cells t.cells 0)) (.cells (gQ t.sh) 0)).heap.get s.next=some (.cells t.cells 0):=(Grew.ah bX _).get (aF _ _);obtain⟨fr,PM⟩:∃n:Nat,cG t=(n:Int):=⟨(cG t).toNat,by omega⟩
 obtain⟨b,s1,S1,S2,S3,S4,S5⟩:=ajO hc t hz fr (by omega) _ gS;have Ia:s.next.toNat<=b.toNat:=Zb7 g2.next S4;have g1:=g2.trans S2;have e1:jE t=(qT t fr).map (IL (aY t).toNat):=by unfold jE;rw[PM];rfl
 have Rz:(jE t).length=(aY t).toNat:=by rw[e1];simpa using S5
 obtain⟨s2,a1,a2,a3⟩:=ajP (c:=c) (s0:=s) (po:=b) (n:=(aY t).toNat) (by omega) Ia hw (qT t fr) S5 4000 (λvs XT=>eP vs λx5 vs=>iD vs (
  aj c .move [x5] XT λx38 XU=>aj c .move [x38] XU λx2 s36=>some (x2,s36))) (aY t).toNat 0 4000 s1 (by omega) (by omega) g1 (by simpa using S3)
 rw[<-e1]at a2;refine⟨b,s2,?_,a1,a2,Ia,Rz⟩;have np:¬Plain (.slice b 0 (aY t).toNat (some (aY t).toNat) 1):=A7 (by omega);rw[X6 hc 4000 (r:=(.slice b 0 (aY t).toNat (some (aY t).toNat) 1,s2)),Wm np];rw[aaY];have hlay:=fy hc t.sh (ah s (.cells t.cells 0)) bX;rw[<-PM]at S1;have rd:=λ(K:AV->Option (AV×St))=>ach K (m:=7) (p:=s.next) (o:=0) (l:=t.cells) (h:=(ah (ah s (.cells t.cells 0)) (.cells (gQ t.sh) 0)).heap) (h2:=(ah (ah s (.cells t.cells 0)) (.cells (gQ t.sh) 0)).heap) (by rw[gT];rfl) (by rw[gT];rfl) (FI λv hv=>by simp only[aH.cells,Zb4,Zc8,Zg9]at hv;rcases hv with rfl|rfl|rfl|rfl|rfl|rfl|rfl<;>first|exact cU.str _|exact cU.int _ _|exact CO _ _)
 simp at a3;have lo:∀(K:AV->St->Option (AV×St))(s1:St),aj c (.lenB .l) [.slice b 0 (aY t).toNat (some (aY t).toNat) 1] s1 K=K (.int .i64 ((aY t).toNat:Int)) s1:=λK s1=>xY c K s1 _ _ _ _ _
 obtain⟨hf,hf1,hf2⟩:=amE hc t ht;have Xn:(gQ t.sh)[4]'(by rw[Wn];omega)= .func hf [] []:=by rw[Za0 (by rw[Wn];omega)]at hf1;exact Zh2 hf1
 have c1:t.cells[1]? =some (.int .u8 t.sh):=rfl;have c2:t.cells[2]? =some (.int .i64 t.a):=rfl;have c3:t.cells[3]? =some (.int .i64 t.b):=rfl;simp[hlay,c1,c2,c3,AV.cells,Wn,ajQ,gT,hf1,Xn,hf2,S1,rd,lo,a3]
theorem aah{t:aH}{k:Nat}(h:k<(jE t).length):((jE t).map cI)[k]? =some (.int .i64 (jE t)[k]):=by rw[Zc3,Za0 h];rfl
end
end Go.Proofs.YtngcejgciomphaaGreatDoor
