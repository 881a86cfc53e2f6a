/- Checks of a problem. -/
import Derived.Test.YtgihekklfnjkiaaGreatDoorTLawsA
set_option linter.all false
set_option linter.unusedSectionVars false
set_option linter.deprecated false
namespace Go.Proofs.YtgihekklfnjkiaaGreatDoor
section
set_option maxRecDepth 100000
open Go Go.Ai Go.Proofs
variable{c : au}
def kd:Nat->Kd
 |1=>⟨[97,112,97,114,116],103,true,0,true,0,false,.func 90 [] []⟩
 |2=>⟨[98,101,115,105,100,101],103,true,0,false,0,false,.func 91 [] []⟩
 |3=>⟨[97,99,114,111,115,115],103,true,0,false,0,false,.func 92 [] []⟩
 |4=>⟨[110,101,97,114],103,true,0,true,1,false,.func 93 [] []⟩
 |5=>⟨[116,111,103,101,116,104,101,114],103,true,0,false,0,false,.func 94 [] []⟩
 |6=>⟨[97,116],103,false,116,false,0,false,.func 95 [] []⟩
 |7=>⟨[115,101,97,116],103,false,116,true,0,true,.func 96 [] []⟩
 |8=>⟨[97,108,116,101,114,110,97,116,101],0,false,101,false,0,false,.func 97 [] []⟩
 |9=>⟨[104,111,115,116],0,false,101,false,0,false,.func 98 [] []⟩
 |10=>⟨[114,101,97,99,104],101,false,0,false,0,false,.func 99 [] []⟩
 |11=>⟨[115,112,101,97,107],0,false,101,false,0,false,.func 100 [] []⟩
 |12=>⟨[112,101,97,99,101],0,false,101,false,0,false,.func 101 [] []⟩
 |13=>⟨[99,111,109,112,97,110,121],0,false,101,false,0,false,.func 102 [] []⟩
 |14=>⟨[104,111,110,111,117,114],0,false,101,false,0,false,.func 103 [] []⟩
 |15=>⟨[102,105,108,108],0,false,101,true,0,false,.func 104 [] []⟩
 |16=>⟨[108,105,109,105,116],0,false,101,true,0,false,.func 105 [] []⟩
 |17=>⟨[107,105,116,99,104,101,110],100,false,116,false,0,false,.func 106 [] []⟩
 |18=>⟨[109,105,120],0,false,101,false,0,false,.func 107 [] []⟩
 |_=>⟨[],0,false,0,false,0,false,.iI⟩
def ur:List (AV×AV×Nat):=[(.int .u8 1,.agg (kd 1).cells,0),(.int .u8 2,.agg (kd 2).cells,1),(.int .u8 3,.agg (kd 3).cells,2),(.int .u8 4,.agg (kd 4).cells,3),(.int .u8 5,.agg (kd 5).cells,4),(.int .u8 6,.agg (kd 6).cells,5),(.int .u8 7,.agg (kd 7).cells,6),(.int .u8 8,.agg (kd 8).cells,7),(.int .u8 9,.agg (kd 9).cells,8),(.int .u8 10,.agg (kd 10).cells,9),(.int .u8 11,.agg (kd 11).cells,10),(.int .u8 12,.agg (kd 12).cells,11),(.int .u8 13,.agg (kd 13).cells,12),(.int .u8 14,.agg (kd 14).cells,13),(.int .u8 15,.agg (kd 15).cells,14),(.int .u8 16,.agg (kd 16).cells,15),(.int .u8 17,.agg (kd 17).cells,16),(.int .u8 18,.agg (kd 18).cells,17)]
theorem afL(p:Pos):¬Plain (.map p):=λh=>by have:=h (λ_=>(⟨0,0,0⟩:Go.Ai.Loc)) (λ_=>⟨1,0,0⟩) (p.toNat+1) (p.toNat+1) (λ_=>none) _ (.map p (Nat.lt_succ_self _));cases this
theorem aij(st:St)(p:Pos)(s':St):tidy st (.map p,s')=(.map p,s'):=by unfold tidy;rw[Za7];exact λe=>afL p e.1
theorem dX{R:Type}(c:au)(K:AV->St->Option R)(st:St)(z:List AV)(ps:List (Nat×Nat))(xs l:List AV)(h:bY z ps xs=some l):aq c (.build z ps) xs st K=K (.agg l) st:=by rw[ir,h];rfl
theorem eH{R:Type}(c:au)(K:AV->St->Option R)(st:St)(es:List (AV×AV×Nat))(cl:Nat)(k:IntKind)(x:Int)(v:AV)(hf:gP .i (.int k x) es 0=some none):
  aq c (.mapSet .i) [.map st.next,.int k x,v] (ah st (.map es cl)) K=K .undef (ah st (.map (es++[(.int k x,v,cl)]) (cl+1))):=by
 have:aF.run (λb=>(ah st (.map es cl)).heap.get b) (ah st (.map es cl)).next (.mapSet .i) [.map st.next,.int k x,v]=some (.bh .undef none (some (st.next,.map (es++[(.int k x,v,cl)]) (cl+1))) none):=by
  simp[aF.run,yG,hf,agt]
 unfold aq cG;rw[this];show K .undef (aY (ah st (.map es cl)) st.next _)=_;rw[Lj]
theorem abt(hc:Sem c)(s:St):c 50 [] s=some (.map s.next,ah s (.map ur 18)):=by
 rw[aed hc 1 (r:=(.map s.next,ah s (.map ur 18))),aij];rw[aik];rw[aA,WM];rw[dX (l:=(kd 1).cells) (h:=rfl),eH (hf:=rfl)];rw[dX (l:=(kd 2).cells) (h:=rfl),eH (hf:=rfl)];rw[dX (l:=(kd 3).cells) (h:=rfl),eH (hf:=rfl)];rw[dX (l:=(kd 4).cells) (h:=rfl),eH (hf:=rfl)];rw[dX (l:=(kd 5).cells) (h:=rfl),eH (hf:=rfl)];rw[dX (l:=(kd 6).cells) (h:=rfl),eH (hf:=rfl)];rw[dX (l:=(kd 7).cells) (h:=rfl),eH (hf:=rfl)];rw[dX (l:=(kd 8).cells) (h:=rfl),eH (hf:=rfl)];rw[dX (l:=(kd 9).cells) (h:=rfl),eH (hf:=rfl)];rw[dX (l:=(kd 10).cells) (h:=rfl),eH (hf:=rfl)];rw[dX (l:=(kd 11).cells) (h:=rfl),eH (hf:=rfl)];rw[dX (l:=(kd 12).cells) (h:=rfl),eH (hf:=rfl)];rw[dX (l:=(kd 13).cells) (h:=rfl),eH (hf:=rfl)];rw[dX (l:=(kd 14).cells) (h:=rfl),eH (hf:=rfl)];rw[dX (l:=(kd 15).cells) (h:=rfl),eH (hf:=rfl)];rw[dX (l:=(kd 16).cells) (h:=rfl),eH (hf:=rfl)];rw[dX (l:=(kd 17).cells) (h:=rfl),eH (hf:=rfl)];rw[dX (l:=(kd 18).cells) (h:=rfl),eH (hf:=rfl)];rw[aA,aA]
 . rfl
theorem asQ{R:Type}(c:au)(K:AV->St->Option R)(st:St)(m:Pos)(cl:Nat)(h:st.heap.get m=some (.map ur cl))(n:Nat):
   aq c (.lookup .i (.agg [.str [],.int .u8 0,.bool false,.int .u8 0,.bool false,.int .i64 0,.bool false,.iI]) false) [.map m,.int .u8 (n:Int)] st K=K (.agg (kd n).cells) st:=by
 have e:gP .i (.int .u8 (n:Int)) ur 0=some (if 1<=n/\n<=18 then some (n - 1,.agg (kd n).cells)else none):=by
   by_cases h:n<=18
   . have:n=0\/n=1\/n=2\/n=3\/n=4\/n=5\/n=6\/n=7\/n=8\/n=9\/n=10\/n=11\/n=12\/n=13\/n=14\/n=15\/n=16\/n=17\/n=18:=(by omega);rcases this with rfl|rfl|rfl|rfl|rfl|rfl|rfl|rfl|rfl|rfl|rfl|rfl|rfl|rfl|rfl|rfl|rfl|rfl|rfl<;>rfl
   . have DF:∀j:Int,j<=18->zO (n:Int) j=false:=λj hj=>by rw[mG];simp;omega
     rw[Za7 (by omega)];simp[ur,gP,AD,DF,dw]
 have:∀z:AV,aF.run (λb=>st.heap.get b) st.next (.lookup .i z false) [.map m,.int .u8 (n:Int)]=some (.val (if 1<=n/\n<=18 then .agg (kd n).cells else z)):=λz=>by
   simp only[aF.run,kq,h,e];by_cases h1:1<=n/\n<=18
   . rw[Zb3 h1,Zb3 h1]
   . rw[Za7 h1,Za7 h1]
 unfold aq cG;rw[this];by_cases h1:1<=n/\n<=18
 . rw[Zb3 h1]
 . rw[Za7 h1];have:kd n=⟨[],0,false,0,false,0,false,.iI⟩:=(by unfold kd;split<;>first|rfl|omega);rw[this];rfl
theorem akt(n:Nat):(kd n).kD=true->(kd n).t=116:=by unfold kd;split<;>simp
def Rl.Ok(r:Rl):Prop:=0<=r.k/\r.k<256
def fY(p:bM)(r:Rl):Int:=IP (kd r.k.toNat) p r
def qP(p:bM):Nat->Nat->Int×Int
 |0,_=>(0,0)
 |  m+1,i=>match p.rs[i]? with
    |none=>(0,0)
    |some r=>if fY p r≠0 then((i:Int),fY p r)else if i=64 then((i:Int),7)else qP p m (i+1)
theorem aag(p:bM):∀(m i:Nat),(qP p m i).2=0->(qP p m i).1=0
 |0,_,_=>rfl
 |m+    1,i,h=>by
  rw[qP]at h ⊢;cases h0:p.rs[i]? with
  |none=>rfl
  |some r=>
   rw[h0]at h;simp only at h ⊢;by_cases h1:fY p r=0
   .    rw[Za7 (by simp[h1])]at h ⊢;by_cases h2:i=64
        . rw[Zb3 h2]at h;simp at h
        . rw[Za7 h2]at h ⊢; exact aag p m (i+1) h
   .    rw[Zb3 h1]at h;exact absurd h h1
def mP(p:bM):Int×Int:=if(gX p).2≠0 then gX p else qP p 100 0
theorem alY(hc:Sem c)(p:bM)(hp:p.CI)(hr:∀r∈p.rs,r.Ok)(hv:(bR p.ts).2=0)(q1 mp:Pos)(cl:Nat)(F:Nat)(k1 k2):∀(m k:Nat)(st:St),Wf st->st.heap.get q1=some (.cells p.cells 0)->st.heap.get mp=some (.map ur cl)->p.rs.length<=k+m->k<=p.rs.length->
  ∃st',Grew st st'/\xw c F k1 k2 (m+1) [.ptr q1 0,.map mp,gK p.rz p.rs,.int .i64 (p.rs.length:Int),.int .i64 (k:Int)] st=if(qP p m k).2=0 then k2 [] st' else k1 [.int .i64 (qP p m k).1,.int .i64 (qP p m k).2] st':=by
 have hl:=hp.rs;intro m;induction m with
 |zero=>
  intro k st hw h1 h2 h3 h4;obtain rfl:k=p.rs.length:=by omega
  refine⟨st,Grew.refl hw,?_⟩;rw[DS];simp[qP]
 |succ m ih=>
  intro k st hw hq hm h3 h4;by_cases h:k<p.rs.length
  . have w:ax .i64 ((k:Int)+1)=((k+1:Nat):Int):=wrap64 (by omega) (by omega);have cg:Wf (ah st (.cells p.rs[k].cells 0)):=bn hw;have hg:=Grew.ah hw (.cells p.rs[k].cells 0);have hq1:=hg.get hq;have od:=hg.get hm;have hn:=az st (.cells p.rs[k].cells 0);obtain⟨n,hk⟩:∃n:Nat,p.rs[k].k=(n:Int):=⟨p.rs[k].k.toNat,by have:=(hr _ (Zc2 h)).1;omega⟩
    have hkc:=ae7 hc (kd n) (akt n) p hp hv p.rs[k] _ cg;have hS:fY p p.rs[k]=IP (kd n) p p.rs[k]:=(by unfold fY;rw[hk];rfl);have Sd:=λ(K:AV->St->Option (AV×St))=>asQ c K _ mp cl od n
    have gJ:=λ(K:AV->St->Option (AV×St))=>cr c K st 6 (.agg p.rs[k].cells) [.int .u8 0,.int .i64 0,.str [],.str [],.str [],.int .i64 0] rfl rfl (Rl.one _)
    rw[show(AV.agg p.rs[k].cells).cells=p.rs[k].cells from rfl]at gJ;rw[<-hS]at hkc;rw[<-hk]at Sd;obtain⟨st',g1,g2⟩:=ih (k+1) _ cg hq1 od (by omega) (by omega);rw[DS,qP,H0 h];simp only;by_cases h5:fY p p.rs[k]=0
    .   rw[Za7 (by simp[h5])];by_cases h6:k=64
        . refine⟨_,hg,?_⟩;rw[Zb3 h6];have h6i:decide ((k:Int)=64)=true:=(by simp only[Ze7];omega);simp[-cr,gJ,gK,h,hq1,od,Sd,hkc,h5,h6i]
        . refine⟨st',hg.trans g1,?_⟩;rw[Za7 h6, <-g2];have h6i:¬(k:Int)=64:=(by omega);simp[-cr,gJ,gK,h,hq1,od,Sd,hkc,h5,h6i,w]
    .   refine⟨_,hg,?_⟩;rw[Zb3 h5];simp[-cr,gJ,gK,h,hq1,od,Sd,hkc,h5]
  . obtain rfl:k=p.rs.length:=(by omega);refine⟨st,Grew.refl hw,?_⟩;rw[DS];simp[qP]
theorem aah{p:bM}(h:(gX p).2=0):(bR p.ts).2=0:=by
 unfold gX at h;by_cases h1:(bR p.ts).2=0
 . exact h1
 . rw[Zb3 h1]at h;exact absurd h h1
theorem afM(hc:Sem c)(p:bM)(hp:p.CI)(hR:XC c p)(hr:∀r∈p.rs,r.Ok)(st:St)(hw:Wf st):c 56 [.agg p.cells] st=some (.tuple [.int .i64 (mP p).1,.int .i64 (mP p).2],st):=by
 have Ae:Plain (.tuple [.int .i64 (mP p).1,.int .i64 (mP p).2]):=Plain.tuple (by simp[Plain.int]);have cg:Wf (ah st (.cells p.cells 0)):=bn hw;have hg1:=Grew.ah hw (.cells p.cells 0);have kz:(ah st (.cells p.cells 0)).heap.get st.next=some (.cells p.cells 0):=az _ _;have B:=aie hc p hp hR _ cg;by_cases h:(gX p).2=0
 . have hv:=aah h;have K:=abt hc (ah st (.cells p.cells 0));have kW:Wf (ah (ah st (.cells p.cells 0)) (.map ur 18)):=bn cg;have Aj:=Grew.ah cg (.map ur 18);obtain⟨st',g1,g2⟩:=alY hc p hp hr hv st.next (ah st (.cells p.cells 0)).next 18 101 (λvs s50=>fO vs λx2 vs=>fO vs λx3 vs=>iT vs (
   some (.tuple [x2,x3],s50))) (λvs s51=>iT vs (
   aq c .move [(.int .i64 0)] s51 λx2 s52=>
 aq c .move [(.int .i64 0)] s52 λx3 s53=>
 some (.tuple [x2,x3],s53))) 100 0 _ kW (Aj.get kz) (az _ _) (by have:=hp.rs;omega) (by omega)
   have e:mP p=qP p 100 0:=(by unfold mP;rw[Za7 (by simp[h])]);have e0:=ajv h;rw[Q5 hc 101 (r:=(.tuple [.int .i64 (mP p).1,.int .i64 (mP p).2],st')),aE Ae ((hg1.trans Aj).trans g1).keeps];rw[XD,e];simp at g2;simp[kz,B,h,K,g2];by_cases h2:(qP p 100 0).2=0
   . have:=aag p 100 0 h2;simp[h2,this]
   . simp[h2]
 . have e:mP p=gX p:=(by unfold mP;rw[Zb3 h]);rw[Q5 hc 101 (r:=(.tuple [.int .i64 (mP p).1,.int .i64 (mP p).2],ah st (.cells p.cells 0))),aE Ae hg1.keeps];rw[XD,e];simp[kz,B,h]
def wl:List AV:=(List.range 19).map λi=> .str (kd i).w
end
section
set_option maxRecDepth 100000
set_option linter.unusedVariables false
open Go Go.Ai Go.Proofs
variable{c : au}
end
section
set_option maxRecDepth 100000
open Go Go.Ai Go.Proofs
variable{c : au}
end
section
set_option maxRecDepth 100000
open Go Go.Ai Go.Proofs
theorem Hs{Q:List AV->Prop}{Qs:List (List AV->Prop)}{ps:List (List AV)}(h:SA (Q::Qs) ps):∃p qs,ps=p::qs/\Q p/\SA Qs qs:=by
 cases ps with
 |nil=>exact h.elim
 |cons p qs=>exact⟨p,qs,rfl,h⟩
theorem ahs{ps:List (List AV)}(h:SA [] ps):ps=[]:=by
 cases ps with
 |nil=>rfl
 |cons p qs=>exact h.elim
section
variable{H : Type}{enc : TypeId × Value -> H}{w : World}{base : Nat}{spare : Nat -> Bool}{held : Bool}
end
variable{c : au}
variable{c : au}
theorem an4(z:Bool)(l:List Ty):dc 3 (eX z l):=dc.ro λr hr v hv=>by simp only[Zc7]at hr;obtain⟨g,_,rfl⟩:=hr;simp only[Ty.cells,Za8,Zb7,Ze4]at hv;rcases hv with rfl|rfl|rfl<;>first|exact dc.str _|exact dc.int _ _
theorem asR(p:bM):eo (.agg p.cells) (.agg p.cells)=true:=BM λv hv=>by
 simp only[bM.cells,Za8,Zb7,Ze4]at hv;rcases hv with rfl|rfl|rfl|rfl|rfl
 . exact alW _ _
 . exact Tq _ _
 . exact an4 _ _
 . exact DQ _ _
 . exact XB _ _
theorem at5(r:Rl):eo (.agg r.cells) (.agg r.cells)=true:=BM λv hv=>by simp only[Rl.cells,Za8,Zb7,Ze4]at hv;rcases hv with rfl|rfl|rfl|rfl|rfl|rfl<;>first|exact dc.str _|exact dc.int _ _
theorem ajw(H:Pos->Option AB)(nx m:Pos)(cl:Nat)(h:H m=some (.map ur cl))(n:Nat):
   aF.run H nx (.lookup .i (.agg [.str [],.int .u8 0,.bool false,.int .u8 0,.bool false,.int .i64 0,.bool false,.iI]) false) [.map m,.int .u8 (n:Int)]=some (.val (.agg (kd n).cells)):=by
 have e:gP .i (.int .u8 (n:Int)) ur 0=some (if 1<=n/\n<=18 then some (n - 1,.agg (kd n).cells)else none):=by
   by_cases h:n<=18
   . have:n=0\/n=1\/n=2\/n=3\/n=4\/n=5\/n=6\/n=7\/n=8\/n=9\/n=10\/n=11\/n=12\/n=13\/n=14\/n=15\/n=16\/n=17\/n=18:=(by omega);rcases this with rfl|rfl|rfl|rfl|rfl|rfl|rfl|rfl|rfl|rfl|rfl|rfl|rfl|rfl|rfl|rfl|rfl|rfl|rfl<;>rfl
   . have DF:∀j:Int,j<=18->zO (n:Int) j=false:=λj hj=>by rw[mG];simp;omega
     rw[Za7 (by omega)];simp[ur,gP,AD,DF,dw]
 simp only[aF.run,kq,h,e];by_cases h1:1<=n/\n<=18
 . rw[Zb3 h1]
 . rw[Za7 h1];have:kd n=⟨[],0,false,0,false,0,false,.iI⟩:=(by unfold kd;split<;>first|rfl|omega);rw[this];rfl
theorem ajx{R:Type}(K:AV->Option R)(h:T AB)(m:Pos)(cl:Nat)(hh:h.get m=some (.map ur cl))(n:Nat):
  ia (.lookup .i (.agg [.str [],.int .u8 0,.bool false,.int .u8 0,.bool false,.int .i64 0,.bool false,.iI]) false) [.map m,.int .u8 (n:Int)] h (λ_=>true) K=K (.agg (kd n).cells):=by
 unfold ia;have e:aF.run (λ_=>none) .h (.lookup .i (.agg [.str [],.int .u8 0,.bool false,.int .u8 0,.bool false,.int .i64 0,.bool false,.iI]) false) [.map m,.int .u8 (n:Int)]=none:=rfl;rw[e];simp only;rw[ajw _ _ m cl hh n]
def Gk(p:bM)(r:Rl):Int:=if(gX p).2≠0 then 2 else fY p r
theorem ahR(hc:Sem c)(p:bM)(hp:p.CI)(hR:XC c p)(r:Rl)(hr:r.Ok)(st:St)(hw:Wf st):c 16 [.agg p.cells,.agg r.cells] st=some (.int .i64 (Gk p r),st):=by
 have cg:Wf (ah st (.cells p.cells 0)):=bn hw;have kW:Wf (ah (ah st (.cells p.cells 0)) (.cells r.cells 0)):=bn cg;have Aj:=Grew.ah cg (.cells r.cells 0);have hg:=(Grew.ah hw (.cells p.cells 0)).trans Aj;have p1:=Aj.get (az st (.cells p.cells 0));have p2:=az (ah st (.cells p.cells 0)) (.cells r.cells 0);have B:=aie hc p hp hR _ kW;obtain⟨n,hk⟩:∃n:Nat,r.k=(n:Int):=⟨r.k.toNat,by have:=hr.1;omega⟩
 have hS:fY p r=IP (kd n) p r:=by unfold fY;rw[hk];rfl
 by_cases h:(gX p).2=0
 . have hv:=aah h;have K:=abt hc (ah (ah st (.cells p.cells 0)) (.cells r.cells 0));have hg3:=Grew.ah kW (.map ur 18);have hw3:=hg3.wf;have kc:=ae7 hc (kd n) (akt n) p hp hv r _ hw3;have p1':=hg3.get p1;have p2':=hg3.get p2;have look:=λ(K:AV->Option (AV×St))=>ajx K _ _ 18 (az (ah (ah st (.cells p.cells 0)) (.cells r.cells 0)) (.map ur 18)) n
   have r1:=λ(K:AV->Option (AV×St))=>kg K (o:=0) (v:= .int .u8 r.k) (h:=(ah (ah (ah st (.cells p.cells 0)) (.cells r.cells 0)) (.map ur 18)).heap) (h2:=(ah (ah st (.cells p.cells 0)) (.cells r.cells 0)).heap) (by rw[p2'];rfl) (by rw[p2];rfl) (vD (dc.int _ _))
   have r2:=λ(K:AV->Option (AV×St))=>Sz K (m:=5) (o:=0) (l:=p.cells) (h:=(ah (ah (ah st (.cells p.cells 0)) (.cells r.cells 0)) (.map ur 18)).heap) (h2:=(ah (ah st (.cells p.cells 0)) (.cells r.cells 0)).heap) (by rw[p1'];rfl) (by rw[p1];rfl) (asR p)
   have r3:=λ(K:AV->Option (AV×St))=>Sz K (m:=6) (o:=0) (l:=r.cells) (h:=(ah (ah (ah st (.cells p.cells 0)) (.cells r.cells 0)) (.map ur 18)).heap) (h2:=(ah (ah st (.cells p.cells 0)) (.cells r.cells 0)).heap) (by rw[p2'];rfl) (by rw[p2];rfl) (at5 r)
   rw[<-hS]at kc;rw[<-hk]at look;have e:Gk p r=fY p r:=(by unfold Gk;rw[Za7 (by simp[h])]);rw[HQ hc 1 (r:=(.int .i64 (Gk p r),ah (ah (ah st (.cells p.cells 0)) (.cells r.cells 0)) (.map ur 18))),aE (Plain.int _ _) (hg.trans hg3).keeps];rw[Mo,e];simp[p1,p2,p1',p2',B,h,K,look,kc,r1,r2,r3]
 . have e:Gk p r=2:=(by unfold Gk;rw[Zb3 h]);rw[HQ hc 1 (r:=(.int .i64 (Gk p r),ah (ah st (.cells p.cells 0)) (.cells r.cells 0))),aE (Plain.int _ _) hg.keeps];rw[Mo,e];simp[p1,p2,B,h]
abbrev uq:Nat:=1048576
abbrev bV(i:Int):List AV:=[.int .i64 i]
abbrev zl(s:List Nat):List AV:=[.str s]
def aB.aj(t:aB)(v:AV):List AV:=[.str t.name,.int .u8 t.sh,.int .i64 t.a,.int .i64 t.b,v,.int .i64 t.x,.int .i64 t.y]
theorem aB.Gi(t:aB){v:AV}(h:aM [v]=true):aM (t.aj v)=true:=by
 simp only[aM]at h;unfold aB.aj;simp only[aM,AV.one,h,Zi2,Zi1]at*
structure TS(s0 s:St)(V:AV)(ts:List aB)(rows:List (List AV)):Prop where
 out:Mk 7 s0 s V rows
 len:rows.length=ts.length
 dV:∀(i:Nat)(t:aB)(r:List AV),ts[i]? =some t->rows[i]? =some r->∃v,r=t.aj v/\Mk 1 s0 s v (t.jr.map bV)/\∀b,aK v=some b->aK V≠some b
structure GS(s0 s:St)(V:AV)(ts:List aQ)(rows:List (List AV)):Prop where
 out:Mk 9 s0 s V rows
 len:rows.length=ts.length
 dV:∀(i:Nat)(t:aQ)(r:List AV),ts[i]? =some t->rows[i]? =some r->∃v,r=t.aj v/\Mk 1 s0 s v (t.tg.map zl)/\∀b,aK v=some b->aK V≠some b
structure PS(s0 s:St)(Vs:List AV)(p:bM):Prop where
 ai:Grew s0 s
 all:∃V1 V2 V3 V4 V5 r1 r2,Vs=[V1,V2,V3,V4,V5]/\TS s0 s V1 p.ts r1/\GS s0 s V2 p.gs r2/\Mk 3 s0 s V3 (p.ys.map Ty.cells)/\Mk 1 s0 s V4 (p.cs.map bV)/\Mk 6 s0 s V5 (p.rs.map Rl.cells)
theorem TS.oP{s0 s s':St}{V:AV}{ts:List aB}{rows:List (List AV)}(h:TS s0 s V ts rows)(hg:Grew s0 s')(hk:∀b x,s0.next.toNat<=b.toNat->(aK V=some b\/∃(i:Nat) (r:List AV) (v:AV),rows[i]? =some r/\r[4]? =some v/\aK v=some b)->s.heap.get b=some x->s'.heap.get b=some x):TS s0 s' V ts rows:=
 ⟨Mk.oP h.out hg λb x hb hx=>hk b x (h.out.new b hb) (.inl hb) hx,h.len,λi t r hi hr=>by
  obtain⟨v,e1,e2,e3⟩:=h.dV i t r hi hr;exact⟨v,e1,Mk.oP e2 hg λb x hb hx=>hk b x (e2.new b hb) (.inr ⟨i,r,v,hr,by rw[e1];rfl,hb⟩) hx,e3⟩⟩
theorem GS.oP{s0 s s':St}{V:AV}{ts:List aQ}{rows:List (List AV)}(h:GS s0 s V ts rows)(hg:Grew s0 s')(hk:∀b x,s0.next.toNat<=b.toNat->(aK V=some b\/∃(i:Nat) (r:List AV) (v:AV),rows[i]? =some r/\r[8]? =some v/\aK v=some b)->s.heap.get b=some x->s'.heap.get b=some x):GS s0 s' V ts rows:=
 ⟨Mk.oP h.out hg λb x hb hx=>hk b x (h.out.new b hb) (.inl hb) hx,h.len,λi t r hi hr=>by
  obtain⟨v,e1,e2,e3⟩:=h.dV i t r hi hr;exact⟨v,e1,Mk.oP e2 hg λb x hb hx=>hk b x (e2.new b hb) (.inr ⟨i,r,v,hr,by rw[e1];rfl,hb⟩) hx,e3⟩⟩
structure aB.Real(t:aB):Prop where
 name:∀x∈t.name,x<256
 jr:t.jr.length<=uq
structure aQ.Real(g:aQ):Prop where
 name:∀x∈g.name,x<256
 zf:∀x∈g.zf,x<256
 jP:∀x∈g.jP,x<256
 o8:∀x∈g.o8,x<256
 tg:g.tg.length<=uq
theorem TS.oo{s0 s1 s s':St}{V:AV}{ts:List aB}{rows:List (List AV)}(h:TS s1 s V ts rows)(h0:Wf s0)(N7:Grew s0 s1)(hg:Grew s0 s')(hk:∀q b,s1.next.toNat<=q.toNat->s.heap.get q=some b->s'.heap.get q=some b):TS s0 s' V ts rows:=
 ⟨Mk.oo h.out h0 N7 hg hk,h.len,λi t r hi hr=>by obtain⟨v,e1,e2,e3⟩:=h.dV i t r hi hr;exact⟨v,e1,Mk.oo e2 h0 N7 hg hk,e3⟩⟩
theorem GS.oo{s0 s1 s s':St}{V:AV}{ts:List aQ}{rows:List (List AV)}(h:GS s1 s V ts rows)(h0:Wf s0)(N7:Grew s0 s1)(hg:Grew s0 s')(hk:∀q b,s1.next.toNat<=q.toNat->s.heap.get q=some b->s'.heap.get q=some b):GS s0 s' V ts rows:=
 ⟨Mk.oo h.out h0 N7 hg hk,h.len,λi t r hi hr=>by obtain⟨v,e1,e2,e3⟩:=h.dV i t r hi hr;exact⟨v,e1,Mk.oo e2 h0 N7 hg hk,e3⟩⟩
structure bM.Real(p:bM):Prop where
 ts:p.ts.length<=1000
 tab:∀t∈p.ts,t.Real
 gs:p.gs.length<=1000
 qj:∀t∈p.gs,t.Real
 ys:p.ys.length<=uq
 cs:p.cs.length<=uq
 rs:p.rs.length<=uq
theorem alZ(z:Bool)(l:List Ty):dc 3 (eX z l):=dc.ro λr hr v hv=>by simp only[Zc7]at hr;obtain⟨g,_,rfl⟩:=hr;simp only[Ty.cells,Za8,Zb7,Ze4]at hv;rcases hv with rfl|rfl|rfl<;>first|exact dc.str _|exact dc.int _ _
theorem uP{R:Type}{p:Pos}{o:Nat}{h:T AB}{v:AV}(hv:((cellsOf (h.get p)).bind λcs=>cs[o]?)=some v)(ok:AV->Bool)(cF:ok v=true)(K:AV->Option R):ia (.load none) [.ptr p o] h ok K=K v:=by
 unfold ia;have e:aF.run (λ_=>none) .h (.load none) [.ptr p o]=none:=rfl;rw[e];simp only;rw[td,hv];simp only[Ze2];rw[cF]
theorem lu{p:Pos}{o:Nat}{h:T AB}{v:AV}(hv:((cellsOf (h.get p)).bind λcs=>cs[o]?)=some v)(hb:eo v v=true):oJ (.load none) [.ptr p o] v (nE [] h)=true:=by unfold oJ;show(match aF.run (λb=>h.get b) .h (.load none) [.ptr p o]with|some (.val u)=>eo u v|_=>false)=true;rw[td,hv];exact hb
variable{c : au}
abbrev Sm(v:Int):Prop:=0<=v/\v<=1000000
def al0(a x y:Int):Bool:=decide (y - x=1)||decide (y - x=a - 1)
def al3(a x y:Int):Bool:=decide (a.tmod 2=0)&&decide (y - x=a.tdiv 2)
def IY(a b:Int):Int:=a+min b 1
def al4(a b x y:Int):Bool:=
 bif decide (b=2)&&decide (y=2*a+1)then decide (x=0)||decide (x=y - 1)
 else bif decide (0<b)&&(decide (x=a)||decide (y=a))then decide (y - x=1)else decide (y - x=1)&&(decide (y<a)||decide (IY a b<=x))
def al5(a b x y:Int):Bool:=bif decide (b=2)&&decide (y=2*a+1)then decide (x=a)else decide (x<a)&&decide (x+y=IY a b+a - 1)
def al6(x y:Int):Bool:=decide (y - x=1)
def al7(a b x y:Int):Bool:=decide (x<b)&&decide (x+y=a+2*b - 1)
def al8(b x y:Int):Bool:=decide (y - x=1)&&(decide (b=0)|| !decide (y.tmod b=0))
theorem aee(hc:Sem c)(a b x y:Int)(ha:Sm a)(hx:Sm x)(hy:Sm y)(st:St):
  c 205 [.int .i64 a,.int .i64 b,.int .i64 x,.int .i64 y] st=some (.bool (al0 a x y),st):=by
 have w1:ax .i64 (y - x)=y - x:=wrap64 (by omega) (by omega);have w2:ax .i64 (a - 1)=a - 1:=wrap64 (by omega) (by omega);rw[Ts hc 1 (r:=(.bool (al0 a x y),st)),aE (Plain.bool _) (aT.refl st)];rw[XE];unfold al0;cases h:decide (y - x=1)<;>simp[w1,w2,h]
theorem aef(hc:Sem c)(a b x y:Int)(ha:Sm a)(hx:Sm x)(hy:Sm y)(st:St):
  c 206 [.int .i64 a,.int .i64 b,.int .i64 x,.int .i64 y] st=some (.bool (al3 a x y),st):=by
 have w1:ax .i64 (y - x)=y - x:=wrap64 (by omega) (by omega);have hq:0<=a.tdiv 2/\a.tdiv 2<=1000000:=by rw[Zi0 ha.1];omega
 have w2:ax .i64 (a.tdiv 2)=a.tdiv 2:=wrap64 (by omega) (by omega);rw[Tt hc 1 (r:=(.bool (al3 a x y),st)),aE (Plain.bool _) (aT.refl st)];rw[XF];unfold al3;cases h:decide (a.tmod 2=0)<;>simp[w1,w2,h]
theorem aku(hc:Sem c)(a b:Int)(ha:Sm a)(hb:Sm b)(st:St):c 238 [.int .i64 a,.int .i64 b] st=some (.int .i64 (IY a b),st):=by
 have w1:ax .i64 (a+min b 1)=a+min b 1:=wrap64 (by omega) (by omega);rw[ail hc 1 (r:=(.int .i64 (IY a b),st)),aE (Plain.int _ _) (aT.refl st)];rw[al9];unfold IY;simp[w1]
theorem afN (hc:Sem c)(a b x y:Int)(ha:Sm a)(hb:Sm b)(hx:Sm x)(hy:Sm y)(st:St):
   c 210 [.int .i64 a,.int .i64 b,.int .i64 x,.int .i64 y] st=some (.bool (al4 a b x y),st):=by
 have w1:ax .i64 (y - x)=y - x:=wrap64 (by omega) (by omega);have w2:ax .i64 (y - 1)=y - 1:=wrap64 (by omega) (by omega);have w3:ax .i64 (2*a)=2*a:=wrap64 (by omega) (by omega);have w4:ax .i64 (2*a+1)=2*a+1:=wrap64 (by omega) (by omega);have t:=aku hc a b ha hb st;rw[Vz hc 1 (r:=(.bool (al4 a b x y),st)),aE (Plain.bool _) (aT.refl st)];rw[ZD];unfold al4;cases h1:decide (b=2)
 . cases  h4:decide (0<b)
   . cases h7:decide (y - x=1)
     .  simp[w1,w2,w3,w4,t,h1,h4,h7]
     .  cases h8:decide (y<a)<;>simp[w1,w2,w3,w4,t,h1,h4,h7,h8]
   . cases h5:decide (x=a)
     .  cases h6:decide (y=a)
        . cases h7:decide (y - x=1)
          . simp[w1,w2,w3,w4,t,h1,h4,h5,h6,h7]
          . cases h8:decide (y<a)<;>simp[w1,w2,w3,w4,t,h1,h4,h5,h6,h7,h8]
        . simp[w1,w2,w3,w4,t,h1,h4,h5,h6]
     .  simp[w1,w2,w3,w4,t,h1,h4,h5]
 . cases  h2:decide (y=2*a+1)
   . cases  h4:decide (0<b)
     .  simp at h1 h4;omega
     .  cases h5:decide (x=a)
        . cases h6:decide (y=a)
          . cases h7:decide (y - x=1)
            . simp[w1,w2,w3,w4,t,h1,h2,h4,h5,h6,h7]
            . cases h8:decide (y<a)<;>simp[w1,w2,w3,w4,t,h1,h2,h4,h5,h6,h7,h8]
          . simp[w1,w2,w3,w4,t,h1,h2,h4,h5,h6]
        . simp[w1,w2,w3,w4,t,h1,h2,h4,h5]
   . cases h3:decide (x=0)<;>simp[w1,w2,w3,w4,t,h1,h2,h3]
theorem afO(hc:Sem c)(a b x y:Int)(ha:Sm a)(hb:Sm b)(hx:Sm x)(hy:Sm y)(st:St):
   c 211 [.int .i64 a,.int .i64 b,.int .i64 x,.int .i64 y] st=some (.bool (al5 a b x y),st):=by
 have w1:ax .i64 (x+y)=x+y:=wrap64 (by omega) (by omega);have w3:ax .i64 (2*a)=2*a:=wrap64 (by omega) (by omega);have w4:ax .i64 (2*a+1)=2*a+1:=wrap64 (by omega) (by omega);have hT:0<=IY a b/\IY a b<=1000001:=by unfold IY;omega
 have w5:ax .i64 (IY a b+a)=IY a b+a:=wrap64 (by omega) (by omega);have w6:ax .i64 (IY a b+a - 1)=IY a b+a - 1:=wrap64 (by omega) (by omega);have t:=aku hc a b ha hb st;rw[VC hc 1 (r:=(.bool (al5 a b x y),st)),aE (Plain.bool _) (aT.refl st)];rw[ZE];unfold al5;cases h1:decide (b=2)
 . cases h3:decide (x<a)<;>simp[w1,w3,w4,w5,w6,t,h1,h3]
 . cases h2:decide (y=2*a+1)
   . cases h3:decide (x<a)<;>simp[w1,w3,w4,w5,w6,t,h1,h2,h3]
   . simp[w1,w3,w4,t,h1,h2]
theorem afP(hc:Sem c)(a b x y:Int)(hx:Sm x)(hy:Sm y)(st:St):
  c 215 [.int .i64 a,.int .i64 b,.int .i64 x,.int .i64 y] st=some (.bool (al6 x y),st):=by
 have w1:ax .i64 (y - x)=y - x:=wrap64 (by omega) (by omega);rw[VD hc 1 (r:=(.bool (al6 x y),st)),aE (Plain.bool _) (aT.refl st)];rw[ZF];unfold al6;simp[w1]
theorem afQ(hc:Sem c)(a b x y:Int)(ha:Sm a)(hb:Sm b)(hx:Sm x)(hy:Sm y)(st:St):
  c 216 [.int .i64 a,.int .i64 b,.int .i64 x,.int .i64 y] st=some (.bool (al7 a b x y),st):=by
 have w1:ax .i64 (x+y)=x+y:=wrap64 (by omega) (by omega);have w2:ax .i64 (2*b)=2*b:=wrap64 (by omega) (by omega);have w3:ax .i64 (a+2*b)=a+2*b:=wrap64 (by omega) (by omega);have w4:ax .i64 (a+2*b - 1)=a+2*b - 1:=wrap64 (by omega) (by omega);rw[VE hc 1 (r:=(.bool (al7 a b x y),st)),aE (Plain.bool _) (aT.refl st)];rw[ZG];unfold al7;cases h:decide (x<b)<;>simp[w1,w2,w3,w4,h]
theorem aim(hc:Sem c)(a b x y:Int)(hx:Sm x)(hy:Sm y)(st:St):
   c 220 [.int .i64 a,.int .i64 b,.int .i64 x,.int .i64 y] st=some (.bool (al8 b x y),st):=by
 have w1:ax .i64 (y - x)=y - x:=wrap64 (by omega) (by omega);rw[XG hc 1 (r:=(.bool (al8 b x y),st)),aE (Plain.bool _) (aT.refl st)];rw[abu];unfold al8;cases h:decide (y - x=1)
 . simp[w1,h]
 . cases h2:decide (b=0)
   . have hb:b≠0:=(by simpa using h2);simp[w1,h,h2,adI _ _ _ _ _ _ _ hb]
   . simp[w1,h,h2]
theorem au4(hc:Sem c)(a b x y:Int)(st:St):c 221 [.int .i64 a,.int .i64 b,.int .i64 x,.int .i64 y] st=some (.bool false,st):=by rw[VF hc 1 (r:=(.bool false,st)),aE (Plain.bool _) (aT.refl st)];rw[ZH];simp
variable{c : au}
structure aB.Fit(t:aB):Prop where
 sh:1<=t.sh/\t.sh<=4
 a:0<=t.a/\t.a<=24
 b:0<=t.b/\t.b<=24
theorem acW{t:aB}(h:bJ t≠0):t.Fit:=by
 unfold bJ at h;split at h
 . split at h
   . exact⟨by omega,by omega,by omega⟩
   . exact absurd rfl h
 split at h
 . split at h
   . exact⟨by omega,by omega,by omega⟩
   . exact absurd rfl h
 split at h
 . split at h
   . exact⟨by omega,by omega,by omega⟩
   . exact absurd rfl h
 split at h
 . split at h
   . exact⟨by omega,by omega,by omega⟩
   . exact absurd rfl h
 . exact absurd rfl h
def Pe(t:aB)(x y:Int):Bool:=
 !decide (x=y)&&(if t.sh=1 then al0 t.a (min x y) (max x y)else if t.sh=2 then al4 t.a t.b (min x y) (max x y)else if t.sh=3 then al6 (min x y) (max x y)else al8 t.b (min x y) (max x y))
def Tu(t:aB)(x y:Int):Bool:=
 !decide (x=y)&&(if t.sh=1 then al3 t.a (min x y) (max x y)else if t.sh=2 then al5 t.a t.b (min x y) (max x y)else if t.sh=3 then al7 t.a t.b (min x y) (max x y)else false)
def AL(t:aB)(x y:Int):Bool:=Pe t x y||Tu t x y
theorem ae8(hc:Sem c)(t:aB)(ht:t.Fit)(x y:Int)(hx:Sm x)(hy:Sm y)(st:St)(hw:Wf st):
   c 126 [.agg t.cells,.int .i64 x,.int .i64 y] st=some (.bool (Pe t x y),st):=by
 have hm:Sm (min x y):=by omega
 have hM:Sm (max x y):=by omega
 obtain⟨⟨s1,s2⟩,⟨a1,a2⟩,b1,b2⟩:=ht;rw[acX hc 1 (r:=(.bool (Pe t x y),ah (ah st (.cells t.cells 0)) (.cells (iq t.sh) 0))),aE (Plain.bool _) ((cm hw).trans (cm (bn hw)))];rw[afR];obtain⟨name,sh,a,b,oz,jr,tx,ty⟩:=t;simp only at s1 s2 a1 a2 b1 b2;have ha:Sm a:=by omega
 have hb:Sm b:=by omega
 have hS:sh=1\/sh=2\/sh=3\/sh=4:=by omega
 cases h:decide (x=y)
 . rcases hS with rfl|rfl|rfl|rfl
   . simp[aB.cells,AV.cells,fM hc,hw,Pe,iq,aM,AV.one,h,aee hc a b _ _ ha hm hM]
   . simp[aB.cells,AV.cells,fM hc,hw,Pe,iq,aM,AV.one,h,afN hc a b _ _ ha hb hm hM]
   . simp[aB.cells,AV.cells,fM hc,hw,Pe,iq,aM,AV.one,h,afP hc a b _ _ hm hM]
   . simp[aB.cells,AV.cells,fM hc,hw,Pe,iq,aM,AV.one,h,aim hc a b _ _ hm hM]
 . rcases hS with rfl|rfl|rfl|rfl<;>simp[aB.cells,AV.cells,fM hc,hw,Pe,iq,aM,AV.one,h]
theorem ae9(hc:Sem c)(t:aB)(ht:t.Fit)(x y:Int)(hx:Sm x)(hy:Sm y)(st:St)(hw:Wf st):
   c 127 [.agg t.cells,.int .i64 x,.int .i64 y] st=some (.bool (Tu t x y),st):=by
 have hm:Sm (min x y):=by omega
 have hM:Sm (max x y):=by omega
 obtain⟨⟨s1,s2⟩,⟨a1,a2⟩,b1,b2⟩:=ht;rw[acY hc 1 (r:=(.bool (Tu t x y),ah (ah st (.cells t.cells 0)) (.cells (iq t.sh) 0))),aE (Plain.bool _) ((cm hw).trans (cm (bn hw)))];rw[afS];obtain⟨name,sh,a,b,oz,jr,tx,ty⟩:=t;simp only at s1 s2 a1 a2 b1 b2;have ha:Sm a:=by omega
 have hb:Sm b:=by omega
 have hS:sh=1\/sh=2\/sh=3\/sh=4:=by omega
 cases h:decide (x=y)
 . rcases hS with rfl|rfl|rfl|rfl
   . simp[aB.cells,AV.cells,fM hc,hw,Tu,iq,aM,AV.one,h,aef hc a b _ _ ha hm hM]
   . simp[aB.cells,AV.cells,fM hc,hw,Tu,iq,aM,AV.one,h,afO hc a b _ _ ha hb hm hM]
   . simp[aB.cells,AV.cells,fM hc,hw,Tu,iq,aM,AV.one,h,afQ hc a b _ _ ha hb hm hM]
   . simp[aB.cells,AV.cells,fM hc,hw,Tu,iq,aM,AV.one,h,au4 hc]
 . rcases hS with rfl|rfl|rfl|rfl<;>simp[aB.cells,AV.cells,fM hc,hw,Tu,iq,aM,AV.one,h]
theorem asS(hc:Sem c)(t:aB)(ht:t.Fit)(x y:Int)(hx:Sm x)(hy:Sm y)(st:St)(hw:Wf st):
  c 224 [.agg t.cells,.int .i64 x,.int .i64 y] st=some (.bool (AL t x y),st):=by
 have hp:=az st (.cells t.cells 0);have B:=ae8 hc t ht x y hx hy _ (bn (b:= .cells t.cells 0) hw);have A:=ae9 hc t ht x y hx hy _ (bn (b:= .cells t.cells 0) hw);rw[afT hc 1 (r:=(.bool (AL t x y),ah st (.cells t.cells 0))),aE (Plain.bool _) (cm hw)];rw[ajy];unfold AL;cases h:Pe t x y<;>simp[hp,B,A,h,aB.len]
def XH:List aB->Int->Nat->Option (Nat×Int)
 |[],_,_=>none
 |t::ts,s,i=>if s<bJ t then some (i,s)else XH ts (s - bJ t) (i+1)
theorem ain:∀{ts:List aB}{s:Int}{i:Nat}{k:Nat}{x:Int},0<=s->XH ts s i=some (k,x)->i<=k/\0<=x/\∃t,ts[k - i]? =some t/\x<bJ t
 |[],_,_,_,_,_,h=>by cases h
 |t ::ts,s,i,k,x,hs,h=>by
  unfold XH at h;split at h
  . simp only[H5,Zd1]at h;obtain⟨rfl,rfl⟩:=h;exact⟨Za3 _,hs,t,by simp,by assumption⟩
  . obtain⟨h1,h2,t',h3,h4⟩:=ain (by omega) h;refine⟨by omega,h2,t',?_,h4⟩;rw[show k - i=(k - (i+1))+1 by omega,Zb8];exact h3
def Fp:Option (Nat×Int)->AV
 |some (i,x)=> .tuple [.int .i64 (i:Int),.int .i64 x,.bool true]
 |none=> .tuple [.int .i64 0,.int .i64 0,.bool false]
theorem afa(o:Option (Nat×Int)):Plain (Fp o):=by
 cases o with
 |none=>exact Plain.tuple λv hv=>by simp at hv;rcases hv with rfl|rfl|rfl<;>first|exact Plain.int _ _|exact Plain.bool _
 |some p=>exact Plain.tuple λv hv=>by simp at hv;rcases hv with rfl|rfl|rfl<;>first|exact Plain.int _ _|exact Plain.bool _
def Fq(ts:List aB)(s:Int):Option (Nat×Int):=if s<0\/(bR ts).2≠0 then none else XH ts s 0
theorem ama(hc:Sem c)(z:Bool)(ts:List aB)(hl:ts.length<=16)(F:Nat)(k1 k2):∀(m k:Nat)(s:Int)(st:St),Wf st->ts.length<=k+m->k<=ts.length->0<=s->s<=4611686018427387904->
  ∃ st',Grew st st'/\sM c F k1 k2 (m+1) [.int .i64 s,tabs z ts,.int .i64 (ts.length:Int),.int .i64 (k:Int)] st=
    (match XH (ts.drop k) s k with|some (i,x)=>k1 [.int .i64 (i:Int),.int .i64 x,.bool true] st'|none=>k2 [] st'):=by
 intro m;induction m with
 |zero=>
  intro k s st hw h1 h2 h3 h4;obtain rfl:k=ts.length:=by omega
  refine⟨st,Grew.refl hw,?_⟩;rw[yA];simp[XH]
 |succ m ih=>
  intro k s st hw h1 h2 h3 h4;by_cases h:k<ts.length
  . have w:ax .i64 ((k:Int)+1)=((k+1:Nat):Int):=wrap64 (by omega) (by omega);have cg:Wf (ah st (.cells ts[k].cells 0)):=bn hw;have hg:=Grew.ah hw (.cells ts[k].cells 0);have hs:=QT hc ts[k] _ cg;have b2:=Bf ts[k];have w2:ax .i64 (s - bJ ts[k])=s - bJ ts[k]:=wrap64 (by omega) (by omega);rw[Zd9 h];unfold XH;by_cases aV:s<bJ ts[k]
    .   refine⟨_,hg,?_⟩;rw[yA];simp[tabs,h,hs,aV,aB.len]
    .   obtain⟨st',g1,g2⟩:=ih (k+1) (s - bJ ts[k]) _ cg (by omega) (by omega) (by omega) (by omega);refine⟨st',hg.trans g1,?_⟩;simp only[aV,Zh0];rw[<-g2,yA];simp[tabs,h,hs,w,w2,aV,aB.len]
  . obtain rfl:k=ts.length:=(by omega);refine⟨st,Grew.refl hw,?_⟩;rw[yA];simp[XH]
theorem Tv(hc:Sem c)(z:Bool)(ts:List aB)(cF:∀t∈ts,t.Ok)(s:Int)(hs:s<=4611686018427387904)(st:St)(hw:Wf st):
   c 123 [tabs z ts,.int .i64 s] st=some (Fp (Fq ts s),st):=by
 have lT:∀(K:AV->St->Option (AV×St))(s:St),aq c (.lenB .l) [tabs z ts] s K=K (.int .i64 (ts.length:Int)) s:=λK s=>by unfold tabs;rw[fE];simp
 have hv:=Tl hc z ts cF st hw;by_cases h:s<0\/(bR ts).2≠0
 . have e:Fq ts s=none:=(by rw[Fq,Zb3 h]);rw[Q6 hc 1 (r:=(Fp (Fq ts s),st)),aE (afa _) (aT.refl st)];rw[XI,e];by_cases h1:s<0
   . simp[h1,Fp]
   . have h3:(bR ts).2≠0:=h.resolve_left h1;simp[h1,h3,hv,Fp]
 . have e:Fq ts s=XH ts s 0:=(by rw[Fq,Za7 h]);have h1:¬s<0:=λe=>h (.inl e)
   have h3:(bR ts).2=0:=Zk7 λe=>h (.inr e)
   have hl:=Oh h3;have hex:=λk1 k2=>ama hc z ts hl 20 k1 k2 19 0 s st hw (by omega) (by omega) (by omega) hs
   obtain⟨st',hg,L⟩:=hex (λvs s40=>fO vs λx4 vs=>fO vs λx5 vs=>fO vs λx6 vs=>iT vs (some (.tuple [x4,x5,x6],s40)))
     (λvs s41=>iT vs (aq c .move [.int .i64 0] s41 λx4 s42=>aq c .move [.int .i64 0] s42 λx5 s43=>aq c .move [.bool false] s43 λx6 s44=>some (.tuple [x4,x5,x6],s44)))
   rw[Q6 hc 20 (r:=(Fp (Fq ts s),st')),aE (afa _) hg.keeps];rw[XI,e]
   have L':sM c 20 (λvs s40=>fO vs λx4 vs=>fO vs λx5 vs=>fO vs λx6 vs=>iT vs (some (.tuple [x4,x5,x6],s40)))
     (fun vs s41=>iT vs (aq c .move [.int .i64 0] s41 fun x4 s42=>aq c .move [.int .i64 0] s42 fun x5 s43=>aq c .move [.bool false] s43 fun x6 s44=>some (.tuple [x4,x5,x6],s44))) 20
        [.int .i64 s,tabs z ts,.int .i64 (ts.length:Int),.int .i64 0] st=some (Fp (XH ts s 0),st'):=by
     have:=L;simp only[Zf3]at this;rw[show((0:Nat):Int)=0 from rfl]at this;rw[this];cases XH ts s 0 with
     |none=>simp[Fp]
     |some p=>simp[Fp]
   simp at L';simp[h1,h3,hv,lT,L']
def qf(ts:List aB)(a b:Int):Option (aB×Int×Int):=match Fq ts a,Fq ts b with
 |some (i,x),some (k,y)=>if i=k then(ts[i]?).map λt=>(t,x,y)else none
 |_,_=>none
def zT:aB:=⟨[],0,0,0,true,[],0,0⟩
def BS:Option (aB×Int×Int)->AV
 |some (t,x,y)=> .tuple [.agg t.cells,.int .i64 x,.int .i64 y,.bool true]
 |none=> .tuple [.agg zT.cells,.int .i64 0,.int .i64 0,.bool false]
theorem aai(ts:List aB):∀(m k:Nat),ts.length<=k+m->(iF ts m k).2=0->∀(i:Nat)(t:aB),k<=i->ts[i]? =some t->rZ t=0
 |0,k,h1,_,i,t,h3,h4=>by rw[Zc4 (by omega)]at h4;cases h4
 |m +   1,k,h1,h2,i,t,h3,h4=>by
  have hk:k<ts.length:=by have:=(Za1.1 h4).1;omega
  rw[iF,H0 hk]at h2;simp only at h2;by_cases h5:rZ ts[k]=0
  . rw[Za7 (by simpa using h5)]at h2;split at h2
    .   simp at h2
    .   by_cases h6:i=k
        . subst h6;rw[H0 hk]at h4;cases h4;exact h5
        . exact aai ts m (k+1) (by omega) h2 i t (by omega) h4
  . rw[Zb3 h5]at h2;exact absurd h2 h5
theorem afb{ts:List aB}(h:(bR ts).2=0){i:Nat}{t:aB}(ht:ts[i]? =some t):rZ t=0:=by
 unfold bR at h;split at h
 . simp at h
 . exact aai ts _ 0 (by omega) h i t (by omega) ht
theorem an5{t:aB}(h:rZ t=0):bJ t≠0:=by
 unfold rZ at h;split at h
 . cases h
 . split at h
   . cases h
   . assumption
theorem Mp{ts:List aB}{s:Int}{i:Nat}{x:Int}(h:Fq ts s=some (i,x)):(bR ts).2=0/\0<=x/\∃t,ts[i]? =some t/\x<bJ t/\t.Fit:=by
 unfold Fq at h;split at h
 . cases h
 . (rename_i hn;have h1:¬s<0:=λe=>hn (.inl e));have h3:(bR ts).2=0:=Zk7 λe=>hn (.inr e)
   obtain⟨_,q2,t,q3,q4⟩:=ain (by omega) h;exact⟨h3,q2,t,q3,q4,acW (an5 (afb h3 q3))⟩
theorem acZ{ts:List aB}{a b:Int}{t:aB}{x y:Int}(h:qf ts a b=some (t,x,y)):t.Fit/\Sm x/\Sm y:=by
 unfold qf at h;split at h
 . rename_i i x' k y' h1 h2;split at h
   . rename_i hk;subst hk;obtain⟨_,p1,t1,p2,p3,p4⟩:=Mp h1;obtain⟨_,q1,t2,q2,q3,_⟩:=Mp h2;rw[p2]at q2 h;cases q2;simp only[Ze2,H5,Zd1]at h;obtain⟨rfl,rfl,rfl⟩:=h;have:=Bf t1;exact⟨p4,by omega,by omega⟩
   . cases h
 . cases h
theorem ajz(o:Option (aB×Int×Int)):Plain (BS o):=by
 cases o with
 |none=>exact Plain.tuple λv hv=>by simp at hv;rcases hv with rfl|rfl|rfl|rfl<;>first|exact Plain.agg (by intro v hv;simp only[aB.cells,Za8,Zb7,Ze4]at hv;rcases hv with rfl|rfl|rfl|rfl|rfl|rfl|rfl<;>first|exact Plain.str _|exact Plain.int _ _|exact acH _ _)|exact Plain.int _ _|exact Plain.bool _
 |some p=>exact Plain.tuple λv hv=>by simp at hv;rcases hv with rfl|rfl|rfl|rfl<;>first|exact Plain.agg (by intro v hv;simp only[aB.cells,Za8,Zb7,Ze4]at hv;rcases hv with rfl|rfl|rfl|rfl|rfl|rfl|rfl<;>first|exact Plain.str _|exact Plain.int _ _|exact acH _ _)|exact Plain.int _ _|exact Plain.bool _
def BT:Option (aB×Int×Int)->List AV
 |some (t,_,_)=>t.cells
 |none=>zT.cells
theorem aio(hc:Sem c)(z:Bool)(ts:List aB)(cF:∀t∈ts,t.Ok)(a b:Int)(ha:a<=4611686018427387904)(hb:b<=4611686018427387904)(st:St)(hw:Wf st):
  c 125 [tabs z ts,.int .i64 a,.int .i64 b] st=some (BS (qf ts a b),st):=by
 have cg:Wf (ah st (.cells [.str [],.int .u8 0,.int .i64 0,.int .i64 0,.af,.int .i64 0,.int .i64 0] 0)):=bn hw;have hcut:cut [AV.str [],.int .u8 0,.int .i64 0,.int .i64 0,.af,.int .i64 0,.int .i64 0] 0 7=some [AV.str [],.int .u8 0,.int .i64 0,.int .i64 0,.af,.int .i64 0,.int .i64 0]:=rfl;have Wa:=Tv hc z ts cF a ha _ cg;have Wb:=Tv hc z ts cF b hb _ cg;rw[afU hc 1 (r:=(BS (qf ts a b),ah st (.cells (BT (qf ts a b)) 0))),aE (ajz _) (cm hw)];rw[ajA];cases h1:Fq ts a with
 |none=>
  have e:qf ts a b=none:=by unfold qf;rw[h1]
  rw[h1]at Wa;rw[e];cases h2:Fq ts b with
  |none=>rw[h2]at Wb;simp[Wa,Wb,Fp,BS,BT,zT,aB.cells,AV.cells,ints,ro,aM,AV.one,bY,hcut]
  |some q=>rw[h2]at Wb;simp[Wa,Wb,Fp,BS,BT,zT,aB.cells,AV.cells,ints,ro,aM,AV.one,bY,hcut]
 |some p=>
  obtain⟨i,x⟩:=p;rw[h1]at Wa;cases h2:Fq ts b with
  |none=>
   have e:qf ts a b=none:=(by unfold qf;rw[h1,h2]);rw[h2]at Wb;rw[e];simp[Wa,Wb,Fp,BS,BT,zT,aB.cells,AV.cells,ints,ro,aM,AV.one,bY,hcut]
  |some q=>
   obtain⟨k,y⟩:=q;rw[h2]at Wb;obtain⟨_,p1,t1,p2,p3,p4⟩:=Mp h1;by_cases hk:i=k
   .    subst hk;have e:qf ts a b=some (t1,x,y):=(by unfold qf;rw[h1,h2];simp[p2]);obtain⟨hi,hg⟩:=Za1.1 p2;rw[e];subst hg;unfold tabs at Wa Wb ⊢;simp[Wa,Wb,Fp,BS,BT,hi,aB.len]
   .    have e:qf ts a b=none:=(by unfold qf;rw[h1,h2];simp[hk]);have uj:¬(i:Int)=(k:Int):=(by omega);rw[e];simp[Wa,Wb,Fp,uj,BS,BT,zT,aB.cells,AV.cells,ints,ro,aM,AV.one,bY,hcut]
def XJ(ts:List aB)(a b:Int):Bool:=match qf ts a b with|some (t,x,y)=>Pe t x y|none=>false
def XK(ts:List aB)(a b:Int):Bool:=match qf ts a b with|some (t,x,y)=>Tu t x y|none=>false
theorem an6(hc:Sem c)(z:Bool)(ts:List aB)(cF:∀t∈ts,t.Ok)(a b:Int)(ha:a<=4611686018427387904)(hb:b<=4611686018427387904)(st:St)(hw:Wf st):
  c 64 [tabs z ts,.int .i64 a,.int .i64 b] st=some (.bool (XJ ts a b),st):=by
 have P:=aio hc z ts cF a b ha hb st hw;rw[ac0 hc 1 (r:=(.bool (XJ ts a b),ah st (.cells (BT (qf ts a b)) 0))),aE (Plain.bool _) (cm hw)];rw[afV];unfold XJ;cases h:qf ts a b with
 |none=>rw[h]at P;simp[P,BS,BT,aB.len]
 |some p=>
  obtain⟨t,x,y⟩:=p;obtain⟨q1,q2,q3⟩:=acZ h;have B:=ae8 hc t q1 x y q2 q3 (ah st (.cells t.cells 0)) (bn hw);rw[h]at P;simp[P,BS,BT,aB.len,B]
theorem an7(hc:Sem c)(z:Bool)(ts:List aB)(cF:∀t∈ts,t.Ok)(a b:Int)(ha:a<=4611686018427387904)(hb:b<=4611686018427387904)(st:St)(hw:Wf st):
  c 66 [tabs z ts,.int .i64 a,.int .i64 b] st=some (.bool (XK ts a b),st):=by
 have P:=aio hc z ts cF a b ha hb st hw;rw[ac1 hc 1 (r:=(.bool (XK ts a b),ah st (.cells (BT (qf ts a b)) 0))),aE (Plain.bool _) (cm hw)];rw[afW];unfold XK;cases h:qf ts a b with
 |none=>rw[h]at P;simp[P,BS,BT,aB.len]
 |some p=>
  obtain⟨t,x,y⟩:=p;obtain⟨q1,q2,q3⟩:=acZ h;have B:=ae9 hc t q1 x y q2 q3 (ah st (.cells t.cells 0)) (bn hw);rw[h]at P;simp[P,BS,BT,aB.len,B]
def zm(x:Int):List Int->Nat->Int
 |[],_=> -1
 |y::l,i=>if x=y then(i:Int)else zm x l (i+1)
theorem akv{x:Int}:∀(l:List Int)(i:Nat),(0<=zm x l i)↔x∈l
 |[],i=>by simp[zm]
 |y::l,i=>by
  unfold zm;by_cases h:x=y
  . simp[h]
  . rw[Za7 h,akv l (i+1)];simp[h]
theorem an8(x:Int)(z:Bool)(l:List Int)(hl:l.length<xj)(F:Nat)(st:St)(k1 k2):∀(m k:Nat),l.length<=k+m->k<=l.length->
  j6 c F k1 k2 (m+1) [ints z l,.int .i64 x,.int .i64 (l.length:Int),.int .i64 (k:Int)] st=
    if 0<=zm x (l.drop k) k then k1 [.int .i64 (zm x (l.drop k) k)] st else k2 [] st:=by
 intro m;induction m with
 |zero=>
  intro k h1 h2;obtain rfl:k=l.length:=by omega
  rw[yB];simp[zm]
 |succ m ih=>
  intro k h1 h2;rw[yB];by_cases h:k<l.length
  . have w:ax .i64 ((k:Int)+1)=((k+1:Nat):Int):=wrap64 (by omega) (by unfold xj at hl;omega);rw[Zd9 h,zm];by_cases h3:x=l[k]
    .   subst h3;simp[ints,h]
    .   have:=ih (k+1) (by omega) (by omega);simp only[h3,Zh0];rw[<-this];simp[ints,h,h3,w]
  . obtain rfl:k=l.length:=(by omega);simp[zm]
theorem an9(hc:Sem c)(z:Bool)(l:List Int)(hl:l.length<xj)(x:Int)(st:St):c 138 [ints z l,.int .i64 x] st=some (.int .i64 (zm x l 0),st):=by
 have lI:∀(K:AV->St->Option (AV×St))(s:St),aq c (.lenB .l) [ints z l] s K=K (.int .i64 (l.length:Int)) s:=λK s=>by unfold ints;rw[fE];simp
 have L:=λk1 k2=>an8 (c:=c) x z l hl (l.length+1) st k1 k2 l.length 0 (by omega) (by omega)
 simp only[Zf3]at L;rw[Mq hc (l.length+1) (r:=(.int .i64 (zm x l 0),st)),aE (Plain.int _ _) (aT.refl st)];rw[Pg];simp only[aA,lI];rw[show(0:Int)=((0:Nat):Int)from rfl,L];by_cases h:0<=zm x l 0
 . simp[h]
 . have:zm x l 0= -1:=by
    have:∀(l:List Int)(i:Nat),0<=zm x l i\/zm x l i= -1:=by
        intro l;induction l with
        |nil=>intro i;exact .inr rfl
        |cons y l ih=>intro i;unfold zm;split;exact .inl (by omega);exact ih _
    exact(this l 0).resolve_left h
   simp[h,this]
theorem aip(hc:Sem c)(z:Bool)(l:List Int)(hl:l.length<xj)(x:Int)(st:St):c 73 [ints z l,.int .i64 x] st=some (.bool (decide (x∈l)),st):=by
 rw[HR hc 1 (r:=(.bool (decide (x∈l)),st)),aE (Plain.bool _) (aT.refl st)];rw[KY];have e:decide (0<=zm x l 0)=decide (x∈l):=by rw[decide_eq_decide];exact akv l 0
 simp[an9 hc z l hl x st,e]
def OV(ts:List aB)(a:Int):Bool:=match Fq ts a with|some (i,x)=>decide (x∈(ts[i]?.getD zT).jr)|none=>false
theorem asT(hc:Sem c)(z:Bool)(ts:List aB)(cF:∀t∈ts,t.Ok)(a:Int)(ha:a<=4611686018427387904)(st:St)(hw:Wf st):
  c 61 [tabs z ts,.int .i64 a] st=some (.bool (OV ts a),st):=by
 have W:=Tv hc z ts cF a ha st hw;rw[afX hc 1 (r:=(.bool (OV ts a),st)),aE (Plain.bool _) (aT.refl st)];rw[ajB];unfold OV;cases h:Fq ts a with
 |none=>rw[h]at W;simp[W,Fp]
 |some p=>
  obtain⟨i,x⟩:=p;obtain⟨_,p1,t1,p2,p3,p4⟩:=Mp h;obtain⟨hi,hg⟩:=Za1.1 p2;subst hg;have c4:(ts[i]).cells[4]? =some (ints (ts[i]).oz (ts[i]).jr):=rfl;have C:=aip hc (ts[i]).oz (ts[i]).jr (cF _ (Zc2 hi)).jr x st;rw[h]at W;unfold tabs at W ⊢;simp[W,Fp,hi,c4,C]
variable{c : au}
abbrev aiq(m:Nat):List AV:=[.int .i64 (m:Int)]
abbrev cI(i:Int):AV:= .int .i64 i
def qQ(nr:Nat->Bool)(k:Nat):List Nat->List Int->List Nat->List Int×List Nat
 |[],o,q=>(o,q)
 |m::ms,o,q=>if o.getD m 0<0/\nr m=true then qQ nr k ms (o.set m (o.getD k 0+1)) (q++[m])else qQ nr k ms o q
def agl(nr:Nat->Nat->Bool)(n:Nat):Nat->List Int->List Nat->List Int
 |0,o,_=>o
 |_+1,o,[]=>o
 |f+1,o,k::q=>agl nr n f (qQ (nr k) k (List.range n) o q).1 (qQ (nr k) k (List.range n) o q).2
structure SI(s0 s:St)(pt po:Pos)(t:aB)(n:Nat)(o:List Int)(qv:AV)(q:List Nat)(B:Int):Prop where
 jq:Wf s0
 ai:Grew s0 s
 tab:s.heap.get pt=some (.cells t.cells 0)
 out:s.heap.get po=some (.cells (o.map cI) 0)
 len:o.length=n
 Mr:QS 1 s qv (q.map aiq)
 ne1:aK qv≠some pt
 ne2:aK qv≠some po
 ne3:pt≠po
 aqE:s0.next.toNat<=pt.toNat
 amb:s0.next.toNat<=po.toNat
 Gq:∀b,aK qv=some b->s0.next.toNat<=b.toNat
 small:∀v∈o,-1<=v/\v<=B
 qlt:∀m∈q,m<n
theorem KZ(o:List Int)(j:Nat)(h:j<o.length)(v:Int):aU (o.map cI) j [cI v]=(o.set j v).map cI:=by unfold aU;rw[Zq5,Zn0,Zb3 (by simpa using h)];simp
theorem asU (hc:Sem c){s0:St}{pt po:Pos}{t:aB}(ht:t.Fit){n:Nat}(hn:n<=1000){k:Nat}(hk:k<n){B:Int}(hB:B<=1000000)(F:Nat)(k6):
  ∀ (r j f:Nat)(s:St)(o:List Int)(qv:AV)(q:List Nat),r<f->j+r=n->SI s0 s pt po t n o qv q (B+1)->o.getD k 0<=B->0<=o.getD k 0->q.length<=4000+j->
    ∃   s' qv',SI s0 s' pt po t n (qQ (λm=>AL t k m) k (List.range' j r) o q).1 qv' (qQ (λm=>AL t k m) k (List.range' j r) o q).2 (B+1)/\
        sN c F k6 f [.ptr pt 0,.slice po 0 n (some n) 1,qv,.int .i64 (k:Int),.slice po 0 n (some n) 1,.int .i64 (n:Int),.int .i64 (j:Int)] s=k6 [.ptr pt 0,.slice po 0 n (some n) 1,qv'] s':=by
 intro r;induction r with
 |zero=>
  intro j f s o qv q hf h1 hI uk DT hq;obtain⟨g,rfl⟩:∃g,f=g+1:=⟨f - 1,by omega⟩
  obtain rfl:j=n:=by omega
  refine⟨s,qv,hI,?_⟩;rw[yC];simp
 |succ r ih=>
  intro j f s o qv q hf h1 hI uk DT hq;obtain⟨g,rfl⟩:∃g,f=g+1:=⟨f - 1,by omega⟩
  have hj:j<n:=by omega
  have hjo:j<o.length:=by rw[hI.len];exact hj
  have Ux:k<o.length:=by rw[hI.len];exact hk
  have hw:=hI.ai.wf;have w:ax .i64 ((j:Int)+1)=((j+1:Nat):Int):=wrap64 (by omega) (by omega);have N:=asS hc t ht k j ⟨by omega,by omega⟩ ⟨by omega,by omega⟩ s hw;have ix:∀(i:Nat),i<n->∀(K:AV->St->Option (AV×St))(s1:St),aq c (.idxA 1 none) [.slice po 0 n (some n) 1,.int .i64 (i:Int)] s1 K=K (.ptr po i) s1:=λi hi K s1=>by rw[iV c K s1 hi];simp
  have ixj:=ix j hj;have ixk:=ix k hk;have gj:(o.map cI)[j]? =some (.int .i64 o[j]):=by rw[Zb4,H0 hjo];rfl
  have gk:(o.map cI)[k]? =some (.int .i64 o[k]):=by rw[Zb4,H0 Ux];rfl
  have ej:o.getD j 0=o[j]:=by simp[List.getD,H0 hjo]
  have ek:o.getD k 0=o[k]:=by simp[List.getD,H0 Ux]
  have tb:=hI.tab;have ou:=hI.out;rw[Zp9];by_cases hd:o[j]<0
  . cases   hb:AL t k j with
    |   true=>
        have e:qQ (λm=>AL t k m) k (j::List.range' (j+1) r) o q=qQ (λm=>AL t k m) k (List.range' (j+1) r) (o.set j (o[k]+1)) (q++[j]):=by
         rw[qQ,Zb3 ⟨by rw[ej];exact hd,hb⟩,ek]
        have w2:ax .i64 (o[k]+1)=o[k]+1:=wrap64 (by omega) (by omega);have XL:=hw _ _ ou;have gJ:∀(K:AV->St->Option (AV×St)),aq c (.store 1) [.ptr po j,.int .i64 (o[k]+1)] s K=K .undef (aY s po (.cells ((o.set j (o[k]+1)).map cI) 0)):=λK=>by rw[bP c K s 1 po j (.int .i64 (o[k]+1)) (o.map cI) ou rfl (by simp;omega) rfl, <-KZ o j hjo];rfl
        have cg:Wf (aY s po (.cells ((o.set j (o[k]+1)).map cI) 0)):=jD hw XL;have q1:QS 1 (aY s po (.cells ((o.set j (o[k]+1)).map cI) 0)) qv (q.map aiq):=hI.Mr.mono λb x hb hx=>by rw[aG (λe=>hI.ne2 (by rw[hb,e]))];exact hx
        obtain⟨s5,v5,a1,a2,a3,a4,a5,a6⟩:=q1.push (c:=c) (R:=AV×St) (bytes:=8) cg (λr hr=>by simp only[Zc7]at hr;obtain⟨m,_,rfl⟩:=hr;rfl) (z:=[.int .i64 0]) (x:= .int .i64 (j:Int)) rfl rfl rfl (by decide) (by simp;omega) (by simp;omega);have t5:s5.heap.get pt=some (.cells t.cells 0):=a5 pt _ hI.ne1 (by rw[aG (λe=>hI.ne3 e.symm)];exact tb);have o5:s5.heap.get po=some (.cells ((o.set j (o[k]+1)).map cI) 0):=a5 po _ hI.ne2 (bN _ _ _);have g5:Grew s0 s5:=⟨a3,λp b hg=>by
         have h0:=hI.jq _ _ hg;refine a5 p b (λe=> ?_) ?_
         .  have:=hI.Gq p e;omega
         .  rw[aG (λe=>by have:=hI.amb;rw[e]at this;omega)];exact hI.ai.get hg,Zb0 hI.ai.next (by rw[dH]at a4;exact a4)⟩
        have I5:SI s0 s5 pt po t n (o.set j (o[k]+1)) v5 (q++[j]) (B+1):=by
         refine⟨hI.jq,g5,t5,o5,by simp[hI.len],by rw[Zc8];exact a2,λe=> ?_,λe=> ?_,hI.ne3,hI.aqE,hI.amb,λb e=> ?_,λv hv=> ?_,λm hm=> ?_⟩
         .  have:=a6 _ e;rw[dH]at this;have:=hw _ _ tb;omega
         .  have:=a6 _ e;rw[dH]at this;omega
         .  have:=a6 _ e;rw[dH]at this;have:=hI.ai.next;omega
         .  rcases Zg6 hv with h|h
            . exact hI.small v h
            . subst h;omega
         .  rcases Zd8.1 hm with h|h
            . exact hI.qlt m h
            . simp at h;omega
        have hkj:j≠k:=λe=>by subst e;omega
        have ek5:(o.set j (o[k]+1)).getD k 0=o[k]:=(by simp[List.getD,Zf0 hkj,H0 Ux]);obtain⟨s',qv',b1,b2⟩:=ih (j+1) g s5 _ v5 (q++[j]) (by omega) (by omega) I5 (by rw[ek5];omega) (by rw[ek5];omega) (by simp;omega);rw[e];refine⟨s',qv',b1,?_⟩;rw[<-b2,yC];rw[hb]at N;simp[-av,-List.map_set,je,hj,ixj,ixk,tb,ou,gj,gk,hd,N,aB.len,w2,gJ,a1,w]
    |   false=>
        have e:qQ (λm=>AL t k m) k (j::List.range' (j+1) r) o q=qQ (λm=>AL t k m) k (List.range' (j+1) r) o q:=by
         rw[qQ,Za7 (by rw[hb];simp)]
        obtain⟨s',qv',b1,b2⟩:=ih (j+1) g s _ qv q (by omega) (by omega) hI uk DT (by omega);rw[e];refine⟨s',qv',b1,?_⟩;rw[<-b2,yC];rw[hb]at N;simp[je,hj,ixj,tb,ou,gj,hd,N,aB.len,w]
  . have e:qQ (λm=>AL t k m) k (j::List.range' (j+1) r) o q=qQ (λm=>AL t k m) k (List.range' (j+1) r) o q:=by
        rw[qQ,Za7 (by rw[ej];simp[hd])]
    obtain⟨s',qv',b1,b2⟩:=ih (j+1) g s _ qv q (by omega) (by omega) hI uk DT (by omega);rw[e];refine⟨s',qv',b1,?_⟩;rw[<-b2,yC];simp[je,hj,ixj,tb,ou,gj,hd,w]
variable{c : au}
def neg(o:List Int):Nat:=o.countP λv=>decide (v<0)
theorem asV{o:List Int}{m:Nat}{v:Int}(h:m<o.length)(h1:o[m]<0)(h2:0<=v):neg (o.set m v)+1=neg o:=by
 unfold neg;rw[List.countP_set h];have a:(decide (o[m]<0))=true:=by simpa using h1
 have b:(decide (v<0))=false:=by simp;omega
 simp only[a,b,Zh7,Zf4,Zh0];have:0<o.countP λv=>decide (v<0):=List.countP_pos_iff.2 ⟨o[m],Zc2 h,a⟩
 omega
theorem Tw(nr:Nat->Bool)(k:Nat):∀(ms:List Nat)(o:List Int)(q:List Nat),(∀m∈ms,m<o.length)->0<=o.getD k 0->(∀m∈q,0<=o.getD m 0)->
  2*neg (qQ nr k ms o q).1+(qQ nr k ms o q).2.length<=2*neg o+q.length/\(qQ nr k ms o q).1.length=o.length/\(∀m∈(qQ nr k ms o q).2,0<=(qQ nr k ms o q).1.getD m 0)/\(∀m,0<=o.getD m 0->(qQ nr k ms o q).1.getD m 0=o.getD m 0)
 |[],o,q,_,_,h=>⟨Za3 _,rfl,h,λ_ _=>rfl⟩
 |m ::ms,o,q,hm,hk,h=>by
  have hmo:=hm m (by simp);by_cases hc:o.getD m 0<0/\nr m=true
  . (rw[qQ,Zb3 hc];have em:o.getD m 0=o[m]:=(by simp[List.getD,H0 hmo]);have cZ:∀i,0<=o.getD i 0->m≠i:=λi hi e=>by subst e;omega);have get:∀i,m≠i->(o.set m (o.getD k 0+1)).getD i 0=o.getD i 0:=λi hi=>by simp[List.getD,Zf0 hi]
    have gm:(o.set m (o.getD k 0+1)).getD m 0=o.getD k 0+1:=(by simp[List.getD,hmo]);obtain⟨a1,a2,a3,a4⟩:=Tw nr k ms (o.set m (o.getD k 0+1)) (q++[m]) (λi hi=>by simpa using hm i (Za9 _ hi)) (by rw[get k (cZ k hk)];exact hk) (λi hi=>by
        rcases Zd8.1 hi with hi|hi
        . rw[get i (cZ i (h i hi))];exact h i hi
        . simp at hi;subst hi;rw[gm];omega)
    have hs:=asV hmo (by rw[<-em];exact hc.1) (show 0<=o.getD k 0+1 by omega);refine⟨by simp only[Ze6,Zc9,Zi9]at a1;omega,by simpa using a2,a3,λi hi=> ?_⟩;rw[a4 i (by rw[get i (cZ i hi)];exact hi),get i (cZ i hi)]
  . rw[qQ,Za7 hc];exact Tw nr k ms o q (λi hi=>hm i (Za9 _ hi)) hk h
theorem SI.le{s0 s:St}{pt po:Pos}{t:aB}{n:Nat}{o:List Int}{qv:AV}{q:List Nat}{B B':Int}(h:SI s0 s pt po t n o qv q B)(hB:B<=B'):SI s0 s pt po t n o qv q B':=
 ⟨h.jq,h.ai,h.tab,h.out,h.len,h.Mr,h.ne1,h.ne2,h.ne3,h.aqE,h.amb,h.Gq,λv hv=>⟨(h.small v hv).1,by have:=(h.small v hv).2;omega⟩,h.qlt⟩
theorem aqF(hc:Sem c){s0:St}{pt po:Pos}{t:aB}(ht:t.Fit){n:Nat}(hn:n<=1000)(F:Nat)(hF:n<F)(k4):
  ∀(f:Nat)(g:Nat)(s:St)(o:List Int)(qv:AV)(q:List Nat)(B:Int),f<g->SI s0 s pt po t n o qv q B->2*neg o+q.length<=f->B+f<=1000000->0<=B->f<=3000->(∀m∈q,0<=o.getD m 0)->
   ∃    s',Grew s0 s'/\s'.heap.get po=some (.cells ((agl (λk m=>AL t k m) n f o q).map cI) 0)/\(agl (λk m=>AL t k m) n f o q).length=n/\
        pn c F k4 g [.ptr pt 0,.slice po 0 n (some n) 1,qv] s=k4 [.slice po 0 n (some n) 1] s':=by
 intro f;induction f with
 |zero=>
  intro g s o qv q B hg hI h1 h2 h3 h4 h5;obtain⟨g,rfl⟩:∃g',g=g'+1:=⟨g - 1,by omega⟩
  have hq:q=[]:=Zc5 (by omega);subst hq;refine⟨s,hI.ai,hI.out,hI.len,?_⟩;have hl:∀(K:AV->St->Option (AV×St))(s1:St),aq c (.lenB .l) [qv] s1 K=K (.int .i64 0) s1:=λK s1=>by rw[hI.Mr.lenB];simp
  rw[DU];simp[hl]
 |succ f ih=>
  intro g s o qv q B hg hI h1 h2 h3 h4 h5;obtain⟨g,rfl⟩:∃g',g=g'+1:=⟨g - 1,by omega⟩
  have hl:∀(K:AV->St->Option (AV×St))(s1:St),aq c (.lenB .l) [qv] s1 K=K (.int .i64 (q.length:Int)) s1:=λK s1=>by rw[hI.Mr.lenB];simp
  cases q with
  |nil=>
   refine⟨s,hI.ai,hI.out,hI.len,?_⟩;rw[DU];simp[hl]
  |cons k q=>
   have hr:∀r∈(k::q).map aiq,r.length=1:=λr hr=>by simp only[Zc7]at hr;obtain⟨m,_,rfl⟩:=hr;rfl
   obtain⟨b,ob,cs,a1,a2,a3,a4⟩:=hI.Mr.at (c:=c) (R:=AV×St) hr (by decide) (i:=0) (by simp);obtain⟨v',t1,t2,t3⟩:=QS.tail (R:=AV×St) (c:=c) (r:=aiq k) (rows:=q.map aiq) hI.Mr rfl;have hk:k<n:=hI.qlt k (by simp);have Ux:k<o.length:=(by rw[hI.len];exact hk);have gk:cs[ob]? =some (.int .i64 (k:Int)):=(by simpa using a4 0 (.int .i64 (k:Int)) rfl);have i0:∀(K:AV->St->Option (AV×St))(s1:St),aq c (.idxA 1 none) [qv,.int .i64 0] s1 K=K (.ptr b ob) s1:=λK s1=>a1 K .i64 s1
   have lo:∀(K:AV->St->Option (AV×St))(s1:St),aq c (.lenB .l) [.slice po 0 n (some n) 1] s1 K=K (.int .i64 (n:Int)) s1:=λK s1=>lq c K s1 _ _ _ _ _
   have ek:o.getD k 0=o[k]:=(by simp[List.getD,H0 Ux]);have sm:=hI.small o[k] (Zc2 Ux);have yN:=h5 k (by simp);have I1:SI s0 s pt po t n o v' q (B+1):=by
        have I2:=hI.le (B':=B+1) (by omega);exact⟨I2.jq,I2.ai,I2.tab,I2.out,I2.len,t2,λe=>I2.ne1 (t3 _ e),λe=>I2.ne2 (t3 _ e),I2.ne3,I2.aqE,I2.amb,λb hb=>I2.Gq b (t3 b hb),I2.small,λm hm=>I2.qlt m (Za9 _ hm)⟩
   obtain⟨s1,v1,b1,b2⟩:=asU hc ht hn hk (B:=B) (by omega) F (λvs s71=>fO vs λx2 vs=>fO vs λx5 vs=>fO vs λx7 vs=>iT vs (pn c F k4 g [x2,x5,x7] s71)) n 0 F s o v' q hF (by omega) I1 (by rw[ek];omega) yN (by simp only[Zc9]at h1;omega);rw[<-Zm0]at b1;obtain⟨p1,p2,p3,p4⟩:=Tw (λm=>AL t k m) k (List.range n) o q (λm hm=>by rw[hI.len];exact Zh6.1 hm) yN (λm hm=>h5 m (Za9 _ hm));obtain⟨s',c1,c2,c3,c4⟩:=ih g s1 _ v1 _ (B+1) (by omega) b1 (by simp only[Zc9]at h1;omega) (by omega) (by omega) (by omega) p3;refine⟨s',c1,c2,c3,?_⟩;rw[<-c4,DU];simp at b2;have We:0<(q.length:Int)+1:=(by omega);simp[hl,i0,a3,gk,t1,lo,b2,We]
variable{c : au}
def B9(n k:Nat):List Int:=List.replicate k (-1)++List.replicate (n - k) 0
theorem asW{n k:Nat}(h:k<n):(B9 n k).set k (-1)=B9 n (k+1):=by unfold B9;rw[Zj8 _ _ (by simp)];simp only[List.length_replicate,Zk3];rw[show n - k=(n - (k+1))+1 by omega,Zm4,Zp6,List.replicate_succ',Zf2];rfl
theorem asX{n k:Nat}(h:k<=n):(B9 n k).length=n:=by unfold B9;simp;omega
theorem aoa{s0:St}{pt po:Pos}{t:aB}{n:Nat}(hn:n<=1000)(cZ:pt≠po)(XL:s0.next.toNat<=po.toNat)(HG:Wf s0)(x1:AV)(F:Nat)(k2):∀(m k f:Nat)(s:St),m<f->k+m=n->Grew s0 s->s.heap.get pt=some (.cells t.cells 0)->s.heap.get po=some (.cells ((B9 n k).map cI) 0)->
  ∃s',Grew s0 s'/\s'.heap.get pt=some (.cells t.cells 0)/\s'.heap.get po=some (.cells ((B9 n n).map cI) 0)/\
   sO c F k2 f [x1,.ptr pt 0,.slice po 0 n (some n) 1,.int .i64 (n:Int),.int .i64 (k:Int)] s=k2 [x1,.ptr pt 0,.slice po 0 n (some n) 1] s':=by
 intro m;induction m with
 |zero=>
  intro k f s hf h1 hg ht ho;obtain⟨f,rfl⟩:∃g,f=g+1:=⟨f - 1,by omega⟩
  obtain rfl:k=n:=by omega
  refine⟨s,hg,ht,ho,?_⟩;rw[Oj];simp
 |succ m ih=>
  intro k f s hf h1 hg ht ho;obtain⟨f,rfl⟩:∃g,f=g+1:=⟨f - 1,by omega⟩
  have hk:k<n:=by omega
  have w:ax .i64 ((k:Int)+1)=((k+1:Nat):Int):=wrap64 (by omega) (by omega);have ix:∀(K:AV->St->Option (AV×St))(s1:St),aq c (.idxA 1 none) [.slice po 0 n (some n) 1,.int .i64 (k:Int)] s1 K=K (.ptr po k) s1:=λK s1=>by rw[iV c K s1 hk];simp
  have hl:(B9 n k).length=n:=asX (by omega);have aV:=hg.wf _ _ ho;have gJ:∀(K:AV->St->Option (AV×St)),aq c (.store 1) [.ptr po k,.int .i64 (-1)] s K=K .undef (aY s po (.cells ((B9 n (k+1)).map cI) 0)):=λK=>by rw[bP c K s 1 po k (.int .i64 (-1)) ((B9 n k).map cI) ho rfl (by simp[hl];omega) rfl, <-asW hk, <-KZ _ _ (by omega)];rfl
  have g1:Grew s0 (aY s po (.cells ((B9 n (k+1)).map cI) 0)):=⟨jD hg.wf aV,λp b hp=>by have:=HG _ _ hp;rw[aG (λe=>by rw[e]at XL;omega)];exact hg.get hp,by rw[dH];exact hg.next⟩
  obtain⟨s',a1,a2,a3,a4⟩:=ih (k+1) f _ (by omega) (by omega) g1 (by rw[aG (λe=>cZ e.symm)];exact ht) (bN _ _ _);refine⟨s',a1,a2,a3,?_⟩;rw[<-a4,Oj];simp[-List.map_set,hk,ix,gJ,w]
def Q7(t:aB)(fr:Nat):List Int:=agl (λk m=>AL t k m) (bJ t).toNat (2*(bJ t).toNat+1) ((List.replicate (bJ t).toNat (-1)).set fr 0) [fr]
theorem Ms{b:Pos}{off n es:Nat}(hn:n≠0)(h:Plain (.slice b off n (some n) es)):False:=by
 have h1:aD (λ_=>⟨0,0,off+n*es⟩) (b.toNat+1) (λ_=>none) (.slice b off n (some n) es) (.slice (some ⟨0,0+off,none⟩) n n):=
  .slice b off n (some n) es n _ (Za3 _) (λc hc=>by cases hc;rfl) (λ_=>⟨by omega,rfl,by simp⟩) (λh=>by cases h)
 have h2:=h _ (λ_=>⟨0,0,0⟩) _ 0 _ _ h1;cases h2 with
 |slice _ _ _ _ _ _ _ _ _ ha _=>exact absurd (ha hn).1 (by omega)
theorem air{s s':St}{v:AV}(h:¬Plain v):tidy s (v,s')=(v,s'):=by
 unfold tidy;rw[Za7 (λe=>h e.1)]
theorem aqG(hc:Sem c)(t:aB)(hz:bJ t≠0)(fr:Nat)(hf:(fr:Int)<bJ t)(s:St)(hw:Wf s):
  ∃b s',c 181 [.agg t.cells,.int .i64 (fr:Int)] s=some (.slice b 0 (bJ t).toNat (some (bJ t).toNat) 1,s')/\Grew s s'/\s'.heap.get b=some (.cells ((Q7 t fr).map cI) 0)/\s.next.toNat<=b.toNat/\(Q7 t fr).length=(bJ t).toNat:=by
 have ht:=acW hz;have hb:=Bf t;obtain⟨n,hn⟩:∃n:Nat,bJ t=(n:Int):=⟨(bJ t).toNat,by omega⟩
 have hn1:(bJ t).toNat=n:=by omega
 have Qg:n≠0:=by omega
 have DF:n<=1000:=by omega
 have Hj:fr<n:=by omega
 unfold Q7;rw[hn1];have cg:Wf (ah s (.cells t.cells 0)):=bn hw;have g1:=Grew.ah hw (.cells t.cells 0);have sz:=QT hc t (ah s (.cells t.cells 0)) cg;rw[hn]at sz;have mk:=λ(K:AV->St->Option (AV×St))=>adJ c K (ah s (.cells t.cells 0)) (es:=1) (bytes:=8) (z:=[.int .i64 0]) (k:= .i64) (k':= .i64) (n:=n) (by omega) (by omega)
 rw[Dy]at mk;have kW:Wf (ah (ah s (.cells t.cells 0)) (.cells (List.replicate n (.int .i64 0)) 0)):=bn cg;have g2:=g1.trans (Grew.ah cg (.cells (List.replicate n (.int .i64 0)) 0));generalize rJ:ah (ah s (.cells t.cells 0)) (.cells (List.replicate n (.int .i64 0)) 0)=s2 at mk kW g2;have pt2:s2.heap.get s.next=some (.cells t.cells 0):=by rw[<-rJ];exact(Grew.ah cg _).get (az _ _)
 have po2:s2.heap.get (ah s (.cells t.cells 0)).next=some (.cells ((B9 n 0).map cI) 0):=by rw[<-rJ,az];simp[B9]
 have ZT:s.next≠(ah s (.cells t.cells 0)).next:=by rw[bD];exact Pos.Ll _
 have XL:s.next.toNat<=(ah s (.cells t.cells 0)).next.toNat:=by rw[bD,Pos.aC];omega
 generalize (ah s (.cells t.cells 0)).next=po at mk po2 ZT XL
 let k2:List AV->St->Option (AV×St):=λvs NY=>fO vs λx1 vs=>fO vs λx2 vs=>fO vs λx5 vs=>iT vs (
  aq c .move [x5] NY λx23 Q8=>
  aq c .move [x1] Q8 λx24 Q9=>
  aq c (.idxA 1 none) [x23,x24] Q9 λx25 s21=>
  aq c (.store 1) [x25,(.int .i64 0)] s21 λ_ s22=>
  aq c .move [x1] s22 λx26 s23=>
  aq c (.buildSlice 1 1 [(.int .i64 0)] [0]) [x26] s23 λx27 s24=>
  aq c .move [x27] s24 λx7 s25=>
  pn c 4000 (λvs s72=>fO vs λx5 vs=>iT vs (
     aq c .move [x5] s72 λx64 s73=>
     aq c .move [x64] s73 λx4 s74=>
     some (x4,s74))) 4000 [x2,x5,x7] s25)
 obtain⟨s3,a1,a2,a3,a4⟩:=aoa (c:=c) (s0:=s) (t:=t) DF ZT XL hw (.int .i64 (fr:Int)) 4000 k2 n 0 4000 s2 (by omega) (by omega) g2 pt2 po2;have em:B9 n n=List.replicate n (-1):=by simp[B9]
 rw[em]at a3;have hl:(List.replicate n (-1:Int)).length=n:=by simp
 have aV:=a1.wf _ _ a3;have ix:∀(K:AV->St->Option (AV×St))(s1:St),aq c (.idxA 1 none) [.slice po 0 n (some n) 1,.int .i64 (fr:Int)] s1 K=K (.ptr po fr) s1:=λK s1=>by rw[iV c K s1 Hj];simp
 have gJ:∀(K:AV->St->Option (AV×St)),aq c (.store 1) [.ptr po fr,.int .i64 0] s3 K=K .undef (aY s3 po (.cells (((List.replicate n (-1:Int)).set fr 0).map cI) 0)):=λK=>by rw[bP c K s3 1 po fr (.int .i64 0) _ a3 rfl (by simp;omega) rfl, <-KZ _ _ (by omega)];rfl
 have g4:Grew s (aY s3 po (.cells (((List.replicate n (-1:Int)).set fr 0).map cI) 0)):=⟨jD a1.wf aV,λp b hp=>by have:=hw _ _ hp;rw[aG (λe=>by rw[e]at XL;omega)];exact a1.get hp,by rw[dH];exact a1.next⟩
 have pt4:(aY s3 po (.cells (((List.replicate n (-1:Int)).set fr 0).map cI) 0)).heap.get s.next=some (.cells t.cells 0):=by rw[aG (λe=>ZT e.symm)];exact a2
 have po4:(aY s3 po (.cells (((List.replicate n (-1:Int)).set fr 0).map cI) 0)).heap.get po=some (.cells (((List.replicate n (-1:Int)).set fr 0).map cI) 0):=bN _ _ _;generalize hs4:aY s3 po (.cells (((List.replicate n (-1:Int)).set fr 0).map cI) 0)=s4 at gJ g4 pt4 po4;have row:=λ(K:AV->St->Option (AV×St))=>Gb (c:=c) (es:=1) (z:=[.int .i64 0]) (x:= .int .i64 (fr:Int)) rfl rfl s4 K
 have g5:=g4.trans (Grew.ah g4.wf (.cells (AV.cells (.int .i64 (fr:Int))) 0));have arJ:=Grew.ah g4.wf (.cells (AV.cells (.int .i64 (fr:Int))) 0);have n4:s.next.toNat<s4.next.toNat:=g4.wf _ _ pt4;have n4o:po.toNat<s4.next.toNat:=g4.wf _ _ po4;have I:SI s (ah s4 (.cells (AV.cells (.int .i64 (fr:Int))) 0)) s.next po t n ((List.replicate n (-1:Int)).set fr 0) (.slice s4.next 0 1 (some 1) 1) [fr] 0:=by
  refine⟨hw,g5,arJ.get pt4,arJ.get po4,by simp,.inr (.inl ⟨s4.next,0,some 1,[.int .i64 (fr:Int)],rfl,az _ _,by simp,by simp,.inr rfl⟩),λe=> ?_,λe=> ?_,ZT,Za3 _,XL,λb e=> ?_,λv hv=> ?_,λm hm=> ?_⟩
  .  have:=congrArg Pos.toNat (qk e);omega
  .  have:=congrArg Pos.toNat (qk e);omega
  .  have:=congrArg Pos.toNat (qk e);omega
  .  rcases Zg6 hv with h|h
     . rw[(List.mem_replicate.1 h).2];omega
     . subst h;omega
  .  simp at hm;omega
 have alT:neg ((List.replicate n (-1:Int)).set fr 0)<=n:=by unfold neg;refine Zb0 List.countP_le_length ?_;simp
 obtain⟨s6,b1,b2,b3,b4⟩:=aqF hc ht DF 4000 (by omega) (λvs s72=>fO vs λx5 vs=>iT vs (aq c .move [x5] s72 λx64 s73=>aq c .move [x64] s73 λx4 s74=>some (x4,s74))) (2*n+1) 4000 _ _ _ [fr] 0 (by omega) I (by simp;omega) (by omega) (by omega) (by omega) (λm hm=>by
  simp at hm;subst hm;simp[List.getD,Hj])
 refine⟨po,s6,?_,b1,b2,XL,b3⟩;have np:¬Plain (.slice po 0 n (some n) 1):=Ms Qg;rw[aeg hc 4000 (r:=(.slice po 0 n (some n) 1,s6)),air np];rw[ais];have L:sO c 4000 k2 4000 [.int .i64 (fr:Int),.ptr s.next 0,.slice po 0 n (some n) 1,.int .i64 (n:Int),.int .i64 0] s2=some (.slice po 0 n (some n) 1,s6):=by
  rw[show(0:Int)=((0:Nat):Int)from rfl,a4];simp only[k2];simp at b4;simp[-av,ix,gJ,row,b4]
 simp only[k2]at L;simp[-av,aB.len,sz,mk,lq];simp[-av]at L;exact L
variable{c : au}
def Mt(t:aB):Int:=if t.sh=1 then 0 else if t.sh=2 then(if 0<t.b then t.a else t.a.tdiv 2)else if t.sh=3 then t.b+t.a.tdiv 2 else t.a.tdiv 2
theorem asY{t:aB}(h:bJ t≠0):0<=Mt t/\Mt t<bJ t:=by
 have f:=acW h;unfold Mt;rw[Zi0 f.a.1]
 revert h
 unfold bJ;intro h;split
 . rename_i h1;rw[Zb3 h1]at h;split at h
   . rename_i h2;rw[Zb3 h2];omega
   . exact absurd rfl h
 rename_i h1;rw[Za7 h1]at h;split
 . rename_i h2;rw[Zb3 h2]at h;split at h
   . rename_i h3;rw[Zb3 h3];split<;>omega
   . exact absurd rfl h
 rename_i h2;rw[Za7 h2]at h;split
 . rename_i h3;rw[Zb3 h3]at h;split at h
   . rename_i h4;rw[Zb3 h4];omega
   . exact absurd rfl h
 rename_i h3;rw[Za7 h3]at h;split at h
 . rename_i h4;rw[Zb3 h4];split at h
   . rename_i h5;rw[Zb3 h5];omega
   . exact absurd rfl h
 . exact absurd rfl h
theorem asZ(hc:Sem c)(a b:Int)(st:St):c 207 [.int .i64 a,.int .i64 b] st=some (.int .i64 0,st):=by rw[VG hc 1 (r:=(.int .i64 0,st)),aE (Plain.int _ _) (aT.refl st)];rw[ZI];simp
theorem as3(hc:Sem c)(a b:Int)(ha:Sm a)(st:St):c 212 [.int .i64 a,.int .i64 b] st=some (.int .i64 (if 0<b then a else a.tdiv 2),st):=by
 have hq:0<=a.tdiv 2/\a.tdiv 2<=1000000:=by rw[Zi0 ha.1];omega
 have w2:ax .i64 (a.tdiv 2)=a.tdiv 2:=wrap64 (by omega) (by omega);rw[VH hc 1 (r:=(.int .i64 (if 0<b then a else a.tdiv 2),st)),aE (Plain.int _ _) (aT.refl st)];rw[ZJ];by_cases h:0<b<;>simp[h,w2]
theorem as4(hc:Sem c)(a b:Int)(ha:Sm a)(hb:Sm b)(st:St):c 217 [.int .i64 a,.int .i64 b] st=some (.int .i64 (b+a.tdiv 2),st):=by
 have hq:0<=a.tdiv 2/\a.tdiv 2<=1000000:=by rw[Zi0 ha.1];omega
 have w2:ax .i64 (a.tdiv 2)=a.tdiv 2:=wrap64 (by omega) (by omega);have w3:ax .i64 (b+a.tdiv 2)=b+a.tdiv 2:=wrap64 (by omega) (by omega);rw[VI hc 1 (r:=(.int .i64 (b+a.tdiv 2),st)),aE (Plain.int _ _) (aT.refl st)];rw[ZK];simp[w2,w3]
theorem as5(hc:Sem c)(a b:Int)(ha:Sm a)(st:St):c 222 [.int .i64 a,.int .i64 b] st=some (.int .i64 (a.tdiv 2),st):=by
 have hq:0<=a.tdiv 2/\a.tdiv 2<=1000000:=by rw[Zi0 ha.1];omega
 have w2:ax .i64 (a.tdiv 2)=a.tdiv 2:=wrap64 (by omega) (by omega);rw[VJ hc 1 (r:=(.int .i64 (a.tdiv 2),st)),aE (Plain.int _ _) (aT.refl st)];rw[ZL];simp[w2]
def Ra(n:Nat)(d:Int):Int:=if d<0 then(n:Int)else d
def Mu(t:aB):List Int:=(Q7 t (Mt t).toNat).map (Ra (bJ t).toNat)
theorem aqH{s0:St}{po:Pos}{n:Nat}(hn:n<=1000)(XL:s0.next.toNat<=po.toNat)(HG:Wf s0)(o:List Int)(ho0:o.length=n)(F:Nat)(k2):∀(m k f:Nat)(s:St),m<f->k+m=n->Grew s0 s->s.heap.get po=some (.cells (((o.take k).map (Ra n)++o.drop k).map cI) 0)->
  ∃ s',Grew s0 s'/\s'.heap.get po=some (.cells ((o.map (Ra n)).map cI) 0)/\
    uQ c F k2 f [.slice po 0 n (some n) 1,.slice po 0 n (some n) 1,.int .i64 (n:Int),.int .i64 (k:Int)] s=k2 [.slice po 0 n (some n) 1] s':=by
 intro m;induction m with
 |zero=>
  intro k f s hf h1 hg ho;obtain⟨f,rfl⟩:∃g,f=g+1:=⟨f - 1,by omega⟩
  obtain rfl:k=n:=by omega
  refine⟨s,hg,?_,?_⟩
  . rw[ho,Zf9 (by omega),Zn5 (by omega),Ze0]
  . rw[Ca];simp
 |succ m ih=>
  intro k f s hf h1 hg ho;obtain⟨f,rfl⟩:∃g,f=g+1:=⟨f - 1,by omega⟩
  have hk:k<n:=by omega
  have Ux:k<o.length:=by omega
  have w:ax .i64 ((k:Int)+1)=((k+1:Nat):Int):=wrap64 (by omega) (by omega);have ix:∀(K:AV->St->Option (AV×St))(s1:St),aq c (.idxA 1 none) [.slice po 0 n (some n) 1,.int .i64 (k:Int)] s1 K=K (.ptr po k) s1:=λK s1=>by rw[iV c K s1 hk];simp
  have lo:∀(K:AV->St->Option (AV×St))(s1:St),aq c (.lenB .l) [.slice po 0 n (some n) 1] s1 K=K (.int .i64 (n:Int)) s1:=λK s1=>lq c K s1 _ _ _ _ _
  generalize hL:(o.take k).map (Ra n)++o.drop k=L at ho;have hLl:L.length=n:=by rw[<-hL];simp;omega
  have hLk:L[k]? =some o[k]:=by
    rw[<-hL,Zb9 (by simp;omega)];simp only[Za5,Zh9,Zk8 (Zn1 Ux),Zk3];rw[Ze5,Zg0,H0 Ux]
  have gk:(L.map cI)[k]? =some (.int .i64 o[k]):=by rw[Zb4,hLk];rfl
  have eL:L.set k (Ra n o[k])=(o.take (k+1)).map (Ra n)++o.drop (k+1):=by rw[<-hL,Zj8 _ _ (by simp;omega)];simp only[Za5,Zh9,Zk8 (Zn1 Ux),Zk3];rw[Zd9 Ux,Zp6,Zc6 Ux,Zc8,Zf2];rfl
  have aV:=hg.wf _ _ ho;by_cases hd:o[k]<0
  . have el:Ra n o[k]=(n:Int):=(by unfold Ra;rw[Zb3 hd]);rw[el]at eL;have gJ:∀(K:AV->St->Option (AV×St)),aq c (.store 1) [.ptr po k,.int .i64 (n:Int)] s K=K .undef (aY s po (.cells (((o.take (k+1)).map (Ra n)++o.drop (k+1)).map cI) 0)):=λK=>by rw[bP c K s 1 po k (.int .i64 (n:Int)) _ ho rfl (by simp[hLl];omega) rfl, <-eL, <-KZ _ _ (by omega)];rfl
    have g1:Grew s0 (aY s po (.cells (((o.take (k+1)).map (Ra n)++o.drop (k+1)).map cI) 0)):=⟨jD hg.wf aV,λp b hp=>by have:=HG _ _ hp;rw[aG (λe=>by rw[e]at XL;omega)];exact hg.get hp,by rw[dH];exact hg.next⟩
    obtain⟨s',a1,a2,a3⟩:=ih (k+1) f _ (by omega) (by omega) g1 (bN _ _ _);refine⟨s',a1,a2,?_⟩;rw[<-a3,Ca];simp[-List.map_append,-List.map_take,-List.map_drop,-List.map_map,je,hk,ix,lo,ho,gk,hd,gJ,w]
  . have el:Ra n o[k]=o[k]:=(by unfold Ra;rw[Za7 hd]);rw[el]at eL;have e2:L.set k o[k]=L:=by
        (refine Zi7 λi=> ?_);rw[List.getElem?_set];split
        . rename_i e;subst e;rw[Zb3 (by omega),hLk]
        . rfl
    rw[e2]at eL;obtain⟨s',a1,a2,a3⟩:=ih (k+1) f s (by omega) (by omega) hg (by rw[<-eL];exact ho);refine⟨s',a1,a2,?_⟩;rw[<-a3,Ca];simp[je,hk,ix,ho,gk,hd,w]
theorem abv(sh:Int):(iq sh).length=6:=by
 unfold iq
 repeat' split
 all_goals rfl
theorem aqI(sh:Int):aM (iq sh)=true:=by
 unfold iq
 repeat' split
 all_goals rfl
theorem at7(hc:Sem c)(t:aB)(ht:t.Fit):∃f:FuncId,(iq t.sh)[4]? =some (.func f [] [])/\∀st,c f [.int .i64 t.a,.int .i64 t.b] st=some (.int .i64 (Mt t),st):=by
 have hS:t.sh=1\/t.sh=2\/t.sh=3\/t.sh=4:=by have:=ht.sh;omega
 have ha:Sm t.a:=by have:=ht.a;omega
 have hb:Sm t.b:=by have:=ht.b;omega
 rcases hS with h|h|h|h
 . exact⟨207,by rw[h];rfl,λst=>by rw[asZ hc];simp[Mt,h]⟩
 . exact⟨212,by rw[h];rfl,λst=>by rw[as3 hc _ _ ha];simp[Mt,h]⟩
 . exact⟨217,by rw[h];rfl,λst=>by rw[as4 hc _ _ ha hb];simp[Mt,h]⟩
 . exact⟨222,by rw[h];rfl,λst=>by rw[as5 hc _ _ ha];simp[Mt,h]⟩
theorem aob(hc:Sem c)(t:aB)(hz:bJ t≠0)(s:St)(hw:Wf s):
  ∃b s',c 124 [.agg t.cells] s=some (.slice b 0 (bJ t).toNat (some (bJ t).toNat) 1,s')/\Grew s s'/\s'.heap.get b=some (.cells ((Mu t).map cI) 0)/\s.next.toNat<=b.toNat/\(Mu t).length=(bJ t).toNat:=by
 have ht:=acW hz;have hb:=Bf t;have hh:=asY hz;have cg:Wf (ah s (.cells t.cells 0)):=bn hw;have kW:Wf (ah (ah s (.cells t.cells 0)) (.cells (iq t.sh) 0)):=bn cg;have g2:=(Grew.ah hw (.cells t.cells 0)).trans (Grew.ah cg (.cells (iq t.sh) 0));have gT:(ah (ah s (.cells t.cells 0)) (.cells (iq t.sh) 0)).heap.get s.next=some (.cells t.cells 0):=(Grew.ah cg _).get (az _ _);obtain⟨fr,Ff⟩:∃n:Nat,Mt t=(n:Int):=⟨(Mt t).toNat,by omega⟩
 obtain⟨b,s1,S1,S2,S3,S4,S5⟩:=aqG hc t hz fr (by omega) _ kW;have Hg:s.next.toNat<=b.toNat:=Zb0 g2.next S4;have g1:=g2.trans S2;have e1:Mu t=(Q7 t fr).map (Ra (bJ t).toNat):=by unfold Mu;rw[Ff];rfl
 have hl1:(Mu t).length=(bJ t).toNat:=by rw[e1];simpa using S5
 obtain⟨s2,a1,a2,a3⟩:=aqH (c:=c) (s0:=s) (po:=b) (n:=(bJ t).toNat) (by omega) Hg hw (Q7 t fr) S5 4000 (λvs s34=>fO vs λx5 vs=>iT vs (
  aq c .move [x5] s34 λx38 s35=>aq c .move [x38] s35 λx2 s36=>some (x2,s36))) (bJ t).toNat 0 4000 s1 (by omega) (by omega) g1 (by simpa using S3)
 rw[<-e1]at a2;refine⟨b,s2,?_,a1,a2,Hg,hl1⟩;have np:¬Plain (.slice b 0 (bJ t).toNat (some (bJ t).toNat) 1):=Ms (by omega);rw[ac2 hc 4000 (r:=(.slice b 0 (bJ t).toNat (some (bJ t).toNat) 1,s2)),air np];rw[afY];have hlay:=fM hc t.sh (ah s (.cells t.cells 0)) cg;rw[<-Ff]at S1;have rd:=λ(K:AV->Option (AV×St))=>Sz K (m:=7) (p:=s.next) (o:=0) (l:=t.cells) (h:=(ah (ah s (.cells t.cells 0)) (.cells (iq t.sh) 0)).heap) (h2:=(ah (ah s (.cells t.cells 0)) (.cells (iq t.sh) 0)).heap) (by rw[gT];rfl) (by rw[gT];rfl) (BM λv hv=>by simp only[aB.cells,Za8,Zb7,Ze4]at hv;rcases hv with rfl|rfl|rfl|rfl|rfl|rfl|rfl<;>first|exact dc.str _|exact dc.int _ _|exact DQ _ _)
 simp at a3;have lo:∀(K:AV->St->Option (AV×St))(s1:St),aq c (.lenB .l) [.slice b 0 (bJ t).toNat (some (bJ t).toNat) 1] s1 K=K (.int .i64 ((bJ t).toNat:Int)) s1:=λK s1=>lq c K s1 _ _ _ _ _
 obtain⟨hf,hf1,hf2⟩:=at7 hc t ht;have hf3:(iq t.sh)[4]'(by rw[abv];omega)= .func hf [] []:=by rw[H0 (by rw[abv];omega)]at hf1;exact Zi3 hf1
 have c1:t.cells[1]? =some (.int .u8 t.sh):=rfl;have c2:t.cells[2]? =some (.int .i64 t.a):=rfl;have c3:t.cells[3]? =some (.int .i64 t.b):=rfl;simp[hlay,c1,c2,c3,AV.cells,abv,aqI,gT,hf1,hf3,hf2,S1,rd,lo,a3]
theorem aoc{t:aB}{k:Nat}(h:k<(Mu t).length):((Mu t).map cI)[k]? =some (.int .i64 (Mu t)[k]):=by rw[Zb4,H0 h];rfl
def IM(ts:List aB)(a:Int):Int:=match Fq ts a with|some (i,x)=>(Mu (ts[i]?.getD zT)).getD x.toNat 0|none=>0
theorem aqJ(hc:Sem c)(z:Bool)(ts:List aB)(cF:∀t∈ts,t.Ok)(a:Int)(ha:a<=4611686018427387904)(st:St)(hw:Wf st):
  c 60 [tabs z ts,.int .i64 a] st=some (.int .i64 (IM ts a),st):=by
 have W:=Tv hc z ts cF a ha st hw;cases h:Fq ts a with
 |none=>
  rw[Rb hc 1 (r:=(.int .i64 (IM ts a),st)),aE (Plain.int _ _) (aT.refl st)];rw[XM];unfold IM;rw[h]at W ⊢; simp[W,Fp]
 |some p=>
  obtain⟨i,x⟩:=p;obtain⟨hv,p1,t1,p2,p3,p4⟩:=Mp h;have hz:=an5 (afb hv p2);obtain⟨hi,hg⟩:=Za1.1 p2;obtain⟨b,s',L1,L2,L3,L4,L5⟩:=aob hc t1 hz st hw;have hx:x.toNat<(Mu t1).length:=by omega
  have e:IM ts a=(Mu t1)[x.toNat]:=by
   unfold IM;rw[h];simp only;rw[p2];simp[List.getD,H0 hx]
  obtain⟨k,hk⟩:∃k:Nat,x=(k:Int):=⟨x.toNat,by omega⟩
  subst hk;simp only[Zd4]at hx e;have ix:∀(K:AV->St->Option (AV×St))(s1:St),aq c (.idxA 1 none) [.slice b 0 (bJ t1).toNat (some (bJ t1).toNat) 1,.int .i64 (k:Int)] s1 K=K (.ptr b k) s1:=λK s1=>by rw[iV c K s1 (by omega)];simp
  have gk:=aoc hx;rw[Rb hc 1 (r:=(.int .i64 (IM ts a),s')),aE (Plain.int _ _) L2.keeps];rw[XM,e];rw[h]at W;subst hg;unfold tabs at W ⊢;simp[W,Fp,hi,aB.len,L1,ix,L3,gk]
variable{c : au}
def lZ(first:Int)(n:Nat)(so:Int->Bool):List Int:=((List.range n).map λ(i:Nat)=>first+(i:Int)).filter so
theorem aaj(first:Int)(n:Nat)(so:Int->Bool):lZ first (n+1) so=lZ first n so++if so (first+(n:Int))=true then [first+(n:Int)]else []:=by
 unfold lZ;rw[Zf8,Zc8,Zk5];congr 1;simp only[Zd2,Zg3,List.filter_cons,List.filter_nil]
theorem KP(first:Int)(n:Nat)(so:Int->Bool):(lZ first n so).length<=n:=by
 unfold lZ;exact Zb0 (Zl6 _ _) (by simp)
theorem amc{first:Int}(hfi:0<=first/\first<=1000000){n:Nat}(hn:n<=1000000){g:FuncId}{x y:List AV}{so:Int->Bool}{s0:St}
  (H:∀(k:Int)(s:St),Grew s0 s->first<=k->k<first+(n:Int)->c g (x++([.int .i64 k]++y)) s=some (.bool (so k),s)) (F:Nat) (k2):
  ∀(m i f:Nat)(s:St)(v:AV),m<f->i+m=n->Mk 1 s0 s v ((lZ first i so).map bV)->
   ∃s' v',Mk 1 s0 s' v' ((lZ first n so).map bV)/\xx c F k2 f [.int .i64 first,.int .i64 (n:Int),.func g x y,v,.int .i64 (first+(i:Int))] s=k2 [v'] s':=by
 have w0:ax .i64 (first+(n:Int))=first+(n:Int):=wrap64 (by omega) (by omega)
 intro m;induction m with
 |zero=>
  intro i f s v hf h1 hM;obtain⟨f,rfl⟩:∃g,f=g+1:=⟨f - 1,by omega⟩
  obtain rfl:i=n:=by omega
  refine⟨s,v,hM,?_⟩;rw[DV];simp[w0]
 |succ m ih=>
  intro i f s v hf h1 hM;obtain⟨f,rfl⟩:∃g,f=g+1:=⟨f - 1,by omega⟩
  have hi:i<n:=by omega
  have aV:first+(i:Int)<first+(n:Int):=by omega
  have w:ax .i64 (first+(i:Int)+1)=first+((i+1:Nat):Int):=by rw[wrap64 (by omega) (by omega)];omega
  have A:=H (first+(i:Int)) s hM.ai (by omega) aV;simp only[List.singleton_append]at A;have hlen:=KP first i so
  cases hs:so (first+(i:Int))with
  |true=>
   obtain⟨s5,v5,a1,a2,a3,_⟩:=hM.push (c:=c) (R:=AV×St) (bytes:=8) (z:=[.int .i64 0]) (x:= .int .i64 (first+(i:Int))) rfl rfl rfl (by decide) (by simp;omega) (by simp;omega);have e:(lZ first (i+1) so).map bV=(lZ first i so).map bV++[AV.cells (.int .i64 (first+(i:Int)))]:=(by rw[aaj,Zb3 hs,Zc8];rfl);rw[<-e]at a2;obtain⟨s',v',b1,b2⟩:=ih (i+1) f s5 v5 (by omega) (by omega) a2;refine⟨s',v',b1,?_⟩;rw[<-b2,DV];rw[hs]at A;simp[-av,je,w0,aV,A,a1,w]
  |false=>
   have e:(lZ first (i+1) so).map bV=(lZ first i so).map bV:=(by rw[aaj,Za7 (by rw[hs];simp),Ze0]);rw[<-e]at hM;obtain⟨s',v',b1,b2⟩:=ih (i+1) f s v (by omega) (by omega) hM;refine⟨s',v',b1,?_⟩;rw[<-b2,DV];rw[hs]at A;simp[je,w0,aV,A,w]
theorem ait(hc:Sem c){first:Int}(hfi:0<=first/\first<=1000000){n:Nat}(hn:n<=1000000){g:FuncId}{x y:List AV}{so:Int->Bool}{s:St}(hw:Wf s)
  (H:∀(k:Int)(t:St),Grew s t->first<=k->k<first+(n:Int)->c g (x++([.int .i64 k]++y)) t=some (.bool (so k),t)):
  ∃v s',c 62 [.int .i64 first,.int .i64 (n:Int),.func g x y] s=some (v,s')/\Mk 1 s s' v ((lZ first n so).map bV):=by
 obtain⟨s',v,hM,L⟩:=amc hfi hn H (n+1) (λvs s22=>fO vs λx7 vs=>iT vs (aq c .move [x7] s22 λx24 s23=>aq c .move [x24] s23 λx6 s24=>some (x6,s24))) n 0 (n+1) s .af (by omega) (by omega) (Mk.start hw (Grew.refl hw));obtain⟨cY,t1,t2⟩:=hM.tidy;refine⟨v,cY,?_,t2⟩;rw[aeh hc (n+1) (r:=(v,s')),t1];rw[aiu];simp at L;simp[L]
end
end Go.Proofs.YtgihekklfnjkiaaGreatDoor
