/- A valid problem out of numbers. -/
import Derived.Test.YtgihekklfnjkiaaGreatDoorAPlainC
set_option linter.all false
set_option maxRecDepth 100000
set_option maxHeartbeats 4000000
namespace Go.Proofs.YtgihekklfnjkiaaGreatDoor
section
open Go Go.Ai Go.Proofs
variable{c:aj}
def fQ(i:Nat):List Nat:=[116,97+i % 26]
def bY(i:Nat):List Nat:=[97+i / 26 % 26,97+i % 26]
theorem asE(hc:bu c)(i:Nat)(hi:i<1000000)(st:St)(hw:Wf st):c 85 [.int .i64 (i:Int)] st=some (.str (fQ i),st):=by
 have hg:=Grew.ah hw (.cells [.int .u8 116,.int .u8 (97+(i:Int) % 26)] 0);rw[RX hc 1 (r:=(.str (fQ i),ah st (.cells [.int .u8 116,.int .u8 (97+(i:Int) % 26)] 0))),aE (Plain.str _) hg.keeps];rw[Xc];have w1:av .i64 (97+(i:Int) % 26)=97+(i:Int) % 26:=wrap64 (by omega) (by omega);have w2:av .u8 (97+(i:Int) % 26)=97+(i:Int) % 26:=Hy (by omega) (by omega);have r1:=λ(s:St)(K:AV->St->Option (AV×St))=>dD (c:=c) (k:= .i64) (a:=(i:Int)) (b:=26) (by omega) (by omega) s K
 have two:=λ(s:St)(K:AV->St->Option (AV×St))=>aiD (c:=c) (x:=116) (y:=97+(i:Int) % 26) 116 (97+i % 26) rfl (by omega) (by omega) (by omega) s K
 simp[-ax,r1,CM,w1,w2,two,fQ]
theorem zX(hc:bu c)(i:Nat)(hi:i<1000000)(st:St)(hw:Wf st):c 86 [.int .i64 (i:Int)] st=some (.str (bY i),st):=by
 have hg:=Grew.ah hw (.cells [.int .u8 (97+(i:Int) / 26 % 26),.int .u8 (97+(i:Int) % 26)] 0);rw[Ol hc 1 (r:=(.str (bY i),ah st (.cells [.int .u8 (97+(i:Int) / 26 % 26),.int .u8 (97+(i:Int) % 26)] 0))),aE (Plain.str _) hg.keeps];rw[RY];have w1:av .i64 (97+(i:Int) % 26)=97+(i:Int) % 26:=wrap64 (by omega) (by omega);have w2:av .u8 (97+(i:Int) % 26)=97+(i:Int) % 26:=Hy (by omega) (by omega);have w3:av .i64 (97+(i:Int) / 26 % 26)=97+(i:Int) / 26 % 26:=wrap64 (by omega) (by omega);have w4:av .u8 (97+(i:Int) / 26 % 26)=97+(i:Int) / 26 % 26:=Hy (by omega) (by omega);have r1:=λ(s:St)(K:AV->St->Option (AV×St))=>dD (c:=c) (k:= .i64) (a:=(i:Int)) (b:=26) (by omega) (by omega) s K
 have r2:=λ(s:St)(K:AV->St->Option (AV×St))=>iL (c:=c) (a:=(i:Int)) (b:=26) (by omega) (by omega) (by omega) s K
 have r3:=λ(s:St)(K:AV->St->Option (AV×St))=>dD (c:=c) (k:= .i64) (a:=(i:Int) / 26) (b:=26) (by omega) (by omega) s K
 have two:=λ(s:St)(K:AV->St->Option (AV×St))=>aiD (c:=c) (x:=97+(i:Int) / 26 % 26) (y:=97+(i:Int) % 26) (97+i / 26 % 26) (97+i % 26) (by omega) (by omega) (by omega) (by omega) s K
 simp[-ax,r1,r2,r3,CM,w1,w2,w3,w4,two,bY]
def nY(sh a b:Int):Int:=if sh=2 then 2*a+b else if sh=3 then a+2*b else a
theorem MW(hc:bu c){l:List AV}{sh a b:Int}(h1:l[1]? =some (.int .u8 sh))(h2:l[2]? =some (.int .i64 a))(h3:l[3]? =some (.int .i64 b))(ha:0<=a/\a<=1000000)(hb:0<=b/\b<=1000000)(st:St)(hw:Wf st):
   c 46 [.agg l] st=some (.int .i64 (nY sh a b),st):=by
 have hg:=Grew.ah hw (.cells l 0);have p1:=aB st (.cells l 0);rw[RZ hc 1 (r:=(.int .i64 (nY sh a b),ah st (.cells l 0))),aE (Plain.int _ _) hg.keeps];rw[Xd];have w1:av .i64 (2*a)=2*a:=wrap64 (by omega) (by omega);have w2:av .i64 (2*b)=2*b:=wrap64 (by omega) (by omega);have w3:av .i64 (2*a+b)=2*a+b:=wrap64 (by omega) (by omega);have w4:av .i64 (a+2*b)=a+2*b:=wrap64 (by omega) (by omega);unfold nY;by_cases e2:sh=2
 .subst e2;simp[p1,h1,h2,h3,w1,w3]
 . by_cases e3:sh=3
   .subst e3;simp[p1,h1,h2,h3,w2,w4]
   .have d2:decide (sh=2)=false:=Za2 e2;have d3:decide (sh=3)=false:=Za2 e3;simp[p1,h1,h2,h3,e2,e3,d2,d3]
def afC(i:Nat):List AV:=[.int .i64 (i:Int)]
def vg:List AV:=[.str [],.int .u8 0,.int .i64 0,.int .i64 0,.af,.int .i64 0,.int .i64 0]
def iq(nm:List Nat)(sh a b:Int)(x:Nat)(v:AV):List AV:=[.str nm,.int .u8 sh,.int .i64 a,.int .i64 b,v,.int .i64 (x:Int),.int .i64 (255 - (x:Int))]
def acZ(x i:Nat):Bool:=decide (x / 2 ^ i % 2=1)&&decide (0<x % 3)
theorem auY(x i:Nat):acZ x i=(decide (x / 2 ^ i % 2=1)&&decide (0<x % 3)):=by rw[acZ]
def DP(x k:Nat):List Nat:=(List.range k).filter (acZ x)
theorem agy(x k:Nat):DP x (k+1)=DP x k++(if acZ x k=true then [k]else []):=by
 unfold DP;rw[Zf9,Zk2];congr 1;cases h:acZ x k with
 |true=>simp[h]
 |false=>simp[h]
theorem aiZ(x k:Nat):(DP x k).length<=k:=by have:=Zl2 (acZ x) (List.range k);rw[Zr0]at this;exact this
structure TI(st s:St)(p4 p5:Pos)(nm:List Nat)(sh a b:Int)(x k:Nat)(v:AV):Prop where
 out:Mk 1 st s v ((DP x k).map afC)
 h4:s.heap.get p4=some (.cells vg 0)
 h5:s.heap.get p5=some (.cells (iq nm sh a b x v) 0)
 n4:aR v≠some p4
 n5:aR v≠some p5
theorem anG(hc:bu c){nm:List Nat}{sh a b:Int}{x n:Nat}(ha:0<=a/\a<=1000000)(hb:0<=b/\b<=1000000)(hx:x<1000000)(hn:nY sh a b=(n:Int))(hn64:n<=64){st:St}{p4 p5:Pos}(h4:st.next.toNat<=p4.toNat)(h5:st.next.toNat<=p5.toNat)(R4:p4≠p5)
  (F:Nat) (k3):∀(m k:Nat)(s:St)(v:AV),TI st s p4 p5 nm sh a b x k v->n<=k+m->k<=n->
  ∃s' v',TI st s' p4 p5 nm sh a b x n v'/\jE c F k3 (m+1) [.int .i64 (x:Int),.ptr p4 0,.ptr p5 0,.int .i64 (k:Int)] s=k3 [.ptr p4 0,.ptr p5 0] s':=by
 intro m;induction m with
 |zero=>
  intro k s v hT h1 h2;obtain rfl:k=n:=by omega
  refine⟨s,v,hT,?_⟩;have S:=MW hc (l:=iq nm sh a b x v) rfl rfl rfl ha hb s hT.out.ai.wf;have cu:cut (iq nm sh a b x v) 0 7=some (iq nm sh a b x v):=cQ rfl;rw[hn]at S;rw[nZ];simp[hT.h5,cu,S]
 |succ m ih=>
  intro k s v hT h1 h2;have hw:=hT.out.ai.wf;have S:=MW hc (l:=iq nm sh a b x v) rfl rfl rfl ha hb s hw;have cu:cut (iq nm sh a b x v) 0 7=some (iq nm sh a b x v):=cQ rfl;rw[hn]at S;clear hn;by_cases h:k<n
  . have hx0:(0:Int)<=(x:Int):=Int.natCast_nonneg x;have w:av .i64 ((k:Int)+1)=((k+1:Nat):Int):=wrap64 (by omega) (by omega);have sr:=λ(s:St)(K:AV->St->Option (AV×St))=>aiC (c:=c) (a:=(x:Int)) (i:=k) (Zb2 h2 hn64) s K
    have p0:(0:Int)<=(x:Int) / 2 ^ k:=Zs2 hx0 (Int.le_of_lt (Int.pow_pos (by omega)));have r1:=λ(s:St)(K:AV->St->Option (AV×St))=>dD (c:=c) (k:= .i64) (a:=(x:Int) / 2 ^ k) (b:=2) p0 (by decide) s K
    have r2:=λ(s:St)(K:AV->St->Option (AV×St))=>dD (c:=c) (k:= .i64) (a:=(x:Int)) (b:=3) hx0 (by decide) s K
    have d1:decide ((x:Int) / 2 ^ k % 2=1)=decide (x / 2 ^ k % 2=1):=(by have:((x:Int) / 2 ^ k % 2=1)↔(x / 2 ^ k % 2=1):=(by rw[show((x:Int) / 2 ^ k % 2)=((x / 2 ^ k % 2:Nat):Int)by simp];omega);exact decide_eq_decide.2 this);have d2:decide (0<(x:Int) % 3)=decide (0<x % 3):=decide_eq_decide.2 (by omega);have c4:(iq nm sh a b x v)[4]? =some v:=rfl;have hl:decide ((k:Int)<(n:Int))=true:=Za0 (Int.ofNat_lt.2 h);have fin:=auY x k;cases hq:acZ x k with
    |   true=>
        have hrl:((DP x k).map afC).length<=64:=(by rw[Za3];have:=aiZ x k;omega);obtain⟨s5,v5,a1,a2,a3,a4⟩:=hT.out.push (c:=c) (R:=AV×St) (bytes:=8) (z:=[.int .i64 0]) (x:= .int .i64 (k:Int)) rfl rfl rfl (by decide) (by omega) (by omega);have e:(DP x (k+1)).map afC=(DP x k).map afC++[(.int .i64 (k:Int):AV).cells]:=(by rw[agy,Zb4 hq,Zc8];rfl);rw[<-e]at a2;have y4:=a3 p4 _ hT.n4 hT.h4;have y5:=a3 p5 _ hT.n5 hT.h5;have l4:=hw p4 _ hT.h4;have l5:=hw p5 _ hT.h5;have b4:aR v5≠some p4:=λe=>by have:=a4 _ e;omega
        have b5:aR v5≠some p5:=λe=>by have:=a4 _ e;omega
        have hw5:=a2.ai.wf;have l5':=hw5 p5 _ y5;have M:=a2.store (p:=p5) (b:= .cells (iq nm sh a b x v5) 0) h5 l5' b5;obtain⟨vc,v1⟩:=a2.cells;have bK:∀(K:AV->St->Option (AV×St)),aq c (.store 1) [.ptr p5 4,v5] s5 K=K .undef (bn s5 p5 (.cells (iq nm sh a b x v5) 0)):=λK=>by rw[cH c K s5 1 p5 4 v5 (iq nm sh a b x v) y5 (by rw[vc];rfl) (by simp[iq]) (by rw[vc];exact v1),vc];rfl
        have T5:TI st (bn s5 p5 (.cells (iq nm sh a b x v5) 0)) p4 p5 nm sh a b x (k+1) v5:=⟨M,by rw[aM (λe=>R4 e.symm)];exact y4,bW _ _ _,b4,b5⟩
        obtain⟨s',v',b1,b2⟩:=ih (k+1) _ v5 T5 (by omega) (by omega);refine⟨s',v',b1,?_⟩;rw[<-b2,nZ];rw[fin,Zb7]at hq;simp[-ax,hT.h5,cu,S,h,cY,sr,r1,r2,d1,d2,hq.1,hq.2,c4,a1,bK,w]
    |   false=>
        have e:(DP x (k+1))=(DP x k):=(by rw[agy,Za7 (by rw[hq];decide),Zd7]);obtain⟨s',v',b1,b2⟩:=ih (k+1) s v ⟨by rw[e];exact hT.out,hT.h4,hT.h5,hT.n4,hT.n5⟩ (by omega) (by omega);refine⟨s',v',b1,?_⟩;rw[<-b2,nZ];rw[fin]at hq;cases g1:decide (x / 2 ^ k % 2=1)with
        |false=>simp[-ax,hT.h5,cu,S,h,cY,sr,r1,r2,d1,d2,g1,c4,w]
        |true=>
         rw[g1,Zg5]at hq;simp[-ax,hT.h5,cu,S,h,cY,sr,r1,r2,d1,d2,g1,hq,c4,w]
  .obtain rfl:k=n:=(by omega);refine⟨s,v,hT,?_⟩;rw[nZ];simp[hT.h5,cu,S]
theorem mN(s:St)(cs:List AV)(o:Nat)(v:AV)(ho:o<cs.length)(h1:v.cells=[v])(h2:v.one=true)(K:AV->St->Option (AV×St)):aq c (.store 1) [.ptr s.next o,v] (ah s (.cells cs 0)) K=K .undef (ah s (.cells (cs.set o v) 0)):=by
 rw[cH c K (ah s (.cells cs 0)) 1 s.next o v cs (aB _ _) (by rw[h1];rfl) (by omega) (by rw[h1];simp[aV,h2]),h1,zP _ _ ho,Q6]
def pN(x:Nat):Nat:=1+x % 4
def tA(x:Nat):Nat:=if x % 4=0 then 1+x / 4 % 6 else if x % 4=1 then 1+x / 4 % 3 else if x % 4=2 then 1+x / 4 % 2 else 1+x / 4 % 5
def tB(x:Nat):Nat:=if x % 4=0 then 0 else if x % 4=1 then x / 4 / 3 % 3 else if x % 4=2 then 1+x / 4 / 2 % 2 else min (1+x / 4 % 5) (x / 4 / 5 % 4)
def tN(x:Nat):Nat:=if x % 4=1 then 2*tA x+tB x else if x % 4=2 then tA x+2*tB x else tA x
theorem ahA(x:Nat):tA x<=6:=by unfold tA;split<;>(try split)<;>(try split)<;>omega
theorem ahB(x:Nat):tB x<=3:=by unfold tB;split<;>(try split)<;>(try split)<;>omega
theorem adU(x:Nat):tN x<=16:=by have:=ahA x;have:=ahB x;unfold tN;split<;>(try split)<;>omega
theorem aam(x:Nat):nY ((pN x:Nat):Int) ((tA x:Nat):Int) ((tB x:Nat):Int)=((tN x:Nat):Int):=by
 unfold nY tN pN;by_cases h1:x % 4=1
 .rw[Zb4 (by omega),Zb4 h1];omega
 . by_cases h2:x % 4=2
   .rw[Za7 (by omega),Zb4 (by omega),Za7 h1,Zb4 h2];omega
   .rw[Za7 (by omega),Za7 (by omega),Za7 h1,Za7 h2]
theorem asF(hc:bu c)(i x:Nat)(hi:i<1000000)(hx:x<256)(st:St)(hw:Wf st):∃v s',c 45 [.int .i64 (i:Int),.int .i64 (x:Int)] st=some (.agg (iq (fQ i) (pN x:Nat) (tA x:Nat) (tB x:Nat) x v),s')/\Mk 1 st s' v ((DP x (tN x)).map afC):=by
 have dm:Wf (ah st (.cells vg 0)):=bP hw;have g1:=Grew.ah hw (.cells vg 0);have W:=asE hc i hi (ah st (.cells vg 0)) dm;have hA:=ahA x;have hB:=ahB x;have hN:=adU x;have g2:=Grew.ah dm (.cells (iq (fQ i) (pN x:Nat) (tA x:Nat) (tB x:Nat) x .af) 0);have x1:(ah (ah st (.cells vg 0)) (.cells (iq (fQ i) (pN x:Nat) (tA x:Nat) (tB x:Nat) x .af) 0)).heap.get st.next=some (.cells vg 0):=g2.get (aB _ _);have x2:(ah (ah st (.cells vg 0)) (.cells (iq (fQ i) (pN x:Nat) (tA x:Nat) (tB x:Nat) x .af) 0)).heap.get (ah st (.cells vg 0)).next=some (.cells (iq (fQ i) (pN x:Nat) (tA x:Nat) (tB x:Nat) x .af) 0):=aB _ _;have n12:st.next≠(ah st (.cells vg 0)).next:=by rw[bX];exact Pos.ZZ _
 have T0:TI st (ah (ah st (.cells vg 0)) (.cells (iq (fQ i) (pN x:Nat) (tA x:Nat) (tB x:Nat) x .af) 0)) st.next (ah st (.cells vg 0)).next (fQ i) (pN x:Nat) (tA x:Nat) (tB x:Nat) x 0 .af:=
   ⟨Mk.start hw (g1.trans g2),x1,x2,λe=>(nomatch e),λe=>(nomatch e)⟩
 obtain⟨s',v,hT,L⟩:=anG hc (n:=tN x) (by omega) (by omega) (by omega) (aam x) (by omega) (p4:=st.next) (p5:=(ah st (.cells vg 0)).next) (Za5 _) (by rw[bX,Pos.aH];omega) n12 (tN x+1)
   (λvs s96=>ir vs λx4 vs=>ir vs λx5 vs=>mG vs (aq c (.load (some 7)) [x5] s96 λx86 s97=>aq c (.store 7) [x4,x86] s97 λ_ s98=>ldr (some 7) x4 s98 λv99=>some (v99,s98))) (tN x) 0 (ah (ah st (.cells vg 0)) (.cells (iq (fQ i) (pN x:Nat) (tA x:Nat) (tB x:Nat) x .af) 0)) .af T0 (by omega) (by omega)
 have M:=hT.out;obtain⟨vc,v1⟩:=M.cells;have one:aV (iq (fQ i) (pN x:Nat) (tA x:Nat) (tB x:Nat) x v)=true:=by
   simp only[aV]at v1;unfold iq;simp only[aV,AV.one,v1,Zj2,Zi9]at*
 have hcut:cut (iq (fQ i) (pN x:Nat) (tA x:Nat) (tB x:Nat) x v) 0 7=some (iq (fQ i) (pN x:Nat) (tA x:Nat) (tB x:Nat) x v):=cQ rfl;have A3:∀(K:AV->St->Option (AV×St)),aq c (.store 7) [.ptr st.next 0,.agg (iq (fQ i) (pN x:Nat) (tA x:Nat) (tB x:Nat) x v)] s' K=K .undef (bn s' st.next (.cells (iq (fQ i) (pN x:Nat) (tA x:Nat) (tB x:Nat) x v) 0)):=λK=>by rw[cH c K s' 7 st.next 0 (.agg (iq (fQ i) (pN x:Nat) (tA x:Nat) (tB x:Nat) x v)) _ hT.h4 rfl (by simp[vg]) one];rfl
 have M2:=M.store (p:=st.next) (b:= .cells (iq (fQ i) (pN x:Nat) (tA x:Nat) (tB x:Nat) x v) 0) (Za5 _) (M.ai.wf _ _ hT.h4) hT.n4;have mem:v∈iq (fQ i) (pN x:Nat) (tA x:Nat) (tB x:Nat) x v:=by simp[iq]
 have low:∀y∈fQ i,y<256:=by intro y hy;simp[fQ]at hy;omega
 obtain⟨fD,t1,_,t3⟩:=M2.Tu mem (λu hu=>by simp only[iq,Za9,Zc6,Zf3]at hu;rcases hu with rfl|rfl|rfl|rfl|rfl|rfl|rfl<;>first|exact dV.str low|exact dV.int _ _|exact M.inst);refine⟨v,fD,?_,t3⟩;rw[Qc hc (tN x+1) (r:=(.agg (iq (fQ i) (pN x:Nat) (tA x:Nat) (tB x:Nat) x v),bn s' st.next (.cells (iq (fQ i) (pN x:Nat) (tA x:Nat) (tB x:Nat) x v) 0))),t1];have L2:jE c (tN x+1) (λvs s96=>ir vs λx4 vs=>ir vs λx5 vs=>mG vs (aq c (.load (some 7)) [x5] s96 λx86 s97=>aq c (.store 7) [x4,x86] s97 λ_ s98=>ldr (some 7) x4 s98 λv99=>some (v99,s98))) (tN x+1) [.int .i64 (x:Int),.ptr st.next 0,.ptr (ah st (.cells vg 0)).next 0,.int .i64 0] (ah (ah st (.cells vg 0)) (.cells (iq (fQ i) (pN x:Nat) (tA x:Nat) (tB x:Nat) x .af) 0))=some (.agg (iq (fQ i) (pN x:Nat) (tA x:Nat) (tB x:Nat) x v),bn s' st.next (.cells (iq (fQ i) (pN x:Nat) (tA x:Nat) (tB x:Nat) x v) 0)):=by
   rw[show(0:Int)=((0:Nat):Int)from rfl,L];simp[hT.h5,hcut,A3]
 generalize hF:tN x+1=F at L2 ⊢;clear hF L hT M2 A3 T0 x1 x2 g2;have q1:=λ(s:St)(K:AV->St->Option (AV×St))=>dD (c:=c) (k:= .i64) (a:=(x:Int)) (b:=4) (by omega) (by omega) s K
 have q2:=λ(s:St)(K:AV->St->Option (AV×St))=>iL (c:=c) (a:=(x:Int)) (b:=4) (by omega) (by omega) (by omega) s K
 have q3:=λ(n:Int)(hn:0<n)(s:St)(K:AV->St->Option (AV×St))=>dD (c:=c) (k:= .i64) (a:=(x:Int) / 4) (b:=n) (by omega) hn s K
 have w1:av .i64 (1+(x:Int) % 4)=1+(x:Int) % 4:=wrap64 (by omega) (by omega);have w2:av .u8 (1+(x:Int) % 4)=1+(x:Int) % 4:=Hy (by omega) (by omega);have w3:av .i64 (255 - (x:Int))=255 - (x:Int):=wrap64 (by omega) (by omega);have al:∀(s:St)(K:AV->St->Option (AV×St)),aq c (.alloc [.str [],.int .u8 0,.int .i64 0,.int .i64 0,.af,.int .i64 0,.int .i64 0]) [] s K=K (.ptr s.next 0) (ah s (.cells vg 0)):=λs K=>rfl
 have bld:∀(nm:List Nat)(sh u y:Int)(s:St)(K:AV->St->Option (AV×St)),aq c (.build [.str [],.int .u8 0,.int .i64 0,.int .i64 0,.af,.int .i64 0,.int .i64 0] [(0,1),(1,1),(5,1),(6,1)]) [.str nm,.int .u8 sh,.int .i64 u,.int .i64 y] s K=K (.agg [.str nm,.int .u8 sh,.int .i64 0,.int .i64 0,.af,.int .i64 u,.int .i64 y]) s:=λnm sh u y s K=>rfl
 have R5:∀(nm:List Nat)(sh u y:Int)(s:St)(K:AV->St->Option (AV×St)),aq c (.store 7) [.ptr s.next 0,.agg [.str nm,.int .u8 sh,.int .i64 0,.int .i64 0,.af,.int .i64 u,.int .i64 y]] (ah s (.cells vg 0)) K=K .undef (ah s (.cells [.str nm,.int .u8 sh,.int .i64 0,.int .i64 0,.af,.int .i64 u,.int .i64 y] 0)):=λnm sh u y s K=>cq c K s 7 (.agg [.str nm,.int .u8 sh,.int .i64 0,.int .i64 0,.af,.int .i64 u,.int .i64 y]) vg rfl rfl rfl
 have anH:∀(nm:List Nat)(sh p q u y z:Int)(s:St)(K:AV->St->Option (AV×St)),aq c (.store 1) [.ptr s.next 2,.int .i64 z] (ah s (.cells [.str nm,.int .u8 sh,.int .i64 p,.int .i64 q,.af,.int .i64 u,.int .i64 y] 0)) K=K .undef (ah s (.cells [.str nm,.int .u8 sh,.int .i64 z,.int .i64 q,.af,.int .i64 u,.int .i64 y] 0)):=λnm sh p q u y z s K=>mN s _ 2 (.int .i64 z) (by simp) rfl rfl K
 have anI:∀(nm:List Nat)(sh p q u y z:Int)(s:St)(K:AV->St->Option (AV×St)),aq c (.store 1) [.ptr s.next 3,.int .i64 z] (ah s (.cells [.str nm,.int .u8 sh,.int .i64 p,.int .i64 q,.af,.int .i64 u,.int .i64 y] 0)) K=K .undef (ah s (.cells [.str nm,.int .u8 sh,.int .i64 p,.int .i64 z,.af,.int .i64 u,.int .i64 y] 0)):=λnm sh p q u y z s K=>mN s _ 3 (.int .i64 z) (by simp) rfl rfl K
 rw[UF];simp only[al];generalize (ah st (.cells vg 0))=s1 at W dm L2 n12;have a1:av .i64 1=1:=rfl;have h4:x % 4=0\/x % 4=1\/x % 4=2\/x % 4=3:=by omega
 rcases h4 with h|h|h|h
 .have e4:(x:Int) % 4=0:=(by omega);have eS:((pN x:Nat):Int)=1:=(by unfold pN;omega);have eA:((tA x:Nat):Int)=1+(x:Int) / 4 % 6:=(by unfold tA;rw[Zb4 h];omega);have eB:((tB x:Nat):Int)=0:=(by unfold tB;rw[Zb4 h];rfl);simp only[iq,eS,eA,eB]at L2 ⊢;simp (disch:=omega) [-ax,-iF,-oG,-ig,bld,R5,anH,anI,W,dD,iL,e4,CM,wrap64,Hy,cY,Za4,L2]
 .have e4:(x:Int) % 4=1:=(by omega);have eS:((pN x:Nat):Int)=2:=(by unfold pN;omega);have eA:((tA x:Nat):Int)=1+(x:Int) / 4 % 3:=(by unfold tA;rw[Za7 (by omega),Zb4 h];omega);have eB:((tB x:Nat):Int)=(x:Int) / 4 / 3 % 3:=(by unfold tB;rw[Za7 (by omega),Zb4 h];omega);simp only[iq,eS,eA,eB]at L2 ⊢;simp (disch:=omega) [-ax,-iF,-oG,-ig,bld,R5,anH,anI,W,dD,iL,e4,CM,wrap64,Hy,cY,Za4,L2]
 .have e4:(x:Int) % 4=2:=(by omega);have eS:((pN x:Nat):Int)=3:=(by unfold pN;omega);have eA:((tA x:Nat):Int)=1+(x:Int) / 4 % 2:=(by unfold tA;rw[Za7 (by omega),Za7 (by omega),Zb4 h];omega);have eB:((tB x:Nat):Int)=1+(x:Int) / 4 / 2 % 2:=(by unfold tB;rw[Za7 (by omega),Za7 (by omega),Zb4 h];omega);simp only[iq,eS,eA,eB]at L2 ⊢;simp (disch:=omega) [-ax,-iF,-oG,-ig,bld,R5,anH,anI,W,dD,iL,e4,CM,wrap64,Hy,cY,Za4,L2]
 . have e4:(x:Int) % 4=3:=(by omega);have eS:((pN x:Nat):Int)=4:=(by unfold pN;omega);have eA:((tA x:Nat):Int)=1+(x:Int) / 4 % 5:=(by unfold tA;rw[Za7 (by omega),Za7 (by omega),Za7 (by omega)];omega);obtain⟨mb,hmb⟩:∃mb:Int,mb=min (1+(x:Int) / 4 % 5) ((x:Int) / 4 / 5 % 4):=⟨_,rfl⟩
   have amh:∀(s:St)(K:AV->St->Option (AV×St)),aq c .minB [.int .i64 (1+(x:Int) / 4 % 5),.int .i64 ((x:Int) / 4 / 5 % 4)] s K=K (.int .i64 mb) s:=λs K=>by rw[hmb];exact alq c K s _ _ _ _
   have eB:((tB x:Nat):Int)=mb:=(by rw[hmb];unfold tB;rw[Za7 (by omega),Za7 (by omega),Za7 (by omega)];omega);clear hmb;simp only[iq,eS,eA,eB]at L2 ⊢;simp (disch:=omega) [-ax,-iF,-oG,-ig,-alq,amh,bld,R5,anH,anI,W,dD,iL,e4,CM,wrap64,Hy,cY,Za4,L2]
theorem Pa{R:Type}(K:AV->Option R){b:Pos}{off len es es':Nat}{cap:Option Nat}{k:IntKind}{i:Nat}(h:i<len):fq (.idxA es none) [.slice b off len cap es',.int k (i:Int)] K=K (.ptr b (off+i*es)):=
 dw K (λH n=>by
  simp only[aJ.run,sU,jK];have:Nat.blt i len=true:=by rw[Zr7];exact h
  rw[this])
theorem aj3{es:Nat}{s:St}{v:AV}{rows:List (List AV)}(h:QS es s v rows)(hr:∀r∈rows,r.length=es){i:Nat}(hi:i<rows.length):
   ∃b off cap cs,v= .slice b off rows.length cap es/\s.heap.get b=some (.cells cs 0)/\∀j u,rows[i][j]? =some u->cs[off+i*es+j]? =some u:=by
 rcases h with⟨rfl,rfl⟩|⟨b,off,cap,cs,rfl,g1,g2,g3,g4⟩|⟨b,off,rfl,rfl⟩
 .simp at hi
 rotate_left
 .simp at hi
 . (refine⟨b,off,cap,cs,rfl,g1,λj u hj=> ?_⟩;have hj2:j<es:=(by rw[<-hr _ (Zb8 hi)];exact(Za1.1 hj).1);have:=Go.Ai.yU hr i j rows[i] u (H0 hi) hj;rw[<-g3]at this;have aW:i*es+j<rows.length*es:=by have:(i+1)*es<=rows.length*es:=Zh5 _ hi;rw[Zh0]at this;omega);rw[Ze1,Zb4 aW,Ze4]at this;rw[<-this];congr 1;omega
theorem anJ(hc:bu c){s:St}{V W:AV}{rows:List (List AV)}(h:QS 9 s V rows)(hr:∀r∈rows,r.length=9){names:List (List Nat)}(hlen:names.length=rows.length)(hn:∀(i:Nat)(h1:i<rows.length)(h2:i<names.length),rows[i][0]? =some (.str names[i]))(atn:rows.length<=1000)
  {q:Pos} (hq:s.heap.get q=some (.cells [V,W] 0)) (x:Nat) (hx:x<1000000) (hw:Wf s) (F:Nat) (k1 k2):∀(m k f:Nat),m<f->k+m=rows.length->bY x∉names.take k->
  mB c F k1 k2 f [.int .i64 (x:Int),.ptr q 0,.int .i64 (k:Int)] s=if bY x∈names then k1 [.bool true] s else k2 [] s:=by
 intro m;have N:=zX hc x hx s hw;have cu:∀j:Nat,(cellsOf (s.heap.get q)).bind (λcs=>cs[0]?)=some V:=λ_=>by rw[hq];rfl
 induction m with
 |zero=>
  intro k f hf h1 n9;obtain⟨f,rfl⟩:∃g,f=g+1:=⟨f - 1,by omega⟩
  obtain rfl:k=rows.length:=by omega
  rw[<-hlen,Zg1]at n9;rw[Za7 n9,sO];have lI:=λ(K:AV->St->Option (AV×St))=>h.lenB (c:=c) K s
  simp[hq,lI]
 |succ m ih=>
  intro k f hf h1 n9;obtain⟨f,rfl⟩:∃g,f=g+1:=⟨f - 1,by omega⟩
  have hk:k<rows.length:=by omega
  have ux:k<names.length:=by omega
  have lI:=λ(K:AV->St->Option (AV×St))=>h.lenB (c:=c) K s
  have w:av .i64 ((k:Int)+1)=((k+1:Nat):Int):=wrap64 (by omega) (by omega);obtain⟨b,off,cap,cs,e,g1,g2⟩:=aj3 h hr hk;have nm:=g2 0 _ (hn k hk ux);have hb:=h.beq;have r1:=λ(K:AV->Option (AV×St))=>lH K (o:=0) (v:=V) (h:=s.heap) (h2:=s.heap) (p:=q) (by rw[hq];rfl) (by rw[hq];rfl) hb
  have r2:=λ(K:AV->Option (AV×St))=>lH K (o:=off+k*9) (v:= .str names[k]) (h:=s.heap) (h2:=s.heap) (p:=b) (by rw[g1];exact nm) (by rw[g1];exact nm) (by simp[eJ,jC,fy,mS.2 rfl])
  have ix:=λ(K:AV->Option (AV×St))=>Pa K (b:=b) (off:=off) (es:=9) (es':=9) (cap:=cap) (k:= .i64) hk
  rw[<-e]at ix;by_cases heq:names[k]=bY x
  .have mem:bY x∈names:=(by rw[<-heq];exact Zb8 ux);rw[Zb4 mem,sO];simp[hq,lI,hk,N,r1,r2,ix,heq]
  . have hno2:bY x∉names.take (k+1):=by
        rw[Zc2 ux,Ze0,Zg8];rintro(h|h)
        .exact n9 h
        .exact heq h.symm
    rw[<-ih (k+1) f (by omega) (by omega) hno2,sO];have d:decide (names[k]=bY x)=false:=Za2 heq;simp[hq,lI,hk,N,r1,r2,ix,heq,d,w]
theorem asG(hc:bu c){s:St}{V W:AV}{rows:List (List AV)}(h:QS 9 s V rows)(hr:∀r∈rows,r.length=9){names:List (List Nat)}(hlen:names.length=rows.length)(hn:∀(i:Nat)(h1:i<rows.length)(h2:i<names.length),rows[i][0]? =some (.str names[i]))(atn:rows.length<=1000)
   (x:Nat) (hx:x<1000000) (hw:Wf s):c 87 [.agg [V,W],.int .i64 (x:Int)] s=some (.bool (decide (bY x∈names)),s):=by
 have hg:=Grew.ah hw (.cells [V,W] 0);have h2:QS 9 (ah s (.cells [V,W] 0)) V rows:=h.mono λb y _ hy=>hg.get hy
 have L:=anJ hc h2 hr hlen hn atn (aB s (.cells [V,W] 0)) x hx (bP hw) (rows.length+1) (λvs OY=>ir vs λx4 vs=>mG vs (some (x4,OY))) (λvs s14=>mG vs (aq c .move [.bool false] s14 λx4 s15=>some (x4,s15))) rows.length 0 (rows.length+1) (by omega) (by omega) (by simp);rw[Qd hc (rows.length+1) (r:=(.bool (decide (bY x∈names)),ah s (.cells [V,W] 0))),aE (Plain.bool _) hg.keeps];rw[UG];by_cases hm:bY x∈names
 .rw[Zb4 hm]at L;simp at L;simp[L,hm]
 .rw[Za7 hm]at L;simp at L;simp[L,hm]
end
section
open Go Go.Ai Go.Proofs
def pz(gs:List aS)(i:Nat):List Nat:=match gs[i]? with|some g=>g.name|none=>[]
def Iu(gs:List aS)(i:Nat):List Nat:=match gs[i]? with|some g=>g.mY|none=>[]
def zn(ts:List aC)(i:Nat):List Nat:=match ts[i]? with|some t=>t.name|none=>[]
def CS(ts:List aC)(i:Nat):Int:=match ts[i]? with|some t=>nY t.sh t.a t.b|none=>0
def Ul(ts:List aC)(gs:List aS)(k wt a b t n z:Nat):Rl×Bool:=
 if k=1\/k=2\/k=3\/k=4\/k=5 then(⟨k,wt,pz gs a,pz gs b,[],if k=4 then((n+1:Nat):Int)else if k=1 then(n:Int)else 0⟩,decide (a≠b))
 else if k=6\/k=7 then(⟨k,wt,pz gs a,[],zn ts t,if k=7 then((z / 13:Nat):Int) % CS ts t else 0⟩,true)
 else if k=10 then(⟨k,wt,if z % 3=0 then pz gs a else [],[],[],0⟩,true)
 else if k=17 then(⟨k,wt,Iu gs a,[],zn ts t,0⟩,decide (Iu gs a≠[]))
 else(⟨k,wt,[],[],if 0<z % 3 then zn ts t else [],if k=15\/k=16 then(n:Int)else 0⟩,true)
def YW(y:Nat):Nat:=if 1<y % 5 then 1+y % 7 else 0
def iz(ts:List aC)(gs:List aS)(x:Nat):Rl×Bool:=
 if gs.length=0\/ts.length=0 then(⟨((1+x % 18:Nat):Int),(YW (x / 18):Int),[],[],[],0⟩,false)
 else Ul ts gs (1+x % 18) (YW (x / 18)) (x / 18 / 5 % gs.length) (x / 18 / 5 / gs.length % gs.length) (x / 18 / 5 / 7 % ts.length) (x / 18 / 5 / 11 % 4) (x / 18 / 5)
theorem afD(i:Nat):oN (bY i)=true:=by unfold oN bY;have h1:i / 26 % 26<26:=Zk6 _ (by omega);have h2:i % 26<26:=Zk6 _ (by omega);simp;omega
variable{c:aj}
theorem agz{cs row:List AV}{o n:Nat}(hl:row.length=n)(h0:0<n)(h:∀(j:Nat)(u:AV),row[j]? =some u->cs[o+j]? =some u):cut cs o n=some row:=by
 have h1:=h (n - 1) row[n - 1] (H0 (by omega));have h2:=(Za1.1 h1).1;unfold cut;have:Nat.ble (o+n) cs.length=true:=by rw[Nat.ble_eq];omega
 rw[this];simp only;congr 1;refine Zi7 λi=> ?_
 rw[Ze1];split
 .rename_i hi;rw[Ze4,h i _ (H0 (by omega)),H0 (by omega)]
 .rw[Zc0 (by omega)]
theorem TS.row{s0 s:St}{V:AV}{ts:List aC}{rows:List (List AV)}(h:TS s0 s V ts rows){i:Nat}(hi:i<ts.length):
   ∃b off cap cs v,V= .slice b off rows.length cap 7/\s.heap.get b=some (.cells cs 0)/\cut cs (off+i*7) 7=some (ts[i].ay v)/\cs[off+i*7]? =some (.str ts[i].name):=by
 have hr:i<rows.length:=by rw[h.len];exact hi
 obtain⟨b,off,cap,cs,e,g1,g2⟩:=aj3 h.out.own h.out.row hr;obtain⟨v,e1,_,_⟩:=h.eI i ts[i] rows[i] (H0 hi) (H0 hr);refine⟨b,off,cap,cs,v,e,g1,?_,?_⟩
 .rw[<-e1];exact agz (h.out.row _ (Zb8 hr)) (by omega) g2
 . have:=g2 0 (.str ts[i].name) (by rw[e1];rfl)
   rwa [Zg2]at this
theorem GS.row{s0 s:St}{V:AV}{gs:List aS}{rows:List (List AV)}(h:GS s0 s V gs rows){i:Nat}(hi:i<gs.length):
   ∃b off cap cs v,V= .slice b off rows.length cap 9/\s.heap.get b=some (.cells cs 0)/\cut cs (off+i*9) 9=some (gs[i].ay v)/\cs[off+i*9]? =some (.str gs[i].name)/\cs[off+i*9+5]? =some (.str gs[i].mY):=by
 have hr:i<rows.length:=by rw[h.len];exact hi
 obtain⟨b,off,cap,cs,e,g1,g2⟩:=aj3 h.out.own h.out.row hr;obtain⟨v,e1,_,_⟩:=h.eI i gs[i] rows[i] (H0 hi) (H0 hr);refine⟨b,off,cap,cs,v,e,g1,?_,?_,?_⟩
 .rw[<-e1];exact agz (h.out.row _ (Zb8 hr)) (by omega) g2
 . have:=g2 0 (.str gs[i].name) (by rw[e1];rfl)
   rwa [Zg2]at this
 .exact g2 5 (.str gs[i].mY) (by rw[e1];rfl)
theorem QS.ato{R:Type}{es:Nat}{s:St}{v:AV}{rows:List (List AV)}(h:QS es s v rows)(K:AV->Option R):fq (.lenB .l) [v] K=K (.int .i64 (rows.length:Int)):=by
 rcases h with⟨rfl,rfl⟩|⟨b,off,cap,cs,rfl,_⟩|⟨b,off,rfl,rfl⟩<;>exact dw K (λH n=>rfl)
abbrev gJ(k w:Int)(a b t:List Nat)(n:Int):List AV:=[.int .u8 k,.int .i64 w,.str a,.str b,.str t,.int .i64 n]
theorem auZ(k w n w':Int)(a b t:List Nat)(s:St)(K:AV->St->Option (AV×St)):aq c (.store 1) [.ptr s.next 1,.int .i64 w'] (ah s (.cells (gJ k w a b t n) 0)) K=K .undef (ah s (.cells (gJ k w' a b t n) 0)):=mN s _ 1 (.int .i64 w') (by simp) rfl rfl K
theorem alQ(k w n:Int)(a b t u:List Nat)(s:St)(K:AV->St->Option (AV×St)):aq c (.store 1) [.ptr s.next 2,.str u] (ah s (.cells (gJ k w a b t n) 0)) K=K .undef (ah s (.cells (gJ k w u b t n) 0)):=mN s _ 2 (.str u) (by simp) rfl rfl K
theorem au0(k w n:Int)(a b t u:List Nat)(s:St)(K:AV->St->Option (AV×St)):aq c (.store 1) [.ptr s.next 3,.str u] (ah s (.cells (gJ k w a b t n) 0)) K=K .undef (ah s (.cells (gJ k w a u t n) 0)):=mN s _ 3 (.str u) (by simp) rfl rfl K
theorem alR(k w n:Int)(a b t u:List Nat)(s:St)(K:AV->St->Option (AV×St)):aq c (.store 1) [.ptr s.next 4,.str u] (ah s (.cells (gJ k w a b t n) 0)) K=K .undef (ah s (.cells (gJ k w a b u n) 0)):=mN s _ 4 (.str u) (by simp) rfl rfl K
theorem Ml(k w n n':Int)(a b t:List Nat)(s:St)(K:AV->St->Option (AV×St)):aq c (.store 1) [.ptr s.next 5,.int .i64 n'] (ah s (.cells (gJ k w a b t n) 0)) K=K .undef (ah s (.cells (gJ k w a b t n') 0)):=mN s _ 5 (.int .i64 n') (by simp) rfl rfl K
theorem avT{ts:List aC}(h:∀t∈ts,0<nY t.sh t.a t.b/\nY t.sh t.a t.b<=1000){t:Nat}(ht:t<ts.length):CS ts t=nY ts[t].sh ts[t].a ts[t].b/\0<CS ts t/\CS ts t<=1000:=by
 have e:CS ts t=nY ts[t].sh ts[t].a ts[t].b:=by unfold CS;rw[H0 ht]
 rw[e];exact⟨rfl,h _ (Zb8 ht)⟩
theorem asH (hc : bu c){s0 s:St}{V1 V2 V3 V4 V5:AV}{ts:List aC}{gs:List aS}{r1 r2:List (List AV)}(hT:TS s0 s V1 ts r1)(hG:GS s0 s V2 gs r2)(lt:ts.length<=1000)(lg:gs.length<=1000)
   (hz:∀t∈ts,0<nY t.sh t.a t.b/\nY t.sh t.a t.b<=1000) (ha:∀t∈ts,(0<=t.a/\t.a<=1000000)/\0<=t.b/\t.b<=1000000) (x:Nat) (hx:x<4294967296):
   c 48 [.agg [V1,V2,V3,V4,V5],.int .i64 (x:Int)] s=some (.tuple [.agg (iz ts gs x).1.cells,.bool (iz ts gs x).2],s):=by
 have hw:=hT.out.ai.wf;have plain:∀(r:Rl)(b:Bool),Plain (.tuple [.agg r.cells,.bool b]):=λr b=>Plain.tuple λv hv=>by
   simp only[Za9,Zc6,Zf3]at hv;rcases hv with rfl|rfl
   .exact Plain.agg λv hv=>by simp only[Rl.cells,Za9,Zc6,Zf3]at hv;rcases hv with rfl|rfl|rfl|rfl|rfl|rfl<;>first|exact Plain.int _ _|exact Plain.str _
   .exact Plain.bool _
 suffices key:∃s',mC c 1 (.agg [V1,V2,V3,V4,V5]) (.int .i64 (x:Int)) s=some (.tuple [.agg (iz ts gs x).1.cells,.bool (iz ts gs x).2],s')/\aZ s s' by
   obtain⟨s',k1,k2⟩:=key;rw[Qe hc 1 (r:=(.tuple [.agg (iz ts gs x).1.cells,.bool (iz ts gs x).2],s')) k1,aE (plain _ _) k2]
 have dm:Wf (ah s (.cells [V1,V2,V3,V4,V5] 0)):=bP hw;have g1:=Grew.ah hw (.cells [V1,V2,V3,V4,V5] 0);have tC:Wf (ah (ah s (.cells [V1,V2,V3,V4,V5] 0)) (.cells (gJ 0 0 [] [] [] 0) 0)):=bP dm;have g2:=Grew.ah dm (.cells (gJ 0 0 [] [] [] 0) 0);have g12:=g1.trans g2;obtain⟨s2,uy⟩:∃s2,s2=ah (ah s (.cells [V1,V2,V3,V4,V5] 0)) (.cells (gJ 0 0 [] [] [] 0) 0):=⟨_,rfl⟩
 obtain⟨p4,hp4⟩:∃p4,p4=(ah s (.cells [V1,V2,V3,V4,V5] 0)).next:=⟨_,rfl⟩
 have asI:Wf s2:=by rw[uy];exact tC
 have anK:Grew s s2:=by rw[uy];exact g12
 have b2:s2.heap.get s.next=some (.cells [V1,V2,V3,V4,V5] 0):=by rw[uy];exact g2.get (aB _ _)
 have b4:s2.heap.get p4=some (.cells (gJ 0 0 [] [] [] 0) 0):=by rw[uy,hp4];exact aB _ _
 have n4:s.next.toNat<p4.toNat:=by rw[hp4,bX,Pos.aH];omega
 have n6:p4.toNat<s2.next.toNat:=asI _ _ b4;have gS:∀b:AB,Grew s2 (ah s2 b):=λb=>Grew.ah asI b
 have hP:∀b:AB,(ah s2 b).heap.get s.next=some (.cells [V1,V2,V3,V4,V5] 0):=λb=>(gS b).get b2
 have hX:∀b:AB,(ah s2 b).heap.get p4=some (.cells (gJ 0 0 [] [] [] 0) 0):=λb=>(gS b).get b4
 have fin:∀(k w n:Int)(a b t:List Nat)(K:AV->St->Option (AV×St)),aq c (.store 6) [.ptr p4 0,.agg (gJ k w a b t n)] (ah s2 (.cells (gJ k w a b t n) 0)) K=K .undef (bn (ah s2 (.cells (gJ k w a b t n) 0)) p4 (.cells (gJ k w a b t n) 0)):=λk w n a b t K=>by rw[cH c K _ 6 p4 0 (.agg (gJ k w a b t n)) _ (hX _) rfl (by simp) rfl];rfl
 have kp:∀(k w n:Int)(a b t:List Nat),aZ s (bn (ah s2 (.cells (gJ k w a b t n) 0)) p4 (.cells (gJ k w a b t n) 0)):=λk w n a b t q y hq=>by have:=hw _ _ hq;rw[aM (λe=>by subst e;omega)];exact(anK.trans (gS _)).get hq
 have cu:∀(k w n:Int)(a b t:List Nat),cut (gJ k w a b t n) 0 6=some (gJ k w a b t n):=λk w n a b t=>cQ rfl
 obtain⟨Q,hQ⟩:∃Q:Option (AV×St)->Prop,Q=λo=>∃s',o=some (.tuple [.agg (iz ts gs x).1.cells,.bool (iz ts gs x).2],s')/\aZ s s':=⟨_,rfl⟩
 have He:∀(k w n:Int)(a b t:List Nat)(bb:Bool),(⟨k,w,a,b,t,n⟩:Rl)=(iz ts gs x).1->bb=(iz ts gs x).2->Q (some (.tuple [.agg (gJ k w a b t n),.bool bb],bn (ah s2 (.cells (gJ k w a b t n) 0)) p4 (.cells (gJ k w a b t n) 0))):=λk w n a b t bb h1 h2=>by
   rw[hQ];exact⟨_,by rw[<-h1, <-h2];rfl,kp _ _ _ _ _ _⟩
 have aes:Q (mC c 1 (.agg [V1,V2,V3,V4,V5]) (.int .i64 (x:Int)) s)->∃s',mC c 1 (.agg [V1,V2,V3,V4,V5]) (.int .i64 (x:Int)) s=some (.tuple [.agg (iz ts gs x).1.cells,.bool (iz ts gs x).2],s')/\aZ s s':=λh=>by rw[hQ]at h;exact h
 apply aes;clear aes;obtain⟨r,hr⟩:∃r:Nat,r=x % 18:=⟨_,rfl⟩
 obtain⟨k,hk⟩:∃k:Nat,k=1+x % 18:=⟨_,rfl⟩
 obtain⟨y,hy⟩:∃y:Nat,y=x / 18:=⟨_,rfl⟩
 obtain⟨y5,hy5⟩:∃y5:Nat,y5=y % 5:=⟨_,rfl⟩
 obtain⟨y7,hy7⟩:∃y7:Nat,y7=y % 7:=⟨_,rfl⟩
 obtain⟨z,hz5⟩:∃z:Nat,z=y / 5:=⟨_,rfl⟩
 obtain⟨w,hwt⟩:∃w:Nat,w=YW y:=⟨_,rfl⟩
 have E1:(x:Int) % 18=(r:Int):=by omega
 have W1:av .i64 (1+(r:Int))=(k:Int):=(wrap64 (by omega) (by omega)).trans (by omega);have W8:av .u8 (k:Int)=(k:Int):=Hy (by omega) (by omega);have E2:(x:Int) / 18=(y:Int):=by omega
 have E3:(y:Int) % 5=(y5:Int):=by omega
 have E4:(y:Int) % 7=(y7:Int):=by omega
 have W2:av .i64 (1+(y7:Int))=1+(y7:Int):=wrap64 (by omega) (by omega);have E5:(y:Int) / 5=(z:Int):=by omega
 obtain⟨g,hg⟩:∃g,g=gs.length:=⟨_,rfl⟩
 obtain⟨T,hTl⟩:∃T,T=ts.length:=⟨_,rfl⟩
 have pl2:∀(K:AV->Option (AV×St)),fq (.lenB .l) [V2] K=K (.int .i64 (g:Int)):=λK=>by rw[hg, <-hG.len];exact QS.ato hG.out.own K
 have pl1:∀(K:AV->Option (AV×St)),fq (.lenB .l) [V1] K=K (.int .i64 (T:Int)):=λK=>by rw[hTl, <-hT.len];exact QS.ato hT.out.own K
 have ML:∀(l:List AV)(K:AV->Option (AV×St)),jJ (.load none) [.ptr s.next (0+1)] (ah s2 (.cells l 0)).heap (λ_=>true) K=K V2:=λl K=>by rw[jZ,hP];rfl
 have rd0:∀(l:List AV)(K:AV->Option (AV×St)),jJ (.load none) [.ptr s.next (0+0)] (ah s2 (.cells l 0)).heap (λ_=>true) K=K V1:=λl K=>by rw[jZ,hP];rfl
 have bld:∀(k':Int)(s':St)(K:AV->St->Option (AV×St)),aq c (.build [.int .u8 0,.int .i64 0,.str [],.str [],.str [],.int .i64 0] [(0,1)]) [.int .u8 k'] s' K=K (.agg (gJ k' 0 [] [] [] 0)) s':=λk' s' K=>rfl
 have sto0:∀(k':Int)(K:AV->St->Option (AV×St)),aq c (.store 6) [.ptr s2.next 0,.agg (gJ k' 0 [] [] [] 0)] (ah s2 (.cells (gJ 0 0 [] [] [] 0) 0)) K=K .undef (ah s2 (.cells (gJ k' 0 [] [] [] 0) 0)):=λk' K=>cq c K s2 6 (.agg (gJ k' 0 [] [] [] 0)) (gJ 0 0 [] [] [] 0) rfl rfl rfl
 rw[UH];rw[di,bN,show AV.cells (.agg [V1,V2,V3,V4,V5])=[V1,V2,V3,V4,V5]from rfl, <-uy, <-hp4,au,au,dD (by omega) (by omega),E1,dy,W1,MJ,W8,bld,bN,sto0,au,iL (by omega) (by omega) (by omega),E2,au];refine yV (P:=λj=>Q (j [.int .i64 (y:Int),.ptr s.next 0,.ptr p4 0,.ptr s2.next 0] (ah s2 (.cells (gJ k w [] [] [] 0) 0)))) ?_ ?_
 . rw[  aD, aD, aD, aD,aX,au,iL (by omega) (by omega) (by omega),E5,au,bC,ML,pl2,bC,rd0,pl1,dh,dh,au,dJ,au];by_cases ON:g=0
   . rw[Za0 (show(g:Int)=0 by omega),aii,aii,mU,cV];have hR:iz ts gs x=(⟨(k:Int),(w:Int),[],[],[],0⟩,false):=by
        unfold iz;rw[Zb4 (.inl (by omega)), <-hk, <-hy, <-hwt]
     have:=He k w 0 [] [] [] false (by rw[hR]) (by rw[hR]);simp[cu,fin];exact this
   rw[Za2 (show ¬(g:Int)=0 by omega),fZ,au,fZ,dJ,jY];by_cases hT0:T=0
   . rw[Za0 (show(T:Int)=0 by omega),cV];have hR:iz ts gs x=(⟨(k:Int),(w:Int),[],[],[],0⟩,false):=by
        unfold iz;rw[Zb4 (.inr (by omega)), <-hk, <-hy, <-hwt]
     have:=He k w 0 [] [] [] false (by rw[hR]) (by rw[hR]);simp[cu,fin];exact this
   rw[Za2 (show ¬(T:Int)=0 by omega),cE];obtain⟨a,ea⟩:∃a:Nat,a=z % g:=⟨_,rfl⟩
   obtain⟨zg,ezg⟩:∃zg:Nat,zg=z / g:=⟨_,rfl⟩
   obtain⟨b,eb⟩:∃b:Nat,b=zg % g:=⟨_,rfl⟩
   obtain⟨z7,ez7⟩:∃z7:Nat,z7=z / 7:=⟨_,rfl⟩
   obtain⟨t,et⟩:∃t:Nat,t=z7 % T:=⟨_,rfl⟩
   obtain⟨z11,ez11⟩:∃z11:Nat,z11=z / 11:=⟨_,rfl⟩
   obtain⟨n,en⟩:∃n:Nat,n=z11 % 4:=⟨_,rfl⟩
   have hR:iz ts gs x=Ul ts gs k w a b t n z:=by
     unfold iz;rw[Za7 (by omega), <-hk, <-hy, <-hwt, <-hz5, <-hg, <-hTl, <-ea, <-ezg, <-eb, <-ez7, <-et, <-ez11, <-en]
   have Ea:(z:Int) % (g:Int)=(a:Int):=(by rw[ea];exact(Zp1 _ _).symm);have Ezg:(z:Int) / (g:Int)=(zg:Int):=(by rw[ezg];exact(Int.natCast_ediv _ _).symm);have Eb:(zg:Int) % (g:Int)=(b:Int):=(by rw[eb];exact(Zp1 _ _).symm);have Ez7:(z:Int) / 7=(z7:Int):=(by omega);have Et:(z7:Int) % (T:Int)=(t:Int):=(by rw[et];exact(Zp1 _ _).symm);have Ez11:(z:Int) / 11=(z11:Int):=(by omega);have En:(z11:Int) % 4=(n:Int):=(by omega);have za:a<g:=(by rw[ea];exact Zk6 _ (by omega));have zb:b<g:=(by rw[eb];exact Zk6 _ (by omega));have zt:t<T:=(by rw[et];exact Zk6 _ (by omega));have gp:0<(g:Int):=(by omega);have Tp:0<(T:Int):=(by omega);rw[dh,dh,Tv (by omega) gp,Ea,dh,dh,aiB (by omega) (by omega) gp,Ezg,dh,Tv (by omega) gp,Eb,dh,aiB (by omega) (by omega) (by omega),Ez7,dh,Tv (by omega) Tp,Et,dh,dh,dh,
     au,iL (by omega) (by omega) (by omega),Ez11,dD (by omega) (by omega),En,au]
   (clear Ea Ezg Eb Ez7 Et Ez11 En ea ezg eb ez7 et ez11;have Bf:1<=k:=(by omega);have ux:k<=18:=(by omega);obtain⟨bA,oA,al8,csA,vA,eA,hA,_,nA,dA⟩:=hG.row (i:=a) (by omega);obtain⟨bB,oB,capB,csB,vB,eB,hB,_,nB,_⟩:=hG.row (i:=b) (by omega);obtain⟨bT,oT,capT,csT,vT,eT,hTb,cT,nT⟩:=hT.row (i:=t) (by omega);have gA:gs[a].name=pz gs a/\gs[a].mY=Iu gs a:=(by unfold pz Iu;rw[H0 (by omega)];exact⟨rfl,rfl⟩);have gB:gs[b].name=pz gs b:=(by unfold pz;rw[H0 (by omega)]);have gT:ts[t].name=zn ts t:=(by unfold zn;rw[H0 (by omega)]);rw[gA.1]at nA;rw[gA.2]at dA;rw[gB]at nB;rw[gT]at nT;have anL:∀l:List AV,(ah s2 (.cells l 0)).heap.get bA=some (.cells csA 0):=λl=>(gS _).get (anK.get hA));have atp:∀l:List AV,(ah s2 (.cells l 0)).heap.get bB=some (.cells csB 0):=λl=>(gS _).get (anK.get hB)
   have heapT:∀l:List AV,(ah s2 (.cells l 0)).heap.get bT=some (.cells csT 0):=λl=>(gS _).get (anK.get hTb)
   have ixA:∀(K:AV->Option (AV×St)),fq (.idxA 9 none) [V2,.int .i64 (a:Int)] K=K (.ptr bA (oA+a*9)):=λK=>by rw[eA];exact Pa K (by rw[hG.len];omega)
   have ixB:∀(K:AV->Option (AV×St)),fq (.idxA 9 none) [V2,.int .i64 (b:Int)] K=K (.ptr bB (oB+b*9)):=λK=>by rw[eB];exact Pa K (by rw[hG.len];omega)
   have ixT:∀(K:AV->Option (AV×St)),fq (.idxA 7 none) [V1,.int .i64 (t:Int)] K=K (.ptr bT (oT+t*7)):=λK=>by rw[eT];exact Pa K (by rw[hT.len];omega)
   have sxA:∀(K:AV->St->Option (AV×St))(s':St),aq c (.idxA 9 none) [V2,.int .i64 (a:Int)] s' K=K (.ptr bA (oA+a*9)) s':=λK s'=>by rw[eA];exact je c K s' (by rw[hG.len];omega)
   have sxT:∀(K:AV->St->Option (AV×St))(s':St),aq c (.idxA 7 none) [V1,.int .i64 (t:Int)] s' K=K (.ptr bT (oT+t*7)) s':=λK s'=>by rw[eT];exact je c K s' (by rw[hT.len];omega)
   have cA:=λ(l l':List AV)(K:AV->Option (AV×St))=>CI K (o:=1) (v:=V2) (h:=(ah s2 (.cells l 0)).heap) (h2:=(ah s2 (.cells l' 0)).heap) (p:=s.next) (by rw[hP];rfl) (by rw[hP];rfl) hG.out.own.beq
   have cP:=λ(l l':List AV)(K:AV->Option (AV×St))=>CI K (o:=0) (v:=V1) (h:=(ah s2 (.cells l 0)).heap) (h2:=(ah s2 (.cells l' 0)).heap) (p:=s.next) (by rw[hP];rfl) (by rw[hP];rfl) hT.out.own.beq
   have sb:∀u:List Nat,eJ (.str u) (.str u)=true:=λu=>by simp[eJ,jC,fy,mS.2 rfl]
   clear eA eB eT;generalize oA+a*9=qA at*
   generalize oB+b*9=qB at*
   generalize oT+t*7=qT at*
   have cB:=λ(l l':List AV)(K:AV->Option (AV×St))=>CI K (o:=qB+0) (v:= .str (pz gs b)) (h:=(ah s2 (.cells l 0)).heap) (h2:=(ah s2 (.cells l' 0)).heap) (p:=bB) (by rw[atp];exact nB) (by rw[atp];exact nB) (sb _)
   have cTn:=λ(l l':List AV)(K:AV->Option (AV×St))=>CI K (o:=qT+0) (v:= .str (zn ts t)) (h:=(ah s2 (.cells l 0)).heap) (h2:=(ah s2 (.cells l' 0)).heap) (p:=bT) (by rw[heapT];exact nT) (by rw[heapT];exact nT) (sb _)
   have rdA:∀(l:List AV)(K:AV->Option (AV×St)),jJ (.load none) [.ptr bA (qA+0)] (ah s2 (.cells l 0)).heap (λ_=>true) K=K (.str (pz gs a)):=λl K=>by rw[jZ,anL,Zg2,show(cellsOf (some (.cells csA 0))).bind (λcs=>cs[qA]?)=some (.str (pz gs a))from nA];rfl
   have su2:∀(k w n:Int)(a b t u:List Nat)(K:AV->St->Option (AV×St)),aq c (.store 1) [.ptr s2.next (0+2),.str u] (ah s2 (.cells (gJ k w a b t n) 0)) K=K .undef (ah s2 (.cells (gJ k w u b t n) 0)):=λk w n a b t u K=>alQ k w n a b t u s2 K
   have su3:∀(k w n:Int)(a b t u:List Nat)(K:AV->St->Option (AV×St)),aq c (.store 1) [.ptr s2.next (0+3),.str u] (ah s2 (.cells (gJ k w a b t n) 0)) K=K .undef (ah s2 (.cells (gJ k w a u t n) 0)):=λk w n a b t u K=>au0 k w n a b t u s2 K
   have su4:∀(k w n:Int)(a b t u:List Nat)(K:AV->St->Option (AV×St)),aq c (.store 1) [.ptr s2.next (0+4),.str u] (ah s2 (.cells (gJ k w a b t n) 0)) K=K .undef (ah s2 (.cells (gJ k w a b u n) 0)):=λk w n a b t u K=>alR k w n a b t u s2 K
   have ldk:∀(k w n:Int)(a b t:List Nat)(K:AV->St->Option (AV×St)),aq c (.load none) [.ptr s2.next (0+0)] (ah s2 (.cells (gJ k w a b t n) 0)) K=K (.int .u8 k) (ah s2 (.cells (gJ k w a b t n) 0)):=λk w n a b t K=>by rw[aO,aB];rfl
   refine yV (P:=λj=>¬(k=1\/k=2\/k=3\/k=4\/k=5\/k=6\/k=7\/k=10\/k=17)->Q (j [.int .i64 (z:Int),.ptr s.next 0,.ptr p4 0,.ptr s2.next 0,.int .i64 (t:Int)] (ah s2 (.cells (gJ k w [] [] [] (if k=15\/k=16 then(n:Int)else 0)) 0)))) ?_ ?_
   . intro hns;obtain⟨z3,e3⟩:∃z3:Nat,z3=z % 3:=⟨_,rfl⟩
     have E6:(z:Int) % 3=(z3:Int):=(by omega);have hf:=hR;unfold Ul at hf;rw[Za7 (by omega),Za7 (by omega),Za7 (by omega),Za7 (by omega), <-e3]at hf;obtain⟨n',hn'⟩:∃n':Int,n'=(if k=15\/k=16 then(n:Int)else 0):=⟨_,rfl⟩
     rw[<-hn']at hf ⊢;by_cases h3:0<z3
     .  have hd:decide (0<z3)=true:=Za0 h3;rw[Zb4 h3]at hf;have:=He k w n' [] [] (zn ts t) true (by rw[hf]) (by rw[hf]);simp (disch:=omega) [-ig,cY,Za4,dD,E6,hd,hP,sxT,heapT,nT,alR,cu,fin,bW];exact this
     .  have hd:decide (0<z3)=false:=Za2 h3;rw[Za7 h3]at hf;have:=He k w n' [] [] [] true (by rw[hf]) (by rw[hf]);simp (disch:=omega) [-ig,cY,dD,E6,hd,cu,fin,bW];exact this
   . intro  j40 aj4;rw[aK,ldk];refine yV (P:=λj=>Q (j [.int .i64 (z:Int),.ptr s.next 0,.ptr p4 0,.ptr s2.next 0,.int .i64 (a:Int),.int .i64 (b:Int),.int .i64 (t:Int),.int .i64 (n:Int),.int .u8 (k:Int),.bool (decide (k=1\/k=2\/k=3\/k=4\/k=5))] (ah s2 (.cells (gJ k w [] [] [] 0) 0)))) ?_ ?_
     .  rw[ aD, aD, aD,aD,aD,aD,aD,aD,aD,aD,aX];by_cases h5:k=1\/k=2\/k=3\/k=4\/k=5
        . rw[ Za0 h5,cV];have hf:=hR;unfold Ul at hf;rw[Zb4 h5]at hf;have fF:Q (some (.tuple [.agg (gJ k w (pz gs a) (pz gs b) [] (if k=4 then(n:Int)+1 else if k=1 then(n:Int)else 0)),.bool (!decide ((a:Int)=(b:Int)))],bn (ah s2 (.cells (gJ k w (pz gs a) (pz gs b) [] (if k=4 then(n:Int)+1 else if k=1 then(n:Int)else 0)) 0)) p4 (.cells (gJ k w (pz gs a) (pz gs b) [] (if k=4 then(n:Int)+1 else if k=1 then(n:Int)else 0)) 0))):=
            He k w _ (pz gs a) (pz gs b) [] _ (by rw[hf];rfl) (by rw[hf];simp;omega)
          have wn:av .i64 ((n:Int)+1)=(n:Int)+1:=wrap64 (by omega) (by omega);clear He aj4;rw[bC,ML,dh,ixA,bC,rdA,bC,su2,bC,cA,dh,ixB,bC,cB,bC,su3];refine yV (P:=λj=>Q (j [.ptr p4 0,.ptr s2.next 0,.int .i64 (a:Int),.int .i64 (b:Int)] (ah s2 (.cells (gJ k w (pz gs a) (pz gs b) [] (if k=1\/k=4 then(n:Int)else 0)) 0)))) ?_ ?_
          . rw[ aD,aD,aD,aD,aX];refine yV (P:=λj=>Q (j [.ptr p4 0,.ptr s2.next 0,.int .i64 (a:Int),.int .i64 (b:Int)] (ah s2 (.cells (gJ k w (pz gs a) (pz gs b) [] (if k=4 then(n:Int)+1 else if k=1 then(n:Int)else 0)) 0)))) ?_ ?_
            . generalize (if k=4 then(n:Int)+1 else if k=1 then(n:Int)else 0)=n6 at*
              simp[cu,fin,bW];exact fF
            . intro j hj;by_cases h4:k=4
              .have hd:decide ((k:Int)=4)=true:=Za0 (by omega);rw[Zb4 h4]at hj;rw[Zb4 (.inr h4),aK,ldk,dJ,hd,cV];simp[wn,Ml];exact hj
              .have hd:decide ((k:Int)=4)=false:=Za2 (by omega);rw[Za7 h4]at hj;rw[show(if k=1\/k=4 then(n:Int)else 0)=(if k=1 then(n:Int)else 0)by by_cases h1:k=1<;>simp[h1,h4],aK,ldk,dJ,hd,cE];exact hj
          . intro j hj;rw[aK,ldk,dJ,au];by_cases h1:k=1
            .rw[Zb4 (.inl h1)]at hj;rw[Za0 (show(k:Int)=1 by omega)];simp[Ml];exact hj
            . rw[Za2 (show ¬(k:Int)=1 by omega)];by_cases h4:k=4
              .rw[Zb4 (.inr h4)]at hj;have hd:decide ((k:Int)=4)=true:=Za0 (by omega);rw[fZ,aK,fZ,ldk,fZ,dJ,hd];simp[Ml];exact hj
              .rw[Za7 (by omega)]at hj;have hd:decide ((k:Int)=4)=false:=Za2 (by omega);rw[fZ,aK,fZ,ldk,fZ,dJ,hd];simp;exact hj
        . rw[ Za2 h5, cE];refine yV (P:=λj=>Q (j [.int .i64 (z:Int),.ptr s.next 0,.ptr p4 0,.ptr s2.next 0,.int .i64 (a:Int),.int .i64 (t:Int),.int .i64 (n:Int),.int .u8 (k:Int),.bool (decide (k=6\/k=7))] (ah s2 (.cells (gJ k w [] [] [] 0) 0)))) ?_ ?_
          . rw[ aD, aD,aD,aD,aD,aD,aD,aD,aD,aX];by_cases h67:k=6\/k=7
            . rw[ Za0 h67,cV];have hf:=hR;unfold Ul at hf;rw[Za7 h5,Zb4 h67]at hf;obtain⟨sz1,sz2,sz3⟩:=avT hz (t:=t) (by omega);obtain⟨ha1,ha2⟩:=ha _ (Zb8 (show t<ts.length by omega));obtain⟨z13,e13⟩:∃z13:Nat,z13=z / 13:=⟨_,rfl⟩
              have E13:(z:Int) / 13=(z13:Int):=(by omega);rw[<-e13]at hf;have SZ:∀l:List AV,c 46 [.agg (ts[t].ay vT)] (ah s2 (.cells l 0))=some (.int .i64 (CS ts t),ah s2 (.cells l 0)):=λl=>by rw[sz1];exact MW hc rfl rfl rfl ha1 ha2 _ (bP asI)
              have fF:Q (some (.tuple [.agg (gJ k w (pz gs a) [] (zn ts t) (if k=7 then(z13:Int) % CS ts t else 0)),.bool true],bn (ah s2 (.cells (gJ k w (pz gs a) [] (zn ts t) (if k=7 then(z13:Int) % CS ts t else 0)) 0)) p4 (.cells (gJ k w (pz gs a) [] (zn ts t) (if k=7 then(z13:Int) % CS ts t else 0)) 0))):=
                He k w _ (pz gs a) [] (zn ts t) _ (by rw[hf]) (by rw[hf])
              clear He aj4;rw[bC,ML,dh,ixA,bC,rdA,bC,su2,bC,cP,dh,ixT,bC,cTn,bC,su4];refine yV (P:=λj=>Q (j [.ptr p4 0,.ptr s2.next 0] (ah s2 (.cells (gJ k w (pz gs a) [] (zn ts t) (if k=7 then(z13:Int) % CS ts t else 0)) 0)))) ?_ ?_
              . generalize (if k=7 then(z13:Int) % CS ts t else 0)=n6 at*
                simp[cu,fin,bW];exact fF
              . intro j hj;by_cases h7:k=7
                . have hd:decide ((k:Int)=7)=true:=Za0 (by omega);rw[Zb4 h7]at hj;have q:=λ(K:AV->St->Option (AV×St))(s':St)=>dD (c:=c) (k:= .i64) (a:=(z13:Int)) (b:=CS ts t) (by omega) sz2 s' K
                  generalize CS ts t=Z at*
                  rw[aK,ldk,dJ,hd,cV,au,iL (by omega) (by omega) (by omega),E13];simp[-ig,q,hP,sxT,heapT,cT,SZ,Ml];exact hj
                .have hd:decide ((k:Int)=7)=false:=Za2 (by omega);rw[Za7 h7]at hj;rw[aK,ldk,dJ,hd,cE];exact hj
            . rw[ Za2 h67,cE,dJ,au];by_cases h10:k=10
              . have hf:=hR;unfold Ul at hf;rw[Za7 h5,Za7 h67,Zb4 h10]at hf;obtain⟨z3,e3⟩:∃z3:Nat,z3=z % 3:=⟨_,rfl⟩
                have E6:(z:Int) % 3=(z3:Int):=(by omega);rw[<-e3]at hf;rw[Za0 (show(k:Int)=10 by omega),cV];by_cases h3:z3=0
                .have hd:decide ((z3:Int)=0)=true:=Za0 (by omega);rw[Zb4 h3]at hf;have fF:=He k w 0 (pz gs a) [] [] true (by rw[hf]) (by rw[hf]);rw[iE,au,dD (by omega) (by omega),E6,dJ,hd,cV];simp[hP,sxA,anL,nA,alQ,cu,fin,bW];exact fF
                .have hd:decide ((z3:Int)=0)=false:=Za2 (by omega);rw[Za7 h3]at hf;have fF:=He k w 0 [] [] [] true (by rw[hf]) (by rw[hf]);rw[iE,au,dD (by omega) (by omega),E6,dJ,hd,cE];simp[cu,fin,bW];exact fF
              . rw[ Za2 (show ¬(k:Int)=10 by omega),cE,dJ,au];by_cases h17:k=17
                . have hf:=hR;unfold Ul at hf;rw[Za7 h5,Za7 h67,Za7 h10,Zb4 h17]at hf;rw[Za0 (show(k:Int)=17 by omega),cV];have fF:=He k w 0 (Iu gs a) [] (zn ts t) (!decide (Iu gs a=[])) (by rw[hf]) (by rw[hf];simp);have n46:p4≠s2.next:=λe=>by subst e;omega
                  have cD:=λ(K:AV->Option (AV×St))=>CI K (o:=0+2) (v:= .str (Iu gs a)) (h:=(bn (ah s2 (.cells (gJ k w (Iu gs a) [] (zn ts t) 0) 0)) p4 (.cells (gJ k w (Iu gs a) [] (zn ts t) 0) 0)).heap) (h2:=(ah s2 (.cells (gJ k w (Iu gs a) [] (zn ts t) 0) 0)).heap) (p:=s2.next) (by rw[aM n46,aB];rfl) (by rw[aB];rfl) (sb _)
                  have rdD:∀(l:List AV)(K:AV->Option (AV×St)),jJ (.load none) [.ptr bA (qA+5)] (ah s2 (.cells l 0)).heap (λ_=>true) K=K (.str (Iu gs a)):=λl K=>by rw[jZ,anL,show(cellsOf (some (.cells csA 0))).bind (λcs=>cs[qA+5]?)=some (.str (Iu gs a))from dA];rfl
                  have rdR:∀(K:AV->Option (AV×St)),jJ (.load (some 6)) [.ptr s2.next 0] (ah s2 (.cells (gJ k w (Iu gs a) [] (zn ts t) 0) 0)).heap (λ_=>true) K=K (.agg (gJ k w (Iu gs a) [] (zn ts t) 0)):=λK=>by rw[xG,aB];rfl
                  rw[bC,ML,dh,ixA,bC,rdD,bC,su2,bC,cP,dh,ixT,bC,cTn,bC,su4,rdR,fin,bC,cD,aq1,dh,To,bW];exact fF
                . rw[ Za2 (show ¬(k:Int)=17 by omega),cE];have hj:=aj4 (by omega);clear aj4 He;by_cases h15:k=15
                  .have hd:decide ((k:Int)=15)=true:=Za0 (by omega);rw[Zb4 (.inl h15)]at hj;rw[iE,dJ,au,hd,cV];simp[Ml];exact hj
                  . have hd:decide ((k:Int)=15)=false:=Za2 (by omega);by_cases h16:k=16
                    .have hd2:decide ((k:Int)=16)=true:=Za0 (by omega);rw[Zb4 (.inr h16)]at hj;rw[iE,dJ,au,hd,cE,dJ,au,hd2];simp[Ml];exact hj
                    .have hd2:decide ((k:Int)=16)=false:=Za2 (by omega);rw[Za7 (by omega)]at hj;rw[iE,dJ,au,hd,cE,dJ,au,hd2];simp;exact hj
          . intro j hj;by_cases h6:k=6
            .rw[Za0 (.inl h6)]at hj;rw[dJ,au,Za0 (show(k:Int)=6 by omega),cV];exact hj
            .rw[dJ,au,Za2 (show ¬(k:Int)=6 by omega),cE,dJ,au];rw[show decide ((k:Int)=7)=decide (k=6\/k=7)by rw[decide_eq_decide];omega];exact hj
     .  intro j hj;clear He aj4 hR;rcases Gu Bf ux with rfl|rfl|rfl|rfl|rfl|rfl|rfl|rfl|rfl|rfl|rfl|rfl|rfl|rfl|rfl|rfl|rfl|rfl
        all_goals
          simp at hj ⊢;exact hj
 . intro j hj;by_cases h1:1<y5
   .have e:((w:Nat):Int)=1+(y7:Int):=(by rw[hwt];unfold YW;rw[Zb4 (by omega)];omega);rw[e]at hj;have hd:decide ((1:Int)<(y5:Int))=true:=Za0 (by omega);simp (disch:=omega) [-ig,dD,E3,E4,hd,W2,auZ];exact hj
   .have e:((w:Nat):Int)=0:=(by rw[hwt];unfold YW;rw[Za7 (by omega)];rfl);rw[e]at hj;have hd:decide ((1:Int)<(y5:Int))=false:=Za2 (by omega);simp (disch:=omega) [-ig,dD,E3,hd];exact hj
structure KX(p:Pos)(sA s:St):Prop where
 wf:Wf s
 next:sA.next.toNat<=s.next.toNat
 keep:∀(b:Pos)(x:AB),b≠p->sA.heap.get b=some x->s.heap.get b=some x
theorem KX.refl{p:Pos}{s:St}(hw:Wf s):KX p s s:=⟨hw,Za5 _,λ_ _ _ h=>h⟩
theorem KX.trans{p:Pos}{a b d:St}(h:KX p a b)(g:KX p b d):KX p a d:=⟨g.wf,Zb2 h.next g.next,λq x hq hx=>g.keep q x hq (h.keep q x hq hx)⟩
theorem KX.ai{p:Pos}{a b d:St}(h:KX p a b)(g:Grew b d):KX p a d:=⟨g.wf,Zb2 h.next g.next,λq x hq hx=>g.get (h.keep q x hq hx)⟩
theorem KX.store{p:Pos}{a b:St}(h:KX p a b)(hp:p.toNat<b.next.toNat)(x:AB):KX p a (bn b p x):=
 ⟨kq h.wf hp,h.next,λq y hq hy=>by rw[aM (λe=>hq e.symm)];exact h.keep q y hq hy⟩
def TS.Since(n:Nat)(V:AV)(rows:List (List AV)):Prop:=(∀b,aR V=some b->n<=b.toNat)/\∀(i:Nat)(r:List AV)(v:AV)(b:Pos),rows[i]? =some r->r[4]? =some v->aR v=some b->n<=b.toNat
def GS.Since(n:Nat)(V:AV)(rows:List (List AV)):Prop:=(∀b,aR V=some b->n<=b.toNat)/\∀(i:Nat)(r:List AV)(v:AV)(b:Pos),rows[i]? =some r->r[8]? =some v->aR v=some b->n<=b.toNat
theorem yY{st s:St}{p:Pos}(h0:Wf st)(h:Grew st s)(hp:st.next.toNat<=p.toNat)(HJ:p.toNat<s.next.toNat)(b:AB):Grew st (bn s p b):=
 ⟨kq h.wf HJ,λq x hq=>by have:=h0 _ _ hq;rw[aM (λe=>by rw[e]at hp;omega)];exact h.get hq,by rw[dS];exact h.next⟩
theorem TS.kx{st sA s:St}{p:Pos}{V:AV}{ts:List aC}{rows:List (List AV)}(h:TS st sA V ts rows)(k:KX p sA s)(g:Grew st s)(hs:TS.Since (p.toNat+1) V rows):TS st s V ts rows:=
 h.rW g λb x _ hb hx=>k.keep b x (λe=>by
  subst e;rcases hb with hb|⟨i,r,v,h1,h2,h3⟩
  .have:=hs.1 _ hb;omega
  .have:=hs.2 i r v _ h1 h2 h3;omega) hx
theorem GS.kx{st sA s:St}{p:Pos}{V:AV}{ts:List aS}{rows:List (List AV)}(h:GS st sA V ts rows)(k:KX p sA s)(g:Grew st s)(hs:GS.Since (p.toNat+1) V rows):GS st s V ts rows:=
 h.rW g λb x _ hb hx=>k.keep b x (λe=>by
  subst e;rcases hb with hb|⟨i,r,v,h1,h2,h3⟩
  .have:=hs.1 _ hb;omega
  .have:=hs.2 i r v _ h1 h2 h3;omega) hx
theorem Mk.kx{es:Nat}{st sA s:St}{p:Pos}{V:AV}{rows:List (List AV)}(h:Mk es st sA V rows)(k:KX p sA s)(g:Grew st s)(hs:∀b,aR V=some b->p.toNat+1<=b.toNat):Mk es st s V rows:=
 Mk.rW h g λb x hb hx=>k.keep b x (λe=>by subst e;have:=hs _ hb;omega) hx
theorem TS.push{st s:St}{V:AV}{ts:List aC}{rows:List (List AV)}(h:TS st s V ts rows){t:aC}{v:AV}(M:Mk 1 st s v (t.kK.map bH))(hv:∀b,aR v=some b->aR V≠some b)(hlen:ts.length<=1000):
   ∃s5 V5,(∀(K:AV->St->Option (AV×St)),aq c (.buildSlice 7 1 [.str [],.int .u8 0,.int .i64 0,.int .i64 0,.af,.int .i64 0,.int .i64 0] [0]) [.agg (t.ay v)] s (λy q=>aq c (.append 7 80) [V,y] q K)=K V5 s5)/\
    TS st s5 V5 (ts++[t]) (rows++[t.ay v])/\(∀(p:Pos)(b:AB),aR V≠some p->s.heap.get p=some b->s5.heap.get p=some b)/\∀b,aR V5=some b->s.next.toNat<=b.toNat:=by
 have hl:=h.len;have hw:=h.out.ai.wf;obtain⟨s5,V5,a1,a2,a3,a4⟩:=h.out.push (c:=c) (R:=AV×St) (bytes:=80) (z:=[.str [],.int .u8 0,.int .i64 0,.int .i64 0,.af,.int .i64 0,.int .i64 0]) (x:= .agg (t.ay v)) rfl rfl (t.MT M.cells.2) (by decide) (by omega) (by omega);have small:∀(u:AV)(rw:List (List AV)),Mk 1 st s u rw->(∀b,aR u=some b->aR V≠some b)->Mk 1 st s5 u rw/\∀b,aR u=some b->aR V5≠some b:=λu rw hu dP=>
   ⟨Mk.rW hu a2.ai λb y hb hy=>a3 b y (dP b hb) hy,λb hb e=>by have p1:=a4 b e;have p2:=hu.own.lt hw hb;omega⟩
 refine⟨s5,V5,a1,⟨a2,by simp[hl],λi t' r hi hr=> ?_⟩,a3,a4⟩;by_cases Fv:i<ts.length
 .rw[Zc3 (by rw[hl];exact Fv)]at hr;rw[Zc3 Fv]at hi;obtain⟨u,e1,e2,e3⟩:=h.eI i t' r hi hr;obtain⟨f1,f2⟩:=small u _ e2 e3;exact⟨u,e1,f1,f2⟩
 .have fX:=(Za1.1 hi).1;simp at fX;obtain rfl:i=ts.length:=(by omega);rw[Zc1 (by rw[hl];exact Za5 _)]at hr;rw[Zc1 (Za5 _)]at hi;simp[hl]at hr hi;subst hi;subst hr;obtain⟨f1,f2⟩:=small v _ M hv;exact⟨v,rfl,f1,f2⟩
def YX(s:List Nat):List AV:=[.str s]
def Nt(x k:Nat):Bool:=decide (x / 2 ^ (6+2*k) % 4=1)
theorem avU(x k:Nat):Nt x k=decide (x / 2 ^ (6+2*k) % 4=1):=by rw[Nt]
def FK(x k:Nat):List (List Nat):=((List.range k).filter (Nt x)).map bY
theorem aj5(x k:Nat):FK x (k+1)=FK x k++(if Nt x k=true then [bY k]else []):=by
 unfold FK;rw[Zf9,Zk2,Zc8];congr 1;cases h:Nt x k with
 |true=>simp[h]
 |false=>simp[h]
theorem au1(x k:Nat):(FK x k).length<=k:=by have:=Zl2 (Nt x) (List.range k);rw[Zr0]at this;unfold FK;rw[Za3];exact this
structure GI(s0 s:St)(p8:Pos)(g:aS)(x k:Nat)(v:AV):Prop where
 out:Mk 1 s0 s v ((FK x k).map YX)
 h8:s.heap.get p8=some (.cells (g.ay v) 0)
 n8:aR v≠some p8
theorem akR(hc:bu c){g:aS}{x:Nat}(hx:x<1000000){s0:St}{p8:Pos}(h8:s0.next.toNat<=p8.toNat)(x0 x1 x4 x5 x6:AV)
  :∀(m k:Nat)(s:St)(v:AV),GI s0 s p8 g x k v->k+m=4->
  ∃s' v',GI s0 s' p8 g x 4 v'/\∀(F:Nat)(k4:List AV->St->Option (AV×St))(f:Nat),m<f->iP c F k4 f [x0,x1,x4,x5,x6,.int .i64 (x:Int),.ptr p8 0,.int .i64 (k:Int)] s=k4 [x0,x1,x4,x5,x6,.ptr p8 0] s':=by
 intro m;induction m with
 |zero=>
  intro k s v hT h1;obtain rfl:k=4:=by omega
  refine⟨s,v,hT,λF k4 f hf=> ?_⟩;obtain⟨f,rfl⟩:∃g,f=g+1:=⟨f - 1,by omega⟩
  rw[um];simp
 |succ m ih=>
  intro k s v hT h1;have hw:=hT.out.ai.wf;have h:k<4:=by omega
  . have hx0:(0:Int)<=(x:Int):=Int.natCast_nonneg x;have w:av .i64 ((k:Int)+1)=((k+1:Nat):Int):=wrap64 (by omega) (by omega);have w1:av .i64 (2*(k:Int))=2*(k:Int):=wrap64 (by omega) (by omega);have w2:av .i64 (6+2*(k:Int))=6+2*(k:Int):=wrap64 (by omega) (by omega);have e2:6+2*(k:Int)=((6+2*k:Nat):Int):=(by omega);have hk64:6+2*k<=64:=(by omega);have sr:∀(s:St)(K:AV->St->Option (AV×St)),aq c (.bin .shr .num) [.int .i64 (x:Int),.int .i64 (6+2*(k:Int))] s K=K (.int .i64 ((x:Int) / 2 ^ (6+2*k))) s:=λs K=>by rw[e2];exact aiC hk64 s K
    have p0:(0:Int)<=(x:Int) / 2 ^ (6+2*k):=Zs2 hx0 (Int.le_of_lt (Int.pow_pos (by decide)));have r1:=λ(s:St)(K:AV->St->Option (AV×St))=>dD (c:=c) (k:= .i64) (a:=(x:Int) / 2 ^ (6+2*k)) (b:=4) p0 (by decide) s K
    have d1:decide ((x:Int) / 2 ^ (6+2*k) % 4=1)=decide (x / 2 ^ (6+2*k) % 4=1):=(by have:((x:Int) / 2 ^ (6+2*k) % 4=1)↔(x / 2 ^ (6+2*k) % 4=1):=(by rw[show((x:Int) / 2 ^ (6+2*k) % 4)=((x / 2 ^ (6+2*k) % 4:Nat):Int)by simp];omega);exact decide_eq_decide.2 this);have c8:(g.ay v)[8]? =some v:=rfl;have fin:=avU x k;have N:=zX hc k (by omega) s hw;have hd:decide ((k:Int)<4)=true:=Za0 (by omega);cases hq:Nt x k with
    |   true=>
        have hrl:((FK x k).map YX).length<=4:=(by rw[Za3];have:=au1 x k;omega);obtain⟨s5,v5,a1,a2,a3,a4⟩:=hT.out.push (c:=c) (R:=AV×St) (bytes:=16) (z:=[.str []]) (x:= .str (bY k)) rfl rfl rfl (by decide) (by omega) (by omega);have e:(FK x (k+1)).map YX=(FK x k).map YX++[(.str (bY k):AV).cells]:=(by rw[aj5,Zb4 hq,Zc8];rfl);rw[<-e]at a2;have y8:=a3 p8 _ hT.n8 hT.h8;have l8:=hw p8 _ hT.h8;have b8:aR v5≠some p8:=λe=>by have:=a4 _ e;omega
        have hw5:=a2.ai.wf;have l8':=hw5 p8 _ y8;have M:=a2.store (p:=p8) (b:= .cells (g.ay v5) 0) h8 l8' b8;obtain⟨vc,v1⟩:=a2.cells;have bK:∀(K:AV->St->Option (AV×St)),aq c (.store 1) [.ptr p8 8,v5] s5 K=K .undef (bn s5 p8 (.cells (g.ay v5) 0)):=λK=>by rw[cH c K s5 1 p8 8 v5 (g.ay v) y8 (by rw[vc];rfl) (by simp[aS.ay]) (by rw[vc];exact v1),vc];rfl
        obtain⟨s',v',b1,b2⟩:=ih (k+1) _ v5 ⟨M,bW _ _ _,b8⟩ (by omega);refine⟨s',v',b1,λF k4 f hf=> ?_⟩;obtain⟨f,rfl⟩:∃g,f=g+1:=⟨f - 1,by omega⟩
        rw[<-b2 F k4 f (by omega),um];rw[fin]at hq;simp[-ax,hT.h8,hd,cY,sr,r1,d1,hq,c8,N,a1,bK,w,w1,w2]
    |   false=>
        have e:(FK x (k+1))=(FK x k):=(by rw[aj5,Za7 (by rw[hq];decide),Zd7]);obtain⟨s',v',b1,b2⟩:=ih (k+1) s v ⟨by rw[e];exact hT.out,hT.h8,hT.n8⟩ (by omega);refine⟨s',v',b1,λF k4 f hf=> ?_⟩;obtain⟨f,rfl⟩:∃g,f=g+1:=⟨f - 1,by omega⟩
        rw[<-b2 F k4 f (by omega),um];rw[fin]at hq;simp[-ax,hd,cY,sr,r1,d1,hq,w,w1,w2]
def Hf(i:Nat):Nat:=25*i % 312+i / 12
def yZ(i x:Nat):aS:=⟨bY (Hf i),if x % 2=1 then bY (x % 3)else [],if 4<x % 8 then bY (x % 8)else [],((x % 4*500:Nat):Int),((x % 3:Nat):Int),if x % 3=2 then bY (x % 5)else [],decide (x % 5=0),decide (x % 7=0),true,FK x 4⟩
theorem aj6{es:Nat}{s0 s s':St}{v:AV}{rows:List (List AV)}(h:Mk es s0 s v rows)(hg:Grew s0 s')(hk:∀b x,aR v=some b->s.heap.get b=some x->s'.heap.get b=some x):Mk es s0 s' v rows:=
 ⟨h.jW,hg,h.own.mono hk,h.new,h.row,h.cap,λb hb=>hk b _ hb (h.tight b hb)⟩
structure GL(st s:St)(p4 p5:Pos)(V W:AV)(gs:List aS)(rows:List (List AV)):Prop where
 out:Mk 9 st s V rows
 len:rows.length=gs.length
 eI:∀(i:Nat)(g:aS)(r:List AV),gs[i]? =some g->rows[i]? =some r->∃v,r=g.ay v/\Mk 1 st s v (g.tg.map YX)/\∀b,aR v=some b->aR V≠some b/\b≠p4/\b≠p5
 h4:s.heap.get p4=some (.cells [.af,.af] 0)
 h5:s.heap.get p5=some (.cells [V,W] 0)
 n4:aR V≠some p4
 n5:aR V≠some p5
theorem au2(g:aS){v:AV}(h:aV [v]=true):aV (g.ay v)=true:=by
 simp only[aV]at h;unfold aS.ay;simp only[aV,AV.one,h,Zj2,Zi9]at*
theorem GL.push{st s s1:St}{p4 p5:Pos}{V W:AV}{gs:List aS}{rows:List (List AV)}(h:GL st s p4 p5 V W gs rows)(R4:p4≠p5)(J5:st.next.toNat<=p5.toNat){g:aS}{v:AV}(M:Mk 1 s s1 v (g.tg.map YX))(hlen:rows.length<=1000):
   ∃ s5 s6 V5,(∀(K:AV->St->Option (AV×St)),aq c (.buildSlice 9 1 [.str [],.str [],.str [],.int .i64 0,.int .i64 0,.str [],.bool false,.bool false,.af] [0]) [.agg (g.ay v)] s1 (λy t=>aq c (.append 9 112) [V,y] t K)=K V5 s5)/\
     (∀(K:AV->St->Option (AV×St)),aq c (.store 1) [.ptr p5 0,V5] s5 K=K .undef s6)/\s1.heap.get p5=some (.cells [V,W] 0)/\GL st s6 p4 p5 V5 W (gs++[g]) (rows++[g.ay v]):=by
 have hw:=h.out.ai.wf;have O1:=h.out.grow M.ai;obtain⟨s5,V5,a1,a2,a3,a4⟩:=O1.push (c:=c) (R:=AV×St) (bytes:=112) (z:=[.str [],.str [],.str [],.int .i64 0,.int .i64 0,.str [],.bool false,.bool false,.af]) (x:= .agg (g.ay v)) rfl rfl (au2 g M.cells.2) (by decide) (by omega) (by omega);have y4:=a3 p4 _ h.n4 (M.ai.get h.h4);have y5:=a3 p5 _ h.n5 (M.ai.get h.h5);have l4:=hw p4 _ h.h4;have l5:=hw p5 _ h.h5;have nx:=M.ai.next;have b4:aR V5≠some p4:=λe=>by have:=a4 _ e;omega
 have b5:aR V5≠some p5:=λe=>by have:=a4 _ e;omega
 have l5':=a2.ai.wf p5 _ y5;obtain⟨vc,v1⟩:=a2.cells;have bK:∀(K:AV->St->Option (AV×St)),aq c (.store 1) [.ptr p5 0,V5] s5 K=K .undef (bn s5 p5 (.cells [V5,W] 0)):=λK=>by rw[cH c K s5 1 p5 0 V5 [V,W] y5 (by rw[vc];rfl) (by simp) (by rw[vc];exact v1),vc];rfl
 have M6:=a2.store (p:=p5) (b:= .cells [V5,W] 0) J5 l5' b5;have Mv:=M.back h.out.jW h.out.ai;have vV:∀b,aR v=some b->aR V≠some b/\b≠p4/\b≠p5:=λb hb=>by
   have p1:=M.new b hb;refine⟨λe=> ?_,λe=> ?_,λe=> ?_⟩
   .have:=h.out.own.lt hw e;omega
   .subst e;omega
   .subst e;omega
 have small:∀(u:AV)(rw:List (List AV)),Mk 1 st s1 u rw->(∀b,aR u=some b->aR V≠some b/\b≠p4/\b≠p5)->Mk 1 st (bn s5 p5 (.cells [V5,W] 0)) u rw/\∀b,aR u=some b->aR V5≠some b/\b≠p4/\b≠p5:=λu rw hu dP=>by
   refine⟨aj6 hu M6.ai λb y hb hy=> ?_,λb hb=>⟨λe=> ?_,(dP b hb).2⟩⟩
   .rw[aM (λe=>(dP b hb).2.2 e.symm)];exact a3 b y (dP b hb).1 hy
   .have p1:=a4 b e;have p2:=hu.own.lt hu.ai.wf hb;omega
 refine⟨s5,_,V5,a1,bK,M.ai.get h.h5,⟨M6,by simp[h.len],λi t r hi YT=> ?_,by rw[aM (λe=>R4 e.symm)];exact y4,bW _ _ _,b4,b5⟩⟩;by_cases Fv:i<gs.length
 .rw[Zc3 (by rw[h.len];exact Fv)]at YT;rw[Zc3 Fv]at hi;obtain⟨u,e1,e2,e3⟩:=h.eI i t r hi YT;obtain⟨f1,f2⟩:=small u _ (e2.grow M.ai) e3;exact⟨u,e1,f1,f2⟩
 .have fX:=(Za1.1 hi).1;simp at fX;obtain rfl:i=gs.length:=(by omega);rw[Zc1 (by rw[h.len];exact Za5 _)]at YT;rw[Zc1 (Za5 _)]at hi;simp[h.len]at YT hi;subst hi;subst YT;obtain⟨f1,f2⟩:=small v _ Mv vV;exact⟨v,rfl,f1,f2⟩
def ff(k:IntKind)(z:Bool)(l:List Nat):AV:=ro 1 z (l.map λ(i:Nat)=>[.int k (i:Int)])
def D5(xs:List Nat)(k:Nat):List aS:=(List.range k).map λi=>yZ i (xs.getD i 0)
theorem apZ(xs:List Nat)(k:Nat)(h:k<xs.length):D5 xs (k+1)=D5 xs k++[yZ k xs[k]]:=by
 unfold D5;rw[Zf9,Zc8];simp[Zb9,h]
theorem MZ(xs:List Nat)(k:Nat):(D5 xs k).length=k:=by simp[D5]
def zG:List AV:=[.str [],.str [],.str [],.int .i64 0,.int .i64 0,.str [],.bool false,.bool false,.af]
theorem tT(s:St)(K:AV->St->Option (AV×St)):aq c (.alloc [.str [],.str [],.str [],.int .i64 0,.int .i64 0,.str [],.bool false,.bool false,.af]) [] s K=K (.ptr s.next 0) (ah s (.cells zG 0)):=rfl
theorem tU(nm:List Nat)(u y:Int)(b d:Bool)(s:St)(K:AV->St->Option (AV×St)):aq c (.build [.str [],.str [],.str [],.int .i64 0,.int .i64 0,.str [],.bool false,.bool false,.af] [(0,1),(3,1),(4,1),(6,1),(7,1)]) [.str nm,.int .i64 u,.int .i64 y,.bool b,.bool d] s K=K (.agg [.str nm,.str [],.str [],.int .i64 u,.int .i64 y,.str [],.bool b,.bool d,.af]) s:=rfl
theorem tV(nm:List Nat)(u y:Int)(b d:Bool)(s:St)(K:AV->St->Option (AV×St)):aq c (.store 9) [.ptr s.next 0,.agg [.str nm,.str [],.str [],.int .i64 u,.int .i64 y,.str [],.bool b,.bool d,.af]] (ah s (.cells zG 0)) K=K .undef (ah s (.cells [.str nm,.str [],.str [],.int .i64 u,.int .i64 y,.str [],.bool b,.bool d,.af] 0)):=
 cq c K s 9 (.agg [.str nm,.str [],.str [],.int .i64 u,.int .i64 y,.str [],.bool b,.bool d,.af]) zG rfl rfl rfl
theorem vP(nm r ct dt z:List Nat)(u y:Int)(b d:Bool)(s:St)(K:AV->St->Option (AV×St)):aq c (.store 1) [.ptr s.next 1,.str z] (ah s (.cells [.str nm,.str r,.str ct,.int .i64 u,.int .i64 y,.str dt,.bool b,.bool d,.af] 0)) K=K .undef (ah s (.cells [.str nm,.str z,.str ct,.int .i64 u,.int .i64 y,.str dt,.bool b,.bool d,.af] 0)):=mN s _ 1 (.str z) (by simp) rfl rfl K
theorem vQ(nm r ct dt z:List Nat)(u y:Int)(b d:Bool)(s:St)(K:AV->St->Option (AV×St)):aq c (.store 1) [.ptr s.next 2,.str z] (ah s (.cells [.str nm,.str r,.str ct,.int .i64 u,.int .i64 y,.str dt,.bool b,.bool d,.af] 0)) K=K .undef (ah s (.cells [.str nm,.str r,.str z,.int .i64 u,.int .i64 y,.str dt,.bool b,.bool d,.af] 0)):=mN s _ 2 (.str z) (by simp) rfl rfl K
theorem vR(nm r ct dt z:List Nat)(u y:Int)(b d:Bool)(s:St)(K:AV->St->Option (AV×St)):aq c (.store 1) [.ptr s.next 5,.str z] (ah s (.cells [.str nm,.str r,.str ct,.int .i64 u,.int .i64 y,.str dt,.bool b,.bool d,.af] 0)) K=K .undef (ah s (.cells [.str nm,.str r,.str ct,.int .i64 u,.int .i64 y,.str z,.bool b,.bool d,.af] 0)):=mN s _ 5 (.str z) (by simp) rfl rfl K
theorem agA(i x:Nat)(v:AV):(yZ i x).ay v=[.str (bY (Hf i)),.str (if x % 2=1 then bY (x % 3)else []),.str (if 4<x % 8 then bY (x % 8)else []),.int .i64 ((x % 4*500:Nat):Int),.int .i64 ((x % 3:Nat):Int),.str (if x % 3=2 then bY (x % 5)else []),.bool (decide (x % 5=0)),.bool (decide (x % 7=0)),v]:=rfl
theorem akS(hc:bu c){xs:List Nat}(hx:∀x∈xs,x<65536)(z:Bool)(x1:AV){st s:St}{p4 p5:Pos}(R4:p4≠p5)(J5:st.next.toNat<=p5.toNat){V W:AV}{rows:List (List AV)}{k:Nat}(hk:k<xs.length)(hk12:k<12)
   (h:GL st s p4 p5 V W (D5 xs k) rows):∃s' V' wJ,GL st s' p4 p5 V' W (D5 xs (k+1)) wJ/\∀(F:Nat)(_:5<=F)(k2:List AV->St->Option (AV×St))(f:Nat),
     gK c F k2 (f+1) [ff .u16 z xs,x1,.ptr p4 0,.ptr p5 0,.int .i64 (k:Int)] s=gK c F k2 f [ff .u16 z xs,x1,.ptr p4 0,.ptr p5 0,.int .i64 ((k+1:Nat):Int)] s':=by
 have hw:=h.out.ai.wf;have hx1:=hx _ (Zb8 hk);generalize Nu:xs[k]=x at hx1;have M0:Mk 1 s (ah s (.cells ((yZ k x).ay .af) 0)) .af []:=Mk.start hw (Grew.ah hw _);obtain⟨s1,v1,hG,L⟩:=akR hc (g:=yZ k x) (x:=x) (by omega) (s0:=s) (p8:=s.next) (Za5 _) (ff .u16 z xs) x1 (.ptr p4 0) (.ptr p5 0) (.int .i64 (k:Int)) 4 0 _ .af ⟨M0,aB _ _,λe=>(nomatch e)⟩ rfl;have M:Mk 1 s s1 v1 ((yZ k x).tg.map YX):=hG.out;obtain⟨s5,s6,V5,a1,a2,a3,a4⟩:=h.push (c:=c) R4 J5 M (by rw[h.len,MZ];omega);have e:D5 xs k++[yZ k x]=D5 xs (k+1):=by rw[apZ xs k hk,Nu]
 rw[e]at a4;refine⟨s6,V5,_,a4,λF hF k2 f=> ?_⟩;have L':∀k4:List AV->St->Option (AV×St),iP c F k4 F [ff .u16 z xs,x1,.ptr p4 0,.ptr p5 0,.int .i64 (k:Int),.int .i64 (x:Int),.ptr s.next 0,.int .i64 0] (ah s (.cells ((yZ k x).ay .af) 0))=k4 [ff .u16 z xs,x1,.ptr p4 0,.ptr p5 0,.int .i64 (k:Int),.ptr s.next 0] s1:=λk4=>L F k4 F (by omega)
 clear a4 M M0 L;have lI:∀(K:AV->St->Option (AV×St))(s:St),aq c (.lenB .l) [ff .u16 z xs] s K=K (.int .i64 (xs.length:Int)) s:=λK s=>by unfold ff;rw[jL];simp
 have ix:∀(K:AV->St->Option (AV×St))(s:St),aq c (.idxA 1 none) [ff .u16 z xs,.int .i64 (k:Int)] s K=K (.fp (xs.map λ(i:Nat)=>[.int .u16 (i:Int)]) k 0) s:=λK s=>by unfold ff;rw[Tn];simp[hk]
 have ld:((xs.map λ(i:Nat)=>[AV.int .u16 (i:Int)])[k]?.bind λcs=>cs[0]?)=some (.int .u16 (x:Int)):=by simp[hk,Nu]
 have w0:av .i64 (x:Int)=(x:Int):=wrap64 (by omega) (by omega);have N1:=zX hc (Hf k) (by unfold Hf;omega) s hw;have FL:cut ((yZ k x).ay v1) 0 9=some ((yZ k x).ay v1):=cQ rfl;have N2:∀(b:AB)(j:Nat)(i:Int),i=(j:Int)->j<1000000->c 86 [.int .i64 i] (ah s b)=some (.str (bY j),ah s b):=λb j i e hj=>by rw[e];exact zX hc j hj _ (bP hw)
 have N3:=λb=>N2 b (x % 3) ((x:Int) % 3) (by omega) (by omega)
 have N8:=λb=>N2 b (x % 8) ((x:Int) % 8) (by omega) (by omega)
 have N5:=λb=>N2 b (x % 5) ((x:Int) % 5) (by omega) (by omega)
 have eg:25*(k:Int) % 312+(k:Int) / 12=((Hf k:Nat):Int):=by unfold Hf;omega
 rw[<-eg]at N1;have YY:decide ((k:Int)<12)=true:=Za0 (by omega);have d5:decide ((x:Int) % 5=0)=decide (x % 5=0):=decide_eq_decide.2 (by omega);have d7:decide ((x:Int) % 7=0)=decide (x % 7=0):=decide_eq_decide.2 (by omega);have u4:((x % 4*500:Nat):Int)=(x:Int) % 4*500:=by omega
 have u3:((x % 3:Nat):Int)=(x:Int) % 3:=by omega
 simp only[agA]at a1 L' hG FL;clear N2;have h8:=hG.h8;rw[agA]at h8;rw[u4,u3]at L' h8 a1 FL;rw[Bn];by_cases c1:x % 2=1
 . by_cases c2:4<x % 8
   . by_cases c3:x % 3=2
     .  have e1:decide ((x:Int) % 2=1)=true:=Za0 (by omega);have e2:decide (4<(x:Int) % 8)=true:=Za0 (by omega);have e3:decide ((x:Int) % 3=2)=true:=Za0 (by omega);simp only[Zb4 c1,Zb4 c2,Zb4 c3]at L' h8 a1 FL;simp (maxSteps:=2000000) (disch:=omega) [-ax,-iF,-bN,-ig,-oG,tT,tU,tV,vP,vQ,vR,lI,ix,ld,hk,Nu,Za4,YY,tJ,w0,dD,iL,wrap64,N1,N3,N8,N5,d5,d7,e1,e2,e3,cY,L',a1,a2,a3,h8,FL]
     .  have e1:decide ((x:Int) % 2=1)=true:=Za0 (by omega);have e2:decide (4<(x:Int) % 8)=true:=Za0 (by omega);have e3:decide ((x:Int) % 3=2)=false:=Za2 (by omega);simp only[Zb4 c1,Zb4 c2,Za7 c3]at L' h8 a1 FL;simp (maxSteps:=2000000) (disch:=omega) [-ax,-iF,-bN,-ig,-oG,tT,tU,tV,vP,vQ,vR,lI,ix,ld,hk,Nu,Za4,YY,tJ,w0,dD,iL,wrap64,N1,N3,N8,N5,d5,d7,e1,e2,e3,cY,L',a1,a2,a3,h8,FL]
   . by_cases c3:x % 3=2
     .  have e1:decide ((x:Int) % 2=1)=true:=Za0 (by omega);have e2:decide (4<(x:Int) % 8)=false:=Za2 (by omega);have e3:decide ((x:Int) % 3=2)=true:=Za0 (by omega);simp only[Zb4 c1,Za7 c2,Zb4 c3]at L' h8 a1 FL;simp (maxSteps:=2000000) (disch:=omega) [-ax,-iF,-bN,-ig,-oG,tT,tU,tV,vP,vQ,vR,lI,ix,ld,hk,Nu,Za4,YY,tJ,w0,dD,iL,wrap64,N1,N3,N8,N5,d5,d7,e1,e2,e3,cY,L',a1,a2,a3,h8,FL]
     .  have e1:decide ((x:Int) % 2=1)=true:=Za0 (by omega);have e2:decide (4<(x:Int) % 8)=false:=Za2 (by omega);have e3:decide ((x:Int) % 3=2)=false:=Za2 (by omega);simp only[Zb4 c1,Za7 c2,Za7 c3]at L' h8 a1 FL;simp (maxSteps:=2000000) (disch:=omega) [-ax,-iF,-bN,-ig,-oG,tT,tU,tV,vP,vQ,vR,lI,ix,ld,hk,Nu,Za4,YY,tJ,w0,dD,iL,wrap64,N1,N3,N8,N5,d5,d7,e1,e2,e3,cY,L',a1,a2,a3,h8,FL]
 . by_cases c2:4<x % 8
   . by_cases c3:x % 3=2
     .  have e1:decide ((x:Int) % 2=1)=false:=Za2 (by omega);have e2:decide (4<(x:Int) % 8)=true:=Za0 (by omega);have e3:decide ((x:Int) % 3=2)=true:=Za0 (by omega);simp only[Za7 c1,Zb4 c2,Zb4 c3]at L' h8 a1 FL;simp (maxSteps:=2000000) (disch:=omega) [-ax,-iF,-bN,-ig,-oG,tT,tU,tV,vP,vQ,vR,lI,ix,ld,hk,Nu,Za4,YY,tJ,w0,dD,iL,wrap64,N1,N3,N8,N5,d5,d7,e1,e2,e3,cY,L',a1,a2,a3,h8,FL]
     .  have e1:decide ((x:Int) % 2=1)=false:=Za2 (by omega);have e2:decide (4<(x:Int) % 8)=true:=Za0 (by omega);have e3:decide ((x:Int) % 3=2)=false:=Za2 (by omega);simp only[Za7 c1,Zb4 c2,Za7 c3]at L' h8 a1 FL;simp (maxSteps:=2000000) (disch:=omega) [-ax,-iF,-bN,-ig,-oG,tT,tU,tV,vP,vQ,vR,lI,ix,ld,hk,Nu,Za4,YY,tJ,w0,dD,iL,wrap64,N1,N3,N8,N5,d5,d7,e1,e2,e3,cY,L',a1,a2,a3,h8,FL]
   . by_cases c3:x % 3=2
     .  have e1:decide ((x:Int) % 2=1)=false:=Za2 (by omega);have e2:decide (4<(x:Int) % 8)=false:=Za2 (by omega);have e3:decide ((x:Int) % 3=2)=true:=Za0 (by omega);simp only[Za7 c1,Za7 c2,Zb4 c3]at L' h8 a1 FL;simp (maxSteps:=2000000) (disch:=omega) [-ax,-iF,-bN,-ig,-oG,tT,tU,tV,vP,vQ,vR,lI,ix,ld,hk,Nu,Za4,YY,tJ,w0,dD,iL,wrap64,N1,N3,N8,N5,d5,d7,e1,e2,e3,cY,L',a1,a2,a3,h8,FL]
     .  have e1:decide ((x:Int) % 2=1)=false:=Za2 (by omega);have e2:decide (4<(x:Int) % 8)=false:=Za2 (by omega);have e3:decide ((x:Int) % 3=2)=false:=Za2 (by omega);simp only[Za7 c1,Za7 c2,Za7 c3]at L' h8 a1 FL;simp (maxSteps:=2000000) (disch:=omega) [-ax,-iF,-bN,-ig,-oG,tT,tU,tV,vP,vQ,vR,lI,ix,ld,hk,Nu,Za4,YY,tJ,w0,dD,iL,wrap64,N1,N3,N8,N5,d5,d7,e1,e2,e3,cY,L',a1,a2,a3,h8,FL]
def kC(i x:Nat):aC:=⟨fQ i,((pN x:Nat):Int),((tA x:Nat):Int),((tB x:Nat):Int),true,(DP x (tN x)).map λ(k:Nat)=>(k:Int),((x:Nat):Int),255 - ((x:Nat):Int)⟩
def sM(xs:List Nat)(k:Nat):List aC:=(List.range k).map λi=>kC i (xs.getD i 0)
theorem ap0(xs:List Nat)(k:Nat)(h:k<xs.length):sM xs (k+1)=sM xs k++[kC k xs[k]]:=by
 unfold sM;rw[Zf9,Zc8];simp[Zb9,h]
theorem Ui(xs:List Nat)(k:Nat):(sM xs k).length=k:=by simp[sM]
def kA(xs:List Nat):Nat->Nat
 |0=>0
 |k+1=>kA xs k+tN (xs.getD k 0)
theorem agB(xs:List Nat):∀k,kA xs k<=k*16
 |0=>Za5 _
 |k+1=>by have:=agB xs k;have:=adU (xs.getD k 0);unfold kA;omega
theorem anM(i x:Nat)(v:AV):(kC i x).ay v=iq (fQ i) (pN x:Nat) (tA x:Nat) (tB x:Nat) x v:=rfl
theorem asJ(i x:Nat):(kC i x).kK.map bH=(DP x (tN x)).map afC:=by unfold kC;rw[Zg3];rfl
theorem QS.owner{es:Nat}{s:St}{v:AV}{rows:List (List AV)}(h:QS es s v rows)(h0:rows≠[]):∃b,aR v=some b:=by
 rcases h with⟨_,e⟩|⟨b,off,cap,cs,rfl,_⟩|⟨b,off,_,e⟩
 .exact absurd e h0
 . (refine⟨b,?_⟩;have:rows.length≠0:=λe=>h0 (Zc4 e));simp only[aR];rw[Za7 (λe=>this e.2)]
 .exact absurd e h0
structure LL(st sA s:St)(p3:Pos)(es:Nat)(V:AV)(rows:List (List AV))(W:AV->List AV):Prop where
 out:Mk es st s V rows
 kx:KX p3 sA s
 h3:s.heap.get p3=some (.cells (W V) 0)
 since:∀b,aR V=some b->sA.next.toNat<=b.toNat
theorem LL.ai{st sA s s':St}{p3:Pos}{es:Nat}{V:AV}{rows:List (List AV)}{W:AV->List AV}(h:LL st sA s p3 es V rows W)(g:Grew s s'):LL st sA s' p3 es V rows W:=
 ⟨h.out.grow g,h.kx.ai g,g.get h.h3,h.since⟩
theorem LL.push{st sA s:St}{p3:Pos}{es bytes i:Nat}{V:AV}{rows:List (List AV)}{W:AV->List AV}(h:LL st sA s p3 es V rows W)(hA:Wf sA)(h3A:p3.toNat<sA.next.toNat)(iQ:st.next.toNat<=p3.toNat)(hi:∀A B,(W A).set i B=W B)(fX:∀A,i<(W A).length)
   {z:List AV} {x:AV} (hz:z.length=es) (hx:x.cells.length=es) (h1:aV x.cells=true) (eG:es≠0) (hb:(2*(rows.length+1)+768)*bytes<=281474976710656) (hn:rows.length<=4000000):
   ∃s5 s6 V5,(∀(K:AV->St->Option (AV×St)),aq c (.buildSlice es 1 z [0]) [x] s (λy q=>aq c (.append es bytes) [V,y] q K)=K V5 s5)/\(∀(K:AV->St->Option (AV×St)),aq c (.store 1) [.ptr p3 i,V5] s5 K=K .undef s6)/\
    LL st sA s6 p3 es V5 (rows++[x.cells]) W/\(∀(p:Pos)(b:AB),p≠p3->aR V≠some p->s.heap.get p=some b->s6.heap.get p=some b)/\(∀b,aR V5=some b->s.next.toNat<=b.toNat)/\s.next.toNat<=s6.next.toNat/\s5.heap.get p3=some (.cells (W V) 0):=by
 have hw:=h.out.ai.wf;obtain⟨s5,V5,a1,a2,a3,a4⟩:=h.out.push (c:=c) (R:=AV×St) (bytes:=bytes) hz hx h1 eG hb hn;have nV:aR V≠some p3:=λe=>by have:=h.since _ e;omega
 have y3:=a3 p3 _ nV h.h3;have n5:aR V5≠some p3:=λe=>by have:=a4 _ e;have:=hw _ _ h.h3;omega
 have l3:=a2.ai.wf p3 _ y3;obtain⟨vc,v1⟩:=a2.cells;obtain⟨b,hbo⟩:=QS.owner a2.own (by simp);have nx:s.next.toNat<=s5.next.toNat:=by have:=a4 b hbo;have:=a2.own.lt a2.ai.wf hbo;omega
 refine⟨s5,bn s5 p3 (.cells (W V5) 0),V5,a1,λK=> ?_,⟨a2.store iQ l3 n5,?_,bW _ _ _,λb hb=> ?_⟩,λp b hp hv hg=> ?_,a4,nx,y3⟩
 .rw[cH c K s5 1 p3 i V5 (W V) y3 (by rw[vc];rfl) (by have:=fX V;omega) (by rw[vc];exact v1),vc];rw[zP _ _ (fX V),hi]
 .refine KX.store ⟨a2.ai.wf,Zb2 h.kx.next nx,λq y hq hy=> ?_⟩ l3 _;refine a3 q y (λe=> ?_) (h.kx.keep q y hq hy);have:=h.since _ e;have:=hA _ _ hy;omega
 .have:=a4 b hb;have:=h.kx.next;omega
 .rw[aM (λe=>hp e.symm)];exact a3 p b hv hg
structure TL(st sA s:St)(p3:Pos)(V:AV)(ts:List aC)(rows:List (List AV))(W:AV->List AV):Prop where
 tab:TS st s V ts rows
 kx:KX p3 sA s
 h3:s.heap.get p3=some (.cells (W V) 0)
 since:TS.Since sA.next.toNat V rows
theorem TL.push{st sA s:St}{p3:Pos}{i:Nat}{V:AV}{ts:List aC}{rows:List (List AV)}{W:AV->List AV}(h:TL st sA s p3 V ts rows W)(hA:Wf sA)(h3A:p3.toNat<sA.next.toNat)(iQ:st.next.toNat<=p3.toNat)(hi:∀A B,(W A).set i B=W B)(fX:∀A,i<(W A).length)
   {t:aC} {v:AV} (M:Mk 1 st s v (t.kK.map bH)) (hv:∀b,aR v=some b->aR V≠some b) (QH:∀b,aR v=some b->sA.next.toNat<=b.toNat) (hlen:ts.length<=1000):
   ∃ s5 s6 V5,(∀(K:AV->St->Option (AV×St)),aq c (.buildSlice 7 1 [.str [],.int .u8 0,.int .i64 0,.int .i64 0,.af,.int .i64 0,.int .i64 0] [0]) [.agg (t.ay v)] s (λy q=>aq c (.append 7 80) [V,y] q K)=K V5 s5)/\
     (∀(K:AV->St->Option (AV×St)),aq c (.store 1) [.ptr p3 i,V5] s5 K=K .undef s6)/\TL st sA s6 p3 V5 (ts++[t]) (rows++[t.ay v]) W/\(∀(p:Pos)(b:AB),p≠p3->aR V≠some p->s.heap.get p=some b->s6.heap.get p=some b)/\s5.heap.get p3=some (.cells (W V) 0):=by
 have hw:=h.tab.out.ai.wf;obtain⟨s5,V5,a1,a2,a3,a4⟩:=h.tab.push (c:=c) M hv hlen;have nV:aR V≠some p3:=λe=>by have:=h.since.1 _ e;omega
 have y3:=a3 p3 _ nV h.h3;have l3:=a2.out.ai.wf p3 _ y3;obtain⟨vc,v1⟩:=a2.out.cells;obtain⟨b,hbo⟩:=QS.owner a2.out.own (by simp);have nx:s.next.toNat<=s5.next.toNat:=by have:=a4 b hbo;have:=a2.out.own.lt a2.out.ai.wf hbo;omega
 have sn:TS.Since sA.next.toNat V5 (rows++[t.ay v]):=by
   refine⟨λb hb=>by have:=a4 b hb;have:=h.kx.next;omega,λj r u b hr h4 hb=> ?_⟩;by_cases hj:j<rows.length
   .rw[Zc3 hj]at hr;exact h.since.2 j r u b hr h4 hb
   .have hjl:=(Za1.1 hr).1;simp at hjl;obtain rfl:j=rows.length:=(by omega);rw[Zc1 (Za5 _)]at hr;simp at hr;subst hr;have:v=u:=(by simpa [aC.ay]using h4);subst this;exact QH b hb
 have k5:KX p3 sA s5:=⟨a2.out.ai.wf,Zb2 h.kx.next nx,λq y hq hy=>a3 q y (λe=>by
   have:=h.since.1 _ e;have:=hA _ _ hy;omega) (h.kx.keep q y hq hy)⟩
 have kS:KX p3 s5 (bn s5 p3 (.cells (W V5) 0)):=(KX.refl a2.out.ai.wf).store l3 _;have sn3:TS.Since (p3.toNat+1) V5 (rows++[t.ay v]):=⟨λb hb=>by have:=sn.1 b hb;omega,λj r u b h1 h2 h3=>by have:=sn.2 j r u b h1 h2 h3;omega⟩
 refine⟨s5,bn s5 p3 (.cells (W V5) 0),V5,a1,λK=> ?_,⟨a2.kx kS (yY h.tab.out.jW a2.out.ai iQ l3 _) sn3,k5.store l3 _,bW _ _ _,sn⟩,λp b hp hv hg=> ?_,y3⟩
 .rw[cH c K s5 1 p3 i V5 (W V) y3 (by rw[vc];rfl) (by have:=fX V;omega) (by rw[vc];exact v1),vc];rw[zP _ _ (fX V),hi]
 .rw[aM (λe=>hp e.symm)];exact a3 p b hv hg
def jQ(zt zg zy zr:Bool)(xt xg xy xr:List Nat):List AV:=[ff .u8 zt xt,ff .u16 zg xg,ff .u8 zy xy,ff .u32 zr xr]
theorem UI{R:Type}(k:IntKind)(z:Bool)(l:List Nat)(K:AV->St->Option R)(s:St):aq c (.lenB .l) [ff k z l] s K=K (.int .i64 (l.length:Int)) s:=by unfold ff;rw[jL];simp
theorem alS{R:Type}(k k':IntKind)(z:Bool)(l:List Nat){i:Nat}(h:i<l.length)(K:AV->St->Option R)(s:St):aq c (.idxA 1 none) [ff k z l,.int k' (i:Int)] s (λv s'=>aq c (.load none) [v] s' K)=K (.int k (l[i]:Int)) s:=by
 unfold ff;simp[h]
theorem awH{a b d:Nat}(h:d=a+b)(hl:a+b<=1000000):av .i64 ((a:Int)+(b:Int))=(d:Int):=(wrap64 (by omega) (by omega)).trans (by omega)
theorem ap1(hc:bu c){xt:List Nat}(hx:∀x∈xt,x<256){zt zg zy zr:Bool}{xg xy xr:List Nat}{st sA s:St}{p1 p3:Pos}{V x2:AV}{rows:List (List AV)}(hA:Wf sA)(h1A:sA.heap.get p1=some (.cells (jQ zt zg zy zr xt xg xy xr) 0))(h13:p1≠p3)(h3A:p3.toNat<sA.next.toNat)(iQ:st.next.toNat<=p3.toNat)
  {k:Nat} (hk:k<xt.length) (DX:k<3) (h:TL st sA s p3 V (sM xt k) rows (λV=>[V,.af,.af,.af,.af])):
  ∃s' V' wJ,TL st sA s' p3 V' (sM xt (k+1)) wJ (λV=>[V,.af,.af,.af,.af])/\∀(F:Nat)(k2:List AV->St->Option (AV×St))(f:Nat),
   gL c F k2 (f+1) [.ptr p1 0,x2,.ptr p3 0,.int .i64 (kA xt k:Int),.int .i64 (k:Int)] s=gL c F k2 f [.ptr p1 0,x2,.ptr p3 0,.int .i64 (kA xt (k+1):Int),.int .i64 ((k+1:Nat):Int)] s':=by
 have Nu:=hx _ (Zb8 hk);have d1:decide ((k:Int)<(xt.length:Int))=true:=Za0 (by omega);have d2:decide ((k:Int)<3)=true:=Za0 (by omega);have w2:av .i64 ((k:Int)+1)=((k+1:Nat):Int):=wrap64 (by omega) (by omega);have w3:av .i64 (xt[k]:Int)=(xt[k]:Int):=wrap64 (by omega) (by omega);have hw:=h.tab.out.ai.wf;have h1:=h.kx.keep p1 _ h13 h1A;obtain⟨v,s1,C,M⟩:=asF hc k xt[k] (by omega) Nu s hw;have g1:=M.ai;have gn:=Grew.ah g1.wf (.cells ((kC k xt[k]).ay v) 0);have hM:Mk 1 st (ah s1 (.cells ((kC k xt[k]).ay v) 0)) v ((kC k xt[k]).kK.map bH):=by rw[asJ];exact(M.back h.tab.out.jW h.tab.out.ai).grow gn
 have T1:TL st sA (ah s1 (.cells ((kC k xt[k]).ay v) 0)) p3 V (sM xt k) rows (λV=>[V,.af,.af,.af,.af]):=
  ⟨h.tab.rW (h.tab.out.ai.trans (g1.trans gn)) λb x _ _ hb=>gn.get (g1.get hb),h.kx.ai (g1.trans gn),gn.get (g1.get h.h3),h.since⟩
 obtain⟨s5,s6,V5,a1,a2,a3,a4,a5⟩:=T1.push (c:=c) (i:=0) hA h3A iQ (λA B=>rfl) (λA=>by simp) hM (λb hb e=>by
  have p1:=M.new b hb;have p2:=h.tab.out.own.lt hw e;omega) (λb hb=>by have:=M.new b hb;have:=h.kx.next;omega) (by rw[Ui];omega)
 have p6:s6.heap.get s1.next=some (.cells ((kC k xt[k]).ay v) 0):=a4 s1.next _ (λe=>by have:=h.kx.next;have:=g1.next;rw[<-e]at h3A;omega) (λe=>by
  have p2:=h.tab.out.own.lt hw e;have:=g1.next;omega) (aB _ _)
 have e:=ap0 xt k hk;rw[<-e]at a3;refine⟨s6,V5,_,a3,λF k2 f=> ?_⟩;have hs:=MW hc (l:=(kC k xt[k]).ay v) (sh:=((pN xt[k]:Nat):Int)) (a:=((tA xt[k]:Nat):Int)) (b:=((tB xt[k]:Nat):Int)) rfl rfl rfl (by have:=ahA xt[k];omega) (by have:=ahB xt[k];omega) s6 a3.tab.out.ai.wf;rw[aam]at hs;have hS:kA xt (k+1)=kA xt k+tN xt[k]:=by
  rw[kA];simp[Zb9,hk]
 have w1:av .i64 ((kA xt k:Int)+(tN xt[k]:Int))=((kA xt (k+1):Nat):Int):=awH hS (by have:=agB xt k;have:=adU xt[k];exact Zb2 (Nat.add_le_add ‹_› ‹_›) (by omega));have lI:=λ(K:AV->St->Option (AV×St))(s:St)=>UI (c:=c) .u8 zt xt K s
 have aI:=λ(K:AV->St->Option (AV×St))(s:St)=>alS (c:=c) .u8 .i64 zt xt hk K s
 have c0:(jQ zt zg zy zr xt xg xy xr)[0]? =some (ff .u8 zt xt):=rfl;have cu:cut ((kC k xt[k]).ay v) 0 7=some ((kC k xt[k]).ay v):=cQ rfl;rw[<-anM]at C;have R5:∀(K:AV->St->Option (AV×St)),aq c (.store 7) [.ptr s1.next 0,.agg ((kC k xt[k]).ay v)] (ah s1 (.cells [.str [],.int .u8 0,.int .i64 0,.int .i64 0,.af,.int .i64 0,.int .i64 0] 0)) K=K .undef (ah s1 (.cells ((kC k xt[k]).ay v) 0)):=λK=>cq c K s1 7 (.agg ((kC k xt[k]).ay v)) [.str [],.int .u8 0,.int .i64 0,.int .i64 0,.af,.int .i64 0,.int .i64 0] rfl rfl ((kC k xt[k]).MT M.cells.2)
 have h3n:=T1.h3;have g6:=aB s1 (.cells ((kC k xt[k]).ay v) 0);generalize (kC k xt[k]).ay v=tc at*
 generalize kA xt (k+1)=S1 at*
 clear hS e T1 a3 a4 hM M h;rw[Bo];simp (disch:=omega) [-ax,Za4,h1,lI,aI,c0,hk,DX,d1,d2,w3,C,R5,h3n,g6,cu,a1,a2,a5,p6,hs,w1,w2]
theorem ap2(hc:bu c){xt:List Nat}(hx:∀x∈xt,x<256)(hl:xt.length<=9223372036854775807){zt zg zy zr:Bool}{xg xy xr:List Nat}{st sA:St}{p1 p3:Pos}{x2:AV}(hA:Wf sA)(h1A:sA.heap.get p1=some (.cells (jQ zt zg zy zr xt xg xy xr) 0))(h13:p1≠p3)(h3A:p3.toNat<sA.next.toNat)(iQ:st.next.toNat<=p3.toNat):
  ∀(m k:Nat)(s:St)(V:AV)(rows:List (List AV)),k+m=min xt.length 3->TL st sA s p3 V (sM xt k) rows (λV=>[V,.af,.af,.af,.af])->
  ∃ s' V' wJ,TL st sA s' p3 V' (sM xt (min xt.length 3)) wJ (λV=>[V,.af,.af,.af,.af])/\∀(F:Nat)(k2:List AV->St->Option (AV×St))(f:Nat),m<f->
    gL c F k2 f [.ptr p1 0,x2,.ptr p3 0,.int .i64 (kA xt k:Int),.int .i64 (k:Int)] s=k2 [.ptr p1 0,x2,.ptr p3 0,.int .i64 (kA xt (min xt.length 3):Int)] s':=by
 intro m;induction m with
 |zero=>
  intro k s V rows hk h;obtain rfl:k=min xt.length 3:=by omega
  refine⟨s,V,rows,h,λF k2 f hf=> ?_⟩;obtain⟨f,rfl⟩:∃g,f=g+1:=⟨f - 1,by omega⟩
  have h1:=h.kx.keep p1 _ h13 h1A;have c0:(jQ zt zg zy zr xt xg xy xr)[0]? =some (ff .u8 zt xt):=rfl;have lI:=λ(K:AV->St->Option (AV×St))(s:St)=>UI (c:=c) .u8 zt xt K s
  generalize kA xt (min xt.length 3)=S at*
  rw[Bo];by_cases h3:xt.length<=3
  .have e:min xt.length 3=xt.length:=(by omega);rw[e];simp[h1,c0,lI]
  .have e:min xt.length 3=3:=(by omega);have hd:decide ((3:Int)<(xt.length:Int))=true:=Za0 (by omega);rw[e];simp[h1,c0,lI,hd]
 |succ m ih=>
  intro k s V rows hk h;obtain⟨s1,V1,r1,h1,e1⟩:=ap1 (x2:=x2) hc hx hA h1A h13 h3A iQ (k:=k) (by omega) (by omega) h;obtain⟨s2,V2,r2,h2,e2⟩:=ih (k+1) s1 V1 r1 (by omega) h1;refine⟨s2,V2,r2,h2,λF k2 f hf=> ?_⟩;obtain⟨f,rfl⟩:∃g,f=g+1:=⟨f - 1,by omega⟩
  rw[e1 F k2 f,e2 F k2 f (by omega)]
theorem aj7{k:Nat}(h:k<=1000000):av .i64 ((k:Int)+1)=((k+1:Nat):Int):=wrap64 (by omega) (by omega)
theorem anN{x:Nat}(h:x<=4294967296):av .i64 (x:Int)=(x:Int):=wrap64 (by omega) (by omega)
def Hg(xg:List Nat)(k:Nat):List Int:=(List.range k).map λi=>((xg.getD i 0 / 3 % 4:Nat):Int)
theorem ap3(xg:List Nat)(k:Nat)(h:k<xg.length):Hg xg (k+1)=Hg xg k++[((xg[k] / 3 % 4:Nat):Int)]:=by
 unfold Hg;rw[Zf9,Zc8];simp[Zb9,h]
theorem GJ(xg:List Nat)(k:Nat):(Hg xg k).length=k:=by simp[Hg]
theorem anO{xg:List Nat}(hx:∀x∈xg,x<65536){zt zg zy zr:Bool}{xt xy xr:List Nat}{st sA:St}{p1 p3:Pos}{x2 V1 V2 V3:AV}{n:Nat}(hn:n<=xg.length)(H8:n<=1000)(hA:Wf sA)(h1A:sA.heap.get p1=some (.cells (jQ zt zg zy zr xt xg xy xr) 0))(h13:p1≠p3)(h3A:p3.toNat<sA.next.toNat)(iQ:st.next.toNat<=p3.toNat)
  (l2:∀(K:AV->St->Option (AV×St))(s':St),aq c (.lenB .l) [V2] s' K=K (.int .i64 (n:Int)) s'):
  ∀(m k:Nat)(s:St)(V:AV),k+m=n->LL st sA s p3 1 V ((Hg xg k).map bH) (λA=>[V1,V2,V3,A,.af])->
  ∃s' V',LL st sA s' p3 1 V' ((Hg xg n).map bH) (λA=>[V1,V2,V3,A,.af])/\∀(F:Nat)(k4:List AV->St->Option (AV×St))(f:Nat),m<f->
   j9 c F k4 f [.ptr p1 0,x2,.ptr p3 0,.int .i64 (k:Int)] s=k4 [.ptr p1 0,x2,.ptr p3 0] s':=by
 intro m;induction m with
 |zero=>
  intro k s V hk h;obtain rfl:k=n:=by omega
  refine⟨s,V,h,λF k4 f hf=> ?_⟩;obtain⟨f,rfl⟩:∃g,f=g+1:=⟨f - 1,by omega⟩
  rw[Bp];simp[h.h3,l2]
 |succ m ih=>
  intro k s V hk h;have hkn:k<n:=by omega
  have MY:k<xg.length:=by omega
  have Nu:=hx _ (Zb8 MY);obtain⟨v,hv⟩:∃v:Nat,v=xg[k] / 3 % 4:=⟨_,rfl⟩
  have E:(xg[k]:Int) / 3 % 4=(v:Int):=by omega
  have h1:=h.kx.keep p1 _ h13 h1A;obtain⟨s5,s6,V5,a1,a2,a3,a4,a5,a6,a7⟩:=h.push (c:=c) (bytes:=8) (i:=3) (z:=[.int .i64 0]) (x:= .int .i64 (v:Int)) hA h3A iQ (λA B=>rfl) (λA=>by simp) rfl rfl rfl (by decide) (by rw[Za3,GJ];omega) (by rw[Za3,GJ];omega);have e:(Hg xg k).map bH++[(.int .i64 (v:Int):AV).cells]=(Hg xg (k+1)).map bH:=by rw[ap3 xg k MY,Zc8,hv];rfl
  rw[e]at a3;obtain⟨s7,V7,b1,b2⟩:=ih (k+1) s6 V5 (by omega) a3;refine⟨s7,V7,b1,λF k4 f hf=> ?_⟩;obtain⟨f,rfl⟩:∃g,f=g+1:=⟨f - 1,by omega⟩
  have b3:=b2 F k4 f (by omega);have aI:=λ(K:AV->St->Option (AV×St))(s:St)=>alS (c:=c) .u16 .i64 zg xg MY K s
  have c1:(jQ zt zg zy zr xt xg xy xr)[1]? =some (ff .u16 zg xg):=rfl;have h3n:=h.h3;clear b2 ih a3 a4 a5 a6 e hv;have k6:k<=1000000:=by omega
  have x6:xg[k]<=4294967296:=by omega
  have w2:=aj7 k6;have w3:=anN x6;rw[<-b3,Bp];simp (disch:=omega) [-ax,-ig,-oG,dD,iL,Za4,Zb6,h1,h3n,l2,aI,c1,hkn,w3,E,a1,a2,a7,w2]
def B6(ts:List aC)(gs:List aS)(xr:List Nat):Nat->List Rl
 |0=>[]
 |k+1=>B6 ts gs xr k++(if(iz ts gs (xr.getD k 0)).2=true then [(iz ts gs (xr.getD k 0)).1]else [])
theorem Uj(ts:List aC)(gs:List aS)(xr:List Nat):∀k,(B6 ts gs xr k).length<=k
 |0=>Za5 _
 |k+1=>by have:=Uj ts gs xr k;unfold B6;rw[Zd9];split<;>simp<;>omega
theorem asK{R:Type}(k k':IntKind)(z:Bool)(l:List Nat){i:Nat}(h:i<l.length)(K:AV->Option R)(t:T AB):fq (.idxA 1 none) [ff k z l,.int k' (i:Int)] (λv=>jJ (.load none) [v] t (λ_=>true) K)=K (.int k (l[i]:Int)):=by
 unfold ff;simp[h]
theorem asL{R:Type}(s:St)(K:AV->AB->Option R):Vl (.alloc [.int .u8 0,.int .i64 0,.str [],.str [],.str [],.int .i64 0]) [] s K=K (.ptr s.next 0) (.cells [.int .u8 0,.int .i64 0,.str [],.str [],.str [],.int .i64 0] 0):=rfl
theorem anP(hc:bu c){xr:List Nat}(hx:∀x∈xr,x<4294967296)(hl:xr.length<=9223372036854775807){zt zg zy zr:Bool}{xt xg xy:List Nat}{st sA:St}{p1 p3:Pos}{x2 V1 V2 V3 V4:AV}(hA:Wf sA)(h1A:sA.heap.get p1=some (.cells (jQ zt zg zy zr xt xg xy xr) 0))(h13:p1≠p3)(h3A:p3.toNat<sA.next.toNat)(iQ:st.next.toNat<=p3.toNat)
  {ts:List aC} {gs:List aS} {r1 r2:List (List AV)} (hT:TS st sA V1 ts r1) (sT:TS.Since (p3.toNat+1) V1 r1) (hG:GS st sA V2 gs r2) (sG:GS.Since (p3.toNat+1) V2 r2) (lt:ts.length<=1000) (lg:gs.length<=1000)
  (hz:∀t∈ts,0<nY t.sh t.a t.b/\nY t.sh t.a t.b<=1000) (ha:∀t∈ts,(0<=t.a/\t.a<=1000000)/\0<=t.b/\t.b<=1000000):
  ∀(m k:Nat)(s:St)(V:AV),k+m=min xr.length 12->LL st sA s p3 6 V ((B6 ts gs xr k).map Rl.cells) (λA=>[V1,V2,V3,V4,A])->
  ∃ s' V',LL st sA s' p3 6 V' ((B6 ts gs xr (min xr.length 12)).map Rl.cells) (λA=>[V1,V2,V3,V4,A])/\∀(F:Nat)(k6:List AV->St->Option (AV×St))(f:Nat),m<f->
    ke c F k6 f [.ptr p1 0,x2,.ptr p3 0,.int .i64 (k:Int)] s=k6 [x2,.ptr p3 0] s':=by
 have c3:(jQ zt zg zy zr xt xg xy xr)[3]? =some (ff .u32 zr xr):=rfl;have lI:=λ(K:AV->St->Option (AV×St))(s:St)=>UI (c:=c) .u32 zr xr K s
 intro m;induction m with
 |zero=>
  intro k s V hk h;obtain rfl:k=min xr.length 12:=by omega
  refine⟨s,V,h,λF k6 f hf=> ?_⟩;obtain⟨f,rfl⟩:∃g,f=g+1:=⟨f - 1,by omega⟩
  have h1:=h.kx.keep p1 _ h13 h1A;rw[uq];by_cases h3:xr.length<=12
  .have e:min xr.length 12=xr.length:=(by omega);rw[e];simp[h1,c3,lI]
  .have e:min xr.length 12=12:=(by omega);have hd:decide ((12:Int)<(xr.length:Int))=true:=Za0 (by omega);rw[e];simp[h1,c3,lI,hd]
 |succ m ih=>
  intro k s V hk h;have MY:k<xr.length:=by omega
  have hk12:k<12:=by omega
  have Nu:=hx _ (Zb8 MY);have kM:k<=1000000:=by omega
  have d12:decide ((k:Int)<12)=true:=Za0 (by omega);have nw:=λ(K:AV->AB->Option (AV×St))=>asL s K
  have xM:xr[k]<=4294967296:=by omega
  have h1:=h.kx.keep p1 _ h13 h1A;have gr:=h.out.ai;have A:=asH hc (V3:=V3) (V4:=V4) (V5:=V) (hT.kx h.kx gr sT) (hG.kx h.kx gr sG) lt lg hz ha xr[k] Nu;have gn:=Grew.ah gr.wf (.cells (iz ts gs xr[k]).1.cells 0);have hS:B6 ts gs xr (k+1)=B6 ts gs xr k++(if(iz ts gs xr[k]).2=true then [(iz ts gs xr[k]).1]else []):=by
    rw[B6];simp[Zb9,MY]
  have R5:∀(K:AV->St->Option (AV×St)),aq c (.store 6) [.ptr s.next 0,.agg (iz ts gs xr[k]).1.cells] (ah s (.cells [.int .u8 0,.int .i64 0,.str [],.str [],.str [],.int .i64 0] 0)) K=K .undef (ah s (.cells (iz ts gs xr[k]).1.cells 0)):=λK=>cq c K s 6 (.agg (iz ts gs xr[k]).1.cells) [.int .u8 0,.int .i64 0,.str [],.str [],.str [],.int .i64 0] rfl rfl rfl
  have aP:=λ(K:AV->Option (AV×St))(t:T AB)=>asK .u32 .i64 zr xr MY K t
  have hg:=h.ai gn;have h3n:=h.h3;have h3g:=hg.h3;have ll:=Uj ts gs xr k;have cu5:∀A B D E G:AV,cut [A,B,D,E,G] 0 5=some [A,B,D,E,G]:=λA B D E G=>cQ rfl
  have gx:=aB s (.cells (iz ts gs xr[k]).1.cells 0);by_cases hb:(iz ts gs xr[k]).2=true
  . rw[hb]at A;rw[Zb4 hb]at hS;obtain⟨s5,s6,V5,a1,a2,a3,a4,a5,a6,a7⟩:=hg.push (c:=c) (bytes:=72) (i:=4) (z:=[.int .u8 0,.int .i64 0,.str [],.str [],.str [],.int .i64 0]) (x:= .agg (iz ts gs xr[k]).1.cells) hA h3A iQ (λA B=>rfl) (λA=>by simp) rfl rfl rfl (by decide) (by rw[Za3];omega) (by rw[Za3];omega);have e:(B6 ts gs xr k).map Rl.cells++[(.agg (iz ts gs xr[k]).1.cells:AV).cells]=(B6 ts gs xr (k+1)).map Rl.cells:=(by rw[hS,Zc8];rfl);rw[e]at a3;obtain⟨s7,V7,b1,b2⟩:=ih (k+1) s6 V5 (by omega) a3;refine⟨s7,V7,b1,λF k6 f hf=> ?_⟩;obtain⟨f,rfl⟩:∃g,f=g+1:=⟨f - 1,by omega⟩
    have b3:=b2 F k6 f (by omega);generalize (iz ts gs xr[k]).1=R at*
    clear b2 ih a3 a4 a5 a6 e hS hb ll hg h;have w2:=aj7 kM;have w3:=anN xM;rw[<-b3,uq];simp (disch:=omega) [-ax,cY,Za4,Zb6,h1,h3n,h3g,lI,aP,c3,MY,d12,nw,w3,A,R5,cu5,gx,a1,a2,a7,w2]
  . have eO:(iz ts gs xr[k]).2=false:=(by simpa using hb);rw[eO]at A;rw[Za7 hb,Zd7]at hS;rw[<-hS]at hg;obtain⟨s7,V7,b1,b2⟩:=ih (k+1) _ V (by omega) hg;refine⟨s7,V7,b1,λF k6 f hf=> ?_⟩;obtain⟨f,rfl⟩:∃g,f=g+1:=⟨f - 1,by omega⟩
    have b3:=b2 F k6 f (by omega);generalize (iz ts gs xr[k]).1=R at*
    clear b2 ih hS hb eO ll hg h;have w2:=aj7 kM;have w3:=anN xM;rw[<-b3,uq];simp (disch:=omega) [-ax,cY,Za4,Zb6,h1,h3n,h3g,lI,aP,c3,MY,d12,nw,w3,A,R5,cu5,gx,w2]
theorem akT(hc:bu c){xs:List Nat}(hx:∀x∈xs,x<65536)(hl:xs.length<=9223372036854775807)(z:Bool)(x1:AV){st:St}{p4 p5:Pos}(R4:p4≠p5)(J5:st.next.toNat<=p5.toNat){W:AV}:∀(m k:Nat)(s:St)(V:AV)(rows:List (List AV)),k+m=min xs.length 12->
  GL st s p4 p5 V W (D5 xs k) rows->∃s' V' wJ,GL st s' p4 p5 V' W (D5 xs (min xs.length 12)) wJ/\∀(F:Nat)(_:5<=F)(k2:List AV->St->Option (AV×St))(f:Nat),m<f->
    gK c F k2 f [ff .u16 z xs,x1,.ptr p4 0,.ptr p5 0,.int .i64 (k:Int)] s=k2 [x1,.ptr p4 0,.ptr p5 0] s':=by
 intro m;induction m with
 |zero=>
  intro k s V rows hk h;obtain rfl:k=min xs.length 12:=by omega
  refine⟨s,V,rows,h,λF _ k2 f hf=> ?_⟩;obtain⟨f,rfl⟩:∃g,f=g+1:=⟨f - 1,by omega⟩
  have lI:∀(K:AV->St->Option (AV×St))(s:St),aq c (.lenB .l) [ff .u16 z xs] s K=K (.int .i64 (xs.length:Int)) s:=λK s=>by unfold ff;rw[jL];simp
  rw[Bn];by_cases h12:xs.length<=12
  .have e:min xs.length 12=xs.length:=(by omega);rw[e];simp[lI]
  .have e:min xs.length 12=12:=(by omega);rw[e];have hd:decide (12<xs.length)=true:=Za0 (by omega);have hd2:(12:Nat)<xs.length:=(by omega);have hd3:decide ((12:Int)<(xs.length:Int))=true:=Za0 (by omega);simp[lI,hd3]
 |succ m ih=>
  intro k s V rows hk h;obtain⟨s1,V1,r1,h1,e1⟩:=akS hc hx z x1 R4 J5 (k:=k) (by omega) (by omega) h;obtain⟨s2,V2,r2,h2,e2⟩:=ih (k+1) s1 V1 r1 (by omega) h1;refine⟨s2,V2,r2,h2,λF hF k2 f hf=> ?_⟩;obtain⟨f,rfl⟩:∃g,f=g+1:=⟨f - 1,by omega⟩
  rw[e1 F hF k2 f,e2 F hF k2 f (by omega)]
structure YL(st s:St)(p4 p5:Pos)(V W:AV)(gs:List aS)(rows:List (List AV))(ys:List Ty):Prop where
 gl:GL st s p4 p5 V W gs rows
 ty:Mk 3 st s W (ys.map Ty.cells)
 w4:aR W≠some p4
 w5:aR W≠some p5
 wV:∀b,aR W=some b->aR V≠some b
 wI:∀(i:Nat)(r:List AV)(v:AV)(b:Pos),rows[i]? =some r->r[8]? =some v->aR v=some b->aR W≠some b
theorem YL.start{st s:St}{p4 p5:Pos}{V:AV}{gs:List aS}{rows:List (List AV)}(h:GL st s p4 p5 V .af gs rows):YL st s p4 p5 V .af gs rows []:=
 ⟨h,Mk.start h.out.jW h.out.ai,λe=>(nomatch e),λe=>(nomatch e),λ_ e=>(nomatch e),λ_ _ _ _ _ _ _ e=>(nomatch e)⟩
theorem YL.push{st s:St}{p4 p5:Pos}{V W:AV}{gs:List aS}{rows:List (List AV)}{ys:List Ty}(h:YL st s p4 p5 V W gs rows ys)(R4:p4≠p5)(J5:st.next.toNat<=p5.toNat)(t:Ty)(hlen:ys.length<=1000000):
   ∃s5 s6 W5,(∀(K:AV->St->Option (AV×St)),aq c (.buildSlice 3 1 [.str [],.str [],.int .u8 0] [0]) [.agg t.cells] s (λy q=>aq c (.append 3 40) [W,y] q K)=K W5 s5)/\
    (∀(K:AV->St->Option (AV×St)),aq c (.store 1) [.ptr p5 1,W5] s5 K=K .undef s6)/\YL st s6 p4 p5 V W5 gs rows (ys++[t]):=by
 have hw:=h.gl.out.ai.wf;obtain⟨s5,W5,a1,a2,a3,a4⟩:=h.ty.push (c:=c) (R:=AV×St) (bytes:=40) (z:=[.str [],.str [],.int .u8 0]) (x:= .agg t.cells) rfl rfl rfl (by decide) (by rw[Za3];omega) (by rw[Za3];omega);have e:(ys++[t]).map Ty.cells=ys.map Ty.cells++[(.agg t.cells:AV).cells]:=by rw[Zc8];rfl
 rw[<-e]at a2;have y4:=a3 p4 _ h.w4 h.gl.h4;have y5:=a3 p5 _ h.w5 h.gl.h5;have l4:=hw p4 _ h.gl.h4;have l5:=hw p5 _ h.gl.h5;have b4:aR W5≠some p4:=λe=>by have:=a4 _ e;omega
 have b5:aR W5≠some p5:=λe=>by have:=a4 _ e;omega
 have l5':=a2.ai.wf p5 _ y5;obtain⟨vc,v1⟩:=a2.cells;have bK:∀(K:AV->St->Option (AV×St)),aq c (.store 1) [.ptr p5 1,W5] s5 K=K .undef (bn s5 p5 (.cells [V,W5] 0)):=λK=>by rw[cH c K s5 1 p5 1 W5 [V,W] y5 (by rw[vc];rfl) (by simp) (by rw[vc];exact v1),vc];rfl
 have M6:=a2.store (p:=p5) (b:= .cells [V,W5] 0) J5 l5' b5;have keep:∀(u:AV)(n:Nat)(rw:List (List AV)),Mk n st s u rw->(∀b,aR u=some b->aR W≠some b/\b≠p5)->Mk n st (bn s5 p5 (.cells [V,W5] 0)) u rw:=λu n rw hu dP=>
   aj6 hu M6.ai λb y hb hy=>by rw[aM (λe=>(dP b hb).2 e.symm)];exact a3 b y (dP b hb).1 hy
 have newW:∀b,aR W5=some b->s.next.toNat<=b.toNat:=a4;refine⟨s5,_,W5,a1,bK,⟨⟨keep V 9 rows h.gl.out λb hb=>⟨λe=>h.wV b e hb,λe=>h.gl.n5 (by rw[hb,e])⟩,h.gl.len,λi g r hi hr=> ?_,by rw[aM (λe=>R4 e.symm)];exact y4,bW _ _ _,h.gl.n4,h.gl.n5⟩,M6,b4,b5,λb hb e=> ?_,λi r v b hr h8 hv e=> ?_⟩⟩
 .obtain⟨v,e1,e2,e3⟩:=h.gl.eI i g r hi hr;have h8:r[8]? =some v:=(by rw[e1];rfl);exact⟨v,e1,keep v 1 _ e2 λb hb=>⟨h.wI i r v b hr h8 hb,(e3 b hb).2.2⟩,e3⟩
 .have:=newW b hb;have:=h.gl.out.own.lt hw e;omega
 .have p1:=newW b e;have hi:i<gs.length:=(by rw[<-h.gl.len];exact(Za1.1 hr).1);obtain⟨u,e1,e2,_⟩:=h.gl.eI i gs[i] r (H0 hi) hr;have:u=v:=(by rw[e1]at h8;exact Zi1 h8);subst this;have:=e2.own.lt hw hv;omega
def nv(gs:List aS):List (List Nat):=gs.map λg=>g.name
def afE(bU:List Nat)(i k n:Nat):Ty:=⟨bY i,bY k,1+((bU.getD n 0 % 4:Nat):Int)⟩
def aj8(bU:List Nat)(n:Nat):Bool:=decide (n<bU.length)&&decide (bU.getD n 0 % 4<2)
def Hh(bU:List Nat)(i k n:Nat)(ys:List Ty):List Ty:=if aj8 bU n=true then ys++[afE bU i k n]else ys
theorem aj9(bU:List Nat)(i k n:Nat)(ys:List Ty):(Hh bU i k n ys).length<=ys.length+1:=by unfold Hh;split<;>simp
def ny(names:List (List Nat))(bU:List Nat)(i:Nat):Nat->Nat->Nat->List Ty->Nat×List Ty
 |0,_,n,ys=>(n,ys)
 |m+1,k,n,ys=>if bY i∈names then(if bY k∈names then ny names bU i m (k+1) (n+1) (Hh bU i k n ys)else ny names bU i m (k+1) n ys)else(n,ys)
theorem GL.there(hc:bu c){st s:St}{p4 p5:Pos}{V W:AV}{gs:List aS}{rows:List (List AV)}(h:GL st s p4 p5 V W gs rows)(hl:gs.length<=1000)(x:Nat)(hx:x<1000000):
  c 87 [.agg [V,W],.int .i64 (x:Int)] s=some (.bool (decide (bY x∈nv gs)),s):=
 asG hc h.out.own h.out.row (names:=nv gs) (by rw[nv,Za3,h.len]) (λi h1 h2=>by
  have h3:i<gs.length:=by rw[<-h.len];exact h1
  obtain⟨v,e,_⟩:=h.eI i gs[i] rows[i] (H0 h3) (H0 h1);rw[e];simp[nv,aS.ay]) (by rw[h.len];exact hl) x hx h.out.ai.wf
theorem akU{R:Type}(h:T AB)(ok:AV->Bool)(xs:List (List AV))(i j:Nat)(K1:AV->Option R):jJ (.load none) [.fp xs i j] h ok K1=yT (xs[i]?.bind λcs=>cs[j]?) K1:=by unfold jJ;rw[DA,DA];cases hx:(xs[i]?.bind λcs=>cs[j]?)<;>rfl
theorem ap4{R:Type}(a b:List Nat)(k:Int)(s:St)(K:AV->AB->Option R):Vl (.buildSlice 3 1 [.str [],.str [],.int .u8 0] [0]) [.agg [.str a,.str b,.int .u8 k]] s K=K (.slice s.next 0 1 (some 1) 3) (.cells [.str a,.str b,.int .u8 k] 0):=rfl
theorem anQ(a b:List Nat)(k:Int)(K:AV->Option (AV×St)):fq (.build [.str [],.str [],.int .u8 0] [(0,1),(1,1),(2,1)]) [.str a,.str b,.int .u8 k] K=K (.agg [.str a,.str b,.int .u8 k]):=rfl
theorem avV (hc:bu c){bU:List Nat}(ht:∀x∈bU,x<256)(z:Bool){st:St}{p4 p5:Pos}(R4:p4≠p5)(J5:st.next.toNat<=p5.toNat){V:AV}{gs:List aS}(hgl:gs.length<=1000){rows:List (List AV)}{i:Nat}(hi:i<1000):
  ∀(m k n:Nat)(s:St)(W:AV)(ys:List Ty),k+m=312->ys.length<=n->n+m<=1000000->YL st s p4 p5 V W gs rows ys->
  ∃ s' W',YL st s' p4 p5 V W' gs rows (ny (nv gs) bU i m k n ys).2/\∀(F:Nat)(k8:List AV->St->Option (AV×St))(f:Nat),m<f->
    kg c F k8 f [ff .u8 z bU,.ptr p4 0,.ptr p5 0,.int .i64 (n:Int),.int .i64 (i:Int),.int .i64 (k:Int)] s=k8 [ff .u8 z bU,.ptr p4 0,.ptr p5 0,.int .i64 ((ny (nv gs) bU i m k n ys).1:Int),.int .i64 (i:Int)] s':=by
 intro m;induction m with
 |zero=>
  intro k n s W ys hk hy hn h;obtain rfl:k=312:=by omega
  refine⟨s,W,h,λF k8 f hf=> ?_⟩;obtain⟨f,rfl⟩:∃g,f=g+1:=⟨f - 1,by omega⟩
  rw[iW];simp[ny]
 |succ m ih  =>
  intro k n s W ys hk hy hn h;have T1:=h.gl.there hc hgl i (by omega);have T2:=h.gl.there hc hgl k (by omega);have hd:decide ((k:Int)<312)=true:=Za0 (by omega);have w:av .i64 ((k:Int)+1)=((k+1:Nat):Int):=wrap64 (by omega) (by omega);have w2:av .i64 ((n:Int)+1)=((n+1:Nat):Int):=wrap64 (by omega) (by omega);have h5:=h.gl.h5;have cu:cut [V,W] 0 2=some [V,W]:=rfl;have lI:∀(K:AV->St->Option (AV×St))(s:St),aq c (.lenB .l) [ff .u8 z bU] s K=K (.int .i64 (bU.length:Int)) s:=λK s=>by unfold ff;rw[jL];simp
  by_cases OZ:bY i∈nv gs
  . by_cases Bf:bY k∈nv gs
    .   have eT:ny (nv gs) bU i (m+1) k n ys=ny (nv gs) bU i m (k+1) (n+1) (Hh bU i k n ys):=(by rw[ny,Zb4 OZ,Zb4 Bf]);rw[eT];have hl:=aj9 bU i k n ys;by_cases tD:n<bU.length
        . have ix:∀(K:AV->St->Option (AV×St))(s:St),aq c (.idxA 1 none) [ff .u8 z bU,.int .i64 (n:Int)] s K=K (.fp (bU.map λ(i:Nat)=>[.int .u8 (i:Int)]) n 0) s:=λK s=>by unfold ff;rw[Tn];simp[tD]
          have pix:∀(K:AV->Option (AV×St)),fq (.idxA 1 none) [ff .u8 z bU,.int .i64 (n:Int)] K=K (.fp (bU.map λ(i:Nat)=>[.int .u8 (i:Int)]) n 0):=λK=>by unfold ff;rw[aq6];simp[tD]
          obtain⟨x,hx⟩:∃x,bU[n]=x:=⟨_,rfl⟩
          have hx8:x<256:=(by rw[<-hx];exact ht _ (Zb8 tD));have gd:bU.getD n 0=x:=(by simp[Zb9,tD,hx]);have r1:=λ(s:St)(K:AV->St->Option (AV×St))=>dD (c:=c) (k:= .u8) (a:=(x:Int)) (b:=4) (by omega) (by omega) s K
          have r2:=λ(K:AV->Option (AV×St))=>Tv (k:= .u8) (a:=(x:Int)) (b:=4) (by omega) (by omega) K
          have w8:av .u8 (1+(x:Int) % 4)=1+(x:Int) % 4:=Hy (by omega) (by omega);have eC:aj8 bU n=decide (x % 4<2):=(by unfold aj8;rw[gd,Za0 tD,Zg5]);have d2:decide ((x:Int) % 4<2)=decide (x % 4<2):=decide_eq_decide.2 (by omega);by_cases hx4:x % 4<2
          . have eY:Hh bU i k n ys=ys++[afE bU i k n]:=(by unfold Hh;rw[eC,Zb4 (Za0 hx4)]);rw[eY]at hl ⊢;obtain⟨s5,s6,W5,a1,a2,a3⟩:=h.push (c:=c) R4 J5 (afE bU i k n) (by omega);have eU:(afE bU i k n).cells=[.str (bY i),.str (bY k),.int .u8 (1+(x:Int) % 4)]:=(by unfold afE Ty.cells;rw[gd];simp);have a1':∀K,aq c (.append 3 40) [W,.slice s.next 0 1 (some 1) 3] (ah s (.cells [.str (bY i),.str (bY k),.int .u8 (1+(x:Int) % 4)] 0)) K=K W5 s5:=λK=>by have h1:=a1 K;rw[Gr (es:=3) (z:=[.str [],.str [],.int .u8 0]) (x:= .agg (afE bU i k n).cells) rfl rfl]at h1;rw[<-eU];exact h1
            have N1:=zX hc i (by omega) s h.gl.out.ai.wf;have N2:=zX hc k (by omega) s h.gl.out.ai.wf;obtain⟨s',W',b1,b2⟩:=ih (k+1) (n+1) s6 W5 _ (by omega) (by omega) (by omega) a3;refine⟨s',W',b1,λF k8 f hf=> ?_⟩;obtain⟨f,rfl⟩:∃g,f=g+1:=⟨f - 1,by omega⟩
            rw[<-b2 F k8 f (by omega),iW];simp[-ax,-qx,-HT,h5,cu,T1,T2,OZ,Bf,hd,cY,lI,tD,ix,pix,hx,r1,r2,d2,hx4,w8,N1,N2,akU,ap4,anQ,a1',a2,w,w2]
          . have eY:Hh bU i k n ys=ys:=(by unfold Hh;rw[eC,Za7 (by simp;omega)]);rw[eY];obtain⟨s',W',b1,b2⟩:=ih (k+1) (n+1) s W ys (by omega) (by omega) (by omega) h;refine⟨s',W',b1,λF k8 f hf=> ?_⟩;obtain⟨f,rfl⟩:∃g,f=g+1:=⟨f - 1,by omega⟩
            have MR:decide ((x:Int) % 4<2)=false:=Za2 (by omega);rw[<-b2 F k8 f (by omega),iW];simp[-ax,-qx,-HT,h5,cu,T1,T2,OZ,Bf,hd,cY,lI,tD,ix,hx,r1,MR,w,w2]
        . have eY:Hh bU i k n ys=ys:=(by unfold Hh aj8;rw[Za2 tD,Zo5,Za7 (by decide)]);rw[eY];obtain⟨s',W',b1,b2⟩:=ih (k+1) (n+1) s W ys (by omega) (by omega) (by omega) h;refine⟨s',W',b1,λF k8 f hf=> ?_⟩;obtain⟨f,rfl⟩:∃g,f=g+1:=⟨f - 1,by omega⟩
          rw[<-b2 F k8 f (by omega),iW];simp[-ax,-qx,-HT,h5,cu,T1,T2,OZ,Bf,hd,cY,lI,tD,w,w2]
    .   have eT:ny (nv gs) bU i (m+1) k n ys=ny (nv gs) bU i m (k+1) n ys:=(by rw[ny,Zb4 OZ,Za7 Bf]);rw[eT];obtain⟨s',W',b1,b2⟩:=ih (k+1) n s W ys (by omega) (by omega) (by omega) h;refine⟨s',W',b1,λF k8 f hf=> ?_⟩;obtain⟨f,rfl⟩:∃g,f=g+1:=⟨f - 1,by omega⟩
        rw[<-b2 F k8 f (by omega),iW];simp[-ax,-qx,-HT,h5,cu,T1,T2,OZ,Bf,hd,cY,w]
  . have eT:ny (nv gs) bU i (m+1) k n ys=(n,ys):=(by rw[ny,Za7 OZ]);rw[eT];refine⟨s,W,h,λF k8 f hf=> ?_⟩;obtain⟨f,rfl⟩:∃g,f=g+1:=⟨f - 1,by omega⟩
    rw[iW];simp[-ax,-qx,-HT,h5,cu,T1,OZ,hd,cY]
theorem YZ(names:List (List Nat))(bU:List Nat)(i:Nat):∀(m k n:Nat)(ys:List Ty),ys.length<=n->(ny names bU i m k n ys).2.length<=(ny names bU i m k n ys).1/\(ny names bU i m k n ys).1<=n+m
 |0,k,n,ys,h=>by unfold ny;exact⟨h,by omega⟩
 |m +   1,k,n,ys,h=>by
  unfold ny;split
  . split
    .   have hl:=aj9 bU i k n ys;have:=YZ names bU i m (k+1) (n+1) (Hh bU i k n ys) (by omega);omega
    .   have:=YZ names bU i m (k+1) n ys h;omega
  .exact⟨h,by omega⟩
def Y0(names:List (List Nat))(bU:List Nat):Nat->Nat->Nat->List Ty->List Ty
 |0,_,_,ys=>ys
 |m+1,i,n,ys=>Y0 names bU m (i+1) (ny names bU i m (i+1) n ys).1 (ny names bU i m (i+1) n ys).2
theorem au3(hc:bu c){bU:List Nat}(ht:∀x∈bU,x<256)(z:Bool){st:St}{p4 p5:Pos}(R4:p4≠p5)(J5:st.next.toNat<=p5.toNat){V:AV}{gs:List aS}(hgl:gs.length<=1000){rows:List (List AV)}:
  ∀(m i n:Nat)(s:St)(W:AV)(ys:List Ty),i+m=312->ys.length<=n->n+m*312<=1000000->YL st s p4 p5 V W gs rows ys->
  ∃s' W',YL st s' p4 p5 V W' gs rows (Y0 (nv gs) bU m i n ys)/\∀(F:Nat)(_:400<=F)(k6:List AV->St->Option (AV×St))(f:Nat),m<f->
   ki c F k6 f [ff .u8 z bU,.ptr p4 0,.ptr p5 0,.int .i64 (n:Int),.int .i64 (i:Int)] s=k6 [.ptr p4 0,.ptr p5 0] s':=by
 intro m;induction m with
 |zero=>
  intro i n s W ys hk hy hn h;obtain rfl:i=312:=by omega
  refine⟨s,W,h,λF _ k6 f hf=> ?_⟩;obtain⟨f,rfl⟩:∃g,f=g+1:=⟨f - 1,by omega⟩
  rw[Bq];simp
 |succ m ih=>
  intro i n s W ys hk hy hn h;have hd:decide ((i:Int)<312)=true:=Za0 (by omega);have b1: -9223372036854775808<=(i:Int)+1:=by omega
  have b2:(i:Int)+1<=9223372036854775807:=by omega
  have e3:((i+1:Nat):Int)=(i:Int)+1:=by omega
  obtain⟨s1,W1,h1,e1⟩:=avV hc ht z R4 J5 hgl (i:=i) (by omega) m (i+1) n s W ys (by omega) hy (by omega) h;have hl:=YZ (nv gs) bU i m (i+1) n ys hy;obtain⟨s2,W2,h2,e2⟩:=ih (i+1) _ s1 W1 _ (by omega) hl.1 (by omega) h1;refine⟨s2,W2,h2,λF hF k6 f hf=> ?_⟩;obtain⟨f,rfl⟩:∃g,f=g+1:=⟨f - 1,by omega⟩
  have e1':=λk8=>e1 F k8 F (by omega)
  rw[<-e2 F hF k6 f (by omega),Bq];clear e1 e2 hl;have w:av .i64 ((i:Int)+1)=(i:Int)+1:=wrap64 b1 b2;rw[e3]at e1' ⊢;simp[hd,w,e1']
structure RS(st s:St)(V W:AV)(gs:List aS)(rows:List (List AV))(ys:List Ty):Prop where
 ai:Grew st s
 out:Mk 9 st s V rows
 len:rows.length=gs.length
 eI:∀(i:Nat)(g:aS)(r:List AV),gs[i]? =some g->rows[i]? =some r->∃v,r=g.ay v/\Mk 1 st s v (g.tg.map YX)/\∀b,aR v=some b->aR V≠some b/\aR W≠some b
 ty:Mk 3 st s W (ys.map Ty.cells)
 wV:∀b,aR W=some b->aR V≠some b
def gI(xs:List Nat):List aS:=D5 xs (min xs.length 12)
def DQ(xs bU:List Nat):List Ty:=Y0 (nv (gI xs)) bU 312 0 0 []
theorem Ie(xs:List Nat):(gI xs).length<=12:=by unfold gI;rw[MZ];omega
theorem au4(hc:bu c){xs bU:List Nat}(hx:∀x∈xs,x<65536)(hl:xs.length<=9223372036854775807)(ht:∀x∈bU,x<256)(z z2:Bool)(st:St)(hw:Wf st):
   ∃V W s' rows,c 47 [ff .u16 z xs,ff .u8 z2 bU] st=some (.agg [V,W],s')/\RS st s' V W (gI xs) rows (DQ xs bU):=by
 have dm:Wf (ah st (.cells [.af,.af] 0)):=bP hw;have g1:=Grew.ah hw (.cells [.af,.af] 0);have g2:=Grew.ah dm (.cells [.af,.af] 0);have n12:st.next≠(ah st (.cells [.af,.af] 0)).next:=by rw[bX];exact Pos.ZZ _
 have J5:st.next.toNat<=(ah st (.cells [.af,.af] 0)).next.toNat:=by rw[bX,Pos.aH];omega
 have G0:GL st (ah (ah st (.cells [.af,.af] 0)) (.cells [.af,.af] 0)) st.next (ah st (.cells [.af,.af] 0)).next .af .af (D5 xs 0) []:=
   ⟨Mk.start hw (g1.trans g2),rfl,λi g r hi _=>by simp[D5]at hi,g2.get (aB _ _),aB _ _,λe=>(nomatch e),λe=>(nomatch e)⟩
 obtain⟨s1,V,rows,h1,e1⟩:=akT hc hx hl z (ff .u8 z2 bU) n12 J5 (min xs.length 12) 0 _ .af [] (by omega) G0;obtain⟨s2,W,h2,e2⟩:=au3 hc ht z2 n12 J5 (gs:=gI xs) (by have:=Ie xs;omega) 312 0 0 s1 .af [] (by omega) (by simp) (by omega) (YL.start h1);have e1':∀k2:List AV->St->Option (AV×St),gK c 400 k2 400 [ff .u16 z xs,ff .u8 z2 bU,.ptr st.next 0,.ptr (ah st (.cells [.af,.af] 0)).next 0,.int .i64 0] (ah (ah st (.cells [.af,.af] 0)) (.cells [.af,.af] 0))=k2 [ff .u8 z2 bU,.ptr st.next 0,.ptr (ah st (.cells [.af,.af] 0)).next 0] s1:=λk2=>e1 400 (by omega) k2 400 (by omega)
 have e2':∀k6:List AV->St->Option (AV×St),ki c 400 k6 400 [ff .u8 z2 bU,.ptr st.next 0,.ptr (ah st (.cells [.af,.af] 0)).next 0,.int .i64 0,.int .i64 0] s1=k6 [.ptr st.next 0,.ptr (ah st (.cells [.af,.af] 0)).next 0] s2:=λk6=>e2 400 (by omega) k6 400 (by omega)
 have h5:=h2.gl.h5;have h4:=h2.gl.h4;have l4:=h2.gl.out.ai.wf _ _ h4;obtain⟨vc,v1⟩:=h2.gl.out.cells;obtain⟨wc,w1⟩:=h2.ty.cells;have one:aV [V,W]=true:=by
   have v2:V.one=true:=xw v1;have w2:W.one=true:=xw w1;simp only[aV,v2,w2]
 have cu:cut [V,W] 0 2=some [V,W]:=rfl;have R5:∀(K:AV->St->Option (AV×St)),aq c (.store 2) [.ptr st.next 0,.agg [V,W]] s2 K=K .undef (bn s2 st.next (.cells [V,W] 0)):=λK=>by rw[cH c K s2 2 st.next 0 (.agg [V,W]) [.af,.af] h4 rfl (by simp) one];rfl
 have A:=h2.gl.out.store (p:=st.next) (b:= .cells [V,W] 0) (Za5 _) l4 h2.gl.n4;have B:=h2.ty.store (p:=st.next) (b:= .cells [V,W] 0) (Za5 _) l4 h2.w4;have ins:∀u∈[V,W],dV u:=λu hu=>by
   simp only[Za9,Zc6,Zf3]at hu;rcases hu with rfl|rfl
   .exact A.inst
   .exact B.inst
 obtain⟨sa,t1,ta,tA⟩:=A.Tu (l:=[V,W]) (by simp) ins;obtain⟨sb,t2,tb,tB⟩:=B.Tu (l:=[V,W]) (by simp) ins;have hab:sb=sa:=by rw[t1]at t2;exact(Prod.mk.inj t2).2.symm
 subst hab;refine⟨V,W,sb,rows,?_,⟨tA.ai,tA,h2.gl.len,λi g r hi hr=> ?_,tB,h2.wV⟩⟩
 .rw[R6 hc 400 (r:=(.agg [V,W],bn s2 st.next (.cells [V,W] 0))),t1];rw[Xe];simp[e1',e2',h5,cu,R5]
 . obtain⟨v,q1,q2,q3⟩:=h2.gl.eI i g r hi hr;have h8:r[8]? =some v:=(by rw[q1];rfl);refine⟨v,q1,?_,λb hb=>⟨(q3 b hb).1,h2.wI i r v b hr h8 hb⟩⟩;rcases ta with rfl|rfl
   .exact q2.store (p:=st.next) (b:= .cells [V,W] 0) (Za5 _) l4 (λe=>(q3 _ e).2.1 rfl)
   . (exfalso;have dP:rows≠[]:=λe=>by rw[e]at hr;simp at hr);rcases tA.loose with⟨b,off,n,rfl⟩|⟨_,e⟩
     .  have p1:=tA.new b (qL _ _ _ _);have p2:=tA.own.lt hw (qL _ _ _ _);omega
     .  exact dP e
def oh(xt:List Nat):List aC:=sM xt (min xt.length 3)
def uV(xt xg:List Nat):List Nat:=xg.take (min xg.length (kA xt (min xt.length 3)))
def nk(xt xg:List Nat):List aS:=gI (uV xt xg)
def ap5(xt xg xy:List Nat):List Ty:=DQ (uV xt xg) xy
def kR(xt xg xy:List Nat):List Int:=if 0<xy.length % 4 then Hg xg (nk xt xg).length else []
def avW(xt xg xr:List Nat):List Rl:=B6 (oh xt) (nk xt xg) xr (min xr.length 12)
def iw(xt xg xy xr:List Nat):bE:=⟨true,oh xt,true,nk xt xg,true,ap5 xt xg xy,true,kR xt xg xy,true,avW xt xg xr⟩
theorem ap6(x:Nat):0<tN x:=by
 have:0<tA x:=by unfold tA;split<;>(try split)<;>(try split)<;>omega
 unfold tN;split<;>(try split)<;>omega
theorem Uk{xs:List Nat}{k:Nat}{t:aC}(h:t∈sM xs k):∃i x,t=kC i x:=by
 unfold sM at h;simp only[Zc9]at h;obtain⟨i,_,rfl⟩:=h;exact⟨_,_,rfl⟩
theorem ap7{xs:List Nat}{k:Nat}:∀t∈sM xs k,0<nY t.sh t.a t.b/\nY t.sh t.a t.b<=1000:=λt h=>by obtain⟨i,x,rfl⟩:=Uk h;have e:nY (kC i x).sh (kC i x).a (kC i x).b=((tN x:Nat):Int):=aam x;have h1:=ap6 x;have h2:=adU x;rw[e];omega
theorem ai0{xs:List Nat}{k:Nat}:∀t∈sM xs k,(0<=t.a/\t.a<=1000000)/\0<=t.b/\t.b<=1000000:=λt h=>by obtain⟨i,x,rfl⟩:=Uk h;have h1:=ahA x;have h2:=ahB x;show(0<=((tA x:Nat):Int)/\((tA x:Nat):Int)<=1000000)/\0<=((tB x:Nat):Int)/\((tB x:Nat):Int)<=1000000;omega
theorem RS.gs{st sL sR:St}{V W:AV}{gs:List aS}{rows:List (List AV)}{ys:List Ty}(h:RS sL sR V W gs rows ys)(h0:Wf st)(g:Grew st sL):GS st sR V gs rows/\GS.Since sL.next.toNat V rows:=
 ⟨⟨h.out.back h0 g,h.len,λi t r hi hr=>by
   obtain⟨v,e1,e2,e3⟩:=h.eI i t r hi hr;exact⟨v,e1,e2.back h0 g,λb hb=>(e3 b hb).1⟩⟩,h.out.new,λi r v b hr h8 hb=>by
   have hi:i<gs.length:=(by rw[<-h.len];exact(Za1.1 hr).1);obtain⟨u,e1,e2,_⟩:=h.eI i gs[i] r (H0 hi) hr;have:u=v:=(by rw[e1]at h8;exact Zi1 h8);subst this;exact e2.new b hb⟩
theorem TS.Since.le{n m:Nat}{V:AV}{rows:List (List AV)}(h:TS.Since n V rows)(hm:m<=n):TS.Since m V rows:=⟨λb hb=>Zb2 hm (h.1 b hb),λi r v b h1 h2 h3=>Zb2 hm (h.2 i r v b h1 h2 h3)⟩
theorem GS.Since.le{n m:Nat}{V:AV}{rows:List (List AV)}(h:GS.Since n V rows)(hm:m<=n):GS.Since m V rows:=⟨λb hb=>Zb2 hm (h.1 b hb),λi r v b h1 h2 h3=>Zb2 hm (h.2 i r v b h1 h2 h3)⟩
theorem PS.awI{s s':St}{V1 V2 V3 V4 V5:AV}{p:bE}{r1 r2:List (List AV)}(h1:TS s s' V1 p.ts r1)(h2:GS s s' V2 p.gs r2)(h3:Mk 3 s s' V3 (p.ys.map Ty.cells))(h4:Mk 1 s s' V4 (p.cs.map bH))(h5:Mk 6 s s' V5 (p.rs.map Rl.cells)):
   ∃fD,Go.Ai.tidy s (.agg [V1,V2,V3,V4,V5],s')=(.agg [V1,V2,V3,V4,V5],fD)/\PS s fD [V1,V2,V3,V4,V5] p:=by
 obtain⟨fD,e,g,k⟩:=Mk.ari (s:=s) (s':=s') (l:=[V1,V2,V3,V4,V5]) (λu hu=>by
   simp only[Za9,Zc6,Zf3]at hu;rcases hu with rfl|rfl|rfl|rfl|rfl
   .exact h1.out.inst
   .exact h2.out.inst
   .exact h3.inst
   .exact h4.inst
   .exact h5.inst) h1.out.jW h1.out.ai
 obtain⟨a1,b1⟩:=k 7 V1 r1 (by simp) h1.out;obtain⟨a2,b2⟩:=k 9 V2 r2 (by simp) h2.out;obtain⟨a3,_⟩:=k 3 V3 _ (by simp) h3;obtain⟨a4,_⟩:=k 1 V4 _ (by simp) h4;obtain⟨a5,_⟩:=k 6 V5 _ (by simp) h5;refine⟨fD,e,g,V1,V2,V3,V4,V5,r1,r2,rfl,⟨a1,h1.len,λi t r hi hr=> ?_⟩,⟨a2,h2.len,λi t r hi hr=> ?_⟩,a3,a4,a5⟩
 . rcases b1 with rfl|rfl
   .exact h1.eI i t r hi hr
   .simp at hr
 . rcases b2 with rfl|rfl
   .exact h2.eI i t r hi hr
   .simp at hr
theorem ap8{R:Type}(k k':IntKind)(z:Bool)(l:List Nat){i:Nat}(h:i<=l.length)(K:AV->Option R):fq (.sliceL 1 false true false) [ff k z l,.int k' (i:Int)] K=K (ff k (z&&l.isEmpty) (l.take i)):=by unfold ff;rw[aor,Za3,Zb4 h];simp only[Zr4,Zr1];rfl
theorem ap9{R:Type}(k:IntKind)(z:Bool)(l:List Nat)(K:AV->Option R):fq (.lenB .l) [ff k z l] K=K (.int .i64 (l.length:Int)):=by unfold ff;rw[aim];simp
theorem asM{R:Type}(s:St)(K:AV->AB->Option R):Vl (.alloc [.af,.af]) [] s K=K (.ptr s.next 0) (.cells [.af,.af] 0):=rfl
theorem auh (hc:bu c) {xt xg xy xr:List Nat}(ht:∀x∈xt,x<256)(hg:∀x∈xg,x<65536)(hy:∀x∈xy,x<256)(hr:∀x∈xr,x<4294967296)(lt:xt.length<=9223372036854775807)(lg:xg.length<=9223372036854775807)(lr:xr.length<=9223372036854775807)(ly:xy.length<=9223372036854775807)
  (zt zg zy zr:Bool) (st:St) (hw:Wf st):∃Vs s',c 15 [.agg (jQ zt zg zy zr xt xg xy xr)] st=some (.agg Vs,s')/\PS st s' Vs (iw xt xg xy xr):=by
 have w1:Wf (ah st (.cells (jQ zt zg zy zr xt xg xy xr) 0)):=bP hw;have w2:Wf (ah (ah st (.cells (jQ zt zg zy zr xt xg xy xr) 0)) (.cells [.af,.af,.af,.af,.af] 0)):=bP w1;have g1:=Grew.ah hw (.cells (jQ zt zg zy zr xt xg xy xr) 0);have g2:=Grew.ah w1 (.cells [.af,.af,.af,.af,.af] 0);have g3:=Grew.ah w2 (.cells [.af,.af,.af,.af,.af] 0);obtain⟨p1,kF⟩:∃p1,p1=st.next:=⟨_,rfl⟩
 obtain⟨p2,HJ⟩:∃p2,p2=(ah st (.cells (jQ zt zg zy zr xt xg xy xr) 0)).next:=⟨_,rfl⟩
 obtain⟨p3,hp3⟩:∃p3,p3=(ah (ah st (.cells (jQ zt zg zy zr xt xg xy xr) 0)) (.cells [.af,.af,.af,.af,.af] 0)).next:=⟨_,rfl⟩
 obtain⟨s3,HR⟩:∃s3,s3=ah (ah (ah st (.cells (jQ zt zg zy zr xt xg xy xr) 0)) (.cells [.af,.af,.af,.af,.af] 0)) (.cells [.af,.af,.af,.af,.af] 0):=⟨_,rfl⟩
 have n1:st.next.toNat=p1.toNat:=by rw[kF]
 have n2:p2.toNat=p1.toNat+1:=by rw[HJ,bX,Pos.aH,kF]
 have n3:p3.toNat=p2.toNat+1:=by rw[hp3,bX,Pos.aH,HJ]
 have n4:s3.next.toNat=p3.toNat+1:=by rw[HR,bX,Pos.aH,hp3]
 have G3:Grew st s3:=by rw[HR];exact(g1.trans g2).trans g3
 have H1:s3.heap.get p1=some (.cells (jQ zt zg zy zr xt xg xy xr) 0):=by rw[HR,kF];exact g3.get (g2.get (aB _ _))
 have H2:s3.heap.get p2=some (.cells [.af,.af,.af,.af,.af] 0):=by rw[HR,HJ];exact g3.get (aB _ _)
 have H3:s3.heap.get p3=some (.cells [.af,.af,.af,.af,.af] 0):=by rw[HR,hp3];exact aB _ _
 have d13:p1≠p3:=λe=>by subst e;omega
 have d23:p2≠p3:=λe=>by subst e;omega
 have W3:=G3.wf
 obtain⟨sL,V1,r1,T1,e1⟩:=ap2 (c:=c) (x2:= .ptr p2 0) hc ht lt (zt:=zt) (zg:=zg) (zy:=zy) (zr:=zr) (xg:=xg) (xy:=xy) (xr:=xr) W3 H1 d13 (by omega) (by omega) (st:=st) (min xt.length 3) 0 s3 .af [] (by omega)
  ⟨⟨Mk.start hw G3,rfl,λi t r hi _=>by simp[sM]at hi⟩,KX.refl W3,H3,⟨λb e=>(nomatch e),λi r v b hr _ _=>by simp at hr⟩⟩
 have GL:=T1.tab.out.ai;have WL:=GL.wf;have lN:=T1.kx.next;have L1:=T1.kx.keep p1 _ d13 H1;have L2:=T1.kx.keep p2 _ d23 H2;have L3:=T1.h3;have mlen:(oh xt).length<=3:=by unfold oh;rw[Ui];omega
 obtain⟨m,hm⟩:∃m:Nat,m=min xg.length (kA xt (min xt.length 3)):=⟨_,rfl⟩
 have hmx:xg.take m=uV xt xg:=by rw[hm];rfl
 obtain⟨V2,V3,sR,r2,cR,R⟩:=au4 hc (xs:=uV xt xg) (bU:=xy) (λx hx=>hg x (Zj4 hx)) (by have:=List.length_take_le m xg;rw[hmx]at this;omega) hy (zg&&xg.isEmpty) zy sL WL;have GR:=GL.trans R.ai;have WR:=GR.wf;obtain⟨GSR,SR⟩:=R.gs hw GL;have rN:=R.ai.next;have gx:=Grew.ah WR (.cells [V2,V3] 0);obtain⟨sX,hsX⟩:∃sX,sX=ah sR (.cells [V2,V3] 0):=⟨_,rfl⟩
 have WX:Wf sX:=by rw[hsX];exact gx.wf
 have GX:Grew sR sX:=by rw[hsX];exact gx
 have X1:=GX.get (R.ai.get L1);have X2:=GX.get (R.ai.get L2);have X3:=GX.get (R.ai.get L3);have X8:sX.heap.get sR.next=some (.cells [V2,V3] 0):=by rw[hsX];exact aB _ _
 have n8:sR.next≠p3:=fun e=>by have:sR.next.toNat=p3.toNat:=by rw[e]
                               omega
 have lX:=WX _ _ X3;obtain⟨vc2,v2⟩:=R.out.cells;obtain⟨vc3,v3⟩:=R.ty.cells;have A3:∀(K:AV->St->Option (AV×St)),aq c (.store 1) [.ptr p3 (0+1),V2] sX K=K .undef (bn sX p3 (.cells [V1,V2,.af,.af,.af] 0)):=λK=>by rw[cH c K sX 1 p3 (0+1) V2 [V1,.af,.af,.af,.af] X3 (by rw[vc2];rfl) (by simp) (by rw[vc2];exact v2),vc2];rfl
 have Fy:∀(K:AV->St->Option (AV×St)),aq c (.store 1) [.ptr p3 (0+2),V3] (bn sX p3 (.cells [V1,V2,.af,.af,.af] 0)) K=K .undef (bn sX p3 (.cells [V1,V2,V3,.af,.af] 0)):=λK=>by rw[cH c K _ 1 p3 (0+2) V3 [V1,V2,.af,.af,.af] (bW _ _ _) (by rw[vc3];rfl) (by simp) (by rw[vc3];exact v3),vc3,Q7];rfl
 obtain⟨sB,hsB⟩:∃sB,sB=bn sX p3 (.cells [V1,V2,V3,.af,.af] 0):=⟨_,rfl⟩
 have kXB:KX p3 sX sB:=by rw[hsB];exact(KX.refl WX).store lX _
 have WB:=kXB.wf;have GB:Grew st sB:=by rw[hsB];exact yY hw (GR.trans GX) (by omega) lX _
 have kRB:KX p3 sR sB:=((KX.refl WR).ai GX).trans kXB;have kLB:KX p3 sL sB:=((KX.refl WL).ai R.ai).trans kRB;have B1:=kXB.keep p1 _ d13 X1;have B2:=kXB.keep p2 _ d23 X2;have B3:sB.heap.get p3=some (.cells [V1,V2,V3,.af,.af] 0):=by rw[hsB];exact bW _ _ _
 have lB:=WB _ _ B3;have sT1:TS.Since (p3.toNat+1) V1 r1:=T1.since.le (by omega);have sG2:GS.Since (p3.toNat+1) V2 r2:=SR.le (by omega);have TB:=T1.tab.kx kLB GB sT1;have GSB:=GSR.kx kRB GB sG2;have s3V:∀b,aR V3=some b->p3.toNat+1<=b.toNat:=λb hb=>by have:=R.ty.new b hb;omega
 have YB:=Mk.kx (R.ty.back hw GL) kRB GB s3V;have hgl:(nk xt xg).length<=12:=Ie _;have hgn:(nk xt xg).length<=xg.length:=by unfold nk gI;rw[MZ, <-hmx,Zf1];omega
 have l2:∀(K:AV->St->Option (AV×St))(s':St),aq c (.lenB .l) [V2] s' K=K (.int .i64 ((nk xt xg).length:Int)) s':=λK s'=>by rw[QS.lenB R.out.own,R.len];rfl
 have C0:LL st sB sB p3 1 .af ((Hg xg 0).map bH) (λA=>[V1,V2,V3,A,.af]):=⟨Mk.start hw GB,KX.refl WB,B3,λb e=>(nomatch e)⟩
 obtain⟨sC1,V41,C1,e2⟩:=anO (c:=c) (x2:= .ptr p2 0) hg (zt:=zt) (zg:=zg) (zy:=zy) (zr:=zr) (xt:=xt) (xy:=xy) (xr:=xr) (st:=st) (V1:=V1) (V3:=V3) hgn (by omega) WB B1 d13 lB (by omega) l2 (nk xt xg).length 0 sB .af (by omega) C0;have ld2:∀(K:AV->St->Option (AV×St)),aq c (.load none) [.ptr p1 (0+2)] sB K=K (ff .u8 zy xy) sB:=λK=>by rw[aO,B1];rfl
 have key:∃Vs s',nJ c 400 (.agg (jQ zt zg zy zr xt xg xy xr)) st=some (.agg Vs,s')/\∃fD,Go.Ai.tidy st (.agg Vs,s')=(.agg Vs,fD)/\PS st fD Vs (iw xt xg xy xr):=by
  obtain⟨Q,hQ⟩:∃Q:Option (AV×St)->Prop,Q=λo=>∃Vs s',o=some (.agg Vs,s')/\∃fD,Go.Ai.tidy st (.agg Vs,s')=(.agg Vs,fD)/\PS st fD Vs (iw xt xg xy xr):=⟨_,rfl⟩
  have aes:Q (nJ c 400 (.agg (jQ zt zg zy zr xt xg xy xr)) st)->∃Vs s',nJ c 400 (.agg (jQ zt zg zy zr xt xg xy xr)) st=some (.agg Vs,s')/\∃fD,Go.Ai.tidy st (.agg Vs,s')=(.agg Vs,fD)/\PS st fD Vs (iw xt xg xy xr):=λh=>by rw[hQ]at h;exact h
  apply aes;clear aes;have e1':∀(k2:List AV->St->Option (AV×St)),gL c 400 k2 400 [.ptr p1 0,.ptr p2 0,.ptr p3 0,.int .i64 0,.int .i64 0] s3=k2 [.ptr p1 0,.ptr p2 0,.ptr p3 0,.int .i64 (kA xt (min xt.length 3):Int)] sL:=λk2=>e1 400 k2 400 (by omega)
  have e2':∀(k4:List AV->St->Option (AV×St)),j9 c 400 k4 400 [.ptr p1 0,.ptr p2 0,.ptr p3 0,.int .i64 0] sB=k4 [.ptr p1 0,.ptr p2 0,.ptr p3 0] sC1:=λk4=>e2 400 k4 400 (by omega)
  have ra1:∀(K:AV->Option (AV×St)),jJ (.load none) [.ptr p1 (0+1)] sL.heap (λ_=>true) K=K (ff .u16 zg xg):=λK=>by rw[jZ,L1];rfl
  have ra2:∀(K:AV->Option (AV×St)),jJ (.load none) [.ptr p1 (0+2)] sL.heap (λ_=>true) K=K (ff .u8 zy xy):=λK=>by rw[jZ,L1];rfl
  have rb0:∀(K:AV->Option (AV×St)),jJ (.load none) [.ptr sR.next (0+0)] sX.heap (λ_=>true) K=K V2:=λK=>by rw[jZ,X8];rfl
  have rb1:=λ(K:AV->Option (AV×St))=>CI K (p:=sR.next) (o:=0+1) (h:=(bn sX p3 (.cells [V1,V2,.af,.af,.af] 0)).heap) (h2:=sX.heap) (v:=V3) (by rw[aM (λe=>n8 e.symm),X8];rfl) (by rw[X8];rfl) R.ty.own.beq
  have pm:∀(K:AV->Option (AV×St)),fq .minB [.int .i64 (xg.length:Int),.int .i64 (kA xt (min xt.length 3):Int)] K=K (.int .i64 (m:Int)):=λK=>by rw[dw K (λH n=>alp H n _ _ _ _),hm];congr 2;generalize kA xt (min xt.length 3)=a;omega
  have R5:∀(K:AV->St->Option (AV×St)),aq c (.store 2) [.ptr sR.next 0,.agg [V2,V3]] (ah sR (.cells [.af,.af] 0)) K=K .undef sX:=λK=>by
    rw[hsX];exact cq c K sR 2 (.agg [V2,V3]) [.af,.af] rfl rfl (by
        have a2:V2.one=true:=xw v2;have a3:V3.one=true:=xw v3;show aV [V2,V3]=true;simp only[aV,a2,a3])
  rw[Xf,di,show AV.cells (.agg (jQ zt zg zy zr xt xg xy xr))=jQ zt zg zy zr xt xg xy xr from rfl,bN,bN, <-HR, <-hp3, <-HJ, <-kF,au,au,e1',
    aD,aD,aD,aD,aX,bC,ra1,bC,ra1,ap9,dh,pm,ap8 _ _ _ _ (by omega),bC,ra2,hmx,bI,cR,bw,asM,R5,bC,rb0,bC,A3,bC,rb1,bC,Fy, <-hsB]
  refine yV (P:=λj=>∀sC V4,LL st sB sC p3 1 V4 ((kR xt xg xy).map bH) (λA=>[V1,V2,V3,A,.af])->Q (j [.ptr p1 0,.ptr p2 0,.ptr p3 0] sC)) ?_ ?_
  . intro sC V4 hC;have GC:=hC.out.ai;have WC:=GC.wf;have nC:=hC.kx.next;have C1':=hC.kx.keep p1 _ d13 B1;have C2':=hC.kx.keep p2 _ d23 B2;have TC:=TB.kx hC.kx GC sT1;have GSC:=GSB.kx hC.kx GC sG2;have YC:=Mk.kx YB hC.kx GC s3V
    obtain⟨sD,V5,D1,e3⟩:=anP (c:=c) (x2:= .ptr p2 0) hc hr lr (zt:=zt) (zg:=zg) (zy:=zy) (zr:=zr) (xt:=xt) (xg:=xg) (xy:=xy) (V3:=V3) (V4:=V4) WC C1' d13 (by omega) (by omega) TC sT1 GSC sG2 (show(oh xt).length<=1000 by omega) (show(nk xt xg).length<=1000 by omega) ap7 ai0 (min xr.length 12) 0 sC .af (by omega)
        ⟨Mk.start hw GC,KX.refl WC,hC.h3,λb e=>(nomatch e)⟩
    have e3':∀(k6:List AV->St->Option (AV×St)),ke c 400 k6 400 [.ptr p1 0,.ptr p2 0,.ptr p3 0,.int .i64 0] sC=k6 [.ptr p2 0,.ptr p3 0] sD:=λk6=>e3 400 k6 400 (by omega)
    have GD:=D1.out.ai;have WD:=GD.wf;have D2':=D1.kx.keep p2 _ d23 C2';have s4V:∀b,aR V4=some b->p3.toNat+1<=b.toNat:=λb hb=>by have:=hC.since b hb;omega
    have s5V:∀b,aR V5=some b->p3.toNat+1<=b.toNat:=λb hb=>by have:=D1.since b hb;omega
    have TD:=TC.kx D1.kx GD sT1;have GSD:=GSC.kx D1.kx GD sG2;have YD:=Mk.kx YC D1.kx GD s3V;have CD:=Mk.kx hC.out D1.kx GD s4V;have lD:=WD _ _ D2';have ld5:∀(K:AV->St->Option (AV×St)),aq c (.load (some 5)) [.ptr p3 0] sD K=K (.agg [V1,V2,V3,V4,V5]) sD:=λK=>by rw[cm,D1.h3];rfl
    have one5:aV [V1,V2,V3,V4,V5]=true:=by
        have a1:V1.one=true:=xw TD.out.cells.2;have a2:V2.one=true:=xw v2;have a3:V3.one=true:=xw v3;have a4:V4.one=true:=xw CD.cells.2;have a5:V5.one=true:=xw D1.out.cells.2;simp only[aV,a1,a2,a3,a4,a5,Zj2]
    have sto5:∀(K:AV->St->Option (AV×St)),aq c (.store 5) [.ptr p2 0,.agg [V1,V2,V3,V4,V5]] sD K=K .undef (bn sD p2 (.cells [V1,V2,V3,V4,V5] 0)):=λK=>by rw[cH c K _ 5 p2 0 (.agg [V1,V2,V3,V4,V5]) _ D2' rfl (by simp) one5];rfl
    have kE:KX p2 sD (bn sD p2 (.cells [V1,V2,V3,V4,V5] 0)):=(KX.refl WD).store lD _;have GE:=yY hw GD (show st.next.toNat<=p2.toNat by omega) lD (.cells [V1,V2,V3,V4,V5] 0);obtain⟨fD,t1,t2⟩:=PS.awI (p:=iw xt xg xy xr) (TD.kx kE GE (sT1.le (by omega))) (GSD.kx kE GE (sG2.le (by omega))) (Mk.kx YD kE GE λb hb=>by have:=s3V b hb;omega) (Mk.kx CD kE GE λb hb=>by have:=s4V b hb;omega) (Mk.kx D1.out kE GE λb hb=>by have:=s5V b hb;omega);have hfin:Q (some (.agg [V1,V2,V3,V4,V5],bn sD p2 (.cells [V1,V2,V3,V4,V5] 0))):=(by rw[hQ];exact⟨_,_,rfl,fD,t1,t2⟩);rw[aD,aD,aD,aX,au,e3',aD,aD,aX,ld5,sto5,To,bW];exact hfin
  . intro j hj;rw[aK,ld2,UI,dD (by omega) (by omega),nG];by_cases h4:0<xy.length % 4
    .   rw[Za0 (show(0:Int)<(xy.length:Int) % 4 by omega),cV,au,e2',aD,aD,aD,aX];refine hj sC1 V41 ?_;have:kR xt xg xy=Hg xg (nk xt xg).length:=(by unfold kR;rw[Zb4 h4]);rw[this];exact C1
    .   rw[Za2 (show ¬(0:Int)<(xy.length:Int) % 4 by omega),cE];refine hj sB .af ?_;have:kR xt xg xy=[]:=(by unfold kR;rw[Za7 h4]);rw[this];exact C0
 obtain⟨Vs,s',k1,fD,k2,k3⟩:=key;refine⟨Vs,fD,?_,k3⟩;rw[R7 hc 400 (r:=(.agg Vs,s')) k1,k2]
theorem Iv{P:Nat->Bool}:∀(m k i:Nat),k<=i->i<k+m->P i=true->0<=scan P m k
 |0,_,_,_,_,_=>by omega
 |m +   1,k,i,h1,h2,hp=>by
  unfold scan;split
  .omega
  . rename_i hk;exact Iv m (k+1) i (by
        rcases Zj3 k i with h|h
        .omega
        .obtain rfl:i=k:=(by omega);exact absurd hp hk) (by omega) hp
theorem aka{ts:List aC}(h1:∀t∈ts,sN t=0)(h2:∀(i j:Nat)(a b:aC),i<j->ts[i]? =some a->ts[j]? =some b->a.name≠b.name):∀m k,(iO ts m k).2=0
 |0,_=>rfl
 |m+    1,k=>by
  unfold iO;cases e:ts[k]? with
  |none=>rfl
  |some t=>
   have ht:sN t=0:=h1 t (Zc5 e);simp only;rw[Za7 (by simp[ht]),Za7]
   .    exact aka h1 h2 m (k+1)
   .    intro hs;obtain⟨_,aW,hp⟩:=B5 k 0 hs;generalize (scan (uZ ts t.name) k 0).toNat=i at*
        unfold uZ at hp;obtain⟨a,ha,hb⟩:=Zf5.1 (Zh7 hp);exact h2 i k a t (by omega) ha e hb
theorem akb{gs:List aS}(h1:∀g∈gs,j6 g=0)(h2:∀(i j:Nat)(a b:aS),i<j->gs[i]? =some a->gs[j]? =some b->a.name≠b.name)(hl:gs.length<=64):∀m k,(oU gs m k).2=0
 |0,_=>rfl
 |m+    1,k=>by
  unfold oU;cases e:gs[k]? with
  |none=>rfl
  |some t=>
   have ht:j6 t=0:=h1 t (Zc5 e);have hk:k<gs.length:=(Za1.1 e).1;simp only;rw[Za7 (by simp[ht]),Za7,Za7 (by omega)]
   .    exact akb h1 h2 hl m (k+1)
   .    intro hs;obtain⟨_,aW,hp⟩:=B5 k 0 hs;generalize (scan (nM gs t.name) k 0).toNat=i at*
        unfold nM at hp;obtain⟨a,ha,hb⟩:=Zf5.1 (Zh7 hp);exact h2 i k a t (by omega) ha e hb
theorem akc{gs:List aS}{ts:List Ty}(h:∀(k:Nat)(t:Ty),ts[k]? =some t->ahy t (pT ts k)=false/\r9 gs t=false/\wD t (pT ts k)=false/\k<256):∀m k,(j7 gs ts m k).2=0
 |0,_=>rfl
 |m+1,k=>by
  unfold j7;cases e:ts[k]? with
  |none=>rfl
  |some t=>
   obtain⟨a,b,d,f⟩:=h k t e;simp only;rw[Za7 (by simp[a]),Za7 (by simp[b]),Za7 (by simp[d]),Za7 (by omega)];exact akc h m (k+1)
theorem afF{l:List Nat}{n:Nat}(h:∀x∈l,x<n)(h0:0<n)(i:Nat):l.getD i 0<n:=by
 rw[Zb9];cases e:l[i]? with
 |none=>simpa using h0
 |some x=>simpa using h x (Zc5 e)
theorem tW{α:Type}{f:Nat->α}{k i:Nat}{t:α}(h:((List.range k).map f)[i]? =some t):i<k/\t=f i:=by
 have hi:i<k:=by simpa using(Za1.1 h).1
 rw[Zb3,Zh9 hi,Ze5,H5]at h;exact⟨hi,h.symm⟩
theorem avX:∀i<3,∀x<256,sN (kC i x)=0:=by decide+kernel
theorem aqa:∀x<256,bQ (kC 0 x)=((tN x:Nat):Int):=by decide+kernel
theorem aqb{xt:List Nat}(hx:∀x∈xt,x<256):(bZ (oh xt)).2=0:=by
 unfold bZ;rw[Za7 (by unfold oh;rw[Ui];omega)];refine aka (λt ht=> ?_) (λi j a b X4 ha hb e=> ?_) _ _
 .obtain⟨i,hi⟩:=Zf4.1 ht;obtain⟨h1,rfl⟩:=tW hi;exact avX i (by omega) _ (afF hx (by omega) i)
 .obtain⟨h1,rfl⟩:=tW ha;obtain⟨h2,rfl⟩:=tW hb;have e:fQ i=fQ j:=e;unfold fQ at e;simp only[Zf8,Zo0,Zs6]at e;omega
theorem anR(p:Prop)[Decidable p](i:Nat):Af (if p then bY i else [])=true:=by
 split
 .unfold Af;rw[afD];simp
 .rfl
theorem avY:∀a b d e:Bool,(RB none (((if a=true then [0]else [])++(if b=true then [1]else [])++(if d=true then [2]else [])++(if e=true then [3]else [])).map bY)=true/\(((if a=true then [0]else [])++(if b=true then [1]else [])++(if d=true then [2]else [])++(if e=true then [3]else [])).map bY:List (List Nat)).length<=4):=by decide+kernel
theorem ate(x:Nat):RB none (FK x 4)=true/\(FK x 4).length<=4:=by
 have e:FK x 4=(((if Nt x 0=true then [0]else [])++(if Nt x 1=true then [1]else [])++(if Nt x 2=true then [2]else [])++(if Nt x 3=true then [3]else [])).map bY):=by
  unfold FK;rw[show List.range 4=[0,1,2,3]from rfl];cases h0:Nt x 0<;>cases h1:Nt x 1<;>cases h2:Nt x 2<;>cases h3:Nt x 3<;>simp[h0,h1,h2,h3]
 rw[e];exact avY _ _ _ _
theorem avZ(i x:Nat):j6 (yZ i x)=0:=by
 have t:=ate x;have n:oN (yZ i x).name=true:=afD _;have a:Af (yZ i x).Au=true:=anR (x % 2=1) _;have b:Af (yZ i x).j5=true:=anR (4<x % 8) _;have d:Af (yZ i x).mY=true:=anR (x % 3=2) _;unfold j6;rw[Za7 (by rw[n,a,b,d];simp),Za7 (by show ¬ ¬(0<=((x % 4*500:Nat):Int)/\((x % 4*500:Nat):Int)<=9999);omega),
  Za7 (by show ¬ ¬(0<=((x % 3:Nat):Int)/\((x % 3:Nat):Int)<=2);omega),Za7 (by show ¬4<(FK x 4).length;omega),Za7 (by show ¬RB none (FK x 4)=false;rw[t.1];simp)]
theorem UJ{a b:Nat}(ha:a<676)(hb:b<676)(h:bY a=bY b):a=b:=by unfold bY at h;simp only[Zf8,Zo0]at h;omega
theorem Iw{a b:Nat}(ha:a<676)(hb:b<676):aU (bY a) (bY b)=decide (a<b):=by
 unfold bY;simp only[aU,Lv,dH];by_cases h1:97+a / 26 % 26<97+b / 26 % 26
 .rw[Za0 h1,Za0 (show a<b by omega)]
 . rw[  Za2 h1];by_cases h2:97+a / 26 % 26=97+b / 26 % 26
   . rw[Za0 h2];by_cases h3:97+a % 26<97+b % 26
     .  rw[Za0 h3,Za0 (show a<b by omega)]
     .  rw[Za2 h3,Za2 (show ¬a<b by omega)];simp only;split<;>rfl
   .rw[Za2 h2,Za2 (show ¬a<b by omega)]
theorem R8{i:Nat}(h:i<12):Hf i=25*i:=by
 have:∀i<12,Hf i=25*i:=by decide+kernel
 exact this i h
theorem au5(xs:List Nat):(oU (gI xs) 101 0).2=0:=by
 refine akb (λg hg=> ?_) (λi j a b X4 ha hb e=> ?_) (by have:=Ie xs;omega) _ _
 .obtain⟨i,hi⟩:=Zf4.1 hg;obtain⟨h1,rfl⟩:=tW hi;exact avZ _ _
 .obtain⟨h1,rfl⟩:=tW ha;obtain⟨h2,rfl⟩:=tW hb;have e:bY (Hf i)=bY (Hf j):=e;rw[R8 (by omega),R8 (by omega)]at e;have:=UJ (by omega) (by omega) e;omega
theorem CU{xs:List Nat}{a:Nat}(ha:a<676)(h:bY a∈nv (gI xs)):∃i,i<12/\a=25*i/\∃j,j<(gI xs).length/\nM (gI xs) (bY a) j=true:=by
 unfold nv at h;obtain⟨g,hg,e⟩:=Zc9.1 h;obtain⟨i,hi⟩:=Zf4.1 hg;have hl:=(Za1.1 hi).1;obtain⟨h1,rfl⟩:=tW hi;have e:bY (Hf i)=bY a:=e;have e2:=e;rw[R8 (by omega)]at e;have:=UJ (by omega) ha e;refine⟨i,by omega,this.symm,i,hl,?_⟩;unfold nM;rw[hi];exact Za0 (congrArg some e2)
def JC(p:Nat×Nat×Int):Ty:=⟨bY p.1,bY p.2.1,p.2.2⟩
def Nv(p:Nat×Nat×Int):Nat:=p.1*312+p.2.1
def TOk(names:List (List Nat))(ys:List Ty)(q:Nat):Prop:=
 ∃ps:List (Nat×Nat×Int),ys=ps.map JC/\(∀p∈ps,p.1<p.2.1/\p.2.1<312/\bY p.1∈names/\bY p.2.1∈names/\(p.2.2=1\/p.2.2=2)/\Nv p<q)/\ps.Pairwise λa b=>Nv a<Nv b
theorem TOk.up{names:List (List Nat)}{ys:List Ty}{q q':Nat}(h:TOk names ys q)(hq:q<=q'):TOk names ys q':=by
 obtain⟨ps,e,h1,h2⟩:=h;exact⟨ps,e,λp hp=>by obtain⟨a,b,d,f,g,i⟩:=h1 p hp;exact⟨a,b,d,f,g,by omega⟩,h2⟩
theorem TOk.next{names:List (List Nat)}{bU:List Nat}{ys:List Ty}{i k n:Nat}(h:TOk names ys (i*312+k))(hk:k<312)(Fv:i<k)(hi:bY i∈names)(ux:bY k∈names):TOk names (Hh bU i k n ys) (i*312+(k+1)):=by
 unfold Hh;split
 . rename_i hc;obtain⟨ps,e,h1,h2⟩:=h;unfold aj8 at hc;simp only[Zb7,Ze8]at hc;refine⟨ps++[(i,k,1+((bU.getD n 0 % 4:Nat):Int))],by rw[Zc8,e];rfl,λp hp=> ?_,?_⟩
   . rcases Ze0.1 hp with hp|hp
     .  obtain⟨a,b,d,f,g,j⟩:=h1 p hp;exact⟨a,b,d,f,g,by omega⟩
     .  simp only[Za9,Zc6,Zf3]at hp;subst hp;exact⟨Fv,hk,hi,ux,by show 1+((bU.getD n 0 % 4:Nat):Int)=1\/1+((bU.getD n 0 % 4:Nat):Int)=2;omega,by show i*312+k<_;omega⟩
   .rw[List.pairwise_append];refine⟨h2,List.pairwise_singleton _ _,λa ha b hb=> ?_⟩;simp only[Za9,Zc6,Zf3]at hb;subst hb;exact(h1 a ha).2.2.2.2.2
 .exact h.up (by omega)
theorem ac0{names:List (List Nat)}{bU:List Nat}{i:Nat}:∀(m k n:Nat)(ys:List Ty),k+m<=312->i<k->TOk names ys (i*312+k)->TOk names (ny names bU i m k n ys).2 (i*312+312)
 |0,k,n,ys,h1,_,h=>by unfold ny;exact h.up (by omega)
 |m +   1,k,n,ys,h1,h2,h=>by
  unfold ny;split
  . rename_i hi;split
    .   rename_i hk;exact ac0 m (k+1) (n+1) _ (by omega) (by omega) (h.next (by omega) h2 hi hk)
    .   exact ac0 m (k+1) n ys (by omega) (by omega) (h.up (by omega))
  .exact h.up (by omega)
theorem agC{names:List (List Nat)}{bU:List Nat}:∀(m i n:Nat)(ys:List Ty),i+m=312->TOk names ys (i*312)->∃q,TOk names (Y0 names bU m i n ys) q
 |0,i,n,ys,_,h=>⟨_,h⟩
 |m+1,i,n,ys,h1,h=>by
  unfold Y0;exact agC m (i+1) _ _ (by omega) ((ac0 m (i+1) n ys (by omega) (by omega) (h.up (by omega))).up (by omega))
def rkN(i j:Nat):Nat:=i*(23 - i) / 2+(j - i - 1)
theorem av0:((List.range 12).all λi=>(List.range 12).all λj=>(List.range 12).all λa=>(List.range 12).all λb=> !(decide (i<j)&&decide (a<b)&&(decide (i<a)||(decide (i=a)&&decide (j<b))))||decide (rkN i j<rkN a b))=true:=by decide+kernel
theorem awJ(i:Nat)(hi:i<12)(j:Nat)(hj:j<12)(a:Nat)(ha:a<12)(b:Nat)(hb:b<12)(h1:i<j)(h2:a<b)(h3:i<a\/i=a/\j<b):rkN i j<rkN a b:=by
 have h:=Zh4.1 (Zh4.1 (Zh4.1 (Zh4.1 av0 i (Zi0.2 hi)) j (Zi0.2 hj)) a (Zi0.2 ha)) b (Zi0.2 hb);have d3:(decide (i<a)||(decide (i=a)&&decide (j<b)))=true:=by
  rcases h3 with h3|⟨h3,h4⟩
  .rw[Za0 h3];rfl
  .rw[Za0 h3,Za0 h4];simp
 rw[Za0 h1,Za0 h2,d3]at h;simpa using h
theorem awK:∀i<12,∀j<12,i<j->rkN i j<66:=by decide+kernel
theorem aqc{N:Nat}:∀{l:List Nat}{k:Nat},l.Pairwise (· < ·)->(∀x∈l,k<=x/\x<N)->l.length<=N - k
 |[],_,_,_=>by simp
 |x::l,k,h,hk=>by
  obtain⟨h1,h2⟩:=List.pairwise_cons.1 h;have hx:=hk x (by simp);have:=aqc (k:=x+1) h2 λy hy=>⟨h1 y hy,(hk y (Zb0 _ hy)).2⟩
  simp only[Zc7];omega
theorem agf(xs bU:List Nat):(DQ xs bU).length<=66/\(j7 (gI xs) (DQ xs bU) 101 0).2=0:=by
 obtain⟨q,ps,e,h1,h2⟩:=agC (names:=nv (gI xs)) (bU:=bU) 312 0 0 [] rfl ⟨[],rfl,λp hp=>by simp at hp,List.Pairwise.nil⟩;have e:DQ xs bU=ps.map JC:=e;have hlen:ps.length<=66:=by
   have:=aqc (N:=66) (k:=0) (l:=ps.map λp=>rkN (p.1 / 25) (p.2.1 / 25)) (by
     rw[List.pairwise_map];refine List.Pairwise.imp_of_mem (λ{a b} ha hb hab=> ?_) h2;obtain⟨a1,a2,a3,a4,_⟩:=h1 a ha;obtain⟨b1,b2,b3,b4,_⟩:=h1 b hb;obtain⟨i,hi,e1,_⟩:=CU (by omega) a3;obtain⟨j,hj,e2,_⟩:=CU (by omega) a4;obtain⟨i',hi',e3,_⟩:=CU (by omega) b3;obtain⟨j',Ms,e4,_⟩:=CU (by omega) b4;unfold Nv at hab;exact awJ _ (by omega) _ (by omega) _ (by omega) _ (by omega) (by omega) (by omega) (by omega)) (λx hx=>by
     obtain⟨p,hp,rfl⟩:=Zc9.1 hx;obtain⟨a1,a2,a3,a4,_⟩:=h1 p hp;obtain⟨i,hi,e1,_⟩:=CU (by omega) a3;obtain⟨j,hj,e2,_⟩:=CU (by omega) a4;exact⟨Zi6 _,awK _ (by omega) _ (by omega) (by omega)⟩)
   simpa using this
 refine⟨by rw[e,Za3];exact hlen,akc (λk t ht=> ?_) 101 0⟩;rw[e,Zb3]at ht;obtain⟨p,hp,rfl⟩:=Zf5.1 ht;have hk:k<ps.length:=(Za1.1 hp).1;obtain⟨a1,a2,a3,a4,a5,_⟩:=h1 p (Zc5 hp);have kn:knd (JC p)=true:=by unfold knd JC;rcases a5 with h|h<;>simp[h]
 have ls:aU (JC p).a (JC p).b=true:=(Iw (by omega) (by omega)).trans (Za0 a1);have prev:∀u,pT (DQ xs bU) k=some u->fT (JC p) u=false/\fT u (JC p)=true:=λu hu=>by
   unfold pT at hu;by_cases h0:k=0
   .rw[Zb4 h0]at hu;cases hu
   rw[Za7 h0,e,Zb3]at hu;obtain⟨r,hr,rfl⟩:=Zf5.1 hu;obtain⟨b1,b2,b3,b4,b5,_⟩:=h1 r (Zc5 hr);have lt:Nv r<Nv p:=by
     have hr1:=(Za1.1 hr)
     have kF:=(Za1.1 hp)
     obtain⟨w1,YT⟩:=hr1;obtain⟨w2,HJ⟩:=kF;rw[<-YT, <-HJ];exact List.pairwise_iff_getElem.1 h2 (k - 1) k w1 w2 (by omega)
   unfold Nv at lt;unfold fT JC;simp only;rw[Iw (by omega) (by omega),Iw (by omega) (by omega),Iw (by omega) (by omega),Iw (by omega) (by omega)];by_cases hq:r.1=p.1
   .rw[hq,Za2 (show ¬p.1<p.1 by omega),Za2 (show ¬p.2.1<r.2.1 by omega),Za0 (show r.2.1<p.2.1 by omega)];simp
   .rw[Za2 (show ¬p.1<r.1 by omega),Za0 (show r.1<p.1 by omega),Za2 (show ¬bY p.1=bY r.1 from λh=>hq (UJ (by omega) (by omega) h).symm)];simp
 have unk:r9 (gI xs) (JC p)=false:=by obtain⟨_,_,_,i,hi,g1⟩:=CU (by omega) a3;obtain⟨_,_,_,j,hj,g2⟩:=CU (by omega) a4;have s1:=Iv (gI xs).length 0 i (by omega) (by omega) g1;have s2:=Iv (gI xs).length 0 j (by omega) (by omega) g2;unfold r9;rw[Za2 (show ¬scan (nM (gI xs) (JC p).a) (gI xs).length 0<0 from λh=>by have h:scan (nM (gI xs) (bY p.1)) (gI xs).length 0<0:=h;omega),Za2 (show ¬scan (nM (gI xs) (JC p).b) (gI xs).length 0<0 from λh=>by have h:scan (nM (gI xs) (bY p.2.1)) (gI xs).length 0<0:=h;omega)];rfl
 refine⟨?_,unk,?_,by omega⟩
 . unfold ahy;rw[kn,ls];cases hv:pT (DQ xs bU) k with
   |none=>rfl
   |some u=>simp[(prev u hv).1]
 . unfold wD;cases hv:pT (DQ xs bU) k with
   |none=>rfl
   |some u=>simp[(prev u hv).2]
theorem aqd(xs bU:List Nat):(ey (gI xs) (DQ xs bU)).2=0:=by unfold ey;rw[Za7 (by rw[au5];simp)];exact(agf xs bU).2
theorem Yw{xt:List Nat}(hx:∀x∈xt,x<256):∀k,k<=3->bg (sM xt k)=((kA xt k:Nat):Int)
 |0,_=>rfl
 |k+1,h=>by
  have ih:=Yw hx k (by omega);have e:sM xt (k+1)=sM xt k++[kC k (xt.getD k 0)]:=by unfold sM;rw[Zf9,Zc8];rfl
  have z:bQ (kC k (xt.getD k 0))=((tN (xt.getD k 0):Nat):Int):=aqa _ (afF hx (by omega) k);rw[e];unfold bg at ih ⊢;rw[Zc8,Zs3,ih];simp only[Zd1,Zg9,Zp4,List.sum_nil,z];have e2:kA xt (k+1)=kA xt k+tN (xt.getD k 0):=rfl;omega
theorem ad0{xt xg xy:List Nat}(hx:∀x∈xt,x<256)(z1 z2 z3 z4 z5:Bool)(rs:List Rl):(iI ⟨z1,oh xt,z2,nk xt xg,z3,ap5 xt xg xy,z4,kR xt xg xy,z5,rs⟩).2=0:=by
 unfold iI;rw[Za7 (by show ¬(bZ (oh xt)).2≠0;rw[aqb hx];simp),Za7 (by show ¬(ey (gI (uV xt xg)) (DQ (uV xt xg) xy)).2≠0;rw[aqd];simp)];rw[Za7 (by
  show ¬((kR xt xg xy).length≠0/\(kR xt xg xy).length≠(nk xt xg).length);unfold kR;split
  .rw[GJ];simp
  .simp),Za7 (by
  show ¬zW (kR xt xg xy)=false;rw[   show zW (kR xt xg xy)=true from by
    unfold zW kR;rw[Zh4];intro y hy;split at hy
    .   unfold Hg at hy;obtain⟨i,_,rfl⟩:=Zc9.1 hy;rw[Zb7];exact⟨Za0 (by omega),Za0 (by omega)⟩
    .   simp at hy]
  simp),Za7]
 show ¬bg (oh xt)<((nk xt xg).length:Int)
 unfold oh nk gI;rw[MZ,Yw hx _ (by omega)];unfold uV;rw[Zf1];omega
theorem aqe{p:bE}{a:Nat}(ha:a<p.gs.length):¬gi p (pz p.gs a)<0:=by have:=Iv (P:=nM p.gs (pz p.gs a)) p.gs.length 0 a (by omega) (by omega) (by unfold nM pz;rw[H0 ha];simp);unfold gi;omega
theorem av1{p:bE}(hd:∀(i j:Nat)(a b:aC),i<j->p.ts[i]? =some a->p.ts[j]? =some b->a.name≠b.name){t:Nat}(ht:t<p.ts.length):ti p (zn p.ts t)=(t:Int):=by
 have h0:=Iv (P:=uZ p.ts (zn p.ts t)) p.ts.length 0 t (by omega) (by omega) (by unfold uZ zn;rw[H0 ht];simp);obtain⟨_,h1,h2⟩:=B5 p.ts.length 0 h0;unfold ti;generalize scan (uZ p.ts (zn p.ts t)) p.ts.length 0=k at*
 unfold uZ zn at h2;rw[H0 ht]at h2;obtain⟨u,hu,e⟩:=Zf5.1 (Zh7 h2);rcases Nat.lt_trichotomy k.toNat t with h|h|h
 .exact absurd e (hd _ _ _ _ h hu (H0 ht))
 .omega
 .exact absurd e.symm (hd _ _ _ _ h (H0 ht) hu)
theorem ao4{p:bE}(hg:∀g∈p.gs,g.mY=[]\/oN g.mY=true)(hgd:∀(i j:Nat)(a b:aS),i<j->p.gs[i]? =some a->p.gs[j]? =some b->a.name≠b.name)(htd:∀(i j:Nat)(a b:aC),i<j->p.ts[i]? =some a->p.ts[j]? =some b->a.name≠b.name)
   (uO:∀t∈p.ts,bQ t=nY t.sh t.a t.b/\0<bQ t) (x:Nat) (h:(iz p.ts p.gs x).2=true):nX p (iz p.ts p.gs x).1=0:=by
 unfold iz at h ⊢;by_cases h0:p.gs.length=0\/p.ts.length=0
 .rw[Zb4 h0]at h;cases h
 rw[Za7 h0]at h ⊢;have hw:(YW (x / 18))<=7:=by unfold YW;split<;>omega
 have ha:x / 18 / 5 % p.gs.length<p.gs.length:=Zk6 _ (by omega);have hb:x / 18 / 5 / p.gs.length % p.gs.length<p.gs.length:=Zk6 _ (by omega);have fR:x / 18 / 5 / 7 % p.ts.length<p.ts.length:=Zk6 _ (by omega);have hn:x / 18 / 5 / 11 % 4<4:=Zk6 _ (by omega);have k1:1<=1+x % 18:=by omega
 have k2:1+x % 18<=18:=by omega
 generalize 1+x % 18=k at*
 generalize YW (x / 18)=w at*
 generalize x / 18 / 5=z at*
 generalize z % p.gs.length=a at*
 generalize z / p.gs.length % p.gs.length=b at*
 generalize z / 7 % p.ts.length=t at*
 generalize z / 11 % 4=n at*
 have g1:=aqe ha;have g2:=aqe hb;have g3:Iu p.gs a=[]\/oN (Iu p.gs a)=true:=by unfold Iu;rw[H0 ha];exact hg _ (Zb8 ha)
 have g4:=av1 htd fR;have g5:CS p.ts t=Aw p ((t:Nat):Int)/\0<CS p.ts t:=by have:=uO _ (Zb8 fR);unfold CS Aw;rw[Zd4,H0 fR];simp only;omega
 have g6:0<=((z / 13:Nat):Int) % CS p.ts t/\((z / 13:Nat):Int) % CS p.ts t<=CS p.ts t - 1:=⟨Zs4 _ (by omega),by have:=Zq9 ((z / 13:Nat):Int) g5.2;omega⟩
 have g7:a≠b->pz p.gs a≠pz p.gs b:=λhab e=>by
   unfold pz at e;rw[H0 ha,H0 hb]at e;rcases Nat.lt_or_gt_of_ne hab with h|h
   .exact hgd _ _ _ _ h (H0 ha) (H0 hb) e
   .exact hgd _ _ _ _ h (H0 hb) (H0 ha) e.symm
 clear hg ha hb fR h0 hgd htd uO;obtain⟨g5,_⟩:=g5;rw[g5]at g6;rcases Gu k1 k2 with rfl|rfl|rfl|rfl|rfl|rfl|rfl|rfl|rfl|rfl|rfl|rfl|rfl|rfl|rfl|rfl|rfl|rfl
 all_goals
   unfold Ul at h ⊢;unfold nX T9 MV afa aaa B4;simp[kd]at h ⊢
   first
   |done
   |omega
   |(simp[*];done)
   |(simp[*];omega)
   |grind
theorem acH{ts:List aC}{gs:List aS}{xr:List Nat}:∀{k:Nat}{r:Rl},r∈B6 ts gs xr k->∃x,(iz ts gs x).2=true/\r=(iz ts gs x).1
 |0,_,h=>by cases h
 |k +   1,r,h=>by
  unfold B6 at h;rcases Ze0.1 h with h|h
  .exact acH h
  . split at h
    .   rename_i e;simp only[Za9,Zc6,Zf3]at h;exact⟨_,e,h⟩
    .   cases h
theorem Yz{p:bE}(h:∀r∈p.rs,nX p r=0)(hl:p.rs.length<=64):∀m i,(oo p m i).2=0
 |0,_=>rfl
 |m+1,i=>by
  unfold oo;cases e:p.rs[i]? with
  |none=>rfl
  |some r=>
   have:=(Za1.1 e).1;simp only;rw[Za7 (by rw[h r (Zc5 e)];simp),Za7 (by omega)];exact Yz h hl m (i+1)
theorem UK{xt:List Nat}{i:Nat}{t:aC}(h:(oh xt)[i]? =some t):i<3/\t=kC i (xt.getD i 0):=by
 obtain⟨h1,h2⟩:=tW h;exact⟨by omega,h2⟩
theorem OQ{xs:List Nat}{i:Nat}{g:aS}(h:(gI xs)[i]? =some g):i<12/\g=yZ i (xs.getD i 0):=by
 obtain⟨h1,h2⟩:=tW h;exact⟨by omega,h2⟩
theorem Yv{xt:List Nat}:∀(i j:Nat)(a b:aC),i<j->(oh xt)[i]? =some a->(oh xt)[j]? =some b->a.name≠b.name:=λi j a b X4 ha hb e=>by obtain⟨h1,rfl⟩:=UK ha;obtain⟨h2,rfl⟩:=UK hb;have e:fQ i=fQ j:=e;unfold fQ at e;simp only[Zf8,Zo0,Zs6]at e;omega
theorem Yu{xs:List Nat}:∀(i j:Nat)(a b:aS),i<j->(gI xs)[i]? =some a->(gI xs)[j]? =some b->a.name≠b.name:=λi j a b X4 ha hb e=>by obtain⟨h1,rfl⟩:=OQ ha;obtain⟨h2,rfl⟩:=OQ hb;have e:bY (Hf i)=bY (Hf j):=e;rw[R8 (by omega),R8 (by omega)]at e;have:=UJ (by omega) (by omega) e;omega
theorem agi{xs:List Nat}:∀g∈gI xs,g.mY=[]\/oN g.mY=true:=λg hg=>by
 obtain⟨i,hi⟩:=Zf4.1 hg;obtain⟨_,rfl⟩:=OQ hi;show(if(xs.getD i 0) % 3=2 then bY ((xs.getD i 0) % 5)else [])=[]\/oN (if(xs.getD i 0) % 3=2 then bY ((xs.getD i 0) % 5)else [])=true;split
 .exact .inr (afD _)
 .exact .inl rfl
theorem P0{xt:List Nat}(hx:∀x∈xt,x<256):∀t∈oh xt,bQ t=nY t.sh t.a t.b/\0<bQ t:=λt ht=>by
 obtain⟨i,hi⟩:=Zf4.1 ht;obtain⟨h1,rfl⟩:=UK hi;have aW:=afF hx (by omega) i;have z:bQ (kC i (xt.getD i 0))=((tN (xt.getD i 0):Nat):Int):=aqa _ aW;have e:nY (kC i (xt.getD i 0)).sh (kC i (xt.getD i 0)).a (kC i (xt.getD i 0)).b=((tN (xt.getD i 0):Nat):Int):=aam _;have h1:=ap6 (xt.getD i 0);exact⟨by rw[z,e],by rw[z];omega⟩
theorem adW{xt xg xy xr:List Nat}(hx:∀x∈xt,x<256):(eD (iw xt xg xy xr)).2=0:=by
 unfold eD;have hb:(iI (iw xt xg xy xr)).2=0:=ad0 hx _ _ _ _ _ _;rw[Za7 (by rw[hb];simp)];refine Yz (λr hr=> ?_) ?_ _ _
 .obtain⟨x,h1,rfl⟩:=acH hr;exact ao4 (p:=iw xt xg xy xr) agi Yu Yv (P0 hx) x h1
 .have:=Uj (oh xt) (nk xt xg) xr (min xr.length 12);show(B6 _ _ _ _).length<=64;omega
end
end Go.Proofs.YtgihekklfnjkiaaGreatDoor
