/- A valid problem out of numbers. -/
import Derived.Test.YtmldijpopgaaeaaGreatDoorSPlainC
set_option linter.all false
set_option maxRecDepth 100000
set_option maxHeartbeats 4000000
namespace Go.Proofs.YtmldijpopgaaeaaGreatDoor
section
open Go Go.Ai Go.Proofs
variable{c:aj}
def fL(i:Nat):List Nat:=[116,97+i % 26]
def bQ(i:Nat):List Nat:=[97+i / 26 % 26,97+i % 26]
theorem asA(hc:bw c)(i:Nat)(hi:i<1000000)(st:St)(hw:Wf st):c 68 [.int .i64 (i:Int)] st=some (.str (fL i),st):=by
 have hg:=Grew.ah hw (.cells [.int .u8 116,.int .u8 (97+(i:Int) % 26)] 0);rw[RY hc 1 (r:=(.str (fL i),ah st (.cells [.int .u8 116,.int .u8 (97+(i:Int) % 26)] 0))),aB (Plain.str _) hg.keeps];rw[WQ];have w1:ax .i64 (97+(i:Int) % 26)=97+(i:Int) % 26:=wrap64 (by omega) (by omega);have w2:ax .u8 (97+(i:Int) % 26)=97+(i:Int) % 26:=HN (by omega) (by omega);have r1:=λ(s:St)(K:AV->St->Option (AV×St))=>di (c:=c) (k:= .i64) (a:=(i:Int)) (b:=26) (by omega) (by omega) s K
 have two:=λ(s:St)(K:AV->St->Option (AV×St))=>ain (c:=c) (x:=116) (y:=97+(i:Int) % 26) 116 (97+i % 26) rfl (by omega) (by omega) (by omega) s K
 simp[-au,r1,CV,w1,w2,two,fL]
theorem An(hc:bw c)(i:Nat)(hi:i<1000000)(st:St)(hw:Wf st):c 69 [.int .i64 (i:Int)] st=some (.str (bQ i),st):=by
 have hg:=Grew.ah hw (.cells [.int .u8 (97+(i:Int) / 26 % 26),.int .u8 (97+(i:Int) % 26)] 0);rw[Ob hc 1 (r:=(.str (bQ i),ah st (.cells [.int .u8 (97+(i:Int) / 26 % 26),.int .u8 (97+(i:Int) % 26)] 0))),aB (Plain.str _) hg.keeps];rw[RZ];have w1:ax .i64 (97+(i:Int) % 26)=97+(i:Int) % 26:=wrap64 (by omega) (by omega);have w2:ax .u8 (97+(i:Int) % 26)=97+(i:Int) % 26:=HN (by omega) (by omega);have w3:ax .i64 (97+(i:Int) / 26 % 26)=97+(i:Int) / 26 % 26:=wrap64 (by omega) (by omega);have w4:ax .u8 (97+(i:Int) / 26 % 26)=97+(i:Int) / 26 % 26:=HN (by omega) (by omega);have r1:=λ(s:St)(K:AV->St->Option (AV×St))=>di (c:=c) (k:= .i64) (a:=(i:Int)) (b:=26) (by omega) (by omega) s K
 have r2:=λ(s:St)(K:AV->St->Option (AV×St))=>iL (c:=c) (a:=(i:Int)) (b:=26) (by omega) (by omega) (by omega) s K
 have r3:=λ(s:St)(K:AV->St->Option (AV×St))=>di (c:=c) (k:= .i64) (a:=(i:Int) / 26) (b:=26) (by omega) (by omega) s K
 have two:=λ(s:St)(K:AV->St->Option (AV×St))=>ain (c:=c) (x:=97+(i:Int) / 26 % 26) (y:=97+(i:Int) % 26) (97+i / 26 % 26) (97+i % 26) (by omega) (by omega) (by omega) (by omega) s K
 simp[-au,r1,r2,r3,CV,w1,w2,w3,w4,two,bQ]
def n7(sh a b:Int):Int:=if sh=2 then 2*a+b else if sh=3 then a+2*b else a
theorem MJ(hc:bw c){l:List AV}{sh a b:Int}(h1:l[1]? =some (.int .u8 sh))(h2:l[2]? =some (.int .i64 a))(h3:l[3]? =some (.int .i64 b))(ha:0<=a/\a<=1000000)(hb:0<=b/\b<=1000000)(st:St)(hw:Wf st):
   c 38 [.agg l] st=some (.int .i64 (n7 sh a b),st):=by
 have hg:=Grew.ah hw (.cells l 0);have p1:=aA st (.cells l 0);rw[R4 hc 1 (r:=(.int .i64 (n7 sh a b),ah st (.cells l 0))),aB (Plain.int _ _) hg.keeps];rw[WS];have w1:ax .i64 (2*a)=2*a:=wrap64 (by omega) (by omega);have w2:ax .i64 (2*b)=2*b:=wrap64 (by omega) (by omega);have w3:ax .i64 (2*a+b)=2*a+b:=wrap64 (by omega) (by omega);have w4:ax .i64 (a+2*b)=a+2*b:=wrap64 (by omega) (by omega);unfold n7;by_cases e2:sh=2
 .subst e2;simp[p1,h1,h2,h3,w1,w3]
 . by_cases e3:sh=3
   .subst e3;simp[p1,h1,h2,h3,w2,w4]
   .have d2:decide (sh=2)=false:=Za1 e2;have d3:decide (sh=3)=false:=Za1 e3;simp[p1,h1,h2,h3,e2,e3,d2,d3]
def afl(i:Nat):List AV:=[.int .i64 (i:Int)]
def vz:List AV:=[.str [],.int .u8 0,.int .i64 0,.int .i64 0,.af,.int .i64 0,.int .i64 0]
def ir(nm:List Nat)(sh a b:Int)(x:Nat)(v:AV):List AV:=[.str nm,.int .u8 sh,.int .i64 a,.int .i64 b,v,.int .i64 (x:Int),.int .i64 (255 - (x:Int))]
def acz(x i:Nat):Bool:=decide (x / 2 ^ i % 2=1)&&decide (0<x % 3)
theorem auX(x i:Nat):acz x i=(decide (x / 2 ^ i % 2=1)&&decide (0<x % 3)):=by rw[acz]
def El(x k:Nat):List Nat:=(List.range k).filter (acz x)
theorem agh(x k:Nat):El x (k+1)=El x k++(if acz x k=true then [k]else []):=by
 unfold El;rw[Zg4,Zk3];congr 1;cases h:acz x k with
 |true=>simp[h]
 |false=>simp[h]
theorem aiL(x k:Nat):(El x k).length<=k:=by have:=Zk1 (acz x) (List.range k);rw[Zr3]at this;exact this
structure TI(st s:St)(p4 p5:Pos)(nm:List Nat)(sh a b:Int)(x k:Nat)(v:AV):Prop where
 out:Mk 1 st s v ((El x k).map afl)
 h4:s.heap.get p4=some (.cells vz 0)
 h5:s.heap.get p5=some (.cells (ir nm sh a b x v) 0)
 n4:aL v≠some p4
 n5:aL v≠some p5
theorem anv(hc:bw c){nm:List Nat}{sh a b:Int}{x n:Nat}(ha:0<=a/\a<=1000000)(hb:0<=b/\b<=1000000)(hx:x<1000000)(hn:n7 sh a b=(n:Int))(hn64:n<=64){st:St}{p4 p5:Pos}(h4:st.next.toNat<=p4.toNat)(h5:st.next.toNat<=p5.toNat)(R5:p4≠p5)
  (F:Nat) (k3):∀(m k:Nat)(s:St)(v:AV),TI st s p4 p5 nm sh a b x k v->n<=k+m->k<=n->
  ∃s' v',TI st s' p4 p5 nm sh a b x n v'/\jF c F k3 (m+1) [.int .i64 (x:Int),.ptr p4 0,.ptr p5 0,.int .i64 (k:Int)] s=k3 [.ptr p4 0,.ptr p5 0] s':=by
 intro m;induction m with
 |zero=>
  intro k s v hT h1 h2;obtain rfl:k=n:=by omega
  refine⟨s,v,hT,?_⟩;have S:=MJ hc (l:=ir nm sh a b x v) rfl rfl rfl ha hb s hT.out.ai.wf;have cu:cut (ir nm sh a b x v) 0 7=some (ir nm sh a b x v):=cQ rfl;rw[hn]at S;rw[oc];simp[hT.h5,cu,S]
 |succ m ih=>
  intro k s v hT h1 h2;have hw:=hT.out.ai.wf;have S:=MJ hc (l:=ir nm sh a b x v) rfl rfl rfl ha hb s hw;have cu:cut (ir nm sh a b x v) 0 7=some (ir nm sh a b x v):=cQ rfl;rw[hn]at S;clear hn;by_cases h:k<n
  . have hx0:(0:Int)<=(x:Int):=Int.natCast_nonneg x;have w:ax .i64 ((k:Int)+1)=((k+1:Nat):Int):=wrap64 (by omega) (by omega);have sr:=λ(s:St)(K:AV->St->Option (AV×St))=>aim (c:=c) (a:=(x:Int)) (i:=k) (Zb2 h2 hn64) s K
    have p0:(0:Int)<=(x:Int) / 2 ^ k:=Zs2 hx0 (Int.le_of_lt (Int.pow_pos (by omega)));have r1:=λ(s:St)(K:AV->St->Option (AV×St))=>di (c:=c) (k:= .i64) (a:=(x:Int) / 2 ^ k) (b:=2) p0 (by decide) s K
    have r2:=λ(s:St)(K:AV->St->Option (AV×St))=>di (c:=c) (k:= .i64) (a:=(x:Int)) (b:=3) hx0 (by decide) s K
    have d1:decide ((x:Int) / 2 ^ k % 2=1)=decide (x / 2 ^ k % 2=1):=(by have:((x:Int) / 2 ^ k % 2=1)↔(x / 2 ^ k % 2=1):=(by rw[show((x:Int) / 2 ^ k % 2)=((x / 2 ^ k % 2:Nat):Int)by simp];omega);exact decide_eq_decide.2 this);have d2:decide (0<(x:Int) % 3)=decide (0<x % 3):=decide_eq_decide.2 (by omega);have c4:(ir nm sh a b x v)[4]? =some v:=rfl;have hl:decide ((k:Int)<(n:Int))=true:=Za0 (Int.ofNat_lt.2 h);have fin:=auX x k;cases hq:acz x k with
    |   true=>
        have hrl:((El x k).map afl).length<=64:=(by rw[Za4];have:=aiL x k;omega);obtain⟨s5,v5,a1,a2,a3,a4⟩:=hT.out.push (c:=c) (R:=AV×St) (bytes:=8) (z:=[.int .i64 0]) (x:= .int .i64 (k:Int)) rfl rfl rfl (by decide) (by omega) (by omega);have e:(El x (k+1)).map afl=(El x k).map afl++[(.int .i64 (k:Int):AV).cells]:=(by rw[agh,Zb6 hq,Zc8];rfl);rw[<-e]at a2;have y4:=a3 p4 _ hT.n4 hT.h4;have y5:=a3 p5 _ hT.n5 hT.h5;have l4:=hw p4 _ hT.h4;have l5:=hw p5 _ hT.h5;have b4:aL v5≠some p4:=λe=>by have:=a4 _ e;omega
        have b5:aL v5≠some p5:=λe=>by have:=a4 _ e;omega
        have hw5:=a2.ai.wf;have l5':=hw5 p5 _ y5;have M:=a2.store (p:=p5) (b:= .cells (ir nm sh a b x v5) 0) h5 l5' b5;obtain⟨vc,v1⟩:=a2.cells;have bE:∀(K:AV->St->Option (AV×St)),aq c (.store 1) [.ptr p5 4,v5] s5 K=K .undef (bh s5 p5 (.cells (ir nm sh a b x v5) 0)):=λK=>by rw[cm c K s5 1 p5 4 v5 (ir nm sh a b x v) y5 (by rw[vc];rfl) (by simp[ir]) (by rw[vc];exact v1),vc];rfl
        have T5:TI st (bh s5 p5 (.cells (ir nm sh a b x v5) 0)) p4 p5 nm sh a b x (k+1) v5:=⟨M,by rw[aJ (λe=>R5 e.symm)];exact y4,bH _ _ _,b4,b5⟩
        obtain⟨s',v',b1,b2⟩:=ih (k+1) _ v5 T5 (by omega) (by omega);refine⟨s',v',b1,?_⟩;rw[<-b2,oc];rw[fin,Zb1]at hq;simp[-au,hT.h5,cu,S,h,bR,sr,r1,r2,d1,d2,hq.1,hq.2,c4,a1,bE,w]
    |   false=>
        have e:(El x (k+1))=(El x k):=(by rw[agh,Za7 (by rw[hq];decide),Zd9]);obtain⟨s',v',b1,b2⟩:=ih (k+1) s v ⟨by rw[e];exact hT.out,hT.h4,hT.h5,hT.n4,hT.n5⟩ (by omega) (by omega);refine⟨s',v',b1,?_⟩;rw[<-b2,oc];rw[fin]at hq;cases g1:decide (x / 2 ^ k % 2=1)with
        |false=>simp[-au,hT.h5,cu,S,h,bR,sr,r1,r2,d1,d2,g1,c4,w]
        |true=>
         rw[g1,Zg9]at hq;simp[-au,hT.h5,cu,S,h,bR,sr,r1,r2,d1,d2,g1,hq,c4,w]
  .obtain rfl:k=n:=(by omega);refine⟨s,v,hT,?_⟩;rw[oc];simp[hT.h5,cu,S]
theorem mU(s:St)(cs:List AV)(o:Nat)(v:AV)(ho:o<cs.length)(h1:v.cells=[v])(h2:v.one=true)(K:AV->St->Option (AV×St)):aq c (.store 1) [.ptr s.next o,v] (ah s (.cells cs 0)) K=K .undef (ah s (.cells (cs.set o v) 0)):=by
 rw[cm c K (ah s (.cells cs 0)) 1 s.next o v cs (aA _ _) (by rw[h1];rfl) (by omega) (by rw[h1];simp[aQ,h2]),h1,Ae _ _ ho,ZN]
def pT(x:Nat):Nat:=1+x % 4
def tA(x:Nat):Nat:=if x % 4=0 then 1+x / 4 % 6 else if x % 4=1 then 1+x / 4 % 3 else if x % 4=2 then 1+x / 4 % 2 else 1+x / 4 % 5
def tB(x:Nat):Nat:=if x % 4=0 then 0 else if x % 4=1 then x / 4 / 3 % 3 else if x % 4=2 then 1+x / 4 / 2 % 2 else min (1+x / 4 % 5) (x / 4 / 5 % 4)
def tN(x:Nat):Nat:=if x % 4=1 then 2*tA x+tB x else if x % 4=2 then tA x+2*tB x else tA x
theorem ahi(x:Nat):tA x<=6:=by unfold tA;split<;>(try split)<;>(try split)<;>omega
theorem ahj(x:Nat):tB x<=3:=by unfold tB;split<;>(try split)<;>(try split)<;>omega
theorem adw(x:Nat):tN x<=16:=by have:=ahi x;have:=ahj x;unfold tN;split<;>(try split)<;>omega
theorem aab(x:Nat):n7 ((pT x:Nat):Int) ((tA x:Nat):Int) ((tB x:Nat):Int)=((tN x:Nat):Int):=by
 unfold n7 tN pT;by_cases h1:x % 4=1
 .rw[Zb6 (by omega),Zb6 h1];omega
 . by_cases h2:x % 4=2
   .rw[Za7 (by omega),Zb6 (by omega),Za7 h1,Zb6 h2];omega
   .rw[Za7 (by omega),Za7 (by omega),Za7 h1,Za7 h2]
theorem asB(hc:bw c)(i x:Nat)(hi:i<1000000)(hx:x<256)(st:St)(hw:Wf st):∃v s',c 37 [.int .i64 (i:Int),.int .i64 (x:Int)] st=some (.agg (ir (fL i) (pT x:Nat) (tA x:Nat) (tB x:Nat) x v),s')/\Mk 1 st s' v ((El x (tN x)).map afl):=by
 have cZ:Wf (ah st (.cells vz 0)):=bG hw;have g1:=Grew.ah hw (.cells vz 0);have W:=asA hc i hi (ah st (.cells vz 0)) cZ;have hA:=ahi x;have hB:=ahj x;have hN:=adw x;have g2:=Grew.ah cZ (.cells (ir (fL i) (pT x:Nat) (tA x:Nat) (tB x:Nat) x .af) 0);have x1:(ah (ah st (.cells vz 0)) (.cells (ir (fL i) (pT x:Nat) (tA x:Nat) (tB x:Nat) x .af) 0)).heap.get st.next=some (.cells vz 0):=g2.get (aA _ _);have x2:(ah (ah st (.cells vz 0)) (.cells (ir (fL i) (pT x:Nat) (tA x:Nat) (tB x:Nat) x .af) 0)).heap.get (ah st (.cells vz 0)).next=some (.cells (ir (fL i) (pT x:Nat) (tA x:Nat) (tB x:Nat) x .af) 0):=aA _ _;have n12:st.next≠(ah st (.cells vz 0)).next:=by rw[bP];exact Pos.ZO _
 have T0:TI st (ah (ah st (.cells vz 0)) (.cells (ir (fL i) (pT x:Nat) (tA x:Nat) (tB x:Nat) x .af) 0)) st.next (ah st (.cells vz 0)).next (fL i) (pT x:Nat) (tA x:Nat) (tB x:Nat) x 0 .af:=
   ⟨Mk.start hw (g1.trans g2),x1,x2,λe=>(nomatch e),λe=>(nomatch e)⟩
 obtain⟨s',v,hT,L⟩:=anv hc (n:=tN x) (by omega) (by omega) (by omega) (aab x) (by omega) (p4:=st.next) (p5:=(ah st (.cells vz 0)).next) (Za3 _) (by rw[bP,Pos.aF];omega) n12 (tN x+1)
   (λvs s96=>iw vs λx4 vs=>iw vs λx5 vs=>mO vs (aq c (.load (some 7)) [x5] s96 λx86 s97=>aq c (.store 7) [x4,x86] s97 λ_ s98=>ldr (some 7) x4 s98 λv99=>some (v99,s98))) (tN x) 0 (ah (ah st (.cells vz 0)) (.cells (ir (fL i) (pT x:Nat) (tA x:Nat) (tB x:Nat) x .af) 0)) .af T0 (by omega) (by omega)
 have M:=hT.out;obtain⟨vc,v1⟩:=M.cells;have one:aQ (ir (fL i) (pT x:Nat) (tA x:Nat) (tB x:Nat) x v)=true:=by
   simp only[aQ]at v1;unfold ir;simp only[aQ,AV.one,v1,Zk5,Zj4]at*
 have hcut:cut (ir (fL i) (pT x:Nat) (tA x:Nat) (tB x:Nat) x v) 0 7=some (ir (fL i) (pT x:Nat) (tA x:Nat) (tB x:Nat) x v):=cQ rfl;have Bj:∀(K:AV->St->Option (AV×St)),aq c (.store 7) [.ptr st.next 0,.agg (ir (fL i) (pT x:Nat) (tA x:Nat) (tB x:Nat) x v)] s' K=K .undef (bh s' st.next (.cells (ir (fL i) (pT x:Nat) (tA x:Nat) (tB x:Nat) x v) 0)):=λK=>by rw[cm c K s' 7 st.next 0 (.agg (ir (fL i) (pT x:Nat) (tA x:Nat) (tB x:Nat) x v)) _ hT.h4 rfl (by simp[vz]) one];rfl
 have M2:=M.store (p:=st.next) (b:= .cells (ir (fL i) (pT x:Nat) (tA x:Nat) (tB x:Nat) x v) 0) (Za3 _) (M.ai.wf _ _ hT.h4) hT.n4;have mem:v∈ir (fL i) (pT x:Nat) (tA x:Nat) (tB x:Nat) x v:=by simp[ir]
 have low:∀y∈fL i,y<256:=by intro y hy;simp[fL]at hy;omega
 obtain⟨fU,t1,_,t3⟩:=M2.Tu mem (λu hu=>by simp only[ir,Za8,Zc0,Ze9]at hu;rcases hu with rfl|rfl|rfl|rfl|rfl|rfl|rfl<;>first|exact dU.str low|exact dU.int _ _|exact M.inst);refine⟨v,fU,?_,t3⟩;rw[Qg hc (tN x+1) (r:=(.agg (ir (fL i) (pT x:Nat) (tA x:Nat) (tB x:Nat) x v),bh s' st.next (.cells (ir (fL i) (pT x:Nat) (tA x:Nat) (tB x:Nat) x v) 0))),t1];have L2:jF c (tN x+1) (λvs s96=>iw vs λx4 vs=>iw vs λx5 vs=>mO vs (aq c (.load (some 7)) [x5] s96 λx86 s97=>aq c (.store 7) [x4,x86] s97 λ_ s98=>ldr (some 7) x4 s98 λv99=>some (v99,s98))) (tN x+1) [.int .i64 (x:Int),.ptr st.next 0,.ptr (ah st (.cells vz 0)).next 0,.int .i64 0] (ah (ah st (.cells vz 0)) (.cells (ir (fL i) (pT x:Nat) (tA x:Nat) (tB x:Nat) x .af) 0))=some (.agg (ir (fL i) (pT x:Nat) (tA x:Nat) (tB x:Nat) x v),bh s' st.next (.cells (ir (fL i) (pT x:Nat) (tA x:Nat) (tB x:Nat) x v) 0)):=by
   rw[show(0:Int)=((0:Nat):Int)from rfl,L];simp[hT.h5,hcut,Bj]
 generalize hF:tN x+1=F at L2 ⊢;clear hF L hT M2 Bj T0 x1 x2 g2;have q1:=λ(s:St)(K:AV->St->Option (AV×St))=>di (c:=c) (k:= .i64) (a:=(x:Int)) (b:=4) (by omega) (by omega) s K
 have q2:=λ(s:St)(K:AV->St->Option (AV×St))=>iL (c:=c) (a:=(x:Int)) (b:=4) (by omega) (by omega) (by omega) s K
 have q3:=λ(n:Int)(hn:0<n)(s:St)(K:AV->St->Option (AV×St))=>di (c:=c) (k:= .i64) (a:=(x:Int) / 4) (b:=n) (by omega) hn s K
 have w1:ax .i64 (1+(x:Int) % 4)=1+(x:Int) % 4:=wrap64 (by omega) (by omega);have w2:ax .u8 (1+(x:Int) % 4)=1+(x:Int) % 4:=HN (by omega) (by omega);have w3:ax .i64 (255 - (x:Int))=255 - (x:Int):=wrap64 (by omega) (by omega);have al:∀(s:St)(K:AV->St->Option (AV×St)),aq c (.alloc [.str [],.int .u8 0,.int .i64 0,.int .i64 0,.af,.int .i64 0,.int .i64 0]) [] s K=K (.ptr s.next 0) (ah s (.cells vz 0)):=λs K=>rfl
 have bld:∀(nm:List Nat)(sh u y:Int)(s:St)(K:AV->St->Option (AV×St)),aq c (.build [.str [],.int .u8 0,.int .i64 0,.int .i64 0,.af,.int .i64 0,.int .i64 0] [(0,1),(1,1),(5,1),(6,1)]) [.str nm,.int .u8 sh,.int .i64 u,.int .i64 y] s K=K (.agg [.str nm,.int .u8 sh,.int .i64 0,.int .i64 0,.af,.int .i64 u,.int .i64 y]) s:=λnm sh u y s K=>rfl
 have R6:∀(nm:List Nat)(sh u y:Int)(s:St)(K:AV->St->Option (AV×St)),aq c (.store 7) [.ptr s.next 0,.agg [.str nm,.int .u8 sh,.int .i64 0,.int .i64 0,.af,.int .i64 u,.int .i64 y]] (ah s (.cells vz 0)) K=K .undef (ah s (.cells [.str nm,.int .u8 sh,.int .i64 0,.int .i64 0,.af,.int .i64 u,.int .i64 y] 0)):=λnm sh u y s K=>cr c K s 7 (.agg [.str nm,.int .u8 sh,.int .i64 0,.int .i64 0,.af,.int .i64 u,.int .i64 y]) vz rfl rfl rfl
 have anw:∀(nm:List Nat)(sh p q u y z:Int)(s:St)(K:AV->St->Option (AV×St)),aq c (.store 1) [.ptr s.next 2,.int .i64 z] (ah s (.cells [.str nm,.int .u8 sh,.int .i64 p,.int .i64 q,.af,.int .i64 u,.int .i64 y] 0)) K=K .undef (ah s (.cells [.str nm,.int .u8 sh,.int .i64 z,.int .i64 q,.af,.int .i64 u,.int .i64 y] 0)):=λnm sh p q u y z s K=>mU s _ 2 (.int .i64 z) (by simp) rfl rfl K
 have anx:∀(nm:List Nat)(sh p q u y z:Int)(s:St)(K:AV->St->Option (AV×St)),aq c (.store 1) [.ptr s.next 3,.int .i64 z] (ah s (.cells [.str nm,.int .u8 sh,.int .i64 p,.int .i64 q,.af,.int .i64 u,.int .i64 y] 0)) K=K .undef (ah s (.cells [.str nm,.int .u8 sh,.int .i64 p,.int .i64 z,.af,.int .i64 u,.int .i64 y] 0)):=λnm sh p q u y z s K=>mU s _ 3 (.int .i64 z) (by simp) rfl rfl K
 rw[Uz];simp only[al];generalize (ah st (.cells vz 0))=s1 at W cZ L2 n12;have a1:ax .i64 1=1:=rfl;have h4:x % 4=0\/x % 4=1\/x % 4=2\/x % 4=3:=by omega
 rcases h4 with h|h|h|h
 .have e4:(x:Int) % 4=0:=(by omega);have eS:((pT x:Nat):Int)=1:=(by unfold pT;omega);have eA:((tA x:Nat):Int)=1+(x:Int) / 4 % 6:=(by unfold tA;rw[Zb6 h];omega);have eB:((tB x:Nat):Int)=0:=(by unfold tB;rw[Zb6 h];rfl);simp only[ir,eS,eA,eB]at L2 ⊢;simp (disch:=omega) [-au,-iF,-oP,-iq,bld,R6,anw,anx,W,di,iL,e4,CV,wrap64,HN,bR,Za5,L2]
 .have e4:(x:Int) % 4=1:=(by omega);have eS:((pT x:Nat):Int)=2:=(by unfold pT;omega);have eA:((tA x:Nat):Int)=1+(x:Int) / 4 % 3:=(by unfold tA;rw[Za7 (by omega),Zb6 h];omega);have eB:((tB x:Nat):Int)=(x:Int) / 4 / 3 % 3:=(by unfold tB;rw[Za7 (by omega),Zb6 h];omega);simp only[ir,eS,eA,eB]at L2 ⊢;simp (disch:=omega) [-au,-iF,-oP,-iq,bld,R6,anw,anx,W,di,iL,e4,CV,wrap64,HN,bR,Za5,L2]
 .have e4:(x:Int) % 4=2:=(by omega);have eS:((pT x:Nat):Int)=3:=(by unfold pT;omega);have eA:((tA x:Nat):Int)=1+(x:Int) / 4 % 2:=(by unfold tA;rw[Za7 (by omega),Za7 (by omega),Zb6 h];omega);have eB:((tB x:Nat):Int)=1+(x:Int) / 4 / 2 % 2:=(by unfold tB;rw[Za7 (by omega),Za7 (by omega),Zb6 h];omega);simp only[ir,eS,eA,eB]at L2 ⊢;simp (disch:=omega) [-au,-iF,-oP,-iq,bld,R6,anw,anx,W,di,iL,e4,CV,wrap64,HN,bR,Za5,L2]
 . have e4:(x:Int) % 4=3:=(by omega);have eS:((pT x:Nat):Int)=4:=(by unfold pT;omega);have eA:((tA x:Nat):Int)=1+(x:Int) / 4 % 5:=(by unfold tA;rw[Za7 (by omega),Za7 (by omega),Za7 (by omega)];omega);obtain⟨mb,hmb⟩:∃mb:Int,mb=min (1+(x:Int) / 4 % 5) ((x:Int) / 4 / 5 % 4):=⟨_,rfl⟩
   have al0:∀(s:St)(K:AV->St->Option (AV×St)),aq c .minB [.int .i64 (1+(x:Int) / 4 % 5),.int .i64 ((x:Int) / 4 / 5 % 4)] s K=K (.int .i64 mb) s:=λs K=>by rw[hmb];exact ak8 c K s _ _ _ _
   have eB:((tB x:Nat):Int)=mb:=(by rw[hmb];unfold tB;rw[Za7 (by omega),Za7 (by omega),Za7 (by omega)];omega);clear hmb;simp only[ir,eS,eA,eB]at L2 ⊢;simp (disch:=omega) [-au,-iF,-oP,-iq,-ak8,al0,bld,R6,anw,anx,W,di,iL,e4,CV,wrap64,HN,bR,Za5,L2]
theorem O8{R:Type}(K:AV->Option R){b:Pos}{off len es es':Nat}{cap:Option Nat}{k:IntKind}{i:Nat}(h:i<len):eX (.idxA es none) [.slice b off len cap es',.int k (i:Int)] K=K (.ptr b (off+i*es)):=
 dD K (λH n=>by
  simp only[aG.run,td,jJ];have:Nat.blt i len=true:=by rw[Zr7];exact h
  rw[this])
theorem ajO{es:Nat}{s:St}{v:AV}{rows:List (List AV)}(h:QS es s v rows)(hr:∀r∈rows,r.length=es){i:Nat}(hi:i<rows.length):
   ∃b off cap cs,v= .slice b off rows.length cap es/\s.heap.get b=some (.cells cs 0)/\∀j u,rows[i][j]? =some u->cs[off+i*es+j]? =some u:=by
 rcases h with⟨rfl,rfl⟩|⟨b,off,cap,cs,rfl,g1,g2,g3,g4⟩|⟨b,off,rfl,rfl⟩
 .simp at hi
 rotate_left
 .simp at hi
 . (refine⟨b,off,cap,cs,rfl,g1,λj u hj=> ?_⟩;have hj2:j<es:=(by rw[<-hr _ (Zb9 hi)];exact(Za2.1 hj).1);have:=Go.Ai.zn hr i j rows[i] u (H0 hi) hj;rw[<-g3]at this;have aW:i*es+j<rows.length*es:=by have:(i+1)*es<=rows.length*es:=Zh4 _ hi;rw[Zh5]at this;omega);rw[Ze4,Zb6 aW,Ze7]at this;rw[<-this];congr 1;omega
theorem anz(hc:bw c){s:St}{V W:AV}{rows:List (List AV)}(h:QS 9 s V rows)(hr:∀r∈rows,r.length=9){names:List (List Nat)}(hlen:names.length=rows.length)(hn:∀(i:Nat)(h1:i<rows.length)(h2:i<names.length),rows[i][0]? =some (.str names[i]))(atl:rows.length<=1000)
  {q:Pos} (hq:s.heap.get q=some (.cells [V,W] 0)) (x:Nat) (hx:x<1000000) (hw:Wf s) (F:Nat) (k1 k2):∀(m k f:Nat),m<f->k+m=rows.length->bQ x∉names.take k->
  mG c F k1 k2 f [.int .i64 (x:Int),.ptr q 0,.int .i64 (k:Int)] s=if bQ x∈names then k1 [.bool true] s else k2 [] s:=by
 intro m;have N:=An hc x hx s hw;have cu:∀j:Nat,(cellsOf (s.heap.get q)).bind (λcs=>cs[0]?)=some V:=λ_=>by rw[hq];rfl
 induction m with
 |zero=>
  intro k f hf h1 od;obtain⟨f,rfl⟩:∃g,f=g+1:=⟨f - 1,by omega⟩
  obtain rfl:k=rows.length:=by omega
  rw[<-hlen,Zh9]at od;rw[Za7 od,sV];have lI:=λ(K:AV->St->Option (AV×St))=>h.lenB (c:=c) K s
  simp[hq,lI]
 |succ m ih=>
  intro k f hf h1 od;obtain⟨f,rfl⟩:∃g,f=g+1:=⟨f - 1,by omega⟩
  have hk:k<rows.length:=by omega
  have uC:k<names.length:=by omega
  have lI:=λ(K:AV->St->Option (AV×St))=>h.lenB (c:=c) K s
  have w:ax .i64 ((k:Int)+1)=((k+1:Nat):Int):=wrap64 (by omega) (by omega);obtain⟨b,off,cap,cs,e,g1,g2⟩:=ajO h hr hk;have nm:=g2 0 _ (hn k hk uC);have hb:=h.beq;have r1:=λ(K:AV->Option (AV×St))=>lQ K (o:=0) (v:=V) (h:=s.heap) (h2:=s.heap) (p:=q) (by rw[hq];rfl) (by rw[hq];rfl) hb
  have r2:=λ(K:AV->Option (AV×St))=>lQ K (o:=off+k*9) (v:= .str names[k]) (h:=s.heap) (h2:=s.heap) (p:=b) (by rw[g1];exact nm) (by rw[g1];exact nm) (by simp[eZ,nK,fY,kZ.2 rfl])
  have ix:=λ(K:AV->Option (AV×St))=>O8 K (b:=b) (off:=off) (es:=9) (es':=9) (cap:=cap) (k:= .i64) hk
  rw[<-e]at ix;by_cases heq:names[k]=bQ x
  .have mem:bQ x∈names:=(by rw[<-heq];exact Zb9 uC);rw[Zb6 mem,sV];simp[hq,lI,hk,N,r1,r2,ix,heq]
  . have hno2:bQ x∉names.take (k+1):=by
        rw[Zc9 uC,Zd7,Zh7];rintro(h|h)
        .exact od h
        .exact heq h.symm
    rw[<-ih (k+1) f (by omega) (by omega) hno2,sV];have d:decide (names[k]=bQ x)=false:=Za1 heq;simp[hq,lI,hk,N,r1,r2,ix,heq,d,w]
theorem asC(hc:bw c){s:St}{V W:AV}{rows:List (List AV)}(h:QS 9 s V rows)(hr:∀r∈rows,r.length=9){names:List (List Nat)}(hlen:names.length=rows.length)(hn:∀(i:Nat)(h1:i<rows.length)(h2:i<names.length),rows[i][0]? =some (.str names[i]))(atl:rows.length<=1000)
   (x:Nat) (hx:x<1000000) (hw:Wf s):c 70 [.agg [V,W],.int .i64 (x:Int)] s=some (.bool (decide (bQ x∈names)),s):=by
 have hg:=Grew.ah hw (.cells [V,W] 0);have h2:QS 9 (ah s (.cells [V,W] 0)) V rows:=h.mono λb y _ hy=>hg.get hy
 have L:=anz hc h2 hr hlen hn atl (aA s (.cells [V,W] 0)) x hx (bG hw) (rows.length+1) (λvs OV=>iw vs λx4 vs=>mO vs (some (x4,OV))) (λvs s14=>mO vs (aq c .move [.bool false] s14 λx4 s15=>some (x4,s15))) rows.length 0 (rows.length+1) (by omega) (by omega) (by simp);rw[Qh hc (rows.length+1) (r:=(.bool (decide (bQ x∈names)),ah s (.cells [V,W] 0))),aB (Plain.bool _) hg.keeps];rw[UA];by_cases hm:bQ x∈names
 .rw[Zb6 hm]at L;simp at L;simp[L,hm]
 .rw[Za7 hm]at L;simp at L;simp[L,hm]
end
section
open Go Go.Ai Go.Proofs
def pK(gs:List aN)(i:Nat):List Nat:=match gs[i]? with|some g=>g.name|none=>[]
def IA(gs:List aN)(i:Nat):List Nat:=match gs[i]? with|some g=>g.nk|none=>[]
def zO(ts:List aE)(i:Nat):List Nat:=match ts[i]? with|some t=>t.name|none=>[]
def Dm(ts:List aE)(i:Nat):Int:=match ts[i]? with|some t=>n7 t.sh t.a t.b|none=>0
def Ud(ts:List aE)(gs:List aN)(k wt a b t n z:Nat):Rl×Bool:=
 if k=1\/k=2\/k=3\/k=4\/k=5 then(⟨k,wt,pK gs a,pK gs b,[],if k=4 then((n+1:Nat):Int)else if k=1 then(n:Int)else 0⟩,decide (a≠b))
 else if k=6\/k=7 then(⟨k,wt,pK gs a,[],zO ts t,if k=7 then((z / 13:Nat):Int) % Dm ts t else 0⟩,true)
 else if k=10 then(⟨k,wt,if z % 3=0 then pK gs a else [],[],[],0⟩,true)
 else if k=17 then(⟨k,wt,IA gs a,[],zO ts t,0⟩,decide (IA gs a≠[]))
 else(⟨k,wt,[],[],if 0<z % 3 then zO ts t else [],if k=15\/k=16 then(n:Int)else 0⟩,true)
def YN(y:Nat):Nat:=if 1<y % 5 then 1+y % 7 else 0
def iC(ts:List aE)(gs:List aN)(x:Nat):Rl×Bool:=
 if gs.length=0\/ts.length=0 then(⟨((1+x % 18:Nat):Int),(YN (x / 18):Int),[],[],[],0⟩,false)
 else Ud ts gs (1+x % 18) (YN (x / 18)) (x / 18 / 5 % gs.length) (x / 18 / 5 / gs.length % gs.length) (x / 18 / 5 / 7 % ts.length) (x / 18 / 5 / 11 % 4) (x / 18 / 5)
theorem afm(i:Nat):oX (bQ i)=true:=by unfold oX bQ;have h1:i / 26 % 26<26:=Zj5 _ (by omega);have h2:i % 26<26:=Zj5 _ (by omega);simp;omega
variable{c:aj}
theorem agi{cs row:List AV}{o n:Nat}(hl:row.length=n)(h0:0<n)(h:∀(j:Nat)(u:AV),row[j]? =some u->cs[o+j]? =some u):cut cs o n=some row:=by
 have h1:=h (n - 1) row[n - 1] (H0 (by omega));have h2:=(Za2.1 h1).1;unfold cut;have:Nat.ble (o+n) cs.length=true:=by rw[Nat.ble_eq];omega
 rw[this];simp only;congr 1;refine Zi6 λi=> ?_
 rw[Ze4];split
 .rename_i hi;rw[Ze7,h i _ (H0 (by omega)),H0 (by omega)]
 .rw[Zc3 (by omega)]
theorem TS.row{s0 s:St}{V:AV}{ts:List aE}{rows:List (List AV)}(h:TS s0 s V ts rows){i:Nat}(hi:i<ts.length):
   ∃b off cap cs v,V= .slice b off rows.length cap 7/\s.heap.get b=some (.cells cs 0)/\cut cs (off+i*7) 7=some (ts[i].ay v)/\cs[off+i*7]? =some (.str ts[i].name):=by
 have hr:i<rows.length:=by rw[h.len];exact hi
 obtain⟨b,off,cap,cs,e,g1,g2⟩:=ajO h.out.own h.out.row hr;obtain⟨v,e1,_,_⟩:=h.ez i ts[i] rows[i] (H0 hi) (H0 hr);refine⟨b,off,cap,cs,v,e,g1,?_,?_⟩
 .rw[<-e1];exact agi (h.out.row _ (Zb9 hr)) (by omega) g2
 . have:=g2 0 (.str ts[i].name) (by rw[e1];rfl)
   rwa [Zf7]at this
theorem GS.row{s0 s:St}{V:AV}{gs:List aN}{rows:List (List AV)}(h:GS s0 s V gs rows){i:Nat}(hi:i<gs.length):
   ∃b off cap cs v,V= .slice b off rows.length cap 9/\s.heap.get b=some (.cells cs 0)/\cut cs (off+i*9) 9=some (gs[i].ay v)/\cs[off+i*9]? =some (.str gs[i].name)/\cs[off+i*9+5]? =some (.str gs[i].nk):=by
 have hr:i<rows.length:=by rw[h.len];exact hi
 obtain⟨b,off,cap,cs,e,g1,g2⟩:=ajO h.out.own h.out.row hr;obtain⟨v,e1,_,_⟩:=h.ez i gs[i] rows[i] (H0 hi) (H0 hr);refine⟨b,off,cap,cs,v,e,g1,?_,?_,?_⟩
 .rw[<-e1];exact agi (h.out.row _ (Zb9 hr)) (by omega) g2
 . have:=g2 0 (.str gs[i].name) (by rw[e1];rfl)
   rwa [Zf7]at this
 .exact g2 5 (.str gs[i].nk) (by rw[e1];rfl)
theorem QS.atm{R:Type}{es:Nat}{s:St}{v:AV}{rows:List (List AV)}(h:QS es s v rows)(K:AV->Option R):eX (.lenB .l) [v] K=K (.int .i64 (rows.length:Int)):=by
 rcases h with⟨rfl,rfl⟩|⟨b,off,cap,cs,rfl,_⟩|⟨b,off,rfl,rfl⟩<;>exact dD K (λH n=>rfl)
abbrev gL(k w:Int)(a b t:List Nat)(n:Int):List AV:=[.int .u8 k,.int .i64 w,.str a,.str b,.str t,.int .i64 n]
theorem auY(k w n w':Int)(a b t:List Nat)(s:St)(K:AV->St->Option (AV×St)):aq c (.store 1) [.ptr s.next 1,.int .i64 w'] (ah s (.cells (gL k w a b t n) 0)) K=K .undef (ah s (.cells (gL k w' a b t n) 0)):=mU s _ 1 (.int .i64 w') (by simp) rfl rfl K
theorem alC(k w n:Int)(a b t u:List Nat)(s:St)(K:AV->St->Option (AV×St)):aq c (.store 1) [.ptr s.next 2,.str u] (ah s (.cells (gL k w a b t n) 0)) K=K .undef (ah s (.cells (gL k w u b t n) 0)):=mU s _ 2 (.str u) (by simp) rfl rfl K
theorem auZ(k w n:Int)(a b t u:List Nat)(s:St)(K:AV->St->Option (AV×St)):aq c (.store 1) [.ptr s.next 3,.str u] (ah s (.cells (gL k w a b t n) 0)) K=K .undef (ah s (.cells (gL k w a u t n) 0)):=mU s _ 3 (.str u) (by simp) rfl rfl K
theorem alD(k w n:Int)(a b t u:List Nat)(s:St)(K:AV->St->Option (AV×St)):aq c (.store 1) [.ptr s.next 4,.str u] (ah s (.cells (gL k w a b t n) 0)) K=K .undef (ah s (.cells (gL k w a b u n) 0)):=mU s _ 4 (.str u) (by simp) rfl rfl K
theorem L8(k w n n':Int)(a b t:List Nat)(s:St)(K:AV->St->Option (AV×St)):aq c (.store 1) [.ptr s.next 5,.int .i64 n'] (ah s (.cells (gL k w a b t n) 0)) K=K .undef (ah s (.cells (gL k w a b t n') 0)):=mU s _ 5 (.int .i64 n') (by simp) rfl rfl K
theorem avU{ts:List aE}(h:∀t∈ts,0<n7 t.sh t.a t.b/\n7 t.sh t.a t.b<=1000){t:Nat}(ht:t<ts.length):Dm ts t=n7 ts[t].sh ts[t].a ts[t].b/\0<Dm ts t/\Dm ts t<=1000:=by
 have e:Dm ts t=n7 ts[t].sh ts[t].a ts[t].b:=by unfold Dm;rw[H0 ht]
 rw[e];exact⟨rfl,h _ (Zb9 ht)⟩
theorem asD (hc : bw c){s0 s:St}{V1 V2 V3 V4 V5:AV}{ts:List aE}{gs:List aN}{r1 r2:List (List AV)}(hT:TS s0 s V1 ts r1)(hG:GS s0 s V2 gs r2)(lt:ts.length<=1000)(lg:gs.length<=1000)
   (hz:∀t∈ts,0<n7 t.sh t.a t.b/\n7 t.sh t.a t.b<=1000) (ha:∀t∈ts,(0<=t.a/\t.a<=1000000)/\0<=t.b/\t.b<=1000000) (x:Nat) (hx:x<4294967296):
   c 40 [.agg [V1,V2,V3,V4,V5],.int .i64 (x:Int)] s=some (.tuple [.agg (iC ts gs x).1.cells,.bool (iC ts gs x).2],s):=by
 have hw:=hT.out.ai.wf;have plain:∀(r:Rl)(b:Bool),Plain (.tuple [.agg r.cells,.bool b]):=λr b=>Plain.tuple λv hv=>by
   simp only[Za8,Zc0,Ze9]at hv;rcases hv with rfl|rfl
   .exact Plain.agg λv hv=>by simp only[Rl.cells,Za8,Zc0,Ze9]at hv;rcases hv with rfl|rfl|rfl|rfl|rfl|rfl<;>first|exact Plain.int _ _|exact Plain.str _
   .exact Plain.bool _
 suffices key:∃s',mH c 1 (.agg [V1,V2,V3,V4,V5]) (.int .i64 (x:Int)) s=some (.tuple [.agg (iC ts gs x).1.cells,.bool (iC ts gs x).2],s')/\aX s s' by
   obtain⟨s',k1,k2⟩:=key;rw[Qi hc 1 (r:=(.tuple [.agg (iC ts gs x).1.cells,.bool (iC ts gs x).2],s')) k1,aB (plain _ _) k2]
 have cZ:Wf (ah s (.cells [V1,V2,V3,V4,V5] 0)):=bG hw;have g1:=Grew.ah hw (.cells [V1,V2,V3,V4,V5] 0);have tH:Wf (ah (ah s (.cells [V1,V2,V3,V4,V5] 0)) (.cells (gL 0 0 [] [] [] 0) 0)):=bG cZ;have g2:=Grew.ah cZ (.cells (gL 0 0 [] [] [] 0) 0);have g12:=g1.trans g2;obtain⟨s2,uD⟩:∃s2,s2=ah (ah s (.cells [V1,V2,V3,V4,V5] 0)) (.cells (gL 0 0 [] [] [] 0) 0):=⟨_,rfl⟩
 obtain⟨p4,hp4⟩:∃p4,p4=(ah s (.cells [V1,V2,V3,V4,V5] 0)).next:=⟨_,rfl⟩
 have asE:Wf s2:=by rw[uD];exact tH
 have anA:Grew s s2:=by rw[uD];exact g12
 have b2:s2.heap.get s.next=some (.cells [V1,V2,V3,V4,V5] 0):=by rw[uD];exact g2.get (aA _ _)
 have b4:s2.heap.get p4=some (.cells (gL 0 0 [] [] [] 0) 0):=by rw[uD,hp4];exact aA _ _
 have n4:s.next.toNat<p4.toNat:=by rw[hp4,bP,Pos.aF];omega
 have n6:p4.toNat<s2.next.toNat:=asE _ _ b4;have gS:∀b:AB,Grew s2 (ah s2 b):=λb=>Grew.ah asE b
 have hP:∀b:AB,(ah s2 b).heap.get s.next=some (.cells [V1,V2,V3,V4,V5] 0):=λb=>(gS b).get b2
 have hX:∀b:AB,(ah s2 b).heap.get p4=some (.cells (gL 0 0 [] [] [] 0) 0):=λb=>(gS b).get b4
 have fin:∀(k w n:Int)(a b t:List Nat)(K:AV->St->Option (AV×St)),aq c (.store 6) [.ptr p4 0,.agg (gL k w a b t n)] (ah s2 (.cells (gL k w a b t n) 0)) K=K .undef (bh (ah s2 (.cells (gL k w a b t n) 0)) p4 (.cells (gL k w a b t n) 0)):=λk w n a b t K=>by rw[cm c K _ 6 p4 0 (.agg (gL k w a b t n)) _ (hX _) rfl (by simp) rfl];rfl
 have kp:∀(k w n:Int)(a b t:List Nat),aX s (bh (ah s2 (.cells (gL k w a b t n) 0)) p4 (.cells (gL k w a b t n) 0)):=λk w n a b t q y hq=>by have:=hw _ _ hq;rw[aJ (λe=>by subst e;omega)];exact(anA.trans (gS _)).get hq
 have cu:∀(k w n:Int)(a b t:List Nat),cut (gL k w a b t n) 0 6=some (gL k w a b t n):=λk w n a b t=>cQ rfl
 obtain⟨Q,hQ⟩:∃Q:Option (AV×St)->Prop,Q=λo=>∃s',o=some (.tuple [.agg (iC ts gs x).1.cells,.bool (iC ts gs x).2],s')/\aX s s':=⟨_,rfl⟩
 have Hq:∀(k w n:Int)(a b t:List Nat)(bb:Bool),(⟨k,w,a,b,t,n⟩:Rl)=(iC ts gs x).1->bb=(iC ts gs x).2->Q (some (.tuple [.agg (gL k w a b t n),.bool bb],bh (ah s2 (.cells (gL k w a b t n) 0)) p4 (.cells (gL k w a b t n) 0))):=λk w n a b t bb h1 h2=>by
   rw[hQ];exact⟨_,by rw[<-h1, <-h2];rfl,kp _ _ _ _ _ _⟩
 have ad3:Q (mH c 1 (.agg [V1,V2,V3,V4,V5]) (.int .i64 (x:Int)) s)->∃s',mH c 1 (.agg [V1,V2,V3,V4,V5]) (.int .i64 (x:Int)) s=some (.tuple [.agg (iC ts gs x).1.cells,.bool (iC ts gs x).2],s')/\aX s s':=λh=>by rw[hQ]at h;exact h
 apply ad3;clear ad3;obtain⟨r,hr⟩:∃r:Nat,r=x % 18:=⟨_,rfl⟩
 obtain⟨k,hk⟩:∃k:Nat,k=1+x % 18:=⟨_,rfl⟩
 obtain⟨y,hy⟩:∃y:Nat,y=x / 18:=⟨_,rfl⟩
 obtain⟨y5,hy5⟩:∃y5:Nat,y5=y % 5:=⟨_,rfl⟩
 obtain⟨y7,hy7⟩:∃y7:Nat,y7=y % 7:=⟨_,rfl⟩
 obtain⟨z,hz5⟩:∃z:Nat,z=y / 5:=⟨_,rfl⟩
 obtain⟨w,hwt⟩:∃w:Nat,w=YN y:=⟨_,rfl⟩
 have E1:(x:Int) % 18=(r:Int):=by omega
 have W1:ax .i64 (1+(r:Int))=(k:Int):=(wrap64 (by omega) (by omega)).trans (by omega);have W8:ax .u8 (k:Int)=(k:Int):=HN (by omega) (by omega);have E2:(x:Int) / 18=(y:Int):=by omega
 have E3:(y:Int) % 5=(y5:Int):=by omega
 have E4:(y:Int) % 7=(y7:Int):=by omega
 have W2:ax .i64 (1+(y7:Int))=1+(y7:Int):=wrap64 (by omega) (by omega);have E5:(y:Int) / 5=(z:Int):=by omega
 obtain⟨g,hg⟩:∃g,g=gs.length:=⟨_,rfl⟩
 obtain⟨T,hTl⟩:∃T,T=ts.length:=⟨_,rfl⟩
 have pl2:∀(K:AV->Option (AV×St)),eX (.lenB .l) [V2] K=K (.int .i64 (g:Int)):=λK=>by rw[hg, <-hG.len];exact QS.atm hG.out.own K
 have pl1:∀(K:AV->Option (AV×St)),eX (.lenB .l) [V1] K=K (.int .i64 (T:Int)):=λK=>by rw[hTl, <-hT.len];exact QS.atm hT.out.own K
 have MB:∀(l:List AV)(K:AV->Option (AV×St)),jI (.load none) [.ptr s.next (0+1)] (ah s2 (.cells l 0)).heap (λ_=>true) K=K V2:=λl K=>by rw[ju,hP];rfl
 have rd0:∀(l:List AV)(K:AV->Option (AV×St)),jI (.load none) [.ptr s.next (0+0)] (ah s2 (.cells l 0)).heap (λ_=>true) K=K V1:=λl K=>by rw[ju,hP];rfl
 have bld:∀(k':Int)(s':St)(K:AV->St->Option (AV×St)),aq c (.build [.int .u8 0,.int .i64 0,.str [],.str [],.str [],.int .i64 0] [(0,1)]) [.int .u8 k'] s' K=K (.agg (gL k' 0 [] [] [] 0)) s':=λk' s' K=>rfl
 have sto0:∀(k':Int)(K:AV->St->Option (AV×St)),aq c (.store 6) [.ptr s2.next 0,.agg (gL k' 0 [] [] [] 0)] (ah s2 (.cells (gL 0 0 [] [] [] 0) 0)) K=K .undef (ah s2 (.cells (gL k' 0 [] [] [] 0) 0)):=λk' K=>cr c K s2 6 (.agg (gL k' 0 [] [] [] 0)) (gL 0 0 [] [] [] 0) rfl rfl rfl
 rw[UB];rw[cS,cL,show AV.cells (.agg [V1,V2,V3,V4,V5])=[V1,V2,V3,V4,V5]from rfl, <-uD, <-hp4,av,av,di (by omega) (by omega),E1,fD,W1,Mw,W8,bld,cL,sto0,av,iL (by omega) (by omega) (by omega),E2,av];refine zq (P:=λj=>Q (j [.int .i64 (y:Int),.ptr s.next 0,.ptr p4 0,.ptr s2.next 0] (ah s2 (.cells (gL k w [] [] [] 0) 0)))) ?_ ?_
 . rw[  aH, aH, aH, aH,bg,av,iL (by omega) (by omega) (by omega),E5,av,bt,MB,pl2,bt,rd0,pl1,cX,cX,av,eG,av];by_cases OD:g=0
   . rw[Za0 (show(g:Int)=0 by omega),Q8,Q8,tL,dH];have hR:iC ts gs x=(⟨(k:Int),(w:Int),[],[],[],0⟩,false):=by
        unfold iC;rw[Zb6 (.inl (by omega)), <-hk, <-hy, <-hwt]
     have:=Hq k w 0 [] [] [] false (by rw[hR]) (by rw[hR]);simp[cu,fin];exact this
   rw[Za1 (show ¬(g:Int)=0 by omega),fO,av,fO,eG,gC];by_cases hT0:T=0
   . rw[Za0 (show(T:Int)=0 by omega),dH];have hR:iC ts gs x=(⟨(k:Int),(w:Int),[],[],[],0⟩,false):=by
        unfold iC;rw[Zb6 (.inr (by omega)), <-hk, <-hy, <-hwt]
     have:=Hq k w 0 [] [] [] false (by rw[hR]) (by rw[hR]);simp[cu,fin];exact this
   rw[Za1 (show ¬(T:Int)=0 by omega),cV];obtain⟨a,ea⟩:∃a:Nat,a=z % g:=⟨_,rfl⟩
   obtain⟨zg,ezg⟩:∃zg:Nat,zg=z / g:=⟨_,rfl⟩
   obtain⟨b,eb⟩:∃b:Nat,b=zg % g:=⟨_,rfl⟩
   obtain⟨z7,ez7⟩:∃z7:Nat,z7=z / 7:=⟨_,rfl⟩
   obtain⟨t,et⟩:∃t:Nat,t=z7 % T:=⟨_,rfl⟩
   obtain⟨z11,ez11⟩:∃z11:Nat,z11=z / 11:=⟨_,rfl⟩
   obtain⟨n,en⟩:∃n:Nat,n=z11 % 4:=⟨_,rfl⟩
   have hR:iC ts gs x=Ud ts gs k w a b t n z:=by
     unfold iC;rw[Za7 (by omega), <-hk, <-hy, <-hwt, <-hz5, <-hg, <-hTl, <-ea, <-ezg, <-eb, <-ez7, <-et, <-ez11, <-en]
   have Ea:(z:Int) % (g:Int)=(a:Int):=(by rw[ea];exact(Zl9 _ _).symm);have Ezg:(z:Int) / (g:Int)=(zg:Int):=(by rw[ezg];exact(Int.natCast_ediv _ _).symm);have Eb:(zg:Int) % (g:Int)=(b:Int):=(by rw[eb];exact(Zl9 _ _).symm);have Ez7:(z:Int) / 7=(z7:Int):=(by omega);have Et:(z7:Int) % (T:Int)=(t:Int):=(by rw[et];exact(Zl9 _ _).symm);have Ez11:(z:Int) / 11=(z11:Int):=(by omega);have En:(z11:Int) % 4=(n:Int):=(by omega);have za:a<g:=(by rw[ea];exact Zj5 _ (by omega));have zb:b<g:=(by rw[eb];exact Zj5 _ (by omega));have zt:t<T:=(by rw[et];exact Zj5 _ (by omega));have gp:0<(g:Int):=(by omega);have Tp:0<(T:Int):=(by omega);rw[cX,cX,GY (by omega) gp,Ea,cX,cX,ail (by omega) (by omega) gp,Ezg,cX,GY (by omega) gp,Eb,cX,ail (by omega) (by omega) (by omega),Ez7,cX,GY (by omega) Tp,Et,cX,cX,cX,
     av,iL (by omega) (by omega) (by omega),Ez11,di (by omega) (by omega),En,av]
   (clear Ea Ezg Eb Ez7 Et Ez11 En ea ezg eb ez7 et ez11;have Bq:1<=k:=(by omega);have uC:k<=18:=(by omega);obtain⟨bA,oA,alR,csA,vA,eA,hA,_,nA,dA⟩:=hG.row (i:=a) (by omega);obtain⟨bB,oB,capB,csB,vB,eB,hB,_,nB,_⟩:=hG.row (i:=b) (by omega);obtain⟨bT,oT,capT,csT,vT,eT,hTb,cT,nT⟩:=hT.row (i:=t) (by omega);have gA:gs[a].name=pK gs a/\gs[a].nk=IA gs a:=(by unfold pK IA;rw[H0 (by omega)];exact⟨rfl,rfl⟩);have gB:gs[b].name=pK gs b:=(by unfold pK;rw[H0 (by omega)]);have gT:ts[t].name=zO ts t:=(by unfold zO;rw[H0 (by omega)]);rw[gA.1]at nA;rw[gA.2]at dA;rw[gB]at nB;rw[gT]at nT;have anB:∀l:List AV,(ah s2 (.cells l 0)).heap.get bA=some (.cells csA 0):=λl=>(gS _).get (anA.get hA));have atn:∀l:List AV,(ah s2 (.cells l 0)).heap.get bB=some (.cells csB 0):=λl=>(gS _).get (anA.get hB)
   have heapT:∀l:List AV,(ah s2 (.cells l 0)).heap.get bT=some (.cells csT 0):=λl=>(gS _).get (anA.get hTb)
   have ixA:∀(K:AV->Option (AV×St)),eX (.idxA 9 none) [V2,.int .i64 (a:Int)] K=K (.ptr bA (oA+a*9)):=λK=>by rw[eA];exact O8 K (by rw[hG.len];omega)
   have ixB:∀(K:AV->Option (AV×St)),eX (.idxA 9 none) [V2,.int .i64 (b:Int)] K=K (.ptr bB (oB+b*9)):=λK=>by rw[eB];exact O8 K (by rw[hG.len];omega)
   have ixT:∀(K:AV->Option (AV×St)),eX (.idxA 7 none) [V1,.int .i64 (t:Int)] K=K (.ptr bT (oT+t*7)):=λK=>by rw[eT];exact O8 K (by rw[hT.len];omega)
   have sxA:∀(K:AV->St->Option (AV×St))(s':St),aq c (.idxA 9 none) [V2,.int .i64 (a:Int)] s' K=K (.ptr bA (oA+a*9)) s':=λK s'=>by rw[eA];exact ji c K s' (by rw[hG.len];omega)
   have sxT:∀(K:AV->St->Option (AV×St))(s':St),aq c (.idxA 7 none) [V1,.int .i64 (t:Int)] s' K=K (.ptr bT (oT+t*7)) s':=λK s'=>by rw[eT];exact ji c K s' (by rw[hT.len];omega)
   have cA:=λ(l l':List AV)(K:AV->Option (AV×St))=>GQ K (o:=1) (v:=V2) (h:=(ah s2 (.cells l 0)).heap) (h2:=(ah s2 (.cells l' 0)).heap) (p:=s.next) (by rw[hP];rfl) (by rw[hP];rfl) hG.out.own.beq
   have cP:=λ(l l':List AV)(K:AV->Option (AV×St))=>GQ K (o:=0) (v:=V1) (h:=(ah s2 (.cells l 0)).heap) (h2:=(ah s2 (.cells l' 0)).heap) (p:=s.next) (by rw[hP];rfl) (by rw[hP];rfl) hT.out.own.beq
   have sb:∀u:List Nat,eZ (.str u) (.str u)=true:=λu=>by simp[eZ,nK,fY,kZ.2 rfl]
   clear eA eB eT;generalize oA+a*9=qA at*
   generalize oB+b*9=qB at*
   generalize oT+t*7=qT at*
   have cB:=λ(l l':List AV)(K:AV->Option (AV×St))=>GQ K (o:=qB+0) (v:= .str (pK gs b)) (h:=(ah s2 (.cells l 0)).heap) (h2:=(ah s2 (.cells l' 0)).heap) (p:=bB) (by rw[atn];exact nB) (by rw[atn];exact nB) (sb _)
   have cTn:=λ(l l':List AV)(K:AV->Option (AV×St))=>GQ K (o:=qT+0) (v:= .str (zO ts t)) (h:=(ah s2 (.cells l 0)).heap) (h2:=(ah s2 (.cells l' 0)).heap) (p:=bT) (by rw[heapT];exact nT) (by rw[heapT];exact nT) (sb _)
   have rdA:∀(l:List AV)(K:AV->Option (AV×St)),jI (.load none) [.ptr bA (qA+0)] (ah s2 (.cells l 0)).heap (λ_=>true) K=K (.str (pK gs a)):=λl K=>by rw[ju,anB,Zf7,show(cellsOf (some (.cells csA 0))).bind (λcs=>cs[qA]?)=some (.str (pK gs a))from nA];rfl
   have su2:∀(k w n:Int)(a b t u:List Nat)(K:AV->St->Option (AV×St)),aq c (.store 1) [.ptr s2.next (0+2),.str u] (ah s2 (.cells (gL k w a b t n) 0)) K=K .undef (ah s2 (.cells (gL k w u b t n) 0)):=λk w n a b t u K=>alC k w n a b t u s2 K
   have su3:∀(k w n:Int)(a b t u:List Nat)(K:AV->St->Option (AV×St)),aq c (.store 1) [.ptr s2.next (0+3),.str u] (ah s2 (.cells (gL k w a b t n) 0)) K=K .undef (ah s2 (.cells (gL k w a u t n) 0)):=λk w n a b t u K=>auZ k w n a b t u s2 K
   have su4:∀(k w n:Int)(a b t u:List Nat)(K:AV->St->Option (AV×St)),aq c (.store 1) [.ptr s2.next (0+4),.str u] (ah s2 (.cells (gL k w a b t n) 0)) K=K .undef (ah s2 (.cells (gL k w a b u n) 0)):=λk w n a b t u K=>alD k w n a b t u s2 K
   have ldk:∀(k w n:Int)(a b t:List Nat)(K:AV->St->Option (AV×St)),aq c (.load none) [.ptr s2.next (0+0)] (ah s2 (.cells (gL k w a b t n) 0)) K=K (.int .u8 k) (ah s2 (.cells (gL k w a b t n) 0)):=λk w n a b t K=>by rw[aT,aA];rfl
   refine zq (P:=λj=>¬(k=1\/k=2\/k=3\/k=4\/k=5\/k=6\/k=7\/k=10\/k=17)->Q (j [.int .i64 (z:Int),.ptr s.next 0,.ptr p4 0,.ptr s2.next 0,.int .i64 (t:Int)] (ah s2 (.cells (gL k w [] [] [] (if k=15\/k=16 then(n:Int)else 0)) 0)))) ?_ ?_
   . intro hns;obtain⟨z3,e3⟩:∃z3:Nat,z3=z % 3:=⟨_,rfl⟩
     have E6:(z:Int) % 3=(z3:Int):=(by omega);have hf:=hR;unfold Ud at hf;rw[Za7 (by omega),Za7 (by omega),Za7 (by omega),Za7 (by omega), <-e3]at hf;obtain⟨n',hn'⟩:∃n':Int,n'=(if k=15\/k=16 then(n:Int)else 0):=⟨_,rfl⟩
     rw[<-hn']at hf ⊢;by_cases h3:0<z3
     .  have hd:decide (0<z3)=true:=Za0 h3;rw[Zb6 h3]at hf;have:=Hq k w n' [] [] (zO ts t) true (by rw[hf]) (by rw[hf]);simp (disch:=omega) [-iq,bR,Za5,di,E6,hd,hP,sxT,heapT,nT,alD,cu,fin,bH];exact this
     .  have hd:decide (0<z3)=false:=Za1 h3;rw[Za7 h3]at hf;have:=Hq k w n' [] [] [] true (by rw[hf]) (by rw[hf]);simp (disch:=omega) [-iq,bR,di,E6,hd,cu,fin,bH];exact this
   . intro  j40 ajP;rw[aS,ldk];refine zq (P:=λj=>Q (j [.int .i64 (z:Int),.ptr s.next 0,.ptr p4 0,.ptr s2.next 0,.int .i64 (a:Int),.int .i64 (b:Int),.int .i64 (t:Int),.int .i64 (n:Int),.int .u8 (k:Int),.bool (decide (k=1\/k=2\/k=3\/k=4\/k=5))] (ah s2 (.cells (gL k w [] [] [] 0) 0)))) ?_ ?_
     .  rw[ aH, aH, aH,aH,aH,aH,aH,aH,aH,aH,bg];by_cases h5:k=1\/k=2\/k=3\/k=4\/k=5
        . rw[ Za0 h5,dH];have hf:=hR;unfold Ud at hf;rw[Zb6 h5]at hf;have fF:Q (some (.tuple [.agg (gL k w (pK gs a) (pK gs b) [] (if k=4 then(n:Int)+1 else if k=1 then(n:Int)else 0)),.bool (!decide ((a:Int)=(b:Int)))],bh (ah s2 (.cells (gL k w (pK gs a) (pK gs b) [] (if k=4 then(n:Int)+1 else if k=1 then(n:Int)else 0)) 0)) p4 (.cells (gL k w (pK gs a) (pK gs b) [] (if k=4 then(n:Int)+1 else if k=1 then(n:Int)else 0)) 0))):=
            Hq k w _ (pK gs a) (pK gs b) [] _ (by rw[hf];rfl) (by rw[hf];simp;omega)
          have wn:ax .i64 ((n:Int)+1)=(n:Int)+1:=wrap64 (by omega) (by omega);clear Hq ajP;rw[bt,MB,cX,ixA,bt,rdA,bt,su2,bt,cA,cX,ixB,bt,cB,bt,su3];refine zq (P:=λj=>Q (j [.ptr p4 0,.ptr s2.next 0,.int .i64 (a:Int),.int .i64 (b:Int)] (ah s2 (.cells (gL k w (pK gs a) (pK gs b) [] (if k=1\/k=4 then(n:Int)else 0)) 0)))) ?_ ?_
          . rw[ aH,aH,aH,aH,bg];refine zq (P:=λj=>Q (j [.ptr p4 0,.ptr s2.next 0,.int .i64 (a:Int),.int .i64 (b:Int)] (ah s2 (.cells (gL k w (pK gs a) (pK gs b) [] (if k=4 then(n:Int)+1 else if k=1 then(n:Int)else 0)) 0)))) ?_ ?_
            . generalize (if k=4 then(n:Int)+1 else if k=1 then(n:Int)else 0)=n6 at*
              simp[cu,fin,bH];exact fF
            . intro j hj;by_cases h4:k=4
              .have hd:decide ((k:Int)=4)=true:=Za0 (by omega);rw[Zb6 h4]at hj;rw[Zb6 (.inr h4),aS,ldk,eG,hd,dH];simp[wn,L8];exact hj
              .have hd:decide ((k:Int)=4)=false:=Za1 (by omega);rw[Za7 h4]at hj;rw[show(if k=1\/k=4 then(n:Int)else 0)=(if k=1 then(n:Int)else 0)by by_cases h1:k=1<;>simp[h1,h4],aS,ldk,eG,hd,cV];exact hj
          . intro j hj;rw[aS,ldk,eG,av];by_cases h1:k=1
            .rw[Zb6 (.inl h1)]at hj;rw[Za0 (show(k:Int)=1 by omega)];simp[L8];exact hj
            . rw[Za1 (show ¬(k:Int)=1 by omega)];by_cases h4:k=4
              .rw[Zb6 (.inr h4)]at hj;have hd:decide ((k:Int)=4)=true:=Za0 (by omega);rw[fO,aS,fO,ldk,fO,eG,hd];simp[L8];exact hj
              .rw[Za7 (by omega)]at hj;have hd:decide ((k:Int)=4)=false:=Za1 (by omega);rw[fO,aS,fO,ldk,fO,eG,hd];simp;exact hj
        . rw[ Za1 h5, cV];refine zq (P:=λj=>Q (j [.int .i64 (z:Int),.ptr s.next 0,.ptr p4 0,.ptr s2.next 0,.int .i64 (a:Int),.int .i64 (t:Int),.int .i64 (n:Int),.int .u8 (k:Int),.bool (decide (k=6\/k=7))] (ah s2 (.cells (gL k w [] [] [] 0) 0)))) ?_ ?_
          . rw[ aH, aH,aH,aH,aH,aH,aH,aH,aH,bg];by_cases h67:k=6\/k=7
            . rw[ Za0 h67,dH];have hf:=hR;unfold Ud at hf;rw[Za7 h5,Zb6 h67]at hf;obtain⟨sz1,sz2,sz3⟩:=avU hz (t:=t) (by omega);obtain⟨ha1,ha2⟩:=ha _ (Zb9 (show t<ts.length by omega));obtain⟨z13,e13⟩:∃z13:Nat,z13=z / 13:=⟨_,rfl⟩
              have E13:(z:Int) / 13=(z13:Int):=(by omega);rw[<-e13]at hf;have SZ:∀l:List AV,c 38 [.agg (ts[t].ay vT)] (ah s2 (.cells l 0))=some (.int .i64 (Dm ts t),ah s2 (.cells l 0)):=λl=>by rw[sz1];exact MJ hc rfl rfl rfl ha1 ha2 _ (bG asE)
              have fF:Q (some (.tuple [.agg (gL k w (pK gs a) [] (zO ts t) (if k=7 then(z13:Int) % Dm ts t else 0)),.bool true],bh (ah s2 (.cells (gL k w (pK gs a) [] (zO ts t) (if k=7 then(z13:Int) % Dm ts t else 0)) 0)) p4 (.cells (gL k w (pK gs a) [] (zO ts t) (if k=7 then(z13:Int) % Dm ts t else 0)) 0))):=
                Hq k w _ (pK gs a) [] (zO ts t) _ (by rw[hf]) (by rw[hf])
              clear Hq ajP;rw[bt,MB,cX,ixA,bt,rdA,bt,su2,bt,cP,cX,ixT,bt,cTn,bt,su4];refine zq (P:=λj=>Q (j [.ptr p4 0,.ptr s2.next 0] (ah s2 (.cells (gL k w (pK gs a) [] (zO ts t) (if k=7 then(z13:Int) % Dm ts t else 0)) 0)))) ?_ ?_
              . generalize (if k=7 then(z13:Int) % Dm ts t else 0)=n6 at*
                simp[cu,fin,bH];exact fF
              . intro j hj;by_cases h7:k=7
                . have hd:decide ((k:Int)=7)=true:=Za0 (by omega);rw[Zb6 h7]at hj;have q:=λ(K:AV->St->Option (AV×St))(s':St)=>di (c:=c) (k:= .i64) (a:=(z13:Int)) (b:=Dm ts t) (by omega) sz2 s' K
                  generalize Dm ts t=Z at*
                  rw[aS,ldk,eG,hd,dH,av,iL (by omega) (by omega) (by omega),E13];simp[-iq,q,hP,sxT,heapT,cT,SZ,L8];exact hj
                .have hd:decide ((k:Int)=7)=false:=Za1 (by omega);rw[Za7 h7]at hj;rw[aS,ldk,eG,hd,cV];exact hj
            . rw[ Za1 h67,cV,eG,av];by_cases h10:k=10
              . have hf:=hR;unfold Ud at hf;rw[Za7 h5,Za7 h67,Zb6 h10]at hf;obtain⟨z3,e3⟩:∃z3:Nat,z3=z % 3:=⟨_,rfl⟩
                have E6:(z:Int) % 3=(z3:Int):=(by omega);rw[<-e3]at hf;rw[Za0 (show(k:Int)=10 by omega),dH];by_cases h3:z3=0
                .have hd:decide ((z3:Int)=0)=true:=Za0 (by omega);rw[Zb6 h3]at hf;have fF:=Hq k w 0 (pK gs a) [] [] true (by rw[hf]) (by rw[hf]);rw[jK,av,di (by omega) (by omega),E6,eG,hd,dH];simp[hP,sxA,anB,nA,alC,cu,fin,bH];exact fF
                .have hd:decide ((z3:Int)=0)=false:=Za1 (by omega);rw[Za7 h3]at hf;have fF:=Hq k w 0 [] [] [] true (by rw[hf]) (by rw[hf]);rw[jK,av,di (by omega) (by omega),E6,eG,hd,cV];simp[cu,fin,bH];exact fF
              . rw[ Za1 (show ¬(k:Int)=10 by omega),cV,eG,av];by_cases h17:k=17
                . have hf:=hR;unfold Ud at hf;rw[Za7 h5,Za7 h67,Za7 h10,Zb6 h17]at hf;rw[Za0 (show(k:Int)=17 by omega),dH];have fF:=Hq k w 0 (IA gs a) [] (zO ts t) (!decide (IA gs a=[])) (by rw[hf]) (by rw[hf];simp);have n46:p4≠s2.next:=λe=>by subst e;omega
                  have cD:=λ(K:AV->Option (AV×St))=>GQ K (o:=0+2) (v:= .str (IA gs a)) (h:=(bh (ah s2 (.cells (gL k w (IA gs a) [] (zO ts t) 0) 0)) p4 (.cells (gL k w (IA gs a) [] (zO ts t) 0) 0)).heap) (h2:=(ah s2 (.cells (gL k w (IA gs a) [] (zO ts t) 0) 0)).heap) (p:=s2.next) (by rw[aJ n46,aA];rfl) (by rw[aA];rfl) (sb _)
                  have rdD:∀(l:List AV)(K:AV->Option (AV×St)),jI (.load none) [.ptr bA (qA+5)] (ah s2 (.cells l 0)).heap (λ_=>true) K=K (.str (IA gs a)):=λl K=>by rw[ju,anB,show(cellsOf (some (.cells csA 0))).bind (λcs=>cs[qA+5]?)=some (.str (IA gs a))from dA];rfl
                  have rdR:∀(K:AV->Option (AV×St)),jI (.load (some 6)) [.ptr s2.next 0] (ah s2 (.cells (gL k w (IA gs a) [] (zO ts t) 0) 0)).heap (λ_=>true) K=K (.agg (gL k w (IA gs a) [] (zO ts t) 0)):=λK=>by rw[xS,aA];rfl
                  rw[bt,MB,cX,ixA,bt,rdD,bt,su2,bt,cP,cX,ixT,bt,cTn,bt,su4,rdR,fin,bt,cD,aqV,cX,abT,bH];exact fF
                . rw[ Za1 (show ¬(k:Int)=17 by omega),cV];have hj:=ajP (by omega);clear ajP Hq;by_cases h15:k=15
                  .have hd:decide ((k:Int)=15)=true:=Za0 (by omega);rw[Zb6 (.inl h15)]at hj;rw[jK,eG,av,hd,dH];simp[L8];exact hj
                  . have hd:decide ((k:Int)=15)=false:=Za1 (by omega);by_cases h16:k=16
                    .have hd2:decide ((k:Int)=16)=true:=Za0 (by omega);rw[Zb6 (.inr h16)]at hj;rw[jK,eG,av,hd,cV,eG,av,hd2];simp[L8];exact hj
                    .have hd2:decide ((k:Int)=16)=false:=Za1 (by omega);rw[Za7 (by omega)]at hj;rw[jK,eG,av,hd,cV,eG,av,hd2];simp;exact hj
          . intro j hj;by_cases h6:k=6
            .rw[Za0 (.inl h6)]at hj;rw[eG,av,Za0 (show(k:Int)=6 by omega),dH];exact hj
            .rw[eG,av,Za1 (show ¬(k:Int)=6 by omega),cV,eG,av];rw[show decide ((k:Int)=7)=decide (k=6\/k=7)by rw[decide_eq_decide];omega];exact hj
     .  intro j hj;clear Hq ajP hR;rcases uX Bq uC with rfl|rfl|rfl|rfl|rfl|rfl|rfl|rfl|rfl|rfl|rfl|rfl|rfl|rfl|rfl|rfl|rfl|rfl
        all_goals
          simp at hj ⊢;exact hj
 . intro j hj;by_cases h1:1<y5
   .have e:((w:Nat):Int)=1+(y7:Int):=(by rw[hwt];unfold YN;rw[Zb6 (by omega)];omega);rw[e]at hj;have hd:decide ((1:Int)<(y5:Int))=true:=Za0 (by omega);simp (disch:=omega) [-iq,di,E3,E4,hd,W2,auY];exact hj
   .have e:((w:Nat):Int)=0:=(by rw[hwt];unfold YN;rw[Za7 (by omega)];rfl);rw[e]at hj;have hd:decide ((1:Int)<(y5:Int))=false:=Za1 (by omega);simp (disch:=omega) [-iq,di,E3,hd];exact hj
structure KX(p:Pos)(sA s:St):Prop where
 wf:Wf s
 next:sA.next.toNat<=s.next.toNat
 keep:∀(b:Pos)(x:AB),b≠p->sA.heap.get b=some x->s.heap.get b=some x
theorem KX.refl{p:Pos}{s:St}(hw:Wf s):KX p s s:=⟨hw,Za3 _,λ_ _ _ h=>h⟩
theorem KX.trans{p:Pos}{a b d:St}(h:KX p a b)(g:KX p b d):KX p a d:=⟨g.wf,Zb2 h.next g.next,λq x hq hx=>g.keep q x hq (h.keep q x hq hx)⟩
theorem KX.ai{p:Pos}{a b d:St}(h:KX p a b)(g:Grew b d):KX p a d:=⟨g.wf,Zb2 h.next g.next,λq x hq hx=>g.get (h.keep q x hq hx)⟩
theorem KX.store{p:Pos}{a b:St}(h:KX p a b)(hp:p.toNat<b.next.toNat)(x:AB):KX p a (bh b p x):=
 ⟨iU h.wf hp,h.next,λq y hq hy=>by rw[aJ (λe=>hq e.symm)];exact h.keep q y hq hy⟩
def TS.Since(n:Nat)(V:AV)(rows:List (List AV)):Prop:=(∀b,aL V=some b->n<=b.toNat)/\∀(i:Nat)(r:List AV)(v:AV)(b:Pos),rows[i]? =some r->r[4]? =some v->aL v=some b->n<=b.toNat
def GS.Since(n:Nat)(V:AV)(rows:List (List AV)):Prop:=(∀b,aL V=some b->n<=b.toNat)/\∀(i:Nat)(r:List AV)(v:AV)(b:Pos),rows[i]? =some r->r[8]? =some v->aL v=some b->n<=b.toNat
theorem wF{st s:St}{p:Pos}(h0:Wf st)(h:Grew st s)(hp:st.next.toNat<=p.toNat)(HU:p.toNat<s.next.toNat)(b:AB):Grew st (bh s p b):=
 ⟨iU h.wf HU,λq x hq=>by have:=h0 _ _ hq;rw[aJ (λe=>by rw[e]at hp;omega)];exact h.get hq,by rw[dM];exact h.next⟩
theorem TS.kx{st sA s:St}{p:Pos}{V:AV}{ts:List aE}{rows:List (List AV)}(h:TS st sA V ts rows)(k:KX p sA s)(g:Grew st s)(hs:TS.Since (p.toNat+1) V rows):TS st s V ts rows:=
 h.rW g λb x _ hb hx=>k.keep b x (λe=>by
  subst e;rcases hb with hb|⟨i,r,v,h1,h2,h3⟩
  .have:=hs.1 _ hb;omega
  .have:=hs.2 i r v _ h1 h2 h3;omega) hx
theorem GS.kx{st sA s:St}{p:Pos}{V:AV}{ts:List aN}{rows:List (List AV)}(h:GS st sA V ts rows)(k:KX p sA s)(g:Grew st s)(hs:GS.Since (p.toNat+1) V rows):GS st s V ts rows:=
 h.rW g λb x _ hb hx=>k.keep b x (λe=>by
  subst e;rcases hb with hb|⟨i,r,v,h1,h2,h3⟩
  .have:=hs.1 _ hb;omega
  .have:=hs.2 i r v _ h1 h2 h3;omega) hx
theorem Mk.kx{es:Nat}{st sA s:St}{p:Pos}{V:AV}{rows:List (List AV)}(h:Mk es st sA V rows)(k:KX p sA s)(g:Grew st s)(hs:∀b,aL V=some b->p.toNat+1<=b.toNat):Mk es st s V rows:=
 Mk.rW h g λb x hb hx=>k.keep b x (λe=>by subst e;have:=hs _ hb;omega) hx
theorem TS.push{st s:St}{V:AV}{ts:List aE}{rows:List (List AV)}(h:TS st s V ts rows){t:aE}{v:AV}(M:Mk 1 st s v (t.kQ.map bC))(hv:∀b,aL v=some b->aL V≠some b)(hlen:ts.length<=1000):
   ∃s5 V5,(∀(K:AV->St->Option (AV×St)),aq c (.buildSlice 7 1 [.str [],.int .u8 0,.int .i64 0,.int .i64 0,.af,.int .i64 0,.int .i64 0] [0]) [.agg (t.ay v)] s (λy q=>aq c (.append 7 80) [V,y] q K)=K V5 s5)/\
    TS st s5 V5 (ts++[t]) (rows++[t.ay v])/\(∀(p:Pos)(b:AB),aL V≠some p->s.heap.get p=some b->s5.heap.get p=some b)/\∀b,aL V5=some b->s.next.toNat<=b.toNat:=by
 have hl:=h.len;have hw:=h.out.ai.wf;obtain⟨s5,V5,a1,a2,a3,a4⟩:=h.out.push (c:=c) (R:=AV×St) (bytes:=80) (z:=[.str [],.int .u8 0,.int .i64 0,.int .i64 0,.af,.int .i64 0,.int .i64 0]) (x:= .agg (t.ay v)) rfl rfl (t.MG M.cells.2) (by decide) (by omega) (by omega);have small:∀(u:AV)(rw:List (List AV)),Mk 1 st s u rw->(∀b,aL u=some b->aL V≠some b)->Mk 1 st s5 u rw/\∀b,aL u=some b->aL V5≠some b:=λu rw hu cY=>
   ⟨Mk.rW hu a2.ai λb y hb hy=>a3 b y (cY b hb) hy,λb hb e=>by have p1:=a4 b e;have p2:=hu.own.lt hw hb;omega⟩
 refine⟨s5,V5,a1,⟨a2,by simp[hl],λi t' r hi hr=> ?_⟩,a3,a4⟩;by_cases DM:i<ts.length
 .rw[Zc5 (by rw[hl];exact DM)]at hr;rw[Zc5 DM]at hi;obtain⟨u,e1,e2,e3⟩:=h.ez i t' r hi hr;obtain⟨f1,f2⟩:=small u _ e2 e3;exact⟨u,e1,f1,f2⟩
 .have fH:=(Za2.1 hi).1;simp at fH;obtain rfl:i=ts.length:=(by omega);rw[Zc4 (by rw[hl];exact Za3 _)]at hr;rw[Zc4 (Za3 _)]at hi;simp[hl]at hr hi;subst hi;subst hr;obtain⟨f1,f2⟩:=small v _ M hv;exact⟨v,rfl,f1,f2⟩
def YO(s:List Nat):List AV:=[.str s]
def Nc(x k:Nat):Bool:=decide (x / 2 ^ (6+2*k) % 4=1)
theorem avV(x k:Nat):Nc x k=decide (x / 2 ^ (6+2*k) % 4=1):=by rw[Nc]
def Gd(x k:Nat):List (List Nat):=((List.range k).filter (Nc x)).map bQ
theorem ajQ(x k:Nat):Gd x (k+1)=Gd x k++(if Nc x k=true then [bQ k]else []):=by
 unfold Gd;rw[Zg4,Zk3,Zc8];congr 1;cases h:Nc x k with
 |true=>simp[h]
 |false=>simp[h]
theorem au0(x k:Nat):(Gd x k).length<=k:=by have:=Zk1 (Nc x) (List.range k);rw[Zr3]at this;unfold Gd;rw[Za4];exact this
structure GI(s0 s:St)(p8:Pos)(g:aN)(x k:Nat)(v:AV):Prop where
 out:Mk 1 s0 s v ((Gd x k).map YO)
 h8:s.heap.get p8=some (.cells (g.ay v) 0)
 n8:aL v≠some p8
theorem akB(hc:bw c){g:aN}{x:Nat}(hx:x<1000000){s0:St}{p8:Pos}(h8:s0.next.toNat<=p8.toNat)(x0 x1 x4 x5 x6:AV)
  :∀(m k:Nat)(s:St)(v:AV),GI s0 s p8 g x k v->k+m=4->
  ∃s' v',GI s0 s' p8 g x 4 v'/\∀(F:Nat)(k4:List AV->St->Option (AV×St))(f:Nat),m<f->iP c F k4 f [x0,x1,x4,x5,x6,.int .i64 (x:Int),.ptr p8 0,.int .i64 (k:Int)] s=k4 [x0,x1,x4,x5,x6,.ptr p8 0] s':=by
 intro m;induction m with
 |zero=>
  intro k s v hT h1;obtain rfl:k=4:=by omega
  refine⟨s,v,hT,λF k4 f hf=> ?_⟩;obtain⟨f,rfl⟩:∃g,f=g+1:=⟨f - 1,by omega⟩
  rw[uv];simp
 |succ m ih=>
  intro k s v hT h1;have hw:=hT.out.ai.wf;have h:k<4:=by omega
  . have hx0:(0:Int)<=(x:Int):=Int.natCast_nonneg x;have w:ax .i64 ((k:Int)+1)=((k+1:Nat):Int):=wrap64 (by omega) (by omega);have w1:ax .i64 (2*(k:Int))=2*(k:Int):=wrap64 (by omega) (by omega);have w2:ax .i64 (6+2*(k:Int))=6+2*(k:Int):=wrap64 (by omega) (by omega);have e2:6+2*(k:Int)=((6+2*k:Nat):Int):=(by omega);have hk64:6+2*k<=64:=(by omega);have sr:∀(s:St)(K:AV->St->Option (AV×St)),aq c (.bin .shr .num) [.int .i64 (x:Int),.int .i64 (6+2*(k:Int))] s K=K (.int .i64 ((x:Int) / 2 ^ (6+2*k))) s:=λs K=>by rw[e2];exact aim hk64 s K
    have p0:(0:Int)<=(x:Int) / 2 ^ (6+2*k):=Zs2 hx0 (Int.le_of_lt (Int.pow_pos (by decide)));have r1:=λ(s:St)(K:AV->St->Option (AV×St))=>di (c:=c) (k:= .i64) (a:=(x:Int) / 2 ^ (6+2*k)) (b:=4) p0 (by decide) s K
    have d1:decide ((x:Int) / 2 ^ (6+2*k) % 4=1)=decide (x / 2 ^ (6+2*k) % 4=1):=(by have:((x:Int) / 2 ^ (6+2*k) % 4=1)↔(x / 2 ^ (6+2*k) % 4=1):=(by rw[show((x:Int) / 2 ^ (6+2*k) % 4)=((x / 2 ^ (6+2*k) % 4:Nat):Int)by simp];omega);exact decide_eq_decide.2 this);have c8:(g.ay v)[8]? =some v:=rfl;have fin:=avV x k;have N:=An hc k (by omega) s hw;have hd:decide ((k:Int)<4)=true:=Za0 (by omega);cases hq:Nc x k with
    |   true=>
        have hrl:((Gd x k).map YO).length<=4:=(by rw[Za4];have:=au0 x k;omega);obtain⟨s5,v5,a1,a2,a3,a4⟩:=hT.out.push (c:=c) (R:=AV×St) (bytes:=16) (z:=[.str []]) (x:= .str (bQ k)) rfl rfl rfl (by decide) (by omega) (by omega);have e:(Gd x (k+1)).map YO=(Gd x k).map YO++[(.str (bQ k):AV).cells]:=(by rw[ajQ,Zb6 hq,Zc8];rfl);rw[<-e]at a2;have y8:=a3 p8 _ hT.n8 hT.h8;have l8:=hw p8 _ hT.h8;have b8:aL v5≠some p8:=λe=>by have:=a4 _ e;omega
        have hw5:=a2.ai.wf;have l8':=hw5 p8 _ y8;have M:=a2.store (p:=p8) (b:= .cells (g.ay v5) 0) h8 l8' b8;obtain⟨vc,v1⟩:=a2.cells;have bE:∀(K:AV->St->Option (AV×St)),aq c (.store 1) [.ptr p8 8,v5] s5 K=K .undef (bh s5 p8 (.cells (g.ay v5) 0)):=λK=>by rw[cm c K s5 1 p8 8 v5 (g.ay v) y8 (by rw[vc];rfl) (by simp[aN.ay]) (by rw[vc];exact v1),vc];rfl
        obtain⟨s',v',b1,b2⟩:=ih (k+1) _ v5 ⟨M,bH _ _ _,b8⟩ (by omega);refine⟨s',v',b1,λF k4 f hf=> ?_⟩;obtain⟨f,rfl⟩:∃g,f=g+1:=⟨f - 1,by omega⟩
        rw[<-b2 F k4 f (by omega),uv];rw[fin]at hq;simp[-au,hT.h8,hd,bR,sr,r1,d1,hq,c8,N,a1,bE,w,w1,w2]
    |   false=>
        have e:(Gd x (k+1))=(Gd x k):=(by rw[ajQ,Za7 (by rw[hq];decide),Zd9]);obtain⟨s',v',b1,b2⟩:=ih (k+1) s v ⟨by rw[e];exact hT.out,hT.h8,hT.n8⟩ (by omega);refine⟨s',v',b1,λF k4 f hf=> ?_⟩;obtain⟨f,rfl⟩:∃g,f=g+1:=⟨f - 1,by omega⟩
        rw[<-b2 F k4 f (by omega),uv];rw[fin]at hq;simp[-au,hd,bR,sr,r1,d1,hq,w,w1,w2]
def Hr(i:Nat):Nat:=25*i % 312+i / 12
def zA(i x:Nat):aN:=⟨bQ (Hr i),if x % 2=1 then bQ (x % 3)else [],if 4<x % 8 then bQ (x % 8)else [],((x % 4*500:Nat):Int),((x % 3:Nat):Int),if x % 3=2 then bQ (x % 5)else [],decide (x % 5=0),decide (x % 7=0),true,Gd x 4⟩
theorem ajR{es:Nat}{s0 s s':St}{v:AV}{rows:List (List AV)}(h:Mk es s0 s v rows)(hg:Grew s0 s')(hk:∀b x,aL v=some b->s.heap.get b=some x->s'.heap.get b=some x):Mk es s0 s' v rows:=
 ⟨h.jE,hg,h.own.mono hk,h.new,h.row,h.cap,λb hb=>hk b _ hb (h.tight b hb)⟩
structure GL(st s:St)(p4 p5:Pos)(V W:AV)(gs:List aN)(rows:List (List AV)):Prop where
 out:Mk 9 st s V rows
 len:rows.length=gs.length
 ez:∀(i:Nat)(g:aN)(r:List AV),gs[i]? =some g->rows[i]? =some r->∃v,r=g.ay v/\Mk 1 st s v (g.tg.map YO)/\∀b,aL v=some b->aL V≠some b/\b≠p4/\b≠p5
 h4:s.heap.get p4=some (.cells [.af,.af] 0)
 h5:s.heap.get p5=some (.cells [V,W] 0)
 n4:aL V≠some p4
 n5:aL V≠some p5
theorem au1(g:aN){v:AV}(h:aQ [v]=true):aQ (g.ay v)=true:=by
 simp only[aQ]at h;unfold aN.ay;simp only[aQ,AV.one,h,Zk5,Zj4]at*
theorem GL.push{st s s1:St}{p4 p5:Pos}{V W:AV}{gs:List aN}{rows:List (List AV)}(h:GL st s p4 p5 V W gs rows)(R5:p4≠p5)(J8:st.next.toNat<=p5.toNat){g:aN}{v:AV}(M:Mk 1 s s1 v (g.tg.map YO))(hlen:rows.length<=1000):
   ∃ s5 s6 V5,(∀(K:AV->St->Option (AV×St)),aq c (.buildSlice 9 1 [.str [],.str [],.str [],.int .i64 0,.int .i64 0,.str [],.bool false,.bool false,.af] [0]) [.agg (g.ay v)] s1 (λy t=>aq c (.append 9 112) [V,y] t K)=K V5 s5)/\
     (∀(K:AV->St->Option (AV×St)),aq c (.store 1) [.ptr p5 0,V5] s5 K=K .undef s6)/\s1.heap.get p5=some (.cells [V,W] 0)/\GL st s6 p4 p5 V5 W (gs++[g]) (rows++[g.ay v]):=by
 have hw:=h.out.ai.wf;have O1:=h.out.grow M.ai;obtain⟨s5,V5,a1,a2,a3,a4⟩:=O1.push (c:=c) (R:=AV×St) (bytes:=112) (z:=[.str [],.str [],.str [],.int .i64 0,.int .i64 0,.str [],.bool false,.bool false,.af]) (x:= .agg (g.ay v)) rfl rfl (au1 g M.cells.2) (by decide) (by omega) (by omega);have y4:=a3 p4 _ h.n4 (M.ai.get h.h4);have y5:=a3 p5 _ h.n5 (M.ai.get h.h5);have l4:=hw p4 _ h.h4;have l5:=hw p5 _ h.h5;have nx:=M.ai.next;have b4:aL V5≠some p4:=λe=>by have:=a4 _ e;omega
 have b5:aL V5≠some p5:=λe=>by have:=a4 _ e;omega
 have l5':=a2.ai.wf p5 _ y5;obtain⟨vc,v1⟩:=a2.cells;have bE:∀(K:AV->St->Option (AV×St)),aq c (.store 1) [.ptr p5 0,V5] s5 K=K .undef (bh s5 p5 (.cells [V5,W] 0)):=λK=>by rw[cm c K s5 1 p5 0 V5 [V,W] y5 (by rw[vc];rfl) (by simp) (by rw[vc];exact v1),vc];rfl
 have M6:=a2.store (p:=p5) (b:= .cells [V5,W] 0) J8 l5' b5;have Mv:=M.back h.out.jE h.out.ai;have vV:∀b,aL v=some b->aL V≠some b/\b≠p4/\b≠p5:=λb hb=>by
   have p1:=M.new b hb;refine⟨λe=> ?_,λe=> ?_,λe=> ?_⟩
   .have:=h.out.own.lt hw e;omega
   .subst e;omega
   .subst e;omega
 have small:∀(u:AV)(rw:List (List AV)),Mk 1 st s1 u rw->(∀b,aL u=some b->aL V≠some b/\b≠p4/\b≠p5)->Mk 1 st (bh s5 p5 (.cells [V5,W] 0)) u rw/\∀b,aL u=some b->aL V5≠some b/\b≠p4/\b≠p5:=λu rw hu cY=>by
   refine⟨ajR hu M6.ai λb y hb hy=> ?_,λb hb=>⟨λe=> ?_,(cY b hb).2⟩⟩
   .rw[aJ (λe=>(cY b hb).2.2 e.symm)];exact a3 b y (cY b hb).1 hy
   .have p1:=a4 b e;have p2:=hu.own.lt hu.ai.wf hb;omega
 refine⟨s5,_,V5,a1,bE,M.ai.get h.h5,⟨M6,by simp[h.len],λi t r hi YJ=> ?_,by rw[aJ (λe=>R5 e.symm)];exact y4,bH _ _ _,b4,b5⟩⟩;by_cases DM:i<gs.length
 .rw[Zc5 (by rw[h.len];exact DM)]at YJ;rw[Zc5 DM]at hi;obtain⟨u,e1,e2,e3⟩:=h.ez i t r hi YJ;obtain⟨f1,f2⟩:=small u _ (e2.grow M.ai) e3;exact⟨u,e1,f1,f2⟩
 .have fH:=(Za2.1 hi).1;simp at fH;obtain rfl:i=gs.length:=(by omega);rw[Zc4 (by rw[h.len];exact Za3 _)]at YJ;rw[Zc4 (Za3 _)]at hi;simp[h.len]at YJ hi;subst hi;subst YJ;obtain⟨f1,f2⟩:=small v _ Mv vV;exact⟨v,rfl,f1,f2⟩
def eR(k:IntKind)(z:Bool)(l:List Nat):AV:=ro 1 z (l.map λ(i:Nat)=>[.int k (i:Int)])
def EC(xs:List Nat)(k:Nat):List aN:=(List.range k).map λi=>zA i (xs.getD i 0)
theorem apS(xs:List Nat)(k:Nat)(h:k<xs.length):EC xs (k+1)=EC xs k++[zA k xs[k]]:=by
 unfold EC;rw[Zg4,Zc8];simp[Zb3,h]
theorem MN(xs:List Nat)(k:Nat):(EC xs k).length=k:=by simp[EC]
def zG:List AV:=[.str [],.str [],.str [],.int .i64 0,.int .i64 0,.str [],.bool false,.bool false,.af]
theorem tW(s:St)(K:AV->St->Option (AV×St)):aq c (.alloc [.str [],.str [],.str [],.int .i64 0,.int .i64 0,.str [],.bool false,.bool false,.af]) [] s K=K (.ptr s.next 0) (ah s (.cells zG 0)):=rfl
theorem tX(nm:List Nat)(u y:Int)(b d:Bool)(s:St)(K:AV->St->Option (AV×St)):aq c (.build [.str [],.str [],.str [],.int .i64 0,.int .i64 0,.str [],.bool false,.bool false,.af] [(0,1),(3,1),(4,1),(6,1),(7,1)]) [.str nm,.int .i64 u,.int .i64 y,.bool b,.bool d] s K=K (.agg [.str nm,.str [],.str [],.int .i64 u,.int .i64 y,.str [],.bool b,.bool d,.af]) s:=rfl
theorem tY(nm:List Nat)(u y:Int)(b d:Bool)(s:St)(K:AV->St->Option (AV×St)):aq c (.store 9) [.ptr s.next 0,.agg [.str nm,.str [],.str [],.int .i64 u,.int .i64 y,.str [],.bool b,.bool d,.af]] (ah s (.cells zG 0)) K=K .undef (ah s (.cells [.str nm,.str [],.str [],.int .i64 u,.int .i64 y,.str [],.bool b,.bool d,.af] 0)):=
 cr c K s 9 (.agg [.str nm,.str [],.str [],.int .i64 u,.int .i64 y,.str [],.bool b,.bool d,.af]) zG rfl rfl rfl
theorem vX(nm r ct dt z:List Nat)(u y:Int)(b d:Bool)(s:St)(K:AV->St->Option (AV×St)):aq c (.store 1) [.ptr s.next 1,.str z] (ah s (.cells [.str nm,.str r,.str ct,.int .i64 u,.int .i64 y,.str dt,.bool b,.bool d,.af] 0)) K=K .undef (ah s (.cells [.str nm,.str z,.str ct,.int .i64 u,.int .i64 y,.str dt,.bool b,.bool d,.af] 0)):=mU s _ 1 (.str z) (by simp) rfl rfl K
theorem vY(nm r ct dt z:List Nat)(u y:Int)(b d:Bool)(s:St)(K:AV->St->Option (AV×St)):aq c (.store 1) [.ptr s.next 2,.str z] (ah s (.cells [.str nm,.str r,.str ct,.int .i64 u,.int .i64 y,.str dt,.bool b,.bool d,.af] 0)) K=K .undef (ah s (.cells [.str nm,.str r,.str z,.int .i64 u,.int .i64 y,.str dt,.bool b,.bool d,.af] 0)):=mU s _ 2 (.str z) (by simp) rfl rfl K
theorem vZ(nm r ct dt z:List Nat)(u y:Int)(b d:Bool)(s:St)(K:AV->St->Option (AV×St)):aq c (.store 1) [.ptr s.next 5,.str z] (ah s (.cells [.str nm,.str r,.str ct,.int .i64 u,.int .i64 y,.str dt,.bool b,.bool d,.af] 0)) K=K .undef (ah s (.cells [.str nm,.str r,.str ct,.int .i64 u,.int .i64 y,.str z,.bool b,.bool d,.af] 0)):=mU s _ 5 (.str z) (by simp) rfl rfl K
theorem agj(i x:Nat)(v:AV):(zA i x).ay v=[.str (bQ (Hr i)),.str (if x % 2=1 then bQ (x % 3)else []),.str (if 4<x % 8 then bQ (x % 8)else []),.int .i64 ((x % 4*500:Nat):Int),.int .i64 ((x % 3:Nat):Int),.str (if x % 3=2 then bQ (x % 5)else []),.bool (decide (x % 5=0)),.bool (decide (x % 7=0)),v]:=rfl
theorem akC(hc:bw c){xs:List Nat}(hx:∀x∈xs,x<65536)(z:Bool)(x1:AV){st s:St}{p4 p5:Pos}(R5:p4≠p5)(J8:st.next.toNat<=p5.toNat){V W:AV}{rows:List (List AV)}{k:Nat}(hk:k<xs.length)(hk12:k<12)
   (h:GL st s p4 p5 V W (EC xs k) rows):∃s' V' wM,GL st s' p4 p5 V' W (EC xs (k+1)) wM/\∀(F:Nat)(_:5<=F)(k2:List AV->St->Option (AV×St))(f:Nat),
     gM c F k2 (f+1) [eR .u16 z xs,x1,.ptr p4 0,.ptr p5 0,.int .i64 (k:Int)] s=gM c F k2 f [eR .u16 z xs,x1,.ptr p4 0,.ptr p5 0,.int .i64 ((k+1:Nat):Int)] s':=by
 have hw:=h.out.ai.wf;have hx1:=hx _ (Zb9 hk);generalize Nd:xs[k]=x at hx1;have M0:Mk 1 s (ah s (.cells ((zA k x).ay .af) 0)) .af []:=Mk.start hw (Grew.ah hw _);obtain⟨s1,v1,hG,L⟩:=akB hc (g:=zA k x) (x:=x) (by omega) (s0:=s) (p8:=s.next) (Za3 _) (eR .u16 z xs) x1 (.ptr p4 0) (.ptr p5 0) (.int .i64 (k:Int)) 4 0 _ .af ⟨M0,aA _ _,λe=>(nomatch e)⟩ rfl;have M:Mk 1 s s1 v1 ((zA k x).tg.map YO):=hG.out;obtain⟨s5,s6,V5,a1,a2,a3,a4⟩:=h.push (c:=c) R5 J8 M (by rw[h.len,MN];omega);have e:EC xs k++[zA k x]=EC xs (k+1):=by rw[apS xs k hk,Nd]
 rw[e]at a4;refine⟨s6,V5,_,a4,λF hF k2 f=> ?_⟩;have L':∀k4:List AV->St->Option (AV×St),iP c F k4 F [eR .u16 z xs,x1,.ptr p4 0,.ptr p5 0,.int .i64 (k:Int),.int .i64 (x:Int),.ptr s.next 0,.int .i64 0] (ah s (.cells ((zA k x).ay .af) 0))=k4 [eR .u16 z xs,x1,.ptr p4 0,.ptr p5 0,.int .i64 (k:Int),.ptr s.next 0] s1:=λk4=>L F k4 F (by omega)
 clear a4 M M0 L;have lI:∀(K:AV->St->Option (AV×St))(s:St),aq c (.lenB .l) [eR .u16 z xs] s K=K (.int .i64 (xs.length:Int)) s:=λK s=>by unfold eR;rw[jL];simp
 have ix:∀(K:AV->St->Option (AV×St))(s:St),aq c (.idxA 1 none) [eR .u16 z xs,.int .i64 (k:Int)] s K=K (.fp (xs.map λ(i:Nat)=>[.int .u16 (i:Int)]) k 0) s:=λK s=>by unfold eR;rw[Tn];simp[hk]
 have ld:((xs.map λ(i:Nat)=>[AV.int .u16 (i:Int)])[k]?.bind λcs=>cs[0]?)=some (.int .u16 (x:Int)):=by simp[hk,Nd]
 have w0:ax .i64 (x:Int)=(x:Int):=wrap64 (by omega) (by omega);have N1:=An hc (Hr k) (by unfold Hr;omega) s hw;have Ge:cut ((zA k x).ay v1) 0 9=some ((zA k x).ay v1):=cQ rfl;have N2:∀(b:AB)(j:Nat)(i:Int),i=(j:Int)->j<1000000->c 69 [.int .i64 i] (ah s b)=some (.str (bQ j),ah s b):=λb j i e hj=>by rw[e];exact An hc j hj _ (bG hw)
 have N3:=λb=>N2 b (x % 3) ((x:Int) % 3) (by omega) (by omega)
 have N8:=λb=>N2 b (x % 8) ((x:Int) % 8) (by omega) (by omega)
 have N5:=λb=>N2 b (x % 5) ((x:Int) % 5) (by omega) (by omega)
 have eg:25*(k:Int) % 312+(k:Int) / 12=((Hr k:Nat):Int):=by unfold Hr;omega
 rw[<-eg]at N1;have YP:decide ((k:Int)<12)=true:=Za0 (by omega);have d5:decide ((x:Int) % 5=0)=decide (x % 5=0):=decide_eq_decide.2 (by omega);have d7:decide ((x:Int) % 7=0)=decide (x % 7=0):=decide_eq_decide.2 (by omega);have u4:((x % 4*500:Nat):Int)=(x:Int) % 4*500:=by omega
 have u3:((x % 3:Nat):Int)=(x:Int) % 3:=by omega
 simp only[agj]at a1 L' hG Ge;clear N2;have h8:=hG.h8;rw[agj]at h8;rw[u4,u3]at L' h8 a1 Ge;rw[By];by_cases c1:x % 2=1
 . by_cases c2:4<x % 8
   . by_cases c3:x % 3=2
     .  have e1:decide ((x:Int) % 2=1)=true:=Za0 (by omega);have e2:decide (4<(x:Int) % 8)=true:=Za0 (by omega);have e3:decide ((x:Int) % 3=2)=true:=Za0 (by omega);simp only[Zb6 c1,Zb6 c2,Zb6 c3]at L' h8 a1 Ge;simp (maxSteps:=2000000) (disch:=omega) [-au,-iF,-cL,-iq,-oP,tW,tX,tY,vX,vY,vZ,lI,ix,ld,hk,Nd,Za5,YP,tP,w0,di,iL,wrap64,N1,N3,N8,N5,d5,d7,e1,e2,e3,bR,L',a1,a2,a3,h8,Ge]
     .  have e1:decide ((x:Int) % 2=1)=true:=Za0 (by omega);have e2:decide (4<(x:Int) % 8)=true:=Za0 (by omega);have e3:decide ((x:Int) % 3=2)=false:=Za1 (by omega);simp only[Zb6 c1,Zb6 c2,Za7 c3]at L' h8 a1 Ge;simp (maxSteps:=2000000) (disch:=omega) [-au,-iF,-cL,-iq,-oP,tW,tX,tY,vX,vY,vZ,lI,ix,ld,hk,Nd,Za5,YP,tP,w0,di,iL,wrap64,N1,N3,N8,N5,d5,d7,e1,e2,e3,bR,L',a1,a2,a3,h8,Ge]
   . by_cases c3:x % 3=2
     .  have e1:decide ((x:Int) % 2=1)=true:=Za0 (by omega);have e2:decide (4<(x:Int) % 8)=false:=Za1 (by omega);have e3:decide ((x:Int) % 3=2)=true:=Za0 (by omega);simp only[Zb6 c1,Za7 c2,Zb6 c3]at L' h8 a1 Ge;simp (maxSteps:=2000000) (disch:=omega) [-au,-iF,-cL,-iq,-oP,tW,tX,tY,vX,vY,vZ,lI,ix,ld,hk,Nd,Za5,YP,tP,w0,di,iL,wrap64,N1,N3,N8,N5,d5,d7,e1,e2,e3,bR,L',a1,a2,a3,h8,Ge]
     .  have e1:decide ((x:Int) % 2=1)=true:=Za0 (by omega);have e2:decide (4<(x:Int) % 8)=false:=Za1 (by omega);have e3:decide ((x:Int) % 3=2)=false:=Za1 (by omega);simp only[Zb6 c1,Za7 c2,Za7 c3]at L' h8 a1 Ge;simp (maxSteps:=2000000) (disch:=omega) [-au,-iF,-cL,-iq,-oP,tW,tX,tY,vX,vY,vZ,lI,ix,ld,hk,Nd,Za5,YP,tP,w0,di,iL,wrap64,N1,N3,N8,N5,d5,d7,e1,e2,e3,bR,L',a1,a2,a3,h8,Ge]
 . by_cases c2:4<x % 8
   . by_cases c3:x % 3=2
     .  have e1:decide ((x:Int) % 2=1)=false:=Za1 (by omega);have e2:decide (4<(x:Int) % 8)=true:=Za0 (by omega);have e3:decide ((x:Int) % 3=2)=true:=Za0 (by omega);simp only[Za7 c1,Zb6 c2,Zb6 c3]at L' h8 a1 Ge;simp (maxSteps:=2000000) (disch:=omega) [-au,-iF,-cL,-iq,-oP,tW,tX,tY,vX,vY,vZ,lI,ix,ld,hk,Nd,Za5,YP,tP,w0,di,iL,wrap64,N1,N3,N8,N5,d5,d7,e1,e2,e3,bR,L',a1,a2,a3,h8,Ge]
     .  have e1:decide ((x:Int) % 2=1)=false:=Za1 (by omega);have e2:decide (4<(x:Int) % 8)=true:=Za0 (by omega);have e3:decide ((x:Int) % 3=2)=false:=Za1 (by omega);simp only[Za7 c1,Zb6 c2,Za7 c3]at L' h8 a1 Ge;simp (maxSteps:=2000000) (disch:=omega) [-au,-iF,-cL,-iq,-oP,tW,tX,tY,vX,vY,vZ,lI,ix,ld,hk,Nd,Za5,YP,tP,w0,di,iL,wrap64,N1,N3,N8,N5,d5,d7,e1,e2,e3,bR,L',a1,a2,a3,h8,Ge]
   . by_cases c3:x % 3=2
     .  have e1:decide ((x:Int) % 2=1)=false:=Za1 (by omega);have e2:decide (4<(x:Int) % 8)=false:=Za1 (by omega);have e3:decide ((x:Int) % 3=2)=true:=Za0 (by omega);simp only[Za7 c1,Za7 c2,Zb6 c3]at L' h8 a1 Ge;simp (maxSteps:=2000000) (disch:=omega) [-au,-iF,-cL,-iq,-oP,tW,tX,tY,vX,vY,vZ,lI,ix,ld,hk,Nd,Za5,YP,tP,w0,di,iL,wrap64,N1,N3,N8,N5,d5,d7,e1,e2,e3,bR,L',a1,a2,a3,h8,Ge]
     .  have e1:decide ((x:Int) % 2=1)=false:=Za1 (by omega);have e2:decide (4<(x:Int) % 8)=false:=Za1 (by omega);have e3:decide ((x:Int) % 3=2)=false:=Za1 (by omega);simp only[Za7 c1,Za7 c2,Za7 c3]at L' h8 a1 Ge;simp (maxSteps:=2000000) (disch:=omega) [-au,-iF,-cL,-iq,-oP,tW,tX,tY,vX,vY,vZ,lI,ix,ld,hk,Nd,Za5,YP,tP,w0,di,iL,wrap64,N1,N3,N8,N5,d5,d7,e1,e2,e3,bR,L',a1,a2,a3,h8,Ge]
def kC(i x:Nat):aE:=⟨fL i,((pT x:Nat):Int),((tA x:Nat):Int),((tB x:Nat):Int),true,(El x (tN x)).map λ(k:Nat)=>(k:Int),((x:Nat):Int),255 - ((x:Nat):Int)⟩
def sQ(xs:List Nat)(k:Nat):List aE:=(List.range k).map λi=>kC i (xs.getD i 0)
theorem apT(xs:List Nat)(k:Nat)(h:k<xs.length):sQ xs (k+1)=sQ xs k++[kC k xs[k]]:=by
 unfold sQ;rw[Zg4,Zc8];simp[Zb3,h]
theorem Ua(xs:List Nat)(k:Nat):(sQ xs k).length=k:=by simp[sQ]
def kA(xs:List Nat):Nat->Nat
 |0=>0
 |k+1=>kA xs k+tN (xs.getD k 0)
theorem agk(xs:List Nat):∀k,kA xs k<=k*16
 |0=>Za3 _
 |k+1=>by have:=agk xs k;have:=adw (xs.getD k 0);unfold kA;omega
theorem anC(i x:Nat)(v:AV):(kC i x).ay v=ir (fL i) (pT x:Nat) (tA x:Nat) (tB x:Nat) x v:=rfl
theorem asF(i x:Nat):(kC i x).kQ.map bC=(El x (tN x)).map afl:=by unfold kC;rw[Zi1];rfl
theorem QS.owner{es:Nat}{s:St}{v:AV}{rows:List (List AV)}(h:QS es s v rows)(h0:rows≠[]):∃b,aL v=some b:=by
 rcases h with⟨_,e⟩|⟨b,off,cap,cs,rfl,_⟩|⟨b,off,_,e⟩
 .exact absurd e h0
 . (refine⟨b,?_⟩;have:rows.length≠0:=λe=>h0 (Zc2 e));simp only[aL];rw[Za7 (λe=>this e.2)]
 .exact absurd e h0
structure LL(st sA s:St)(p3:Pos)(es:Nat)(V:AV)(rows:List (List AV))(W:AV->List AV):Prop where
 out:Mk es st s V rows
 kx:KX p3 sA s
 h3:s.heap.get p3=some (.cells (W V) 0)
 since:∀b,aL V=some b->sA.next.toNat<=b.toNat
theorem LL.ai{st sA s s':St}{p3:Pos}{es:Nat}{V:AV}{rows:List (List AV)}{W:AV->List AV}(h:LL st sA s p3 es V rows W)(g:Grew s s'):LL st sA s' p3 es V rows W:=
 ⟨h.out.grow g,h.kx.ai g,g.get h.h3,h.since⟩
theorem LL.push{st sA s:St}{p3:Pos}{es bytes i:Nat}{V:AV}{rows:List (List AV)}{W:AV->List AV}(h:LL st sA s p3 es V rows W)(hA:Wf sA)(h3A:p3.toNat<sA.next.toNat)(iQ:st.next.toNat<=p3.toNat)(hi:∀A B,(W A).set i B=W B)(fH:∀A,i<(W A).length)
   {z:List AV} {x:AV} (hz:z.length=es) (hx:x.cells.length=es) (h1:aQ x.cells=true) (dN:es≠0) (hb:(2*(rows.length+1)+768)*bytes<=281474976710656) (hn:rows.length<=4000000):
   ∃s5 s6 V5,(∀(K:AV->St->Option (AV×St)),aq c (.buildSlice es 1 z [0]) [x] s (λy q=>aq c (.append es bytes) [V,y] q K)=K V5 s5)/\(∀(K:AV->St->Option (AV×St)),aq c (.store 1) [.ptr p3 i,V5] s5 K=K .undef s6)/\
    LL st sA s6 p3 es V5 (rows++[x.cells]) W/\(∀(p:Pos)(b:AB),p≠p3->aL V≠some p->s.heap.get p=some b->s6.heap.get p=some b)/\(∀b,aL V5=some b->s.next.toNat<=b.toNat)/\s.next.toNat<=s6.next.toNat/\s5.heap.get p3=some (.cells (W V) 0):=by
 have hw:=h.out.ai.wf;obtain⟨s5,V5,a1,a2,a3,a4⟩:=h.out.push (c:=c) (R:=AV×St) (bytes:=bytes) hz hx h1 dN hb hn;have nV:aL V≠some p3:=λe=>by have:=h.since _ e;omega
 have y3:=a3 p3 _ nV h.h3;have n5:aL V5≠some p3:=λe=>by have:=a4 _ e;have:=hw _ _ h.h3;omega
 have l3:=a2.ai.wf p3 _ y3;obtain⟨vc,v1⟩:=a2.cells;obtain⟨b,hbo⟩:=QS.owner a2.own (by simp);have nx:s.next.toNat<=s5.next.toNat:=by have:=a4 b hbo;have:=a2.own.lt a2.ai.wf hbo;omega
 refine⟨s5,bh s5 p3 (.cells (W V5) 0),V5,a1,λK=> ?_,⟨a2.store iQ l3 n5,?_,bH _ _ _,λb hb=> ?_⟩,λp b hp hv hg=> ?_,a4,nx,y3⟩
 .rw[cm c K s5 1 p3 i V5 (W V) y3 (by rw[vc];rfl) (by have:=fH V;omega) (by rw[vc];exact v1),vc];rw[Ae _ _ (fH V),hi]
 .refine KX.store ⟨a2.ai.wf,Zb2 h.kx.next nx,λq y hq hy=> ?_⟩ l3 _;refine a3 q y (λe=> ?_) (h.kx.keep q y hq hy);have:=h.since _ e;have:=hA _ _ hy;omega
 .have:=a4 b hb;have:=h.kx.next;omega
 .rw[aJ (λe=>hp e.symm)];exact a3 p b hv hg
structure TL(st sA s:St)(p3:Pos)(V:AV)(ts:List aE)(rows:List (List AV))(W:AV->List AV):Prop where
 tab:TS st s V ts rows
 kx:KX p3 sA s
 h3:s.heap.get p3=some (.cells (W V) 0)
 since:TS.Since sA.next.toNat V rows
theorem TL.push{st sA s:St}{p3:Pos}{i:Nat}{V:AV}{ts:List aE}{rows:List (List AV)}{W:AV->List AV}(h:TL st sA s p3 V ts rows W)(hA:Wf sA)(h3A:p3.toNat<sA.next.toNat)(iQ:st.next.toNat<=p3.toNat)(hi:∀A B,(W A).set i B=W B)(fH:∀A,i<(W A).length)
   {t:aE} {v:AV} (M:Mk 1 st s v (t.kQ.map bC)) (hv:∀b,aL v=some b->aL V≠some b) (QI:∀b,aL v=some b->sA.next.toNat<=b.toNat) (hlen:ts.length<=1000):
   ∃ s5 s6 V5,(∀(K:AV->St->Option (AV×St)),aq c (.buildSlice 7 1 [.str [],.int .u8 0,.int .i64 0,.int .i64 0,.af,.int .i64 0,.int .i64 0] [0]) [.agg (t.ay v)] s (λy q=>aq c (.append 7 80) [V,y] q K)=K V5 s5)/\
     (∀(K:AV->St->Option (AV×St)),aq c (.store 1) [.ptr p3 i,V5] s5 K=K .undef s6)/\TL st sA s6 p3 V5 (ts++[t]) (rows++[t.ay v]) W/\(∀(p:Pos)(b:AB),p≠p3->aL V≠some p->s.heap.get p=some b->s6.heap.get p=some b)/\s5.heap.get p3=some (.cells (W V) 0):=by
 have hw:=h.tab.out.ai.wf;obtain⟨s5,V5,a1,a2,a3,a4⟩:=h.tab.push (c:=c) M hv hlen;have nV:aL V≠some p3:=λe=>by have:=h.since.1 _ e;omega
 have y3:=a3 p3 _ nV h.h3;have l3:=a2.out.ai.wf p3 _ y3;obtain⟨vc,v1⟩:=a2.out.cells;obtain⟨b,hbo⟩:=QS.owner a2.out.own (by simp);have nx:s.next.toNat<=s5.next.toNat:=by have:=a4 b hbo;have:=a2.out.own.lt a2.out.ai.wf hbo;omega
 have sn:TS.Since sA.next.toNat V5 (rows++[t.ay v]):=by
   refine⟨λb hb=>by have:=a4 b hb;have:=h.kx.next;omega,λj r u b hr h4 hb=> ?_⟩;by_cases hj:j<rows.length
   .rw[Zc5 hj]at hr;exact h.since.2 j r u b hr h4 hb
   .have hjl:=(Za2.1 hr).1;simp at hjl;obtain rfl:j=rows.length:=(by omega);rw[Zc4 (Za3 _)]at hr;simp at hr;subst hr;have:v=u:=(by simpa [aE.ay]using h4);subst this;exact QI b hb
 have k5:KX p3 sA s5:=⟨a2.out.ai.wf,Zb2 h.kx.next nx,λq y hq hy=>a3 q y (λe=>by
   have:=h.since.1 _ e;have:=hA _ _ hy;omega) (h.kx.keep q y hq hy)⟩
 have kS:KX p3 s5 (bh s5 p3 (.cells (W V5) 0)):=(KX.refl a2.out.ai.wf).store l3 _;have sn3:TS.Since (p3.toNat+1) V5 (rows++[t.ay v]):=⟨λb hb=>by have:=sn.1 b hb;omega,λj r u b h1 h2 h3=>by have:=sn.2 j r u b h1 h2 h3;omega⟩
 refine⟨s5,bh s5 p3 (.cells (W V5) 0),V5,a1,λK=> ?_,⟨a2.kx kS (wF h.tab.out.jE a2.out.ai iQ l3 _) sn3,k5.store l3 _,bH _ _ _,sn⟩,λp b hp hv hg=> ?_,y3⟩
 .rw[cm c K s5 1 p3 i V5 (W V) y3 (by rw[vc];rfl) (by have:=fH V;omega) (by rw[vc];exact v1),vc];rw[Ae _ _ (fH V),hi]
 .rw[aJ (λe=>hp e.symm)];exact a3 p b hv hg
def jC(zt zg zy zr:Bool)(xt xg xy xr:List Nat):List AV:=[eR .u8 zt xt,eR .u16 zg xg,eR .u8 zy xy,eR .u32 zr xr]
theorem UC{R:Type}(k:IntKind)(z:Bool)(l:List Nat)(K:AV->St->Option R)(s:St):aq c (.lenB .l) [eR k z l] s K=K (.int .i64 (l.length:Int)) s:=by unfold eR;rw[jL];simp
theorem alE{R:Type}(k k':IntKind)(z:Bool)(l:List Nat){i:Nat}(h:i<l.length)(K:AV->St->Option R)(s:St):aq c (.idxA 1 none) [eR k z l,.int k' (i:Int)] s (λv s'=>aq c (.load none) [v] s' K)=K (.int k (l[i]:Int)) s:=by
 unfold eR;simp[h]
theorem awK{a b d:Nat}(h:d=a+b)(hl:a+b<=1000000):ax .i64 ((a:Int)+(b:Int))=(d:Int):=(wrap64 (by omega) (by omega)).trans (by omega)
theorem apU(hc:bw c){xt:List Nat}(hx:∀x∈xt,x<256){zt zg zy zr:Bool}{xg xy xr:List Nat}{st sA s:St}{p1 p3:Pos}{V x2:AV}{rows:List (List AV)}(hA:Wf sA)(h1A:sA.heap.get p1=some (.cells (jC zt zg zy zr xt xg xy xr) 0))(h13:p1≠p3)(h3A:p3.toNat<sA.next.toNat)(iQ:st.next.toNat<=p3.toNat)
  {k:Nat} (hk:k<xt.length) (Ey:k<3) (h:TL st sA s p3 V (sQ xt k) rows (λV=>[V,.af,.af,.af,.af])):
  ∃s' V' wM,TL st sA s' p3 V' (sQ xt (k+1)) wM (λV=>[V,.af,.af,.af,.af])/\∀(F:Nat)(k2:List AV->St->Option (AV×St))(f:Nat),
   gO c F k2 (f+1) [.ptr p1 0,x2,.ptr p3 0,.int .i64 (kA xt k:Int),.int .i64 (k:Int)] s=gO c F k2 f [.ptr p1 0,x2,.ptr p3 0,.int .i64 (kA xt (k+1):Int),.int .i64 ((k+1:Nat):Int)] s':=by
 have Nd:=hx _ (Zb9 hk);have d1:decide ((k:Int)<(xt.length:Int))=true:=Za0 (by omega);have d2:decide ((k:Int)<3)=true:=Za0 (by omega);have w2:ax .i64 ((k:Int)+1)=((k+1:Nat):Int):=wrap64 (by omega) (by omega);have w3:ax .i64 (xt[k]:Int)=(xt[k]:Int):=wrap64 (by omega) (by omega);have hw:=h.tab.out.ai.wf;have h1:=h.kx.keep p1 _ h13 h1A;obtain⟨v,s1,C,M⟩:=asB hc k xt[k] (by omega) Nd s hw;have g1:=M.ai;have gn:=Grew.ah g1.wf (.cells ((kC k xt[k]).ay v) 0);have hM:Mk 1 st (ah s1 (.cells ((kC k xt[k]).ay v) 0)) v ((kC k xt[k]).kQ.map bC):=by rw[asF];exact(M.back h.tab.out.jE h.tab.out.ai).grow gn
 have T1:TL st sA (ah s1 (.cells ((kC k xt[k]).ay v) 0)) p3 V (sQ xt k) rows (λV=>[V,.af,.af,.af,.af]):=
  ⟨h.tab.rW (h.tab.out.ai.trans (g1.trans gn)) λb x _ _ hb=>gn.get (g1.get hb),h.kx.ai (g1.trans gn),gn.get (g1.get h.h3),h.since⟩
 obtain⟨s5,s6,V5,a1,a2,a3,a4,a5⟩:=T1.push (c:=c) (i:=0) hA h3A iQ (λA B=>rfl) (λA=>by simp) hM (λb hb e=>by
  have p1:=M.new b hb;have p2:=h.tab.out.own.lt hw e;omega) (λb hb=>by have:=M.new b hb;have:=h.kx.next;omega) (by rw[Ua];omega)
 have p6:s6.heap.get s1.next=some (.cells ((kC k xt[k]).ay v) 0):=a4 s1.next _ (λe=>by have:=h.kx.next;have:=g1.next;rw[<-e]at h3A;omega) (λe=>by
  have p2:=h.tab.out.own.lt hw e;have:=g1.next;omega) (aA _ _)
 have e:=apT xt k hk;rw[<-e]at a3;refine⟨s6,V5,_,a3,λF k2 f=> ?_⟩;have hs:=MJ hc (l:=(kC k xt[k]).ay v) (sh:=((pT xt[k]:Nat):Int)) (a:=((tA xt[k]:Nat):Int)) (b:=((tB xt[k]:Nat):Int)) rfl rfl rfl (by have:=ahi xt[k];omega) (by have:=ahj xt[k];omega) s6 a3.tab.out.ai.wf;rw[aab]at hs;have hS:kA xt (k+1)=kA xt k+tN xt[k]:=by
  rw[kA];simp[Zb3,hk]
 have w1:ax .i64 ((kA xt k:Int)+(tN xt[k]:Int))=((kA xt (k+1):Nat):Int):=awK hS (by have:=agk xt k;have:=adw xt[k];exact Zb2 (Nat.add_le_add ‹_› ‹_›) (by omega));have lI:=λ(K:AV->St->Option (AV×St))(s:St)=>UC (c:=c) .u8 zt xt K s
 have aI:=λ(K:AV->St->Option (AV×St))(s:St)=>alE (c:=c) .u8 .i64 zt xt hk K s
 have c0:(jC zt zg zy zr xt xg xy xr)[0]? =some (eR .u8 zt xt):=rfl;have cu:cut ((kC k xt[k]).ay v) 0 7=some ((kC k xt[k]).ay v):=cQ rfl;rw[<-anC]at C;have R6:∀(K:AV->St->Option (AV×St)),aq c (.store 7) [.ptr s1.next 0,.agg ((kC k xt[k]).ay v)] (ah s1 (.cells [.str [],.int .u8 0,.int .i64 0,.int .i64 0,.af,.int .i64 0,.int .i64 0] 0)) K=K .undef (ah s1 (.cells ((kC k xt[k]).ay v) 0)):=λK=>cr c K s1 7 (.agg ((kC k xt[k]).ay v)) [.str [],.int .u8 0,.int .i64 0,.int .i64 0,.af,.int .i64 0,.int .i64 0] rfl rfl ((kC k xt[k]).MG M.cells.2)
 have h3n:=T1.h3;have g6:=aA s1 (.cells ((kC k xt[k]).ay v) 0);generalize (kC k xt[k]).ay v=tc at*
 generalize kA xt (k+1)=S1 at*
 clear hS e T1 a3 a4 hM M h;rw[Bz];simp (disch:=omega) [-au,Za5,h1,lI,aI,c0,hk,Ey,d1,d2,w3,C,R6,h3n,g6,cu,a1,a2,a5,p6,hs,w1,w2]
theorem apV(hc:bw c){xt:List Nat}(hx:∀x∈xt,x<256)(hl:xt.length<=9223372036854775807){zt zg zy zr:Bool}{xg xy xr:List Nat}{st sA:St}{p1 p3:Pos}{x2:AV}(hA:Wf sA)(h1A:sA.heap.get p1=some (.cells (jC zt zg zy zr xt xg xy xr) 0))(h13:p1≠p3)(h3A:p3.toNat<sA.next.toNat)(iQ:st.next.toNat<=p3.toNat):
  ∀(m k:Nat)(s:St)(V:AV)(rows:List (List AV)),k+m=min xt.length 3->TL st sA s p3 V (sQ xt k) rows (λV=>[V,.af,.af,.af,.af])->
  ∃ s' V' wM,TL st sA s' p3 V' (sQ xt (min xt.length 3)) wM (λV=>[V,.af,.af,.af,.af])/\∀(F:Nat)(k2:List AV->St->Option (AV×St))(f:Nat),m<f->
    gO c F k2 f [.ptr p1 0,x2,.ptr p3 0,.int .i64 (kA xt k:Int),.int .i64 (k:Int)] s=k2 [.ptr p1 0,x2,.ptr p3 0,.int .i64 (kA xt (min xt.length 3):Int)] s':=by
 intro m;induction m with
 |zero=>
  intro k s V rows hk h;obtain rfl:k=min xt.length 3:=by omega
  refine⟨s,V,rows,h,λF k2 f hf=> ?_⟩;obtain⟨f,rfl⟩:∃g,f=g+1:=⟨f - 1,by omega⟩
  have h1:=h.kx.keep p1 _ h13 h1A;have c0:(jC zt zg zy zr xt xg xy xr)[0]? =some (eR .u8 zt xt):=rfl;have lI:=λ(K:AV->St->Option (AV×St))(s:St)=>UC (c:=c) .u8 zt xt K s
  generalize kA xt (min xt.length 3)=S at*
  rw[Bz];by_cases h3:xt.length<=3
  .have e:min xt.length 3=xt.length:=(by omega);rw[e];simp[h1,c0,lI]
  .have e:min xt.length 3=3:=(by omega);have hd:decide ((3:Int)<(xt.length:Int))=true:=Za0 (by omega);rw[e];simp[h1,c0,lI,hd]
 |succ m ih=>
  intro k s V rows hk h;obtain⟨s1,V1,r1,h1,e1⟩:=apU (x2:=x2) hc hx hA h1A h13 h3A iQ (k:=k) (by omega) (by omega) h;obtain⟨s2,V2,r2,h2,e2⟩:=ih (k+1) s1 V1 r1 (by omega) h1;refine⟨s2,V2,r2,h2,λF k2 f hf=> ?_⟩;obtain⟨f,rfl⟩:∃g,f=g+1:=⟨f - 1,by omega⟩
  rw[e1 F k2 f,e2 F k2 f (by omega)]
theorem ajS{k:Nat}(h:k<=1000000):ax .i64 ((k:Int)+1)=((k+1:Nat):Int):=wrap64 (by omega) (by omega)
theorem anD{x:Nat}(h:x<=4294967296):ax .i64 (x:Int)=(x:Int):=wrap64 (by omega) (by omega)
def Hs(xg:List Nat)(k:Nat):List Int:=(List.range k).map λi=>((xg.getD i 0 / 3 % 4:Nat):Int)
theorem apW(xg:List Nat)(k:Nat)(h:k<xg.length):Hs xg (k+1)=Hs xg k++[((xg[k] / 3 % 4:Nat):Int)]:=by
 unfold Hs;rw[Zg4,Zc8];simp[Zb3,h]
theorem MM(xg:List Nat)(k:Nat):(Hs xg k).length=k:=by simp[Hs]
theorem anE{xg:List Nat}(hx:∀x∈xg,x<65536){zt zg zy zr:Bool}{xt xy xr:List Nat}{st sA:St}{p1 p3:Pos}{x2 V1 V2 V3:AV}{n:Nat}(hn:n<=xg.length)(Ik:n<=1000)(hA:Wf sA)(h1A:sA.heap.get p1=some (.cells (jC zt zg zy zr xt xg xy xr) 0))(h13:p1≠p3)(h3A:p3.toNat<sA.next.toNat)(iQ:st.next.toNat<=p3.toNat)
  (l2:∀(K:AV->St->Option (AV×St))(s':St),aq c (.lenB .l) [V2] s' K=K (.int .i64 (n:Int)) s'):
  ∀(m k:Nat)(s:St)(V:AV),k+m=n->LL st sA s p3 1 V ((Hs xg k).map bC) (λA=>[V1,V2,V3,A,.af])->
  ∃s' V',LL st sA s' p3 1 V' ((Hs xg n).map bC) (λA=>[V1,V2,V3,A,.af])/\∀(F:Nat)(k4:List AV->St->Option (AV×St))(f:Nat),m<f->
   j7 c F k4 f [.ptr p1 0,x2,.ptr p3 0,.int .i64 (k:Int)] s=k4 [.ptr p1 0,x2,.ptr p3 0] s':=by
 intro m;induction m with
 |zero=>
  intro k s V hk h;obtain rfl:k=n:=by omega
  refine⟨s,V,h,λF k4 f hf=> ?_⟩;obtain⟨f,rfl⟩:∃g,f=g+1:=⟨f - 1,by omega⟩
  rw[BA];simp[h.h3,l2]
 |succ m ih=>
  intro k s V hk h;have hkn:k<n:=by omega
  have ML:k<xg.length:=by omega
  have Nd:=hx _ (Zb9 ML);obtain⟨v,hv⟩:∃v:Nat,v=xg[k] / 3 % 4:=⟨_,rfl⟩
  have E:(xg[k]:Int) / 3 % 4=(v:Int):=by omega
  have h1:=h.kx.keep p1 _ h13 h1A;obtain⟨s5,s6,V5,a1,a2,a3,a4,a5,a6,a7⟩:=h.push (c:=c) (bytes:=8) (i:=3) (z:=[.int .i64 0]) (x:= .int .i64 (v:Int)) hA h3A iQ (λA B=>rfl) (λA=>by simp) rfl rfl rfl (by decide) (by rw[Za4,MM];omega) (by rw[Za4,MM];omega);have e:(Hs xg k).map bC++[(.int .i64 (v:Int):AV).cells]=(Hs xg (k+1)).map bC:=by rw[apW xg k ML,Zc8,hv];rfl
  rw[e]at a3;obtain⟨s7,V7,b1,b2⟩:=ih (k+1) s6 V5 (by omega) a3;refine⟨s7,V7,b1,λF k4 f hf=> ?_⟩;obtain⟨f,rfl⟩:∃g,f=g+1:=⟨f - 1,by omega⟩
  have b3:=b2 F k4 f (by omega);have aI:=λ(K:AV->St->Option (AV×St))(s:St)=>alE (c:=c) .u16 .i64 zg xg ML K s
  have c1:(jC zt zg zy zr xt xg xy xr)[1]? =some (eR .u16 zg xg):=rfl;have h3n:=h.h3;clear b2 ih a3 a4 a5 a6 e hv;have k6:k<=1000000:=by omega
  have x6:xg[k]<=4294967296:=by omega
  have w2:=ajS k6;have w3:=anD x6;rw[<-b3,BA];simp (disch:=omega) [-au,-iq,-oP,di,iL,Za5,Zb4,h1,h3n,l2,aI,c1,hkn,w3,E,a1,a2,a7,w2]
def Cg(ts:List aE)(gs:List aN)(xr:List Nat):Nat->List Rl
 |0=>[]
 |k+1=>Cg ts gs xr k++(if(iC ts gs (xr.getD k 0)).2=true then [(iC ts gs (xr.getD k 0)).1]else [])
theorem Ub(ts:List aE)(gs:List aN)(xr:List Nat):∀k,(Cg ts gs xr k).length<=k
 |0=>Za3 _
 |k+1=>by have:=Ub ts gs xr k;unfold Cg;rw[Zd6];split<;>simp<;>omega
theorem asG{R:Type}(k k':IntKind)(z:Bool)(l:List Nat){i:Nat}(h:i<l.length)(K:AV->Option R)(t:T AB):eX (.idxA 1 none) [eR k z l,.int k' (i:Int)] (λv=>jI (.load none) [v] t (λ_=>true) K)=K (.int k (l[i]:Int)):=by
 unfold eR;simp[h]
theorem asH{R:Type}(s:St)(K:AV->AB->Option R):U9 (.alloc [.int .u8 0,.int .i64 0,.str [],.str [],.str [],.int .i64 0]) [] s K=K (.ptr s.next 0) (.cells [.int .u8 0,.int .i64 0,.str [],.str [],.str [],.int .i64 0] 0):=rfl
theorem anF(hc:bw c){xr:List Nat}(hx:∀x∈xr,x<4294967296)(hl:xr.length<=9223372036854775807){zt zg zy zr:Bool}{xt xg xy:List Nat}{st sA:St}{p1 p3:Pos}{x2 V1 V2 V3 V4:AV}(hA:Wf sA)(h1A:sA.heap.get p1=some (.cells (jC zt zg zy zr xt xg xy xr) 0))(h13:p1≠p3)(h3A:p3.toNat<sA.next.toNat)(iQ:st.next.toNat<=p3.toNat)
  {ts:List aE} {gs:List aN} {r1 r2:List (List AV)} (hT:TS st sA V1 ts r1) (sT:TS.Since (p3.toNat+1) V1 r1) (hG:GS st sA V2 gs r2) (sG:GS.Since (p3.toNat+1) V2 r2) (lt:ts.length<=1000) (lg:gs.length<=1000)
  (hz:∀t∈ts,0<n7 t.sh t.a t.b/\n7 t.sh t.a t.b<=1000) (ha:∀t∈ts,(0<=t.a/\t.a<=1000000)/\0<=t.b/\t.b<=1000000):
  ∀(m k:Nat)(s:St)(V:AV),k+m=min xr.length 12->LL st sA s p3 6 V ((Cg ts gs xr k).map Rl.cells) (λA=>[V1,V2,V3,V4,A])->
  ∃ s' V',LL st sA s' p3 6 V' ((Cg ts gs xr (min xr.length 12)).map Rl.cells) (λA=>[V1,V2,V3,V4,A])/\∀(F:Nat)(k6:List AV->St->Option (AV×St))(f:Nat),m<f->
    j8 c F k6 f [.ptr p1 0,x2,.ptr p3 0,.int .i64 (k:Int)] s=k6 [x2,.ptr p3 0] s':=by
 have c3:(jC zt zg zy zr xt xg xy xr)[3]? =some (eR .u32 zr xr):=rfl;have lI:=λ(K:AV->St->Option (AV×St))(s:St)=>UC (c:=c) .u32 zr xr K s
 intro m;induction m with
 |zero=>
  intro k s V hk h;obtain rfl:k=min xr.length 12:=by omega
  refine⟨s,V,h,λF k6 f hf=> ?_⟩;obtain⟨f,rfl⟩:∃g,f=g+1:=⟨f - 1,by omega⟩
  have h1:=h.kx.keep p1 _ h13 h1A;rw[uw];by_cases h3:xr.length<=12
  .have e:min xr.length 12=xr.length:=(by omega);rw[e];simp[h1,c3,lI]
  .have e:min xr.length 12=12:=(by omega);have hd:decide ((12:Int)<(xr.length:Int))=true:=Za0 (by omega);rw[e];simp[h1,c3,lI,hd]
 |succ m ih=>
  intro k s V hk h;have ML:k<xr.length:=by omega
  have hk12:k<12:=by omega
  have Nd:=hx _ (Zb9 ML);have kM:k<=1000000:=by omega
  have d12:decide ((k:Int)<12)=true:=Za0 (by omega);have nw:=λ(K:AV->AB->Option (AV×St))=>asH s K
  have xM:xr[k]<=4294967296:=by omega
  have h1:=h.kx.keep p1 _ h13 h1A;have gr:=h.out.ai;have A:=asD hc (V3:=V3) (V4:=V4) (V5:=V) (hT.kx h.kx gr sT) (hG.kx h.kx gr sG) lt lg hz ha xr[k] Nd;have gn:=Grew.ah gr.wf (.cells (iC ts gs xr[k]).1.cells 0);have hS:Cg ts gs xr (k+1)=Cg ts gs xr k++(if(iC ts gs xr[k]).2=true then [(iC ts gs xr[k]).1]else []):=by
    rw[Cg];simp[Zb3,ML]
  have R6:∀(K:AV->St->Option (AV×St)),aq c (.store 6) [.ptr s.next 0,.agg (iC ts gs xr[k]).1.cells] (ah s (.cells [.int .u8 0,.int .i64 0,.str [],.str [],.str [],.int .i64 0] 0)) K=K .undef (ah s (.cells (iC ts gs xr[k]).1.cells 0)):=λK=>cr c K s 6 (.agg (iC ts gs xr[k]).1.cells) [.int .u8 0,.int .i64 0,.str [],.str [],.str [],.int .i64 0] rfl rfl rfl
  have aP:=λ(K:AV->Option (AV×St))(t:T AB)=>asG .u32 .i64 zr xr ML K t
  have hg:=h.ai gn;have h3n:=h.h3;have h3g:=hg.h3;have ll:=Ub ts gs xr k;have cu5:∀A B D E G:AV,cut [A,B,D,E,G] 0 5=some [A,B,D,E,G]:=λA B D E G=>cQ rfl
  have gx:=aA s (.cells (iC ts gs xr[k]).1.cells 0);by_cases hb:(iC ts gs xr[k]).2=true
  . rw[hb]at A;rw[Zb6 hb]at hS;obtain⟨s5,s6,V5,a1,a2,a3,a4,a5,a6,a7⟩:=hg.push (c:=c) (bytes:=72) (i:=4) (z:=[.int .u8 0,.int .i64 0,.str [],.str [],.str [],.int .i64 0]) (x:= .agg (iC ts gs xr[k]).1.cells) hA h3A iQ (λA B=>rfl) (λA=>by simp) rfl rfl rfl (by decide) (by rw[Za4];omega) (by rw[Za4];omega);have e:(Cg ts gs xr k).map Rl.cells++[(.agg (iC ts gs xr[k]).1.cells:AV).cells]=(Cg ts gs xr (k+1)).map Rl.cells:=(by rw[hS,Zc8];rfl);rw[e]at a3;obtain⟨s7,V7,b1,b2⟩:=ih (k+1) s6 V5 (by omega) a3;refine⟨s7,V7,b1,λF k6 f hf=> ?_⟩;obtain⟨f,rfl⟩:∃g,f=g+1:=⟨f - 1,by omega⟩
    have b3:=b2 F k6 f (by omega);generalize (iC ts gs xr[k]).1=R at*
    clear b2 ih a3 a4 a5 a6 e hS hb ll hg h;have w2:=ajS kM;have w3:=anD xM;rw[<-b3,uw];simp (disch:=omega) [-au,bR,Za5,Zb4,h1,h3n,h3g,lI,aP,c3,ML,d12,nw,w3,A,R6,cu5,gx,a1,a2,a7,w2]
  . have dY:(iC ts gs xr[k]).2=false:=(by simpa using hb);rw[dY]at A;rw[Za7 hb,Zd9]at hS;rw[<-hS]at hg;obtain⟨s7,V7,b1,b2⟩:=ih (k+1) _ V (by omega) hg;refine⟨s7,V7,b1,λF k6 f hf=> ?_⟩;obtain⟨f,rfl⟩:∃g,f=g+1:=⟨f - 1,by omega⟩
    have b3:=b2 F k6 f (by omega);generalize (iC ts gs xr[k]).1=R at*
    clear b2 ih hS hb dY ll hg h;have w2:=ajS kM;have w3:=anD xM;rw[<-b3,uw];simp (disch:=omega) [-au,bR,Za5,Zb4,h1,h3n,h3g,lI,aP,c3,ML,d12,nw,w3,A,R6,cu5,gx,w2]
theorem akD(hc:bw c){xs:List Nat}(hx:∀x∈xs,x<65536)(hl:xs.length<=9223372036854775807)(z:Bool)(x1:AV){st:St}{p4 p5:Pos}(R5:p4≠p5)(J8:st.next.toNat<=p5.toNat){W:AV}:∀(m k:Nat)(s:St)(V:AV)(rows:List (List AV)),k+m=min xs.length 12->
  GL st s p4 p5 V W (EC xs k) rows->∃s' V' wM,GL st s' p4 p5 V' W (EC xs (min xs.length 12)) wM/\∀(F:Nat)(_:5<=F)(k2:List AV->St->Option (AV×St))(f:Nat),m<f->
    gM c F k2 f [eR .u16 z xs,x1,.ptr p4 0,.ptr p5 0,.int .i64 (k:Int)] s=k2 [x1,.ptr p4 0,.ptr p5 0] s':=by
 intro m;induction m with
 |zero=>
  intro k s V rows hk h;obtain rfl:k=min xs.length 12:=by omega
  refine⟨s,V,rows,h,λF _ k2 f hf=> ?_⟩;obtain⟨f,rfl⟩:∃g,f=g+1:=⟨f - 1,by omega⟩
  have lI:∀(K:AV->St->Option (AV×St))(s:St),aq c (.lenB .l) [eR .u16 z xs] s K=K (.int .i64 (xs.length:Int)) s:=λK s=>by unfold eR;rw[jL];simp
  rw[By];by_cases h12:xs.length<=12
  .have e:min xs.length 12=xs.length:=(by omega);rw[e];simp[lI]
  .have e:min xs.length 12=12:=(by omega);rw[e];have hd:decide (12<xs.length)=true:=Za0 (by omega);have hd2:(12:Nat)<xs.length:=(by omega);have hd3:decide ((12:Int)<(xs.length:Int))=true:=Za0 (by omega);simp[lI,hd3]
 |succ m ih=>
  intro k s V rows hk h;obtain⟨s1,V1,r1,h1,e1⟩:=akC hc hx z x1 R5 J8 (k:=k) (by omega) (by omega) h;obtain⟨s2,V2,r2,h2,e2⟩:=ih (k+1) s1 V1 r1 (by omega) h1;refine⟨s2,V2,r2,h2,λF hF k2 f hf=> ?_⟩;obtain⟨f,rfl⟩:∃g,f=g+1:=⟨f - 1,by omega⟩
  rw[e1 F hF k2 f,e2 F hF k2 f (by omega)]
structure YL(st s:St)(p4 p5:Pos)(V W:AV)(gs:List aN)(rows:List (List AV))(ys:List Ty):Prop where
 gl:GL st s p4 p5 V W gs rows
 ty:Mk 3 st s W (ys.map Ty.cells)
 w4:aL W≠some p4
 w5:aL W≠some p5
 wV:∀b,aL W=some b->aL V≠some b
 wI:∀(i:Nat)(r:List AV)(v:AV)(b:Pos),rows[i]? =some r->r[8]? =some v->aL v=some b->aL W≠some b
theorem YL.start{st s:St}{p4 p5:Pos}{V:AV}{gs:List aN}{rows:List (List AV)}(h:GL st s p4 p5 V .af gs rows):YL st s p4 p5 V .af gs rows []:=
 ⟨h,Mk.start h.out.jE h.out.ai,λe=>(nomatch e),λe=>(nomatch e),λ_ e=>(nomatch e),λ_ _ _ _ _ _ _ e=>(nomatch e)⟩
theorem YL.push{st s:St}{p4 p5:Pos}{V W:AV}{gs:List aN}{rows:List (List AV)}{ys:List Ty}(h:YL st s p4 p5 V W gs rows ys)(R5:p4≠p5)(J8:st.next.toNat<=p5.toNat)(t:Ty)(hlen:ys.length<=1000000):
   ∃s5 s6 W5,(∀(K:AV->St->Option (AV×St)),aq c (.buildSlice 3 1 [.str [],.str [],.int .u8 0] [0]) [.agg t.cells] s (λy q=>aq c (.append 3 40) [W,y] q K)=K W5 s5)/\
    (∀(K:AV->St->Option (AV×St)),aq c (.store 1) [.ptr p5 1,W5] s5 K=K .undef s6)/\YL st s6 p4 p5 V W5 gs rows (ys++[t]):=by
 have hw:=h.gl.out.ai.wf;obtain⟨s5,W5,a1,a2,a3,a4⟩:=h.ty.push (c:=c) (R:=AV×St) (bytes:=40) (z:=[.str [],.str [],.int .u8 0]) (x:= .agg t.cells) rfl rfl rfl (by decide) (by rw[Za4];omega) (by rw[Za4];omega);have e:(ys++[t]).map Ty.cells=ys.map Ty.cells++[(.agg t.cells:AV).cells]:=by rw[Zc8];rfl
 rw[<-e]at a2;have y4:=a3 p4 _ h.w4 h.gl.h4;have y5:=a3 p5 _ h.w5 h.gl.h5;have l4:=hw p4 _ h.gl.h4;have l5:=hw p5 _ h.gl.h5;have b4:aL W5≠some p4:=λe=>by have:=a4 _ e;omega
 have b5:aL W5≠some p5:=λe=>by have:=a4 _ e;omega
 have l5':=a2.ai.wf p5 _ y5;obtain⟨vc,v1⟩:=a2.cells;have bE:∀(K:AV->St->Option (AV×St)),aq c (.store 1) [.ptr p5 1,W5] s5 K=K .undef (bh s5 p5 (.cells [V,W5] 0)):=λK=>by rw[cm c K s5 1 p5 1 W5 [V,W] y5 (by rw[vc];rfl) (by simp) (by rw[vc];exact v1),vc];rfl
 have M6:=a2.store (p:=p5) (b:= .cells [V,W5] 0) J8 l5' b5;have keep:∀(u:AV)(n:Nat)(rw:List (List AV)),Mk n st s u rw->(∀b,aL u=some b->aL W≠some b/\b≠p5)->Mk n st (bh s5 p5 (.cells [V,W5] 0)) u rw:=λu n rw hu cY=>
   ajR hu M6.ai λb y hb hy=>by rw[aJ (λe=>(cY b hb).2 e.symm)];exact a3 b y (cY b hb).1 hy
 have newW:∀b,aL W5=some b->s.next.toNat<=b.toNat:=a4;refine⟨s5,_,W5,a1,bE,⟨⟨keep V 9 rows h.gl.out λb hb=>⟨λe=>h.wV b e hb,λe=>h.gl.n5 (by rw[hb,e])⟩,h.gl.len,λi g r hi hr=> ?_,by rw[aJ (λe=>R5 e.symm)];exact y4,bH _ _ _,h.gl.n4,h.gl.n5⟩,M6,b4,b5,λb hb e=> ?_,λi r v b hr h8 hv e=> ?_⟩⟩
 .obtain⟨v,e1,e2,e3⟩:=h.gl.ez i g r hi hr;have h8:r[8]? =some v:=(by rw[e1];rfl);exact⟨v,e1,keep v 1 _ e2 λb hb=>⟨h.wI i r v b hr h8 hb,(e3 b hb).2.2⟩,e3⟩
 .have:=newW b hb;have:=h.gl.out.own.lt hw e;omega
 .have p1:=newW b e;have hi:i<gs.length:=(by rw[<-h.gl.len];exact(Za2.1 hr).1);obtain⟨u,e1,e2,_⟩:=h.gl.ez i gs[i] r (H0 hi) hr;have:u=v:=(by rw[e1]at h8;exact Zi8 h8);subst this;have:=e2.own.lt hw hv;omega
def nG(gs:List aN):List (List Nat):=gs.map λg=>g.name
def afn(bK:List Nat)(i k n:Nat):Ty:=⟨bQ i,bQ k,1+((bK.getD n 0 % 4:Nat):Int)⟩
def ajT(bK:List Nat)(n:Nat):Bool:=decide (n<bK.length)&&decide (bK.getD n 0 % 4<2)
def Ht(bK:List Nat)(i k n:Nat)(ys:List Ty):List Ty:=if ajT bK n=true then ys++[afn bK i k n]else ys
theorem ajU(bK:List Nat)(i k n:Nat)(ys:List Ty):(Ht bK i k n ys).length<=ys.length+1:=by unfold Ht;split<;>simp
def nH(names:List (List Nat))(bK:List Nat)(i:Nat):Nat->Nat->Nat->List Ty->Nat×List Ty
 |0,_,n,ys=>(n,ys)
 |m+1,k,n,ys=>if bQ i∈names then(if bQ k∈names then nH names bK i m (k+1) (n+1) (Ht bK i k n ys)else nH names bK i m (k+1) n ys)else(n,ys)
theorem GL.there(hc:bw c){st s:St}{p4 p5:Pos}{V W:AV}{gs:List aN}{rows:List (List AV)}(h:GL st s p4 p5 V W gs rows)(hl:gs.length<=1000)(x:Nat)(hx:x<1000000):
  c 70 [.agg [V,W],.int .i64 (x:Int)] s=some (.bool (decide (bQ x∈nG gs)),s):=
 asC hc h.out.own h.out.row (names:=nG gs) (by rw[nG,Za4,h.len]) (λi h1 h2=>by
  have h3:i<gs.length:=by rw[<-h.len];exact h1
  obtain⟨v,e,_⟩:=h.ez i gs[i] rows[i] (H0 h3) (H0 h1);rw[e];simp[nG,aN.ay]) (by rw[h.len];exact hl) x hx h.out.ai.wf
theorem akE{R:Type}(h:T AB)(ok:AV->Bool)(xs:List (List AV))(i j:Nat)(K1:AV->Option R):jI (.load none) [.fp xs i j] h ok K1=zm (xs[i]?.bind λcs=>cs[j]?) K1:=by unfold jI;rw[D4,D4];cases hx:(xs[i]?.bind λcs=>cs[j]?)<;>rfl
theorem apX{R:Type}(a b:List Nat)(k:Int)(s:St)(K:AV->AB->Option R):U9 (.buildSlice 3 1 [.str [],.str [],.int .u8 0] [0]) [.agg [.str a,.str b,.int .u8 k]] s K=K (.slice s.next 0 1 (some 1) 3) (.cells [.str a,.str b,.int .u8 k] 0):=rfl
theorem anG(a b:List Nat)(k:Int)(K:AV->Option (AV×St)):eX (.build [.str [],.str [],.int .u8 0] [(0,1),(1,1),(2,1)]) [.str a,.str b,.int .u8 k] K=K (.agg [.str a,.str b,.int .u8 k]):=rfl
theorem avW (hc:bw c){bK:List Nat}(ht:∀x∈bK,x<256)(z:Bool){st:St}{p4 p5:Pos}(R5:p4≠p5)(J8:st.next.toNat<=p5.toNat){V:AV}{gs:List aN}(hgl:gs.length<=1000){rows:List (List AV)}{i:Nat}(hi:i<1000):
  ∀(m k n:Nat)(s:St)(W:AV)(ys:List Ty),k+m=312->ys.length<=n->n+m<=1000000->YL st s p4 p5 V W gs rows ys->
  ∃ s' W',YL st s' p4 p5 V W' gs rows (nH (nG gs) bK i m k n ys).2/\∀(F:Nat)(k8:List AV->St->Option (AV×St))(f:Nat),m<f->
    j9 c F k8 f [eR .u8 z bK,.ptr p4 0,.ptr p5 0,.int .i64 (n:Int),.int .i64 (i:Int),.int .i64 (k:Int)] s=k8 [eR .u8 z bK,.ptr p4 0,.ptr p5 0,.int .i64 ((nH (nG gs) bK i m k n ys).1:Int),.int .i64 (i:Int)] s':=by
 intro m;induction m with
 |zero=>
  intro k n s W ys hk hy hn h;obtain rfl:k=312:=by omega
  refine⟨s,W,h,λF k8 f hf=> ?_⟩;obtain⟨f,rfl⟩:∃g,f=g+1:=⟨f - 1,by omega⟩
  rw[iY];simp[nH]
 |succ m ih  =>
  intro k n s W ys hk hy hn h;have T1:=h.gl.there hc hgl i (by omega);have T2:=h.gl.there hc hgl k (by omega);have hd:decide ((k:Int)<312)=true:=Za0 (by omega);have w:ax .i64 ((k:Int)+1)=((k+1:Nat):Int):=wrap64 (by omega) (by omega);have w2:ax .i64 ((n:Int)+1)=((n+1:Nat):Int):=wrap64 (by omega) (by omega);have h5:=h.gl.h5;have cu:cut [V,W] 0 2=some [V,W]:=rfl;have lI:∀(K:AV->St->Option (AV×St))(s:St),aq c (.lenB .l) [eR .u8 z bK] s K=K (.int .i64 (bK.length:Int)) s:=λK s=>by unfold eR;rw[jL];simp
  by_cases OW:bQ i∈nG gs
  . by_cases Bq:bQ k∈nG gs
    .   have eT:nH (nG gs) bK i (m+1) k n ys=nH (nG gs) bK i m (k+1) (n+1) (Ht bK i k n ys):=(by rw[nH,Zb6 OW,Zb6 Bq]);rw[eT];have hl:=ajU bK i k n ys;by_cases tI:n<bK.length
        . have ix:∀(K:AV->St->Option (AV×St))(s:St),aq c (.idxA 1 none) [eR .u8 z bK,.int .i64 (n:Int)] s K=K (.fp (bK.map λ(i:Nat)=>[.int .u8 (i:Int)]) n 0) s:=λK s=>by unfold eR;rw[Tn];simp[tI]
          have pix:∀(K:AV->Option (AV×St)),eX (.idxA 1 none) [eR .u8 z bK,.int .i64 (n:Int)] K=K (.fp (bK.map λ(i:Nat)=>[.int .u8 (i:Int)]) n 0):=λK=>by unfold eR;rw[aq0];simp[tI]
          obtain⟨x,hx⟩:∃x,bK[n]=x:=⟨_,rfl⟩
          have hx8:x<256:=(by rw[<-hx];exact ht _ (Zb9 tI));have gd:bK.getD n 0=x:=(by simp[Zb3,tI,hx]);have r1:=λ(s:St)(K:AV->St->Option (AV×St))=>di (c:=c) (k:= .u8) (a:=(x:Int)) (b:=4) (by omega) (by omega) s K
          have r2:=λ(K:AV->Option (AV×St))=>GY (k:= .u8) (a:=(x:Int)) (b:=4) (by omega) (by omega) K
          have w8:ax .u8 (1+(x:Int) % 4)=1+(x:Int) % 4:=HN (by omega) (by omega);have eC:ajT bK n=decide (x % 4<2):=(by unfold ajT;rw[gd,Za0 tI,Zg9]);have d2:decide ((x:Int) % 4<2)=decide (x % 4<2):=decide_eq_decide.2 (by omega);by_cases hx4:x % 4<2
          . have eY:Ht bK i k n ys=ys++[afn bK i k n]:=(by unfold Ht;rw[eC,Zb6 (Za0 hx4)]);rw[eY]at hl ⊢;obtain⟨s5,s6,W5,a1,a2,a3⟩:=h.push (c:=c) R5 J8 (afn bK i k n) (by omega);have eU:(afn bK i k n).cells=[.str (bQ i),.str (bQ k),.int .u8 (1+(x:Int) % 4)]:=(by unfold afn Ty.cells;rw[gd];simp);have a1':∀K,aq c (.append 3 40) [W,.slice s.next 0 1 (some 1) 3] (ah s (.cells [.str (bQ i),.str (bQ k),.int .u8 (1+(x:Int) % 4)] 0)) K=K W5 s5:=λK=>by have h1:=a1 K;rw[LU (es:=3) (z:=[.str [],.str [],.int .u8 0]) (x:= .agg (afn bK i k n).cells) rfl rfl]at h1;rw[<-eU];exact h1
            have N1:=An hc i (by omega) s h.gl.out.ai.wf;have N2:=An hc k (by omega) s h.gl.out.ai.wf;obtain⟨s',W',b1,b2⟩:=ih (k+1) (n+1) s6 W5 _ (by omega) (by omega) (by omega) a3;refine⟨s',W',b1,λF k8 f hf=> ?_⟩;obtain⟨f,rfl⟩:∃g,f=g+1:=⟨f - 1,by omega⟩
            rw[<-b2 F k8 f (by omega),iY];simp[-au,-qE,-H7,h5,cu,T1,T2,OW,Bq,hd,bR,lI,tI,ix,pix,hx,r1,r2,d2,hx4,w8,N1,N2,akE,apX,anG,a1',a2,w,w2]
          . have eY:Ht bK i k n ys=ys:=(by unfold Ht;rw[eC,Za7 (by simp;omega)]);rw[eY];obtain⟨s',W',b1,b2⟩:=ih (k+1) (n+1) s W ys (by omega) (by omega) (by omega) h;refine⟨s',W',b1,λF k8 f hf=> ?_⟩;obtain⟨f,rfl⟩:∃g,f=g+1:=⟨f - 1,by omega⟩
            have ME:decide ((x:Int) % 4<2)=false:=Za1 (by omega);rw[<-b2 F k8 f (by omega),iY];simp[-au,-qE,-H7,h5,cu,T1,T2,OW,Bq,hd,bR,lI,tI,ix,hx,r1,ME,w,w2]
        . have eY:Ht bK i k n ys=ys:=(by unfold Ht ajT;rw[Za1 tI,Bool.false_and,Za7 (by decide)]);rw[eY];obtain⟨s',W',b1,b2⟩:=ih (k+1) (n+1) s W ys (by omega) (by omega) (by omega) h;refine⟨s',W',b1,λF k8 f hf=> ?_⟩;obtain⟨f,rfl⟩:∃g,f=g+1:=⟨f - 1,by omega⟩
          rw[<-b2 F k8 f (by omega),iY];simp[-au,-qE,-H7,h5,cu,T1,T2,OW,Bq,hd,bR,lI,tI,w,w2]
    .   have eT:nH (nG gs) bK i (m+1) k n ys=nH (nG gs) bK i m (k+1) n ys:=(by rw[nH,Zb6 OW,Za7 Bq]);rw[eT];obtain⟨s',W',b1,b2⟩:=ih (k+1) n s W ys (by omega) (by omega) (by omega) h;refine⟨s',W',b1,λF k8 f hf=> ?_⟩;obtain⟨f,rfl⟩:∃g,f=g+1:=⟨f - 1,by omega⟩
        rw[<-b2 F k8 f (by omega),iY];simp[-au,-qE,-H7,h5,cu,T1,T2,OW,Bq,hd,bR,w]
  . have eT:nH (nG gs) bK i (m+1) k n ys=(n,ys):=(by rw[nH,Za7 OW]);rw[eT];refine⟨s,W,h,λF k8 f hf=> ?_⟩;obtain⟨f,rfl⟩:∃g,f=g+1:=⟨f - 1,by omega⟩
    rw[iY];simp[-au,-qE,-H7,h5,cu,T1,OW,hd,bR]
theorem YQ(names:List (List Nat))(bK:List Nat)(i:Nat):∀(m k n:Nat)(ys:List Ty),ys.length<=n->(nH names bK i m k n ys).2.length<=(nH names bK i m k n ys).1/\(nH names bK i m k n ys).1<=n+m
 |0,k,n,ys,h=>by unfold nH;exact⟨h,by omega⟩
 |m +   1,k,n,ys,h=>by
  unfold nH;split
  . split
    .   have hl:=ajU bK i k n ys;have:=YQ names bK i m (k+1) (n+1) (Ht bK i k n ys) (by omega);omega
    .   have:=YQ names bK i m (k+1) n ys h;omega
  .exact⟨h,by omega⟩
def YR(names:List (List Nat))(bK:List Nat):Nat->Nat->Nat->List Ty->List Ty
 |0,_,_,ys=>ys
 |m+1,i,n,ys=>YR names bK m (i+1) (nH names bK i m (i+1) n ys).1 (nH names bK i m (i+1) n ys).2
theorem au2(hc:bw c){bK:List Nat}(ht:∀x∈bK,x<256)(z:Bool){st:St}{p4 p5:Pos}(R5:p4≠p5)(J8:st.next.toNat<=p5.toNat){V:AV}{gs:List aN}(hgl:gs.length<=1000){rows:List (List AV)}:
  ∀(m i n:Nat)(s:St)(W:AV)(ys:List Ty),i+m=312->ys.length<=n->n+m*312<=1000000->YL st s p4 p5 V W gs rows ys->
  ∃s' W',YL st s' p4 p5 V W' gs rows (YR (nG gs) bK m i n ys)/\∀(F:Nat)(_:400<=F)(k6:List AV->St->Option (AV×St))(f:Nat),m<f->
   ke c F k6 f [eR .u8 z bK,.ptr p4 0,.ptr p5 0,.int .i64 (n:Int),.int .i64 (i:Int)] s=k6 [.ptr p4 0,.ptr p5 0] s':=by
 intro m;induction m with
 |zero=>
  intro i n s W ys hk hy hn h;obtain rfl:i=312:=by omega
  refine⟨s,W,h,λF _ k6 f hf=> ?_⟩;obtain⟨f,rfl⟩:∃g,f=g+1:=⟨f - 1,by omega⟩
  rw[BB];simp
 |succ m ih=>
  intro i n s W ys hk hy hn h;have hd:decide ((i:Int)<312)=true:=Za0 (by omega);have b1: -9223372036854775808<=(i:Int)+1:=by omega
  have b2:(i:Int)+1<=9223372036854775807:=by omega
  have e3:((i+1:Nat):Int)=(i:Int)+1:=by omega
  obtain⟨s1,W1,h1,e1⟩:=avW hc ht z R5 J8 hgl (i:=i) (by omega) m (i+1) n s W ys (by omega) hy (by omega) h;have hl:=YQ (nG gs) bK i m (i+1) n ys hy;obtain⟨s2,W2,h2,e2⟩:=ih (i+1) _ s1 W1 _ (by omega) hl.1 (by omega) h1;refine⟨s2,W2,h2,λF hF k6 f hf=> ?_⟩;obtain⟨f,rfl⟩:∃g,f=g+1:=⟨f - 1,by omega⟩
  have e1':=λk8=>e1 F k8 F (by omega)
  rw[<-e2 F hF k6 f (by omega),BB];clear e1 e2 hl;have w:ax .i64 ((i:Int)+1)=(i:Int)+1:=wrap64 b1 b2;rw[e3]at e1' ⊢;simp[hd,w,e1']
structure RS(st s:St)(V W:AV)(gs:List aN)(rows:List (List AV))(ys:List Ty):Prop where
 ai:Grew st s
 out:Mk 9 st s V rows
 len:rows.length=gs.length
 ez:∀(i:Nat)(g:aN)(r:List AV),gs[i]? =some g->rows[i]? =some r->∃v,r=g.ay v/\Mk 1 st s v (g.tg.map YO)/\∀b,aL v=some b->aL V≠some b/\aL W≠some b
 ty:Mk 3 st s W (ys.map Ty.cells)
 wV:∀b,aL W=some b->aL V≠some b
def gK(xs:List Nat):List aN:=EC xs (min xs.length 12)
def Em(xs bK:List Nat):List Ty:=YR (nG (gK xs)) bK 312 0 0 []
theorem Im(xs:List Nat):(gK xs).length<=12:=by unfold gK;rw[MN];omega
theorem au3(hc:bw c){xs bK:List Nat}(hx:∀x∈xs,x<65536)(hl:xs.length<=9223372036854775807)(ht:∀x∈bK,x<256)(z z2:Bool)(st:St)(hw:Wf st):
   ∃V W s' rows,c 39 [eR .u16 z xs,eR .u8 z2 bK] st=some (.agg [V,W],s')/\RS st s' V W (gK xs) rows (Em xs bK):=by
 have cZ:Wf (ah st (.cells [.af,.af] 0)):=bG hw;have g1:=Grew.ah hw (.cells [.af,.af] 0);have g2:=Grew.ah cZ (.cells [.af,.af] 0);have n12:st.next≠(ah st (.cells [.af,.af] 0)).next:=by rw[bP];exact Pos.ZO _
 have J8:st.next.toNat<=(ah st (.cells [.af,.af] 0)).next.toNat:=by rw[bP,Pos.aF];omega
 have G0:GL st (ah (ah st (.cells [.af,.af] 0)) (.cells [.af,.af] 0)) st.next (ah st (.cells [.af,.af] 0)).next .af .af (EC xs 0) []:=
   ⟨Mk.start hw (g1.trans g2),rfl,λi g r hi _=>by simp[EC]at hi,g2.get (aA _ _),aA _ _,λe=>(nomatch e),λe=>(nomatch e)⟩
 obtain⟨s1,V,rows,h1,e1⟩:=akD hc hx hl z (eR .u8 z2 bK) n12 J8 (min xs.length 12) 0 _ .af [] (by omega) G0;obtain⟨s2,W,h2,e2⟩:=au2 hc ht z2 n12 J8 (gs:=gK xs) (by have:=Im xs;omega) 312 0 0 s1 .af [] (by omega) (by simp) (by omega) (YL.start h1);have e1':∀k2:List AV->St->Option (AV×St),gM c 400 k2 400 [eR .u16 z xs,eR .u8 z2 bK,.ptr st.next 0,.ptr (ah st (.cells [.af,.af] 0)).next 0,.int .i64 0] (ah (ah st (.cells [.af,.af] 0)) (.cells [.af,.af] 0))=k2 [eR .u8 z2 bK,.ptr st.next 0,.ptr (ah st (.cells [.af,.af] 0)).next 0] s1:=λk2=>e1 400 (by omega) k2 400 (by omega)
 have e2':∀k6:List AV->St->Option (AV×St),ke c 400 k6 400 [eR .u8 z2 bK,.ptr st.next 0,.ptr (ah st (.cells [.af,.af] 0)).next 0,.int .i64 0,.int .i64 0] s1=k6 [.ptr st.next 0,.ptr (ah st (.cells [.af,.af] 0)).next 0] s2:=λk6=>e2 400 (by omega) k6 400 (by omega)
 have h5:=h2.gl.h5;have h4:=h2.gl.h4;have l4:=h2.gl.out.ai.wf _ _ h4;obtain⟨vc,v1⟩:=h2.gl.out.cells;obtain⟨wc,w1⟩:=h2.ty.cells;have one:aQ [V,W]=true:=by
   have v2:V.one=true:=zo v1;have w2:W.one=true:=zo w1;simp only[aQ,v2,w2]
 have cu:cut [V,W] 0 2=some [V,W]:=rfl;have R6:∀(K:AV->St->Option (AV×St)),aq c (.store 2) [.ptr st.next 0,.agg [V,W]] s2 K=K .undef (bh s2 st.next (.cells [V,W] 0)):=λK=>by rw[cm c K s2 2 st.next 0 (.agg [V,W]) [.af,.af] h4 rfl (by simp) one];rfl
 have A:=h2.gl.out.store (p:=st.next) (b:= .cells [V,W] 0) (Za3 _) l4 h2.gl.n4;have B:=h2.ty.store (p:=st.next) (b:= .cells [V,W] 0) (Za3 _) l4 h2.w4;have ins:∀u∈[V,W],dU u:=λu hu=>by
   simp only[Za8,Zc0,Ze9]at hu;rcases hu with rfl|rfl
   .exact A.inst
   .exact B.inst
 obtain⟨sa,t1,ta,tA⟩:=A.Tu (l:=[V,W]) (by simp) ins;obtain⟨sb,t2,tb,tB⟩:=B.Tu (l:=[V,W]) (by simp) ins;have hab:sb=sa:=by rw[t1]at t2;exact(Prod.mk.inj t2).2.symm
 subst hab;refine⟨V,W,sb,rows,?_,⟨tA.ai,tA,h2.gl.len,λi g r hi hr=> ?_,tB,h2.wV⟩⟩
 .rw[R7 hc 400 (r:=(.agg [V,W],bh s2 st.next (.cells [V,W] 0))),t1];rw[WT];simp[e1',e2',h5,cu,R6]
 . obtain⟨v,q1,q2,q3⟩:=h2.gl.ez i g r hi hr;have h8:r[8]? =some v:=(by rw[q1];rfl);refine⟨v,q1,?_,λb hb=>⟨(q3 b hb).1,h2.wI i r v b hr h8 hb⟩⟩;rcases ta with rfl|rfl
   .exact q2.store (p:=st.next) (b:= .cells [V,W] 0) (Za3 _) l4 (λe=>(q3 _ e).2.1 rfl)
   . (exfalso;have cY:rows≠[]:=λe=>by rw[e]at hr;simp at hr);rcases tA.loose with⟨b,off,n,rfl⟩|⟨_,e⟩
     .  have p1:=tA.new b (je _ _ _ _);have p2:=tA.own.lt hw (je _ _ _ _);omega
     .  exact cY e
def oD(xt:List Nat):List aE:=sQ xt (min xt.length 3)
def ve(xt xg:List Nat):List Nat:=xg.take (min xg.length (kA xt (min xt.length 3)))
def oE(xt xg:List Nat):List aN:=gK (ve xt xg)
def apY(xt xg xy:List Nat):List Ty:=Em (ve xt xg) xy
def oC(xt xg xy:List Nat):List Int:=if 0<xy.length % 4 then Hs xg (oE xt xg).length else []
def avX(xt xg xr:List Nat):List Rl:=Cg (oD xt) (oE xt xg) xr (min xr.length 12)
def nE(xt xg xy xr:List Nat):bS:=⟨true,oD xt,true,oE xt xg,true,apY xt xg xy,true,oC xt xg xy,true,avX xt xg xr⟩
theorem apZ(x:Nat):0<tN x:=by
 have:0<tA x:=by unfold tA;split<;>(try split)<;>(try split)<;>omega
 unfold tN;split<;>(try split)<;>omega
theorem Uc{xs:List Nat}{k:Nat}{t:aE}(h:t∈sQ xs k):∃i x,t=kC i x:=by
 unfold sQ at h;simp only[Zc7]at h;obtain⟨i,_,rfl⟩:=h;exact⟨_,_,rfl⟩
theorem ap0{xs:List Nat}{k:Nat}:∀t∈sQ xs k,0<n7 t.sh t.a t.b/\n7 t.sh t.a t.b<=1000:=λt h=>by obtain⟨i,x,rfl⟩:=Uc h;have e:n7 (kC i x).sh (kC i x).a (kC i x).b=((tN x:Nat):Int):=aab x;have h1:=apZ x;have h2:=adw x;rw[e];omega
theorem aiM{xs:List Nat}{k:Nat}:∀t∈sQ xs k,(0<=t.a/\t.a<=1000000)/\0<=t.b/\t.b<=1000000:=λt h=>by obtain⟨i,x,rfl⟩:=Uc h;have h1:=ahi x;have h2:=ahj x;show(0<=((tA x:Nat):Int)/\((tA x:Nat):Int)<=1000000)/\0<=((tB x:Nat):Int)/\((tB x:Nat):Int)<=1000000;omega
theorem RS.gs{st sL sR:St}{V W:AV}{gs:List aN}{rows:List (List AV)}{ys:List Ty}(h:RS sL sR V W gs rows ys)(h0:Wf st)(g:Grew st sL):GS st sR V gs rows/\GS.Since sL.next.toNat V rows:=
 ⟨⟨h.out.back h0 g,h.len,λi t r hi hr=>by
   obtain⟨v,e1,e2,e3⟩:=h.ez i t r hi hr;exact⟨v,e1,e2.back h0 g,λb hb=>(e3 b hb).1⟩⟩,h.out.new,λi r v b hr h8 hb=>by
   have hi:i<gs.length:=(by rw[<-h.len];exact(Za2.1 hr).1);obtain⟨u,e1,e2,_⟩:=h.ez i gs[i] r (H0 hi) hr;have:u=v:=(by rw[e1]at h8;exact Zi8 h8);subst this;exact e2.new b hb⟩
theorem TS.Since.le{n m:Nat}{V:AV}{rows:List (List AV)}(h:TS.Since n V rows)(hm:m<=n):TS.Since m V rows:=⟨λb hb=>Zb2 hm (h.1 b hb),λi r v b h1 h2 h3=>Zb2 hm (h.2 i r v b h1 h2 h3)⟩
theorem GS.Since.le{n m:Nat}{V:AV}{rows:List (List AV)}(h:GS.Since n V rows)(hm:m<=n):GS.Since m V rows:=⟨λb hb=>Zb2 hm (h.1 b hb),λi r v b h1 h2 h3=>Zb2 hm (h.2 i r v b h1 h2 h3)⟩
theorem PS.awL{s s':St}{V1 V2 V3 V4 V5:AV}{p:bS}{r1 r2:List (List AV)}(h1:TS s s' V1 p.ts r1)(h2:GS s s' V2 p.gs r2)(h3:Mk 3 s s' V3 (p.ys.map Ty.cells))(h4:Mk 1 s s' V4 (p.cs.map bC))(h5:Mk 6 s s' V5 (p.rs.map Rl.cells)):
   ∃fU,Go.Ai.tidy s (.agg [V1,V2,V3,V4,V5],s')=(.agg [V1,V2,V3,V4,V5],fU)/\PS s fU [V1,V2,V3,V4,V5] p:=by
 obtain⟨fU,e,g,k⟩:=Mk.aq8 (s:=s) (s':=s') (l:=[V1,V2,V3,V4,V5]) (λu hu=>by
   simp only[Za8,Zc0,Ze9]at hu;rcases hu with rfl|rfl|rfl|rfl|rfl
   .exact h1.out.inst
   .exact h2.out.inst
   .exact h3.inst
   .exact h4.inst
   .exact h5.inst) h1.out.jE h1.out.ai
 obtain⟨a1,b1⟩:=k 7 V1 r1 (by simp) h1.out;obtain⟨a2,b2⟩:=k 9 V2 r2 (by simp) h2.out;obtain⟨a3,_⟩:=k 3 V3 _ (by simp) h3;obtain⟨a4,_⟩:=k 1 V4 _ (by simp) h4;obtain⟨a5,_⟩:=k 6 V5 _ (by simp) h5;refine⟨fU,e,g,V1,V2,V3,V4,V5,r1,r2,rfl,⟨a1,h1.len,λi t r hi hr=> ?_⟩,⟨a2,h2.len,λi t r hi hr=> ?_⟩,a3,a4,a5⟩
 . rcases b1 with rfl|rfl
   .exact h1.ez i t r hi hr
   .simp at hr
 . rcases b2 with rfl|rfl
   .exact h2.ez i t r hi hr
   .simp at hr
theorem ap1{R:Type}(k k':IntKind)(z:Bool)(l:List Nat){i:Nat}(h:i<=l.length)(K:AV->Option R):eX (.sliceL 1 false true false) [eR k z l,.int k' (i:Int)] K=K (eR k (z&&l.isEmpty) (l.take i)):=by unfold eR;rw[aog,Za4,Zb6 h];simp only[Zr5,List.map_take];rfl
theorem ap2{R:Type}(k:IntKind)(z:Bool)(l:List Nat)(K:AV->Option R):eX (.lenB .l) [eR k z l] K=K (.int .i64 (l.length:Int)):=by unfold eR;rw[ah3];simp
theorem asI{R:Type}(s:St)(K:AV->AB->Option R):U9 (.alloc [.af,.af]) [] s K=K (.ptr s.next 0) (.cells [.af,.af] 0):=rfl
theorem auc (hc:bw c) {xt xg xy xr:List Nat}(ht:∀x∈xt,x<256)(hg:∀x∈xg,x<65536)(hy:∀x∈xy,x<256)(hr:∀x∈xr,x<4294967296)(lt:xt.length<=9223372036854775807)(lg:xg.length<=9223372036854775807)(lr:xr.length<=9223372036854775807)(ly:xy.length<=9223372036854775807)
  (zt zg zy zr:Bool) (st:St) (hw:Wf st):∃Vs s',c 14 [.agg (jC zt zg zy zr xt xg xy xr)] st=some (.agg Vs,s')/\PS st s' Vs (nE xt xg xy xr):=by
 have w1:Wf (ah st (.cells (jC zt zg zy zr xt xg xy xr) 0)):=bG hw;have w2:Wf (ah (ah st (.cells (jC zt zg zy zr xt xg xy xr) 0)) (.cells [.af,.af,.af,.af,.af] 0)):=bG w1;have g1:=Grew.ah hw (.cells (jC zt zg zy zr xt xg xy xr) 0);have g2:=Grew.ah w1 (.cells [.af,.af,.af,.af,.af] 0);have g3:=Grew.ah w2 (.cells [.af,.af,.af,.af,.af] 0);obtain⟨p1,kH⟩:∃p1,p1=st.next:=⟨_,rfl⟩
 obtain⟨p2,HU⟩:∃p2,p2=(ah st (.cells (jC zt zg zy zr xt xg xy xr) 0)).next:=⟨_,rfl⟩
 obtain⟨p3,hp3⟩:∃p3,p3=(ah (ah st (.cells (jC zt zg zy zr xt xg xy xr) 0)) (.cells [.af,.af,.af,.af,.af] 0)).next:=⟨_,rfl⟩
 obtain⟨s3,CP⟩:∃s3,s3=ah (ah (ah st (.cells (jC zt zg zy zr xt xg xy xr) 0)) (.cells [.af,.af,.af,.af,.af] 0)) (.cells [.af,.af,.af,.af,.af] 0):=⟨_,rfl⟩
 have n1:st.next.toNat=p1.toNat:=by rw[kH]
 have n2:p2.toNat=p1.toNat+1:=by rw[HU,bP,Pos.aF,kH]
 have n3:p3.toNat=p2.toNat+1:=by rw[hp3,bP,Pos.aF,HU]
 have n4:s3.next.toNat=p3.toNat+1:=by rw[CP,bP,Pos.aF,hp3]
 have G3:Grew st s3:=by rw[CP];exact(g1.trans g2).trans g3
 have H1:s3.heap.get p1=some (.cells (jC zt zg zy zr xt xg xy xr) 0):=by rw[CP,kH];exact g3.get (g2.get (aA _ _))
 have H2:s3.heap.get p2=some (.cells [.af,.af,.af,.af,.af] 0):=by rw[CP,HU];exact g3.get (aA _ _)
 have H3:s3.heap.get p3=some (.cells [.af,.af,.af,.af,.af] 0):=by rw[CP,hp3];exact aA _ _
 have d13:p1≠p3:=λe=>by subst e;omega
 have d23:p2≠p3:=λe=>by subst e;omega
 have W3:=G3.wf
 obtain⟨sL,V1,r1,T1,e1⟩:=apV (c:=c) (x2:= .ptr p2 0) hc ht lt (zt:=zt) (zg:=zg) (zy:=zy) (zr:=zr) (xg:=xg) (xy:=xy) (xr:=xr) W3 H1 d13 (by omega) (by omega) (st:=st) (min xt.length 3) 0 s3 .af [] (by omega)
  ⟨⟨Mk.start hw G3,rfl,λi t r hi _=>by simp[sQ]at hi⟩,KX.refl W3,H3,⟨λb e=>(nomatch e),λi r v b hr _ _=>by simp at hr⟩⟩
 have GL:=T1.tab.out.ai;have WL:=GL.wf;have lN:=T1.kx.next;have L1:=T1.kx.keep p1 _ d13 H1;have L2:=T1.kx.keep p2 _ d23 H2;have L3:=T1.h3;have mlen:(oD xt).length<=3:=by unfold oD;rw[Ua];omega
 obtain⟨m,hm⟩:∃m:Nat,m=min xg.length (kA xt (min xt.length 3)):=⟨_,rfl⟩
 have hmx:xg.take m=ve xt xg:=by rw[hm];rfl
 obtain⟨V2,V3,sR,r2,cR,R⟩:=au3 hc (xs:=ve xt xg) (bK:=xy) (λx hx=>hg x (List.mem_of_mem_take hx)) (by have:=List.length_take_le m xg;rw[hmx]at this;omega) hy (zg&&xg.isEmpty) zy sL WL;have GR:=GL.trans R.ai;have WR:=GR.wf;obtain⟨GSR,SR⟩:=R.gs hw GL;have rN:=R.ai.next;have gx:=Grew.ah WR (.cells [V2,V3] 0);obtain⟨sX,hsX⟩:∃sX,sX=ah sR (.cells [V2,V3] 0):=⟨_,rfl⟩
 have WX:Wf sX:=by rw[hsX];exact gx.wf
 have GX:Grew sR sX:=by rw[hsX];exact gx
 have X1:=GX.get (R.ai.get L1);have X2:=GX.get (R.ai.get L2);have X3:=GX.get (R.ai.get L3);have X8:sX.heap.get sR.next=some (.cells [V2,V3] 0):=by rw[hsX];exact aA _ _
 have n8:sR.next≠p3:=fun e=>by have:sR.next.toNat=p3.toNat:=by rw[e]
                               omega
 have lX:=WX _ _ X3;obtain⟨vc2,v2⟩:=R.out.cells;obtain⟨vc3,v3⟩:=R.ty.cells;have Bj:∀(K:AV->St->Option (AV×St)),aq c (.store 1) [.ptr p3 (0+1),V2] sX K=K .undef (bh sX p3 (.cells [V1,V2,.af,.af,.af] 0)):=λK=>by rw[cm c K sX 1 p3 (0+1) V2 [V1,.af,.af,.af,.af] X3 (by rw[vc2];rfl) (by simp) (by rw[vc2];exact v2),vc2];rfl
 have FX:∀(K:AV->St->Option (AV×St)),aq c (.store 1) [.ptr p3 (0+2),V3] (bh sX p3 (.cells [V1,V2,.af,.af,.af] 0)) K=K .undef (bh sX p3 (.cells [V1,V2,V3,.af,.af] 0)):=λK=>by rw[cm c K _ 1 p3 (0+2) V3 [V1,V2,.af,.af,.af] (bH _ _ _) (by rw[vc3];rfl) (by simp) (by rw[vc3];exact v3),vc3,Ra];rfl
 obtain⟨sB,hsB⟩:∃sB,sB=bh sX p3 (.cells [V1,V2,V3,.af,.af] 0):=⟨_,rfl⟩
 have kXB:KX p3 sX sB:=by rw[hsB];exact(KX.refl WX).store lX _
 have WB:=kXB.wf;have GB:Grew st sB:=by rw[hsB];exact wF hw (GR.trans GX) (by omega) lX _
 have kRB:KX p3 sR sB:=((KX.refl WR).ai GX).trans kXB;have kLB:KX p3 sL sB:=((KX.refl WL).ai R.ai).trans kRB;have B1:=kXB.keep p1 _ d13 X1;have B2:=kXB.keep p2 _ d23 X2;have B3:sB.heap.get p3=some (.cells [V1,V2,V3,.af,.af] 0):=by rw[hsB];exact bH _ _ _
 have lB:=WB _ _ B3;have sT1:TS.Since (p3.toNat+1) V1 r1:=T1.since.le (by omega);have sG2:GS.Since (p3.toNat+1) V2 r2:=SR.le (by omega);have TB:=T1.tab.kx kLB GB sT1;have GSB:=GSR.kx kRB GB sG2;have s3V:∀b,aL V3=some b->p3.toNat+1<=b.toNat:=λb hb=>by have:=R.ty.new b hb;omega
 have YB:=Mk.kx (R.ty.back hw GL) kRB GB s3V;have hgl:(oE xt xg).length<=12:=Im _;have hgn:(oE xt xg).length<=xg.length:=by unfold oE gK;rw[MN, <-hmx,Zg3];omega
 have l2:∀(K:AV->St->Option (AV×St))(s':St),aq c (.lenB .l) [V2] s' K=K (.int .i64 ((oE xt xg).length:Int)) s':=λK s'=>by rw[QS.lenB R.out.own,R.len];rfl
 have C0:LL st sB sB p3 1 .af ((Hs xg 0).map bC) (λA=>[V1,V2,V3,A,.af]):=⟨Mk.start hw GB,KX.refl WB,B3,λb e=>(nomatch e)⟩
 obtain⟨sC1,V41,C1,e2⟩:=anE (c:=c) (x2:= .ptr p2 0) hg (zt:=zt) (zg:=zg) (zy:=zy) (zr:=zr) (xt:=xt) (xy:=xy) (xr:=xr) (st:=st) (V1:=V1) (V3:=V3) hgn (by omega) WB B1 d13 lB (by omega) l2 (oE xt xg).length 0 sB .af (by omega) C0;have ld2:∀(K:AV->St->Option (AV×St)),aq c (.load none) [.ptr p1 (0+2)] sB K=K (eR .u8 zy xy) sB:=λK=>by rw[aT,B1];rfl
 have key:∃Vs s',nQ c 400 (.agg (jC zt zg zy zr xt xg xy xr)) st=some (.agg Vs,s')/\∃fU,Go.Ai.tidy st (.agg Vs,s')=(.agg Vs,fU)/\PS st fU Vs (nE xt xg xy xr):=by
  obtain⟨Q,hQ⟩:∃Q:Option (AV×St)->Prop,Q=λo=>∃Vs s',o=some (.agg Vs,s')/\∃fU,Go.Ai.tidy st (.agg Vs,s')=(.agg Vs,fU)/\PS st fU Vs (nE xt xg xy xr):=⟨_,rfl⟩
  have ad3:Q (nQ c 400 (.agg (jC zt zg zy zr xt xg xy xr)) st)->∃Vs s',nQ c 400 (.agg (jC zt zg zy zr xt xg xy xr)) st=some (.agg Vs,s')/\∃fU,Go.Ai.tidy st (.agg Vs,s')=(.agg Vs,fU)/\PS st fU Vs (nE xt xg xy xr):=λh=>by rw[hQ]at h;exact h
  apply ad3;clear ad3;have e1':∀(k2:List AV->St->Option (AV×St)),gO c 400 k2 400 [.ptr p1 0,.ptr p2 0,.ptr p3 0,.int .i64 0,.int .i64 0] s3=k2 [.ptr p1 0,.ptr p2 0,.ptr p3 0,.int .i64 (kA xt (min xt.length 3):Int)] sL:=λk2=>e1 400 k2 400 (by omega)
  have e2':∀(k4:List AV->St->Option (AV×St)),j7 c 400 k4 400 [.ptr p1 0,.ptr p2 0,.ptr p3 0,.int .i64 0] sB=k4 [.ptr p1 0,.ptr p2 0,.ptr p3 0] sC1:=λk4=>e2 400 k4 400 (by omega)
  have ra1:∀(K:AV->Option (AV×St)),jI (.load none) [.ptr p1 (0+1)] sL.heap (λ_=>true) K=K (eR .u16 zg xg):=λK=>by rw[ju,L1];rfl
  have ra2:∀(K:AV->Option (AV×St)),jI (.load none) [.ptr p1 (0+2)] sL.heap (λ_=>true) K=K (eR .u8 zy xy):=λK=>by rw[ju,L1];rfl
  have rb0:∀(K:AV->Option (AV×St)),jI (.load none) [.ptr sR.next (0+0)] sX.heap (λ_=>true) K=K V2:=λK=>by rw[ju,X8];rfl
  have rb1:=λ(K:AV->Option (AV×St))=>GQ K (p:=sR.next) (o:=0+1) (h:=(bh sX p3 (.cells [V1,V2,.af,.af,.af] 0)).heap) (h2:=sX.heap) (v:=V3) (by rw[aJ (λe=>n8 e.symm),X8];rfl) (by rw[X8];rfl) R.ty.own.beq
  have pm:∀(K:AV->Option (AV×St)),eX .minB [.int .i64 (xg.length:Int),.int .i64 (kA xt (min xt.length 3):Int)] K=K (.int .i64 (m:Int)):=λK=>by rw[dD K (λH n=>ak7 H n _ _ _ _),hm];congr 2;generalize kA xt (min xt.length 3)=a;omega
  have R6:∀(K:AV->St->Option (AV×St)),aq c (.store 2) [.ptr sR.next 0,.agg [V2,V3]] (ah sR (.cells [.af,.af] 0)) K=K .undef sX:=λK=>by
    rw[hsX];exact cr c K sR 2 (.agg [V2,V3]) [.af,.af] rfl rfl (by
        have a2:V2.one=true:=zo v2;have a3:V3.one=true:=zo v3;show aQ [V2,V3]=true;simp only[aQ,a2,a3])
  rw[WU,cS,show AV.cells (.agg (jC zt zg zy zr xt xg xy xr))=jC zt zg zy zr xt xg xy xr from rfl,cL,cL, <-CP, <-hp3, <-HU, <-kH,av,av,e1',
    aH,aH,aH,aH,bg,bt,ra1,bt,ra1,ap2,cX,pm,ap1 _ _ _ _ (by omega),bt,ra2,hmx,bX,cR,bM,asI,R6,bt,rb0,bt,Bj,bt,rb1,bt,FX, <-hsB]
  refine zq (P:=λj=>∀sC V4,LL st sB sC p3 1 V4 ((oC xt xg xy).map bC) (λA=>[V1,V2,V3,A,.af])->Q (j [.ptr p1 0,.ptr p2 0,.ptr p3 0] sC)) ?_ ?_
  . intro sC V4 hC;have GC:=hC.out.ai;have WC:=GC.wf;have nC:=hC.kx.next;have C1':=hC.kx.keep p1 _ d13 B1;have C2':=hC.kx.keep p2 _ d23 B2;have TC:=TB.kx hC.kx GC sT1;have GSC:=GSB.kx hC.kx GC sG2;have YC:=Mk.kx YB hC.kx GC s3V
    obtain⟨sD,V5,D1,e3⟩:=anF (c:=c) (x2:= .ptr p2 0) hc hr lr (zt:=zt) (zg:=zg) (zy:=zy) (zr:=zr) (xt:=xt) (xg:=xg) (xy:=xy) (V3:=V3) (V4:=V4) WC C1' d13 (by omega) (by omega) TC sT1 GSC sG2 (show(oD xt).length<=1000 by omega) (show(oE xt xg).length<=1000 by omega) ap0 aiM (min xr.length 12) 0 sC .af (by omega)
        ⟨Mk.start hw GC,KX.refl WC,hC.h3,λb e=>(nomatch e)⟩
    have e3':∀(k6:List AV->St->Option (AV×St)),j8 c 400 k6 400 [.ptr p1 0,.ptr p2 0,.ptr p3 0,.int .i64 0] sC=k6 [.ptr p2 0,.ptr p3 0] sD:=λk6=>e3 400 k6 400 (by omega)
    have GD:=D1.out.ai;have WD:=GD.wf;have D2':=D1.kx.keep p2 _ d23 C2';have s4V:∀b,aL V4=some b->p3.toNat+1<=b.toNat:=λb hb=>by have:=hC.since b hb;omega
    have s5V:∀b,aL V5=some b->p3.toNat+1<=b.toNat:=λb hb=>by have:=D1.since b hb;omega
    have TD:=TC.kx D1.kx GD sT1;have GSD:=GSC.kx D1.kx GD sG2;have YD:=Mk.kx YC D1.kx GD s3V;have CD:=Mk.kx hC.out D1.kx GD s4V;have lD:=WD _ _ D2';have ld5:∀(K:AV->St->Option (AV×St)),aq c (.load (some 5)) [.ptr p3 0] sD K=K (.agg [V1,V2,V3,V4,V5]) sD:=λK=>by rw[gR,D1.h3];rfl
    have one5:aQ [V1,V2,V3,V4,V5]=true:=by
        have a1:V1.one=true:=zo TD.out.cells.2;have a2:V2.one=true:=zo v2;have a3:V3.one=true:=zo v3;have a4:V4.one=true:=zo CD.cells.2;have a5:V5.one=true:=zo D1.out.cells.2;simp only[aQ,a1,a2,a3,a4,a5,Zk5]
    have sto5:∀(K:AV->St->Option (AV×St)),aq c (.store 5) [.ptr p2 0,.agg [V1,V2,V3,V4,V5]] sD K=K .undef (bh sD p2 (.cells [V1,V2,V3,V4,V5] 0)):=λK=>by rw[cm c K _ 5 p2 0 (.agg [V1,V2,V3,V4,V5]) _ D2' rfl (by simp) one5];rfl
    have kE:KX p2 sD (bh sD p2 (.cells [V1,V2,V3,V4,V5] 0)):=(KX.refl WD).store lD _;have GE:=wF hw GD (show st.next.toNat<=p2.toNat by omega) lD (.cells [V1,V2,V3,V4,V5] 0);obtain⟨fU,t1,t2⟩:=PS.awL (p:=nE xt xg xy xr) (TD.kx kE GE (sT1.le (by omega))) (GSD.kx kE GE (sG2.le (by omega))) (Mk.kx YD kE GE λb hb=>by have:=s3V b hb;omega) (Mk.kx CD kE GE λb hb=>by have:=s4V b hb;omega) (Mk.kx D1.out kE GE λb hb=>by have:=s5V b hb;omega);have hfin:Q (some (.agg [V1,V2,V3,V4,V5],bh sD p2 (.cells [V1,V2,V3,V4,V5] 0))):=(by rw[hQ];exact⟨_,_,rfl,fU,t1,t2⟩);rw[aH,aH,aH,bg,av,e3',aH,aH,bg,ld5,sto5,abT,bH];exact hfin
  . intro j hj;rw[aS,ld2,UC,di (by omega) (by omega),CR];by_cases h4:0<xy.length % 4
    .   rw[Za0 (show(0:Int)<(xy.length:Int) % 4 by omega),dH,av,e2',aH,aH,aH,bg];refine hj sC1 V41 ?_;have:oC xt xg xy=Hs xg (oE xt xg).length:=(by unfold oC;rw[Zb6 h4]);rw[this];exact C1
    .   rw[Za1 (show ¬(0:Int)<(xy.length:Int) % 4 by omega),cV];refine hj sB .af ?_;have:oC xt xg xy=[]:=(by unfold oC;rw[Za7 h4]);rw[this];exact C0
 obtain⟨Vs,s',k1,fU,k2,k3⟩:=key;refine⟨Vs,fU,?_,k3⟩;rw[R8 hc 400 (r:=(.agg Vs,s')) k1,k2]
theorem IB{P:Nat->Bool}:∀(m k i:Nat),k<=i->i<k+m->P i=true->0<=scan P m k
 |0,_,_,_,_,_=>by omega
 |m +   1,k,i,h1,h2,hp=>by
  unfold scan;split
  .omega
  . rename_i hk;exact IB m (k+1) i (by
        rcases Zj2 k i with h|h
        .omega
        .obtain rfl:i=k:=(by omega);exact absurd hp hk) (by omega) hp
theorem ajV{ts:List aE}(h1:∀t∈ts,sU t=0)(h2:∀(i j:Nat)(a b:aE),i<j->ts[i]? =some a->ts[j]? =some b->a.name≠b.name):∀m k,(iO ts m k).2=0
 |0,_=>rfl
 |m+    1,k=>by
  unfold iO;cases e:ts[k]? with
  |none=>rfl
  |some t=>
   have ht:sU t=0:=h1 t (Zc1 e);simp only;rw[Za7 (by simp[ht]),Za7]
   .    exact ajV h1 h2 m (k+1)
   .    intro hs;obtain⟨_,aW,hp⟩:=zz k 0 hs;generalize (scan (vq ts t.name) k 0).toNat=i at*
        unfold vq at hp;obtain⟨a,ha,hb⟩:=Zf6.1 (Zg2 hp);exact h2 i k a t (by omega) ha e hb
theorem ajW{gs:List aN}(h1:∀g∈gs,jZ g=0)(h2:∀(i j:Nat)(a b:aN),i<j->gs[i]? =some a->gs[j]? =some b->a.name≠b.name)(hl:gs.length<=64):∀m k,(o9 gs m k).2=0
 |0,_=>rfl
 |m+    1,k=>by
  unfold o9;cases e:gs[k]? with
  |none=>rfl
  |some t=>
   have ht:jZ t=0:=h1 t (Zc1 e);have hk:k<gs.length:=(Za2.1 e).1;simp only;rw[Za7 (by simp[ht]),Za7,Za7 (by omega)]
   .    exact ajW h1 h2 hl m (k+1)
   .    intro hs;obtain⟨_,aW,hp⟩:=zz k 0 hs;generalize (scan (mB gs t.name) k 0).toNat=i at*
        unfold mB at hp;obtain⟨a,ha,hb⟩:=Zf6.1 (Zg2 hp);exact h2 i k a t (by omega) ha e hb
theorem ajX{gs:List aN}{ts:List Ty}(h:∀(k:Nat)(t:Ty),ts[k]? =some t->ahg t (p7 ts k)=false/\se gs t=false/\wH t (p7 ts k)=false/\k<256):∀m k,(j5 gs ts m k).2=0
 |0,_=>rfl
 |m+1,k=>by
  unfold j5;cases e:ts[k]? with
  |none=>rfl
  |some t=>
   obtain⟨a,b,d,f⟩:=h k t e;simp only;rw[Za7 (by simp[a]),Za7 (by simp[b]),Za7 (by simp[d]),Za7 (by omega)];exact ajX h m (k+1)
theorem afo{l:List Nat}{n:Nat}(h:∀x∈l,x<n)(h0:0<n)(i:Nat):l.getD i 0<n:=by
 rw[Zb3];cases e:l[i]? with
 |none=>simpa using h0
 |some x=>simpa using h x (Zc1 e)
theorem tZ{α:Type}{f:Nat->α}{k i:Nat}{t:α}(h:((List.range k).map f)[i]? =some t):i<k/\t=f i:=by
 have hi:i<k:=by simpa using(Za2.1 h).1
 rw[Zb7,Zh8 hi,Ze0,H5]at h;exact⟨hi,h.symm⟩
theorem avY:∀i<3,∀x<256,sU (kC i x)=0:=by decide+kernel
theorem ap3:∀x<256,bJ (kC 0 x)=((tN x:Nat):Int):=by decide+kernel
theorem ap4{xt:List Nat}(hx:∀x∈xt,x<256):(bU (oD xt)).2=0:=by
 unfold bU;rw[Za7 (by unfold oD;rw[Ua];omega)];refine ajV (λt ht=> ?_) (λi j a b XJ ha hb e=> ?_) _ _
 .obtain⟨i,hi⟩:=Zf2.1 ht;obtain⟨h1,rfl⟩:=tZ hi;exact avY i (by omega) _ (afo hx (by omega) i)
 .obtain⟨h1,rfl⟩:=tZ ha;obtain⟨h2,rfl⟩:=tZ hb;have e:fL i=fL j:=e;unfold fL at e;simp only[Zf9,Zm5,Zr4]at e;omega
theorem anH(p:Prop)[Decidable p](i:Nat):Aw (if p then bQ i else [])=true:=by
 split
 .unfold Aw;rw[afm];simp
 .rfl
theorem avZ:∀a b d e:Bool,(RB none (((if a=true then [0]else [])++(if b=true then [1]else [])++(if d=true then [2]else [])++(if e=true then [3]else [])).map bQ)=true/\(((if a=true then [0]else [])++(if b=true then [1]else [])++(if d=true then [2]else [])++(if e=true then [3]else [])).map bQ:List (List Nat)).length<=4):=by decide+kernel
theorem atc(x:Nat):RB none (Gd x 4)=true/\(Gd x 4).length<=4:=by
 have e:Gd x 4=(((if Nc x 0=true then [0]else [])++(if Nc x 1=true then [1]else [])++(if Nc x 2=true then [2]else [])++(if Nc x 3=true then [3]else [])).map bQ):=by
  unfold Gd;rw[show List.range 4=[0,1,2,3]from rfl];cases h0:Nc x 0<;>cases h1:Nc x 1<;>cases h2:Nc x 2<;>cases h3:Nc x 3<;>simp[h0,h1,h2,h3]
 rw[e];exact avZ _ _ _ _
theorem av0(i x:Nat):jZ (zA i x)=0:=by
 have t:=atc x;have n:oX (zA i x).name=true:=afm _;have a:Aw (zA i x).AN=true:=anH (x % 2=1) _;have b:Aw (zA i x).jv=true:=anH (4<x % 8) _;have d:Aw (zA i x).nk=true:=anH (x % 3=2) _;unfold jZ;rw[Za7 (by rw[n,a,b,d];simp),Za7 (by show ¬ ¬(0<=((x % 4*500:Nat):Int)/\((x % 4*500:Nat):Int)<=9999);omega),
  Za7 (by show ¬ ¬(0<=((x % 3:Nat):Int)/\((x % 3:Nat):Int)<=2);omega),Za7 (by show ¬4<(Gd x 4).length;omega),Za7 (by show ¬RB none (Gd x 4)=false;rw[t.1];simp)]
theorem UD{a b:Nat}(ha:a<676)(hb:b<676)(h:bQ a=bQ b):a=b:=by unfold bQ at h;simp only[Zf9,Zm5]at h;omega
theorem IC{a b:Nat}(ha:a<676)(hb:b<676):aO (bQ a) (bQ b)=decide (a<b):=by
 unfold bQ;simp only[aO,Lt,cO];by_cases h1:97+a / 26 % 26<97+b / 26 % 26
 .rw[Za0 h1,Za0 (show a<b by omega)]
 . rw[  Za1 h1];by_cases h2:97+a / 26 % 26=97+b / 26 % 26
   . rw[Za0 h2];by_cases h3:97+a % 26<97+b % 26
     .  rw[Za0 h3,Za0 (show a<b by omega)]
     .  rw[Za1 h3,Za1 (show ¬a<b by omega)];simp only;split<;>rfl
   .rw[Za1 h2,Za1 (show ¬a<b by omega)]
theorem R9{i:Nat}(h:i<12):Hr i=25*i:=by
 have:∀i<12,Hr i=25*i:=by decide+kernel
 exact this i h
theorem au4(xs:List Nat):(o9 (gK xs) 101 0).2=0:=by
 refine ajW (λg hg=> ?_) (λi j a b XJ ha hb e=> ?_) (by have:=Im xs;omega) _ _
 .obtain⟨i,hi⟩:=Zf2.1 hg;obtain⟨h1,rfl⟩:=tZ hi;exact av0 _ _
 .obtain⟨h1,rfl⟩:=tZ ha;obtain⟨h2,rfl⟩:=tZ hb;have e:bQ (Hr i)=bQ (Hr j):=e;rw[R9 (by omega),R9 (by omega)]at e;have:=UD (by omega) (by omega) e;omega
theorem Dn{xs:List Nat}{a:Nat}(ha:a<676)(h:bQ a∈nG (gK xs)):∃i,i<12/\a=25*i/\∃j,j<(gK xs).length/\mB (gK xs) (bQ a) j=true:=by
 unfold nG at h;obtain⟨g,hg,e⟩:=Zc7.1 h;obtain⟨i,hi⟩:=Zf2.1 hg;have hl:=(Za2.1 hi).1;obtain⟨h1,rfl⟩:=tZ hi;have e:bQ (Hr i)=bQ a:=e;have e2:=e;rw[R9 (by omega)]at e;have:=UD (by omega) ha e;refine⟨i,by omega,this.symm,i,hl,?_⟩;unfold mB;rw[hi];exact Za0 (congrArg some e2)
def JI(p:Nat×Nat×Int):Ty:=⟨bQ p.1,bQ p.2.1,p.2.2⟩
def Nf(p:Nat×Nat×Int):Nat:=p.1*312+p.2.1
def TOk(names:List (List Nat))(ys:List Ty)(q:Nat):Prop:=
 ∃ps:List (Nat×Nat×Int),ys=ps.map JI/\(∀p∈ps,p.1<p.2.1/\p.2.1<312/\bQ p.1∈names/\bQ p.2.1∈names/\(p.2.2=1\/p.2.2=2)/\Nf p<q)/\ps.Pairwise λa b=>Nf a<Nf b
theorem TOk.up{names:List (List Nat)}{ys:List Ty}{q q':Nat}(h:TOk names ys q)(hq:q<=q'):TOk names ys q':=by
 obtain⟨ps,e,h1,h2⟩:=h;exact⟨ps,e,λp hp=>by obtain⟨a,b,d,f,g,i⟩:=h1 p hp;exact⟨a,b,d,f,g,by omega⟩,h2⟩
theorem TOk.next{names:List (List Nat)}{bK:List Nat}{ys:List Ty}{i k n:Nat}(h:TOk names ys (i*312+k))(hk:k<312)(DM:i<k)(hi:bQ i∈names)(uC:bQ k∈names):TOk names (Ht bK i k n ys) (i*312+(k+1)):=by
 unfold Ht;split
 . rename_i hc;obtain⟨ps,e,h1,h2⟩:=h;unfold ajT at hc;simp only[Zb1,Ze1]at hc;refine⟨ps++[(i,k,1+((bK.getD n 0 % 4:Nat):Int))],by rw[Zc8,e];rfl,λp hp=> ?_,?_⟩
   . rcases Zd7.1 hp with hp|hp
     .  obtain⟨a,b,d,f,g,j⟩:=h1 p hp;exact⟨a,b,d,f,g,by omega⟩
     .  simp only[Za8,Zc0,Ze9]at hp;subst hp;exact⟨DM,hk,hi,uC,by show 1+((bK.getD n 0 % 4:Nat):Int)=1\/1+((bK.getD n 0 % 4:Nat):Int)=2;omega,by show i*312+k<_;omega⟩
   .rw[List.pairwise_append];refine⟨h2,List.pairwise_singleton _ _,λa ha b hb=> ?_⟩;simp only[Za8,Zc0,Ze9]at hb;subst hb;exact(h1 a ha).2.2.2.2.2
 .exact h.up (by omega)
theorem acA{names:List (List Nat)}{bK:List Nat}{i:Nat}:∀(m k n:Nat)(ys:List Ty),k+m<=312->i<k->TOk names ys (i*312+k)->TOk names (nH names bK i m k n ys).2 (i*312+312)
 |0,k,n,ys,h1,_,h=>by unfold nH;exact h.up (by omega)
 |m +   1,k,n,ys,h1,h2,h=>by
  unfold nH;split
  . rename_i hi;split
    .   rename_i hk;exact acA m (k+1) (n+1) _ (by omega) (by omega) (h.next (by omega) h2 hi hk)
    .   exact acA m (k+1) n ys (by omega) (by omega) (h.up (by omega))
  .exact h.up (by omega)
theorem agl{names:List (List Nat)}{bK:List Nat}:∀(m i n:Nat)(ys:List Ty),i+m=312->TOk names ys (i*312)->∃q,TOk names (YR names bK m i n ys) q
 |0,i,n,ys,_,h=>⟨_,h⟩
 |m+1,i,n,ys,h1,h=>by
  unfold YR;exact agl m (i+1) _ _ (by omega) ((acA m (i+1) n ys (by omega) (by omega) (h.up (by omega))).up (by omega))
def rkN(i j:Nat):Nat:=i*(23 - i) / 2+(j - i - 1)
theorem av1:((List.range 12).all λi=>(List.range 12).all λj=>(List.range 12).all λa=>(List.range 12).all λb=> !(decide (i<j)&&decide (a<b)&&(decide (i<a)||(decide (i=a)&&decide (j<b))))||decide (rkN i j<rkN a b))=true:=by decide+kernel
theorem awM(i:Nat)(hi:i<12)(j:Nat)(hj:j<12)(a:Nat)(ha:a<12)(b:Nat)(hb:b<12)(h1:i<j)(h2:a<b)(h3:i<a\/i=a/\j<b):rkN i j<rkN a b:=by
 have h:=Zh3.1 (Zh3.1 (Zh3.1 (Zh3.1 av1 i (Zg5.2 hi)) j (Zg5.2 hj)) a (Zg5.2 ha)) b (Zg5.2 hb);have d3:(decide (i<a)||(decide (i=a)&&decide (j<b)))=true:=by
  rcases h3 with h3|⟨h3,h4⟩
  .rw[Za0 h3];rfl
  .rw[Za0 h3,Za0 h4];simp
 rw[Za0 h1,Za0 h2,d3]at h;simpa using h
theorem awN:∀i<12,∀j<12,i<j->rkN i j<66:=by decide+kernel
theorem ap5{N:Nat}:∀{l:List Nat}{k:Nat},l.Pairwise (· < ·)->(∀x∈l,k<=x/\x<N)->l.length<=N - k
 |[],_,_,_=>by simp
 |x::l,k,h,hk=>by
  obtain⟨h1,h2⟩:=List.pairwise_cons.1 h;have hx:=hk x (by simp);have:=ap5 (k:=x+1) h2 λy hy=>⟨h1 y hy,(hk y (Zb0 _ hy)).2⟩
  simp only[Zc6];omega
theorem af1(xs bK:List Nat):(Em xs bK).length<=66/\(j5 (gK xs) (Em xs bK) 101 0).2=0:=by
 obtain⟨q,ps,e,h1,h2⟩:=agl (names:=nG (gK xs)) (bK:=bK) 312 0 0 [] rfl ⟨[],rfl,λp hp=>by simp at hp,List.Pairwise.nil⟩;have e:Em xs bK=ps.map JI:=e;have hlen:ps.length<=66:=by
   have:=ap5 (N:=66) (k:=0) (l:=ps.map λp=>rkN (p.1 / 25) (p.2.1 / 25)) (by
     rw[List.pairwise_map];refine List.Pairwise.imp_of_mem (λ{a b} ha hb hab=> ?_) h2;obtain⟨a1,a2,a3,a4,_⟩:=h1 a ha;obtain⟨b1,b2,b3,b4,_⟩:=h1 b hb;obtain⟨i,hi,e1,_⟩:=Dn (by omega) a3;obtain⟨j,hj,e2,_⟩:=Dn (by omega) a4;obtain⟨i',QV,e3,_⟩:=Dn (by omega) b3;obtain⟨j',Mf,e4,_⟩:=Dn (by omega) b4;unfold Nf at hab;exact awM _ (by omega) _ (by omega) _ (by omega) _ (by omega) (by omega) (by omega) (by omega)) (λx hx=>by
     obtain⟨p,hp,rfl⟩:=Zc7.1 hx;obtain⟨a1,a2,a3,a4,_⟩:=h1 p hp;obtain⟨i,hi,e1,_⟩:=Dn (by omega) a3;obtain⟨j,hj,e2,_⟩:=Dn (by omega) a4;exact⟨Zi0 _,awN _ (by omega) _ (by omega) (by omega)⟩)
   simpa using this
 refine⟨by rw[e,Za4];exact hlen,ajX (λk t ht=> ?_) 101 0⟩;rw[e,Zb7]at ht;obtain⟨p,hp,rfl⟩:=Zf6.1 ht;have hk:k<ps.length:=(Za2.1 hp).1;obtain⟨a1,a2,a3,a4,a5,_⟩:=h1 p (Zc1 hp);have kn:knd (JI p)=true:=by unfold knd JI;rcases a5 with h|h<;>simp[h]
 have ls:aO (JI p).a (JI p).b=true:=(IC (by omega) (by omega)).trans (Za0 a1);have prev:∀u,p7 (Em xs bK) k=some u->fQ (JI p) u=false/\fQ u (JI p)=true:=λu hu=>by
   unfold p7 at hu;by_cases h0:k=0
   .rw[Zb6 h0]at hu;cases hu
   rw[Za7 h0,e,Zb7]at hu;obtain⟨r,hr,rfl⟩:=Zf6.1 hu;obtain⟨b1,b2,b3,b4,b5,_⟩:=h1 r (Zc1 hr);have lt:Nf r<Nf p:=by
     have hr1:=(Za2.1 hr)
     have kH:=(Za2.1 hp)
     obtain⟨w1,YJ⟩:=hr1;obtain⟨w2,HU⟩:=kH;rw[<-YJ, <-HU];exact List.pairwise_iff_getElem.1 h2 (k - 1) k w1 w2 (by omega)
   unfold Nf at lt;unfold fQ JI;simp only;rw[IC (by omega) (by omega),IC (by omega) (by omega),IC (by omega) (by omega),IC (by omega) (by omega)];by_cases hq:r.1=p.1
   .rw[hq,Za1 (show ¬p.1<p.1 by omega),Za1 (show ¬p.2.1<r.2.1 by omega),Za0 (show r.2.1<p.2.1 by omega)];simp
   .rw[Za1 (show ¬p.1<r.1 by omega),Za0 (show r.1<p.1 by omega),Za1 (show ¬bQ p.1=bQ r.1 from λh=>hq (UD (by omega) (by omega) h).symm)];simp
 have unk:se (gK xs) (JI p)=false:=by obtain⟨_,_,_,i,hi,g1⟩:=Dn (by omega) a3;obtain⟨_,_,_,j,hj,g2⟩:=Dn (by omega) a4;have s1:=IB (gK xs).length 0 i (by omega) (by omega) g1;have s2:=IB (gK xs).length 0 j (by omega) (by omega) g2;unfold se;rw[Za1 (show ¬scan (mB (gK xs) (JI p).a) (gK xs).length 0<0 from λh=>by have h:scan (mB (gK xs) (bQ p.1)) (gK xs).length 0<0:=h;omega),Za1 (show ¬scan (mB (gK xs) (JI p).b) (gK xs).length 0<0 from λh=>by have h:scan (mB (gK xs) (bQ p.2.1)) (gK xs).length 0<0:=h;omega)];rfl
 refine⟨?_,unk,?_,by omega⟩
 . unfold ahg;rw[kn,ls];cases hv:p7 (Em xs bK) k with
   |none=>rfl
   |some u=>simp[(prev u hv).1]
 . unfold wH;cases hv:p7 (Em xs bK) k with
   |none=>rfl
   |some u=>simp[(prev u hv).2]
theorem ap6(xs bK:List Nat):(dX (gK xs) (Em xs bK)).2=0:=by unfold dX;rw[Za7 (by rw[au4];simp)];exact(af1 xs bK).2
theorem Yh{xt:List Nat}(hx:∀x∈xt,x<256):∀k,k<=3->bf (sQ xt k)=((kA xt k:Nat):Int)
 |0,_=>rfl
 |k+1,h=>by
  have ih:=Yh hx k (by omega);have e:sQ xt (k+1)=sQ xt k++[kC k (xt.getD k 0)]:=by unfold sQ;rw[Zg4,Zc8];rfl
  have z:bJ (kC k (xt.getD k 0))=((tN (xt.getD k 0):Nat):Int):=ap3 _ (afo hx (by omega) k);rw[e];unfold bf at ih ⊢;rw[Zc8,Zs3,ih];simp only[Zd1,Zi5,Zn2,List.sum_nil,z];have e2:kA xt (k+1)=kA xt k+tN (xt.getD k 0):=rfl;omega
theorem anI{xt xg xy:List Nat}(hx:∀x∈xt,x<256)(z1 z2 z3 z4 z5:Bool)(rs:List Rl):(jQ ⟨z1,oD xt,z2,oE xt xg,z3,apY xt xg xy,z4,oC xt xg xy,z5,rs⟩).2=0:=by
 unfold jQ;rw[Za7 (by show ¬(bU (oD xt)).2≠0;rw[ap4 hx];simp),Za7 (by show ¬(dX (gK (ve xt xg)) (Em (ve xt xg) xy)).2≠0;rw[ap6];simp)];rw[Za7 (by
  show ¬((oC xt xg xy).length≠0/\(oC xt xg xy).length≠(oE xt xg).length);unfold oC;split
  .rw[MM];simp
  .simp),Za7 (by
  show ¬Am (oC xt xg xy)=false;rw[   show Am (oC xt xg xy)=true from by
    unfold Am oC;rw[Zh3];intro y hy;split at hy
    .   unfold Hs at hy;obtain⟨i,_,rfl⟩:=Zc7.1 hy;rw[Zb1];exact⟨Za0 (by omega),Za0 (by omega)⟩
    .   simp at hy]
  simp),Za7]
 show ¬bf (oD xt)<((oE xt xg).length:Int)
 unfold oD oE gK;rw[MN,Yh hx _ (by omega)];unfold ve;rw[Zg3];omega
theorem ap7{p:bS}{a:Nat}(ha:a<p.gs.length):¬gi p (pK p.gs a)<0:=by have:=IB (P:=mB p.gs (pK p.gs a)) p.gs.length 0 a (by omega) (by omega) (by unfold mB pK;rw[H0 ha];simp);unfold gi;omega
theorem av2{p:bS}(hd:∀(i j:Nat)(a b:aE),i<j->p.ts[i]? =some a->p.ts[j]? =some b->a.name≠b.name){t:Nat}(ht:t<p.ts.length):ti p (zO p.ts t)=(t:Int):=by
 have h0:=IB (P:=vq p.ts (zO p.ts t)) p.ts.length 0 t (by omega) (by omega) (by unfold vq zO;rw[H0 ht];simp);obtain⟨_,h1,h2⟩:=zz p.ts.length 0 h0;unfold ti;generalize scan (vq p.ts (zO p.ts t)) p.ts.length 0=k at*
 unfold vq zO at h2;rw[H0 ht]at h2;obtain⟨u,hu,e⟩:=Zf6.1 (Zg2 h2);rcases Nat.lt_trichotomy k.toNat t with h|h|h
 .exact absurd e (hd _ _ _ _ h hu (H0 ht))
 .omega
 .exact absurd e.symm (hd _ _ _ _ h (H0 ht) hu)
theorem aoR{p:bS}(hg:∀g∈p.gs,g.nk=[]\/oX g.nk=true)(hgd:∀(i j:Nat)(a b:aN),i<j->p.gs[i]? =some a->p.gs[j]? =some b->a.name≠b.name)(htd:∀(i j:Nat)(a b:aE),i<j->p.ts[i]? =some a->p.ts[j]? =some b->a.name≠b.name)
   (uT:∀t∈p.ts,bJ t=n7 t.sh t.a t.b/\0<bJ t) (x:Nat) (h:(iC p.ts p.gs x).2=true):uL p (iC p.ts p.gs x).1=0:=by
 unfold iC at h ⊢;by_cases h0:p.gs.length=0\/p.ts.length=0
 .rw[Zb6 h0]at h;cases h
 rw[Za7 h0]at h ⊢;have hw:(YN (x / 18))<=7:=by unfold YN;split<;>omega
 have ha:x / 18 / 5 % p.gs.length<p.gs.length:=Zj5 _ (by omega);have hb:x / 18 / 5 / p.gs.length % p.gs.length<p.gs.length:=Zj5 _ (by omega);have fN:x / 18 / 5 / 7 % p.ts.length<p.ts.length:=Zj5 _ (by omega);have hn:x / 18 / 5 / 11 % 4<4:=Zj5 _ (by omega);have k1:1<=1+x % 18:=by omega
 have k2:1+x % 18<=18:=by omega
 generalize 1+x % 18=k at*
 generalize YN (x / 18)=w at*
 generalize x / 18 / 5=z at*
 generalize z % p.gs.length=a at*
 generalize z / p.gs.length % p.gs.length=b at*
 generalize z / 7 % p.ts.length=t at*
 generalize z / 11 % 4=n at*
 have g1:=ap7 ha;have g2:=ap7 hb;have g3:IA p.gs a=[]\/oX (IA p.gs a)=true:=by unfold IA;rw[H0 ha];exact hg _ (Zb9 ha)
 have g4:=av2 htd fN;have g5:Dm p.ts t=AQ p ((t:Nat):Int)/\0<Dm p.ts t:=by have:=uT _ (Zb9 fN);unfold Dm AQ;rw[Zd4,H0 fN];simp only;omega
 have g6:0<=((z / 13:Nat):Int) % Dm p.ts t/\((z / 13:Nat):Int) % Dm p.ts t<=Dm p.ts t - 1:=⟨Zs4 _ (by omega),by have:=Zr1 ((z / 13:Nat):Int) g5.2;omega⟩
 have g7:a≠b->pK p.gs a≠pK p.gs b:=λhab e=>by
   unfold pK at e;rw[H0 ha,H0 hb]at e;rcases Nat.lt_or_gt_of_ne hab with h|h
   .exact hgd _ _ _ _ h (H0 ha) (H0 hb) e
   .exact hgd _ _ _ _ h (H0 hb) (H0 ha) e.symm
 clear hg ha hb fN h0 hgd htd uT;obtain⟨g5,_⟩:=g5;rw[g5]at g6;rcases uX k1 k2 with rfl|rfl|rfl|rfl|rfl|rfl|rfl|rfl|rfl|rfl|rfl|rfl|rfl|rfl|rfl|rfl|rfl|rfl
 all_goals
   unfold Ud at h ⊢;unfold uL TW MH aeM ZW Cf;simp[kd]at h ⊢
   first
   |done
   |omega
   |(simp[*];done)
   |(simp[*];omega)
   |grind
theorem acf{ts:List aE}{gs:List aN}{xr:List Nat}:∀{k:Nat}{r:Rl},r∈Cg ts gs xr k->∃x,(iC ts gs x).2=true/\r=(iC ts gs x).1
 |0,_,h=>by cases h
 |k +   1,r,h=>by
  unfold Cg at h;rcases Zd7.1 h with h|h
  .exact acf h
  . split at h
    .   rename_i e;simp only[Za8,Zc0,Ze9]at h;exact⟨_,e,h⟩
    .   cases h
theorem agm{p:bS}(h:∀r∈p.rs,uL p r=0)(hl:p.rs.length<=64):∀m i,(oF p m i).2=0
 |0,_=>rfl
 |m+1,i=>by
  unfold oF;cases e:p.rs[i]? with
  |none=>rfl
  |some r=>
   have:=(Za2.1 e).1;simp only;rw[Za7 (by rw[h r (Zc1 e)];simp),Za7 (by omega)];exact agm h hl m (i+1)
theorem UE{xt:List Nat}{i:Nat}{t:aE}(h:(oD xt)[i]? =some t):i<3/\t=kC i (xt.getD i 0):=by
 obtain⟨h1,h2⟩:=tZ h;exact⟨by omega,h2⟩
theorem OL{xs:List Nat}{i:Nat}{g:aN}(h:(gK xs)[i]? =some g):i<12/\g=zA i (xs.getD i 0):=by
 obtain⟨h1,h2⟩:=tZ h;exact⟨by omega,h2⟩
theorem Yg{xt:List Nat}:∀(i j:Nat)(a b:aE),i<j->(oD xt)[i]? =some a->(oD xt)[j]? =some b->a.name≠b.name:=λi j a b XJ ha hb e=>by obtain⟨h1,rfl⟩:=UE ha;obtain⟨h2,rfl⟩:=UE hb;have e:fL i=fL j:=e;unfold fL at e;simp only[Zf9,Zm5,Zr4]at e;omega
theorem Yf{xs:List Nat}:∀(i j:Nat)(a b:aN),i<j->(gK xs)[i]? =some a->(gK xs)[j]? =some b->a.name≠b.name:=λi j a b XJ ha hb e=>by obtain⟨h1,rfl⟩:=OL ha;obtain⟨h2,rfl⟩:=OL hb;have e:bQ (Hr i)=bQ (Hr j):=e;rw[R9 (by omega),R9 (by omega)]at e;have:=UD (by omega) (by omega) e;omega
theorem af2{xs:List Nat}:∀g∈gK xs,g.nk=[]\/oX g.nk=true:=λg hg=>by
 obtain⟨i,hi⟩:=Zf2.1 hg;obtain⟨_,rfl⟩:=OL hi;show(if(xs.getD i 0) % 3=2 then bQ ((xs.getD i 0) % 5)else [])=[]\/oX (if(xs.getD i 0) % 3=2 then bQ ((xs.getD i 0) % 5)else [])=true;split
 .exact .inr (afm _)
 .exact .inl rfl
theorem P6{xt:List Nat}(hx:∀x∈xt,x<256):∀t∈oD xt,bJ t=n7 t.sh t.a t.b/\0<bJ t:=λt ht=>by
 obtain⟨i,hi⟩:=Zf2.1 ht;obtain⟨h1,rfl⟩:=UE hi;have aW:=afo hx (by omega) i;have z:bJ (kC i (xt.getD i 0))=((tN (xt.getD i 0):Nat):Int):=ap3 _ aW;have e:n7 (kC i (xt.getD i 0)).sh (kC i (xt.getD i 0)).a (kC i (xt.getD i 0)).b=((tN (xt.getD i 0):Nat):Int):=aab _;have h1:=apZ (xt.getD i 0);exact⟨by rw[z,e],by rw[z];omega⟩
theorem ady{xt xg xy xr:List Nat}(hx:∀x∈xt,x<256):(iH (nE xt xg xy xr)).2=0:=by
 unfold iH;have hb:(jQ (nE xt xg xy xr)).2=0:=anI hx _ _ _ _ _ _;rw[Za7 (by rw[hb];simp)];refine agm (λr hr=> ?_) ?_ _ _
 .obtain⟨x,h1,rfl⟩:=acf hr;exact aoR (p:=nE xt xg xy xr) af2 Yf Yg (P6 hx) x h1
 .have:=Ub (oD xt) (oE xt xg) xr (min xr.length 12);show(Cg _ _ _ _).length<=64;omega
end
end Go.Proofs.YtmldijpopgaaeaaGreatDoor
