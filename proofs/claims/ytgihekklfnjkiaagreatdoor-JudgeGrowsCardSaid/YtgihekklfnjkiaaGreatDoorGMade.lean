/- A valid problem out of numbers. -/
import Derived.Test.YtgihekklfnjkiaaGreatDoorGPlainC
set_option linter.all false
set_option linter.unusedSectionVars false
set_option linter.deprecated false
namespace Go.Proofs.YtgihekklfnjkiaaGreatDoor
section
set_option maxRecDepth 100000
open Go Go.Ai Go.Proofs
variable{c : aj}
def fE(i:Nat):List Nat:=[116,97+i % 26]
def bN(i:Nat):List Nat:=[97+i / 26 % 26,97+i % 26]
theorem aqJ(hc:bw c)(i:Nat)(hi:i<1000000)(st:St)(hw:Wf st):c 85 [.int .i64 (i:Int)] st=some (.str (fE i),st):=by
 have hg:=Grew.ah hw (.cells [.int .u8 116,.int .u8 (97+(i:Int) % 26)] 0);rw[Qq hc 1 (r:=(.str (fE i),ah st (.cells [.int .u8 116,.int .u8 (97+(i:Int) % 26)] 0))),aE (Plain.str _) hg.keeps];rw[U8];have w1:av .i64 (97+(i:Int) % 26)=97+(i:Int) % 26:=wrap64 (by omega) (by omega);have w2:av .u8 (97+(i:Int) % 26)=97+(i:Int) % 26:=Gh (by omega) (by omega);have r1:=λ(s:St)(K:AV->St->Option (AV×St))=>cO (c:=c) (k:= .i64) (a:=(i:Int)) (b:=26) (by omega) (by omega) s K
 have two:=λ(s:St)(K:AV->St->Option (AV×St))=>ahh (c:=c) (x:=116) (y:=97+(i:Int) % 26) 116 (97+i % 26) rfl (by omega) (by omega) (by omega) s K
 simp[-au,r1,B9,w1,w2,two,fE]
theorem zz(hc:bw c)(i:Nat)(hi:i<1000000)(st:St)(hw:Wf st):c 86 [.int .i64 (i:Int)] st=some (.str (bN i),st):=by
 have hg:=Grew.ah hw (.cells [.int .u8 (97+(i:Int) / 26 % 26),.int .u8 (97+(i:Int) % 26)] 0);rw[MG hc 1 (r:=(.str (bN i),ah st (.cells [.int .u8 (97+(i:Int) / 26 % 26),.int .u8 (97+(i:Int) % 26)] 0))),aE (Plain.str _) hg.keeps];rw[Qr];have w1:av .i64 (97+(i:Int) % 26)=97+(i:Int) % 26:=wrap64 (by omega) (by omega);have w2:av .u8 (97+(i:Int) % 26)=97+(i:Int) % 26:=Gh (by omega) (by omega);have w3:av .i64 (97+(i:Int) / 26 % 26)=97+(i:Int) / 26 % 26:=wrap64 (by omega) (by omega);have w4:av .u8 (97+(i:Int) / 26 % 26)=97+(i:Int) / 26 % 26:=Gh (by omega) (by omega);have r1:=λ(s:St)(K:AV->St->Option (AV×St))=>cO (c:=c) (k:= .i64) (a:=(i:Int)) (b:=26) (by omega) (by omega) s K
 have r2:=λ(s:St)(K:AV->St->Option (AV×St))=>iz (c:=c) (a:=(i:Int)) (b:=26) (by omega) (by omega) (by omega) s K
 have r3:=λ(s:St)(K:AV->St->Option (AV×St))=>cO (c:=c) (k:= .i64) (a:=(i:Int) / 26) (b:=26) (by omega) (by omega) s K
 have two:=λ(s:St)(K:AV->St->Option (AV×St))=>ahh (c:=c) (x:=97+(i:Int) / 26 % 26) (y:=97+(i:Int) % 26) (97+i / 26 % 26) (97+i % 26) (by omega) (by omega) (by omega) (by omega) s K
 simp[-au,r1,r2,r3,B9,w1,w2,w3,w4,two,bN]
def nO(sh a b:Int):Int:=if sh=2 then 2*a+b else if sh=3 then a+2*b else a
theorem Lq(hc:bw c){l:List AV}{sh a b:Int}(h1:l[1]? =some (.int .u8 sh))(h2:l[2]? =some (.int .i64 a))(h3:l[3]? =some (.int .i64 b))(ha:0<=a/\a<=1000000)(hb:0<=b/\b<=1000000)(st:St)(hw:Wf st):
   c 46 [.agg l] st=some (.int .i64 (nO sh a b),st):=by
 have hg:=Grew.ah hw (.cells l 0);have p1:=aA st (.cells l 0);rw[Qt hc 1 (r:=(.int .i64 (nO sh a b),ah st (.cells l 0))),aE (Plain.int _ _) hg.keeps];rw[U9];have w1:av .i64 (2*a)=2*a:=wrap64 (by omega) (by omega);have w2:av .i64 (2*b)=2*b:=wrap64 (by omega) (by omega);have w3:av .i64 (2*a+b)=2*a+b:=wrap64 (by omega) (by omega);have w4:av .i64 (a+2*b)=a+2*b:=wrap64 (by omega) (by omega);unfold nO;by_cases e2:sh=2
 . subst e2;simp[p1,h1,h2,h3,w1,w3]
 . by_cases e3:sh=3
   . subst e3;simp[p1,h1,h2,h3,w2,w4]
   . have d2:decide (sh=2)=false:=Za1 e2;have d3:decide (sh=3)=false:=Za1 e3;simp[p1,h1,h2,h3,e2,e3,d2,d3]
def aeb(i:Nat):List AV:=[.int .i64 (i:Int)]
def uO:List AV:=[.str [],.int .u8 0,.int .i64 0,.int .i64 0,.af,.int .i64 0,.int .i64 0]
def gW(nm:List Nat)(sh a b:Int)(x:Nat)(v:AV):List AV:=[.str nm,.int .u8 sh,.int .i64 a,.int .i64 b,v,.int .i64 (x:Int),.int .i64 (255 - (x:Int))]
def abl(x i:Nat):Bool:=decide (x / 2 ^ i % 2=1)&&decide (0<x % 3)
theorem asZ(x i:Nat):abl x i=(decide (x / 2 ^ i % 2=1)&&decide (0<x % 3)):=by rw[abl]
def Df(x k:Nat):List Nat:=(List.range k).filter (abl x)
theorem afa(x k:Nat):Df x (k+1)=Df x k++(if abl x k=true then [k]else []):=by
 unfold Df;rw[Zf9,Zk9];congr 1;cases h:abl x k with
 |true=>simp[h]
 |false=>simp[h]
theorem ahF(x k:Nat):(Df x k).length<=k:=by have:=Zm3 (abl x) (List.range k);rw[Zq4]at this;exact this
structure TI(st s:St)(p4 p5:Pos)(nm:List Nat)(sh a b:Int)(x k:Nat)(v:AV):Prop where
 out:Mk 1 st s v ((Df x k).map aeb)
 h4:s.heap.get p4=some (.cells uO 0)
 h5:s.heap.get p5=some (.cells (gW nm sh a b x v) 0)
 n4:aL v≠some p4
 n5:aL v≠some p5
theorem al4(hc:bw c){nm:List Nat}{sh a b:Int}{x n:Nat}(ha:0<=a/\a<=1000000)(hb:0<=b/\b<=1000000)(hx:x<1000000)(hn:nO sh a b=(n:Int))(hn64:n<=64){st:St}{p4 p5:Pos}(h4:st.next.toNat<=p4.toNat)(h5:st.next.toNat<=p5.toNat)(Qu:p4≠p5)
  (F:Nat) (k3):∀(m k:Nat)(s:St)(v:AV),TI st s p4 p5 nm sh a b x k v->n<=k+m->k<=n->
  ∃s' v',TI st s' p4 p5 nm sh a b x n v'/\jr c F k3 (m+1) [.int .i64 (x:Int),.ptr p4 0,.ptr p5 0,.int .i64 (k:Int)] s=k3 [.ptr p4 0,.ptr p5 0] s':=by
 intro m;induction m with
 |zero=>
  intro k s v hT h1 h2;obtain rfl:k=n:=by omega
  refine⟨s,v,hT,?_⟩;have S:=Lq hc (l:=gW nm sh a b x v) rfl rfl rfl ha hb s hT.out.ai.wf;have cu:cut (gW nm sh a b x v) 0 7=some (gW nm sh a b x v):=cQ rfl;rw[hn]at S;rw[nP];simp[hT.h5,cu,S]
 |succ m ih=>
  intro k s v hT h1 h2;have hw:=hT.out.ai.wf;have S:=Lq hc (l:=gW nm sh a b x v) rfl rfl rfl ha hb s hw;have cu:cut (gW nm sh a b x v) 0 7=some (gW nm sh a b x v):=cQ rfl;rw[hn]at S;clear hn;by_cases h:k<n
  . have hx0:(0:Int)<=(x:Int):=Int.natCast_nonneg x;have w:av .i64 ((k:Int)+1)=((k+1:Nat):Int):=wrap64 (by omega) (by omega);have sr:=λ(s:St)(K:AV->St->Option (AV×St))=>ahg (c:=c) (a:=(x:Int)) (i:=k) (Zb2 h2 hn64) s K
    have p0:(0:Int)<=(x:Int) / 2 ^ k:=Zr6 hx0 (Int.le_of_lt (Int.pow_pos (by omega)));have r1:=λ(s:St)(K:AV->St->Option (AV×St))=>cO (c:=c) (k:= .i64) (a:=(x:Int) / 2 ^ k) (b:=2) p0 (by decide) s K
    have r2:=λ(s:St)(K:AV->St->Option (AV×St))=>cO (c:=c) (k:= .i64) (a:=(x:Int)) (b:=3) hx0 (by decide) s K
    have d1:decide ((x:Int) / 2 ^ k % 2=1)=decide (x / 2 ^ k % 2=1):=(by have:((x:Int) / 2 ^ k % 2=1)↔(x / 2 ^ k % 2=1):=(by rw[show((x:Int) / 2 ^ k % 2)=((x / 2 ^ k % 2:Nat):Int)by simp];omega);exact decide_eq_decide.2 this);have d2:decide (0<(x:Int) % 3)=decide (0<x % 3):=decide_eq_decide.2 (by omega);have c4:(gW nm sh a b x v)[4]? =some v:=rfl;have hl:decide ((k:Int)<(n:Int))=true:=Za0 (Int.ofNat_lt.2 h);have fin:=asZ x k;cases hq:abl x k with
    |   true=>
        have hrl:((Df x k).map aeb).length<=64:=(by rw[Za4];have:=ahF x k;omega);obtain⟨s5,v5,a1,a2,a3,a4⟩:=hT.out.push (c:=c) (R:=AV×St) (bytes:=8) (z:=[.int .i64 0]) (x:= .int .i64 (k:Int)) rfl rfl rfl (by decide) (by omega) (by omega);have e:(Df x (k+1)).map aeb=(Df x k).map aeb++[(.int .i64 (k:Int):AV).cells]:=(by rw[afa,Zb3 hq,Zd3];rfl);rw[<-e]at a2;have y4:=a3 p4 _ hT.n4 hT.h4;have y5:=a3 p5 _ hT.n5 hT.h5;have l4:=hw p4 _ hT.h4;have l5:=hw p5 _ hT.h5;have b4:aL v5≠some p4:=λe=>by have:=a4 _ e;omega
        have b5:aL v5≠some p5:=λe=>by have:=a4 _ e;omega
        have hw5:=a2.ai.wf;have l5':=hw5 p5 _ y5;have M:=a2.store (p:=p5) (b:= .cells (gW nm sh a b x v5) 0) h5 l5' b5;obtain⟨vc,v1⟩:=a2.cells;have bD:∀(K:AV->St->Option (AV×St)),aq c (.store 1) [.ptr p5 4,v5] s5 K=K .undef (bg s5 p5 (.cells (gW nm sh a b x v5) 0)):=λK=>by rw[cg c K s5 1 p5 4 v5 (gW nm sh a b x v) y5 (by rw[vc];rfl) (by simp[gW]) (by rw[vc];exact v1),vc];rfl
        have T5:TI st (bg s5 p5 (.cells (gW nm sh a b x v5) 0)) p4 p5 nm sh a b x (k+1) v5:=⟨M,by rw[aJ (λe=>Qu e.symm)];exact y4,bG _ _ _,b4,b5⟩
        obtain⟨s',v',b1,b2⟩:=ih (k+1) _ v5 T5 (by omega) (by omega);refine⟨s',v',b1,?_⟩;rw[<-b2,nP];rw[fin,Zb5]at hq;simp[-au,hT.h5,cu,S,h,cL,sr,r1,r2,d1,d2,hq.1,hq.2,c4,a1,bD,w]
    |   false=>
        have e:(Df x (k+1))=(Df x k):=(by rw[afa,Za7 (by rw[hq];decide),Ze0]);obtain⟨s',v',b1,b2⟩:=ih (k+1) s v ⟨by rw[e];exact hT.out,hT.h4,hT.h5,hT.n4,hT.n5⟩ (by omega) (by omega);refine⟨s',v',b1,?_⟩;rw[<-b2,nP];rw[fin]at hq;cases g1:decide (x / 2 ^ k % 2=1)with
        |false=>simp[-au,hT.h5,cu,S,h,cL,sr,r1,r2,d1,d2,g1,c4,w]
        |true=>
         rw[g1,Zg6]at hq;simp[-au,hT.h5,cu,S,h,cL,sr,r1,r2,d1,d2,g1,hq,c4,w]
  . obtain rfl:k=n:=(by omega);refine⟨s,v,hT,?_⟩;rw[nP];simp[hT.h5,cu,S]
theorem mG(s:St)(cs:List AV)(o:Nat)(v:AV)(ho:o<cs.length)(h1:v.cells=[v])(h2:v.one=true)(K:AV->St->Option (AV×St)):aq c (.store 1) [.ptr s.next o,v] (ah s (.cells cs 0)) K=K .undef (ah s (.cells (cs.set o v) 0)):=by
 rw[cg c K (ah s (.cells cs 0)) 1 s.next o v cs (aA _ _) (by rw[h1];rfl) (by omega) (by rw[h1];simp[aQ,h2]),h1,zl _ _ ho,Yp]
def pn(x:Nat):Nat:=1+x % 4
def tA(x:Nat):Nat:=if x % 4=0 then 1+x / 4 % 6 else if x % 4=1 then 1+x / 4 % 3 else if x % 4=2 then 1+x / 4 % 2 else 1+x / 4 % 5
def tB(x:Nat):Nat:=if x % 4=0 then 0 else if x % 4=1 then x / 4 / 3 % 3 else if x % 4=2 then 1+x / 4 / 2 % 2 else min (1+x / 4 % 5) (x / 4 / 5 % 4)
def tN(x:Nat):Nat:=if x % 4=1 then 2*tA x+tB x else if x % 4=2 then tA x+2*tB x else tA x
theorem agc(x:Nat):tA x<=6:=by unfold tA;split<;>(try split)<;>(try split)<;>omega
theorem agd(x:Nat):tB x<=3:=by unfold tB;split<;>(try split)<;>(try split)<;>omega
theorem acu(x:Nat):tN x<=16:=by have:=agc x;have:=agd x;unfold tN;split<;>(try split)<;>omega
theorem YJ(x:Nat):nO ((pn x:Nat):Int) ((tA x:Nat):Int) ((tB x:Nat):Int)=((tN x:Nat):Int):=by
 unfold nO tN pn;by_cases h1:x % 4=1
 . rw[Zb3 (by omega),Zb3 h1];omega
 . by_cases h2:x % 4=2
   . rw[Za7 (by omega),Zb3 (by omega),Za7 h1,Zb3 h2];omega
   . rw[Za7 (by omega),Za7 (by omega),Za7 h1,Za7 h2]
set_option maxHeartbeats 2000000 in
theorem aqK(hc:bw c)(i x:Nat)(hi:i<1000000)(hx:x<256)(st:St)(hw:Wf st):∃v s',c 45 [.int .i64 (i:Int),.int .i64 (x:Int)] st=some (.agg (gW (fE i) (pn x:Nat) (tA x:Nat) (tB x:Nat) x v),s')/\Mk 1 st s' v ((Df x (tN x)).map aeb):=by
 have cN:Wf (ah st (.cells uO 0)):=bF hw;have g1:=Grew.ah hw (.cells uO 0);have W:=aqJ hc i hi (ah st (.cells uO 0)) cN;have hA:=agc x;have hB:=agd x;have hN:=acu x;have g2:=Grew.ah cN (.cells (gW (fE i) (pn x:Nat) (tA x:Nat) (tB x:Nat) x .af) 0);have x1:(ah (ah st (.cells uO 0)) (.cells (gW (fE i) (pn x:Nat) (tA x:Nat) (tB x:Nat) x .af) 0)).heap.get st.next=some (.cells uO 0):=g2.get (aA _ _);have x2:(ah (ah st (.cells uO 0)) (.cells (gW (fE i) (pn x:Nat) (tA x:Nat) (tB x:Nat) x .af) 0)).heap.get (ah st (.cells uO 0)).next=some (.cells (gW (fE i) (pn x:Nat) (tA x:Nat) (tB x:Nat) x .af) 0):=aA _ _;have n12:st.next≠(ah st (.cells uO 0)).next:=by rw[bM];exact Pos.Yq _
 have T0:TI st (ah (ah st (.cells uO 0)) (.cells (gW (fE i) (pn x:Nat) (tA x:Nat) (tB x:Nat) x .af) 0)) st.next (ah st (.cells uO 0)).next (fE i) (pn x:Nat) (tA x:Nat) (tB x:Nat) x 0 .af:=
   ⟨Mk.start hw (g1.trans g2),x1,x2,λe=>(nomatch e),λe=>(nomatch e)⟩
 obtain⟨s',v,hT,L⟩:=al4 hc (n:=tN x) (by omega) (by omega) (by omega) (YJ x) (by omega) (p4:=st.next) (p5:=(ah st (.cells uO 0)).next) (Za3 _) (by rw[bM,Pos.aF];omega) n12 (tN x+1)
   (λvs s96=>gY vs λx4 vs=>gY vs λx5 vs=>mz vs (aq c (.load (some 7)) [x5] s96 λx86 s97=>aq c (.store 7) [x4,x86] s97 λ_ s98=>ldr (some 7) x4 s98 λv99=>some (v99,s98))) (tN x) 0 (ah (ah st (.cells uO 0)) (.cells (gW (fE i) (pn x:Nat) (tA x:Nat) (tB x:Nat) x .af) 0)) .af T0 (by omega) (by omega)
 have M:=hT.out;obtain⟨vc,v1⟩:=M.cells;have one:aQ (gW (fE i) (pn x:Nat) (tA x:Nat) (tB x:Nat) x v)=true:=by
   simp only[aQ]at v1;unfold gW;simp only[aQ,AV.one,v1,Zk2,Zi3]at*
 have hcut:cut (gW (fE i) (pn x:Nat) (tA x:Nat) (tB x:Nat) x v) 0 7=some (gW (fE i) (pn x:Nat) (tA x:Nat) (tB x:Nat) x v):=cQ rfl;have Av:∀(K:AV->St->Option (AV×St)),aq c (.store 7) [.ptr st.next 0,.agg (gW (fE i) (pn x:Nat) (tA x:Nat) (tB x:Nat) x v)] s' K=K .undef (bg s' st.next (.cells (gW (fE i) (pn x:Nat) (tA x:Nat) (tB x:Nat) x v) 0)):=λK=>by rw[cg c K s' 7 st.next 0 (.agg (gW (fE i) (pn x:Nat) (tA x:Nat) (tB x:Nat) x v)) _ hT.h4 rfl (by simp[uO]) one];rfl
 have M2:=M.store (p:=st.next) (b:= .cells (gW (fE i) (pn x:Nat) (tA x:Nat) (tB x:Nat) x v) 0) (Za3 _) (M.ai.wf _ _ hT.h4) hT.n4;have mem:v∈gW (fE i) (pn x:Nat) (tA x:Nat) (tB x:Nat) x v:=by simp[gW]
 have low:∀y∈fE i,y<256:=by intro y hy;simp[fE]at hy;omega
 obtain⟨fN,t1,_,t3⟩:=M2.RJ mem (λu hu=>by simp only[gW,Zb0,Zc5,Zf2]at hu;rcases hu with rfl|rfl|rfl|rfl|rfl|rfl|rfl<;>first|exact dQ.str low|exact dQ.int _ _|exact M.inst);refine⟨v,fN,?_,t3⟩;rw[Om hc (tN x+1) (r:=(.agg (gW (fE i) (pn x:Nat) (tA x:Nat) (tB x:Nat) x v),bg s' st.next (.cells (gW (fE i) (pn x:Nat) (tA x:Nat) (tB x:Nat) x v) 0))),t1];have L2:jr c (tN x+1) (λvs s96=>gY vs λx4 vs=>gY vs λx5 vs=>mz vs (aq c (.load (some 7)) [x5] s96 λx86 s97=>aq c (.store 7) [x4,x86] s97 λ_ s98=>ldr (some 7) x4 s98 λv99=>some (v99,s98))) (tN x+1) [.int .i64 (x:Int),.ptr st.next 0,.ptr (ah st (.cells uO 0)).next 0,.int .i64 0] (ah (ah st (.cells uO 0)) (.cells (gW (fE i) (pn x:Nat) (tA x:Nat) (tB x:Nat) x .af) 0))=some (.agg (gW (fE i) (pn x:Nat) (tA x:Nat) (tB x:Nat) x v),bg s' st.next (.cells (gW (fE i) (pn x:Nat) (tA x:Nat) (tB x:Nat) x v) 0)):=by
   rw[show(0:Int)=((0:Nat):Int)from rfl,L];simp[hT.h5,hcut,Av]
 generalize hF:tN x+1=F at L2 ⊢;clear hF L hT M2 Av T0 x1 x2 g2;have q1:=λ(s:St)(K:AV->St->Option (AV×St))=>cO (c:=c) (k:= .i64) (a:=(x:Int)) (b:=4) (by omega) (by omega) s K
 have q2:=λ(s:St)(K:AV->St->Option (AV×St))=>iz (c:=c) (a:=(x:Int)) (b:=4) (by omega) (by omega) (by omega) s K
 have q3:=λ(n:Int)(hn:0<n)(s:St)(K:AV->St->Option (AV×St))=>cO (c:=c) (k:= .i64) (a:=(x:Int) / 4) (b:=n) (by omega) hn s K
 have w1:av .i64 (1+(x:Int) % 4)=1+(x:Int) % 4:=wrap64 (by omega) (by omega);have w2:av .u8 (1+(x:Int) % 4)=1+(x:Int) % 4:=Gh (by omega) (by omega);have w3:av .i64 (255 - (x:Int))=255 - (x:Int):=wrap64 (by omega) (by omega);have al:∀(s:St)(K:AV->St->Option (AV×St)),aq c (.alloc [.str [],.int .u8 0,.int .i64 0,.int .i64 0,.af,.int .i64 0,.int .i64 0]) [] s K=K (.ptr s.next 0) (ah s (.cells uO 0)):=λs K=>rfl
 have bld:∀(nm:List Nat)(sh u y:Int)(s:St)(K:AV->St->Option (AV×St)),aq c (.build [.str [],.int .u8 0,.int .i64 0,.int .i64 0,.af,.int .i64 0,.int .i64 0] [(0,1),(1,1),(5,1),(6,1)]) [.str nm,.int .u8 sh,.int .i64 u,.int .i64 y] s K=K (.agg [.str nm,.int .u8 sh,.int .i64 0,.int .i64 0,.af,.int .i64 u,.int .i64 y]) s:=λnm sh u y s K=>rfl
 have Qv:∀(nm:List Nat)(sh u y:Int)(s:St)(K:AV->St->Option (AV×St)),aq c (.store 7) [.ptr s.next 0,.agg [.str nm,.int .u8 sh,.int .i64 0,.int .i64 0,.af,.int .i64 u,.int .i64 y]] (ah s (.cells uO 0)) K=K .undef (ah s (.cells [.str nm,.int .u8 sh,.int .i64 0,.int .i64 0,.af,.int .i64 u,.int .i64 y] 0)):=λnm sh u y s K=>cw c K s 7 (.agg [.str nm,.int .u8 sh,.int .i64 0,.int .i64 0,.af,.int .i64 u,.int .i64 y]) uO rfl rfl rfl
 have al5:∀(nm:List Nat)(sh p q u y z:Int)(s:St)(K:AV->St->Option (AV×St)),aq c (.store 1) [.ptr s.next 2,.int .i64 z] (ah s (.cells [.str nm,.int .u8 sh,.int .i64 p,.int .i64 q,.af,.int .i64 u,.int .i64 y] 0)) K=K .undef (ah s (.cells [.str nm,.int .u8 sh,.int .i64 z,.int .i64 q,.af,.int .i64 u,.int .i64 y] 0)):=λnm sh p q u y z s K=>mG s _ 2 (.int .i64 z) (by simp) rfl rfl K
 have al6:∀(nm:List Nat)(sh p q u y z:Int)(s:St)(K:AV->St->Option (AV×St)),aq c (.store 1) [.ptr s.next 3,.int .i64 z] (ah s (.cells [.str nm,.int .u8 sh,.int .i64 p,.int .i64 q,.af,.int .i64 u,.int .i64 y] 0)) K=K .undef (ah s (.cells [.str nm,.int .u8 sh,.int .i64 p,.int .i64 z,.af,.int .i64 u,.int .i64 y] 0)):=λnm sh p q u y z s K=>mG s _ 3 (.int .i64 z) (by simp) rfl rfl K
 rw[SP];simp only[al];generalize (ah st (.cells uO 0))=s1 at W cN L2 n12;have a1:av .i64 1=1:=rfl;have h4:x % 4=0\/x % 4=1\/x % 4=2\/x % 4=3:=by omega
 rcases h4 with h|h|h|h
 . have e4:(x:Int) % 4=0:=(by omega);have eS:((pn x:Nat):Int)=1:=(by unfold pn;omega);have eA:((tA x:Nat):Int)=1+(x:Int) / 4 % 6:=(by unfold tA;rw[Zb3 h];omega);have eB:((tB x:Nat):Int)=0:=(by unfold tB;rw[Zb3 h];rfl);simp only[gW,eS,eA,eB]at L2 ⊢;simp (disch:=omega) [-au,-iq,-oq,-gV,bld,Qv,al5,al6,W,cO,iz,e4,B9,wrap64,Gh,cL,Za5,L2]
 . have e4:(x:Int) % 4=1:=(by omega);have eS:((pn x:Nat):Int)=2:=(by unfold pn;omega);have eA:((tA x:Nat):Int)=1+(x:Int) / 4 % 3:=(by unfold tA;rw[Za7 (by omega),Zb3 h];omega);have eB:((tB x:Nat):Int)=(x:Int) / 4 / 3 % 3:=(by unfold tB;rw[Za7 (by omega),Zb3 h];omega);simp only[gW,eS,eA,eB]at L2 ⊢;simp (disch:=omega) [-au,-iq,-oq,-gV,bld,Qv,al5,al6,W,cO,iz,e4,B9,wrap64,Gh,cL,Za5,L2]
 . have e4:(x:Int) % 4=2:=(by omega);have eS:((pn x:Nat):Int)=3:=(by unfold pn;omega);have eA:((tA x:Nat):Int)=1+(x:Int) / 4 % 2:=(by unfold tA;rw[Za7 (by omega),Za7 (by omega),Zb3 h];omega);have eB:((tB x:Nat):Int)=1+(x:Int) / 4 / 2 % 2:=(by unfold tB;rw[Za7 (by omega),Za7 (by omega),Zb3 h];omega);simp only[gW,eS,eA,eB]at L2 ⊢;simp (disch:=omega) [-au,-iq,-oq,-gV,bld,Qv,al5,al6,W,cO,iz,e4,B9,wrap64,Gh,cL,Za5,L2]
 . have e4:(x:Int) % 4=3:=(by omega);have eS:((pn x:Nat):Int)=4:=(by unfold pn;omega);have eA:((tA x:Nat):Int)=1+(x:Int) / 4 % 5:=(by unfold tA;rw[Za7 (by omega),Za7 (by omega),Za7 (by omega)];omega);obtain⟨mb,hmb⟩:∃mb:Int,mb=min (1+(x:Int) / 4 % 5) ((x:Int) / 4 / 5 % 4):=⟨_,rfl⟩
   have akI:∀(s:St)(K:AV->St->Option (AV×St)),aq c .minB [.int .i64 (1+(x:Int) / 4 % 5),.int .i64 ((x:Int) / 4 / 5 % 4)] s K=K (.int .i64 mb) s:=λs K=>by rw[hmb];exact ajW c K s _ _ _ _
   have eB:((tB x:Nat):Int)=mb:=(by rw[hmb];unfold tB;rw[Za7 (by omega),Za7 (by omega),Za7 (by omega)];omega);clear hmb;simp only[gW,eS,eA,eB]at L2 ⊢;simp (disch:=omega) [-au,-iq,-oq,-gV,-ajW,akI,bld,Qv,al5,al6,W,cO,iz,e4,B9,wrap64,Gh,cL,Za5,L2]
theorem NB{R:Type}(K:AV->Option R){b:Pos}{off len es es':Nat}{cap:Option Nat}{k:IntKind}{i:Nat}(h:i<len):fh (.idxA es none) [.slice b off len cap es',.int k (i:Int)] K=K (.ptr b (off+i*es)):=
 cX K (λH n=>by
  simp only[aG.run,sw,jy];have:Nat.blt i len=true:=by rw[Zr1];exact h
  rw[this])
theorem aiC{es:Nat}{s:St}{v:AV}{rows:List (List AV)}(h:QS es s v rows)(hr:∀r∈rows,r.length=es){i:Nat}(hi:i<rows.length):
   ∃b off cap cs,v= .slice b off rows.length cap es/\s.heap.get b=some (.cells cs 0)/\∀j u,rows[i][j]? =some u->cs[off+i*es+j]? =some u:=by
 rcases h with⟨rfl,rfl⟩|⟨b,off,cap,cs,rfl,g1,g2,g3,g4⟩|⟨b,off,rfl,rfl⟩
 . simp at hi
 rotate_left
 . simp at hi
 . (refine⟨b,off,cap,cs,rfl,g1,λj u hj=> ?_⟩;have hj2:j<es:=(by rw[<-hr _ (Zb8 hi)];exact(Za2.1 hj).1);have:=Go.Ai.yC hr i j rows[i] u (H0 hi) hj;rw[<-g3]at this;have aS:i*es+j<rows.length*es:=by have:(i+1)*es<=rows.length*es:=Zh0 _ hi;rw[Zg4]at this;omega);rw[Ze1,Zb3 aS,Ze7]at this;rw[<-this];congr 1;omega
theorem al7(hc:bw c){s:St}{V W:AV}{rows:List (List AV)}(h:QS 9 s V rows)(hr:∀r∈rows,r.length=9){names:List (List Nat)}(hlen:names.length=rows.length)(hn:∀(i:Nat)(h1:i<rows.length)(h2:i<names.length),rows[i][0]? =some (.str names[i]))(arA:rows.length<=1000)
  {q:Pos} (hq:s.heap.get q=some (.cells [V,W] 0)) (x:Nat) (hx:x<1000000) (hw:Wf s) (F:Nat) (k1 k2):∀(m k f:Nat),m<f->k+m=rows.length->bN x∉names.take k->
  mg c F k1 k2 f [.int .i64 (x:Int),.ptr q 0,.int .i64 (k:Int)] s=if bN x∈names then k1 [.bool true] s else k2 [] s:=by
 intro m;have N:=zz hc x hx s hw;have cu:∀j:Nat,(cellsOf (s.heap.get q)).bind (λcs=>cs[0]?)=some V:=λ_=>by rw[hq];rfl
 induction m with
 |zero=>
  intro k f hf h1 nQ;obtain⟨f,rfl⟩:∃g,f=g+1:=⟨f - 1,by omega⟩
  obtain rfl:k=rows.length:=by omega
  rw[<-hlen,Zk1]at nQ;rw[Za7 nQ,r9];have lI:=λ(K:AV->St->Option (AV×St))=>h.lenB (c:=c) K s
  simp[hq,lI]
 |succ m ih=>
  intro k f hf h1 nQ;obtain⟨f,rfl⟩:∃g,f=g+1:=⟨f - 1,by omega⟩
  have hk:k<rows.length:=by omega
  have ug:k<names.length:=by omega
  have lI:=λ(K:AV->St->Option (AV×St))=>h.lenB (c:=c) K s
  have w:av .i64 ((k:Int)+1)=((k+1:Nat):Int):=wrap64 (by omega) (by omega);obtain⟨b,off,cap,cs,e,g1,g2⟩:=aiC h hr hk;have nm:=g2 0 _ (hn k hk ug);have hb:=h.beq;have r1:=λ(K:AV->Option (AV×St))=>kY K (o:=0) (v:=V) (h:=s.heap) (h2:=s.heap) (p:=q) (by rw[hq];rfl) (by rw[hq];rfl) hb
  have r2:=λ(K:AV->Option (AV×St))=>kY K (o:=off+k*9) (v:= .str names[k]) (h:=s.heap) (h2:=s.heap) (p:=b) (by rw[g1];exact nm) (by rw[g1];exact nm) (by simp[ey,lM,fH,mL.2 rfl])
  have ix:=λ(K:AV->Option (AV×St))=>NB K (b:=b) (off:=off) (es:=9) (es':=9) (cap:=cap) (k:= .i64) hk
  rw[<-e]at ix;by_cases heq:names[k]=bN x
  . have mem:bN x∈names:=(by rw[<-heq];exact Zb8 ug);rw[Zb3 mem,r9];simp[hq,lI,hk,N,r1,r2,ix,heq]
  . have hno2:bN x∉names.take (k+1):=by
        rw[Zd4 ug,Zd8,Zh9];rintro(h|h)
        . exact nQ h
        . exact heq h.symm
    rw[<-ih (k+1) f (by omega) (by omega) hno2,r9];have d:decide (names[k]=bN x)=false:=Za1 heq;simp[hq,lI,hk,N,r1,r2,ix,heq,d,w]
theorem aqL(hc:bw c){s:St}{V W:AV}{rows:List (List AV)}(h:QS 9 s V rows)(hr:∀r∈rows,r.length=9){names:List (List Nat)}(hlen:names.length=rows.length)(hn:∀(i:Nat)(h1:i<rows.length)(h2:i<names.length),rows[i][0]? =some (.str names[i]))(arA:rows.length<=1000)
   (x:Nat) (hx:x<1000000) (hw:Wf s):c 87 [.agg [V,W],.int .i64 (x:Int)] s=some (.bool (decide (bN x∈names)),s):=by
 have hg:=Grew.ah hw (.cells [V,W] 0);have h2:QS 9 (ah s (.cells [V,W] 0)) V rows:=h.mono λb y _ hy=>hg.get hy
 have L:=al7 hc h2 hr hlen hn arA (aA s (.cells [V,W] 0)) x hx (bF hw) (rows.length+1) (λvs Nw=>gY vs λx4 vs=>mz vs (some (x4,Nw))) (λvs s14=>mz vs (aq c .move [.bool false] s14 λx4 s15=>some (x4,s15))) rows.length 0 (rows.length+1) (by omega) (by omega) (by simp);rw[On hc (rows.length+1) (r:=(.bool (decide (bN x∈names)),ah s (.cells [V,W] 0))),aE (Plain.bool _) hg.keeps];rw[SQ];by_cases hm:bN x∈names
 . rw[Zb3 hm]at L;simp at L;simp[L,hm]
 . rw[Za7 hm]at L;simp at L;simp[L,hm]
end
section
set_option maxRecDepth 100000
open Go Go.Ai Go.Proofs
def oX(gs:List aT)(i:Nat):List Nat:=match gs[i]? with|some g=>g.name|none=>[]
def Hj(gs:List aT)(i:Nat):List Nat:=match gs[i]? with|some g=>g.nH|none=>[]
def yT(ts:List aD)(i:Nat):List Nat:=match ts[i]? with|some t=>t.name|none=>[]
def Cg(ts:List aD)(i:Nat):Int:=match ts[i]? with|some t=>nO t.sh t.a t.b|none=>0
def Sv(ts:List aD)(gs:List aT)(k wt a b t n z:Nat):Rl×Bool:=
 if k=1\/k=2\/k=3\/k=4\/k=5 then(⟨k,wt,oX gs a,oX gs b,[],if k=4 then((n+1:Nat):Int)else if k=1 then(n:Int)else 0⟩,decide (a≠b))
 else if k=6\/k=7 then(⟨k,wt,oX gs a,[],yT ts t,if k=7 then((z / 13:Nat):Int) % Cg ts t else 0⟩,true)
 else if k=10 then(⟨k,wt,if z % 3=0 then oX gs a else [],[],[],0⟩,true)
 else if k=17 then(⟨k,wt,Hj gs a,[],yT ts t,0⟩,decide (Hj gs a≠[]))
 else(⟨k,wt,[],[],if 0<z % 3 then yT ts t else [],if k=15\/k=16 then(n:Int)else 0⟩,true)
def Xm(y:Nat):Nat:=if 1<y % 5 then 1+y % 7 else 0
def ig(ts:List aD)(gs:List aT)(x:Nat):Rl×Bool:=
 if gs.length=0\/ts.length=0 then(⟨((1+x % 18:Nat):Int),(Xm (x / 18):Int),[],[],[],0⟩,false)
 else Sv ts gs (1+x % 18) (Xm (x / 18)) (x / 18 / 5 % gs.length) (x / 18 / 5 / gs.length % gs.length) (x / 18 / 5 / 7 % ts.length) (x / 18 / 5 / 11 % 4) (x / 18 / 5)
theorem aec(i:Nat):oF (bN i)=true:=by unfold oF bN;have h1:i / 26 % 26<26:=Zk0 _ (by omega);have h2:i % 26<26:=Zk0 _ (by omega);simp;omega
variable{c : aj}
theorem afb{cs row:List AV}{o n:Nat}(hl:row.length=n)(h0:0<n)(h:∀(j:Nat)(u:AV),row[j]? =some u->cs[o+j]? =some u):cut cs o n=some row:=by
 have h1:=h (n - 1) row[n - 1] (H0 (by omega));have h2:=(Za2.1 h1).1;unfold cut;have:Nat.ble (o+n) cs.length=true:=by rw[Nat.ble_eq];omega
 rw[this];simp only;congr 1;refine Zh7 λi=> ?_
 rw[Ze1];split
 . rename_i hi;rw[Ze7,h i _ (H0 (by omega)),H0 (by omega)]
 . rw[Zc1 (by omega)]
theorem TS.row{s0 s:St}{V:AV}{ts:List aD}{rows:List (List AV)}(h:TS s0 s V ts rows){i:Nat}(hi:i<ts.length):
   ∃b off cap cs v,V= .slice b off rows.length cap 7/\s.heap.get b=some (.cells cs 0)/\cut cs (off+i*7) 7=some (ts[i].ax v)/\cs[off+i*7]? =some (.str ts[i].name):=by
 have hr:i<rows.length:=by rw[h.len];exact hi
 obtain⟨b,off,cap,cs,e,g1,g2⟩:=aiC h.out.own h.out.row hr;obtain⟨v,e1,_,_⟩:=h.dX i ts[i] rows[i] (H0 hi) (H0 hr);refine⟨b,off,cap,cs,v,e,g1,?_,?_⟩
 . rw[<-e1];exact afb (h.out.row _ (Zb8 hr)) (by omega) g2
 . have:=g2 0 (.str ts[i].name) (by rw[e1];rfl)
   rwa [Zf8]at this
theorem GS.row{s0 s:St}{V:AV}{gs:List aT}{rows:List (List AV)}(h:GS s0 s V gs rows){i:Nat}(hi:i<gs.length):
   ∃b off cap cs v,V= .slice b off rows.length cap 9/\s.heap.get b=some (.cells cs 0)/\cut cs (off+i*9) 9=some (gs[i].ax v)/\cs[off+i*9]? =some (.str gs[i].name)/\cs[off+i*9+5]? =some (.str gs[i].nH):=by
 have hr:i<rows.length:=by rw[h.len];exact hi
 obtain⟨b,off,cap,cs,e,g1,g2⟩:=aiC h.out.own h.out.row hr;obtain⟨v,e1,_,_⟩:=h.dX i gs[i] rows[i] (H0 hi) (H0 hr);refine⟨b,off,cap,cs,v,e,g1,?_,?_,?_⟩
 . rw[<-e1];exact afb (h.out.row _ (Zb8 hr)) (by omega) g2
 . have:=g2 0 (.str gs[i].name) (by rw[e1];rfl)
   rwa [Zf8]at this
 . exact g2 5 (.str gs[i].nH) (by rw[e1];rfl)
theorem QS.arB{R:Type}{es:Nat}{s:St}{v:AV}{rows:List (List AV)}(h:QS es s v rows)(K:AV->Option R):fh (.lenB .l) [v] K=K (.int .i64 (rows.length:Int)):=by
 rcases h with⟨rfl,rfl⟩|⟨b,off,cap,cs,rfl,_⟩|⟨b,off,rfl,rfl⟩<;>exact cX K (λH n=>rfl)
abbrev gw(k w:Int)(a b t:List Nat)(n:Int):List AV:=[.int .u8 k,.int .i64 w,.str a,.str b,.str t,.int .i64 n]
theorem as3(k w n w':Int)(a b t:List Nat)(s:St)(K:AV->St->Option (AV×St)):aq c (.store 1) [.ptr s.next 1,.int .i64 w'] (ah s (.cells (gw k w a b t n) 0)) K=K .undef (ah s (.cells (gw k w' a b t n) 0)):=mG s _ 1 (.int .i64 w') (by simp) rfl rfl K
theorem akj(k w n:Int)(a b t u:List Nat)(s:St)(K:AV->St->Option (AV×St)):aq c (.store 1) [.ptr s.next 2,.str u] (ah s (.cells (gw k w a b t n) 0)) K=K .undef (ah s (.cells (gw k w u b t n) 0)):=mG s _ 2 (.str u) (by simp) rfl rfl K
theorem as4(k w n:Int)(a b t u:List Nat)(s:St)(K:AV->St->Option (AV×St)):aq c (.store 1) [.ptr s.next 3,.str u] (ah s (.cells (gw k w a b t n) 0)) K=K .undef (ah s (.cells (gw k w a u t n) 0)):=mG s _ 3 (.str u) (by simp) rfl rfl K
theorem akk(k w n:Int)(a b t u:List Nat)(s:St)(K:AV->St->Option (AV×St)):aq c (.store 1) [.ptr s.next 4,.str u] (ah s (.cells (gw k w a b t n) 0)) K=K .undef (ah s (.cells (gw k w a b u n) 0)):=mG s _ 4 (.str u) (by simp) rfl rfl K
theorem KI(k w n n':Int)(a b t:List Nat)(s:St)(K:AV->St->Option (AV×St)):aq c (.store 1) [.ptr s.next 5,.int .i64 n'] (ah s (.cells (gw k w a b t n) 0)) K=K .undef (ah s (.cells (gw k w a b t n') 0)):=mG s _ 5 (.int .i64 n') (by simp) rfl rfl K
theorem atX{ts:List aD}(h:∀t∈ts,0<nO t.sh t.a t.b/\nO t.sh t.a t.b<=1000){t:Nat}(ht:t<ts.length):Cg ts t=nO ts[t].sh ts[t].a ts[t].b/\0<Cg ts t/\Cg ts t<=1000:=by
 have e:Cg ts t=nO ts[t].sh ts[t].a ts[t].b:=by unfold Cg;rw[H0 ht]
 rw[e];exact⟨rfl,h _ (Zb8 ht)⟩
set_option maxHeartbeats 4000000 in
theorem aqM (hc : bw c){s0 s:St}{V1 V2 V3 V4 V5:AV}{ts:List aD}{gs:List aT}{r1 r2:List (List AV)}(hT:TS s0 s V1 ts r1)(hG:GS s0 s V2 gs r2)(lt:ts.length<=1000)(lg:gs.length<=1000)
   (hz:∀t∈ts,0<nO t.sh t.a t.b/\nO t.sh t.a t.b<=1000) (ha:∀t∈ts,(0<=t.a/\t.a<=1000000)/\0<=t.b/\t.b<=1000000) (x:Nat) (hx:x<4294967296):
   c 48 [.agg [V1,V2,V3,V4,V5],.int .i64 (x:Int)] s=some (.tuple [.agg (ig ts gs x).1.cells,.bool (ig ts gs x).2],s):=by
 have hw:=hT.out.ai.wf;have plain:∀(r:Rl)(b:Bool),Plain (.tuple [.agg r.cells,.bool b]):=λr b=>Plain.tuple λv hv=>by
   simp only[Zb0,Zc5,Zf2]at hv;rcases hv with rfl|rfl
   . exact Plain.agg λv hv=>by simp only[Rl.cells,Zb0,Zc5,Zf2]at hv;rcases hv with rfl|rfl|rfl|rfl|rfl|rfl<;>first|exact Plain.int _ _|exact Plain.str _
   . exact Plain.bool _
 suffices key:∃s',mh c 1 (.agg [V1,V2,V3,V4,V5]) (.int .i64 (x:Int)) s=some (.tuple [.agg (ig ts gs x).1.cells,.bool (ig ts gs x).2],s')/\aW s s' by
   obtain⟨s',k1,k2⟩:=key;rw[Oo hc 1 (r:=(.tuple [.agg (ig ts gs x).1.cells,.bool (ig ts gs x).2],s')) k1,aE (plain _ _) k2]
 have cN:Wf (ah s (.cells [V1,V2,V3,V4,V5] 0)):=bF hw;have g1:=Grew.ah hw (.cells [V1,V2,V3,V4,V5] 0);have sQ:Wf (ah (ah s (.cells [V1,V2,V3,V4,V5] 0)) (.cells (gw 0 0 [] [] [] 0) 0)):=bF cN;have g2:=Grew.ah cN (.cells (gw 0 0 [] [] [] 0) 0);have g12:=g1.trans g2;obtain⟨s2,rI⟩:∃s2,s2=ah (ah s (.cells [V1,V2,V3,V4,V5] 0)) (.cells (gw 0 0 [] [] [] 0) 0):=⟨_,rfl⟩
 obtain⟨p4,hp4⟩:∃p4,p4=(ah s (.cells [V1,V2,V3,V4,V5] 0)).next:=⟨_,rfl⟩
 have aqN:Wf s2:=by rw[rI];exact sQ
 have al8:Grew s s2:=by rw[rI];exact g12
 have b2:s2.heap.get s.next=some (.cells [V1,V2,V3,V4,V5] 0):=by rw[rI];exact g2.get (aA _ _)
 have b4:s2.heap.get p4=some (.cells (gw 0 0 [] [] [] 0) 0):=by rw[rI,hp4];exact aA _ _
 have n4:s.next.toNat<p4.toNat:=by rw[hp4,bM,Pos.aF];omega
 have n6:p4.toNat<s2.next.toNat:=aqN _ _ b4;have gS:∀b:AB,Grew s2 (ah s2 b):=λb=>Grew.ah aqN b
 have hP:∀b:AB,(ah s2 b).heap.get s.next=some (.cells [V1,V2,V3,V4,V5] 0):=λb=>(gS b).get b2
 have hX:∀b:AB,(ah s2 b).heap.get p4=some (.cells (gw 0 0 [] [] [] 0) 0):=λb=>(gS b).get b4
 have fin:∀(k w n:Int)(a b t:List Nat)(K:AV->St->Option (AV×St)),aq c (.store 6) [.ptr p4 0,.agg (gw k w a b t n)] (ah s2 (.cells (gw k w a b t n) 0)) K=K .undef (bg (ah s2 (.cells (gw k w a b t n) 0)) p4 (.cells (gw k w a b t n) 0)):=λk w n a b t K=>by rw[cg c K _ 6 p4 0 (.agg (gw k w a b t n)) _ (hX _) rfl (by simp) rfl];rfl
 have kp:∀(k w n:Int)(a b t:List Nat),aW s (bg (ah s2 (.cells (gw k w a b t n) 0)) p4 (.cells (gw k w a b t n) 0)):=λk w n a b t q y hq=>by have:=hw _ _ hq;rw[aJ (λe=>by subst e;omega)];exact(al8.trans (gS _)).get hq
 have cu:∀(k w n:Int)(a b t:List Nat),cut (gw k w a b t n) 0 6=some (gw k w a b t n):=λk w n a b t=>cQ rfl
 obtain⟨Q,hQ⟩:∃Q:Option (AV×St)->Prop,Q=λo=>∃s',o=some (.tuple [.agg (ig ts gs x).1.cells,.bool (ig ts gs x).2],s')/\aW s s':=⟨_,rfl⟩
 have FU:∀(k w n:Int)(a b t:List Nat)(bb:Bool),(⟨k,w,a,b,t,n⟩:Rl)=(ig ts gs x).1->bb=(ig ts gs x).2->Q (some (.tuple [.agg (gw k w a b t n),.bool bb],bg (ah s2 (.cells (gw k w a b t n) 0)) p4 (.cells (gw k w a b t n) 0))):=λk w n a b t bb h1 h2=>by
   rw[hQ];exact⟨_,by rw[<-h1, <-h2];rfl,kp _ _ _ _ _ _⟩
 have acY:Q (mh c 1 (.agg [V1,V2,V3,V4,V5]) (.int .i64 (x:Int)) s)->∃s',mh c 1 (.agg [V1,V2,V3,V4,V5]) (.int .i64 (x:Int)) s=some (.tuple [.agg (ig ts gs x).1.cells,.bool (ig ts gs x).2],s')/\aW s s':=λh=>by rw[hQ]at h;exact h
 apply acY;clear acY;obtain⟨r,hr⟩:∃r:Nat,r=x % 18:=⟨_,rfl⟩
 obtain⟨k,hk⟩:∃k:Nat,k=1+x % 18:=⟨_,rfl⟩
 obtain⟨y,hy⟩:∃y:Nat,y=x / 18:=⟨_,rfl⟩
 obtain⟨y5,hy5⟩:∃y5:Nat,y5=y % 5:=⟨_,rfl⟩
 obtain⟨y7,hy7⟩:∃y7:Nat,y7=y % 7:=⟨_,rfl⟩
 obtain⟨z,hz5⟩:∃z:Nat,z=y / 5:=⟨_,rfl⟩
 obtain⟨w,hwt⟩:∃w:Nat,w=Xm y:=⟨_,rfl⟩
 have E1:(x:Int) % 18=(r:Int):=by omega
 have W1:av .i64 (1+(r:Int))=(k:Int):=(wrap64 (by omega) (by omega)).trans (by omega);have W8:av .u8 (k:Int)=(k:Int):=Gh (by omega) (by omega);have E2:(x:Int) / 18=(y:Int):=by omega
 have E3:(y:Int) % 5=(y5:Int):=by omega
 have E4:(y:Int) % 7=(y7:Int):=by omega
 have W2:av .i64 (1+(y7:Int))=1+(y7:Int):=wrap64 (by omega) (by omega);have E5:(y:Int) / 5=(z:Int):=by omega
 obtain⟨g,hg⟩:∃g,g=gs.length:=⟨_,rfl⟩
 obtain⟨T,hTl⟩:∃T,T=ts.length:=⟨_,rfl⟩
 have pl2:∀(K:AV->Option (AV×St)),fh (.lenB .l) [V2] K=K (.int .i64 (g:Int)):=λK=>by rw[hg, <-hG.len];exact QS.arB hG.out.own K
 have pl1:∀(K:AV->Option (AV×St)),fh (.lenB .l) [V1] K=K (.int .i64 (T:Int)):=λK=>by rw[hTl, <-hT.len];exact QS.arB hT.out.own K
 have Lf:∀(l:List AV)(K:AV->Option (AV×St)),jx (.load none) [.ptr s.next (0+1)] (ah s2 (.cells l 0)).heap (λ_=>true) K=K V2:=λl K=>by rw[kK,hP];rfl
 have rd0:∀(l:List AV)(K:AV->Option (AV×St)),jx (.load none) [.ptr s.next (0+0)] (ah s2 (.cells l 0)).heap (λ_=>true) K=K V1:=λl K=>by rw[kK,hP];rfl
 have bld:∀(k':Int)(s':St)(K:AV->St->Option (AV×St)),aq c (.build [.int .u8 0,.int .i64 0,.str [],.str [],.str [],.int .i64 0] [(0,1)]) [.int .u8 k'] s' K=K (.agg (gw k' 0 [] [] [] 0)) s':=λk' s' K=>rfl
 have sto0:∀(k':Int)(K:AV->St->Option (AV×St)),aq c (.store 6) [.ptr s2.next 0,.agg (gw k' 0 [] [] [] 0)] (ah s2 (.cells (gw 0 0 [] [] [] 0) 0)) K=K .undef (ah s2 (.cells (gw k' 0 [] [] [] 0) 0)):=λk' K=>cw c K s2 6 (.agg (gw k' 0 [] [] [] 0)) (gw 0 0 [] [] [] 0) rfl rfl rfl
 rw[SS];rw[dm,dh,show AV.cells (.agg [V1,V2,V3,V4,V5])=[V1,V2,V3,V4,V5]from rfl, <-rI, <-hp4,az,az,cO (by omega) (by omega),E1,eV,W1,Lc,W8,bld,dh,sto0,az,iz (by omega) (by omega) (by omega),E2,az];refine yE (P:=λj=>Q (j [.int .i64 (y:Int),.ptr s.next 0,.ptr p4 0,.ptr s2.next 0] (ah s2 (.cells (gw k w [] [] [] 0) 0)))) ?_ ?_
 . rw[  aH, aH, aH, aH,bh,az,iz (by omega) (by omega) (by omega),E5,az,br,Lf,pl2,br,rd0,pl1,dz,dz,az,ez,az];by_cases zF:g=0
   . rw[Za0 (show(g:Int)=0 by omega),amP,amP,CU,dG];have hR:ig ts gs x=(⟨(k:Int),(w:Int),[],[],[],0⟩,false):=by
        unfold ig;rw[Zb3 (.inl (by omega)), <-hk, <-hy, <-hwt]
     have:=FU k w 0 [] [] [] false (by rw[hR]) (by rw[hR]);simp[cu,fin];exact this
   rw[Za1 (show ¬(g:Int)=0 by omega),gU,az,gU,ez,ja];by_cases hT0:T=0
   . rw[Za0 (show(T:Int)=0 by omega),dG];have hR:ig ts gs x=(⟨(k:Int),(w:Int),[],[],[],0⟩,false):=by
        unfold ig;rw[Zb3 (.inr (by omega)), <-hk, <-hy, <-hwt]
     have:=FU k w 0 [] [] [] false (by rw[hR]) (by rw[hR]);simp[cu,fin];exact this
   rw[Za1 (show ¬(T:Int)=0 by omega),di];obtain⟨a,ea⟩:∃a:Nat,a=z % g:=⟨_,rfl⟩
   obtain⟨zg,ezg⟩:∃zg:Nat,zg=z / g:=⟨_,rfl⟩
   obtain⟨b,eb⟩:∃b:Nat,b=zg % g:=⟨_,rfl⟩
   obtain⟨z7,ez7⟩:∃z7:Nat,z7=z / 7:=⟨_,rfl⟩
   obtain⟨t,et⟩:∃t:Nat,t=z7 % T:=⟨_,rfl⟩
   obtain⟨z11,ez11⟩:∃z11:Nat,z11=z / 11:=⟨_,rfl⟩
   obtain⟨n,en⟩:∃n:Nat,n=z11 % 4:=⟨_,rfl⟩
   have hR:ig ts gs x=Sv ts gs k w a b t n z:=by
     unfold ig;rw[Za7 (by omega), <-hk, <-hy, <-hwt, <-hz5, <-hg, <-hTl, <-ea, <-ezg, <-eb, <-ez7, <-et, <-ez11, <-en]
   have Ea:(z:Int) % (g:Int)=(a:Int):=(by rw[ea];exact(Zn0 _ _).symm);have Ezg:(z:Int) / (g:Int)=(zg:Int):=(by rw[ezg];exact(Int.natCast_ediv _ _).symm);have Eb:(zg:Int) % (g:Int)=(b:Int):=(by rw[eb];exact(Zn0 _ _).symm);have Ez7:(z:Int) / 7=(z7:Int):=(by omega);have Et:(z7:Int) % (T:Int)=(t:Int):=(by rw[et];exact(Zn0 _ _).symm);have Ez11:(z:Int) / 11=(z11:Int):=(by omega);have En:(z11:Int) % 4=(n:Int):=(by omega);have za:a<g:=(by rw[ea];exact Zk0 _ (by omega));have zb:b<g:=(by rw[eb];exact Zk0 _ (by omega));have zt:t<T:=(by rw[et];exact Zk0 _ (by omega));have gp:0<(g:Int):=(by omega);have Tp:0<(T:Int):=(by omega);rw[dz,dz,RN (by omega) gp,Ea,dz,dz,ahf (by omega) (by omega) gp,Ezg,dz,RN (by omega) gp,Eb,dz,ahf (by omega) (by omega) (by omega),Ez7,dz,RN (by omega) Tp,Et,dz,dz,dz,
     az,iz (by omega) (by omega) (by omega),Ez11,cO (by omega) (by omega),En,az]
   (clear Ea Ezg Eb Ez7 Et Ez11 En ea ezg eb ez7 et ez11;have AI:1<=k:=(by omega);have ug:k<=18:=(by omega);obtain⟨bA,oA,akz,csA,vA,eA,hA,_,nA,dA⟩:=hG.row (i:=a) (by omega);obtain⟨bB,oB,capB,csB,vB,eB,hB,_,nB,_⟩:=hG.row (i:=b) (by omega);obtain⟨bT,oT,capT,csT,vT,eT,hTb,cT,nT⟩:=hT.row (i:=t) (by omega);have gA:gs[a].name=oX gs a/\gs[a].nH=Hj gs a:=(by unfold oX Hj;rw[H0 (by omega)];exact⟨rfl,rfl⟩);have gB:gs[b].name=oX gs b:=(by unfold oX;rw[H0 (by omega)]);have gT:ts[t].name=yT ts t:=(by unfold yT;rw[H0 (by omega)]);rw[gA.1]at nA;rw[gA.2]at dA;rw[gB]at nB;rw[gT]at nT;have al9:∀l:List AV,(ah s2 (.cells l 0)).heap.get bA=some (.cells csA 0):=λl=>(gS _).get (al8.get hA));have arC:∀l:List AV,(ah s2 (.cells l 0)).heap.get bB=some (.cells csB 0):=λl=>(gS _).get (al8.get hB)
   have heapT:∀l:List AV,(ah s2 (.cells l 0)).heap.get bT=some (.cells csT 0):=λl=>(gS _).get (al8.get hTb)
   have ixA:∀(K:AV->Option (AV×St)),fh (.idxA 9 none) [V2,.int .i64 (a:Int)] K=K (.ptr bA (oA+a*9)):=λK=>by rw[eA];exact NB K (by rw[hG.len];omega)
   have ixB:∀(K:AV->Option (AV×St)),fh (.idxA 9 none) [V2,.int .i64 (b:Int)] K=K (.ptr bB (oB+b*9)):=λK=>by rw[eB];exact NB K (by rw[hG.len];omega)
   have ixT:∀(K:AV->Option (AV×St)),fh (.idxA 7 none) [V1,.int .i64 (t:Int)] K=K (.ptr bT (oT+t*7)):=λK=>by rw[eT];exact NB K (by rw[hT.len];omega)
   have sxA:∀(K:AV->St->Option (AV×St))(s':St),aq c (.idxA 9 none) [V2,.int .i64 (a:Int)] s' K=K (.ptr bA (oA+a*9)) s':=λK s'=>by rw[eA];exact fG c K s' (by rw[hG.len];omega)
   have sxT:∀(K:AV->St->Option (AV×St))(s':St),aq c (.idxA 7 none) [V1,.int .i64 (t:Int)] s' K=K (.ptr bT (oT+t*7)) s':=λK s'=>by rw[eT];exact fG c K s' (by rw[hT.len];omega)
   have cA:=λ(l l':List AV)(K:AV->Option (AV×St))=>B7 K (o:=1) (v:=V2) (h:=(ah s2 (.cells l 0)).heap) (h2:=(ah s2 (.cells l' 0)).heap) (p:=s.next) (by rw[hP];rfl) (by rw[hP];rfl) hG.out.own.beq
   have cP:=λ(l l':List AV)(K:AV->Option (AV×St))=>B7 K (o:=0) (v:=V1) (h:=(ah s2 (.cells l 0)).heap) (h2:=(ah s2 (.cells l' 0)).heap) (p:=s.next) (by rw[hP];rfl) (by rw[hP];rfl) hT.out.own.beq
   have sb:∀u:List Nat,ey (.str u) (.str u)=true:=λu=>by simp[ey,lM,fH,mL.2 rfl]
   clear eA eB eT;generalize oA+a*9=qA at*
   generalize oB+b*9=qB at*
   generalize oT+t*7=qT at*
   have cB:=λ(l l':List AV)(K:AV->Option (AV×St))=>B7 K (o:=qB+0) (v:= .str (oX gs b)) (h:=(ah s2 (.cells l 0)).heap) (h2:=(ah s2 (.cells l' 0)).heap) (p:=bB) (by rw[arC];exact nB) (by rw[arC];exact nB) (sb _)
   have cTn:=λ(l l':List AV)(K:AV->Option (AV×St))=>B7 K (o:=qT+0) (v:= .str (yT ts t)) (h:=(ah s2 (.cells l 0)).heap) (h2:=(ah s2 (.cells l' 0)).heap) (p:=bT) (by rw[heapT];exact nT) (by rw[heapT];exact nT) (sb _)
   have rdA:∀(l:List AV)(K:AV->Option (AV×St)),jx (.load none) [.ptr bA (qA+0)] (ah s2 (.cells l 0)).heap (λ_=>true) K=K (.str (oX gs a)):=λl K=>by rw[kK,al9,Zf8,show(cellsOf (some (.cells csA 0))).bind (λcs=>cs[qA]?)=some (.str (oX gs a))from nA];rfl
   have su2:∀(k w n:Int)(a b t u:List Nat)(K:AV->St->Option (AV×St)),aq c (.store 1) [.ptr s2.next (0+2),.str u] (ah s2 (.cells (gw k w a b t n) 0)) K=K .undef (ah s2 (.cells (gw k w u b t n) 0)):=λk w n a b t u K=>akj k w n a b t u s2 K
   have su3:∀(k w n:Int)(a b t u:List Nat)(K:AV->St->Option (AV×St)),aq c (.store 1) [.ptr s2.next (0+3),.str u] (ah s2 (.cells (gw k w a b t n) 0)) K=K .undef (ah s2 (.cells (gw k w a u t n) 0)):=λk w n a b t u K=>as4 k w n a b t u s2 K
   have su4:∀(k w n:Int)(a b t u:List Nat)(K:AV->St->Option (AV×St)),aq c (.store 1) [.ptr s2.next (0+4),.str u] (ah s2 (.cells (gw k w a b t n) 0)) K=K .undef (ah s2 (.cells (gw k w a b u n) 0)):=λk w n a b t u K=>akk k w n a b t u s2 K
   have ldk:∀(k w n:Int)(a b t:List Nat)(K:AV->St->Option (AV×St)),aq c (.load none) [.ptr s2.next (0+0)] (ah s2 (.cells (gw k w a b t n) 0)) K=K (.int .u8 k) (ah s2 (.cells (gw k w a b t n) 0)):=λk w n a b t K=>by rw[aU,aA];rfl
   refine yE (P:=λj=>¬(k=1\/k=2\/k=3\/k=4\/k=5\/k=6\/k=7\/k=10\/k=17)->Q (j [.int .i64 (z:Int),.ptr s.next 0,.ptr p4 0,.ptr s2.next 0,.int .i64 (t:Int)] (ah s2 (.cells (gw k w [] [] [] (if k=15\/k=16 then(n:Int)else 0)) 0)))) ?_ ?_
   . intro hns;obtain⟨z3,e3⟩:∃z3:Nat,z3=z % 3:=⟨_,rfl⟩
     have E6:(z:Int) % 3=(z3:Int):=(by omega);have hf:=hR;unfold Sv at hf;rw[Za7 (by omega),Za7 (by omega),Za7 (by omega),Za7 (by omega), <-e3]at hf;obtain⟨n',hn'⟩:∃n':Int,n'=(if k=15\/k=16 then(n:Int)else 0):=⟨_,rfl⟩
     rw[<-hn']at hf ⊢;by_cases h3:0<z3
     .  have hd:decide (0<z3)=true:=Za0 h3;rw[Zb3 h3]at hf;have:=FU k w n' [] [] (yT ts t) true (by rw[hf]) (by rw[hf]);simp (disch:=omega) [-gV,cL,Za5,cO,E6,hd,hP,sxT,heapT,nT,akk,cu,fin,bG];exact this
     .  have hd:decide (0<z3)=false:=Za1 h3;rw[Za7 h3]at hf;have:=FU k w n' [] [] [] true (by rw[hf]) (by rw[hf]);simp (disch:=omega) [-gV,cL,cO,E6,hd,cu,fin,bG];exact this
   . intro  j40 aiD;rw[aO,ldk];refine yE (P:=λj=>Q (j [.int .i64 (z:Int),.ptr s.next 0,.ptr p4 0,.ptr s2.next 0,.int .i64 (a:Int),.int .i64 (b:Int),.int .i64 (t:Int),.int .i64 (n:Int),.int .u8 (k:Int),.bool (decide (k=1\/k=2\/k=3\/k=4\/k=5))] (ah s2 (.cells (gw k w [] [] [] 0) 0)))) ?_ ?_
     .  rw[ aH, aH, aH,aH,aH,aH,aH,aH,aH,aH,bh];by_cases h5:k=1\/k=2\/k=3\/k=4\/k=5
        . rw[ Za0 h5,dG];have hf:=hR;unfold Sv at hf;rw[Zb3 h5]at hf;have fF:Q (some (.tuple [.agg (gw k w (oX gs a) (oX gs b) [] (if k=4 then(n:Int)+1 else if k=1 then(n:Int)else 0)),.bool (!decide ((a:Int)=(b:Int)))],bg (ah s2 (.cells (gw k w (oX gs a) (oX gs b) [] (if k=4 then(n:Int)+1 else if k=1 then(n:Int)else 0)) 0)) p4 (.cells (gw k w (oX gs a) (oX gs b) [] (if k=4 then(n:Int)+1 else if k=1 then(n:Int)else 0)) 0))):=
            FU k w _ (oX gs a) (oX gs b) [] _ (by rw[hf];rfl) (by rw[hf];simp;omega)
          have wn:av .i64 ((n:Int)+1)=(n:Int)+1:=wrap64 (by omega) (by omega);clear FU aiD;rw[br,Lf,dz,ixA,br,rdA,br,su2,br,cA,dz,ixB,br,cB,br,su3];refine yE (P:=λj=>Q (j [.ptr p4 0,.ptr s2.next 0,.int .i64 (a:Int),.int .i64 (b:Int)] (ah s2 (.cells (gw k w (oX gs a) (oX gs b) [] (if k=1\/k=4 then(n:Int)else 0)) 0)))) ?_ ?_
          . rw[ aH,aH,aH,aH,bh];refine yE (P:=λj=>Q (j [.ptr p4 0,.ptr s2.next 0,.int .i64 (a:Int),.int .i64 (b:Int)] (ah s2 (.cells (gw k w (oX gs a) (oX gs b) [] (if k=4 then(n:Int)+1 else if k=1 then(n:Int)else 0)) 0)))) ?_ ?_
            . generalize (if k=4 then(n:Int)+1 else if k=1 then(n:Int)else 0)=n6 at*
              simp[cu,fin,bG];exact fF
            . intro j hj;by_cases h4:k=4
              . have hd:decide ((k:Int)=4)=true:=Za0 (by omega);rw[Zb3 h4]at hj;rw[Zb3 (.inr h4),aO,ldk,ez,hd,dG];simp[wn,KI];exact hj
              . have hd:decide ((k:Int)=4)=false:=Za1 (by omega);rw[Za7 h4]at hj;rw[show(if k=1\/k=4 then(n:Int)else 0)=(if k=1 then(n:Int)else 0)by by_cases h1:k=1<;>simp[h1,h4],aO,ldk,ez,hd,di];exact hj
          . intro j hj;rw[aO,ldk,ez,az];by_cases h1:k=1
            . rw[Zb3 (.inl h1)]at hj;rw[Za0 (show(k:Int)=1 by omega)];simp[KI];exact hj
            . rw[Za1 (show ¬(k:Int)=1 by omega)];by_cases h4:k=4
              . rw[Zb3 (.inr h4)]at hj;have hd:decide ((k:Int)=4)=true:=Za0 (by omega);rw[gU,aO,gU,ldk,gU,ez,hd];simp[KI];exact hj
              . rw[Za7 (by omega)]at hj;have hd:decide ((k:Int)=4)=false:=Za1 (by omega);rw[gU,aO,gU,ldk,gU,ez,hd];simp;exact hj
        . rw[ Za1 h5, di];refine yE (P:=λj=>Q (j [.int .i64 (z:Int),.ptr s.next 0,.ptr p4 0,.ptr s2.next 0,.int .i64 (a:Int),.int .i64 (t:Int),.int .i64 (n:Int),.int .u8 (k:Int),.bool (decide (k=6\/k=7))] (ah s2 (.cells (gw k w [] [] [] 0) 0)))) ?_ ?_
          . rw[ aH, aH,aH,aH,aH,aH,aH,aH,aH,bh];by_cases h67:k=6\/k=7
            . rw[ Za0 h67,dG];have hf:=hR;unfold Sv at hf;rw[Za7 h5,Zb3 h67]at hf;obtain⟨sz1,sz2,sz3⟩:=atX hz (t:=t) (by omega);obtain⟨ha1,ha2⟩:=ha _ (Zb8 (show t<ts.length by omega));obtain⟨z13,e13⟩:∃z13:Nat,z13=z / 13:=⟨_,rfl⟩
              have E13:(z:Int) / 13=(z13:Int):=(by omega);rw[<-e13]at hf;have SZ:∀l:List AV,c 46 [.agg (ts[t].ax vT)] (ah s2 (.cells l 0))=some (.int .i64 (Cg ts t),ah s2 (.cells l 0)):=λl=>by rw[sz1];exact Lq hc rfl rfl rfl ha1 ha2 _ (bF aqN)
              have fF:Q (some (.tuple [.agg (gw k w (oX gs a) [] (yT ts t) (if k=7 then(z13:Int) % Cg ts t else 0)),.bool true],bg (ah s2 (.cells (gw k w (oX gs a) [] (yT ts t) (if k=7 then(z13:Int) % Cg ts t else 0)) 0)) p4 (.cells (gw k w (oX gs a) [] (yT ts t) (if k=7 then(z13:Int) % Cg ts t else 0)) 0))):=
                FU k w _ (oX gs a) [] (yT ts t) _ (by rw[hf]) (by rw[hf])
              clear FU aiD;rw[br,Lf,dz,ixA,br,rdA,br,su2,br,cP,dz,ixT,br,cTn,br,su4];refine yE (P:=λj=>Q (j [.ptr p4 0,.ptr s2.next 0] (ah s2 (.cells (gw k w (oX gs a) [] (yT ts t) (if k=7 then(z13:Int) % Cg ts t else 0)) 0)))) ?_ ?_
              . generalize (if k=7 then(z13:Int) % Cg ts t else 0)=n6 at*
                simp[cu,fin,bG];exact fF
              . intro j hj;by_cases h7:k=7
                . have hd:decide ((k:Int)=7)=true:=Za0 (by omega);rw[Zb3 h7]at hj;have q:=λ(K:AV->St->Option (AV×St))(s':St)=>cO (c:=c) (k:= .i64) (a:=(z13:Int)) (b:=Cg ts t) (by omega) sz2 s' K
                  generalize Cg ts t=Z at*
                  rw[aO,ldk,ez,hd,dG,az,iz (by omega) (by omega) (by omega),E13];simp[-gV,q,hP,sxT,heapT,cT,SZ,KI];exact hj
                . have hd:decide ((k:Int)=7)=false:=Za1 (by omega);rw[Za7 h7]at hj;rw[aO,ldk,ez,hd,di];exact hj
            . rw[ Za1 h67,di,ez,az];by_cases h10:k=10
              . have hf:=hR;unfold Sv at hf;rw[Za7 h5,Za7 h67,Zb3 h10]at hf;obtain⟨z3,e3⟩:∃z3:Nat,z3=z % 3:=⟨_,rfl⟩
                have E6:(z:Int) % 3=(z3:Int):=(by omega);rw[<-e3]at hf;rw[Za0 (show(k:Int)=10 by omega),dG];by_cases h3:z3=0
                . have hd:decide ((z3:Int)=0)=true:=Za0 (by omega);rw[Zb3 h3]at hf;have fF:=FU k w 0 (oX gs a) [] [] true (by rw[hf]) (by rw[hf]);rw[iH,az,cO (by omega) (by omega),E6,ez,hd,dG];simp[hP,sxA,al9,nA,akj,cu,fin,bG];exact fF
                . have hd:decide ((z3:Int)=0)=false:=Za1 (by omega);rw[Za7 h3]at hf;have fF:=FU k w 0 [] [] [] true (by rw[hf]) (by rw[hf]);rw[iH,az,cO (by omega) (by omega),E6,ez,hd,di];simp[cu,fin,bG];exact fF
              . rw[ Za1 (show ¬(k:Int)=10 by omega),di,ez,az];by_cases h17:k=17
                . have hf:=hR;unfold Sv at hf;rw[Za7 h5,Za7 h67,Za7 h10,Zb3 h17]at hf;rw[Za0 (show(k:Int)=17 by omega),dG];have fF:=FU k w 0 (Hj gs a) [] (yT ts t) (!decide (Hj gs a=[])) (by rw[hf]) (by rw[hf];simp);have n46:p4≠s2.next:=λe=>by subst e;omega
                  have cD:=λ(K:AV->Option (AV×St))=>B7 K (o:=0+2) (v:= .str (Hj gs a)) (h:=(bg (ah s2 (.cells (gw k w (Hj gs a) [] (yT ts t) 0) 0)) p4 (.cells (gw k w (Hj gs a) [] (yT ts t) 0) 0)).heap) (h2:=(ah s2 (.cells (gw k w (Hj gs a) [] (yT ts t) 0) 0)).heap) (p:=s2.next) (by rw[aJ n46,aA];rfl) (by rw[aA];rfl) (sb _)
                  have rdD:∀(l:List AV)(K:AV->Option (AV×St)),jx (.load none) [.ptr bA (qA+5)] (ah s2 (.cells l 0)).heap (λ_=>true) K=K (.str (Hj gs a)):=λl K=>by rw[kK,al9,show(cellsOf (some (.cells csA 0))).bind (λcs=>cs[qA+5]?)=some (.str (Hj gs a))from dA];rfl
                  have rdR:∀(K:AV->Option (AV×St)),jx (.load (some 6)) [.ptr s2.next 0] (ah s2 (.cells (gw k w (Hj gs a) [] (yT ts t) 0) 0)).heap (λ_=>true) K=K (.agg (gw k w (Hj gs a) [] (yT ts t) 0)):=λK=>by rw[Az,aA];rfl
                  rw[br,Lf,dz,ixA,br,rdD,br,su2,br,cP,dz,ixT,br,cTn,br,su4,rdR,fin,br,cD,api,dz,aaK,bG];exact fF
                . rw[ Za1 (show ¬(k:Int)=17 by omega),di];have hj:=aiD (by omega);clear aiD FU;by_cases h15:k=15
                  . have hd:decide ((k:Int)=15)=true:=Za0 (by omega);rw[Zb3 (.inl h15)]at hj;rw[iH,ez,az,hd,dG];simp[KI];exact hj
                  . have hd:decide ((k:Int)=15)=false:=Za1 (by omega);by_cases h16:k=16
                    . have hd2:decide ((k:Int)=16)=true:=Za0 (by omega);rw[Zb3 (.inr h16)]at hj;rw[iH,ez,az,hd,di,ez,az,hd2];simp[KI];exact hj
                    . have hd2:decide ((k:Int)=16)=false:=Za1 (by omega);rw[Za7 (by omega)]at hj;rw[iH,ez,az,hd,di,ez,az,hd2];simp;exact hj
          . intro j hj;by_cases h6:k=6
            . rw[Za0 (.inl h6)]at hj;rw[ez,az,Za0 (show(k:Int)=6 by omega),dG];exact hj
            . rw[ez,az,Za1 (show ¬(k:Int)=6 by omega),di,ez,az];rw[show decide ((k:Int)=7)=decide (k=6\/k=7)by rw[decide_eq_decide];omega];exact hj
     .  intro j hj;clear FU aiD hR;rcases Ca AI ug with rfl|rfl|rfl|rfl|rfl|rfl|rfl|rfl|rfl|rfl|rfl|rfl|rfl|rfl|rfl|rfl|rfl|rfl
        all_goals
          simp at hj ⊢;exact hj
 . intro j hj;by_cases h1:1<y5
   . have e:((w:Nat):Int)=1+(y7:Int):=(by rw[hwt];unfold Xm;rw[Zb3 (by omega)];omega);rw[e]at hj;have hd:decide ((1:Int)<(y5:Int))=true:=Za0 (by omega);simp (disch:=omega) [-gV,cO,E3,E4,hd,W2,as3];exact hj
   . have e:((w:Nat):Int)=0:=(by rw[hwt];unfold Xm;rw[Za7 (by omega)];rfl);rw[e]at hj;have hd:decide ((1:Int)<(y5:Int))=false:=Za1 (by omega);simp (disch:=omega) [-gV,cO,E3,hd];exact hj
variable{c : aj}
structure KX(p:Pos)(sA s:St):Prop where
 wf:Wf s
 next:sA.next.toNat<=s.next.toNat
 keep:∀(b:Pos)(x:AB),b≠p->sA.heap.get b=some x->s.heap.get b=some x
theorem KX.refl{p:Pos}{s:St}(hw:Wf s):KX p s s:=⟨hw,Za3 _,λ_ _ _ h=>h⟩
theorem KX.trans{p:Pos}{a b d:St}(h:KX p a b)(g:KX p b d):KX p a d:=⟨g.wf,Zb2 h.next g.next,λq x hq hx=>g.keep q x hq (h.keep q x hq hx)⟩
theorem KX.ai{p:Pos}{a b d:St}(h:KX p a b)(g:Grew b d):KX p a d:=⟨g.wf,Zb2 h.next g.next,λq x hq hx=>g.get (h.keep q x hq hx)⟩
theorem KX.store{p:Pos}{a b:St}(h:KX p a b)(hp:p.toNat<b.next.toNat)(x:AB):KX p a (bg b p x):=
 ⟨jY h.wf hp,h.next,λq y hq hy=>by rw[aJ (λe=>hq e.symm)];exact h.keep q y hq hy⟩
def TS.Since(n:Nat)(V:AV)(rows:List (List AV)):Prop:=(∀b,aL V=some b->n<=b.toNat)/\∀(i:Nat)(r:List AV)(v:AV)(b:Pos),rows[i]? =some r->r[4]? =some v->aL v=some b->n<=b.toNat
def GS.Since(n:Nat)(V:AV)(rows:List (List AV)):Prop:=(∀b,aL V=some b->n<=b.toNat)/\∀(i:Nat)(r:List AV)(v:AV)(b:Pos),rows[i]? =some r->r[8]? =some v->aL v=some b->n<=b.toNat
theorem qM{st s:St}{p:Pos}(h0:Wf st)(h:Grew st s)(hp:st.next.toNat<=p.toNat)(Gs:p.toNat<s.next.toNat)(b:AB):Grew st (bg s p b):=
 ⟨jY h.wf Gs,λq x hq=>by have:=h0 _ _ hq;rw[aJ (λe=>by rw[e]at hp;omega)];exact h.get hq,by rw[dK];exact h.next⟩
theorem TS.kx{st sA s:St}{p:Pos}{V:AV}{ts:List aD}{rows:List (List AV)}(h:TS st sA V ts rows)(k:KX p sA s)(g:Grew st s)(hs:TS.Since (p.toNat+1) V rows):TS st s V ts rows:=
 h.qY g λb x _ hb hx=>k.keep b x (λe=>by
  subst e;rcases hb with hb|⟨i,r,v,h1,h2,h3⟩
  . have:=hs.1 _ hb;omega
  . have:=hs.2 i r v _ h1 h2 h3;omega) hx
theorem GS.kx{st sA s:St}{p:Pos}{V:AV}{ts:List aT}{rows:List (List AV)}(h:GS st sA V ts rows)(k:KX p sA s)(g:Grew st s)(hs:GS.Since (p.toNat+1) V rows):GS st s V ts rows:=
 h.qY g λb x _ hb hx=>k.keep b x (λe=>by
  subst e;rcases hb with hb|⟨i,r,v,h1,h2,h3⟩
  . have:=hs.1 _ hb;omega
  . have:=hs.2 i r v _ h1 h2 h3;omega) hx
theorem Mk.kx{es:Nat}{st sA s:St}{p:Pos}{V:AV}{rows:List (List AV)}(h:Mk es st sA V rows)(k:KX p sA s)(g:Grew st s)(hs:∀b,aL V=some b->p.toNat+1<=b.toNat):Mk es st s V rows:=
 Mk.qY h g λb x hb hx=>k.keep b x (λe=>by subst e;have:=hs _ hb;omega) hx
theorem TS.push{st s:St}{V:AV}{ts:List aD}{rows:List (List AV)}(h:TS st s V ts rows){t:aD}{v:AV}(M:Mk 1 st s v (t.kA.map bV))(hv:∀b,aL v=some b->aL V≠some b)(hlen:ts.length<=1000):
   ∃s5 V5,(∀(K:AV->St->Option (AV×St)),aq c (.buildSlice 7 1 [.str [],.int .u8 0,.int .i64 0,.int .i64 0,.af,.int .i64 0,.int .i64 0] [0]) [.agg (t.ax v)] s (λy q=>aq c (.append 7 80) [V,y] q K)=K V5 s5)/\
    TS st s5 V5 (ts++[t]) (rows++[t.ax v])/\(∀(p:Pos)(b:AB),aL V≠some p->s.heap.get p=some b->s5.heap.get p=some b)/\∀b,aL V5=some b->s.next.toNat<=b.toNat:=by
 have hl:=h.len;have hw:=h.out.ai.wf;obtain⟨s5,V5,a1,a2,a3,a4⟩:=h.out.push (c:=c) (R:=AV×St) (bytes:=80) (z:=[.str [],.int .u8 0,.int .i64 0,.int .i64 0,.af,.int .i64 0,.int .i64 0]) (x:= .agg (t.ax v)) rfl rfl (t.Ln M.cells.2) (by decide) (by omega) (by omega);have small:∀(u:AV)(rw:List (List AV)),Mk 1 st s u rw->(∀b,aL u=some b->aL V≠some b)->Mk 1 st s5 u rw/\∀b,aL u=some b->aL V5≠some b:=λu rw hu dJ=>
   ⟨Mk.qY hu a2.ai λb y hb hy=>a3 b y (dJ b hb) hy,λb hb e=>by have p1:=a4 b e;have p2:=hu.own.lt hw hb;omega⟩
 refine⟨s5,V5,a1,⟨a2,by simp[hl],λi t' r hi hr=> ?_⟩,a3,a4⟩;by_cases EJ:i<ts.length
 . rw[Zc3 (by rw[hl];exact EJ)]at hr;rw[Zc3 EJ]at hi;obtain⟨u,e1,e2,e3⟩:=h.dX i t' r hi hr;obtain⟨f1,f2⟩:=small u _ e2 e3;exact⟨u,e1,f1,f2⟩
 . have gZ:=(Za2.1 hi).1;simp at gZ;obtain rfl:i=ts.length:=(by omega);rw[Zc2 (by rw[hl];exact Za3 _)]at hr;rw[Zc2 (Za3 _)]at hi;simp[hl]at hr hi;subst hi;subst hr;obtain⟨f1,f2⟩:=small v _ M hv;exact⟨v,rfl,f1,f2⟩
variable{c : aj}
def Xn(s:List Nat):List AV:=[.str s]
def LM(x k:Nat):Bool:=decide (x / 2 ^ (6+2*k) % 4=1)
theorem atY(x k:Nat):LM x k=decide (x / 2 ^ (6+2*k) % 4=1):=by rw[LM]
def E0(x k:Nat):List (List Nat):=((List.range k).filter (LM x)).map bN
theorem aiE(x k:Nat):E0 x (k+1)=E0 x k++(if LM x k=true then [bN k]else []):=by
 unfold E0;rw[Zf9,Zk9,Zd3];congr 1;cases h:LM x k with
 |true=>simp[h]
 |false=>simp[h]
theorem as5(x k:Nat):(E0 x k).length<=k:=by have:=Zm3 (LM x) (List.range k);rw[Zq4]at this;unfold E0;rw[Za4];exact this
structure GI(s0 s:St)(p8:Pos)(g:aT)(x k:Nat)(v:AV):Prop where
 out:Mk 1 s0 s v ((E0 x k).map Xn)
 h8:s.heap.get p8=some (.cells (g.ax v) 0)
 n8:aL v≠some p8
theorem ajn(hc:bw c){g:aT}{x:Nat}(hx:x<1000000){s0:St}{p8:Pos}(h8:s0.next.toNat<=p8.toNat)(x0 x1 x4 x5 x6:AV)
  :∀(m k:Nat)(s:St)(v:AV),GI s0 s p8 g x k v->k+m=4->
  ∃s' v',GI s0 s' p8 g x 4 v'/\∀(F:Nat)(k4:List AV->St->Option (AV×St))(f:Nat),m<f->iF c F k4 f [x0,x1,x4,x5,x6,.int .i64 (x:Int),.ptr p8 0,.int .i64 (k:Int)] s=k4 [x0,x1,x4,x5,x6,.ptr p8 0] s':=by
 intro m;induction m with
 |zero=>
  intro k s v hT h1;obtain rfl:k=4:=by omega
  refine⟨s,v,hT,λF k4 f hf=> ?_⟩;obtain⟨f,rfl⟩:∃g,f=g+1:=⟨f - 1,by omega⟩
  rw[tW];simp
 |succ m ih=>
  intro k s v hT h1;have hw:=hT.out.ai.wf;have h:k<4:=by omega
  . have hx0:(0:Int)<=(x:Int):=Int.natCast_nonneg x;have w:av .i64 ((k:Int)+1)=((k+1:Nat):Int):=wrap64 (by omega) (by omega);have w1:av .i64 (2*(k:Int))=2*(k:Int):=wrap64 (by omega) (by omega);have w2:av .i64 (6+2*(k:Int))=6+2*(k:Int):=wrap64 (by omega) (by omega);have e2:6+2*(k:Int)=((6+2*k:Nat):Int):=(by omega);have hk64:6+2*k<=64:=(by omega);have sr:∀(s:St)(K:AV->St->Option (AV×St)),aq c (.bin .shr .num) [.int .i64 (x:Int),.int .i64 (6+2*(k:Int))] s K=K (.int .i64 ((x:Int) / 2 ^ (6+2*k))) s:=λs K=>by rw[e2];exact ahg hk64 s K
    have p0:(0:Int)<=(x:Int) / 2 ^ (6+2*k):=Zr6 hx0 (Int.le_of_lt (Int.pow_pos (by decide)));have r1:=λ(s:St)(K:AV->St->Option (AV×St))=>cO (c:=c) (k:= .i64) (a:=(x:Int) / 2 ^ (6+2*k)) (b:=4) p0 (by decide) s K
    have d1:decide ((x:Int) / 2 ^ (6+2*k) % 4=1)=decide (x / 2 ^ (6+2*k) % 4=1):=(by have:((x:Int) / 2 ^ (6+2*k) % 4=1)↔(x / 2 ^ (6+2*k) % 4=1):=(by rw[show((x:Int) / 2 ^ (6+2*k) % 4)=((x / 2 ^ (6+2*k) % 4:Nat):Int)by simp];omega);exact decide_eq_decide.2 this);have c8:(g.ax v)[8]? =some v:=rfl;have fin:=atY x k;have N:=zz hc k (by omega) s hw;have hd:decide ((k:Int)<4)=true:=Za0 (by omega);cases hq:LM x k with
    |   true=>
        have hrl:((E0 x k).map Xn).length<=4:=(by rw[Za4];have:=as5 x k;omega);obtain⟨s5,v5,a1,a2,a3,a4⟩:=hT.out.push (c:=c) (R:=AV×St) (bytes:=16) (z:=[.str []]) (x:= .str (bN k)) rfl rfl rfl (by decide) (by omega) (by omega);have e:(E0 x (k+1)).map Xn=(E0 x k).map Xn++[(.str (bN k):AV).cells]:=(by rw[aiE,Zb3 hq,Zd3];rfl);rw[<-e]at a2;have y8:=a3 p8 _ hT.n8 hT.h8;have l8:=hw p8 _ hT.h8;have b8:aL v5≠some p8:=λe=>by have:=a4 _ e;omega
        have hw5:=a2.ai.wf;have l8':=hw5 p8 _ y8;have M:=a2.store (p:=p8) (b:= .cells (g.ax v5) 0) h8 l8' b8;obtain⟨vc,v1⟩:=a2.cells;have bD:∀(K:AV->St->Option (AV×St)),aq c (.store 1) [.ptr p8 8,v5] s5 K=K .undef (bg s5 p8 (.cells (g.ax v5) 0)):=λK=>by rw[cg c K s5 1 p8 8 v5 (g.ax v) y8 (by rw[vc];rfl) (by simp[aT.ax]) (by rw[vc];exact v1),vc];rfl
        obtain⟨s',v',b1,b2⟩:=ih (k+1) _ v5 ⟨M,bG _ _ _,b8⟩ (by omega);refine⟨s',v',b1,λF k4 f hf=> ?_⟩;obtain⟨f,rfl⟩:∃g,f=g+1:=⟨f - 1,by omega⟩
        rw[<-b2 F k4 f (by omega),tW];rw[fin]at hq;simp[-au,hT.h8,hd,cL,sr,r1,d1,hq,c8,N,a1,bD,w,w1,w2]
    |   false=>
        have e:(E0 x (k+1))=(E0 x k):=(by rw[aiE,Za7 (by rw[hq];decide),Ze0]);obtain⟨s',v',b1,b2⟩:=ih (k+1) s v ⟨by rw[e];exact hT.out,hT.h8,hT.n8⟩ (by omega);refine⟨s',v',b1,λF k4 f hf=> ?_⟩;obtain⟨f,rfl⟩:∃g,f=g+1:=⟨f - 1,by omega⟩
        rw[<-b2 F k4 f (by omega),tW];rw[fin]at hq;simp[-au,hd,cL,sr,r1,d1,hq,w,w1,w2]
variable{c : aj}
def FV(i:Nat):Nat:=25*i % 312+i / 12
def yK(i x:Nat):aT:=⟨bN (FV i),if x % 2=1 then bN (x % 3)else [],if 4<x % 8 then bN (x % 8)else [],((x % 4*500:Nat):Int),((x % 3:Nat):Int),if x % 3=2 then bN (x % 5)else [],decide (x % 5=0),decide (x % 7=0),true,E0 x 4⟩
theorem aiF{es:Nat}{s0 s s':St}{v:AV}{rows:List (List AV)}(h:Mk es s0 s v rows)(hg:Grew s0 s')(hk:∀b x,aL v=some b->s.heap.get b=some x->s'.heap.get b=some x):Mk es s0 s' v rows:=
 ⟨h.jN,hg,h.own.mono hk,h.new,h.row,h.cap,λb hb=>hk b _ hb (h.tight b hb)⟩
structure GL(st s:St)(p4 p5:Pos)(V W:AV)(gs:List aT)(rows:List (List AV)):Prop where
 out:Mk 9 st s V rows
 len:rows.length=gs.length
 dX:∀(i:Nat)(g:aT)(r:List AV),gs[i]? =some g->rows[i]? =some r->∃v,r=g.ax v/\Mk 1 st s v (g.tg.map Xn)/\∀b,aL v=some b->aL V≠some b/\b≠p4/\b≠p5
 h4:s.heap.get p4=some (.cells [.af,.af] 0)
 h5:s.heap.get p5=some (.cells [V,W] 0)
 n4:aL V≠some p4
 n5:aL V≠some p5
theorem as6(g:aT){v:AV}(h:aQ [v]=true):aQ (g.ax v)=true:=by
 simp only[aQ]at h;unfold aT.ax;simp only[aQ,AV.one,h,Zk2,Zi3]at*
theorem GL.push{st s s1:St}{p4 p5:Pos}{V W:AV}{gs:List aT}{rows:List (List AV)}(h:GL st s p4 p5 V W gs rows)(Qu:p4≠p5)(ET:st.next.toNat<=p5.toNat){g:aT}{v:AV}(M:Mk 1 s s1 v (g.tg.map Xn))(hlen:rows.length<=1000):
   ∃ s5 s6 V5,(∀(K:AV->St->Option (AV×St)),aq c (.buildSlice 9 1 [.str [],.str [],.str [],.int .i64 0,.int .i64 0,.str [],.bool false,.bool false,.af] [0]) [.agg (g.ax v)] s1 (λy t=>aq c (.append 9 112) [V,y] t K)=K V5 s5)/\
     (∀(K:AV->St->Option (AV×St)),aq c (.store 1) [.ptr p5 0,V5] s5 K=K .undef s6)/\s1.heap.get p5=some (.cells [V,W] 0)/\GL st s6 p4 p5 V5 W (gs++[g]) (rows++[g.ax v]):=by
 have hw:=h.out.ai.wf;have O1:=h.out.grow M.ai;obtain⟨s5,V5,a1,a2,a3,a4⟩:=O1.push (c:=c) (R:=AV×St) (bytes:=112) (z:=[.str [],.str [],.str [],.int .i64 0,.int .i64 0,.str [],.bool false,.bool false,.af]) (x:= .agg (g.ax v)) rfl rfl (as6 g M.cells.2) (by decide) (by omega) (by omega);have y4:=a3 p4 _ h.n4 (M.ai.get h.h4);have y5:=a3 p5 _ h.n5 (M.ai.get h.h5);have l4:=hw p4 _ h.h4;have l5:=hw p5 _ h.h5;have nx:=M.ai.next;have b4:aL V5≠some p4:=λe=>by have:=a4 _ e;omega
 have b5:aL V5≠some p5:=λe=>by have:=a4 _ e;omega
 have l5':=a2.ai.wf p5 _ y5;obtain⟨vc,v1⟩:=a2.cells;have bD:∀(K:AV->St->Option (AV×St)),aq c (.store 1) [.ptr p5 0,V5] s5 K=K .undef (bg s5 p5 (.cells [V5,W] 0)):=λK=>by rw[cg c K s5 1 p5 0 V5 [V,W] y5 (by rw[vc];rfl) (by simp) (by rw[vc];exact v1),vc];rfl
 have M6:=a2.store (p:=p5) (b:= .cells [V5,W] 0) ET l5' b5;have Mv:=M.back h.out.jN h.out.ai;have vV:∀b,aL v=some b->aL V≠some b/\b≠p4/\b≠p5:=λb hb=>by
   have p1:=M.new b hb;refine⟨λe=> ?_,λe=> ?_,λe=> ?_⟩
   . have:=h.out.own.lt hw e;omega
   . subst e;omega
   . subst e;omega
 have small:∀(u:AV)(rw:List (List AV)),Mk 1 st s1 u rw->(∀b,aL u=some b->aL V≠some b/\b≠p4/\b≠p5)->Mk 1 st (bg s5 p5 (.cells [V5,W] 0)) u rw/\∀b,aL u=some b->aL V5≠some b/\b≠p4/\b≠p5:=λu rw hu dJ=>by
   refine⟨aiF hu M6.ai λb y hb hy=> ?_,λb hb=>⟨λe=> ?_,(dJ b hb).2⟩⟩
   . rw[aJ (λe=>(dJ b hb).2.2 e.symm)];exact a3 b y (dJ b hb).1 hy
   . have p1:=a4 b e;have p2:=hu.own.lt hu.ai.wf hb;omega
 refine⟨s5,_,V5,a1,bD,M.ai.get h.h5,⟨M6,by simp[h.len],λi t r hi Xk=> ?_,by rw[aJ (λe=>Qu e.symm)];exact y4,bG _ _ _,b4,b5⟩⟩;by_cases EJ:i<gs.length
 . rw[Zc3 (by rw[h.len];exact EJ)]at Xk;rw[Zc3 EJ]at hi;obtain⟨u,e1,e2,e3⟩:=h.dX i t r hi Xk;obtain⟨f1,f2⟩:=small u _ (e2.grow M.ai) e3;exact⟨u,e1,f1,f2⟩
 . have gZ:=(Za2.1 hi).1;simp at gZ;obtain rfl:i=gs.length:=(by omega);rw[Zc2 (by rw[h.len];exact Za3 _)]at Xk;rw[Zc2 (Za3 _)]at hi;simp[h.len]at Xk hi;subst hi;subst Xk;obtain⟨f1,f2⟩:=small v _ Mv vV;exact⟨v,rfl,f1,f2⟩
variable{c : aj}
def eJ(k:IntKind)(z:Bool)(l:List Nat):AV:=ro 1 z (l.map λ(i:Nat)=>[.int k (i:Int)])
def Dt(xs:List Nat)(k:Nat):List aT:=(List.range k).map λi=>yK i (xs.getD i 0)
theorem aoe(xs:List Nat)(k:Nat)(h:k<xs.length):Dt xs (k+1)=Dt xs k++[yK k xs[k]]:=by
 unfold Dt;rw[Zf9,Zd3];simp[Zb1,h]
theorem Lu(xs:List Nat)(k:Nat):(Dt xs k).length=k:=by simp[Dt]
def zG:List AV:=[.str [],.str [],.str [],.int .i64 0,.int .i64 0,.str [],.bool false,.bool false,.af]
theorem tD(s:St)(K:AV->St->Option (AV×St)):aq c (.alloc [.str [],.str [],.str [],.int .i64 0,.int .i64 0,.str [],.bool false,.bool false,.af]) [] s K=K (.ptr s.next 0) (ah s (.cells zG 0)):=rfl
theorem tE(nm:List Nat)(u y:Int)(b d:Bool)(s:St)(K:AV->St->Option (AV×St)):aq c (.build [.str [],.str [],.str [],.int .i64 0,.int .i64 0,.str [],.bool false,.bool false,.af] [(0,1),(3,1),(4,1),(6,1),(7,1)]) [.str nm,.int .i64 u,.int .i64 y,.bool b,.bool d] s K=K (.agg [.str nm,.str [],.str [],.int .i64 u,.int .i64 y,.str [],.bool b,.bool d,.af]) s:=rfl
theorem tF(nm:List Nat)(u y:Int)(b d:Bool)(s:St)(K:AV->St->Option (AV×St)):aq c (.store 9) [.ptr s.next 0,.agg [.str nm,.str [],.str [],.int .i64 u,.int .i64 y,.str [],.bool b,.bool d,.af]] (ah s (.cells zG 0)) K=K .undef (ah s (.cells [.str nm,.str [],.str [],.int .i64 u,.int .i64 y,.str [],.bool b,.bool d,.af] 0)):=
 cw c K s 9 (.agg [.str nm,.str [],.str [],.int .i64 u,.int .i64 y,.str [],.bool b,.bool d,.af]) zG rfl rfl rfl
theorem vk(nm r ct dt z:List Nat)(u y:Int)(b d:Bool)(s:St)(K:AV->St->Option (AV×St)):aq c (.store 1) [.ptr s.next 1,.str z] (ah s (.cells [.str nm,.str r,.str ct,.int .i64 u,.int .i64 y,.str dt,.bool b,.bool d,.af] 0)) K=K .undef (ah s (.cells [.str nm,.str z,.str ct,.int .i64 u,.int .i64 y,.str dt,.bool b,.bool d,.af] 0)):=mG s _ 1 (.str z) (by simp) rfl rfl K
theorem vn(nm r ct dt z:List Nat)(u y:Int)(b d:Bool)(s:St)(K:AV->St->Option (AV×St)):aq c (.store 1) [.ptr s.next 2,.str z] (ah s (.cells [.str nm,.str r,.str ct,.int .i64 u,.int .i64 y,.str dt,.bool b,.bool d,.af] 0)) K=K .undef (ah s (.cells [.str nm,.str r,.str z,.int .i64 u,.int .i64 y,.str dt,.bool b,.bool d,.af] 0)):=mG s _ 2 (.str z) (by simp) rfl rfl K
theorem vq(nm r ct dt z:List Nat)(u y:Int)(b d:Bool)(s:St)(K:AV->St->Option (AV×St)):aq c (.store 1) [.ptr s.next 5,.str z] (ah s (.cells [.str nm,.str r,.str ct,.int .i64 u,.int .i64 y,.str dt,.bool b,.bool d,.af] 0)) K=K .undef (ah s (.cells [.str nm,.str r,.str ct,.int .i64 u,.int .i64 y,.str z,.bool b,.bool d,.af] 0)):=mG s _ 5 (.str z) (by simp) rfl rfl K
theorem afc(i x:Nat)(v:AV):(yK i x).ax v=[.str (bN (FV i)),.str (if x % 2=1 then bN (x % 3)else []),.str (if 4<x % 8 then bN (x % 8)else []),.int .i64 ((x % 4*500:Nat):Int),.int .i64 ((x % 3:Nat):Int),.str (if x % 3=2 then bN (x % 5)else []),.bool (decide (x % 5=0)),.bool (decide (x % 7=0)),v]:=rfl
set_option maxHeartbeats 4000000 in
theorem ajo(hc:bw c){xs:List Nat}(hx:∀x∈xs,x<65536)(z:Bool)(x1:AV){st s:St}{p4 p5:Pos}(Qu:p4≠p5)(ET:st.next.toNat<=p5.toNat){V W:AV}{rows:List (List AV)}{k:Nat}(hk:k<xs.length)(hk12:k<12)
   (h:GL st s p4 p5 V W (Dt xs k) rows):∃s' V' vM,GL st s' p4 p5 V' W (Dt xs (k+1)) vM/\∀(F:Nat)(_:5<=F)(k2:List AV->St->Option (AV×St))(f:Nat),
     gy c F k2 (f+1) [eJ .u16 z xs,x1,.ptr p4 0,.ptr p5 0,.int .i64 (k:Int)] s=gy c F k2 f [eJ .u16 z xs,x1,.ptr p4 0,.ptr p5 0,.int .i64 ((k+1:Nat):Int)] s':=by
 have hw:=h.out.ai.wf;have hx1:=hx _ (Zb8 hk);generalize LN:xs[k]=x at hx1;have M0:Mk 1 s (ah s (.cells ((yK k x).ax .af) 0)) .af []:=Mk.start hw (Grew.ah hw _);obtain⟨s1,v1,hG,L⟩:=ajn hc (g:=yK k x) (x:=x) (by omega) (s0:=s) (p8:=s.next) (Za3 _) (eJ .u16 z xs) x1 (.ptr p4 0) (.ptr p5 0) (.int .i64 (k:Int)) 4 0 _ .af ⟨M0,aA _ _,λe=>(nomatch e)⟩ rfl;have M:Mk 1 s s1 v1 ((yK k x).tg.map Xn):=hG.out;obtain⟨s5,s6,V5,a1,a2,a3,a4⟩:=h.push (c:=c) Qu ET M (by rw[h.len,Lu];omega);have e:Dt xs k++[yK k x]=Dt xs (k+1):=by rw[aoe xs k hk,LN]
 rw[e]at a4;refine⟨s6,V5,_,a4,λF hF k2 f=> ?_⟩;have L':∀k4:List AV->St->Option (AV×St),iF c F k4 F [eJ .u16 z xs,x1,.ptr p4 0,.ptr p5 0,.int .i64 (k:Int),.int .i64 (x:Int),.ptr s.next 0,.int .i64 0] (ah s (.cells ((yK k x).ax .af) 0))=k4 [eJ .u16 z xs,x1,.ptr p4 0,.ptr p5 0,.int .i64 (k:Int),.ptr s.next 0] s1:=λk4=>L F k4 F (by omega)
 clear a4 M M0 L;have lI:∀(K:AV->St->Option (AV×St))(s:St),aq c (.lenB .l) [eJ .u16 z xs] s K=K (.int .i64 (xs.length:Int)) s:=λK s=>by unfold eJ;rw[iy];simp
 have ix:∀(K:AV->St->Option (AV×St))(s:St),aq c (.idxA 1 none) [eJ .u16 z xs,.int .i64 (k:Int)] s K=K (.fp (xs.map λ(i:Nat)=>[.int .u16 (i:Int)]) k 0) s:=λK s=>by unfold eJ;rw[RD];simp[hk]
 have ld:((xs.map λ(i:Nat)=>[AV.int .u16 (i:Int)])[k]?.bind λcs=>cs[0]?)=some (.int .u16 (x:Int)):=by simp[hk,LN]
 have w0:av .i64 (x:Int)=(x:Int):=wrap64 (by omega) (by omega);have N1:=zz hc (FV k) (by unfold FV;omega) s hw;have E7:cut ((yK k x).ax v1) 0 9=some ((yK k x).ax v1):=cQ rfl;have N2:∀(b:AB)(j:Nat)(i:Int),i=(j:Int)->j<1000000->c 86 [.int .i64 i] (ah s b)=some (.str (bN j),ah s b):=λb j i e hj=>by rw[e];exact zz hc j hj _ (bF hw)
 have N3:=λb=>N2 b (x % 3) ((x:Int) % 3) (by omega) (by omega)
 have N8:=λb=>N2 b (x % 8) ((x:Int) % 8) (by omega) (by omega)
 have N5:=λb=>N2 b (x % 5) ((x:Int) % 5) (by omega) (by omega)
 have eg:25*(k:Int) % 312+(k:Int) / 12=((FV k:Nat):Int):=by unfold FV;omega
 rw[<-eg]at N1;have Xo:decide ((k:Int)<12)=true:=Za0 (by omega);have d5:decide ((x:Int) % 5=0)=decide (x % 5=0):=decide_eq_decide.2 (by omega);have d7:decide ((x:Int) % 7=0)=decide (x % 7=0):=decide_eq_decide.2 (by omega);have u4:((x % 4*500:Nat):Int)=(x:Int) % 4*500:=by omega
 have u3:((x % 3:Nat):Int)=(x:Int) % 3:=by omega
 simp only[afc]at a1 L' hG E7;clear N2;have h8:=hG.h8;rw[afc]at h8;rw[u4,u3]at L' h8 a1 E7;rw[AR];by_cases c1:x % 2=1
 . by_cases c2:4<x % 8
   . by_cases c3:x % 3=2
     .  have e1:decide ((x:Int) % 2=1)=true:=Za0 (by omega);have e2:decide (4<(x:Int) % 8)=true:=Za0 (by omega);have e3:decide ((x:Int) % 3=2)=true:=Za0 (by omega);simp only[Zb3 c1,Zb3 c2,Zb3 c3]at L' h8 a1 E7;simp (maxSteps:=2000000) (disch:=omega) [-au,-iq,-dh,-gV,-oq,tD,tE,tF,vk,vn,vq,lI,ix,ld,hk,LN,Za5,Xo,td,w0,cO,iz,wrap64,N1,N3,N8,N5,d5,d7,e1,e2,e3,cL,L',a1,a2,a3,h8,E7]
     .  have e1:decide ((x:Int) % 2=1)=true:=Za0 (by omega);have e2:decide (4<(x:Int) % 8)=true:=Za0 (by omega);have e3:decide ((x:Int) % 3=2)=false:=Za1 (by omega);simp only[Zb3 c1,Zb3 c2,Za7 c3]at L' h8 a1 E7;simp (maxSteps:=2000000) (disch:=omega) [-au,-iq,-dh,-gV,-oq,tD,tE,tF,vk,vn,vq,lI,ix,ld,hk,LN,Za5,Xo,td,w0,cO,iz,wrap64,N1,N3,N8,N5,d5,d7,e1,e2,e3,cL,L',a1,a2,a3,h8,E7]
   . by_cases c3:x % 3=2
     .  have e1:decide ((x:Int) % 2=1)=true:=Za0 (by omega);have e2:decide (4<(x:Int) % 8)=false:=Za1 (by omega);have e3:decide ((x:Int) % 3=2)=true:=Za0 (by omega);simp only[Zb3 c1,Za7 c2,Zb3 c3]at L' h8 a1 E7;simp (maxSteps:=2000000) (disch:=omega) [-au,-iq,-dh,-gV,-oq,tD,tE,tF,vk,vn,vq,lI,ix,ld,hk,LN,Za5,Xo,td,w0,cO,iz,wrap64,N1,N3,N8,N5,d5,d7,e1,e2,e3,cL,L',a1,a2,a3,h8,E7]
     .  have e1:decide ((x:Int) % 2=1)=true:=Za0 (by omega);have e2:decide (4<(x:Int) % 8)=false:=Za1 (by omega);have e3:decide ((x:Int) % 3=2)=false:=Za1 (by omega);simp only[Zb3 c1,Za7 c2,Za7 c3]at L' h8 a1 E7;simp (maxSteps:=2000000) (disch:=omega) [-au,-iq,-dh,-gV,-oq,tD,tE,tF,vk,vn,vq,lI,ix,ld,hk,LN,Za5,Xo,td,w0,cO,iz,wrap64,N1,N3,N8,N5,d5,d7,e1,e2,e3,cL,L',a1,a2,a3,h8,E7]
 . by_cases c2:4<x % 8
   . by_cases c3:x % 3=2
     .  have e1:decide ((x:Int) % 2=1)=false:=Za1 (by omega);have e2:decide (4<(x:Int) % 8)=true:=Za0 (by omega);have e3:decide ((x:Int) % 3=2)=true:=Za0 (by omega);simp only[Za7 c1,Zb3 c2,Zb3 c3]at L' h8 a1 E7;simp (maxSteps:=2000000) (disch:=omega) [-au,-iq,-dh,-gV,-oq,tD,tE,tF,vk,vn,vq,lI,ix,ld,hk,LN,Za5,Xo,td,w0,cO,iz,wrap64,N1,N3,N8,N5,d5,d7,e1,e2,e3,cL,L',a1,a2,a3,h8,E7]
     .  have e1:decide ((x:Int) % 2=1)=false:=Za1 (by omega);have e2:decide (4<(x:Int) % 8)=true:=Za0 (by omega);have e3:decide ((x:Int) % 3=2)=false:=Za1 (by omega);simp only[Za7 c1,Zb3 c2,Za7 c3]at L' h8 a1 E7;simp (maxSteps:=2000000) (disch:=omega) [-au,-iq,-dh,-gV,-oq,tD,tE,tF,vk,vn,vq,lI,ix,ld,hk,LN,Za5,Xo,td,w0,cO,iz,wrap64,N1,N3,N8,N5,d5,d7,e1,e2,e3,cL,L',a1,a2,a3,h8,E7]
   . by_cases c3:x % 3=2
     .  have e1:decide ((x:Int) % 2=1)=false:=Za1 (by omega);have e2:decide (4<(x:Int) % 8)=false:=Za1 (by omega);have e3:decide ((x:Int) % 3=2)=true:=Za0 (by omega);simp only[Za7 c1,Za7 c2,Zb3 c3]at L' h8 a1 E7;simp (maxSteps:=2000000) (disch:=omega) [-au,-iq,-dh,-gV,-oq,tD,tE,tF,vk,vn,vq,lI,ix,ld,hk,LN,Za5,Xo,td,w0,cO,iz,wrap64,N1,N3,N8,N5,d5,d7,e1,e2,e3,cL,L',a1,a2,a3,h8,E7]
     .  have e1:decide ((x:Int) % 2=1)=false:=Za1 (by omega);have e2:decide (4<(x:Int) % 8)=false:=Za1 (by omega);have e3:decide ((x:Int) % 3=2)=false:=Za1 (by omega);simp only[Za7 c1,Za7 c2,Za7 c3]at L' h8 a1 E7;simp (maxSteps:=2000000) (disch:=omega) [-au,-iq,-dh,-gV,-oq,tD,tE,tF,vk,vn,vq,lI,ix,ld,hk,LN,Za5,Xo,td,w0,cO,iz,wrap64,N1,N3,N8,N5,d5,d7,e1,e2,e3,cL,L',a1,a2,a3,h8,E7]
variable{c : aj}
def ke(i x:Nat):aD:=⟨fE i,((pn x:Nat):Int),((tA x:Nat):Int),((tB x:Nat):Int),true,(Df x (tN x)).map λ(k:Nat)=>(k:Int),((x:Nat):Int),255 - ((x:Nat):Int)⟩
def rX(xs:List Nat)(k:Nat):List aD:=(List.range k).map λi=>ke i (xs.getD i 0)
theorem aof(xs:List Nat)(k:Nat)(h:k<xs.length):rX xs (k+1)=rX xs k++[ke k xs[k]]:=by
 unfold rX;rw[Zf9,Zd3];simp[Zb1,h]
theorem Sr(xs:List Nat)(k:Nat):(rX xs k).length=k:=by simp[rX]
def j8(xs:List Nat):Nat->Nat
 |0=>0
 |k+1=>j8 xs k+tN (xs.getD k 0)
theorem afd(xs:List Nat):∀k,j8 xs k<=k*16
 |0=>Za3 _
 |k+1=>by have:=afd xs k;have:=acu (xs.getD k 0);unfold j8;omega
theorem ama(i x:Nat)(v:AV):(ke i x).ax v=gW (fE i) (pn x:Nat) (tA x:Nat) (tB x:Nat) x v:=rfl
theorem aqO(i x:Nat):(ke i x).kA.map bV=(Df x (tN x)).map aeb:=by unfold ke;rw[Zh8];rfl
theorem QS.owner{es:Nat}{s:St}{v:AV}{rows:List (List AV)}(h:QS es s v rows)(h0:rows≠[]):∃b,aL v=some b:=by
 rcases h with⟨_,e⟩|⟨b,off,cap,cs,rfl,_⟩|⟨b,off,_,e⟩
 . exact absurd e h0
 . (refine⟨b,?_⟩;have:rows.length≠0:=λe=>h0 (Zc4 e));simp only[aL];rw[Za7 (λe=>this e.2)]
 . exact absurd e h0
structure LL(st sA s:St)(p3:Pos)(es:Nat)(V:AV)(rows:List (List AV))(W:AV->List AV):Prop where
 out:Mk es st s V rows
 kx:KX p3 sA s
 h3:s.heap.get p3=some (.cells (W V) 0)
 since:∀b,aL V=some b->sA.next.toNat<=b.toNat
theorem LL.ai{st sA s s':St}{p3:Pos}{es:Nat}{V:AV}{rows:List (List AV)}{W:AV->List AV}(h:LL st sA s p3 es V rows W)(g:Grew s s'):LL st sA s' p3 es V rows W:=
 ⟨h.out.grow g,h.kx.ai g,g.get h.h3,h.since⟩
theorem LL.push{st sA s:St}{p3:Pos}{es bytes i:Nat}{V:AV}{rows:List (List AV)}{W:AV->List AV}(h:LL st sA s p3 es V rows W)(hA:Wf sA)(Z0:p3.toNat<sA.next.toNat)(fT:st.next.toNat<=p3.toNat)(hi:∀A B,(W A).set i B=W B)(gZ:∀A,i<(W A).length)
   {z:List AV} {x:AV} (hz:z.length=es) (hx:x.cells.length=es) (h1:aQ x.cells=true) (dV:es≠0) (hb:(2*(rows.length+1)+768)*bytes<=281474976710656) (hn:rows.length<=4000000):
   ∃s5 s6 V5,(∀(K:AV->St->Option (AV×St)),aq c (.buildSlice es 1 z [0]) [x] s (λy q=>aq c (.append es bytes) [V,y] q K)=K V5 s5)/\(∀(K:AV->St->Option (AV×St)),aq c (.store 1) [.ptr p3 i,V5] s5 K=K .undef s6)/\
    LL st sA s6 p3 es V5 (rows++[x.cells]) W/\(∀(p:Pos)(b:AB),p≠p3->aL V≠some p->s.heap.get p=some b->s6.heap.get p=some b)/\(∀b,aL V5=some b->s.next.toNat<=b.toNat)/\s.next.toNat<=s6.next.toNat/\s5.heap.get p3=some (.cells (W V) 0):=by
 have hw:=h.out.ai.wf;obtain⟨s5,V5,a1,a2,a3,a4⟩:=h.out.push (c:=c) (R:=AV×St) (bytes:=bytes) hz hx h1 dV hb hn;have nV:aL V≠some p3:=λe=>by have:=h.since _ e;omega
 have y3:=a3 p3 _ nV h.h3;have n5:aL V5≠some p3:=λe=>by have:=a4 _ e;have:=hw _ _ h.h3;omega
 have l3:=a2.ai.wf p3 _ y3;obtain⟨vc,v1⟩:=a2.cells;obtain⟨b,hbo⟩:=QS.owner a2.own (by simp);have nx:s.next.toNat<=s5.next.toNat:=by have:=a4 b hbo;have:=a2.own.lt a2.ai.wf hbo;omega
 refine⟨s5,bg s5 p3 (.cells (W V5) 0),V5,a1,λK=> ?_,⟨a2.store fT l3 n5,?_,bG _ _ _,λb hb=> ?_⟩,λp b hp hv hg=> ?_,a4,nx,y3⟩
 . rw[cg c K s5 1 p3 i V5 (W V) y3 (by rw[vc];rfl) (by have:=gZ V;omega) (by rw[vc];exact v1),vc];rw[zl _ _ (gZ V),hi]
 . refine KX.store ⟨a2.ai.wf,Zb2 h.kx.next nx,λq y hq hy=> ?_⟩ l3 _;refine a3 q y (λe=> ?_) (h.kx.keep q y hq hy);have:=h.since _ e;have:=hA _ _ hy;omega
 . have:=a4 b hb;have:=h.kx.next;omega
 . rw[aJ (λe=>hp e.symm)];exact a3 p b hv hg
structure TL(st sA s:St)(p3:Pos)(V:AV)(ts:List aD)(rows:List (List AV))(W:AV->List AV):Prop where
 tab:TS st s V ts rows
 kx:KX p3 sA s
 h3:s.heap.get p3=some (.cells (W V) 0)
 since:TS.Since sA.next.toNat V rows
theorem TL.push{st sA s:St}{p3:Pos}{i:Nat}{V:AV}{ts:List aD}{rows:List (List AV)}{W:AV->List AV}(h:TL st sA s p3 V ts rows W)(hA:Wf sA)(Z0:p3.toNat<sA.next.toNat)(fT:st.next.toNat<=p3.toNat)(hi:∀A B,(W A).set i B=W B)(gZ:∀A,i<(W A).length)
   {t:aD} {v:AV} (M:Mk 1 st s v (t.kA.map bV)) (hv:∀b,aL v=some b->aL V≠some b) (OR:∀b,aL v=some b->sA.next.toNat<=b.toNat) (hlen:ts.length<=1000):
   ∃ s5 s6 V5,(∀(K:AV->St->Option (AV×St)),aq c (.buildSlice 7 1 [.str [],.int .u8 0,.int .i64 0,.int .i64 0,.af,.int .i64 0,.int .i64 0] [0]) [.agg (t.ax v)] s (λy q=>aq c (.append 7 80) [V,y] q K)=K V5 s5)/\
     (∀(K:AV->St->Option (AV×St)),aq c (.store 1) [.ptr p3 i,V5] s5 K=K .undef s6)/\TL st sA s6 p3 V5 (ts++[t]) (rows++[t.ax v]) W/\(∀(p:Pos)(b:AB),p≠p3->aL V≠some p->s.heap.get p=some b->s6.heap.get p=some b)/\s5.heap.get p3=some (.cells (W V) 0):=by
 have hw:=h.tab.out.ai.wf;obtain⟨s5,V5,a1,a2,a3,a4⟩:=h.tab.push (c:=c) M hv hlen;have nV:aL V≠some p3:=λe=>by have:=h.since.1 _ e;omega
 have y3:=a3 p3 _ nV h.h3;have l3:=a2.out.ai.wf p3 _ y3;obtain⟨vc,v1⟩:=a2.out.cells;obtain⟨b,hbo⟩:=QS.owner a2.out.own (by simp);have nx:s.next.toNat<=s5.next.toNat:=by have:=a4 b hbo;have:=a2.out.own.lt a2.out.ai.wf hbo;omega
 have sn:TS.Since sA.next.toNat V5 (rows++[t.ax v]):=by
   refine⟨λb hb=>by have:=a4 b hb;have:=h.kx.next;omega,λj r u b hr h4 hb=> ?_⟩;by_cases hj:j<rows.length
   . rw[Zc3 hj]at hr;exact h.since.2 j r u b hr h4 hb
   . have hjl:=(Za2.1 hr).1;simp at hjl;obtain rfl:j=rows.length:=(by omega);rw[Zc2 (Za3 _)]at hr;simp at hr;subst hr;have:v=u:=(by simpa [aD.ax]using h4);subst this;exact OR b hb
 have k5:KX p3 sA s5:=⟨a2.out.ai.wf,Zb2 h.kx.next nx,λq y hq hy=>a3 q y (λe=>by
   have:=h.since.1 _ e;have:=hA _ _ hy;omega) (h.kx.keep q y hq hy)⟩
 have kS:KX p3 s5 (bg s5 p3 (.cells (W V5) 0)):=(KX.refl a2.out.ai.wf).store l3 _;have sn3:TS.Since (p3.toNat+1) V5 (rows++[t.ax v]):=⟨λb hb=>by have:=sn.1 b hb;omega,λj r u b h1 h2 h3=>by have:=sn.2 j r u b h1 h2 h3;omega⟩
 refine⟨s5,bg s5 p3 (.cells (W V5) 0),V5,a1,λK=> ?_,⟨a2.kx kS (qM h.tab.out.jN a2.out.ai fT l3 _) sn3,k5.store l3 _,bG _ _ _,sn⟩,λp b hp hv hg=> ?_,y3⟩
 . rw[cg c K s5 1 p3 i V5 (W V) y3 (by rw[vc];rfl) (by have:=gZ V;omega) (by rw[vc];exact v1),vc];rw[zl _ _ (gZ V),hi]
 . rw[aJ (λe=>hp e.symm)];exact a3 p b hv hg
variable{c : aj}
def jG(zt zg zy zr:Bool)(xt xg xy xr:List Nat):List AV:=[eJ .u8 zt xt,eJ .u16 zg xg,eJ .u8 zy xy,eJ .u32 zr xr]
theorem SU{R:Type}(k:IntKind)(z:Bool)(l:List Nat)(K:AV->St->Option R)(s:St):aq c (.lenB .l) [eJ k z l] s K=K (.int .i64 (l.length:Int)) s:=by unfold eJ;rw[iy];simp
theorem akl{R:Type}(k k':IntKind)(z:Bool)(l:List Nat){i:Nat}(h:i<l.length)(K:AV->St->Option R)(s:St):aq c (.idxA 1 none) [eJ k z l,.int k' (i:Int)] s (λv s'=>aq c (.load none) [v] s' K)=K (.int k (l[i]:Int)) s:=by
 unfold eJ;simp[h]
theorem auN{a b d:Nat}(h:d=a+b)(hl:a+b<=1000000):av .i64 ((a:Int)+(b:Int))=(d:Int):=(wrap64 (by omega) (by omega)).trans (by omega)
theorem aog(hc:bw c){xt:List Nat}(hx:∀x∈xt,x<256){zt zg zy zr:Bool}{xg xy xr:List Nat}{st sA s:St}{p1 p3:Pos}{V x2:AV}{rows:List (List AV)}(hA:Wf sA)(h1A:sA.heap.get p1=some (.cells (jG zt zg zy zr xt xg xy xr) 0))(h13:p1≠p3)(Z0:p3.toNat<sA.next.toNat)(fT:st.next.toNat<=p3.toNat)
  {k:Nat} (hk:k<xt.length) (Dp:k<3) (h:TL st sA s p3 V (rX xt k) rows (λV=>[V,.af,.af,.af,.af])):
  ∃s' V' vM,TL st sA s' p3 V' (rX xt (k+1)) vM (λV=>[V,.af,.af,.af,.af])/\∀(F:Nat)(k2:List AV->St->Option (AV×St))(f:Nat),
   gC c F k2 (f+1) [.ptr p1 0,x2,.ptr p3 0,.int .i64 (j8 xt k:Int),.int .i64 (k:Int)] s=gC c F k2 f [.ptr p1 0,x2,.ptr p3 0,.int .i64 (j8 xt (k+1):Int),.int .i64 ((k+1:Nat):Int)] s':=by
 have LN:=hx _ (Zb8 hk);have d1:decide ((k:Int)<(xt.length:Int))=true:=Za0 (by omega);have d2:decide ((k:Int)<3)=true:=Za0 (by omega);have w2:av .i64 ((k:Int)+1)=((k+1:Nat):Int):=wrap64 (by omega) (by omega);have w3:av .i64 (xt[k]:Int)=(xt[k]:Int):=wrap64 (by omega) (by omega);have hw:=h.tab.out.ai.wf;have h1:=h.kx.keep p1 _ h13 h1A;obtain⟨v,s1,C,M⟩:=aqK hc k xt[k] (by omega) LN s hw;have g1:=M.ai;have gn:=Grew.ah g1.wf (.cells ((ke k xt[k]).ax v) 0);have hM:Mk 1 st (ah s1 (.cells ((ke k xt[k]).ax v) 0)) v ((ke k xt[k]).kA.map bV):=by rw[aqO];exact(M.back h.tab.out.jN h.tab.out.ai).grow gn
 have T1:TL st sA (ah s1 (.cells ((ke k xt[k]).ax v) 0)) p3 V (rX xt k) rows (λV=>[V,.af,.af,.af,.af]):=
  ⟨h.tab.qY (h.tab.out.ai.trans (g1.trans gn)) λb x _ _ hb=>gn.get (g1.get hb),h.kx.ai (g1.trans gn),gn.get (g1.get h.h3),h.since⟩
 obtain⟨s5,s6,V5,a1,a2,a3,a4,a5⟩:=T1.push (c:=c) (i:=0) hA Z0 fT (λA B=>rfl) (λA=>by simp) hM (λb hb e=>by
  have p1:=M.new b hb;have p2:=h.tab.out.own.lt hw e;omega) (λb hb=>by have:=M.new b hb;have:=h.kx.next;omega) (by rw[Sr];omega)
 have p6:s6.heap.get s1.next=some (.cells ((ke k xt[k]).ax v) 0):=a4 s1.next _ (λe=>by have:=h.kx.next;have:=g1.next;rw[<-e]at Z0;omega) (λe=>by
  have p2:=h.tab.out.own.lt hw e;have:=g1.next;omega) (aA _ _)
 have e:=aof xt k hk;rw[<-e]at a3;refine⟨s6,V5,_,a3,λF k2 f=> ?_⟩;have hs:=Lq hc (l:=(ke k xt[k]).ax v) (sh:=((pn xt[k]:Nat):Int)) (a:=((tA xt[k]:Nat):Int)) (b:=((tB xt[k]:Nat):Int)) rfl rfl rfl (by have:=agc xt[k];omega) (by have:=agd xt[k];omega) s6 a3.tab.out.ai.wf;rw[YJ]at hs;have hS:j8 xt (k+1)=j8 xt k+tN xt[k]:=by
  rw[j8];simp[Zb1,hk]
 have w1:av .i64 ((j8 xt k:Int)+(tN xt[k]:Int))=((j8 xt (k+1):Nat):Int):=auN hS (by have:=afd xt k;have:=acu xt[k];exact Zb2 (Nat.add_le_add ‹_› ‹_›) (by omega));have lI:=λ(K:AV->St->Option (AV×St))(s:St)=>SU (c:=c) .u8 zt xt K s
 have aI:=λ(K:AV->St->Option (AV×St))(s:St)=>akl (c:=c) .u8 .i64 zt xt hk K s
 have c0:(jG zt zg zy zr xt xg xy xr)[0]? =some (eJ .u8 zt xt):=rfl;have cu:cut ((ke k xt[k]).ax v) 0 7=some ((ke k xt[k]).ax v):=cQ rfl;rw[<-ama]at C;have Qv:∀(K:AV->St->Option (AV×St)),aq c (.store 7) [.ptr s1.next 0,.agg ((ke k xt[k]).ax v)] (ah s1 (.cells [.str [],.int .u8 0,.int .i64 0,.int .i64 0,.af,.int .i64 0,.int .i64 0] 0)) K=K .undef (ah s1 (.cells ((ke k xt[k]).ax v) 0)):=λK=>cw c K s1 7 (.agg ((ke k xt[k]).ax v)) [.str [],.int .u8 0,.int .i64 0,.int .i64 0,.af,.int .i64 0,.int .i64 0] rfl rfl ((ke k xt[k]).Ln M.cells.2)
 have h3n:=T1.h3;have g6:=aA s1 (.cells ((ke k xt[k]).ax v) 0);generalize (ke k xt[k]).ax v=tc at*
 generalize j8 xt (k+1)=S1 at*
 clear hS e T1 a3 a4 hM M h;rw[AS];simp (disch:=omega) [-au,Za5,h1,lI,aI,c0,hk,Dp,d1,d2,w3,C,Qv,h3n,g6,cu,a1,a2,a5,p6,hs,w1,w2]
theorem aoh(hc:bw c){xt:List Nat}(hx:∀x∈xt,x<256)(hl:xt.length<=9223372036854775807){zt zg zy zr:Bool}{xg xy xr:List Nat}{st sA:St}{p1 p3:Pos}{x2:AV}(hA:Wf sA)(h1A:sA.heap.get p1=some (.cells (jG zt zg zy zr xt xg xy xr) 0))(h13:p1≠p3)(Z0:p3.toNat<sA.next.toNat)(fT:st.next.toNat<=p3.toNat):
  ∀(m k:Nat)(s:St)(V:AV)(rows:List (List AV)),k+m=min xt.length 3->TL st sA s p3 V (rX xt k) rows (λV=>[V,.af,.af,.af,.af])->
  ∃ s' V' vM,TL st sA s' p3 V' (rX xt (min xt.length 3)) vM (λV=>[V,.af,.af,.af,.af])/\∀(F:Nat)(k2:List AV->St->Option (AV×St))(f:Nat),m<f->
    gC c F k2 f [.ptr p1 0,x2,.ptr p3 0,.int .i64 (j8 xt k:Int),.int .i64 (k:Int)] s=k2 [.ptr p1 0,x2,.ptr p3 0,.int .i64 (j8 xt (min xt.length 3):Int)] s':=by
 intro m;induction m with
 |zero=>
  intro k s V rows hk h;obtain rfl:k=min xt.length 3:=by omega
  refine⟨s,V,rows,h,λF k2 f hf=> ?_⟩;obtain⟨f,rfl⟩:∃g,f=g+1:=⟨f - 1,by omega⟩
  have h1:=h.kx.keep p1 _ h13 h1A;have c0:(jG zt zg zy zr xt xg xy xr)[0]? =some (eJ .u8 zt xt):=rfl;have lI:=λ(K:AV->St->Option (AV×St))(s:St)=>SU (c:=c) .u8 zt xt K s
  generalize j8 xt (min xt.length 3)=S at*
  rw[AS];by_cases h3:xt.length<=3
  . have e:min xt.length 3=xt.length:=(by omega);rw[e];simp[h1,c0,lI]
  . have e:min xt.length 3=3:=(by omega);have hd:decide ((3:Int)<(xt.length:Int))=true:=Za0 (by omega);rw[e];simp[h1,c0,lI,hd]
 |succ m ih=>
  intro k s V rows hk h;obtain⟨s1,V1,r1,h1,e1⟩:=aog (x2:=x2) hc hx hA h1A h13 Z0 fT (k:=k) (by omega) (by omega) h;obtain⟨s2,V2,r2,h2,e2⟩:=ih (k+1) s1 V1 r1 (by omega) h1;refine⟨s2,V2,r2,h2,λF k2 f hf=> ?_⟩;obtain⟨f,rfl⟩:∃g,f=g+1:=⟨f - 1,by omega⟩
  rw[e1 F k2 f,e2 F k2 f (by omega)]
variable{c : aj}
theorem aiG{k:Nat}(h:k<=1000000):av .i64 ((k:Int)+1)=((k+1:Nat):Int):=wrap64 (by omega) (by omega)
theorem amb{x:Nat}(h:x<=4294967296):av .i64 (x:Int)=(x:Int):=wrap64 (by omega) (by omega)
def FW(xg:List Nat)(k:Nat):List Int:=(List.range k).map λi=>((xg.getD i 0 / 3 % 4:Nat):Int)
theorem aoi(xg:List Nat)(k:Nat)(h:k<xg.length):FW xg (k+1)=FW xg k++[((xg[k] / 3 % 4:Nat):Int)]:=by
 unfold FW;rw[Zf9,Zd3];simp[Zb1,h]
theorem Lt(xg:List Nat)(k:Nat):(FW xg k).length=k:=by simp[FW]
theorem amc{xg:List Nat}(hx:∀x∈xg,x<65536){zt zg zy zr:Bool}{xt xy xr:List Nat}{st sA:St}{p1 p3:Pos}{x2 V1 V2 V3:AV}{n:Nat}(hn:n<=xg.length)(GP:n<=1000)(hA:Wf sA)(h1A:sA.heap.get p1=some (.cells (jG zt zg zy zr xt xg xy xr) 0))(h13:p1≠p3)(Z0:p3.toNat<sA.next.toNat)(fT:st.next.toNat<=p3.toNat)
  (l2:∀(K:AV->St->Option (AV×St))(s':St),aq c (.lenB .l) [V2] s' K=K (.int .i64 (n:Int)) s'):
  ∀(m k:Nat)(s:St)(V:AV),k+m=n->LL st sA s p3 1 V ((FW xg k).map bV) (λA=>[V1,V2,V3,A,.af])->
  ∃s' V',LL st sA s' p3 1 V' ((FW xg n).map bV) (λA=>[V1,V2,V3,A,.af])/\∀(F:Nat)(k4:List AV->St->Option (AV×St))(f:Nat),m<f->
   jS c F k4 f [.ptr p1 0,x2,.ptr p3 0,.int .i64 (k:Int)] s=k4 [.ptr p1 0,x2,.ptr p3 0] s':=by
 intro m;induction m with
 |zero=>
  intro k s V hk h;obtain rfl:k=n:=by omega
  refine⟨s,V,h,λF k4 f hf=> ?_⟩;obtain⟨f,rfl⟩:∃g,f=g+1:=⟨f - 1,by omega⟩
  rw[AT];simp[h.h3,l2]
 |succ m ih=>
  intro k s V hk h;have hkn:k<n:=by omega
  have xU:k<xg.length:=by omega
  have LN:=hx _ (Zb8 xU);obtain⟨v,hv⟩:∃v:Nat,v=xg[k] / 3 % 4:=⟨_,rfl⟩
  have E:(xg[k]:Int) / 3 % 4=(v:Int):=by omega
  have h1:=h.kx.keep p1 _ h13 h1A;obtain⟨s5,s6,V5,a1,a2,a3,a4,a5,a6,a7⟩:=h.push (c:=c) (bytes:=8) (i:=3) (z:=[.int .i64 0]) (x:= .int .i64 (v:Int)) hA Z0 fT (λA B=>rfl) (λA=>by simp) rfl rfl rfl (by decide) (by rw[Za4,Lt];omega) (by rw[Za4,Lt];omega);have e:(FW xg k).map bV++[(.int .i64 (v:Int):AV).cells]=(FW xg (k+1)).map bV:=by rw[aoi xg k xU,Zd3,hv];rfl
  rw[e]at a3;obtain⟨s7,V7,b1,b2⟩:=ih (k+1) s6 V5 (by omega) a3;refine⟨s7,V7,b1,λF k4 f hf=> ?_⟩;obtain⟨f,rfl⟩:∃g,f=g+1:=⟨f - 1,by omega⟩
  have b3:=b2 F k4 f (by omega);have aI:=λ(K:AV->St->Option (AV×St))(s:St)=>akl (c:=c) .u16 .i64 zg xg xU K s
  have c1:(jG zt zg zy zr xt xg xy xr)[1]? =some (eJ .u16 zg xg):=rfl;have h3n:=h.h3;clear b2 ih a3 a4 a5 a6 e hv;have k6:k<=1000000:=by omega
  have x6:xg[k]<=4294967296:=by omega
  have w2:=aiG k6;have w3:=amb x6;rw[<-b3,AT];simp (disch:=omega) [-au,-gV,-oq,cO,iz,Za5,Zc0,h1,h3n,l2,aI,c1,hkn,w3,E,a1,a2,a7,w2]
def Bw(ts:List aD)(gs:List aT)(xr:List Nat):Nat->List Rl
 |0=>[]
 |k+1=>Bw ts gs xr k++(if(ig ts gs (xr.getD k 0)).2=true then [(ig ts gs (xr.getD k 0)).1]else [])
theorem Ss(ts:List aD)(gs:List aT)(xr:List Nat):∀k,(Bw ts gs xr k).length<=k
 |0=>Za3 _
 |k+1=>by have:=Ss ts gs xr k;unfold Bw;rw[Ze8];split<;>simp<;>omega
theorem aqP{R:Type}(k k':IntKind)(z:Bool)(l:List Nat){i:Nat}(h:i<l.length)(K:AV->Option R)(t:T AB):fh (.idxA 1 none) [eJ k z l,.int k' (i:Int)] (λv=>jx (.load none) [v] t (λ_=>true) K)=K (.int k (l[i]:Int)):=by
 unfold eJ;simp[h]
theorem aqQ{R:Type}(s:St)(K:AV->AB->Option R):TA (.alloc [.int .u8 0,.int .i64 0,.str [],.str [],.str [],.int .i64 0]) [] s K=K (.ptr s.next 0) (.cells [.int .u8 0,.int .i64 0,.str [],.str [],.str [],.int .i64 0] 0):=rfl
theorem amd(hc:bw c){xr:List Nat}(hx:∀x∈xr,x<4294967296)(hl:xr.length<=9223372036854775807){zt zg zy zr:Bool}{xt xg xy:List Nat}{st sA:St}{p1 p3:Pos}{x2 V1 V2 V3 V4:AV}(hA:Wf sA)(h1A:sA.heap.get p1=some (.cells (jG zt zg zy zr xt xg xy xr) 0))(h13:p1≠p3)(Z0:p3.toNat<sA.next.toNat)(fT:st.next.toNat<=p3.toNat)
  {ts:List aD} {gs:List aT} {r1 r2:List (List AV)} (hT:TS st sA V1 ts r1) (sT:TS.Since (p3.toNat+1) V1 r1) (hG:GS st sA V2 gs r2) (sG:GS.Since (p3.toNat+1) V2 r2) (lt:ts.length<=1000) (lg:gs.length<=1000)
  (hz:∀t∈ts,0<nO t.sh t.a t.b/\nO t.sh t.a t.b<=1000) (ha:∀t∈ts,(0<=t.a/\t.a<=1000000)/\0<=t.b/\t.b<=1000000):
  ∀(m k:Nat)(s:St)(V:AV),k+m=min xr.length 12->LL st sA s p3 6 V ((Bw ts gs xr k).map Rl.cells) (λA=>[V1,V2,V3,V4,A])->
  ∃ s' V',LL st sA s' p3 6 V' ((Bw ts gs xr (min xr.length 12)).map Rl.cells) (λA=>[V1,V2,V3,V4,A])/\∀(F:Nat)(k6:List AV->St->Option (AV×St))(f:Nat),m<f->
    jU c F k6 f [.ptr p1 0,x2,.ptr p3 0,.int .i64 (k:Int)] s=k6 [x2,.ptr p3 0] s':=by
 have c3:(jG zt zg zy zr xt xg xy xr)[3]? =some (eJ .u32 zr xr):=rfl;have lI:=λ(K:AV->St->Option (AV×St))(s:St)=>SU (c:=c) .u32 zr xr K s
 intro m;induction m with
 |zero=>
  intro k s V hk h;obtain rfl:k=min xr.length 12:=by omega
  refine⟨s,V,h,λF k6 f hf=> ?_⟩;obtain⟨f,rfl⟩:∃g,f=g+1:=⟨f - 1,by omega⟩
  have h1:=h.kx.keep p1 _ h13 h1A;rw[tX];by_cases h3:xr.length<=12
  . have e:min xr.length 12=xr.length:=(by omega);rw[e];simp[h1,c3,lI]
  . have e:min xr.length 12=12:=(by omega);have hd:decide ((12:Int)<(xr.length:Int))=true:=Za0 (by omega);rw[e];simp[h1,c3,lI,hd]
 |succ m ih=>
  intro k s V hk h;have xU:k<xr.length:=by omega
  have hk12:k<12:=by omega
  have LN:=hx _ (Zb8 xU);have kM:k<=1000000:=by omega
  have d12:decide ((k:Int)<12)=true:=Za0 (by omega);have nw:=λ(K:AV->AB->Option (AV×St))=>aqQ s K
  have xM:xr[k]<=4294967296:=by omega
  have h1:=h.kx.keep p1 _ h13 h1A;have gr:=h.out.ai;have A:=aqM hc (V3:=V3) (V4:=V4) (V5:=V) (hT.kx h.kx gr sT) (hG.kx h.kx gr sG) lt lg hz ha xr[k] LN;have gn:=Grew.ah gr.wf (.cells (ig ts gs xr[k]).1.cells 0);have hS:Bw ts gs xr (k+1)=Bw ts gs xr k++(if(ig ts gs xr[k]).2=true then [(ig ts gs xr[k]).1]else []):=by
    rw[Bw];simp[Zb1,xU]
  have Qv:∀(K:AV->St->Option (AV×St)),aq c (.store 6) [.ptr s.next 0,.agg (ig ts gs xr[k]).1.cells] (ah s (.cells [.int .u8 0,.int .i64 0,.str [],.str [],.str [],.int .i64 0] 0)) K=K .undef (ah s (.cells (ig ts gs xr[k]).1.cells 0)):=λK=>cw c K s 6 (.agg (ig ts gs xr[k]).1.cells) [.int .u8 0,.int .i64 0,.str [],.str [],.str [],.int .i64 0] rfl rfl rfl
  have aP:=λ(K:AV->Option (AV×St))(t:T AB)=>aqP .u32 .i64 zr xr xU K t
  have hg:=h.ai gn;have h3n:=h.h3;have h3g:=hg.h3;have ll:=Ss ts gs xr k;have cu5:∀A B D E G:AV,cut [A,B,D,E,G] 0 5=some [A,B,D,E,G]:=λA B D E G=>cQ rfl
  have gx:=aA s (.cells (ig ts gs xr[k]).1.cells 0);by_cases hb:(ig ts gs xr[k]).2=true
  . rw[hb]at A;rw[Zb3 hb]at hS;obtain⟨s5,s6,V5,a1,a2,a3,a4,a5,a6,a7⟩:=hg.push (c:=c) (bytes:=72) (i:=4) (z:=[.int .u8 0,.int .i64 0,.str [],.str [],.str [],.int .i64 0]) (x:= .agg (ig ts gs xr[k]).1.cells) hA Z0 fT (λA B=>rfl) (λA=>by simp) rfl rfl rfl (by decide) (by rw[Za4];omega) (by rw[Za4];omega);have e:(Bw ts gs xr k).map Rl.cells++[(.agg (ig ts gs xr[k]).1.cells:AV).cells]=(Bw ts gs xr (k+1)).map Rl.cells:=(by rw[hS,Zd3];rfl);rw[e]at a3;obtain⟨s7,V7,b1,b2⟩:=ih (k+1) s6 V5 (by omega) a3;refine⟨s7,V7,b1,λF k6 f hf=> ?_⟩;obtain⟨f,rfl⟩:∃g,f=g+1:=⟨f - 1,by omega⟩
    have b3:=b2 F k6 f (by omega);generalize (ig ts gs xr[k]).1=R at*
    clear b2 ih a3 a4 a5 a6 e hS hb ll hg h;have w2:=aiG kM;have w3:=amb xM;rw[<-b3,tX];simp (disch:=omega) [-au,cL,Za5,Zc0,h1,h3n,h3g,lI,aP,c3,xU,d12,nw,w3,A,Qv,cu5,gx,a1,a2,a7,w2]
  . have eN:(ig ts gs xr[k]).2=false:=(by simpa using hb);rw[eN]at A;rw[Za7 hb,Ze0]at hS;rw[<-hS]at hg;obtain⟨s7,V7,b1,b2⟩:=ih (k+1) _ V (by omega) hg;refine⟨s7,V7,b1,λF k6 f hf=> ?_⟩;obtain⟨f,rfl⟩:∃g,f=g+1:=⟨f - 1,by omega⟩
    have b3:=b2 F k6 f (by omega);generalize (ig ts gs xr[k]).1=R at*
    clear b2 ih hS hb eN ll hg h;have w2:=aiG kM;have w3:=amb xM;rw[<-b3,tX];simp (disch:=omega) [-au,cL,Za5,Zc0,h1,h3n,h3g,lI,aP,c3,xU,d12,nw,w3,A,Qv,cu5,gx,w2]
variable{c : aj}
theorem ajp(hc:bw c){xs:List Nat}(hx:∀x∈xs,x<65536)(hl:xs.length<=9223372036854775807)(z:Bool)(x1:AV){st:St}{p4 p5:Pos}(Qu:p4≠p5)(ET:st.next.toNat<=p5.toNat){W:AV}:∀(m k:Nat)(s:St)(V:AV)(rows:List (List AV)),k+m=min xs.length 12->
  GL st s p4 p5 V W (Dt xs k) rows->∃s' V' vM,GL st s' p4 p5 V' W (Dt xs (min xs.length 12)) vM/\∀(F:Nat)(_:5<=F)(k2:List AV->St->Option (AV×St))(f:Nat),m<f->
    gy c F k2 f [eJ .u16 z xs,x1,.ptr p4 0,.ptr p5 0,.int .i64 (k:Int)] s=k2 [x1,.ptr p4 0,.ptr p5 0] s':=by
 intro m;induction m with
 |zero=>
  intro k s V rows hk h;obtain rfl:k=min xs.length 12:=by omega
  refine⟨s,V,rows,h,λF _ k2 f hf=> ?_⟩;obtain⟨f,rfl⟩:∃g,f=g+1:=⟨f - 1,by omega⟩
  have lI:∀(K:AV->St->Option (AV×St))(s:St),aq c (.lenB .l) [eJ .u16 z xs] s K=K (.int .i64 (xs.length:Int)) s:=λK s=>by unfold eJ;rw[iy];simp
  rw[AR];by_cases h12:xs.length<=12
  . have e:min xs.length 12=xs.length:=(by omega);rw[e];simp[lI]
  . have e:min xs.length 12=12:=(by omega);rw[e];have hd:decide (12<xs.length)=true:=Za0 (by omega);have hd2:(12:Nat)<xs.length:=(by omega);have hd3:decide ((12:Int)<(xs.length:Int))=true:=Za0 (by omega);simp[lI,hd3]
 |succ m ih=>
  intro k s V rows hk h;obtain⟨s1,V1,r1,h1,e1⟩:=ajo hc hx z x1 Qu ET (k:=k) (by omega) (by omega) h;obtain⟨s2,V2,r2,h2,e2⟩:=ih (k+1) s1 V1 r1 (by omega) h1;refine⟨s2,V2,r2,h2,λF hF k2 f hf=> ?_⟩;obtain⟨f,rfl⟩:∃g,f=g+1:=⟨f - 1,by omega⟩
  rw[e1 F hF k2 f,e2 F hF k2 f (by omega)]
variable{c : aj}
structure YL(st s:St)(p4 p5:Pos)(V W:AV)(gs:List aT)(rows:List (List AV))(ys:List Ty):Prop where
 gl:GL st s p4 p5 V W gs rows
 ty:Mk 3 st s W (ys.map Ty.cells)
 w4:aL W≠some p4
 w5:aL W≠some p5
 wV:∀b,aL W=some b->aL V≠some b
 wI:∀(i:Nat)(r:List AV)(v:AV)(b:Pos),rows[i]? =some r->r[8]? =some v->aL v=some b->aL W≠some b
theorem YL.start{st s:St}{p4 p5:Pos}{V:AV}{gs:List aT}{rows:List (List AV)}(h:GL st s p4 p5 V .af gs rows):YL st s p4 p5 V .af gs rows []:=
 ⟨h,Mk.start h.out.jN h.out.ai,λe=>(nomatch e),λe=>(nomatch e),λ_ e=>(nomatch e),λ_ _ _ _ _ _ _ e=>(nomatch e)⟩
theorem YL.push{st s:St}{p4 p5:Pos}{V W:AV}{gs:List aT}{rows:List (List AV)}{ys:List Ty}(h:YL st s p4 p5 V W gs rows ys)(Qu:p4≠p5)(ET:st.next.toNat<=p5.toNat)(t:Ty)(hlen:ys.length<=1000000):
   ∃s5 s6 W5,(∀(K:AV->St->Option (AV×St)),aq c (.buildSlice 3 1 [.str [],.str [],.int .u8 0] [0]) [.agg t.cells] s (λy q=>aq c (.append 3 40) [W,y] q K)=K W5 s5)/\
    (∀(K:AV->St->Option (AV×St)),aq c (.store 1) [.ptr p5 1,W5] s5 K=K .undef s6)/\YL st s6 p4 p5 V W5 gs rows (ys++[t]):=by
 have hw:=h.gl.out.ai.wf;obtain⟨s5,W5,a1,a2,a3,a4⟩:=h.ty.push (c:=c) (R:=AV×St) (bytes:=40) (z:=[.str [],.str [],.int .u8 0]) (x:= .agg t.cells) rfl rfl rfl (by decide) (by rw[Za4];omega) (by rw[Za4];omega);have e:(ys++[t]).map Ty.cells=ys.map Ty.cells++[(.agg t.cells:AV).cells]:=by rw[Zd3];rfl
 rw[<-e]at a2;have y4:=a3 p4 _ h.w4 h.gl.h4;have y5:=a3 p5 _ h.w5 h.gl.h5;have l4:=hw p4 _ h.gl.h4;have l5:=hw p5 _ h.gl.h5;have b4:aL W5≠some p4:=λe=>by have:=a4 _ e;omega
 have b5:aL W5≠some p5:=λe=>by have:=a4 _ e;omega
 have l5':=a2.ai.wf p5 _ y5;obtain⟨vc,v1⟩:=a2.cells;have bD:∀(K:AV->St->Option (AV×St)),aq c (.store 1) [.ptr p5 1,W5] s5 K=K .undef (bg s5 p5 (.cells [V,W5] 0)):=λK=>by rw[cg c K s5 1 p5 1 W5 [V,W] y5 (by rw[vc];rfl) (by simp) (by rw[vc];exact v1),vc];rfl
 have M6:=a2.store (p:=p5) (b:= .cells [V,W5] 0) ET l5' b5;have keep:∀(u:AV)(n:Nat)(rw:List (List AV)),Mk n st s u rw->(∀b,aL u=some b->aL W≠some b/\b≠p5)->Mk n st (bg s5 p5 (.cells [V,W5] 0)) u rw:=λu n rw hu dJ=>
   aiF hu M6.ai λb y hb hy=>by rw[aJ (λe=>(dJ b hb).2 e.symm)];exact a3 b y (dJ b hb).1 hy
 have newW:∀b,aL W5=some b->s.next.toNat<=b.toNat:=a4;refine⟨s5,_,W5,a1,bD,⟨⟨keep V 9 rows h.gl.out λb hb=>⟨λe=>h.wV b e hb,λe=>h.gl.n5 (by rw[hb,e])⟩,h.gl.len,λi g r hi hr=> ?_,by rw[aJ (λe=>Qu e.symm)];exact y4,bG _ _ _,h.gl.n4,h.gl.n5⟩,M6,b4,b5,λb hb e=> ?_,λi r v b hr h8 hv e=> ?_⟩⟩
 . obtain⟨v,e1,e2,e3⟩:=h.gl.dX i g r hi hr;have h8:r[8]? =some v:=(by rw[e1];rfl);exact⟨v,e1,keep v 1 _ e2 λb hb=>⟨h.wI i r v b hr h8 hb,(e3 b hb).2.2⟩,e3⟩
 . have:=newW b hb;have:=h.gl.out.own.lt hw e;omega
 . have p1:=newW b e;have hi:i<gs.length:=(by rw[<-h.gl.len];exact(Za2.1 hr).1);obtain⟨u,e1,e2,_⟩:=h.gl.dX i gs[i] r (H0 hi) hr;have:u=v:=(by rw[e1]at h8;exact Zg3 h8);subst this;have:=e2.own.lt hw hv;omega
variable{c : aj}
def mW(gs:List aT):List (List Nat):=gs.map λg=>g.name
def aed(bJ:List Nat)(i k n:Nat):Ty:=⟨bN i,bN k,1+((bJ.getD n 0 % 4:Nat):Int)⟩
def aiH(bJ:List Nat)(n:Nat):Bool:=decide (n<bJ.length)&&decide (bJ.getD n 0 % 4<2)
def FX(bJ:List Nat)(i k n:Nat)(ys:List Ty):List Ty:=if aiH bJ n=true then ys++[aed bJ i k n]else ys
theorem aiI(bJ:List Nat)(i k n:Nat)(ys:List Ty):(FX bJ i k n ys).length<=ys.length+1:=by unfold FX;split<;>simp
def mX(names:List (List Nat))(bJ:List Nat)(i:Nat):Nat->Nat->Nat->List Ty->Nat×List Ty
 |0,_,n,ys=>(n,ys)
 |m+1,k,n,ys=>if bN i∈names then(if bN k∈names then mX names bJ i m (k+1) (n+1) (FX bJ i k n ys)else mX names bJ i m (k+1) n ys)else(n,ys)
theorem GL.there(hc:bw c){st s:St}{p4 p5:Pos}{V W:AV}{gs:List aT}{rows:List (List AV)}(h:GL st s p4 p5 V W gs rows)(hl:gs.length<=1000)(x:Nat)(hx:x<1000000):
  c 87 [.agg [V,W],.int .i64 (x:Int)] s=some (.bool (decide (bN x∈mW gs)),s):=
 aqL hc h.out.own h.out.row (names:=mW gs) (by rw[mW,Za4,h.len]) (λi h1 h2=>by
  have h3:i<gs.length:=by rw[<-h.len];exact h1
  obtain⟨v,e,_⟩:=h.dX i gs[i] rows[i] (H0 h3) (H0 h1);rw[e];simp[mW,aT.ax]) (by rw[h.len];exact hl) x hx h.out.ai.wf
theorem ajq{R:Type}(h:T AB)(ok:AV->Bool)(xs:List (List AV))(i j:Nat)(K1:AV->Option R):jx (.load none) [.fp xs i j] h ok K1=yB (xs[i]?.bind λcs=>cs[j]?) K1:=by unfold jx;rw[CV,CV];cases hx:(xs[i]?.bind λcs=>cs[j]?)<;>rfl
theorem aoj{R:Type}(a b:List Nat)(k:Int)(s:St)(K:AV->AB->Option R):TA (.buildSlice 3 1 [.str [],.str [],.int .u8 0] [0]) [.agg [.str a,.str b,.int .u8 k]] s K=K (.slice s.next 0 1 (some 1) 3) (.cells [.str a,.str b,.int .u8 k] 0):=rfl
theorem ame(a b:List Nat)(k:Int)(K:AV->Option (AV×St)):fh (.build [.str [],.str [],.int .u8 0] [(0,1),(1,1),(2,1)]) [.str a,.str b,.int .u8 k] K=K (.agg [.str a,.str b,.int .u8 k]):=rfl
theorem atZ (hc:bw c){bJ:List Nat}(ht:∀x∈bJ,x<256)(z:Bool){st:St}{p4 p5:Pos}(Qu:p4≠p5)(ET:st.next.toNat<=p5.toNat){V:AV}{gs:List aT}(Nl:gs.length<=1000){rows:List (List AV)}{i:Nat}(hi:i<1000):
  ∀(m k n:Nat)(s:St)(W:AV)(ys:List Ty),k+m=312->ys.length<=n->n+m<=1000000->YL st s p4 p5 V W gs rows ys->
  ∃ s' W',YL st s' p4 p5 V W' gs rows (mX (mW gs) bJ i m k n ys).2/\∀(F:Nat)(k8:List AV->St->Option (AV×St))(f:Nat),m<f->
    jV c F k8 f [eJ .u8 z bJ,.ptr p4 0,.ptr p5 0,.int .i64 (n:Int),.int .i64 (i:Int),.int .i64 (k:Int)] s=k8 [eJ .u8 z bJ,.ptr p4 0,.ptr p5 0,.int .i64 ((mX (mW gs) bJ i m k n ys).1:Int),.int .i64 (i:Int)] s':=by
 intro m;induction m with
 |zero=>
  intro k n s W ys hk hy hn h;obtain rfl:k=312:=by omega
  refine⟨s,W,h,λF k8 f hf=> ?_⟩;obtain⟨f,rfl⟩:∃g,f=g+1:=⟨f - 1,by omega⟩
  rw[iO];simp[mX]
 |succ m ih  =>
  intro k n s W ys hk hy hn h;have T1:=h.gl.there hc Nl i (by omega);have T2:=h.gl.there hc Nl k (by omega);have hd:decide ((k:Int)<312)=true:=Za0 (by omega);have w:av .i64 ((k:Int)+1)=((k+1:Nat):Int):=wrap64 (by omega) (by omega);have w2:av .i64 ((n:Int)+1)=((n+1:Nat):Int):=wrap64 (by omega) (by omega);have h5:=h.gl.h5;have cu:cut [V,W] 0 2=some [V,W]:=rfl;have lI:∀(K:AV->St->Option (AV×St))(s:St),aq c (.lenB .l) [eJ .u8 z bJ] s K=K (.int .i64 (bJ.length:Int)) s:=λK s=>by unfold eJ;rw[iy];simp
  by_cases hi1:bN i∈mW gs
  . by_cases AI:bN k∈mW gs
    .   have eT:mX (mW gs) bJ i (m+1) k n ys=mX (mW gs) bJ i m (k+1) (n+1) (FX bJ i k n ys):=(by rw[mX,Zb3 hi1,Zb3 AI]);rw[eT];have hl:=aiI bJ i k n ys;by_cases sS:n<bJ.length
        . have ix:∀(K:AV->St->Option (AV×St))(s:St),aq c (.idxA 1 none) [eJ .u8 z bJ,.int .i64 (n:Int)] s K=K (.fp (bJ.map λ(i:Nat)=>[.int .u8 (i:Int)]) n 0) s:=λK s=>by unfold eJ;rw[RD];simp[sS]
          have pix:∀(K:AV->Option (AV×St)),fh (.idxA 1 none) [eJ .u8 z bJ,.int .i64 (n:Int)] K=K (.fp (bJ.map λ(i:Nat)=>[.int .u8 (i:Int)]) n 0):=λK=>by unfold eJ;rw[apn];simp[sS]
          obtain⟨x,hx⟩:∃x,bJ[n]=x:=⟨_,rfl⟩
          have hx8:x<256:=(by rw[<-hx];exact ht _ (Zb8 sS));have gd:bJ.getD n 0=x:=(by simp[Zb1,sS,hx]);have r1:=λ(s:St)(K:AV->St->Option (AV×St))=>cO (c:=c) (k:= .u8) (a:=(x:Int)) (b:=4) (by omega) (by omega) s K
          have r2:=λ(K:AV->Option (AV×St))=>RN (k:= .u8) (a:=(x:Int)) (b:=4) (by omega) (by omega) K
          have w8:av .u8 (1+(x:Int) % 4)=1+(x:Int) % 4:=Gh (by omega) (by omega);have eC:aiH bJ n=decide (x % 4<2):=(by unfold aiH;rw[gd,Za0 sS,Zg6]);have d2:decide ((x:Int) % 4<2)=decide (x % 4<2):=decide_eq_decide.2 (by omega);by_cases hx4:x % 4<2
          . have eY:FX bJ i k n ys=ys++[aed bJ i k n]:=(by unfold FX;rw[eC,Zb3 (Za0 hx4)]);rw[eY]at hl ⊢;obtain⟨s5,s6,W5,a1,a2,a3⟩:=h.push (c:=c) Qu ET (aed bJ i k n) (by omega);have eU:(aed bJ i k n).cells=[.str (bN i),.str (bN k),.int .u8 (1+(x:Int) % 4)]:=(by unfold aed Ty.cells;rw[gd];simp);have a1':∀K,aq c (.append 3 40) [W,.slice s.next 0 1 (some 1) 3] (ah s (.cells [.str (bN i),.str (bN k),.int .u8 (1+(x:Int) % 4)] 0)) K=K W5 s5:=λK=>by have h1:=a1 K;rw[KD (es:=3) (z:=[.str [],.str [],.int .u8 0]) (x:= .agg (aed bJ i k n).cells) rfl rfl]at h1;rw[<-eU];exact h1
            have N1:=zz hc i (by omega) s h.gl.out.ai.wf;have N2:=zz hc k (by omega) s h.gl.out.ai.wf;obtain⟨s',W',b1,b2⟩:=ih (k+1) (n+1) s6 W5 _ (by omega) (by omega) (by omega) a3;refine⟨s',W',b1,λF k8 f hf=> ?_⟩;obtain⟨f,rfl⟩:∃g,f=g+1:=⟨f - 1,by omega⟩
            rw[<-b2 F k8 f (by omega),iO];simp[-au,-qf,-Gz,h5,cu,T1,T2,hi1,AI,hd,cL,lI,sS,ix,pix,hx,r1,r2,d2,hx4,w8,N1,N2,ajq,aoj,ame,a1',a2,w,w2]
          . have eY:FX bJ i k n ys=ys:=(by unfold FX;rw[eC,Za7 (by simp;omega)]);rw[eY];obtain⟨s',W',b1,b2⟩:=ih (k+1) (n+1) s W ys (by omega) (by omega) (by omega) h;refine⟨s',W',b1,λF k8 f hf=> ?_⟩;obtain⟨f,rfl⟩:∃g,f=g+1:=⟨f - 1,by omega⟩
            have Lm:decide ((x:Int) % 4<2)=false:=Za1 (by omega);rw[<-b2 F k8 f (by omega),iO];simp[-au,-qf,-Gz,h5,cu,T1,T2,hi1,AI,hd,cL,lI,sS,ix,hx,r1,Lm,w,w2]
        . have eY:FX bJ i k n ys=ys:=(by unfold FX aiH;rw[Za1 sS,Bool.false_and,Za7 (by decide)]);rw[eY];obtain⟨s',W',b1,b2⟩:=ih (k+1) (n+1) s W ys (by omega) (by omega) (by omega) h;refine⟨s',W',b1,λF k8 f hf=> ?_⟩;obtain⟨f,rfl⟩:∃g,f=g+1:=⟨f - 1,by omega⟩
          rw[<-b2 F k8 f (by omega),iO];simp[-au,-qf,-Gz,h5,cu,T1,T2,hi1,AI,hd,cL,lI,sS,w,w2]
    .   have eT:mX (mW gs) bJ i (m+1) k n ys=mX (mW gs) bJ i m (k+1) n ys:=(by rw[mX,Zb3 hi1,Za7 AI]);rw[eT];obtain⟨s',W',b1,b2⟩:=ih (k+1) n s W ys (by omega) (by omega) (by omega) h;refine⟨s',W',b1,λF k8 f hf=> ?_⟩;obtain⟨f,rfl⟩:∃g,f=g+1:=⟨f - 1,by omega⟩
        rw[<-b2 F k8 f (by omega),iO];simp[-au,-qf,-Gz,h5,cu,T1,T2,hi1,AI,hd,cL,w]
  . have eT:mX (mW gs) bJ i (m+1) k n ys=(n,ys):=(by rw[mX,Za7 hi1]);rw[eT];refine⟨s,W,h,λF k8 f hf=> ?_⟩;obtain⟨f,rfl⟩:∃g,f=g+1:=⟨f - 1,by omega⟩
    rw[iO];simp[-au,-qf,-Gz,h5,cu,T1,hi1,hd,cL]
variable{c : aj}
theorem Xp(names:List (List Nat))(bJ:List Nat)(i:Nat):∀(m k n:Nat)(ys:List Ty),ys.length<=n->(mX names bJ i m k n ys).2.length<=(mX names bJ i m k n ys).1/\(mX names bJ i m k n ys).1<=n+m
 |0,k,n,ys,h=>by unfold mX;exact⟨h,by omega⟩
 |m +   1,k,n,ys,h=>by
  unfold mX;split
  . split
    .   have hl:=aiI bJ i k n ys;have:=Xp names bJ i m (k+1) (n+1) (FX bJ i k n ys) (by omega);omega
    .   have:=Xp names bJ i m (k+1) n ys h;omega
  . exact⟨h,by omega⟩
def Xq(names:List (List Nat))(bJ:List Nat):Nat->Nat->Nat->List Ty->List Ty
 |0,_,_,ys=>ys
 |m+1,i,n,ys=>Xq names bJ m (i+1) (mX names bJ i m (i+1) n ys).1 (mX names bJ i m (i+1) n ys).2
theorem as7(hc:bw c){bJ:List Nat}(ht:∀x∈bJ,x<256)(z:Bool){st:St}{p4 p5:Pos}(Qu:p4≠p5)(ET:st.next.toNat<=p5.toNat){V:AV}{gs:List aT}(Nl:gs.length<=1000){rows:List (List AV)}:
  ∀(m i n:Nat)(s:St)(W:AV)(ys:List Ty),i+m=312->ys.length<=n->n+m*312<=1000000->YL st s p4 p5 V W gs rows ys->
  ∃s' W',YL st s' p4 p5 V W' gs rows (Xq (mW gs) bJ m i n ys)/\∀(F:Nat)(_:400<=F)(k6:List AV->St->Option (AV×St))(f:Nat),m<f->
   jW c F k6 f [eJ .u8 z bJ,.ptr p4 0,.ptr p5 0,.int .i64 (n:Int),.int .i64 (i:Int)] s=k6 [.ptr p4 0,.ptr p5 0] s':=by
 intro m;induction m with
 |zero=>
  intro i n s W ys hk hy hn h;obtain rfl:i=312:=by omega
  refine⟨s,W,h,λF _ k6 f hf=> ?_⟩;obtain⟨f,rfl⟩:∃g,f=g+1:=⟨f - 1,by omega⟩
  rw[AU];simp
 |succ m ih=>
  intro i n s W ys hk hy hn h;have hd:decide ((i:Int)<312)=true:=Za0 (by omega);have b1: -9223372036854775808<=(i:Int)+1:=by omega
  have b2:(i:Int)+1<=9223372036854775807:=by omega
  have e3:((i+1:Nat):Int)=(i:Int)+1:=by omega
  obtain⟨s1,W1,h1,e1⟩:=atZ hc ht z Qu ET Nl (i:=i) (by omega) m (i+1) n s W ys (by omega) hy (by omega) h;have hl:=Xp (mW gs) bJ i m (i+1) n ys hy;obtain⟨s2,W2,h2,e2⟩:=ih (i+1) _ s1 W1 _ (by omega) hl.1 (by omega) h1;refine⟨s2,W2,h2,λF hF k6 f hf=> ?_⟩;obtain⟨f,rfl⟩:∃g,f=g+1:=⟨f - 1,by omega⟩
  have e1':=λk8=>e1 F k8 F (by omega)
  rw[<-e2 F hF k6 f (by omega),AU];clear e1 e2 hl;have w:av .i64 ((i:Int)+1)=(i:Int)+1:=wrap64 b1 b2;rw[e3]at e1' ⊢;simp[hd,w,e1']
structure RS(st s:St)(V W:AV)(gs:List aT)(rows:List (List AV))(ys:List Ty):Prop where
 ai:Grew st s
 out:Mk 9 st s V rows
 len:rows.length=gs.length
 dX:∀(i:Nat)(g:aT)(r:List AV),gs[i]? =some g->rows[i]? =some r->∃v,r=g.ax v/\Mk 1 st s v (g.tg.map Xn)/\∀b,aL v=some b->aL V≠some b/\aL W≠some b
 ty:Mk 3 st s W (ys.map Ty.cells)
 wV:∀b,aL W=some b->aL V≠some b
def gh(xs:List Nat):List aT:=Dt xs (min xs.length 12)
def Dg(xs bJ:List Nat):List Ty:=Xq (mW (gh xs)) bJ 312 0 0 []
theorem GV(xs:List Nat):(gh xs).length<=12:=by unfold gh;rw[Lu];omega
theorem as8(hc:bw c){xs bJ:List Nat}(hx:∀x∈xs,x<65536)(hl:xs.length<=9223372036854775807)(ht:∀x∈bJ,x<256)(z z2:Bool)(st:St)(hw:Wf st):
   ∃V W s' rows,c 47 [eJ .u16 z xs,eJ .u8 z2 bJ] st=some (.agg [V,W],s')/\RS st s' V W (gh xs) rows (Dg xs bJ):=by
 have cN:Wf (ah st (.cells [.af,.af] 0)):=bF hw;have g1:=Grew.ah hw (.cells [.af,.af] 0);have g2:=Grew.ah cN (.cells [.af,.af] 0);have n12:st.next≠(ah st (.cells [.af,.af] 0)).next:=by rw[bM];exact Pos.Yq _
 have ET:st.next.toNat<=(ah st (.cells [.af,.af] 0)).next.toNat:=by rw[bM,Pos.aF];omega
 have G0:GL st (ah (ah st (.cells [.af,.af] 0)) (.cells [.af,.af] 0)) st.next (ah st (.cells [.af,.af] 0)).next .af .af (Dt xs 0) []:=
   ⟨Mk.start hw (g1.trans g2),rfl,λi g r hi _=>by simp[Dt]at hi,g2.get (aA _ _),aA _ _,λe=>(nomatch e),λe=>(nomatch e)⟩
 obtain⟨s1,V,rows,h1,e1⟩:=ajp hc hx hl z (eJ .u8 z2 bJ) n12 ET (min xs.length 12) 0 _ .af [] (by omega) G0;obtain⟨s2,W,h2,e2⟩:=as7 hc ht z2 n12 ET (gs:=gh xs) (by have:=GV xs;omega) 312 0 0 s1 .af [] (by omega) (by simp) (by omega) (YL.start h1);have e1':∀k2:List AV->St->Option (AV×St),gy c 400 k2 400 [eJ .u16 z xs,eJ .u8 z2 bJ,.ptr st.next 0,.ptr (ah st (.cells [.af,.af] 0)).next 0,.int .i64 0] (ah (ah st (.cells [.af,.af] 0)) (.cells [.af,.af] 0))=k2 [eJ .u8 z2 bJ,.ptr st.next 0,.ptr (ah st (.cells [.af,.af] 0)).next 0] s1:=λk2=>e1 400 (by omega) k2 400 (by omega)
 have e2':∀k6:List AV->St->Option (AV×St),jW c 400 k6 400 [eJ .u8 z2 bJ,.ptr st.next 0,.ptr (ah st (.cells [.af,.af] 0)).next 0,.int .i64 0,.int .i64 0] s1=k6 [.ptr st.next 0,.ptr (ah st (.cells [.af,.af] 0)).next 0] s2:=λk6=>e2 400 (by omega) k6 400 (by omega)
 have h5:=h2.gl.h5;have h4:=h2.gl.h4;have l4:=h2.gl.out.ai.wf _ _ h4;obtain⟨vc,v1⟩:=h2.gl.out.cells;obtain⟨wc,w1⟩:=h2.ty.cells;have one:aQ [V,W]=true:=by
   have v2:V.one=true:=yD v1;have w2:W.one=true:=yD w1;simp only[aQ,v2,w2]
 have cu:cut [V,W] 0 2=some [V,W]:=rfl;have Qv:∀(K:AV->St->Option (AV×St)),aq c (.store 2) [.ptr st.next 0,.agg [V,W]] s2 K=K .undef (bg s2 st.next (.cells [V,W] 0)):=λK=>by rw[cg c K s2 2 st.next 0 (.agg [V,W]) [.af,.af] h4 rfl (by simp) one];rfl
 have A:=h2.gl.out.store (p:=st.next) (b:= .cells [V,W] 0) (Za3 _) l4 h2.gl.n4;have B:=h2.ty.store (p:=st.next) (b:= .cells [V,W] 0) (Za3 _) l4 h2.w4;have ins:∀u∈[V,W],dQ u:=λu hu=>by
   simp only[Zb0,Zc5,Zf2]at hu;rcases hu with rfl|rfl
   . exact A.inst
   . exact B.inst
 obtain⟨sa,t1,ta,tA⟩:=A.RJ (l:=[V,W]) (by simp) ins;obtain⟨sb,t2,tb,tB⟩:=B.RJ (l:=[V,W]) (by simp) ins;have WM:sb=sa:=by rw[t1]at t2;exact(Prod.mk.inj t2).2.symm
 subst WM;refine⟨V,W,sb,rows,?_,⟨tA.ai,tA,h2.gl.len,λi g r hi hr=> ?_,tB,h2.wV⟩⟩
 . rw[Qw hc 400 (r:=(.agg [V,W],bg s2 st.next (.cells [V,W] 0))),t1];rw[Va];simp[e1',e2',h5,cu,Qv]
 . obtain⟨v,q1,q2,q3⟩:=h2.gl.dX i g r hi hr;have h8:r[8]? =some v:=(by rw[q1];rfl);refine⟨v,q1,?_,λb hb=>⟨(q3 b hb).1,h2.wI i r v b hr h8 hb⟩⟩;rcases ta with rfl|rfl
   . exact q2.store (p:=st.next) (b:= .cells [V,W] 0) (Za3 _) l4 (λe=>(q3 _ e).2.1 rfl)
   . (exfalso;have dJ:rows≠[]:=λe=>by rw[e]at hr;simp at hr);rcases tA.loose with⟨b,off,n,rfl⟩|⟨_,e⟩
     .  have p1:=tA.new b (qp _ _ _ _);have p2:=tA.own.lt hw (qp _ _ _ _);omega
     .  exact dJ e
variable{c : aj}
def nY(xt:List Nat):List aD:=rX xt (min xt.length 3)
def uC(xt xg:List Nat):List Nat:=xg.take (min xg.length (j8 xt (min xt.length 3)))
def nZ(xt xg:List Nat):List aT:=gh (uC xt xg)
def aok(xt xg xy:List Nat):List Ty:=Dg (uC xt xg) xy
def nX(xt xg xy:List Nat):List Int:=if 0<xy.length % 4 then FW xg (nZ xt xg).length else []
def at1(xt xg xr:List Nat):List Rl:=Bw (nY xt) (nZ xt xg) xr (min xr.length 12)
def oM(xt xg xy xr:List Nat):cm:=⟨true,nY xt,true,nZ xt xg,true,aok xt xg xy,true,nX xt xg xy,true,at1 xt xg xr⟩
theorem aol(x:Nat):0<tN x:=by
 have:0<tA x:=by unfold tA;split<;>(try split)<;>(try split)<;>omega
 unfold tN;split<;>(try split)<;>omega
theorem Su{xs:List Nat}{k:Nat}{t:aD}(h:t∈rX xs k):∃i x,t=ke i x:=by
 unfold rX at h;simp only[Zd0]at h;obtain⟨i,_,rfl⟩:=h;exact⟨_,_,rfl⟩
theorem aom{xs:List Nat}{k:Nat}:∀t∈rX xs k,0<nO t.sh t.a t.b/\nO t.sh t.a t.b<=1000:=λt h=>by obtain⟨i,x,rfl⟩:=Su h;have e:nO (ke i x).sh (ke i x).a (ke i x).b=((tN x:Nat):Int):=YJ x;have h1:=aol x;have h2:=acu x;rw[e];omega
theorem ahG{xs:List Nat}{k:Nat}:∀t∈rX xs k,(0<=t.a/\t.a<=1000000)/\0<=t.b/\t.b<=1000000:=λt h=>by obtain⟨i,x,rfl⟩:=Su h;have h1:=agc x;have h2:=agd x;show(0<=((tA x:Nat):Int)/\((tA x:Nat):Int)<=1000000)/\0<=((tB x:Nat):Int)/\((tB x:Nat):Int)<=1000000;omega
theorem RS.gs{st sL sR:St}{V W:AV}{gs:List aT}{rows:List (List AV)}{ys:List Ty}(h:RS sL sR V W gs rows ys)(h0:Wf st)(g:Grew st sL):GS st sR V gs rows/\GS.Since sL.next.toNat V rows:=
 ⟨⟨h.out.back h0 g,h.len,λi t r hi hr=>by
   obtain⟨v,e1,e2,e3⟩:=h.dX i t r hi hr;exact⟨v,e1,e2.back h0 g,λb hb=>(e3 b hb).1⟩⟩,h.out.new,λi r v b hr h8 hb=>by
   have hi:i<gs.length:=(by rw[<-h.len];exact(Za2.1 hr).1);obtain⟨u,e1,e2,_⟩:=h.dX i gs[i] r (H0 hi) hr;have:u=v:=(by rw[e1]at h8;exact Zg3 h8);subst this;exact e2.new b hb⟩
theorem TS.Since.le{n m:Nat}{V:AV}{rows:List (List AV)}(h:TS.Since n V rows)(hm:m<=n):TS.Since m V rows:=⟨λb hb=>Zb2 hm (h.1 b hb),λi r v b h1 h2 h3=>Zb2 hm (h.2 i r v b h1 h2 h3)⟩
theorem GS.Since.le{n m:Nat}{V:AV}{rows:List (List AV)}(h:GS.Since n V rows)(hm:m<=n):GS.Since m V rows:=⟨λb hb=>Zb2 hm (h.1 b hb),λi r v b h1 h2 h3=>Zb2 hm (h.2 i r v b h1 h2 h3)⟩
theorem PS.auO{s s':St}{V1 V2 V3 V4 V5:AV}{p:cm}{r1 r2:List (List AV)}(h1:TS s s' V1 p.ts r1)(h2:GS s s' V2 p.gs r2)(h3:Mk 3 s s' V3 (p.ys.map Ty.cells))(h4:Mk 1 s s' V4 (p.cs.map bV))(h5:Mk 6 s s' V5 (p.rs.map Rl.cells)):
   ∃fN,Go.Ai.tidy s (.agg [V1,V2,V3,V4,V5],s')=(.agg [V1,V2,V3,V4,V5],fN)/\PS s fN [V1,V2,V3,V4,V5] p:=by
 obtain⟨fN,e,g,k⟩:=Mk.apy (s:=s) (s':=s') (l:=[V1,V2,V3,V4,V5]) (λu hu=>by
   simp only[Zb0,Zc5,Zf2]at hu;rcases hu with rfl|rfl|rfl|rfl|rfl
   . exact h1.out.inst
   . exact h2.out.inst
   . exact h3.inst
   . exact h4.inst
   . exact h5.inst) h1.out.jN h1.out.ai
 obtain⟨a1,b1⟩:=k 7 V1 r1 (by simp) h1.out;obtain⟨a2,b2⟩:=k 9 V2 r2 (by simp) h2.out;obtain⟨a3,_⟩:=k 3 V3 _ (by simp) h3;obtain⟨a4,_⟩:=k 1 V4 _ (by simp) h4;obtain⟨a5,_⟩:=k 6 V5 _ (by simp) h5;refine⟨fN,e,g,V1,V2,V3,V4,V5,r1,r2,rfl,⟨a1,h1.len,λi t r hi hr=> ?_⟩,⟨a2,h2.len,λi t r hi hr=> ?_⟩,a3,a4,a5⟩
 . rcases b1 with rfl|rfl
   . exact h1.dX i t r hi hr
   . simp at hr
 . rcases b2 with rfl|rfl
   . exact h2.dX i t r hi hr
   . simp at hr
theorem aon{R:Type}(k k':IntKind)(z:Bool)(l:List Nat){i:Nat}(h:i<=l.length)(K:AV->Option R):fh (.sliceL 1 false true false) [eJ k z l,.int k' (i:Int)] K=K (eJ k (z&&l.isEmpty) (l.take i)):=by unfold eJ;rw[amT,Za4,Zb3 h];simp only[Zq8,List.map_take];rfl
theorem aoo{R:Type}(k:IntKind)(z:Bool)(l:List Nat)(K:AV->Option R):fh (.lenB .l) [eJ k z l] K=K (.int .i64 (l.length:Int)):=by unfold eJ;rw[agZ];simp
theorem aqR{R:Type}(s:St)(K:AV->AB->Option R):TA (.alloc [.af,.af]) [] s K=K (.ptr s.next 0) (.cells [.af,.af] 0):=rfl
set_option maxHeartbeats 4000000 in
theorem asr (hc:bw c) {xt xg xy xr:List Nat}(ht:∀x∈xt,x<256)(hg:∀x∈xg,x<65536)(hy:∀x∈xy,x<256)(hr:∀x∈xr,x<4294967296)(lt:xt.length<=9223372036854775807)(lg:xg.length<=9223372036854775807)(lr:xr.length<=9223372036854775807)(ly:xy.length<=9223372036854775807)
  (zt zg zy zr:Bool) (st:St) (hw:Wf st):∃Vs s',c 15 [.agg (jG zt zg zy zr xt xg xy xr)] st=some (.agg Vs,s')/\PS st s' Vs (oM xt xg xy xr):=by
 have w1:Wf (ah st (.cells (jG zt zg zy zr xt xg xy xr) 0)):=bF hw;have w2:Wf (ah (ah st (.cells (jG zt zg zy zr xt xg xy xr) 0)) (.cells [.af,.af,.af,.af,.af] 0)):=bF w1;have g1:=Grew.ah hw (.cells (jG zt zg zy zr xt xg xy xr) 0);have g2:=Grew.ah w1 (.cells [.af,.af,.af,.af,.af] 0);have g3:=Grew.ah w2 (.cells [.af,.af,.af,.af,.af] 0);obtain⟨p1,ki⟩:∃p1,p1=st.next:=⟨_,rfl⟩
 obtain⟨p2,Gs⟩:∃p2,p2=(ah st (.cells (jG zt zg zy zr xt xg xy xr) 0)).next:=⟨_,rfl⟩
 obtain⟨p3,hp3⟩:∃p3,p3=(ah (ah st (.cells (jG zt zg zy zr xt xg xy xr) 0)) (.cells [.af,.af,.af,.af,.af] 0)).next:=⟨_,rfl⟩
 obtain⟨s3,Gx⟩:∃s3,s3=ah (ah (ah st (.cells (jG zt zg zy zr xt xg xy xr) 0)) (.cells [.af,.af,.af,.af,.af] 0)) (.cells [.af,.af,.af,.af,.af] 0):=⟨_,rfl⟩
 have n1:st.next.toNat=p1.toNat:=by rw[ki]
 have n2:p2.toNat=p1.toNat+1:=by rw[Gs,bM,Pos.aF,ki]
 have n3:p3.toNat=p2.toNat+1:=by rw[hp3,bM,Pos.aF,Gs]
 have n4:s3.next.toNat=p3.toNat+1:=by rw[Gx,bM,Pos.aF,hp3]
 have G3:Grew st s3:=by rw[Gx];exact(g1.trans g2).trans g3
 have H1:s3.heap.get p1=some (.cells (jG zt zg zy zr xt xg xy xr) 0):=by rw[Gx,ki];exact g3.get (g2.get (aA _ _))
 have H2:s3.heap.get p2=some (.cells [.af,.af,.af,.af,.af] 0):=by rw[Gx,Gs];exact g3.get (aA _ _)
 have H3:s3.heap.get p3=some (.cells [.af,.af,.af,.af,.af] 0):=by rw[Gx,hp3];exact aA _ _
 have d13:p1≠p3:=λe=>by subst e;omega
 have d23:p2≠p3:=λe=>by subst e;omega
 have W3:=G3.wf
 obtain⟨sL,V1,r1,T1,e1⟩:=aoh (c:=c) (x2:= .ptr p2 0) hc ht lt (zt:=zt) (zg:=zg) (zy:=zy) (zr:=zr) (xg:=xg) (xy:=xy) (xr:=xr) W3 H1 d13 (by omega) (by omega) (st:=st) (min xt.length 3) 0 s3 .af [] (by omega)
  ⟨⟨Mk.start hw G3,rfl,λi t r hi _=>by simp[rX]at hi⟩,KX.refl W3,H3,⟨λb e=>(nomatch e),λi r v b hr _ _=>by simp at hr⟩⟩
 have GL:=T1.tab.out.ai;have WL:=GL.wf;have lN:=T1.kx.next;have L1:=T1.kx.keep p1 _ d13 H1;have L2:=T1.kx.keep p2 _ d23 H2;have L3:=T1.h3;have mlen:(nY xt).length<=3:=by unfold nY;rw[Sr];omega
 obtain⟨m,hm⟩:∃m:Nat,m=min xg.length (j8 xt (min xt.length 3)):=⟨_,rfl⟩
 have hmx:xg.take m=uC xt xg:=by rw[hm];rfl
 obtain⟨V2,V3,sR,r2,cR,R⟩:=as8 hc (xs:=uC xt xg) (bJ:=xy) (λx hx=>hg x (Zp2 hx)) (by have:=List.length_take_le m xg;rw[hmx]at this;omega) hy (zg&&xg.isEmpty) zy sL WL;have GR:=GL.trans R.ai;have WR:=GR.wf;obtain⟨GSR,SR⟩:=R.gs hw GL;have rN:=R.ai.next;have gx:=Grew.ah WR (.cells [V2,V3] 0);obtain⟨sX,hsX⟩:∃sX,sX=ah sR (.cells [V2,V3] 0):=⟨_,rfl⟩
 have WX:Wf sX:=by rw[hsX];exact gx.wf
 have GX:Grew sR sX:=by rw[hsX];exact gx
 have X1:=GX.get (R.ai.get L1);have X2:=GX.get (R.ai.get L2);have X3:=GX.get (R.ai.get L3);have X8:sX.heap.get sR.next=some (.cells [V2,V3] 0):=by rw[hsX];exact aA _ _
 have n8:sR.next≠p3:=fun e=>by have:sR.next.toNat=p3.toNat:=by rw[e]
                               omega
 have lX:=WX _ _ X3;obtain⟨vc2,v2⟩:=R.out.cells;obtain⟨vc3,v3⟩:=R.ty.cells;have Av:∀(K:AV->St->Option (AV×St)),aq c (.store 1) [.ptr p3 (0+1),V2] sX K=K .undef (bg sX p3 (.cells [V1,V2,.af,.af,.af] 0)):=λK=>by rw[cg c K sX 1 p3 (0+1) V2 [V1,.af,.af,.af,.af] X3 (by rw[vc2];rfl) (by simp) (by rw[vc2];exact v2),vc2];rfl
 have EM:∀(K:AV->St->Option (AV×St)),aq c (.store 1) [.ptr p3 (0+2),V3] (bg sX p3 (.cells [V1,V2,.af,.af,.af] 0)) K=K .undef (bg sX p3 (.cells [V1,V2,V3,.af,.af] 0)):=λK=>by rw[cg c K _ 1 p3 (0+2) V3 [V1,V2,.af,.af,.af] (bG _ _ _) (by rw[vc3];rfl) (by simp) (by rw[vc3];exact v3),vc3,KC];rfl
 obtain⟨sB,hsB⟩:∃sB,sB=bg sX p3 (.cells [V1,V2,V3,.af,.af] 0):=⟨_,rfl⟩
 have kXB:KX p3 sX sB:=by rw[hsB];exact(KX.refl WX).store lX _
 have WB:=kXB.wf;have GB:Grew st sB:=by rw[hsB];exact qM hw (GR.trans GX) (by omega) lX _
 have kRB:KX p3 sR sB:=((KX.refl WR).ai GX).trans kXB;have kLB:KX p3 sL sB:=((KX.refl WL).ai R.ai).trans kRB;have B1:=kXB.keep p1 _ d13 X1;have B2:=kXB.keep p2 _ d23 X2;have B3:sB.heap.get p3=some (.cells [V1,V2,V3,.af,.af] 0):=by rw[hsB];exact bG _ _ _
 have lB:=WB _ _ B3;have sT1:TS.Since (p3.toNat+1) V1 r1:=T1.since.le (by omega);have sG2:GS.Since (p3.toNat+1) V2 r2:=SR.le (by omega);have TB:=T1.tab.kx kLB GB sT1;have GSB:=GSR.kx kRB GB sG2;have s3V:∀b,aL V3=some b->p3.toNat+1<=b.toNat:=λb hb=>by have:=R.ty.new b hb;omega
 have YB:=Mk.kx (R.ty.back hw GL) kRB GB s3V;have Nl:(nZ xt xg).length<=12:=GV _;have hgn:(nZ xt xg).length<=xg.length:=by unfold nZ gh;rw[Lu, <-hmx,Zi4];omega
 have l2:∀(K:AV->St->Option (AV×St))(s':St),aq c (.lenB .l) [V2] s' K=K (.int .i64 ((nZ xt xg).length:Int)) s':=λK s'=>by rw[QS.lenB R.out.own,R.len];rfl
 have C0:LL st sB sB p3 1 .af ((FW xg 0).map bV) (λA=>[V1,V2,V3,A,.af]):=⟨Mk.start hw GB,KX.refl WB,B3,λb e=>(nomatch e)⟩
 obtain⟨sC1,V41,C1,e2⟩:=amc (c:=c) (x2:= .ptr p2 0) hg (zt:=zt) (zg:=zg) (zy:=zy) (zr:=zr) (xt:=xt) (xy:=xy) (xr:=xr) (st:=st) (V1:=V1) (V3:=V3) hgn (by omega) WB B1 d13 lB (by omega) l2 (nZ xt xg).length 0 sB .af (by omega) C0;have ld2:∀(K:AV->St->Option (AV×St)),aq c (.load none) [.ptr p1 (0+2)] sB K=K (eJ .u8 zy xy) sB:=λK=>by rw[aU,B1];rfl
 have key:∃Vs s',nu c 400 (.agg (jG zt zg zy zr xt xg xy xr)) st=some (.agg Vs,s')/\∃fN,Go.Ai.tidy st (.agg Vs,s')=(.agg Vs,fN)/\PS st fN Vs (oM xt xg xy xr):=by
  obtain⟨Q,hQ⟩:∃Q:Option (AV×St)->Prop,Q=λo=>∃Vs s',o=some (.agg Vs,s')/\∃fN,Go.Ai.tidy st (.agg Vs,s')=(.agg Vs,fN)/\PS st fN Vs (oM xt xg xy xr):=⟨_,rfl⟩
  have acY:Q (nu c 400 (.agg (jG zt zg zy zr xt xg xy xr)) st)->∃Vs s',nu c 400 (.agg (jG zt zg zy zr xt xg xy xr)) st=some (.agg Vs,s')/\∃fN,Go.Ai.tidy st (.agg Vs,s')=(.agg Vs,fN)/\PS st fN Vs (oM xt xg xy xr):=λh=>by rw[hQ]at h;exact h
  apply acY;clear acY;have e1':∀(k2:List AV->St->Option (AV×St)),gC c 400 k2 400 [.ptr p1 0,.ptr p2 0,.ptr p3 0,.int .i64 0,.int .i64 0] s3=k2 [.ptr p1 0,.ptr p2 0,.ptr p3 0,.int .i64 (j8 xt (min xt.length 3):Int)] sL:=λk2=>e1 400 k2 400 (by omega)
  have e2':∀(k4:List AV->St->Option (AV×St)),jS c 400 k4 400 [.ptr p1 0,.ptr p2 0,.ptr p3 0,.int .i64 0] sB=k4 [.ptr p1 0,.ptr p2 0,.ptr p3 0] sC1:=λk4=>e2 400 k4 400 (by omega)
  have ra1:∀(K:AV->Option (AV×St)),jx (.load none) [.ptr p1 (0+1)] sL.heap (λ_=>true) K=K (eJ .u16 zg xg):=λK=>by rw[kK,L1];rfl
  have ra2:∀(K:AV->Option (AV×St)),jx (.load none) [.ptr p1 (0+2)] sL.heap (λ_=>true) K=K (eJ .u8 zy xy):=λK=>by rw[kK,L1];rfl
  have rb0:∀(K:AV->Option (AV×St)),jx (.load none) [.ptr sR.next (0+0)] sX.heap (λ_=>true) K=K V2:=λK=>by rw[kK,X8];rfl
  have rb1:=λ(K:AV->Option (AV×St))=>B7 K (p:=sR.next) (o:=0+1) (h:=(bg sX p3 (.cells [V1,V2,.af,.af,.af] 0)).heap) (h2:=sX.heap) (v:=V3) (by rw[aJ (λe=>n8 e.symm),X8];rfl) (by rw[X8];rfl) R.ty.own.beq
  have pm:∀(K:AV->Option (AV×St)),fh .minB [.int .i64 (xg.length:Int),.int .i64 (j8 xt (min xt.length 3):Int)] K=K (.int .i64 (m:Int)):=λK=>by rw[cX K (λH n=>ajV H n _ _ _ _),hm];congr 2;generalize j8 xt (min xt.length 3)=a;omega
  have Qv:∀(K:AV->St->Option (AV×St)),aq c (.store 2) [.ptr sR.next 0,.agg [V2,V3]] (ah sR (.cells [.af,.af] 0)) K=K .undef sX:=λK=>by
    rw[hsX];exact cw c K sR 2 (.agg [V2,V3]) [.af,.af] rfl rfl (by
        have a2:V2.one=true:=yD v2;have a3:V3.one=true:=yD v3;show aQ [V2,V3]=true;simp only[aQ,a2,a3])
  rw[Vb,dm,show AV.cells (.agg (jG zt zg zy zr xt xg xy xr))=jG zt zg zy zr xt xg xy xr from rfl,dh,dh, <-Gx, <-hp3, <-Gs, <-ki,az,az,e1',
    aH,aH,aH,aH,bh,br,ra1,br,ra1,aoo,dz,pm,aon _ _ _ _ (by omega),br,ra2,hmx,cC,cR,bS,aqR,Qv,br,rb0,br,Av,br,rb1,br,EM, <-hsB]
  refine yE (P:=λj=>∀sC V4,LL st sB sC p3 1 V4 ((nX xt xg xy).map bV) (λA=>[V1,V2,V3,A,.af])->Q (j [.ptr p1 0,.ptr p2 0,.ptr p3 0] sC)) ?_ ?_
  . intro sC V4 hC;have GC:=hC.out.ai;have WC:=GC.wf;have nC:=hC.kx.next;have C1':=hC.kx.keep p1 _ d13 B1;have C2':=hC.kx.keep p2 _ d23 B2;have TC:=TB.kx hC.kx GC sT1;have GSC:=GSB.kx hC.kx GC sG2;have YC:=Mk.kx YB hC.kx GC s3V
    obtain⟨sD,V5,D1,e3⟩:=amd (c:=c) (x2:= .ptr p2 0) hc hr lr (zt:=zt) (zg:=zg) (zy:=zy) (zr:=zr) (xt:=xt) (xg:=xg) (xy:=xy) (V3:=V3) (V4:=V4) WC C1' d13 (by omega) (by omega) TC sT1 GSC sG2 (show(nY xt).length<=1000 by omega) (show(nZ xt xg).length<=1000 by omega) aom ahG (min xr.length 12) 0 sC .af (by omega)
        ⟨Mk.start hw GC,KX.refl WC,hC.h3,λb e=>(nomatch e)⟩
    have e3':∀(k6:List AV->St->Option (AV×St)),jU c 400 k6 400 [.ptr p1 0,.ptr p2 0,.ptr p3 0,.int .i64 0] sC=k6 [.ptr p2 0,.ptr p3 0] sD:=λk6=>e3 400 k6 400 (by omega)
    have GD:=D1.out.ai;have WD:=GD.wf;have D2':=D1.kx.keep p2 _ d23 C2';have s4V:∀b,aL V4=some b->p3.toNat+1<=b.toNat:=λb hb=>by have:=hC.since b hb;omega
    have s5V:∀b,aL V5=some b->p3.toNat+1<=b.toNat:=λb hb=>by have:=D1.since b hb;omega
    have TD:=TC.kx D1.kx GD sT1;have GSD:=GSC.kx D1.kx GD sG2;have YD:=Mk.kx YC D1.kx GD s3V;have CD:=Mk.kx hC.out D1.kx GD s4V;have lD:=WD _ _ D2';have ld5:∀(K:AV->St->Option (AV×St)),aq c (.load (some 5)) [.ptr p3 0] sD K=K (.agg [V1,V2,V3,V4,V5]) sD:=λK=>by rw[fj,D1.h3];rfl
    have one5:aQ [V1,V2,V3,V4,V5]=true:=by
        have a1:V1.one=true:=yD TD.out.cells.2;have a2:V2.one=true:=yD v2;have a3:V3.one=true:=yD v3;have a4:V4.one=true:=yD CD.cells.2;have a5:V5.one=true:=yD D1.out.cells.2;simp only[aQ,a1,a2,a3,a4,a5,Zk2]
    have sto5:∀(K:AV->St->Option (AV×St)),aq c (.store 5) [.ptr p2 0,.agg [V1,V2,V3,V4,V5]] sD K=K .undef (bg sD p2 (.cells [V1,V2,V3,V4,V5] 0)):=λK=>by rw[cg c K _ 5 p2 0 (.agg [V1,V2,V3,V4,V5]) _ D2' rfl (by simp) one5];rfl
    have kE:KX p2 sD (bg sD p2 (.cells [V1,V2,V3,V4,V5] 0)):=(KX.refl WD).store lD _;have GE:=qM hw GD (show st.next.toNat<=p2.toNat by omega) lD (.cells [V1,V2,V3,V4,V5] 0);obtain⟨fN,t1,t2⟩:=PS.auO (p:=oM xt xg xy xr) (TD.kx kE GE (sT1.le (by omega))) (GSD.kx kE GE (sG2.le (by omega))) (Mk.kx YD kE GE λb hb=>by have:=s3V b hb;omega) (Mk.kx CD kE GE λb hb=>by have:=s4V b hb;omega) (Mk.kx D1.out kE GE λb hb=>by have:=s5V b hb;omega);have hfin:Q (some (.agg [V1,V2,V3,V4,V5],bg sD p2 (.cells [V1,V2,V3,V4,V5] 0))):=(by rw[hQ];exact⟨_,_,rfl,fN,t1,t2⟩);rw[aH,aH,aH,bh,az,e3',aH,aH,bh,ld5,sto5,aaK,bG];exact hfin
  . intro j hj;rw[aO,ld2,SU,cO (by omega) (by omega),oo];by_cases h4:0<xy.length % 4
    .   rw[Za0 (show(0:Int)<(xy.length:Int) % 4 by omega),dG,az,e2',aH,aH,aH,bh];refine hj sC1 V41 ?_;have:nX xt xg xy=FW xg (nZ xt xg).length:=(by unfold nX;rw[Zb3 h4]);rw[this];exact C1
    .   rw[Za1 (show ¬(0:Int)<(xy.length:Int) % 4 by omega),di];refine hj sB .af ?_;have:nX xt xg xy=[]:=(by unfold nX;rw[Za7 h4]);rw[this];exact C0
 obtain⟨Vs,s',k1,fN,k2,k3⟩:=key;refine⟨Vs,fN,?_,k3⟩;rw[Qx hc 400 (r:=(.agg Vs,s')) k1,k2]
theorem Hl{P:Nat->Bool}:∀(m k i:Nat),k<=i->i<k+m->P i=true->0<=scan P m k
 |0,_,_,_,_,_=>by omega
 |m +   1,k,i,h1,h2,hp=>by
  unfold scan;split
  . omega
  . rename_i hk;exact Hl m (k+1) i (by
        rcases Zi8 k i with h|h
        . omega
        . obtain rfl:i=k:=(by omega);exact absurd hp hk) (by omega) hp
theorem aiJ{ts:List aD}(h1:∀t∈ts,rZ t=0)(h2:∀(i j:Nat)(a b:aD),i<j->ts[i]? =some a->ts[j]? =some b->a.name≠b.name):∀m k,(iE ts m k).2=0
 |0,_=>rfl
 |m+    1,k=>by
  unfold iE;cases e:ts[k]? with
  |none=>rfl
  |some t=>
   have ht:rZ t=0:=h1 t (Zb9 e);simp only;rw[Za7 (by simp[ht]),Za7]
   .    exact aiJ h1 h2 m (k+1)
   .    intro hs;obtain⟨_,aS,hp⟩:=Bv k 0 hs;generalize (scan (uI ts t.name) k 0).toNat=i at*
        unfold uI at hp;obtain⟨a,ha,hb⟩:=Zf3.1 (Zh1 hp);exact h2 i k a t (by omega) ha e hb
theorem aiK{gs:List aT}(h1:∀g∈gs,jP g=0)(h2:∀(i j:Nat)(a b:aT),i<j->gs[i]? =some a->gs[j]? =some b->a.name≠b.name)(hl:gs.length<=64):∀m k,(oN gs m k).2=0
 |0,_=>rfl
 |m+    1,k=>by
  unfold oN;cases e:gs[k]? with
  |none=>rfl
  |some t=>
   have ht:jP t=0:=h1 t (Zb9 e);have hk:k<gs.length:=(Za2.1 e).1;simp only;rw[Za7 (by simp[ht]),Za7,Za7 (by omega)]
   .    exact aiK h1 h2 hl m (k+1)
   .    intro hs;obtain⟨_,aS,hp⟩:=Bv k 0 hs;generalize (scan (nW gs t.name) k 0).toNat=i at*
        unfold nW at hp;obtain⟨a,ha,hb⟩:=Zf3.1 (Zh1 hp);exact h2 i k a t (by omega) ha e hb
theorem aiL{gs:List aT}{ts:List Ty}(h:∀(k:Nat)(t:Ty),ts[k]? =some t->aga t (pI ts k)=false/\ry gs t=false/\vH t (pI ts k)=false/\k<256):∀m k,(jQ gs ts m k).2=0
 |0,_=>rfl
 |m+1,k=>by
  unfold jQ;cases e:ts[k]? with
  |none=>rfl
  |some t=>
   obtain⟨a,b,d,f⟩:=h k t e;simp only;rw[Za7 (by simp[a]),Za7 (by simp[b]),Za7 (by simp[d]),Za7 (by omega)];exact aiL h m (k+1)
theorem aee{l:List Nat}{n:Nat}(h:∀x∈l,x<n)(h0:0<n)(i:Nat):l.getD i 0<n:=by
 rw[Zb1];cases e:l[i]? with
 |none=>simpa using h0
 |some x=>simpa using h x (Zb9 e)
theorem tG{α:Type}{f:Nat->α}{k i:Nat}{t:α}(h:((List.range k).map f)[i]? =some t):i<k/\t=f i:=by
 have hi:i<k:=by simpa using(Za2.1 h).1
 rw[Zb7,Zh6 hi,Ze5,H5]at h;exact⟨hi,h.symm⟩
theorem at2:∀i<3,∀x<256,rZ (ke i x)=0:=by decide+kernel
theorem aop:∀x<256,bI (ke 0 x)=((tN x:Nat):Int):=by decide+kernel
theorem aoq{xt:List Nat}(hx:∀x∈xt,x<256):(bP (nY xt)).2=0:=by
 unfold bP;rw[Za7 (by unfold nY;rw[Sr];omega)];refine aiJ (λt ht=> ?_) (λi j a b V8 ha hb e=> ?_) _ _
 . obtain⟨i,hi⟩:=Ze9.1 ht;obtain⟨h1,rfl⟩:=tG hi;exact at2 i (by omega) _ (aee hx (by omega) i)
 . obtain⟨h1,rfl⟩:=tG ha;obtain⟨h2,rfl⟩:=tG hb;have e:fE i=fE j:=e;unfold fE at e;simp only[Zg2,Zp1,Zs0]at e;omega
theorem amf(p:Prop)[Decidable p](i:Nat):zJ (if p then bN i else [])=true:=by
 split
 . unfold zJ;rw[aec];simp
 . rfl
theorem at3:∀a b d e:Bool,(Qc none (((if a=true then [0]else [])++(if b=true then [1]else [])++(if d=true then [2]else [])++(if e=true then [3]else [])).map bN)=true/\(((if a=true then [0]else [])++(if b=true then [1]else [])++(if d=true then [2]else [])++(if e=true then [3]else [])).map bN:List (List Nat)).length<=4):=by decide+kernel
theorem aro(x:Nat):Qc none (E0 x 4)=true/\(E0 x 4).length<=4:=by
 have e:E0 x 4=(((if LM x 0=true then [0]else [])++(if LM x 1=true then [1]else [])++(if LM x 2=true then [2]else [])++(if LM x 3=true then [3]else [])).map bN):=by
  unfold E0;rw[show List.range 4=[0,1,2,3]from rfl];cases h0:LM x 0<;>cases h1:LM x 1<;>cases h2:LM x 2<;>cases h3:LM x 3<;>simp[h0,h1,h2,h3]
 rw[e];exact at3 _ _ _ _
theorem at4(i x:Nat):jP (yK i x)=0:=by
 have t:=aro x;have n:oF (yK i x).name=true:=aec _;have a:zJ (yK i x).zX=true:=amf (x % 2=1) _;have b:zJ (yK i x).kq=true:=amf (4<x % 8) _;have d:zJ (yK i x).nH=true:=amf (x % 3=2) _;unfold jP;rw[Za7 (by rw[n,a,b,d];simp),Za7 (by show ¬ ¬(0<=((x % 4*500:Nat):Int)/\((x % 4*500:Nat):Int)<=9999);omega),
  Za7 (by show ¬ ¬(0<=((x % 3:Nat):Int)/\((x % 3:Nat):Int)<=2);omega),Za7 (by show ¬4<(E0 x 4).length;omega),Za7 (by show ¬Qc none (E0 x 4)=false;rw[t.1];simp)]
theorem SV{a b:Nat}(ha:a<676)(hb:b<676)(h:bN a=bN b):a=b:=by unfold bN at h;simp only[Zg2,Zp1]at h;omega
theorem Ho{a b:Nat}(ha:a<676)(hb:b<676):aN (bN a) (bN b)=decide (a<b):=by
 unfold bN;simp only[aN,Kh,dc];by_cases h1:97+a / 26 % 26<97+b / 26 % 26
 . rw[Za0 h1,Za0 (show a<b by omega)]
 . rw[  Za1 h1];by_cases h2:97+a / 26 % 26=97+b / 26 % 26
   . rw[Za0 h2];by_cases h3:97+a % 26<97+b % 26
     .  rw[Za0 h3,Za0 (show a<b by omega)]
     .  rw[Za1 h3,Za1 (show ¬a<b by omega)];simp only;split<;>rfl
   . rw[Za1 h2,Za1 (show ¬a<b by omega)]
theorem Qy{i:Nat}(h:i<12):FV i=25*i:=by
 have:∀i<12,FV i=25*i:=by decide+kernel
 exact this i h
theorem as9(xs:List Nat):(oN (gh xs) 101 0).2=0:=by
 refine aiK (λg hg=> ?_) (λi j a b V8 ha hb e=> ?_) (by have:=GV xs;omega) _ _
 . obtain⟨i,hi⟩:=Ze9.1 hg;obtain⟨h1,rfl⟩:=tG hi;exact at4 _ _
 . obtain⟨h1,rfl⟩:=tG ha;obtain⟨h2,rfl⟩:=tG hb;have e:bN (FV i)=bN (FV j):=e;rw[Qy (by omega),Qy (by omega)]at e;have:=SV (by omega) (by omega) e;omega
theorem Ci{xs:List Nat}{a:Nat}(ha:a<676)(h:bN a∈mW (gh xs)):∃i,i<12/\a=25*i/\∃j,j<(gh xs).length/\nW (gh xs) (bN a) j=true:=by
 unfold mW at h;obtain⟨g,hg,e⟩:=Zd0.1 h;obtain⟨i,hi⟩:=Ze9.1 hg;have hl:=(Za2.1 hi).1;obtain⟨h1,rfl⟩:=tG hi;have e:bN (FV i)=bN a:=e;have e2:=e;rw[Qy (by omega)]at e;have:=SV (by omega) ha e;refine⟨i,by omega,this.symm,i,hl,?_⟩;unfold nW;rw[hi];exact Za0 (congrArg some e2)
def It(p:Nat×Nat×Int):Ty:=⟨bN p.1,bN p.2.1,p.2.2⟩
def LO(p:Nat×Nat×Int):Nat:=p.1*312+p.2.1
def Z3(names:List (List Nat))(ys:List Ty)(q:Nat):Prop:=
 ∃ps:List (Nat×Nat×Int),ys=ps.map It/\(∀p∈ps,p.1<p.2.1/\p.2.1<312/\bN p.1∈names/\bN p.2.1∈names/\(p.2.2=1\/p.2.2=2)/\LO p<q)/\ps.Pairwise λa b=>LO a<LO b
theorem Z3.up{names:List (List Nat)}{ys:List Ty}{q q':Nat}(h:Z3 names ys q)(hq:q<=q'):Z3 names ys q':=by
 obtain⟨ps,e,h1,h2⟩:=h;exact⟨ps,e,λp hp=>by obtain⟨a,b,d,f,g,i⟩:=h1 p hp;exact⟨a,b,d,f,g,by omega⟩,h2⟩
theorem Z3.next{names:List (List Nat)}{bJ:List Nat}{ys:List Ty}{i k n:Nat}(h:Z3 names ys (i*312+k))(hk:k<312)(EJ:i<k)(hi:bN i∈names)(ug:bN k∈names):Z3 names (FX bJ i k n ys) (i*312+(k+1)):=by
 unfold FX;split
 . rename_i hc;obtain⟨ps,e,h1,h2⟩:=h;unfold aiH at hc;simp only[Zb5,Ze4]at hc;refine⟨ps++[(i,k,1+((bJ.getD n 0 % 4:Nat):Int))],by rw[Zd3,e];rfl,λp hp=> ?_,?_⟩
   . rcases Zd8.1 hp with hp|hp
     .  obtain⟨a,b,d,f,g,j⟩:=h1 p hp;exact⟨a,b,d,f,g,by omega⟩
     .  simp only[Zb0,Zc5,Zf2]at hp;subst hp;exact⟨EJ,hk,hi,ug,by show 1+((bJ.getD n 0 % 4:Nat):Int)=1\/1+((bJ.getD n 0 % 4:Nat):Int)=2;omega,by show i*312+k<_;omega⟩
   . rw[List.pairwise_append];refine⟨h2,List.pairwise_singleton _ _,λa ha b hb=> ?_⟩;simp only[Zb0,Zc5,Zf2]at hb;subst hb;exact(h1 a ha).2.2.2.2.2
 . exact h.up (by omega)
theorem abm{names:List (List Nat)}{bJ:List Nat}{i:Nat}:∀(m k n:Nat)(ys:List Ty),k+m<=312->i<k->Z3 names ys (i*312+k)->Z3 names (mX names bJ i m k n ys).2 (i*312+312)
 |0,k,n,ys,h1,_,h=>by unfold mX;exact h.up (by omega)
 |m +   1,k,n,ys,h1,h2,h=>by
  unfold mX;split
  . rename_i hi;split
    .   rename_i hk;exact abm m (k+1) (n+1) _ (by omega) (by omega) (h.next (by omega) h2 hi hk)
    .   exact abm m (k+1) n ys (by omega) (by omega) (h.up (by omega))
  . exact h.up (by omega)
theorem afe{names:List (List Nat)}{bJ:List Nat}:∀(m i n:Nat)(ys:List Ty),i+m=312->Z3 names ys (i*312)->∃q,Z3 names (Xq names bJ m i n ys) q
 |0,i,n,ys,_,h=>⟨_,h⟩
 |m+1,i,n,ys,h1,h=>by
  unfold Xq;exact afe m (i+1) _ _ (by omega) ((abm m (i+1) n ys (by omega) (by omega) (h.up (by omega))).up (by omega))
def rkN(i j:Nat):Nat:=i*(23 - i) / 2+(j - i - 1)
theorem at5:((List.range 12).all λi=>(List.range 12).all λj=>(List.range 12).all λa=>(List.range 12).all λb=> !(decide (i<j)&&decide (a<b)&&(decide (i<a)||(decide (i=a)&&decide (j<b))))||decide (rkN i j<rkN a b))=true:=by decide+kernel
theorem auP(i:Nat)(hi:i<12)(j:Nat)(hj:j<12)(a:Nat)(ha:a<12)(b:Nat)(hb:b<12)(h1:i<j)(h2:a<b)(h3:i<a\/i=a/\j<b):rkN i j<rkN a b:=by
 have h:=Zg9.1 (Zg9.1 (Zg9.1 (Zg9.1 at5 i (Zh3.2 hi)) j (Zh3.2 hj)) a (Zh3.2 ha)) b (Zh3.2 hb);have d3:(decide (i<a)||(decide (i=a)&&decide (j<b)))=true:=by
  rcases h3 with h3|⟨h3,h4⟩
  . rw[Za0 h3];rfl
  . rw[Za0 h3,Za0 h4];simp
 rw[Za0 h1,Za0 h2,d3]at h;simpa using h
theorem auQ:∀i<12,∀j<12,i<j->rkN i j<66:=by decide+kernel
theorem aor{N:Nat}:∀{l:List Nat}{k:Nat},l.Pairwise (· < ·)->(∀x∈l,k<=x/\x<N)->l.length<=N - k
 |[],_,_,_=>by simp
 |x::l,k,h,hk=>by
  obtain⟨h1,h2⟩:=List.pairwise_cons.1 h;have hx:=hk x (by simp);have:=aor (k:=x+1) h2 λy hy=>⟨h1 y hy,(hk y (Za9 _ hy)).2⟩
  simp only[Zc6];omega
theorem aeU(xs bJ:List Nat):(Dg xs bJ).length<=66/\(jQ (gh xs) (Dg xs bJ) 101 0).2=0:=by
 obtain⟨q,ps,e,h1,h2⟩:=afe (names:=mW (gh xs)) (bJ:=bJ) 312 0 0 [] rfl ⟨[],rfl,λp hp=>by simp at hp,List.Pairwise.nil⟩;have e:Dg xs bJ=ps.map It:=e;have hlen:ps.length<=66:=by
   have:=aor (N:=66) (k:=0) (l:=ps.map λp=>rkN (p.1 / 25) (p.2.1 / 25)) (by
     rw[List.pairwise_map];refine List.Pairwise.imp_of_mem (λ{a b} ha hb WM=> ?_) h2;obtain⟨a1,a2,a3,a4,_⟩:=h1 a ha;obtain⟨b1,b2,b3,b4,_⟩:=h1 b hb;obtain⟨i,hi,e1,_⟩:=Ci (by omega) a3;obtain⟨j,hj,e2,_⟩:=Ci (by omega) a4;obtain⟨i',hi',e3,_⟩:=Ci (by omega) b3;obtain⟨j',KQ,e4,_⟩:=Ci (by omega) b4;unfold LO at WM;exact auP _ (by omega) _ (by omega) _ (by omega) _ (by omega) (by omega) (by omega) (by omega)) (λx hx=>by
     obtain⟨p,hp,rfl⟩:=Zd0.1 hx;obtain⟨a1,a2,a3,a4,_⟩:=h1 p hp;obtain⟨i,hi,e1,_⟩:=Ci (by omega) a3;obtain⟨j,hj,e2,_⟩:=Ci (by omega) a4;exact⟨Zi0 _,auQ _ (by omega) _ (by omega) (by omega)⟩)
   simpa using this
 refine⟨by rw[e,Za4];exact hlen,aiL (λk t ht=> ?_) 101 0⟩;rw[e,Zb7]at ht;obtain⟨p,hp,rfl⟩:=Zf3.1 ht;have hk:k<ps.length:=(Za2.1 hp).1;obtain⟨a1,a2,a3,a4,a5,_⟩:=h1 p (Zb9 hp);have kn:ZU (It p)=true:=by unfold ZU It;rcases a5 with h|h<;>simp[h]
 have ls:aN (It p).a (It p).b=true:=(Ho (by omega) (by omega)).trans (Za0 a1);have prev:∀u,pI (Dg xs bJ) k=some u->gu (It p) u=false/\gu u (It p)=true:=λu hu=>by
   unfold pI at hu;by_cases h0:k=0
   . rw[Zb3 h0]at hu;cases hu
   rw[Za7 h0,e,Zb7]at hu;obtain⟨r,hr,rfl⟩:=Zf3.1 hu;obtain⟨b1,b2,b3,b4,b5,_⟩:=h1 r (Zb9 hr);have lt:LO r<LO p:=by
     have hr1:=(Za2.1 hr)
     have ki:=(Za2.1 hp)
     obtain⟨w1,Xk⟩:=hr1;obtain⟨w2,Gs⟩:=ki;rw[<-Xk, <-Gs];exact List.pairwise_iff_getElem.1 h2 (k - 1) k w1 w2 (by omega)
   unfold LO at lt;unfold gu It;simp only;rw[Ho (by omega) (by omega),Ho (by omega) (by omega),Ho (by omega) (by omega),Ho (by omega) (by omega)];by_cases hq:r.1=p.1
   . rw[hq,Za1 (show ¬p.1<p.1 by omega),Za1 (show ¬p.2.1<r.2.1 by omega),Za0 (show r.2.1<p.2.1 by omega)];simp
   . rw[Za1 (show ¬p.1<r.1 by omega),Za0 (show r.1<p.1 by omega),Za1 (show ¬bN p.1=bN r.1 from λh=>hq (SV (by omega) (by omega) h).symm)];simp
 have unk:ry (gh xs) (It p)=false:=by obtain⟨_,_,_,i,hi,g1⟩:=Ci (by omega) a3;obtain⟨_,_,_,j,hj,g2⟩:=Ci (by omega) a4;have s1:=Hl (gh xs).length 0 i (by omega) (by omega) g1;have s2:=Hl (gh xs).length 0 j (by omega) (by omega) g2;unfold ry;rw[Za1 (show ¬scan (nW (gh xs) (It p).a) (gh xs).length 0<0 from λh=>by have h:scan (nW (gh xs) (bN p.1)) (gh xs).length 0<0:=h;omega),Za1 (show ¬scan (nW (gh xs) (It p).b) (gh xs).length 0<0 from λh=>by have h:scan (nW (gh xs) (bN p.2.1)) (gh xs).length 0<0:=h;omega)];rfl
 refine⟨?_,unk,?_,by omega⟩
 . unfold aga;rw[kn,ls];cases hv:pI (Dg xs bJ) k with
   |none=>rfl
   |some u=>simp[(prev u hv).1]
 . unfold vH;cases hv:pI (Dg xs bJ) k with
   |none=>rfl
   |some u=>simp[(prev u hv).2]
theorem aot(xs bJ:List Nat):(dS (gh xs) (Dg xs bJ)).2=0:=by unfold dS;rw[Za7 (by rw[as9];simp)];exact(aeU xs bJ).2
theorem WT{xt:List Nat}(hx:∀x∈xt,x<256):∀k,k<=3->aZ (rX xt k)=((j8 xt k:Nat):Int)
 |0,_=>rfl
 |k+1,h=>by
  have ih:=WT hx k (by omega);have e:rX xt (k+1)=rX xt k++[ke k (xt.getD k 0)]:=by unfold rX;rw[Zf9,Zd3];rfl
  have z:bI (ke k (xt.getD k 0))=((tN (xt.getD k 0):Nat):Int):=aop _ (aee hx (by omega) k);rw[e];unfold aZ at ih ⊢;rw[Zd3,Zr7,ih];simp only[Zd5,Zi5,Zo8,List.sum_nil,z];have e2:j8 xt (k+1)=j8 xt k+tN (xt.getD k 0):=rfl;omega
theorem amg{xt xg xy:List Nat}(hx:∀x∈xt,x<256)(z1 z2 z3 z4 z5:Bool)(rs:List Rl):(jH ⟨z1,nY xt,z2,nZ xt xg,z3,aok xt xg xy,z4,nX xt xg xy,z5,rs⟩).2=0:=by
 unfold jH;rw[Za7 (by show ¬(bP (nY xt)).2≠0;rw[aoq hx];simp),Za7 (by show ¬(dS (gh (uC xt xg)) (Dg (uC xt xg) xy)).2≠0;rw[aot];simp)];rw[Za7 (by
  show ¬((nX xt xg xy).length≠0/\(nX xt xg xy).length≠(nZ xt xg).length);unfold nX;split
  . rw[Lt];simp
  . simp),Za7 (by
  show ¬zx (nX xt xg xy)=false;rw[   show zx (nX xt xg xy)=true from by
    unfold zx nX;rw[Zg9];intro y hy;split at hy
    .   unfold FW at hy;obtain⟨i,_,rfl⟩:=Zd0.1 hy;rw[Zb5];exact⟨Za0 (by omega),Za0 (by omega)⟩
    .   simp at hy]
  simp),Za7]
 show ¬aZ (nY xt)<((nZ xt xg).length:Int)
 unfold nY nZ gh;rw[Lu,WT hx _ (by omega)];unfold uC;rw[Zi4];omega
theorem aou{p:cm}{a:Nat}(ha:a<p.gs.length):¬gi p (oX p.gs a)<0:=by have:=Hl (P:=nW p.gs (oX p.gs a)) p.gs.length 0 a (by omega) (by omega) (by unfold nW oX;rw[H0 ha];simp);unfold gi;omega
theorem at7{p:cm}(hd:∀(i j:Nat)(a b:aD),i<j->p.ts[i]? =some a->p.ts[j]? =some b->a.name≠b.name){t:Nat}(ht:t<p.ts.length):ti p (yT p.ts t)=(t:Int):=by
 have h0:=Hl (P:=uI p.ts (yT p.ts t)) p.ts.length 0 t (by omega) (by omega) (by unfold uI yT;rw[H0 ht];simp);obtain⟨_,h1,h2⟩:=Bv p.ts.length 0 h0;unfold ti;generalize scan (uI p.ts (yT p.ts t)) p.ts.length 0=k at*
 unfold uI yT at h2;rw[H0 ht]at h2;obtain⟨u,hu,e⟩:=Zf3.1 (Zh1 h2);rcases Zq5 k.toNat t with h|h|h
 . exact absurd e (hd _ _ _ _ h hu (H0 ht))
 . omega
 . exact absurd e.symm (hd _ _ _ _ h (H0 ht) hu)
theorem anv{p:cm}(hg:∀g∈p.gs,g.nH=[]\/oF g.nH=true)(hgd:∀(i j:Nat)(a b:aT),i<j->p.gs[i]? =some a->p.gs[j]? =some b->a.name≠b.name)(htd:∀(i j:Nat)(a b:aD),i<j->p.ts[i]? =some a->p.ts[j]? =some b->a.name≠b.name)
   (sU:∀t∈p.ts,bI t=nO t.sh t.a t.b/\0<bI t) (x:Nat) (h:(ig p.ts p.gs x).2=true):uq p (ig p.ts p.gs x).1=0:=by
 unfold ig at h ⊢;by_cases h0:p.gs.length=0\/p.ts.length=0
 . rw[Zb3 h0]at h;cases h
 rw[Za7 h0]at h ⊢;have hw:(Xm (x / 18))<=7:=by unfold Xm;split<;>omega
 have ha:x / 18 / 5 % p.gs.length<p.gs.length:=Zk0 _ (by omega);have hb:x / 18 / 5 / p.gs.length % p.gs.length<p.gs.length:=Zk0 _ (by omega);have fI:x / 18 / 5 / 7 % p.ts.length<p.ts.length:=Zk0 _ (by omega);have hn:x / 18 / 5 / 11 % 4<4:=Zk0 _ (by omega);have k1:1<=1+x % 18:=by omega
 have k2:1+x % 18<=18:=by omega
 generalize 1+x % 18=k at*
 generalize Xm (x / 18)=w at*
 generalize x / 18 / 5=z at*
 generalize z % p.gs.length=a at*
 generalize z / p.gs.length % p.gs.length=b at*
 generalize z / 7 % p.ts.length=t at*
 generalize z / 11 % 4=n at*
 have g1:=aou ha;have g2:=aou hb;have g3:Hj p.gs a=[]\/oF (Hj p.gs a)=true:=by unfold Hj;rw[H0 ha];exact hg _ (Zb8 ha)
 have g4:=at7 htd fI;have g5:Cg p.ts t=zY p ((t:Nat):Int)/\0<Cg p.ts t:=by have:=sU _ (Zb8 fI);unfold Cg zY;rw[Zc7,H0 fI];simp only;omega
 have g6:0<=((z / 13:Nat):Int) % Cg p.ts t/\((z / 13:Nat):Int) % Cg p.ts t<=Cg p.ts t - 1:=⟨Zr8 _ (by omega),by have:=Zq3 ((z / 13:Nat):Int) g5.2;omega⟩
 have g7:a≠b->oX p.gs a≠oX p.gs b:=λWM e=>by
   unfold oX at e;rw[H0 ha,H0 hb]at e;rcases Nat.lt_or_gt_of_ne WM with h|h
   . exact hgd _ _ _ _ h (H0 ha) (H0 hb) e
   . exact hgd _ _ _ _ h (H0 hb) (H0 ha) e.symm
 clear hg ha hb fI h0 hgd htd sU;obtain⟨g5,_⟩:=g5;rw[g5]at g6;rcases Ca k1 k2 with rfl|rfl|rfl|rfl|rfl|rfl|rfl|rfl|rfl|rfl|rfl|rfl|rfl|rfl|rfl|rfl|rfl|rfl
 all_goals
   unfold Sv at h ⊢;unfold uq Se Lp adK Yw Bu;simp[kd]at h ⊢
   first
   |done
   |omega
   |(simp[*];done)
   |(simp[*];omega)
   |grind
theorem aa9{ts:List aD}{gs:List aT}{xr:List Nat}:∀{k:Nat}{r:Rl},r∈Bw ts gs xr k->∃x,(ig ts gs x).2=true/\r=(ig ts gs x).1
 |0,_,h=>by cases h
 |k +   1,r,h=>by
  unfold Bw at h;rcases Zd8.1 h with h|h
  . exact aa9 h
  . split at h
    .   rename_i e;simp only[Zb0,Zc5,Zf2]at h;exact⟨_,e,h⟩
    .   cases h
theorem aff{p:cm}(h:∀r∈p.rs,uq p r=0)(hl:p.rs.length<=64):∀m i,(n7 p m i).2=0
 |0,_=>rfl
 |m+1,i=>by
  unfold n7;cases e:p.rs[i]? with
  |none=>rfl
  |some r=>
   have:=(Za2.1 e).1;simp only;rw[Za7 (by rw[h r (Zb9 e)];simp),Za7 (by omega)];exact aff h hl m (i+1)
theorem SX{xt:List Nat}{i:Nat}{t:aD}(h:(nY xt)[i]? =some t):i<3/\t=ke i (xt.getD i 0):=by
 obtain⟨h1,h2⟩:=tG h;exact⟨by omega,h2⟩
theorem Nn{xs:List Nat}{i:Nat}{g:aT}(h:(gh xs)[i]? =some g):i<12/\g=yK i (xs.getD i 0):=by
 obtain⟨h1,h2⟩:=tG h;exact⟨by omega,h2⟩
theorem WS{xt:List Nat}:∀(i j:Nat)(a b:aD),i<j->(nY xt)[i]? =some a->(nY xt)[j]? =some b->a.name≠b.name:=λi j a b V8 ha hb e=>by obtain⟨h1,rfl⟩:=SX ha;obtain⟨h2,rfl⟩:=SX hb;have e:fE i=fE j:=e;unfold fE at e;simp only[Zg2,Zp1,Zs0]at e;omega
theorem WQ{xs:List Nat}:∀(i j:Nat)(a b:aT),i<j->(gh xs)[i]? =some a->(gh xs)[j]? =some b->a.name≠b.name:=λi j a b V8 ha hb e=>by obtain⟨h1,rfl⟩:=Nn ha;obtain⟨h2,rfl⟩:=Nn hb;have e:bN (FV i)=bN (FV j):=e;rw[Qy (by omega),Qy (by omega)]at e;have:=SV (by omega) (by omega) e;omega
theorem aeV{xs:List Nat}:∀g∈gh xs,g.nH=[]\/oF g.nH=true:=λg hg=>by
 obtain⟨i,hi⟩:=Ze9.1 hg;obtain⟨_,rfl⟩:=Nn hi;show(if(xs.getD i 0) % 3=2 then bN ((xs.getD i 0) % 5)else [])=[]\/oF (if(xs.getD i 0) % 3=2 then bN ((xs.getD i 0) % 5)else [])=true;split
 . exact .inr (aec _)
 . exact .inl rfl
theorem Og{xt:List Nat}(hx:∀x∈xt,x<256):∀t∈nY xt,bI t=nO t.sh t.a t.b/\0<bI t:=λt ht=>by
 obtain⟨i,hi⟩:=Ze9.1 ht;obtain⟨h1,rfl⟩:=SX hi;have aS:=aee hx (by omega) i;have z:bI (ke i (xt.getD i 0))=((tN (xt.getD i 0):Nat):Int):=aop _ aS;have e:nO (ke i (xt.getD i 0)).sh (ke i (xt.getD i 0)).a (ke i (xt.getD i 0)).b=((tN (xt.getD i 0):Nat):Int):=YJ _;have h1:=aol (xt.getD i 0);exact⟨by rw[z,e],by rw[z];omega⟩
theorem alo{xt xg xy xr:List Nat}(hx:∀x∈xt,x<256):(j6 (oM xt xg xy xr)).2=0:=by
 unfold j6;have hb:(jH (oM xt xg xy xr)).2=0:=amg hx _ _ _ _ _ _;rw[Za7 (by rw[hb];simp)];refine aff (λr hr=> ?_) ?_ _ _
 . obtain⟨x,h1,rfl⟩:=aa9 hr;exact anv (p:=oM xt xg xy xr) aeV WQ WS (Og hx) x h1
 . have:=Ss (nY xt) (nZ xt xg) xr (min xr.length 12);show(Bw _ _ _ _).length<=64;omega
end
end Go.Proofs.YtgihekklfnjkiaaGreatDoor
