/- A valid problem out of numbers. -/
import Derived.Test.YtgihekklfnjkiaaGreatDoorBPlainC
set_option linter.all false
set_option maxRecDepth 100000
set_option maxHeartbeats 4000000
namespace Go.Proofs.YtgihekklfnjkiaaGreatDoor
section
open Go Go.Ai Go.Proofs
variable{c:aj}
def fy(i:Nat):List Nat:=[116,97+i % 26]
def bP(i:Nat):List Nat:=[97+i / 26 % 26,97+i % 26]
theorem ara(hc:bH c)(i:Nat)(hi:i<1000000)(st:St)(hw:Wf st):c 85 [.int .i64 (i:Int)] st=some (.str (fy i),st):=by
 have hg:=Grew.ah hw (.cells [.int .u8 116,.int .u8 (97+(i:Int) % 26)] 0);rw[Qr hc 1 (r:=(.str (fy i),ah st (.cells [.int .u8 116,.int .u8 (97+(i:Int) % 26)] 0))),aF (Plain.str _) hg.keeps];rw[U4];have w1:ax .i64 (97+(i:Int) % 26)=97+(i:Int) % 26:=wrap64 (by omega) (by omega);have w2:ax .u8 (97+(i:Int) % 26)=97+(i:Int) % 26:=F9 (by omega) (by omega);have r1:=λ(s:St)(K:AV->St->Option (AV×St))=>cV (c:=c) (k:= .i64) (a:=(i:Int)) (b:=26) (by omega) (by omega) s K
 have two:=λ(s:St)(K:AV->St->Option (AV×St))=>ag7 (c:=c) (x:=116) (y:=97+(i:Int) % 26) 116 (97+i % 26) rfl (by omega) (by omega) (by omega) s K
 simp[-au,r1,BZ,w1,w2,two,fy]
theorem zu(hc:bH c)(i:Nat)(hi:i<1000000)(st:St)(hw:Wf st):c 86 [.int .i64 (i:Int)] st=some (.str (bP i),st):=by
 have hg:=Grew.ah hw (.cells [.int .u8 (97+(i:Int) / 26 % 26),.int .u8 (97+(i:Int) % 26)] 0);rw[MC hc 1 (r:=(.str (bP i),ah st (.cells [.int .u8 (97+(i:Int) / 26 % 26),.int .u8 (97+(i:Int) % 26)] 0))),aF (Plain.str _) hg.keeps];rw[Qt];have w1:ax .i64 (97+(i:Int) % 26)=97+(i:Int) % 26:=wrap64 (by omega) (by omega);have w2:ax .u8 (97+(i:Int) % 26)=97+(i:Int) % 26:=F9 (by omega) (by omega);have w3:ax .i64 (97+(i:Int) / 26 % 26)=97+(i:Int) / 26 % 26:=wrap64 (by omega) (by omega);have w4:ax .u8 (97+(i:Int) / 26 % 26)=97+(i:Int) / 26 % 26:=F9 (by omega) (by omega);have r1:=λ(s:St)(K:AV->St->Option (AV×St))=>cV (c:=c) (k:= .i64) (a:=(i:Int)) (b:=26) (by omega) (by omega) s K
 have r2:=λ(s:St)(K:AV->St->Option (AV×St))=>iw (c:=c) (a:=(i:Int)) (b:=26) (by omega) (by omega) (by omega) s K
 have r3:=λ(s:St)(K:AV->St->Option (AV×St))=>cV (c:=c) (k:= .i64) (a:=(i:Int) / 26) (b:=26) (by omega) (by omega) s K
 have two:=λ(s:St)(K:AV->St->Option (AV×St))=>ag7 (c:=c) (x:=97+(i:Int) / 26 % 26) (y:=97+(i:Int) % 26) (97+i / 26 % 26) (97+i % 26) (by omega) (by omega) (by omega) (by omega) s K
 simp[-au,r1,r2,r3,BZ,w1,w2,w3,w4,two,bP]
def nI(sh a b:Int):Int:=if sh=2 then 2*a+b else if sh=3 then a+2*b else a
theorem Lg(hc:bH c){l:List AV}{sh a b:Int}(h1:l[1]? =some (.int .u8 sh))(h2:l[2]? =some (.int .i64 a))(h3:l[3]? =some (.int .i64 b))(ha:0<=a/\a<=1000000)(hb:0<=b/\b<=1000000)(st:St)(hw:Wf st):
   c 46 [.agg l] st=some (.int .i64 (nI sh a b),st):=by
 have hg:=Grew.ah hw (.cells l 0);have p1:=aA st (.cells l 0);rw[Qu hc 1 (r:=(.int .i64 (nI sh a b),ah st (.cells l 0))),aF (Plain.int _ _) hg.keeps];rw[U5];have w1:ax .i64 (2*a)=2*a:=wrap64 (by omega) (by omega);have w2:ax .i64 (2*b)=2*b:=wrap64 (by omega) (by omega);have w3:ax .i64 (2*a+b)=2*a+b:=wrap64 (by omega) (by omega);have w4:ax .i64 (a+2*b)=a+2*b:=wrap64 (by omega) (by omega);unfold nI;by_cases e2:sh=2
 .subst e2;simp[p1,h1,h2,h3,w1,w3]
 . by_cases e3:sh=3
   .subst e3;simp[p1,h1,h2,h3,w2,w4]
   .have d2:decide (sh=2)=false:=Za2 e2;have d3:decide (sh=3)=false:=Za2 e3;simp[p1,h1,h2,h3,e2,e3,d2,d3]
def ad6(i:Nat):List AV:=[.int .i64 (i:Int)]
def uL:List AV:=[.str [],.int .u8 0,.int .i64 0,.int .i64 0,.af,.int .i64 0,.int .i64 0]
def gR(nm:List Nat)(sh a b:Int)(x:Nat)(v:AV):List AV:=[.str nm,.int .u8 sh,.int .i64 a,.int .i64 b,v,.int .i64 (x:Int),.int .i64 (255 - (x:Int))]
def abg(x i:Nat):Bool:=decide (x / 2 ^ i % 2=1)&&decide (0<x % 3)
theorem atu(x i:Nat):abg x i=(decide (x / 2 ^ i % 2=1)&&decide (0<x % 3)):=by rw[abg]
def Da(x k:Nat):List Nat:=(List.range k).filter (abg x)
theorem aeY(x k:Nat):Da x (k+1)=Da x k++(if abg x k=true then [k]else []):=by
 unfold Da;rw[Zg2,Zk4];congr 1;cases h:abg x k with
 |true=>simp[h]
 |false=>simp[h]
theorem aht(x k:Nat):(Da x k).length<=k:=by have:=Zk1 (abg x) (List.range k);rw[Zr0]at this;exact this
structure TI(st s:St)(p4 p5:Pos)(nm:List Nat)(sh a b:Int)(x k:Nat)(v:AV):Prop where
 out:Mk 1 st s v ((Da x k).map ad6)
 h4:s.heap.get p4=some (.cells uL 0)
 h5:s.heap.get p5=some (.cells (gR nm sh a b x v) 0)
 n4:aK v≠some p4
 n5:aK v≠some p5
theorem amb(hc:bH c){nm:List Nat}{sh a b:Int}{x n:Nat}(ha:0<=a/\a<=1000000)(hb:0<=b/\b<=1000000)(hx:x<1000000)(hn:nI sh a b=(n:Int))(hn64:n<=64){st:St}{p4 p5:Pos}(h4:st.next.toNat<=p4.toNat)(h5:st.next.toNat<=p5.toNat)(Qv:p4≠p5)
  (F:Nat) (k3):∀(m k:Nat)(s:St)(v:AV),TI st s p4 p5 nm sh a b x k v->n<=k+m->k<=n->
  ∃s' v',TI st s' p4 p5 nm sh a b x n v'/\jq c F k3 (m+1) [.int .i64 (x:Int),.ptr p4 0,.ptr p5 0,.int .i64 (k:Int)] s=k3 [.ptr p4 0,.ptr p5 0] s':=by
 intro m;induction m with
 |zero=>
  intro k s v hT h1 h2;obtain rfl:k=n:=by omega
  refine⟨s,v,hT,?_⟩;have S:=Lg hc (l:=gR nm sh a b x v) rfl rfl rfl ha hb s hT.out.ai.wf;have cu:cut (gR nm sh a b x v) 0 7=some (gR nm sh a b x v):=cQ rfl;rw[hn]at S;rw[nJ];simp[hT.h5,cu,S]
 |succ m ih=>
  intro k s v hT h1 h2;have hw:=hT.out.ai.wf;have S:=Lg hc (l:=gR nm sh a b x v) rfl rfl rfl ha hb s hw;have cu:cut (gR nm sh a b x v) 0 7=some (gR nm sh a b x v):=cQ rfl;rw[hn]at S;clear hn;by_cases h:k<n
  . have hx0:(0:Int)<=(x:Int):=Int.natCast_nonneg x;have w:ax .i64 ((k:Int)+1)=((k+1:Nat):Int):=wrap64 (by omega) (by omega);have sr:=λ(s:St)(K:AV->St->Option (AV×St))=>ag6 (c:=c) (a:=(x:Int)) (i:=k) (Zb3 h2 hn64) s K
    have p0:(0:Int)<=(x:Int) / 2 ^ k:=Zs0 hx0 (Int.le_of_lt (Int.pow_pos (by omega)));have r1:=λ(s:St)(K:AV->St->Option (AV×St))=>cV (c:=c) (k:= .i64) (a:=(x:Int) / 2 ^ k) (b:=2) p0 (by decide) s K
    have r2:=λ(s:St)(K:AV->St->Option (AV×St))=>cV (c:=c) (k:= .i64) (a:=(x:Int)) (b:=3) hx0 (by decide) s K
    have d1:decide ((x:Int) / 2 ^ k % 2=1)=decide (x / 2 ^ k % 2=1):=(by have:((x:Int) / 2 ^ k % 2=1)↔(x / 2 ^ k % 2=1):=(by rw[show((x:Int) / 2 ^ k % 2)=((x / 2 ^ k % 2:Nat):Int)by simp];omega);exact decide_eq_decide.2 this);have d2:decide (0<(x:Int) % 3)=decide (0<x % 3):=decide_eq_decide.2 (by omega);have c4:(gR nm sh a b x v)[4]? =some v:=rfl;have hl:decide ((k:Int)<(n:Int))=true:=Za0 (Int.ofNat_lt.2 h);have fin:=atu x k;cases hq:abg x k with
    |   true=>
        have hrl:((Da x k).map ad6).length<=64:=(by rw[Za5];have:=aht x k;omega);obtain⟨s5,v5,a1,a2,a3,a4⟩:=hT.out.push (c:=c) (R:=AV×St) (bytes:=8) (z:=[.int .i64 0]) (x:= .int .i64 (k:Int)) rfl rfl rfl (by decide) (by omega) (by omega);have e:(Da x (k+1)).map ad6=(Da x k).map ad6++[(.int .i64 (k:Int):AV).cells]:=(by rw[aeY,Zb4 hq,Zc8];rfl);rw[<-e]at a2;have y4:=a3 p4 _ hT.n4 hT.h4;have y5:=a3 p5 _ hT.n5 hT.h5;have l4:=hw p4 _ hT.h4;have l5:=hw p5 _ hT.h5;have b4:aK v5≠some p4:=λe=>by have:=a4 _ e;omega
        have b5:aK v5≠some p5:=λe=>by have:=a4 _ e;omega
        have hw5:=a2.ai.wf;have l5':=hw5 p5 _ y5;have M:=a2.store (p:=p5) (b:= .cells (gR nm sh a b x v5) 0) h5 l5' b5;obtain⟨vc,v1⟩:=a2.cells;have bD:∀(K:AV->St->Option (AV×St)),aq c (.store 1) [.ptr p5 4,v5] s5 K=K .undef (bg s5 p5 (.cells (gR nm sh a b x v5) 0)):=λK=>by rw[bY c K s5 1 p5 4 v5 (gR nm sh a b x v) y5 (by rw[vc];rfl) (by simp[gR]) (by rw[vc];exact v1),vc];rfl
        have T5:TI st (bg s5 p5 (.cells (gR nm sh a b x v5) 0)) p4 p5 nm sh a b x (k+1) v5:=⟨M,by rw[aH (λe=>Qv e.symm)];exact y4,bG _ _ _,b4,b5⟩
        obtain⟨s',v',b1,b2⟩:=ih (k+1) _ v5 T5 (by omega) (by omega);refine⟨s',v',b1,?_⟩;rw[<-b2,nJ];rw[fin,Zb2]at hq;simp[-au,hT.h5,cu,S,h,dw,sr,r1,r2,d1,d2,hq.1,hq.2,c4,a1,bD,w]
    |   false=>
        have e:(Da x (k+1))=(Da x k):=(by rw[aeY,Za6 (by rw[hq];decide),Ze1]);obtain⟨s',v',b1,b2⟩:=ih (k+1) s v ⟨by rw[e];exact hT.out,hT.h4,hT.h5,hT.n4,hT.n5⟩ (by omega) (by omega);refine⟨s',v',b1,?_⟩;rw[<-b2,nJ];rw[fin]at hq;cases g1:decide (x / 2 ^ k % 2=1)with
        |false=>simp[-au,hT.h5,cu,S,h,dw,sr,r1,r2,d1,d2,g1,c4,w]
        |true=>
         rw[g1,Zg5]at hq;simp[-au,hT.h5,cu,S,h,dw,sr,r1,r2,d1,d2,g1,hq,c4,w]
  .obtain rfl:k=n:=(by omega);refine⟨s,v,hT,?_⟩;rw[nJ];simp[hT.h5,cu,S]
theorem mD(s:St)(cs:List AV)(o:Nat)(v:AV)(ho:o<cs.length)(h1:v.cells=[v])(h2:v.one=true)(K:AV->St->Option (AV×St)):aq c (.store 1) [.ptr s.next o,v] (ah s (.cells cs 0)) K=K .undef (ah s (.cells (cs.set o v) 0)):=by
 rw[bY c K (ah s (.cells cs 0)) 1 s.next o v cs (aA _ _) (by rw[h1];rfl) (by omega) (by rw[h1];simp[aN,h2]),h1,zj _ _ ho,Yi]
def oZ(x:Nat):Nat:=1+x % 4
def tA(x:Nat):Nat:=if x % 4=0 then 1+x / 4 % 6 else if x % 4=1 then 1+x / 4 % 3 else if x % 4=2 then 1+x / 4 % 2 else 1+x / 4 % 5
def tB(x:Nat):Nat:=if x % 4=0 then 0 else if x % 4=1 then x / 4 / 3 % 3 else if x % 4=2 then 1+x / 4 / 2 % 2 else min (1+x / 4 % 5) (x / 4 / 5 % 4)
def tN(x:Nat):Nat:=if x % 4=1 then 2*tA x+tB x else if x % 4=2 then tA x+2*tB x else tA x
theorem af1(x:Nat):tA x<=6:=by unfold tA;split<;>(try split)<;>(try split)<;>omega
theorem af2(x:Nat):tB x<=3:=by unfold tB;split<;>(try split)<;>(try split)<;>omega
theorem ach(x:Nat):tN x<=16:=by have:=af1 x;have:=af2 x;unfold tN;split<;>(try split)<;>omega
theorem YE(x:Nat):nI ((oZ x:Nat):Int) ((tA x:Nat):Int) ((tB x:Nat):Int)=((tN x:Nat):Int):=by
 unfold nI tN oZ;by_cases h1:x % 4=1
 .rw[Zb4 (by omega),Zb4 h1];omega
 . by_cases h2:x % 4=2
   .rw[Za6 (by omega),Zb4 (by omega),Za6 h1,Zb4 h2];omega
   .rw[Za6 (by omega),Za6 (by omega),Za6 h1,Za6 h2]
theorem arb(hc:bH c)(i x:Nat)(hi:i<1000000)(hx:x<256)(st:St)(hw:Wf st):∃v s',c 45 [.int .i64 (i:Int),.int .i64 (x:Int)] st=some (.agg (gR (fy i) (oZ x:Nat) (tA x:Nat) (tB x:Nat) x v),s')/\Mk 1 st s' v ((Da x (tN x)).map ad6):=by
 have cO:Wf (ah st (.cells uL 0)):=bF hw;have g1:=Grew.ah hw (.cells uL 0);have W:=ara hc i hi (ah st (.cells uL 0)) cO;have hA:=af1 x;have hB:=af2 x;have hN:=ach x;have g2:=Grew.ah cO (.cells (gR (fy i) (oZ x:Nat) (tA x:Nat) (tB x:Nat) x .af) 0);have x1:(ah (ah st (.cells uL 0)) (.cells (gR (fy i) (oZ x:Nat) (tA x:Nat) (tB x:Nat) x .af) 0)).heap.get st.next=some (.cells uL 0):=g2.get (aA _ _);have x2:(ah (ah st (.cells uL 0)) (.cells (gR (fy i) (oZ x:Nat) (tA x:Nat) (tB x:Nat) x .af) 0)).heap.get (ah st (.cells uL 0)).next=some (.cells (gR (fy i) (oZ x:Nat) (tA x:Nat) (tB x:Nat) x .af) 0):=aA _ _;have n12:st.next≠(ah st (.cells uL 0)).next:=by rw[bN];exact Pos.Yj _
 have T0:TI st (ah (ah st (.cells uL 0)) (.cells (gR (fy i) (oZ x:Nat) (tA x:Nat) (tB x:Nat) x .af) 0)) st.next (ah st (.cells uL 0)).next (fy i) (oZ x:Nat) (tA x:Nat) (tB x:Nat) x 0 .af:=
   ⟨Mk.start hw (g1.trans g2),x1,x2,λe=>(nomatch e),λe=>(nomatch e)⟩
 obtain⟨s',v,hT,L⟩:=amb hc (n:=tN x) (by omega) (by omega) (by omega) (YE x) (by omega) (p4:=st.next) (p5:=(ah st (.cells uL 0)).next) (Za3 _) (by rw[bN,Pos.aD];omega) n12 (tN x+1)
   (λvs s96=>gV vs λx4 vs=>gV vs λx5 vs=>mo vs (aq c (.load (some 7)) [x5] s96 λx86 s97=>aq c (.store 7) [x4,x86] s97 λ_ s98=>ldr (some 7) x4 s98 λv99=>some (v99,s98))) (tN x) 0 (ah (ah st (.cells uL 0)) (.cells (gR (fy i) (oZ x:Nat) (tA x:Nat) (tB x:Nat) x .af) 0)) .af T0 (by omega) (by omega)
 have M:=hT.out;obtain⟨vc,v1⟩:=M.cells;have one:aN (gR (fy i) (oZ x:Nat) (tA x:Nat) (tB x:Nat) x v)=true:=by
   simp only[aN]at v1;unfold gR;simp only[aN,AV.one,v1,Zk6,Zj5]at*
 have hcut:cut (gR (fy i) (oZ x:Nat) (tA x:Nat) (tB x:Nat) x v) 0 7=some (gR (fy i) (oZ x:Nat) (tA x:Nat) (tB x:Nat) x v):=cQ rfl;have An:∀(K:AV->St->Option (AV×St)),aq c (.store 7) [.ptr st.next 0,.agg (gR (fy i) (oZ x:Nat) (tA x:Nat) (tB x:Nat) x v)] s' K=K .undef (bg s' st.next (.cells (gR (fy i) (oZ x:Nat) (tA x:Nat) (tB x:Nat) x v) 0)):=λK=>by rw[bY c K s' 7 st.next 0 (.agg (gR (fy i) (oZ x:Nat) (tA x:Nat) (tB x:Nat) x v)) _ hT.h4 rfl (by simp[uL]) one];rfl
 have M2:=M.store (p:=st.next) (b:= .cells (gR (fy i) (oZ x:Nat) (tA x:Nat) (tB x:Nat) x v) 0) (Za3 _) (M.ai.wf _ _ hT.h4) hT.n4;have mem:v∈gR (fy i) (oZ x:Nat) (tA x:Nat) (tB x:Nat) x v:=by simp[gR]
 have low:∀y∈fy i,y<256:=by intro y hy;simp[fy]at hy;omega
 obtain⟨fI,t1,_,t3⟩:=M2.RN mem (λu hu=>by simp only[gR,Za9,Zc3,Zf0]at hu;rcases hu with rfl|rfl|rfl|rfl|rfl|rfl|rfl<;>first|exact dP.str low|exact dP.int _ _|exact M.inst);refine⟨v,fI,?_,t3⟩;rw[Oe hc (tN x+1) (r:=(.agg (gR (fy i) (oZ x:Nat) (tA x:Nat) (tB x:Nat) x v),bg s' st.next (.cells (gR (fy i) (oZ x:Nat) (tA x:Nat) (tB x:Nat) x v) 0))),t1];have L2:jq c (tN x+1) (λvs s96=>gV vs λx4 vs=>gV vs λx5 vs=>mo vs (aq c (.load (some 7)) [x5] s96 λx86 s97=>aq c (.store 7) [x4,x86] s97 λ_ s98=>ldr (some 7) x4 s98 λv99=>some (v99,s98))) (tN x+1) [.int .i64 (x:Int),.ptr st.next 0,.ptr (ah st (.cells uL 0)).next 0,.int .i64 0] (ah (ah st (.cells uL 0)) (.cells (gR (fy i) (oZ x:Nat) (tA x:Nat) (tB x:Nat) x .af) 0))=some (.agg (gR (fy i) (oZ x:Nat) (tA x:Nat) (tB x:Nat) x v),bg s' st.next (.cells (gR (fy i) (oZ x:Nat) (tA x:Nat) (tB x:Nat) x v) 0)):=by
   rw[show(0:Int)=((0:Nat):Int)from rfl,L];simp[hT.h5,hcut,An]
 generalize hF:tN x+1=F at L2 ⊢;clear hF L hT M2 An T0 x1 x2 g2;have q1:=λ(s:St)(K:AV->St->Option (AV×St))=>cV (c:=c) (k:= .i64) (a:=(x:Int)) (b:=4) (by omega) (by omega) s K
 have q2:=λ(s:St)(K:AV->St->Option (AV×St))=>iw (c:=c) (a:=(x:Int)) (b:=4) (by omega) (by omega) (by omega) s K
 have q3:=λ(n:Int)(hn:0<n)(s:St)(K:AV->St->Option (AV×St))=>cV (c:=c) (k:= .i64) (a:=(x:Int) / 4) (b:=n) (by omega) hn s K
 have w1:ax .i64 (1+(x:Int) % 4)=1+(x:Int) % 4:=wrap64 (by omega) (by omega);have w2:ax .u8 (1+(x:Int) % 4)=1+(x:Int) % 4:=F9 (by omega) (by omega);have w3:ax .i64 (255 - (x:Int))=255 - (x:Int):=wrap64 (by omega) (by omega);have al:∀(s:St)(K:AV->St->Option (AV×St)),aq c (.alloc [.str [],.int .u8 0,.int .i64 0,.int .i64 0,.af,.int .i64 0,.int .i64 0]) [] s K=K (.ptr s.next 0) (ah s (.cells uL 0)):=λs K=>rfl
 have bld:∀(nm:List Nat)(sh u y:Int)(s:St)(K:AV->St->Option (AV×St)),aq c (.build [.str [],.int .u8 0,.int .i64 0,.int .i64 0,.af,.int .i64 0,.int .i64 0] [(0,1),(1,1),(5,1),(6,1)]) [.str nm,.int .u8 sh,.int .i64 u,.int .i64 y] s K=K (.agg [.str nm,.int .u8 sh,.int .i64 0,.int .i64 0,.af,.int .i64 u,.int .i64 y]) s:=λnm sh u y s K=>rfl
 have Qw:∀(nm:List Nat)(sh u y:Int)(s:St)(K:AV->St->Option (AV×St)),aq c (.store 7) [.ptr s.next 0,.agg [.str nm,.int .u8 sh,.int .i64 0,.int .i64 0,.af,.int .i64 u,.int .i64 y]] (ah s (.cells uL 0)) K=K .undef (ah s (.cells [.str nm,.int .u8 sh,.int .i64 0,.int .i64 0,.af,.int .i64 u,.int .i64 y] 0)):=λnm sh u y s K=>cG c K s 7 (.agg [.str nm,.int .u8 sh,.int .i64 0,.int .i64 0,.af,.int .i64 u,.int .i64 y]) uL rfl rfl rfl
 have amc:∀(nm:List Nat)(sh p q u y z:Int)(s:St)(K:AV->St->Option (AV×St)),aq c (.store 1) [.ptr s.next 2,.int .i64 z] (ah s (.cells [.str nm,.int .u8 sh,.int .i64 p,.int .i64 q,.af,.int .i64 u,.int .i64 y] 0)) K=K .undef (ah s (.cells [.str nm,.int .u8 sh,.int .i64 z,.int .i64 q,.af,.int .i64 u,.int .i64 y] 0)):=λnm sh p q u y z s K=>mD s _ 2 (.int .i64 z) (by simp) rfl rfl K
 have amd:∀(nm:List Nat)(sh p q u y z:Int)(s:St)(K:AV->St->Option (AV×St)),aq c (.store 1) [.ptr s.next 3,.int .i64 z] (ah s (.cells [.str nm,.int .u8 sh,.int .i64 p,.int .i64 q,.af,.int .i64 u,.int .i64 y] 0)) K=K .undef (ah s (.cells [.str nm,.int .u8 sh,.int .i64 p,.int .i64 z,.af,.int .i64 u,.int .i64 y] 0)):=λnm sh p q u y z s K=>mD s _ 3 (.int .i64 z) (by simp) rfl rfl K
 rw[SL];simp only[al];generalize (ah st (.cells uL 0))=s1 at W cO L2 n12;have a1:ax .i64 1=1:=rfl;have h4:x % 4=0\/x % 4=1\/x % 4=2\/x % 4=3:=by omega
 rcases h4 with h|h|h|h
 .have e4:(x:Int) % 4=0:=(by omega);have eS:((oZ x:Nat):Int)=1:=(by unfold oZ;omega);have eA:((tA x:Nat):Int)=1+(x:Int) / 4 % 6:=(by unfold tA;rw[Zb4 h];omega);have eB:((tB x:Nat):Int)=0:=(by unfold tB;rw[Zb4 h];rfl);simp only[gR,eS,eA,eB]at L2 ⊢;simp (disch:=omega) [-au,-ig,-od,-gQ,bld,Qw,amc,amd,W,cV,iw,e4,BZ,wrap64,F9,dw,Za4,L2]
 .have e4:(x:Int) % 4=1:=(by omega);have eS:((oZ x:Nat):Int)=2:=(by unfold oZ;omega);have eA:((tA x:Nat):Int)=1+(x:Int) / 4 % 3:=(by unfold tA;rw[Za6 (by omega),Zb4 h];omega);have eB:((tB x:Nat):Int)=(x:Int) / 4 / 3 % 3:=(by unfold tB;rw[Za6 (by omega),Zb4 h];omega);simp only[gR,eS,eA,eB]at L2 ⊢;simp (disch:=omega) [-au,-ig,-od,-gQ,bld,Qw,amc,amd,W,cV,iw,e4,BZ,wrap64,F9,dw,Za4,L2]
 .have e4:(x:Int) % 4=2:=(by omega);have eS:((oZ x:Nat):Int)=3:=(by unfold oZ;omega);have eA:((tA x:Nat):Int)=1+(x:Int) / 4 % 2:=(by unfold tA;rw[Za6 (by omega),Za6 (by omega),Zb4 h];omega);have eB:((tB x:Nat):Int)=1+(x:Int) / 4 / 2 % 2:=(by unfold tB;rw[Za6 (by omega),Za6 (by omega),Zb4 h];omega);simp only[gR,eS,eA,eB]at L2 ⊢;simp (disch:=omega) [-au,-ig,-od,-gQ,bld,Qw,amc,amd,W,cV,iw,e4,BZ,wrap64,F9,dw,Za4,L2]
 . have e4:(x:Int) % 4=3:=(by omega);have eS:((oZ x:Nat):Int)=4:=(by unfold oZ;omega);have eA:((tA x:Nat):Int)=1+(x:Int) / 4 % 5:=(by unfold tA;rw[Za6 (by omega),Za6 (by omega),Za6 (by omega)];omega);obtain⟨mb,hmb⟩:∃mb:Int,mb=min (1+(x:Int) / 4 % 5) ((x:Int) / 4 / 5 % 4):=⟨_,rfl⟩
   have akK:∀(s:St)(K:AV->St->Option (AV×St)),aq c .minB [.int .i64 (1+(x:Int) / 4 % 5),.int .i64 ((x:Int) / 4 / 5 % 4)] s K=K (.int .i64 mb) s:=λs K=>by rw[hmb];exact ajS c K s _ _ _ _
   have eB:((tB x:Nat):Int)=mb:=(by rw[hmb];unfold tB;rw[Za6 (by omega),Za6 (by omega),Za6 (by omega)];omega);clear hmb;simp only[gR,eS,eA,eB]at L2 ⊢;simp (disch:=omega) [-au,-ig,-od,-gQ,-ajS,akK,bld,Qw,amc,amd,W,cV,iw,e4,BZ,wrap64,F9,dw,Za4,L2]
theorem Nr{R:Type}(K:AV->Option R){b:Pos}{off len es es':Nat}{cap:Option Nat}{k:IntKind}{i:Nat}(h:i<len):fq (.idxA es none) [.slice b off len cap es',.int k (i:Int)] K=K (.ptr b (off+i*es)):=
 cZ K (λH n=>by
  simp only[aE.run,rX,ju];have:Nat.blt i len=true:=by rw[Zr5];exact h
  rw[this])
theorem aiw{es:Nat}{s:St}{v:AV}{rows:List (List AV)}(h:QS es s v rows)(hr:∀r∈rows,r.length=es){i:Nat}(hi:i<rows.length):
   ∃b off cap cs,v= .slice b off rows.length cap es/\s.heap.get b=some (.cells cs 0)/\∀j u,rows[i][j]? =some u->cs[off+i*es+j]? =some u:=by
 rcases h with⟨rfl,rfl⟩|⟨b,off,cap,cs,rfl,g1,g2,g3,g4⟩|⟨b,off,rfl,rfl⟩
 .simp at hi
 rotate_left
 .simp at hi
 . (refine⟨b,off,cap,cs,rfl,g1,λj u hj=> ?_⟩;have hj2:j<es:=(by rw[<-hr _ (Zb8 hi)];exact(Za1.1 hj).1);have:=Go.Ai.yy hr i j rows[i] u (H0 hi) hj;rw[<-g3]at this;have aV:i*es+j<rows.length*es:=by have:(i+1)*es<=rows.length*es:=Zh3 _ hi;rw[Zh4]at this;omega);rw[Ze3,Zb4 aV,Ze5]at this;rw[<-this];congr 1;omega
theorem ame(hc:bH c){s:St}{V W:AV}{rows:List (List AV)}(h:QS 9 s V rows)(hr:∀r∈rows,r.length=9){names:List (List Nat)}(hlen:names.length=rows.length)(hn:∀(i:Nat)(h1:i<rows.length)(h2:i<names.length),rows[i][0]? =some (.str names[i]))(arY:rows.length<=1000)
  {q:Pos} (hq:s.heap.get q=some (.cells [V,W] 0)) (x:Nat) (hx:x<1000000) (hw:Wf s) (F:Nat) (k1 k2):∀(m k f:Nat),m<f->k+m=rows.length->bP x∉names.take k->
  lW c F k1 k2 f [.int .i64 (x:Int),.ptr q 0,.int .i64 (k:Int)] s=if bP x∈names then k1 [.bool true] s else k2 [] s:=by
 intro m;have N:=zu hc x hx s hw;have cu:∀j:Nat,(cellsOf (s.heap.get q)).bind (λcs=>cs[0]?)=some V:=λ_=>by rw[hq];rfl
 induction m with
 |zero=>
  intro k f hf h1 lF;obtain⟨f,rfl⟩:∃g,f=g+1:=⟨f - 1,by omega⟩
  obtain rfl:k=rows.length:=by omega
  rw[<-hlen,Zh7]at lF;rw[Za6 lF,rP];have lI:=λ(K:AV->St->Option (AV×St))=>h.lenB (c:=c) K s
  simp[hq,lI]
 |succ m ih=>
  intro k f hf h1 lF;obtain⟨f,rfl⟩:∃g,f=g+1:=⟨f - 1,by omega⟩
  have hk:k<rows.length:=by omega
  have tS:k<names.length:=by omega
  have lI:=λ(K:AV->St->Option (AV×St))=>h.lenB (c:=c) K s
  have w:ax .i64 ((k:Int)+1)=((k+1:Nat):Int):=wrap64 (by omega) (by omega);obtain⟨b,off,cap,cs,e,g1,g2⟩:=aiw h hr hk;have nm:=g2 0 _ (hn k hk tS);have hb:=h.beq;have r1:=λ(K:AV->Option (AV×St))=>kW K (o:=0) (v:=V) (h:=s.heap) (h2:=s.heap) (p:=q) (by rw[hq];rfl) (by rw[hq];rfl) hb
  have r2:=λ(K:AV->Option (AV×St))=>kW K (o:=off+k*9) (v:= .str names[k]) (h:=s.heap) (h2:=s.heap) (p:=b) (by rw[g1];exact nm) (by rw[g1];exact nm) (by simp[eO,mW,fL,mH.2 rfl])
  have ix:=λ(K:AV->Option (AV×St))=>Nr K (b:=b) (off:=off) (es:=9) (es':=9) (cap:=cap) (k:= .i64) hk
  rw[<-e]at ix;by_cases heq:names[k]=bP x
  .have mem:bP x∈names:=(by rw[<-heq];exact Zb8 tS);rw[Zb4 mem,rP];simp[hq,lI,hk,N,r1,r2,ix,heq]
  . have hno2:bP x∉names.take (k+1):=by
        rw[Zc7 tS,Zd5,Zh9];rintro(h|h)
        .exact lF h
        .exact heq h.symm
    rw[<-ih (k+1) f (by omega) (by omega) hno2,rP];have d:decide (names[k]=bP x)=false:=Za2 heq;simp[hq,lI,hk,N,r1,r2,ix,heq,d,w]
theorem arc(hc:bH c){s:St}{V W:AV}{rows:List (List AV)}(h:QS 9 s V rows)(hr:∀r∈rows,r.length=9){names:List (List Nat)}(hlen:names.length=rows.length)(hn:∀(i:Nat)(h1:i<rows.length)(h2:i<names.length),rows[i][0]? =some (.str names[i]))(arY:rows.length<=1000)
   (x:Nat) (hx:x<1000000) (hw:Wf s):c 87 [.agg [V,W],.int .i64 (x:Int)] s=some (.bool (decide (bP x∈names)),s):=by
 have hg:=Grew.ah hw (.cells [V,W] 0);have h2:QS 9 (ah s (.cells [V,W] 0)) V rows:=h.mono λb y _ hy=>hg.get hy
 have L:=ame hc h2 hr hlen hn arY (aA s (.cells [V,W] 0)) x hx (bF hw) (rows.length+1) (λvs Nj=>gV vs λx4 vs=>mo vs (some (x4,Nj))) (λvs s14=>mo vs (aq c .move [.bool false] s14 λx4 s15=>some (x4,s15))) rows.length 0 (rows.length+1) (by omega) (by omega) (by simp);rw[Of hc (rows.length+1) (r:=(.bool (decide (bP x∈names)),ah s (.cells [V,W] 0))),aF (Plain.bool _) hg.keeps];rw[SM];by_cases hm:bP x∈names
 .rw[Zb4 hm]at L;simp at L;simp[L,hm]
 .rw[Za6 hm]at L;simp at L;simp[L,hm]
end
section
open Go Go.Ai Go.Proofs
def oQ(gs:List aR)(i:Nat):List Nat:=match gs[i]? with|some g=>g.name|none=>[]
def GW(gs:List aR)(i:Nat):List Nat:=match gs[i]? with|some g=>g.nD|none=>[]
def yP(ts:List aB)(i:Nat):List Nat:=match ts[i]? with|some t=>t.name|none=>[]
def B9(ts:List aB)(i:Nat):Int:=match ts[i]? with|some t=>nI t.sh t.a t.b|none=>0
def Sk(ts:List aB)(gs:List aR)(k wt a b t n z:Nat):Rl×Bool:=
 if k=1\/k=2\/k=3\/k=4\/k=5 then(⟨k,wt,oQ gs a,oQ gs b,[],if k=4 then((n+1:Nat):Int)else if k=1 then(n:Int)else 0⟩,decide (a≠b))
 else if k=6\/k=7 then(⟨k,wt,oQ gs a,[],yP ts t,if k=7 then((z / 13:Nat):Int) % B9 ts t else 0⟩,true)
 else if k=10 then(⟨k,wt,if z % 3=0 then oQ gs a else [],[],[],0⟩,true)
 else if k=17 then(⟨k,wt,GW gs a,[],yP ts t,0⟩,decide (GW gs a≠[]))
 else(⟨k,wt,[],[],if 0<z % 3 then yP ts t else [],if k=15\/k=16 then(n:Int)else 0⟩,true)
def Xg(y:Nat):Nat:=if 1<y % 5 then 1+y % 7 else 0
def gZ(ts:List aB)(gs:List aR)(x:Nat):Rl×Bool:=
 if gs.length=0\/ts.length=0 then(⟨((1+x % 18:Nat):Int),(Xg (x / 18):Int),[],[],[],0⟩,false)
 else Sk ts gs (1+x % 18) (Xg (x / 18)) (x / 18 / 5 % gs.length) (x / 18 / 5 / gs.length % gs.length) (x / 18 / 5 / 7 % ts.length) (x / 18 / 5 / 11 % 4) (x / 18 / 5)
theorem ad7(i:Nat):oD (bP i)=true:=by unfold oD bP;have h1:i / 26 % 26<26:=Zk8 _ (by omega);have h2:i % 26<26:=Zk8 _ (by omega);simp;omega
variable{c:aj}
theorem aeZ{cs row:List AV}{o n:Nat}(hl:row.length=n)(h0:0<n)(h:∀(j:Nat)(u:AV),row[j]? =some u->cs[o+j]? =some u):cut cs o n=some row:=by
 have h1:=h (n - 1) row[n - 1] (H0 (by omega));have h2:=(Za1.1 h1).1;unfold cut;have:Nat.ble (o+n) cs.length=true:=by rw[Nat.ble_eq];omega
 rw[this];simp only;congr 1;refine Zi3 λi=> ?_
 rw[Ze3];split
 .rename_i hi;rw[Ze5,h i _ (H0 (by omega)),H0 (by omega)]
 .rw[Zc2 (by omega)]
theorem TS.row{s0 s:St}{V:AV}{ts:List aB}{rows:List (List AV)}(h:TS s0 s V ts rows){i:Nat}(hi:i<ts.length):
   ∃b off cap cs v,V= .slice b off rows.length cap 7/\s.heap.get b=some (.cells cs 0)/\cut cs (off+i*7) 7=some (ts[i].av v)/\cs[off+i*7]? =some (.str ts[i].name):=by
 have hr:i<rows.length:=by rw[h.len];exact hi
 obtain⟨b,off,cap,cs,e,g1,g2⟩:=aiw h.out.own h.out.row hr;obtain⟨v,e1,_,_⟩:=h.dY i ts[i] rows[i] (H0 hi) (H0 hr);refine⟨b,off,cap,cs,v,e,g1,?_,?_⟩
 .rw[<-e1];exact aeZ (h.out.row _ (Zb8 hr)) (by omega) g2
 . have:=g2 0 (.str ts[i].name) (by rw[e1];rfl)
   rwa [Zf5]at this
theorem GS.row{s0 s:St}{V:AV}{gs:List aR}{rows:List (List AV)}(h:GS s0 s V gs rows){i:Nat}(hi:i<gs.length):
   ∃b off cap cs v,V= .slice b off rows.length cap 9/\s.heap.get b=some (.cells cs 0)/\cut cs (off+i*9) 9=some (gs[i].av v)/\cs[off+i*9]? =some (.str gs[i].name)/\cs[off+i*9+5]? =some (.str gs[i].nD):=by
 have hr:i<rows.length:=by rw[h.len];exact hi
 obtain⟨b,off,cap,cs,e,g1,g2⟩:=aiw h.out.own h.out.row hr;obtain⟨v,e1,_,_⟩:=h.dY i gs[i] rows[i] (H0 hi) (H0 hr);refine⟨b,off,cap,cs,v,e,g1,?_,?_,?_⟩
 .rw[<-e1];exact aeZ (h.out.row _ (Zb8 hr)) (by omega) g2
 . have:=g2 0 (.str gs[i].name) (by rw[e1];rfl)
   rwa [Zf5]at this
 .exact g2 5 (.str gs[i].nD) (by rw[e1];rfl)
theorem QS.arZ{R:Type}{es:Nat}{s:St}{v:AV}{rows:List (List AV)}(h:QS es s v rows)(K:AV->Option R):fq (.lenB .l) [v] K=K (.int .i64 (rows.length:Int)):=by
 rcases h with⟨rfl,rfl⟩|⟨b,off,cap,cs,rfl,_⟩|⟨b,off,rfl,rfl⟩<;>exact cZ K (λH n=>rfl)
abbrev fY(k w:Int)(a b t:List Nat)(n:Int):List AV:=[.int .u8 k,.int .i64 w,.str a,.str b,.str t,.int .i64 n]
theorem atv(k w n w':Int)(a b t:List Nat)(s:St)(K:AV->St->Option (AV×St)):aq c (.store 1) [.ptr s.next 1,.int .i64 w'] (ah s (.cells (fY k w a b t n) 0)) K=K .undef (ah s (.cells (fY k w' a b t n) 0)):=mD s _ 1 (.int .i64 w') (by simp) rfl rfl K
theorem akl(k w n:Int)(a b t u:List Nat)(s:St)(K:AV->St->Option (AV×St)):aq c (.store 1) [.ptr s.next 2,.str u] (ah s (.cells (fY k w a b t n) 0)) K=K .undef (ah s (.cells (fY k w u b t n) 0)):=mD s _ 2 (.str u) (by simp) rfl rfl K
theorem atw(k w n:Int)(a b t u:List Nat)(s:St)(K:AV->St->Option (AV×St)):aq c (.store 1) [.ptr s.next 3,.str u] (ah s (.cells (fY k w a b t n) 0)) K=K .undef (ah s (.cells (fY k w a u t n) 0)):=mD s _ 3 (.str u) (by simp) rfl rfl K
theorem akm(k w n:Int)(a b t u:List Nat)(s:St)(K:AV->St->Option (AV×St)):aq c (.store 1) [.ptr s.next 4,.str u] (ah s (.cells (fY k w a b t n) 0)) K=K .undef (ah s (.cells (fY k w a b u n) 0)):=mD s _ 4 (.str u) (by simp) rfl rfl K
theorem Kw(k w n n':Int)(a b t:List Nat)(s:St)(K:AV->St->Option (AV×St)):aq c (.store 1) [.ptr s.next 5,.int .i64 n'] (ah s (.cells (fY k w a b t n) 0)) K=K .undef (ah s (.cells (fY k w a b t n') 0)):=mD s _ 5 (.int .i64 n') (by simp) rfl rfl K
theorem aut{ts:List aB}(h:∀t∈ts,0<nI t.sh t.a t.b/\nI t.sh t.a t.b<=1000){t:Nat}(ht:t<ts.length):B9 ts t=nI ts[t].sh ts[t].a ts[t].b/\0<B9 ts t/\B9 ts t<=1000:=by
 have e:B9 ts t=nI ts[t].sh ts[t].a ts[t].b:=by unfold B9;rw[H0 ht]
 rw[e];exact⟨rfl,h _ (Zb8 ht)⟩
theorem ard (hc : bH c){s0 s:St}{V1 V2 V3 V4 V5:AV}{ts:List aB}{gs:List aR}{r1 r2:List (List AV)}(hT:TS s0 s V1 ts r1)(hG:GS s0 s V2 gs r2)(lt:ts.length<=1000)(lg:gs.length<=1000)
   (hz:∀t∈ts,0<nI t.sh t.a t.b/\nI t.sh t.a t.b<=1000) (ha:∀t∈ts,(0<=t.a/\t.a<=1000000)/\0<=t.b/\t.b<=1000000) (x:Nat) (hx:x<4294967296):
   c 48 [.agg [V1,V2,V3,V4,V5],.int .i64 (x:Int)] s=some (.tuple [.agg (gZ ts gs x).1.cells,.bool (gZ ts gs x).2],s):=by
 have hw:=hT.out.ai.wf;have plain:∀(r:Rl)(b:Bool),Plain (.tuple [.agg r.cells,.bool b]):=λr b=>Plain.tuple λv hv=>by
   simp only[Za9,Zc3,Zf0]at hv;rcases hv with rfl|rfl
   .exact Plain.agg λv hv=>by simp only[Rl.cells,Za9,Zc3,Zf0]at hv;rcases hv with rfl|rfl|rfl|rfl|rfl|rfl<;>first|exact Plain.int _ _|exact Plain.str _
   .exact Plain.bool _
 suffices key:∃s',lY c 1 (.agg [V1,V2,V3,V4,V5]) (.int .i64 (x:Int)) s=some (.tuple [.agg (gZ ts gs x).1.cells,.bool (gZ ts gs x).2],s')/\aX s s' by
   obtain⟨s',k1,k2⟩:=key;rw[Og hc 1 (r:=(.tuple [.agg (gZ ts gs x).1.cells,.bool (gZ ts gs x).2],s')) k1,aF (plain _ _) k2]
 have cO:Wf (ah s (.cells [V1,V2,V3,V4,V5] 0)):=bF hw;have g1:=Grew.ah hw (.cells [V1,V2,V3,V4,V5] 0);have sH:Wf (ah (ah s (.cells [V1,V2,V3,V4,V5] 0)) (.cells (fY 0 0 [] [] [] 0) 0)):=bF cO;have g2:=Grew.ah cO (.cells (fY 0 0 [] [] [] 0) 0);have g12:=g1.trans g2;obtain⟨s2,tT⟩:∃s2,s2=ah (ah s (.cells [V1,V2,V3,V4,V5] 0)) (.cells (fY 0 0 [] [] [] 0) 0):=⟨_,rfl⟩
 obtain⟨p4,hp4⟩:∃p4,p4=(ah s (.cells [V1,V2,V3,V4,V5] 0)).next:=⟨_,rfl⟩
 have arf:Wf s2:=by rw[tT];exact sH
 have amf:Grew s s2:=by rw[tT];exact g12
 have b2:s2.heap.get s.next=some (.cells [V1,V2,V3,V4,V5] 0):=by rw[tT];exact g2.get (aA _ _)
 have b4:s2.heap.get p4=some (.cells (fY 0 0 [] [] [] 0) 0):=by rw[tT,hp4];exact aA _ _
 have n4:s.next.toNat<p4.toNat:=by rw[hp4,bN,Pos.aD];omega
 have n6:p4.toNat<s2.next.toNat:=arf _ _ b4;have gS:∀b:AB,Grew s2 (ah s2 b):=λb=>Grew.ah arf b
 have hP:∀b:AB,(ah s2 b).heap.get s.next=some (.cells [V1,V2,V3,V4,V5] 0):=λb=>(gS b).get b2
 have hX:∀b:AB,(ah s2 b).heap.get p4=some (.cells (fY 0 0 [] [] [] 0) 0):=λb=>(gS b).get b4
 have fin:∀(k w n:Int)(a b t:List Nat)(K:AV->St->Option (AV×St)),aq c (.store 6) [.ptr p4 0,.agg (fY k w a b t n)] (ah s2 (.cells (fY k w a b t n) 0)) K=K .undef (bg (ah s2 (.cells (fY k w a b t n) 0)) p4 (.cells (fY k w a b t n) 0)):=λk w n a b t K=>by rw[bY c K _ 6 p4 0 (.agg (fY k w a b t n)) _ (hX _) rfl (by simp) rfl];rfl
 have kp:∀(k w n:Int)(a b t:List Nat),aX s (bg (ah s2 (.cells (fY k w a b t n) 0)) p4 (.cells (fY k w a b t n) 0)):=λk w n a b t q y hq=>by have:=hw _ _ hq;rw[aH (λe=>by subst e;omega)];exact(amf.trans (gS _)).get hq
 have cu:∀(k w n:Int)(a b t:List Nat),cut (fY k w a b t n) 0 6=some (fY k w a b t n):=λk w n a b t=>cQ rfl
 obtain⟨Q,hQ⟩:∃Q:Option (AV×St)->Prop,Q=λo=>∃s',o=some (.tuple [.agg (gZ ts gs x).1.cells,.bool (gZ ts gs x).2],s')/\aX s s':=⟨_,rfl⟩
 have FN:∀(k w n:Int)(a b t:List Nat)(bb:Bool),(⟨k,w,a,b,t,n⟩:Rl)=(gZ ts gs x).1->bb=(gZ ts gs x).2->Q (some (.tuple [.agg (fY k w a b t n),.bool bb],bg (ah s2 (.cells (fY k w a b t n) 0)) p4 (.cells (fY k w a b t n) 0))):=λk w n a b t bb h1 h2=>by
   rw[hQ];exact⟨_,by rw[<-h1, <-h2];rfl,kp _ _ _ _ _ _⟩
 have acQ:Q (lY c 1 (.agg [V1,V2,V3,V4,V5]) (.int .i64 (x:Int)) s)->∃s',lY c 1 (.agg [V1,V2,V3,V4,V5]) (.int .i64 (x:Int)) s=some (.tuple [.agg (gZ ts gs x).1.cells,.bool (gZ ts gs x).2],s')/\aX s s':=λh=>by rw[hQ]at h;exact h
 apply acQ;clear acQ;obtain⟨r,hr⟩:∃r:Nat,r=x % 18:=⟨_,rfl⟩
 obtain⟨k,hk⟩:∃k:Nat,k=1+x % 18:=⟨_,rfl⟩
 obtain⟨y,hy⟩:∃y:Nat,y=x / 18:=⟨_,rfl⟩
 obtain⟨y5,hy5⟩:∃y5:Nat,y5=y % 5:=⟨_,rfl⟩
 obtain⟨y7,hy7⟩:∃y7:Nat,y7=y % 7:=⟨_,rfl⟩
 obtain⟨z,hz5⟩:∃z:Nat,z=y / 5:=⟨_,rfl⟩
 obtain⟨w,hwt⟩:∃w:Nat,w=Xg y:=⟨_,rfl⟩
 have E1:(x:Int) % 18=(r:Int):=by omega
 have W1:ax .i64 (1+(r:Int))=(k:Int):=(wrap64 (by omega) (by omega)).trans (by omega);have W8:ax .u8 (k:Int)=(k:Int):=F9 (by omega) (by omega);have E2:(x:Int) / 18=(y:Int):=by omega
 have E3:(y:Int) % 5=(y5:Int):=by omega
 have E4:(y:Int) % 7=(y7:Int):=by omega
 have W2:ax .i64 (1+(y7:Int))=1+(y7:Int):=wrap64 (by omega) (by omega);have E5:(y:Int) / 5=(z:Int):=by omega
 obtain⟨g,hg⟩:∃g,g=gs.length:=⟨_,rfl⟩
 obtain⟨T,hTl⟩:∃T,T=ts.length:=⟨_,rfl⟩
 have pl2:∀(K:AV->Option (AV×St)),fq (.lenB .l) [V2] K=K (.int .i64 (g:Int)):=λK=>by rw[hg, <-hG.len];exact QS.arZ hG.out.own K
 have pl1:∀(K:AV->Option (AV×St)),fq (.lenB .l) [V1] K=K (.int .i64 (T:Int)):=λK=>by rw[hTl, <-hT.len];exact QS.arZ hT.out.own K
 have KY:∀(l:List AV)(K:AV->Option (AV×St)),jt (.load none) [.ptr s.next (0+1)] (ah s2 (.cells l 0)).heap (λ_=>true) K=K V2:=λl K=>by rw[jN,hP];rfl
 have rd0:∀(l:List AV)(K:AV->Option (AV×St)),jt (.load none) [.ptr s.next (0+0)] (ah s2 (.cells l 0)).heap (λ_=>true) K=K V1:=λl K=>by rw[jN,hP];rfl
 have bld:∀(k':Int)(s':St)(K:AV->St->Option (AV×St)),aq c (.build [.int .u8 0,.int .i64 0,.str [],.str [],.str [],.int .i64 0] [(0,1)]) [.int .u8 k'] s' K=K (.agg (fY k' 0 [] [] [] 0)) s':=λk' s' K=>rfl
 have sto0:∀(k':Int)(K:AV->St->Option (AV×St)),aq c (.store 6) [.ptr s2.next 0,.agg (fY k' 0 [] [] [] 0)] (ah s2 (.cells (fY 0 0 [] [] [] 0) 0)) K=K .undef (ah s2 (.cells (fY k' 0 [] [] [] 0) 0)):=λk' K=>cG c K s2 6 (.agg (fY k' 0 [] [] [] 0)) (fY 0 0 [] [] [] 0) rfl rfl rfl
 rw[SN];rw[dy,dB,show AV.cells (.agg [V1,V2,V3,V4,V5])=[V1,V2,V3,V4,V5]from rfl, <-tT, <-hp4,az,az,cV (by omega) (by omega),E1,gC,W1,KT,W8,bld,dB,sto0,az,iw (by omega) (by omega) (by omega),E2,az];refine yB (P:=λj=>Q (j [.int .i64 (y:Int),.ptr s.next 0,.ptr p4 0,.ptr s2.next 0] (ah s2 (.cells (fY k w [] [] [] 0) 0)))) ?_ ?_
 . rw[  aL, aL, aL, aL,bu,az,iw (by omega) (by omega) (by omega),E5,az,br,KY,pl2,br,rd0,pl1,di,di,az,fN,az];by_cases M7:g=0
   . rw[Za0 (show(g:Int)=0 by omega),amV,amV,RB,eo];have hR:gZ ts gs x=(⟨(k:Int),(w:Int),[],[],[],0⟩,false):=by
        unfold gZ;rw[Zb4 (.inl (by omega)), <-hk, <-hy, <-hwt]
     have:=FN k w 0 [] [] [] false (by rw[hR]) (by rw[hR]);simp[cu,fin];exact this
   rw[Za2 (show ¬(g:Int)=0 by omega),lM,az,lM,fN,pX];by_cases hT0:T=0
   . rw[Za0 (show(T:Int)=0 by omega),eo];have hR:gZ ts gs x=(⟨(k:Int),(w:Int),[],[],[],0⟩,false):=by
        unfold gZ;rw[Zb4 (.inr (by omega)), <-hk, <-hy, <-hwt]
     have:=FN k w 0 [] [] [] false (by rw[hR]) (by rw[hR]);simp[cu,fin];exact this
   rw[Za2 (show ¬(T:Int)=0 by omega),dQ];obtain⟨a,ea⟩:∃a:Nat,a=z % g:=⟨_,rfl⟩
   obtain⟨zg,ezg⟩:∃zg:Nat,zg=z / g:=⟨_,rfl⟩
   obtain⟨b,eb⟩:∃b:Nat,b=zg % g:=⟨_,rfl⟩
   obtain⟨z7,ez7⟩:∃z7:Nat,z7=z / 7:=⟨_,rfl⟩
   obtain⟨t,et⟩:∃t:Nat,t=z7 % T:=⟨_,rfl⟩
   obtain⟨z11,ez11⟩:∃z11:Nat,z11=z / 11:=⟨_,rfl⟩
   obtain⟨n,en⟩:∃n:Nat,n=z11 % 4:=⟨_,rfl⟩
   have hR:gZ ts gs x=Sk ts gs k w a b t n z:=by
     unfold gZ;rw[Za6 (by omega), <-hk, <-hy, <-hwt, <-hz5, <-hg, <-hTl, <-ea, <-ezg, <-eb, <-ez7, <-et, <-ez11, <-en]
   have Ea:(z:Int) % (g:Int)=(a:Int):=(by rw[ea];exact(Zp2 _ _).symm);have Ezg:(z:Int) / (g:Int)=(zg:Int):=(by rw[ezg];exact(Int.natCast_ediv _ _).symm);have Eb:(zg:Int) % (g:Int)=(b:Int):=(by rw[eb];exact(Zp2 _ _).symm);have Ez7:(z:Int) / 7=(z7:Int):=(by omega);have Et:(z7:Int) % (T:Int)=(t:Int):=(by rw[et];exact(Zp2 _ _).symm);have Ez11:(z:Int) / 11=(z11:Int):=(by omega);have En:(z11:Int) % 4=(n:Int):=(by omega);have za:a<g:=(by rw[ea];exact Zk8 _ (by omega));have zb:b<g:=(by rw[eb];exact Zk8 _ (by omega));have zt:t<T:=(by rw[et];exact Zk8 _ (by omega));have gp:0<(g:Int):=(by omega);have Tp:0<(T:Int):=(by omega);rw[di,di,RO (by omega) gp,Ea,di,di,ag5 (by omega) (by omega) gp,Ezg,di,RO (by omega) gp,Eb,di,ag5 (by omega) (by omega) (by omega),Ez7,di,RO (by omega) Tp,Et,di,di,di,
     az,iw (by omega) (by omega) (by omega),Ez11,cV (by omega) (by omega),En,az]
   (clear Ea Ezg Eb Ez7 Et Ez11 En ea ezg eb ez7 et ez11;have Aw:1<=k:=(by omega);have tS:k<=18:=(by omega);obtain⟨bA,oA,akB,csA,vA,eA,hA,_,nA,dA⟩:=hG.row (i:=a) (by omega);obtain⟨bB,oB,capB,csB,vB,eB,hB,_,nB,_⟩:=hG.row (i:=b) (by omega);obtain⟨bT,oT,capT,csT,vT,eT,hTb,cT,nT⟩:=hT.row (i:=t) (by omega);have gA:gs[a].name=oQ gs a/\gs[a].nD=GW gs a:=(by unfold oQ GW;rw[H0 (by omega)];exact⟨rfl,rfl⟩);have gB:gs[b].name=oQ gs b:=(by unfold oQ;rw[H0 (by omega)]);have gT:ts[t].name=yP ts t:=(by unfold yP;rw[H0 (by omega)]);rw[gA.1]at nA;rw[gA.2]at dA;rw[gB]at nB;rw[gT]at nT;have amg:∀l:List AV,(ah s2 (.cells l 0)).heap.get bA=some (.cells csA 0):=λl=>(gS _).get (amf.get hA));have ar0:∀l:List AV,(ah s2 (.cells l 0)).heap.get bB=some (.cells csB 0):=λl=>(gS _).get (amf.get hB)
   have heapT:∀l:List AV,(ah s2 (.cells l 0)).heap.get bT=some (.cells csT 0):=λl=>(gS _).get (amf.get hTb)
   have ixA:∀(K:AV->Option (AV×St)),fq (.idxA 9 none) [V2,.int .i64 (a:Int)] K=K (.ptr bA (oA+a*9)):=λK=>by rw[eA];exact Nr K (by rw[hG.len];omega)
   have ixB:∀(K:AV->Option (AV×St)),fq (.idxA 9 none) [V2,.int .i64 (b:Int)] K=K (.ptr bB (oB+b*9)):=λK=>by rw[eB];exact Nr K (by rw[hG.len];omega)
   have ixT:∀(K:AV->Option (AV×St)),fq (.idxA 7 none) [V1,.int .i64 (t:Int)] K=K (.ptr bT (oT+t*7)):=λK=>by rw[eT];exact Nr K (by rw[hT.len];omega)
   have sxA:∀(K:AV->St->Option (AV×St))(s':St),aq c (.idxA 9 none) [V2,.int .i64 (a:Int)] s' K=K (.ptr bA (oA+a*9)) s':=λK s'=>by rw[eA];exact iR c K s' (by rw[hG.len];omega)
   have sxT:∀(K:AV->St->Option (AV×St))(s':St),aq c (.idxA 7 none) [V1,.int .i64 (t:Int)] s' K=K (.ptr bT (oT+t*7)) s':=λK s'=>by rw[eT];exact iR c K s' (by rw[hT.len];omega)
   have cA:=λ(l l':List AV)(K:AV->Option (AV×St))=>Fy K (o:=1) (v:=V2) (h:=(ah s2 (.cells l 0)).heap) (h2:=(ah s2 (.cells l' 0)).heap) (p:=s.next) (by rw[hP];rfl) (by rw[hP];rfl) hG.out.own.beq
   have cP:=λ(l l':List AV)(K:AV->Option (AV×St))=>Fy K (o:=0) (v:=V1) (h:=(ah s2 (.cells l 0)).heap) (h2:=(ah s2 (.cells l' 0)).heap) (p:=s.next) (by rw[hP];rfl) (by rw[hP];rfl) hT.out.own.beq
   have sb:∀u:List Nat,eO (.str u) (.str u)=true:=λu=>by simp[eO,mW,fL,mH.2 rfl]
   clear eA eB eT;generalize oA+a*9=qA at*
   generalize oB+b*9=qB at*
   generalize oT+t*7=qT at*
   have cB:=λ(l l':List AV)(K:AV->Option (AV×St))=>Fy K (o:=qB+0) (v:= .str (oQ gs b)) (h:=(ah s2 (.cells l 0)).heap) (h2:=(ah s2 (.cells l' 0)).heap) (p:=bB) (by rw[ar0];exact nB) (by rw[ar0];exact nB) (sb _)
   have cTn:=λ(l l':List AV)(K:AV->Option (AV×St))=>Fy K (o:=qT+0) (v:= .str (yP ts t)) (h:=(ah s2 (.cells l 0)).heap) (h2:=(ah s2 (.cells l' 0)).heap) (p:=bT) (by rw[heapT];exact nT) (by rw[heapT];exact nT) (sb _)
   have rdA:∀(l:List AV)(K:AV->Option (AV×St)),jt (.load none) [.ptr bA (qA+0)] (ah s2 (.cells l 0)).heap (λ_=>true) K=K (.str (oQ gs a)):=λl K=>by rw[jN,amg,Zf5,show(cellsOf (some (.cells csA 0))).bind (λcs=>cs[qA]?)=some (.str (oQ gs a))from nA];rfl
   have su2:∀(k w n:Int)(a b t u:List Nat)(K:AV->St->Option (AV×St)),aq c (.store 1) [.ptr s2.next (0+2),.str u] (ah s2 (.cells (fY k w a b t n) 0)) K=K .undef (ah s2 (.cells (fY k w u b t n) 0)):=λk w n a b t u K=>akl k w n a b t u s2 K
   have su3:∀(k w n:Int)(a b t u:List Nat)(K:AV->St->Option (AV×St)),aq c (.store 1) [.ptr s2.next (0+3),.str u] (ah s2 (.cells (fY k w a b t n) 0)) K=K .undef (ah s2 (.cells (fY k w a u t n) 0)):=λk w n a b t u K=>atw k w n a b t u s2 K
   have su4:∀(k w n:Int)(a b t u:List Nat)(K:AV->St->Option (AV×St)),aq c (.store 1) [.ptr s2.next (0+4),.str u] (ah s2 (.cells (fY k w a b t n) 0)) K=K .undef (ah s2 (.cells (fY k w a b u n) 0)):=λk w n a b t u K=>akm k w n a b t u s2 K
   have ldk:∀(k w n:Int)(a b t:List Nat)(K:AV->St->Option (AV×St)),aq c (.load none) [.ptr s2.next (0+0)] (ah s2 (.cells (fY k w a b t n) 0)) K=K (.int .u8 k) (ah s2 (.cells (fY k w a b t n) 0)):=λk w n a b t K=>by rw[aY,aA];rfl
   refine yB (P:=λj=>¬(k=1\/k=2\/k=3\/k=4\/k=5\/k=6\/k=7\/k=10\/k=17)->Q (j [.int .i64 (z:Int),.ptr s.next 0,.ptr p4 0,.ptr s2.next 0,.int .i64 (t:Int)] (ah s2 (.cells (fY k w [] [] [] (if k=15\/k=16 then(n:Int)else 0)) 0)))) ?_ ?_
   . intro hns;obtain⟨z3,e3⟩:∃z3:Nat,z3=z % 3:=⟨_,rfl⟩
     have E6:(z:Int) % 3=(z3:Int):=(by omega);have hf:=hR;unfold Sk at hf;rw[Za6 (by omega),Za6 (by omega),Za6 (by omega),Za6 (by omega), <-e3]at hf;obtain⟨n',hn'⟩:∃n':Int,n'=(if k=15\/k=16 then(n:Int)else 0):=⟨_,rfl⟩
     rw[<-hn']at hf ⊢;by_cases h3:0<z3
     .  have hd:decide (0<z3)=true:=Za0 h3;rw[Zb4 h3]at hf;have:=FN k w n' [] [] (yP ts t) true (by rw[hf]) (by rw[hf]);simp (disch:=omega) [-gQ,dw,Za4,cV,E6,hd,hP,sxT,heapT,nT,akm,cu,fin,bG];exact this
     .  have hd:decide (0<z3)=false:=Za2 h3;rw[Za6 h3]at hf;have:=FN k w n' [] [] [] true (by rw[hf]) (by rw[hf]);simp (disch:=omega) [-gQ,dw,cV,E6,hd,cu,fin,bG];exact this
   . intro  j40 aix;rw[aT,ldk];refine yB (P:=λj=>Q (j [.int .i64 (z:Int),.ptr s.next 0,.ptr p4 0,.ptr s2.next 0,.int .i64 (a:Int),.int .i64 (b:Int),.int .i64 (t:Int),.int .i64 (n:Int),.int .u8 (k:Int),.bool (decide (k=1\/k=2\/k=3\/k=4\/k=5))] (ah s2 (.cells (fY k w [] [] [] 0) 0)))) ?_ ?_
     .  rw[ aL, aL, aL,aL,aL,aL,aL,aL,aL,aL,bu];by_cases h5:k=1\/k=2\/k=3\/k=4\/k=5
        . rw[ Za0 h5,eo];have hf:=hR;unfold Sk at hf;rw[Zb4 h5]at hf;have fF:Q (some (.tuple [.agg (fY k w (oQ gs a) (oQ gs b) [] (if k=4 then(n:Int)+1 else if k=1 then(n:Int)else 0)),.bool (!decide ((a:Int)=(b:Int)))],bg (ah s2 (.cells (fY k w (oQ gs a) (oQ gs b) [] (if k=4 then(n:Int)+1 else if k=1 then(n:Int)else 0)) 0)) p4 (.cells (fY k w (oQ gs a) (oQ gs b) [] (if k=4 then(n:Int)+1 else if k=1 then(n:Int)else 0)) 0))):=
            FN k w _ (oQ gs a) (oQ gs b) [] _ (by rw[hf];rfl) (by rw[hf];simp;omega)
          have wn:ax .i64 ((n:Int)+1)=(n:Int)+1:=wrap64 (by omega) (by omega);clear FN aix;rw[br,KY,di,ixA,br,rdA,br,su2,br,cA,di,ixB,br,cB,br,su3];refine yB (P:=λj=>Q (j [.ptr p4 0,.ptr s2.next 0,.int .i64 (a:Int),.int .i64 (b:Int)] (ah s2 (.cells (fY k w (oQ gs a) (oQ gs b) [] (if k=1\/k=4 then(n:Int)else 0)) 0)))) ?_ ?_
          . rw[ aL,aL,aL,aL,bu];refine yB (P:=λj=>Q (j [.ptr p4 0,.ptr s2.next 0,.int .i64 (a:Int),.int .i64 (b:Int)] (ah s2 (.cells (fY k w (oQ gs a) (oQ gs b) [] (if k=4 then(n:Int)+1 else if k=1 then(n:Int)else 0)) 0)))) ?_ ?_
            . generalize (if k=4 then(n:Int)+1 else if k=1 then(n:Int)else 0)=n6 at*
              simp[cu,fin,bG];exact fF
            . intro j hj;by_cases h4:k=4
              .have hd:decide ((k:Int)=4)=true:=Za0 (by omega);rw[Zb4 h4]at hj;rw[Zb4 (.inr h4),aT,ldk,fN,hd,eo];simp[wn,Kw];exact hj
              .have hd:decide ((k:Int)=4)=false:=Za2 (by omega);rw[Za6 h4]at hj;rw[show(if k=1\/k=4 then(n:Int)else 0)=(if k=1 then(n:Int)else 0)by by_cases h1:k=1<;>simp[h1,h4],aT,ldk,fN,hd,dQ];exact hj
          . intro j hj;rw[aT,ldk,fN,az];by_cases h1:k=1
            .rw[Zb4 (.inl h1)]at hj;rw[Za0 (show(k:Int)=1 by omega)];simp[Kw];exact hj
            . rw[Za2 (show ¬(k:Int)=1 by omega)];by_cases h4:k=4
              .rw[Zb4 (.inr h4)]at hj;have hd:decide ((k:Int)=4)=true:=Za0 (by omega);rw[lM,aT,lM,ldk,lM,fN,hd];simp[Kw];exact hj
              .rw[Za6 (by omega)]at hj;have hd:decide ((k:Int)=4)=false:=Za2 (by omega);rw[lM,aT,lM,ldk,lM,fN,hd];simp;exact hj
        . rw[ Za2 h5, dQ];refine yB (P:=λj=>Q (j [.int .i64 (z:Int),.ptr s.next 0,.ptr p4 0,.ptr s2.next 0,.int .i64 (a:Int),.int .i64 (t:Int),.int .i64 (n:Int),.int .u8 (k:Int),.bool (decide (k=6\/k=7))] (ah s2 (.cells (fY k w [] [] [] 0) 0)))) ?_ ?_
          . rw[ aL, aL,aL,aL,aL,aL,aL,aL,aL,bu];by_cases h67:k=6\/k=7
            . rw[ Za0 h67,eo];have hf:=hR;unfold Sk at hf;rw[Za6 h5,Zb4 h67]at hf;obtain⟨sz1,sz2,sz3⟩:=aut hz (t:=t) (by omega);obtain⟨ha1,ha2⟩:=ha _ (Zb8 (show t<ts.length by omega));obtain⟨z13,e13⟩:∃z13:Nat,z13=z / 13:=⟨_,rfl⟩
              have E13:(z:Int) / 13=(z13:Int):=(by omega);rw[<-e13]at hf;have SZ:∀l:List AV,c 46 [.agg (ts[t].av vT)] (ah s2 (.cells l 0))=some (.int .i64 (B9 ts t),ah s2 (.cells l 0)):=λl=>by rw[sz1];exact Lg hc rfl rfl rfl ha1 ha2 _ (bF arf)
              have fF:Q (some (.tuple [.agg (fY k w (oQ gs a) [] (yP ts t) (if k=7 then(z13:Int) % B9 ts t else 0)),.bool true],bg (ah s2 (.cells (fY k w (oQ gs a) [] (yP ts t) (if k=7 then(z13:Int) % B9 ts t else 0)) 0)) p4 (.cells (fY k w (oQ gs a) [] (yP ts t) (if k=7 then(z13:Int) % B9 ts t else 0)) 0))):=
                FN k w _ (oQ gs a) [] (yP ts t) _ (by rw[hf]) (by rw[hf])
              clear FN aix;rw[br,KY,di,ixA,br,rdA,br,su2,br,cP,di,ixT,br,cTn,br,su4];refine yB (P:=λj=>Q (j [.ptr p4 0,.ptr s2.next 0] (ah s2 (.cells (fY k w (oQ gs a) [] (yP ts t) (if k=7 then(z13:Int) % B9 ts t else 0)) 0)))) ?_ ?_
              . generalize (if k=7 then(z13:Int) % B9 ts t else 0)=n6 at*
                simp[cu,fin,bG];exact fF
              . intro j hj;by_cases h7:k=7
                . have hd:decide ((k:Int)=7)=true:=Za0 (by omega);rw[Zb4 h7]at hj;have q:=λ(K:AV->St->Option (AV×St))(s':St)=>cV (c:=c) (k:= .i64) (a:=(z13:Int)) (b:=B9 ts t) (by omega) sz2 s' K
                  generalize B9 ts t=Z at*
                  rw[aT,ldk,fN,hd,eo,az,iw (by omega) (by omega) (by omega),E13];simp[-gQ,q,hP,sxT,heapT,cT,SZ,Kw];exact hj
                .have hd:decide ((k:Int)=7)=false:=Za2 (by omega);rw[Za6 h7]at hj;rw[aT,ldk,fN,hd,dQ];exact hj
            . rw[ Za2 h67,dQ,fN,az];by_cases h10:k=10
              . have hf:=hR;unfold Sk at hf;rw[Za6 h5,Za6 h67,Zb4 h10]at hf;obtain⟨z3,e3⟩:∃z3:Nat,z3=z % 3:=⟨_,rfl⟩
                have E6:(z:Int) % 3=(z3:Int):=(by omega);rw[<-e3]at hf;rw[Za0 (show(k:Int)=10 by omega),eo];by_cases h3:z3=0
                .have hd:decide ((z3:Int)=0)=true:=Za0 (by omega);rw[Zb4 h3]at hf;have fF:=FN k w 0 (oQ gs a) [] [] true (by rw[hf]) (by rw[hf]);rw[iZ,az,cV (by omega) (by omega),E6,fN,hd,eo];simp[hP,sxA,amg,nA,akl,cu,fin,bG];exact fF
                .have hd:decide ((z3:Int)=0)=false:=Za2 (by omega);rw[Za6 h3]at hf;have fF:=FN k w 0 [] [] [] true (by rw[hf]) (by rw[hf]);rw[iZ,az,cV (by omega) (by omega),E6,fN,hd,dQ];simp[cu,fin,bG];exact fF
              . rw[ Za2 (show ¬(k:Int)=10 by omega),dQ,fN,az];by_cases h17:k=17
                . have hf:=hR;unfold Sk at hf;rw[Za6 h5,Za6 h67,Za6 h10,Zb4 h17]at hf;rw[Za0 (show(k:Int)=17 by omega),eo];have fF:=FN k w 0 (GW gs a) [] (yP ts t) (!decide (GW gs a=[])) (by rw[hf]) (by rw[hf];simp);have n46:p4≠s2.next:=λe=>by subst e;omega
                  have cD:=λ(K:AV->Option (AV×St))=>Fy K (o:=0+2) (v:= .str (GW gs a)) (h:=(bg (ah s2 (.cells (fY k w (GW gs a) [] (yP ts t) 0) 0)) p4 (.cells (fY k w (GW gs a) [] (yP ts t) 0) 0)).heap) (h2:=(ah s2 (.cells (fY k w (GW gs a) [] (yP ts t) 0) 0)).heap) (p:=s2.next) (by rw[aH n46,aA];rfl) (by rw[aA];rfl) (sb _)
                  have rdD:∀(l:List AV)(K:AV->Option (AV×St)),jt (.load none) [.ptr bA (qA+5)] (ah s2 (.cells l 0)).heap (λ_=>true) K=K (.str (GW gs a)):=λl K=>by rw[jN,amg,show(cellsOf (some (.cells csA 0))).bind (λcs=>cs[qA+5]?)=some (.str (GW gs a))from dA];rfl
                  have rdR:∀(K:AV->Option (AV×St)),jt (.load (some 6)) [.ptr s2.next 0] (ah s2 (.cells (fY k w (GW gs a) [] (yP ts t) 0) 0)).heap (λ_=>true) K=K (.agg (fY k w (GW gs a) [] (yP ts t) 0)):=λK=>by rw[wQ,aA];rfl
                  rw[br,KY,di,ixA,br,rdD,br,su2,br,cP,di,ixT,br,cTn,br,su4,rdR,fin,br,cD,apI,di,aaG,bG];exact fF
                . rw[ Za2 (show ¬(k:Int)=17 by omega),dQ];have hj:=aix (by omega);clear aix FN;by_cases h15:k=15
                  .have hd:decide ((k:Int)=15)=true:=Za0 (by omega);rw[Zb4 (.inl h15)]at hj;rw[iZ,fN,az,hd,eo];simp[Kw];exact hj
                  . have hd:decide ((k:Int)=15)=false:=Za2 (by omega);by_cases h16:k=16
                    .have hd2:decide ((k:Int)=16)=true:=Za0 (by omega);rw[Zb4 (.inr h16)]at hj;rw[iZ,fN,az,hd,dQ,fN,az,hd2];simp[Kw];exact hj
                    .have hd2:decide ((k:Int)=16)=false:=Za2 (by omega);rw[Za6 (by omega)]at hj;rw[iZ,fN,az,hd,dQ,fN,az,hd2];simp;exact hj
          . intro j hj;by_cases h6:k=6
            .rw[Za0 (.inl h6)]at hj;rw[fN,az,Za0 (show(k:Int)=6 by omega),eo];exact hj
            .rw[fN,az,Za2 (show ¬(k:Int)=6 by omega),dQ,fN,az];rw[show decide ((k:Int)=7)=decide (k=6\/k=7)by rw[decide_eq_decide];omega];exact hj
     .  intro j hj;clear FN aix hR;rcases B4 Aw tS with rfl|rfl|rfl|rfl|rfl|rfl|rfl|rfl|rfl|rfl|rfl|rfl|rfl|rfl|rfl|rfl|rfl|rfl
        all_goals
          simp at hj ⊢;exact hj
 . intro j hj;by_cases h1:1<y5
   .have e:((w:Nat):Int)=1+(y7:Int):=(by rw[hwt];unfold Xg;rw[Zb4 (by omega)];omega);rw[e]at hj;have hd:decide ((1:Int)<(y5:Int))=true:=Za0 (by omega);simp (disch:=omega) [-gQ,cV,E3,E4,hd,W2,atv];exact hj
   .have e:((w:Nat):Int)=0:=(by rw[hwt];unfold Xg;rw[Za6 (by omega)];rfl);rw[e]at hj;have hd:decide ((1:Int)<(y5:Int))=false:=Za2 (by omega);simp (disch:=omega) [-gQ,cV,E3,hd];exact hj
structure KX(p:Pos)(sA s:St):Prop where
 wf:Wf s
 next:sA.next.toNat<=s.next.toNat
 keep:∀(b:Pos)(x:AB),b≠p->sA.heap.get b=some x->s.heap.get b=some x
theorem KX.refl{p:Pos}{s:St}(hw:Wf s):KX p s s:=⟨hw,Za3 _,λ_ _ _ h=>h⟩
theorem KX.trans{p:Pos}{a b d:St}(h:KX p a b)(g:KX p b d):KX p a d:=⟨g.wf,Zb3 h.next g.next,λq x hq hx=>g.keep q x hq (h.keep q x hq hx)⟩
theorem KX.ai{p:Pos}{a b d:St}(h:KX p a b)(g:Grew b d):KX p a d:=⟨g.wf,Zb3 h.next g.next,λq x hq hx=>g.get (h.keep q x hq hx)⟩
theorem KX.store{p:Pos}{a b:St}(h:KX p a b)(hp:p.toNat<b.next.toNat)(x:AB):KX p a (bg b p x):=
 ⟨iG h.wf hp,h.next,λq y hq hy=>by rw[aH (λe=>hq e.symm)];exact h.keep q y hq hy⟩
def TS.Since(n:Nat)(V:AV)(rows:List (List AV)):Prop:=(∀b,aK V=some b->n<=b.toNat)/\∀(i:Nat)(r:List AV)(v:AV)(b:Pos),rows[i]? =some r->r[4]? =some v->aK v=some b->n<=b.toNat
def GS.Since(n:Nat)(V:AV)(rows:List (List AV)):Prop:=(∀b,aK V=some b->n<=b.toNat)/\∀(i:Nat)(r:List AV)(v:AV)(b:Pos),rows[i]? =some r->r[8]? =some v->aK v=some b->n<=b.toNat
theorem vF{st s:St}{p:Pos}(h0:Wf st)(h:Grew st s)(hp:st.next.toNat<=p.toNat)(Gk:p.toNat<s.next.toNat)(b:AB):Grew st (bg s p b):=
 ⟨iG h.wf Gk,λq x hq=>by have:=h0 _ _ hq;rw[aH (λe=>by rw[e]at hp;omega)];exact h.get hq,by rw[dH];exact h.next⟩
theorem TS.kx{st sA s:St}{p:Pos}{V:AV}{ts:List aB}{rows:List (List AV)}(h:TS st sA V ts rows)(k:KX p sA s)(g:Grew st s)(hs:TS.Since (p.toNat+1) V rows):TS st s V ts rows:=
 h.qO g λb x _ hb hx=>k.keep b x (λe=>by
  subst e;rcases hb with hb|⟨i,r,v,h1,h2,h3⟩
  .have:=hs.1 _ hb;omega
  .have:=hs.2 i r v _ h1 h2 h3;omega) hx
theorem GS.kx{st sA s:St}{p:Pos}{V:AV}{ts:List aR}{rows:List (List AV)}(h:GS st sA V ts rows)(k:KX p sA s)(g:Grew st s)(hs:GS.Since (p.toNat+1) V rows):GS st s V ts rows:=
 h.qO g λb x _ hb hx=>k.keep b x (λe=>by
  subst e;rcases hb with hb|⟨i,r,v,h1,h2,h3⟩
  .have:=hs.1 _ hb;omega
  .have:=hs.2 i r v _ h1 h2 h3;omega) hx
theorem Mk.kx{es:Nat}{st sA s:St}{p:Pos}{V:AV}{rows:List (List AV)}(h:Mk es st sA V rows)(k:KX p sA s)(g:Grew st s)(hs:∀b,aK V=some b->p.toNat+1<=b.toNat):Mk es st s V rows:=
 Mk.qO h g λb x hb hx=>k.keep b x (λe=>by subst e;have:=hs _ hb;omega) hx
theorem TS.push{st s:St}{V:AV}{ts:List aB}{rows:List (List AV)}(h:TS st s V ts rows){t:aB}{v:AV}(M:Mk 1 st s v (t.kA.map bJ))(hv:∀b,aK v=some b->aK V≠some b)(hlen:ts.length<=1000):
   ∃s5 V5,(∀(K:AV->St->Option (AV×St)),aq c (.buildSlice 7 1 [.str [],.int .u8 0,.int .i64 0,.int .i64 0,.af,.int .i64 0,.int .i64 0] [0]) [.agg (t.av v)] s (λy q=>aq c (.append 7 80) [V,y] q K)=K V5 s5)/\
    TS st s5 V5 (ts++[t]) (rows++[t.av v])/\(∀(p:Pos)(b:AB),aK V≠some p->s.heap.get p=some b->s5.heap.get p=some b)/\∀b,aK V5=some b->s.next.toNat<=b.toNat:=by
 have hl:=h.len;have hw:=h.out.ai.wf;obtain⟨s5,V5,a1,a2,a3,a4⟩:=h.out.push (c:=c) (R:=AV×St) (bytes:=80) (z:=[.str [],.int .u8 0,.int .i64 0,.int .i64 0,.af,.int .i64 0,.int .i64 0]) (x:= .agg (t.av v)) rfl rfl (t.Le M.cells.2) (by decide) (by omega) (by omega);have small:∀(u:AV)(rw:List (List AV)),Mk 1 st s u rw->(∀b,aK u=some b->aK V≠some b)->Mk 1 st s5 u rw/\∀b,aK u=some b->aK V5≠some b:=λu rw hu cN=>
   ⟨Mk.qO hu a2.ai λb y hb hy=>a3 b y (cN b hb) hy,λb hb e=>by have p1:=a4 b e;have p2:=hu.own.lt hw hb;omega⟩
 refine⟨s5,V5,a1,⟨a2,by simp[hl],λi t' r hi hr=> ?_⟩,a3,a4⟩;by_cases EH:i<ts.length
 .rw[Zc5 (by rw[hl];exact EH)]at hr;rw[Zc5 EH]at hi;obtain⟨u,e1,e2,e3⟩:=h.dY i t' r hi hr;obtain⟨f1,f2⟩:=small u _ e2 e3;exact⟨u,e1,f1,f2⟩
 .have gJ:=(Za1.1 hi).1;simp at gJ;obtain rfl:i=ts.length:=(by omega);rw[Zc4 (by rw[hl];exact Za3 _)]at hr;rw[Zc4 (Za3 _)]at hi;simp[hl]at hr hi;subst hi;subst hr;obtain⟨f1,f2⟩:=small v _ M hv;exact⟨v,rfl,f1,f2⟩
def Xh(s:List Nat):List AV:=[.str s]
def LF(x k:Nat):Bool:=decide (x / 2 ^ (6+2*k) % 4=1)
theorem auu(x k:Nat):LF x k=decide (x / 2 ^ (6+2*k) % 4=1):=by rw[LF]
def ES(x k:Nat):List (List Nat):=((List.range k).filter (LF x)).map bP
theorem aiy(x k:Nat):ES x (k+1)=ES x k++(if LF x k=true then [bP k]else []):=by
 unfold ES;rw[Zg2,Zk4,Zc8];congr 1;cases h:LF x k with
 |true=>simp[h]
 |false=>simp[h]
theorem atx(x k:Nat):(ES x k).length<=k:=by have:=Zk1 (LF x) (List.range k);rw[Zr0]at this;unfold ES;rw[Za5];exact this
structure GI(s0 s:St)(p8:Pos)(g:aR)(x k:Nat)(v:AV):Prop where
 out:Mk 1 s0 s v ((ES x k).map Xh)
 h8:s.heap.get p8=some (.cells (g.av v) 0)
 n8:aK v≠some p8
theorem ajk(hc:bH c){g:aR}{x:Nat}(hx:x<1000000){s0:St}{p8:Pos}(h8:s0.next.toNat<=p8.toNat)(x0 x1 x4 x5 x6:AV)
  :∀(m k:Nat)(s:St)(v:AV),GI s0 s p8 g x k v->k+m=4->
  ∃s' v',GI s0 s' p8 g x 4 v'/\∀(F:Nat)(k4:List AV->St->Option (AV×St))(f:Nat),m<f->iE c F k4 f [x0,x1,x4,x5,x6,.int .i64 (x:Int),.ptr p8 0,.int .i64 (k:Int)] s=k4 [x0,x1,x4,x5,x6,.ptr p8 0] s':=by
 intro m;induction m with
 |zero=>
  intro k s v hT h1;obtain rfl:k=4:=by omega
  refine⟨s,v,hT,λF k4 f hf=> ?_⟩;obtain⟨f,rfl⟩:∃g,f=g+1:=⟨f - 1,by omega⟩
  rw[tJ];simp
 |succ m ih=>
  intro k s v hT h1;have hw:=hT.out.ai.wf;have h:k<4:=by omega
  . have hx0:(0:Int)<=(x:Int):=Int.natCast_nonneg x;have w:ax .i64 ((k:Int)+1)=((k+1:Nat):Int):=wrap64 (by omega) (by omega);have w1:ax .i64 (2*(k:Int))=2*(k:Int):=wrap64 (by omega) (by omega);have w2:ax .i64 (6+2*(k:Int))=6+2*(k:Int):=wrap64 (by omega) (by omega);have e2:6+2*(k:Int)=((6+2*k:Nat):Int):=(by omega);have hk64:6+2*k<=64:=(by omega);have sr:∀(s:St)(K:AV->St->Option (AV×St)),aq c (.bin .shr .num) [.int .i64 (x:Int),.int .i64 (6+2*(k:Int))] s K=K (.int .i64 ((x:Int) / 2 ^ (6+2*k))) s:=λs K=>by rw[e2];exact ag6 hk64 s K
    have p0:(0:Int)<=(x:Int) / 2 ^ (6+2*k):=Zs0 hx0 (Int.le_of_lt (Int.pow_pos (by decide)));have r1:=λ(s:St)(K:AV->St->Option (AV×St))=>cV (c:=c) (k:= .i64) (a:=(x:Int) / 2 ^ (6+2*k)) (b:=4) p0 (by decide) s K
    have d1:decide ((x:Int) / 2 ^ (6+2*k) % 4=1)=decide (x / 2 ^ (6+2*k) % 4=1):=(by have:((x:Int) / 2 ^ (6+2*k) % 4=1)↔(x / 2 ^ (6+2*k) % 4=1):=(by rw[show((x:Int) / 2 ^ (6+2*k) % 4)=((x / 2 ^ (6+2*k) % 4:Nat):Int)by simp];omega);exact decide_eq_decide.2 this);have c8:(g.av v)[8]? =some v:=rfl;have fin:=auu x k;have N:=zu hc k (by omega) s hw;have hd:decide ((k:Int)<4)=true:=Za0 (by omega);cases hq:LF x k with
    |   true=>
        have hrl:((ES x k).map Xh).length<=4:=(by rw[Za5];have:=atx x k;omega);obtain⟨s5,v5,a1,a2,a3,a4⟩:=hT.out.push (c:=c) (R:=AV×St) (bytes:=16) (z:=[.str []]) (x:= .str (bP k)) rfl rfl rfl (by decide) (by omega) (by omega);have e:(ES x (k+1)).map Xh=(ES x k).map Xh++[(.str (bP k):AV).cells]:=(by rw[aiy,Zb4 hq,Zc8];rfl);rw[<-e]at a2;have y8:=a3 p8 _ hT.n8 hT.h8;have l8:=hw p8 _ hT.h8;have b8:aK v5≠some p8:=λe=>by have:=a4 _ e;omega
        have hw5:=a2.ai.wf;have l8':=hw5 p8 _ y8;have M:=a2.store (p:=p8) (b:= .cells (g.av v5) 0) h8 l8' b8;obtain⟨vc,v1⟩:=a2.cells;have bD:∀(K:AV->St->Option (AV×St)),aq c (.store 1) [.ptr p8 8,v5] s5 K=K .undef (bg s5 p8 (.cells (g.av v5) 0)):=λK=>by rw[bY c K s5 1 p8 8 v5 (g.av v) y8 (by rw[vc];rfl) (by simp[aR.av]) (by rw[vc];exact v1),vc];rfl
        obtain⟨s',v',b1,b2⟩:=ih (k+1) _ v5 ⟨M,bG _ _ _,b8⟩ (by omega);refine⟨s',v',b1,λF k4 f hf=> ?_⟩;obtain⟨f,rfl⟩:∃g,f=g+1:=⟨f - 1,by omega⟩
        rw[<-b2 F k4 f (by omega),tJ];rw[fin]at hq;simp[-au,hT.h8,hd,dw,sr,r1,d1,hq,c8,N,a1,bD,w,w1,w2]
    |   false=>
        have e:(ES x (k+1))=(ES x k):=(by rw[aiy,Za6 (by rw[hq];decide),Ze1]);obtain⟨s',v',b1,b2⟩:=ih (k+1) s v ⟨by rw[e];exact hT.out,hT.h8,hT.n8⟩ (by omega);refine⟨s',v',b1,λF k4 f hf=> ?_⟩;obtain⟨f,rfl⟩:∃g,f=g+1:=⟨f - 1,by omega⟩
        rw[<-b2 F k4 f (by omega),tJ];rw[fin]at hq;simp[-au,hd,dw,sr,r1,d1,hq,w,w1,w2]
def FO(i:Nat):Nat:=25*i % 312+i / 12
def yF(i x:Nat):aR:=⟨bP (FO i),if x % 2=1 then bP (x % 3)else [],if 4<x % 8 then bP (x % 8)else [],((x % 4*500:Nat):Int),((x % 3:Nat):Int),if x % 3=2 then bP (x % 5)else [],decide (x % 5=0),decide (x % 7=0),true,ES x 4⟩
theorem aiz{es:Nat}{s0 s s':St}{v:AV}{rows:List (List AV)}(h:Mk es s0 s v rows)(hg:Grew s0 s')(hk:∀b x,aK v=some b->s.heap.get b=some x->s'.heap.get b=some x):Mk es s0 s' v rows:=
 ⟨h.jk,hg,h.own.mono hk,h.new,h.row,h.cap,λb hb=>hk b _ hb (h.tight b hb)⟩
structure GL(st s:St)(p4 p5:Pos)(V W:AV)(gs:List aR)(rows:List (List AV)):Prop where
 out:Mk 9 st s V rows
 len:rows.length=gs.length
 dY:∀(i:Nat)(g:aR)(r:List AV),gs[i]? =some g->rows[i]? =some r->∃v,r=g.av v/\Mk 1 st s v (g.tg.map Xh)/\∀b,aK v=some b->aK V≠some b/\b≠p4/\b≠p5
 h4:s.heap.get p4=some (.cells [.af,.af] 0)
 h5:s.heap.get p5=some (.cells [V,W] 0)
 n4:aK V≠some p4
 n5:aK V≠some p5
theorem aty(g:aR){v:AV}(h:aN [v]=true):aN (g.av v)=true:=by
 simp only[aN]at h;unfold aR.av;simp only[aN,AV.one,h,Zk6,Zj5]at*
theorem GL.push{st s s1:St}{p4 p5:Pos}{V W:AV}{gs:List aR}{rows:List (List AV)}(h:GL st s p4 p5 V W gs rows)(Qv:p4≠p5)(IE:st.next.toNat<=p5.toNat){g:aR}{v:AV}(M:Mk 1 s s1 v (g.tg.map Xh))(hlen:rows.length<=1000):
   ∃ s5 s6 V5,(∀(K:AV->St->Option (AV×St)),aq c (.buildSlice 9 1 [.str [],.str [],.str [],.int .i64 0,.int .i64 0,.str [],.bool false,.bool false,.af] [0]) [.agg (g.av v)] s1 (λy t=>aq c (.append 9 112) [V,y] t K)=K V5 s5)/\
     (∀(K:AV->St->Option (AV×St)),aq c (.store 1) [.ptr p5 0,V5] s5 K=K .undef s6)/\s1.heap.get p5=some (.cells [V,W] 0)/\GL st s6 p4 p5 V5 W (gs++[g]) (rows++[g.av v]):=by
 have hw:=h.out.ai.wf;have O1:=h.out.grow M.ai;obtain⟨s5,V5,a1,a2,a3,a4⟩:=O1.push (c:=c) (R:=AV×St) (bytes:=112) (z:=[.str [],.str [],.str [],.int .i64 0,.int .i64 0,.str [],.bool false,.bool false,.af]) (x:= .agg (g.av v)) rfl rfl (aty g M.cells.2) (by decide) (by omega) (by omega);have y4:=a3 p4 _ h.n4 (M.ai.get h.h4);have y5:=a3 p5 _ h.n5 (M.ai.get h.h5);have l4:=hw p4 _ h.h4;have l5:=hw p5 _ h.h5;have nx:=M.ai.next;have b4:aK V5≠some p4:=λe=>by have:=a4 _ e;omega
 have b5:aK V5≠some p5:=λe=>by have:=a4 _ e;omega
 have l5':=a2.ai.wf p5 _ y5;obtain⟨vc,v1⟩:=a2.cells;have bD:∀(K:AV->St->Option (AV×St)),aq c (.store 1) [.ptr p5 0,V5] s5 K=K .undef (bg s5 p5 (.cells [V5,W] 0)):=λK=>by rw[bY c K s5 1 p5 0 V5 [V,W] y5 (by rw[vc];rfl) (by simp) (by rw[vc];exact v1),vc];rfl
 have M6:=a2.store (p:=p5) (b:= .cells [V5,W] 0) IE l5' b5;have Mv:=M.back h.out.jk h.out.ai;have vV:∀b,aK v=some b->aK V≠some b/\b≠p4/\b≠p5:=λb hb=>by
   have p1:=M.new b hb;refine⟨λe=> ?_,λe=> ?_,λe=> ?_⟩
   .have:=h.out.own.lt hw e;omega
   .subst e;omega
   .subst e;omega
 have small:∀(u:AV)(rw:List (List AV)),Mk 1 st s1 u rw->(∀b,aK u=some b->aK V≠some b/\b≠p4/\b≠p5)->Mk 1 st (bg s5 p5 (.cells [V5,W] 0)) u rw/\∀b,aK u=some b->aK V5≠some b/\b≠p4/\b≠p5:=λu rw hu cN=>by
   refine⟨aiz hu M6.ai λb y hb hy=> ?_,λb hb=>⟨λe=> ?_,(cN b hb).2⟩⟩
   .rw[aH (λe=>(cN b hb).2.2 e.symm)];exact a3 b y (cN b hb).1 hy
   .have p1:=a4 b e;have p2:=hu.own.lt hu.ai.wf hb;omega
 refine⟨s5,_,V5,a1,bD,M.ai.get h.h5,⟨M6,by simp[h.len],λi t r hi Xc=> ?_,by rw[aH (λe=>Qv e.symm)];exact y4,bG _ _ _,b4,b5⟩⟩;by_cases EH:i<gs.length
 .rw[Zc5 (by rw[h.len];exact EH)]at Xc;rw[Zc5 EH]at hi;obtain⟨u,e1,e2,e3⟩:=h.dY i t r hi Xc;obtain⟨f1,f2⟩:=small u _ (e2.grow M.ai) e3;exact⟨u,e1,f1,f2⟩
 .have gJ:=(Za1.1 hi).1;simp at gJ;obtain rfl:i=gs.length:=(by omega);rw[Zc4 (by rw[h.len];exact Za3 _)]at Xc;rw[Zc4 (Za3 _)]at hi;simp[h.len]at Xc hi;subst hi;subst Xc;obtain⟨f1,f2⟩:=small v _ Mv vV;exact⟨v,rfl,f1,f2⟩
def eM(k:IntKind)(z:Bool)(l:List Nat):AV:=ro 1 z (l.map λ(i:Nat)=>[.int k (i:Int)])
def Dp(xs:List Nat)(k:Nat):List aR:=(List.range k).map λi=>yF i (xs.getD i 0)
theorem aoD(xs:List Nat)(k:Nat)(h:k<xs.length):Dp xs (k+1)=Dp xs k++[yF k xs[k]]:=by
 unfold Dp;rw[Zg2,Zc8];simp[Za8,h]
theorem Ll(xs:List Nat)(k:Nat):(Dp xs k).length=k:=by simp[Dp]
def zG:List AV:=[.str [],.str [],.str [],.int .i64 0,.int .i64 0,.str [],.bool false,.bool false,.af]
theorem sY(s:St)(K:AV->St->Option (AV×St)):aq c (.alloc [.str [],.str [],.str [],.int .i64 0,.int .i64 0,.str [],.bool false,.bool false,.af]) [] s K=K (.ptr s.next 0) (ah s (.cells zG 0)):=rfl
theorem sZ(nm:List Nat)(u y:Int)(b d:Bool)(s:St)(K:AV->St->Option (AV×St)):aq c (.build [.str [],.str [],.str [],.int .i64 0,.int .i64 0,.str [],.bool false,.bool false,.af] [(0,1),(3,1),(4,1),(6,1),(7,1)]) [.str nm,.int .i64 u,.int .i64 y,.bool b,.bool d] s K=K (.agg [.str nm,.str [],.str [],.int .i64 u,.int .i64 y,.str [],.bool b,.bool d,.af]) s:=rfl
theorem td(nm:List Nat)(u y:Int)(b d:Bool)(s:St)(K:AV->St->Option (AV×St)):aq c (.store 9) [.ptr s.next 0,.agg [.str nm,.str [],.str [],.int .i64 u,.int .i64 y,.str [],.bool b,.bool d,.af]] (ah s (.cells zG 0)) K=K .undef (ah s (.cells [.str nm,.str [],.str [],.int .i64 u,.int .i64 y,.str [],.bool b,.bool d,.af] 0)):=
 cG c K s 9 (.agg [.str nm,.str [],.str [],.int .i64 u,.int .i64 y,.str [],.bool b,.bool d,.af]) zG rfl rfl rfl
theorem vg(nm r ct dt z:List Nat)(u y:Int)(b d:Bool)(s:St)(K:AV->St->Option (AV×St)):aq c (.store 1) [.ptr s.next 1,.str z] (ah s (.cells [.str nm,.str r,.str ct,.int .i64 u,.int .i64 y,.str dt,.bool b,.bool d,.af] 0)) K=K .undef (ah s (.cells [.str nm,.str z,.str ct,.int .i64 u,.int .i64 y,.str dt,.bool b,.bool d,.af] 0)):=mD s _ 1 (.str z) (by simp) rfl rfl K
theorem vh(nm r ct dt z:List Nat)(u y:Int)(b d:Bool)(s:St)(K:AV->St->Option (AV×St)):aq c (.store 1) [.ptr s.next 2,.str z] (ah s (.cells [.str nm,.str r,.str ct,.int .i64 u,.int .i64 y,.str dt,.bool b,.bool d,.af] 0)) K=K .undef (ah s (.cells [.str nm,.str r,.str z,.int .i64 u,.int .i64 y,.str dt,.bool b,.bool d,.af] 0)):=mD s _ 2 (.str z) (by simp) rfl rfl K
theorem vk(nm r ct dt z:List Nat)(u y:Int)(b d:Bool)(s:St)(K:AV->St->Option (AV×St)):aq c (.store 1) [.ptr s.next 5,.str z] (ah s (.cells [.str nm,.str r,.str ct,.int .i64 u,.int .i64 y,.str dt,.bool b,.bool d,.af] 0)) K=K .undef (ah s (.cells [.str nm,.str r,.str ct,.int .i64 u,.int .i64 y,.str z,.bool b,.bool d,.af] 0)):=mD s _ 5 (.str z) (by simp) rfl rfl K
theorem ae0(i x:Nat)(v:AV):(yF i x).av v=[.str (bP (FO i)),.str (if x % 2=1 then bP (x % 3)else []),.str (if 4<x % 8 then bP (x % 8)else []),.int .i64 ((x % 4*500:Nat):Int),.int .i64 ((x % 3:Nat):Int),.str (if x % 3=2 then bP (x % 5)else []),.bool (decide (x % 5=0)),.bool (decide (x % 7=0)),v]:=rfl
theorem ajl(hc:bH c){xs:List Nat}(hx:∀x∈xs,x<65536)(z:Bool)(x1:AV){st s:St}{p4 p5:Pos}(Qv:p4≠p5)(IE:st.next.toNat<=p5.toNat){V W:AV}{rows:List (List AV)}{k:Nat}(hk:k<xs.length)(hk12:k<12)
   (h:GL st s p4 p5 V W (Dp xs k) rows):∃s' V' vL,GL st s' p4 p5 V' W (Dp xs (k+1)) vL/\∀(F:Nat)(_:5<=F)(k2:List AV->St->Option (AV×St))(f:Nat),
     fZ c F k2 (f+1) [eM .u16 z xs,x1,.ptr p4 0,.ptr p5 0,.int .i64 (k:Int)] s=fZ c F k2 f [eM .u16 z xs,x1,.ptr p4 0,.ptr p5 0,.int .i64 ((k+1:Nat):Int)] s':=by
 have hw:=h.out.ai.wf;have hx1:=hx _ (Zb8 hk);generalize LG:xs[k]=x at hx1;have M0:Mk 1 s (ah s (.cells ((yF k x).av .af) 0)) .af []:=Mk.start hw (Grew.ah hw _);obtain⟨s1,v1,hG,L⟩:=ajk hc (g:=yF k x) (x:=x) (by omega) (s0:=s) (p8:=s.next) (Za3 _) (eM .u16 z xs) x1 (.ptr p4 0) (.ptr p5 0) (.int .i64 (k:Int)) 4 0 _ .af ⟨M0,aA _ _,λe=>(nomatch e)⟩ rfl;have M:Mk 1 s s1 v1 ((yF k x).tg.map Xh):=hG.out;obtain⟨s5,s6,V5,a1,a2,a3,a4⟩:=h.push (c:=c) Qv IE M (by rw[h.len,Ll];omega);have e:Dp xs k++[yF k x]=Dp xs (k+1):=by rw[aoD xs k hk,LG]
 rw[e]at a4;refine⟨s6,V5,_,a4,λF hF k2 f=> ?_⟩;have L':∀k4:List AV->St->Option (AV×St),iE c F k4 F [eM .u16 z xs,x1,.ptr p4 0,.ptr p5 0,.int .i64 (k:Int),.int .i64 (x:Int),.ptr s.next 0,.int .i64 0] (ah s (.cells ((yF k x).av .af) 0))=k4 [eM .u16 z xs,x1,.ptr p4 0,.ptr p5 0,.int .i64 (k:Int),.ptr s.next 0] s1:=λk4=>L F k4 F (by omega)
 clear a4 M M0 L;have lI:∀(K:AV->St->Option (AV×St))(s:St),aq c (.lenB .l) [eM .u16 z xs] s K=K (.int .i64 (xs.length:Int)) s:=λK s=>by unfold eM;rw[jv];simp
 have ix:∀(K:AV->St->Option (AV×St))(s:St),aq c (.idxA 1 none) [eM .u16 z xs,.int .i64 (k:Int)] s K=K (.fp (xs.map λ(i:Nat)=>[.int .u16 (i:Int)]) k 0) s:=λK s=>by unfold eM;rw[aaF];simp[hk]
 have ld:((xs.map λ(i:Nat)=>[AV.int .u16 (i:Int)])[k]?.bind λcs=>cs[0]?)=some (.int .u16 (x:Int)):=by simp[hk,LG]
 have w0:ax .i64 (x:Int)=(x:Int):=wrap64 (by omega) (by omega);have N1:=zu hc (FO k) (by unfold FO;omega) s hw;have ET:cut ((yF k x).av v1) 0 9=some ((yF k x).av v1):=cQ rfl;have N2:∀(b:AB)(j:Nat)(i:Int),i=(j:Int)->j<1000000->c 86 [.int .i64 i] (ah s b)=some (.str (bP j),ah s b):=λb j i e hj=>by rw[e];exact zu hc j hj _ (bF hw)
 have N3:=λb=>N2 b (x % 3) ((x:Int) % 3) (by omega) (by omega)
 have N8:=λb=>N2 b (x % 8) ((x:Int) % 8) (by omega) (by omega)
 have N5:=λb=>N2 b (x % 5) ((x:Int) % 5) (by omega) (by omega)
 have eg:25*(k:Int) % 312+(k:Int) / 12=((FO k:Nat):Int):=by unfold FO;omega
 rw[<-eg]at N1;have Xi:decide ((k:Int)<12)=true:=Za0 (by omega);have d5:decide ((x:Int) % 5=0)=decide (x % 5=0):=decide_eq_decide.2 (by omega);have d7:decide ((x:Int) % 7=0)=decide (x % 7=0):=decide_eq_decide.2 (by omega);have u4:((x % 4*500:Nat):Int)=(x:Int) % 4*500:=by omega
 have u3:((x % 3:Nat):Int)=(x:Int) % 3:=by omega
 simp only[ae0]at a1 L' hG ET;clear N2;have h8:=hG.h8;rw[ae0]at h8;rw[u4,u3]at L' h8 a1 ET;rw[AI];by_cases c1:x % 2=1
 . by_cases c2:4<x % 8
   . by_cases c3:x % 3=2
     .  have e1:decide ((x:Int) % 2=1)=true:=Za0 (by omega);have e2:decide (4<(x:Int) % 8)=true:=Za0 (by omega);have e3:decide ((x:Int) % 3=2)=true:=Za0 (by omega);simp only[Zb4 c1,Zb4 c2,Zb4 c3]at L' h8 a1 ET;simp (maxSteps:=2000000) (disch:=omega) [-au,-ig,-dB,-gQ,-od,sY,sZ,td,vg,vh,vk,lI,ix,ld,hk,LG,Za4,Xi,sP,w0,cV,iw,wrap64,N1,N3,N8,N5,d5,d7,e1,e2,e3,dw,L',a1,a2,a3,h8,ET]
     .  have e1:decide ((x:Int) % 2=1)=true:=Za0 (by omega);have e2:decide (4<(x:Int) % 8)=true:=Za0 (by omega);have e3:decide ((x:Int) % 3=2)=false:=Za2 (by omega);simp only[Zb4 c1,Zb4 c2,Za6 c3]at L' h8 a1 ET;simp (maxSteps:=2000000) (disch:=omega) [-au,-ig,-dB,-gQ,-od,sY,sZ,td,vg,vh,vk,lI,ix,ld,hk,LG,Za4,Xi,sP,w0,cV,iw,wrap64,N1,N3,N8,N5,d5,d7,e1,e2,e3,dw,L',a1,a2,a3,h8,ET]
   . by_cases c3:x % 3=2
     .  have e1:decide ((x:Int) % 2=1)=true:=Za0 (by omega);have e2:decide (4<(x:Int) % 8)=false:=Za2 (by omega);have e3:decide ((x:Int) % 3=2)=true:=Za0 (by omega);simp only[Zb4 c1,Za6 c2,Zb4 c3]at L' h8 a1 ET;simp (maxSteps:=2000000) (disch:=omega) [-au,-ig,-dB,-gQ,-od,sY,sZ,td,vg,vh,vk,lI,ix,ld,hk,LG,Za4,Xi,sP,w0,cV,iw,wrap64,N1,N3,N8,N5,d5,d7,e1,e2,e3,dw,L',a1,a2,a3,h8,ET]
     .  have e1:decide ((x:Int) % 2=1)=true:=Za0 (by omega);have e2:decide (4<(x:Int) % 8)=false:=Za2 (by omega);have e3:decide ((x:Int) % 3=2)=false:=Za2 (by omega);simp only[Zb4 c1,Za6 c2,Za6 c3]at L' h8 a1 ET;simp (maxSteps:=2000000) (disch:=omega) [-au,-ig,-dB,-gQ,-od,sY,sZ,td,vg,vh,vk,lI,ix,ld,hk,LG,Za4,Xi,sP,w0,cV,iw,wrap64,N1,N3,N8,N5,d5,d7,e1,e2,e3,dw,L',a1,a2,a3,h8,ET]
 . by_cases c2:4<x % 8
   . by_cases c3:x % 3=2
     .  have e1:decide ((x:Int) % 2=1)=false:=Za2 (by omega);have e2:decide (4<(x:Int) % 8)=true:=Za0 (by omega);have e3:decide ((x:Int) % 3=2)=true:=Za0 (by omega);simp only[Za6 c1,Zb4 c2,Zb4 c3]at L' h8 a1 ET;simp (maxSteps:=2000000) (disch:=omega) [-au,-ig,-dB,-gQ,-od,sY,sZ,td,vg,vh,vk,lI,ix,ld,hk,LG,Za4,Xi,sP,w0,cV,iw,wrap64,N1,N3,N8,N5,d5,d7,e1,e2,e3,dw,L',a1,a2,a3,h8,ET]
     .  have e1:decide ((x:Int) % 2=1)=false:=Za2 (by omega);have e2:decide (4<(x:Int) % 8)=true:=Za0 (by omega);have e3:decide ((x:Int) % 3=2)=false:=Za2 (by omega);simp only[Za6 c1,Zb4 c2,Za6 c3]at L' h8 a1 ET;simp (maxSteps:=2000000) (disch:=omega) [-au,-ig,-dB,-gQ,-od,sY,sZ,td,vg,vh,vk,lI,ix,ld,hk,LG,Za4,Xi,sP,w0,cV,iw,wrap64,N1,N3,N8,N5,d5,d7,e1,e2,e3,dw,L',a1,a2,a3,h8,ET]
   . by_cases c3:x % 3=2
     .  have e1:decide ((x:Int) % 2=1)=false:=Za2 (by omega);have e2:decide (4<(x:Int) % 8)=false:=Za2 (by omega);have e3:decide ((x:Int) % 3=2)=true:=Za0 (by omega);simp only[Za6 c1,Za6 c2,Zb4 c3]at L' h8 a1 ET;simp (maxSteps:=2000000) (disch:=omega) [-au,-ig,-dB,-gQ,-od,sY,sZ,td,vg,vh,vk,lI,ix,ld,hk,LG,Za4,Xi,sP,w0,cV,iw,wrap64,N1,N3,N8,N5,d5,d7,e1,e2,e3,dw,L',a1,a2,a3,h8,ET]
     .  have e1:decide ((x:Int) % 2=1)=false:=Za2 (by omega);have e2:decide (4<(x:Int) % 8)=false:=Za2 (by omega);have e3:decide ((x:Int) % 3=2)=false:=Za2 (by omega);simp only[Za6 c1,Za6 c2,Za6 c3]at L' h8 a1 ET;simp (maxSteps:=2000000) (disch:=omega) [-au,-ig,-dB,-gQ,-od,sY,sZ,td,vg,vh,vk,lI,ix,ld,hk,LG,Za4,Xi,sP,w0,cV,iw,wrap64,N1,N3,N8,N5,d5,d7,e1,e2,e3,dw,L',a1,a2,a3,h8,ET]
def j8(i x:Nat):aB:=⟨fy i,((oZ x:Nat):Int),((tA x:Nat):Int),((tB x:Nat):Int),true,(Da x (tN x)).map λ(k:Nat)=>(k:Int),((x:Nat):Int),255 - ((x:Nat):Int)⟩
def rJ(xs:List Nat)(k:Nat):List aB:=(List.range k).map λi=>j8 i (xs.getD i 0)
theorem aoE(xs:List Nat)(k:Nat)(h:k<xs.length):rJ xs (k+1)=rJ xs k++[j8 k xs[k]]:=by
 unfold rJ;rw[Zg2,Zc8];simp[Za8,h]
theorem Sg(xs:List Nat)(k:Nat):(rJ xs k).length=k:=by simp[rJ]
def j6(xs:List Nat):Nat->Nat
 |0=>0
 |k+1=>j6 xs k+tN (xs.getD k 0)
theorem ae1(xs:List Nat):∀k,j6 xs k<=k*16
 |0=>Za3 _
 |k+1=>by have:=ae1 xs k;have:=ach (xs.getD k 0);unfold j6;omega
theorem amh(i x:Nat)(v:AV):(j8 i x).av v=gR (fy i) (oZ x:Nat) (tA x:Nat) (tB x:Nat) x v:=rfl
theorem arh(i x:Nat):(j8 i x).kA.map bJ=(Da x (tN x)).map ad6:=by unfold j8;rw[Zh8];rfl
theorem QS.owner{es:Nat}{s:St}{v:AV}{rows:List (List AV)}(h:QS es s v rows)(h0:rows≠[]):∃b,aK v=some b:=by
 rcases h with⟨_,e⟩|⟨b,off,cap,cs,rfl,_⟩|⟨b,off,_,e⟩
 .exact absurd e h0
 . (refine⟨b,?_⟩;have:rows.length≠0:=λe=>h0 (Zc0 e));simp only[aK];rw[Za6 (λe=>this e.2)]
 .exact absurd e h0
structure LL(st sA s:St)(p3:Pos)(es:Nat)(V:AV)(rows:List (List AV))(W:AV->List AV):Prop where
 out:Mk es st s V rows
 kx:KX p3 sA s
 h3:s.heap.get p3=some (.cells (W V) 0)
 since:∀b,aK V=some b->sA.next.toNat<=b.toNat
theorem LL.ai{st sA s s':St}{p3:Pos}{es:Nat}{V:AV}{rows:List (List AV)}{W:AV->List AV}(h:LL st sA s p3 es V rows W)(g:Grew s s'):LL st sA s' p3 es V rows W:=
 ⟨h.out.grow g,h.kx.ai g,g.get h.h3,h.since⟩
theorem LL.push{st sA s:St}{p3:Pos}{es bytes i:Nat}{V:AV}{rows:List (List AV)}{W:AV->List AV}(h:LL st sA s p3 es V rows W)(hA:Wf sA)(ZU:p3.toNat<sA.next.toNat)(iY:st.next.toNat<=p3.toNat)(hi:∀A B,(W A).set i B=W B)(gJ:∀A,i<(W A).length)
   {z:List AV} {x:AV} (hz:z.length=es) (hx:x.cells.length=es) (h1:aN x.cells=true) (dW:es≠0) (hb:(2*(rows.length+1)+768)*bytes<=281474976710656) (hn:rows.length<=4000000):
   ∃s5 s6 V5,(∀(K:AV->St->Option (AV×St)),aq c (.buildSlice es 1 z [0]) [x] s (λy q=>aq c (.append es bytes) [V,y] q K)=K V5 s5)/\(∀(K:AV->St->Option (AV×St)),aq c (.store 1) [.ptr p3 i,V5] s5 K=K .undef s6)/\
    LL st sA s6 p3 es V5 (rows++[x.cells]) W/\(∀(p:Pos)(b:AB),p≠p3->aK V≠some p->s.heap.get p=some b->s6.heap.get p=some b)/\(∀b,aK V5=some b->s.next.toNat<=b.toNat)/\s.next.toNat<=s6.next.toNat/\s5.heap.get p3=some (.cells (W V) 0):=by
 have hw:=h.out.ai.wf;obtain⟨s5,V5,a1,a2,a3,a4⟩:=h.out.push (c:=c) (R:=AV×St) (bytes:=bytes) hz hx h1 dW hb hn;have nV:aK V≠some p3:=λe=>by have:=h.since _ e;omega
 have y3:=a3 p3 _ nV h.h3;have n5:aK V5≠some p3:=λe=>by have:=a4 _ e;have:=hw _ _ h.h3;omega
 have l3:=a2.ai.wf p3 _ y3;obtain⟨vc,v1⟩:=a2.cells;obtain⟨b,hbo⟩:=QS.owner a2.own (by simp);have nx:s.next.toNat<=s5.next.toNat:=by have:=a4 b hbo;have:=a2.own.lt a2.ai.wf hbo;omega
 refine⟨s5,bg s5 p3 (.cells (W V5) 0),V5,a1,λK=> ?_,⟨a2.store iY l3 n5,?_,bG _ _ _,λb hb=> ?_⟩,λp b hp hv hg=> ?_,a4,nx,y3⟩
 .rw[bY c K s5 1 p3 i V5 (W V) y3 (by rw[vc];rfl) (by have:=gJ V;omega) (by rw[vc];exact v1),vc];rw[zj _ _ (gJ V),hi]
 .refine KX.store ⟨a2.ai.wf,Zb3 h.kx.next nx,λq y hq hy=> ?_⟩ l3 _;refine a3 q y (λe=> ?_) (h.kx.keep q y hq hy);have:=h.since _ e;have:=hA _ _ hy;omega
 .have:=a4 b hb;have:=h.kx.next;omega
 .rw[aH (λe=>hp e.symm)];exact a3 p b hv hg
structure TL(st sA s:St)(p3:Pos)(V:AV)(ts:List aB)(rows:List (List AV))(W:AV->List AV):Prop where
 tab:TS st s V ts rows
 kx:KX p3 sA s
 h3:s.heap.get p3=some (.cells (W V) 0)
 since:TS.Since sA.next.toNat V rows
theorem TL.push{st sA s:St}{p3:Pos}{i:Nat}{V:AV}{ts:List aB}{rows:List (List AV)}{W:AV->List AV}(h:TL st sA s p3 V ts rows W)(hA:Wf sA)(ZU:p3.toNat<sA.next.toNat)(iY:st.next.toNat<=p3.toNat)(hi:∀A B,(W A).set i B=W B)(gJ:∀A,i<(W A).length)
   {t:aB} {v:AV} (M:Mk 1 st s v (t.kA.map bJ)) (hv:∀b,aK v=some b->aK V≠some b) (OJ:∀b,aK v=some b->sA.next.toNat<=b.toNat) (hlen:ts.length<=1000):
   ∃ s5 s6 V5,(∀(K:AV->St->Option (AV×St)),aq c (.buildSlice 7 1 [.str [],.int .u8 0,.int .i64 0,.int .i64 0,.af,.int .i64 0,.int .i64 0] [0]) [.agg (t.av v)] s (λy q=>aq c (.append 7 80) [V,y] q K)=K V5 s5)/\
     (∀(K:AV->St->Option (AV×St)),aq c (.store 1) [.ptr p3 i,V5] s5 K=K .undef s6)/\TL st sA s6 p3 V5 (ts++[t]) (rows++[t.av v]) W/\(∀(p:Pos)(b:AB),p≠p3->aK V≠some p->s.heap.get p=some b->s6.heap.get p=some b)/\s5.heap.get p3=some (.cells (W V) 0):=by
 have hw:=h.tab.out.ai.wf;obtain⟨s5,V5,a1,a2,a3,a4⟩:=h.tab.push (c:=c) M hv hlen;have nV:aK V≠some p3:=λe=>by have:=h.since.1 _ e;omega
 have y3:=a3 p3 _ nV h.h3;have l3:=a2.out.ai.wf p3 _ y3;obtain⟨vc,v1⟩:=a2.out.cells;obtain⟨b,hbo⟩:=QS.owner a2.out.own (by simp);have nx:s.next.toNat<=s5.next.toNat:=by have:=a4 b hbo;have:=a2.out.own.lt a2.out.ai.wf hbo;omega
 have sn:TS.Since sA.next.toNat V5 (rows++[t.av v]):=by
   refine⟨λb hb=>by have:=a4 b hb;have:=h.kx.next;omega,λj r u b hr h4 hb=> ?_⟩;by_cases hj:j<rows.length
   .rw[Zc5 hj]at hr;exact h.since.2 j r u b hr h4 hb
   .have hjl:=(Za1.1 hr).1;simp at hjl;obtain rfl:j=rows.length:=(by omega);rw[Zc4 (Za3 _)]at hr;simp at hr;subst hr;have:v=u:=(by simpa [aB.av]using h4);subst this;exact OJ b hb
 have k5:KX p3 sA s5:=⟨a2.out.ai.wf,Zb3 h.kx.next nx,λq y hq hy=>a3 q y (λe=>by
   have:=h.since.1 _ e;have:=hA _ _ hy;omega) (h.kx.keep q y hq hy)⟩
 have kS:KX p3 s5 (bg s5 p3 (.cells (W V5) 0)):=(KX.refl a2.out.ai.wf).store l3 _;have sn3:TS.Since (p3.toNat+1) V5 (rows++[t.av v]):=⟨λb hb=>by have:=sn.1 b hb;omega,λj r u b h1 h2 h3=>by have:=sn.2 j r u b h1 h2 h3;omega⟩
 refine⟨s5,bg s5 p3 (.cells (W V5) 0),V5,a1,λK=> ?_,⟨a2.kx kS (vF h.tab.out.jk a2.out.ai iY l3 _) sn3,k5.store l3 _,bG _ _ _,sn⟩,λp b hp hv hg=> ?_,y3⟩
 .rw[bY c K s5 1 p3 i V5 (W V) y3 (by rw[vc];rfl) (by have:=gJ V;omega) (by rw[vc];exact v1),vc];rw[zj _ _ (gJ V),hi]
 .rw[aH (λe=>hp e.symm)];exact a3 p b hv hg
def jE(zt zg zy zr:Bool)(xt xg xy xr:List Nat):List AV:=[eM .u8 zt xt,eM .u16 zg xg,eM .u8 zy xy,eM .u32 zr xr]
theorem SP{R:Type}(k:IntKind)(z:Bool)(l:List Nat)(K:AV->St->Option R)(s:St):aq c (.lenB .l) [eM k z l] s K=K (.int .i64 (l.length:Int)) s:=by unfold eM;rw[jv];simp
theorem akn{R:Type}(k k':IntKind)(z:Bool)(l:List Nat){i:Nat}(h:i<l.length)(K:AV->St->Option R)(s:St):aq c (.idxA 1 none) [eM k z l,.int k' (i:Int)] s (λv s'=>aq c (.load none) [v] s' K)=K (.int k (l[i]:Int)) s:=by
 unfold eM;simp[h]
theorem avi{a b d:Nat}(h:d=a+b)(hl:a+b<=1000000):ax .i64 ((a:Int)+(b:Int))=(d:Int):=(wrap64 (by omega) (by omega)).trans (by omega)
theorem aoF(hc:bH c){xt:List Nat}(hx:∀x∈xt,x<256){zt zg zy zr:Bool}{xg xy xr:List Nat}{st sA s:St}{p1 p3:Pos}{V x2:AV}{rows:List (List AV)}(hA:Wf sA)(h1A:sA.heap.get p1=some (.cells (jE zt zg zy zr xt xg xy xr) 0))(h13:p1≠p3)(ZU:p3.toNat<sA.next.toNat)(iY:st.next.toNat<=p3.toNat)
  {k:Nat} (hk:k<xt.length) (Dj:k<3) (h:TL st sA s p3 V (rJ xt k) rows (λV=>[V,.af,.af,.af,.af])):
  ∃s' V' vL,TL st sA s' p3 V' (rJ xt (k+1)) vL (λV=>[V,.af,.af,.af,.af])/\∀(F:Nat)(k2:List AV->St->Option (AV×St))(f:Nat),
   gh c F k2 (f+1) [.ptr p1 0,x2,.ptr p3 0,.int .i64 (j6 xt k:Int),.int .i64 (k:Int)] s=gh c F k2 f [.ptr p1 0,x2,.ptr p3 0,.int .i64 (j6 xt (k+1):Int),.int .i64 ((k+1:Nat):Int)] s':=by
 have LG:=hx _ (Zb8 hk);have d1:decide ((k:Int)<(xt.length:Int))=true:=Za0 (by omega);have d2:decide ((k:Int)<3)=true:=Za0 (by omega);have w2:ax .i64 ((k:Int)+1)=((k+1:Nat):Int):=wrap64 (by omega) (by omega);have w3:ax .i64 (xt[k]:Int)=(xt[k]:Int):=wrap64 (by omega) (by omega);have hw:=h.tab.out.ai.wf;have h1:=h.kx.keep p1 _ h13 h1A;obtain⟨v,s1,C,M⟩:=arb hc k xt[k] (by omega) LG s hw;have g1:=M.ai;have gn:=Grew.ah g1.wf (.cells ((j8 k xt[k]).av v) 0);have hM:Mk 1 st (ah s1 (.cells ((j8 k xt[k]).av v) 0)) v ((j8 k xt[k]).kA.map bJ):=by rw[arh];exact(M.back h.tab.out.jk h.tab.out.ai).grow gn
 have T1:TL st sA (ah s1 (.cells ((j8 k xt[k]).av v) 0)) p3 V (rJ xt k) rows (λV=>[V,.af,.af,.af,.af]):=
  ⟨h.tab.qO (h.tab.out.ai.trans (g1.trans gn)) λb x _ _ hb=>gn.get (g1.get hb),h.kx.ai (g1.trans gn),gn.get (g1.get h.h3),h.since⟩
 obtain⟨s5,s6,V5,a1,a2,a3,a4,a5⟩:=T1.push (c:=c) (i:=0) hA ZU iY (λA B=>rfl) (λA=>by simp) hM (λb hb e=>by
  have p1:=M.new b hb;have p2:=h.tab.out.own.lt hw e;omega) (λb hb=>by have:=M.new b hb;have:=h.kx.next;omega) (by rw[Sg];omega)
 have p6:s6.heap.get s1.next=some (.cells ((j8 k xt[k]).av v) 0):=a4 s1.next _ (λe=>by have:=h.kx.next;have:=g1.next;rw[<-e]at ZU;omega) (λe=>by
  have p2:=h.tab.out.own.lt hw e;have:=g1.next;omega) (aA _ _)
 have e:=aoE xt k hk;rw[<-e]at a3;refine⟨s6,V5,_,a3,λF k2 f=> ?_⟩;have hs:=Lg hc (l:=(j8 k xt[k]).av v) (sh:=((oZ xt[k]:Nat):Int)) (a:=((tA xt[k]:Nat):Int)) (b:=((tB xt[k]:Nat):Int)) rfl rfl rfl (by have:=af1 xt[k];omega) (by have:=af2 xt[k];omega) s6 a3.tab.out.ai.wf;rw[YE]at hs;have hS:j6 xt (k+1)=j6 xt k+tN xt[k]:=by
  rw[j6];simp[Za8,hk]
 have w1:ax .i64 ((j6 xt k:Int)+(tN xt[k]:Int))=((j6 xt (k+1):Nat):Int):=avi hS (by have:=ae1 xt k;have:=ach xt[k];exact Zb3 (Nat.add_le_add ‹_› ‹_›) (by omega));have lI:=λ(K:AV->St->Option (AV×St))(s:St)=>SP (c:=c) .u8 zt xt K s
 have aI:=λ(K:AV->St->Option (AV×St))(s:St)=>akn (c:=c) .u8 .i64 zt xt hk K s
 have c0:(jE zt zg zy zr xt xg xy xr)[0]? =some (eM .u8 zt xt):=rfl;have cu:cut ((j8 k xt[k]).av v) 0 7=some ((j8 k xt[k]).av v):=cQ rfl;rw[<-amh]at C;have Qw:∀(K:AV->St->Option (AV×St)),aq c (.store 7) [.ptr s1.next 0,.agg ((j8 k xt[k]).av v)] (ah s1 (.cells [.str [],.int .u8 0,.int .i64 0,.int .i64 0,.af,.int .i64 0,.int .i64 0] 0)) K=K .undef (ah s1 (.cells ((j8 k xt[k]).av v) 0)):=λK=>cG c K s1 7 (.agg ((j8 k xt[k]).av v)) [.str [],.int .u8 0,.int .i64 0,.int .i64 0,.af,.int .i64 0,.int .i64 0] rfl rfl ((j8 k xt[k]).Le M.cells.2)
 have h3n:=T1.h3;have g6:=aA s1 (.cells ((j8 k xt[k]).av v) 0);generalize (j8 k xt[k]).av v=tc at*
 generalize j6 xt (k+1)=S1 at*
 clear hS e T1 a3 a4 hM M h;rw[AK];simp (disch:=omega) [-au,Za4,h1,lI,aI,c0,hk,Dj,d1,d2,w3,C,Qw,h3n,g6,cu,a1,a2,a5,p6,hs,w1,w2]
theorem aoG(hc:bH c){xt:List Nat}(hx:∀x∈xt,x<256)(hl:xt.length<=9223372036854775807){zt zg zy zr:Bool}{xg xy xr:List Nat}{st sA:St}{p1 p3:Pos}{x2:AV}(hA:Wf sA)(h1A:sA.heap.get p1=some (.cells (jE zt zg zy zr xt xg xy xr) 0))(h13:p1≠p3)(ZU:p3.toNat<sA.next.toNat)(iY:st.next.toNat<=p3.toNat):
  ∀(m k:Nat)(s:St)(V:AV)(rows:List (List AV)),k+m=min xt.length 3->TL st sA s p3 V (rJ xt k) rows (λV=>[V,.af,.af,.af,.af])->
  ∃ s' V' vL,TL st sA s' p3 V' (rJ xt (min xt.length 3)) vL (λV=>[V,.af,.af,.af,.af])/\∀(F:Nat)(k2:List AV->St->Option (AV×St))(f:Nat),m<f->
    gh c F k2 f [.ptr p1 0,x2,.ptr p3 0,.int .i64 (j6 xt k:Int),.int .i64 (k:Int)] s=k2 [.ptr p1 0,x2,.ptr p3 0,.int .i64 (j6 xt (min xt.length 3):Int)] s':=by
 intro m;induction m with
 |zero=>
  intro k s V rows hk h;obtain rfl:k=min xt.length 3:=by omega
  refine⟨s,V,rows,h,λF k2 f hf=> ?_⟩;obtain⟨f,rfl⟩:∃g,f=g+1:=⟨f - 1,by omega⟩
  have h1:=h.kx.keep p1 _ h13 h1A;have c0:(jE zt zg zy zr xt xg xy xr)[0]? =some (eM .u8 zt xt):=rfl;have lI:=λ(K:AV->St->Option (AV×St))(s:St)=>SP (c:=c) .u8 zt xt K s
  generalize j6 xt (min xt.length 3)=S at*
  rw[AK];by_cases h3:xt.length<=3
  .have e:min xt.length 3=xt.length:=(by omega);rw[e];simp[h1,c0,lI]
  .have e:min xt.length 3=3:=(by omega);have hd:decide ((3:Int)<(xt.length:Int))=true:=Za0 (by omega);rw[e];simp[h1,c0,lI,hd]
 |succ m ih=>
  intro k s V rows hk h;obtain⟨s1,V1,r1,h1,e1⟩:=aoF (x2:=x2) hc hx hA h1A h13 ZU iY (k:=k) (by omega) (by omega) h;obtain⟨s2,V2,r2,h2,e2⟩:=ih (k+1) s1 V1 r1 (by omega) h1;refine⟨s2,V2,r2,h2,λF k2 f hf=> ?_⟩;obtain⟨f,rfl⟩:∃g,f=g+1:=⟨f - 1,by omega⟩
  rw[e1 F k2 f,e2 F k2 f (by omega)]
theorem aiA{k:Nat}(h:k<=1000000):ax .i64 ((k:Int)+1)=((k+1:Nat):Int):=wrap64 (by omega) (by omega)
theorem ami{x:Nat}(h:x<=4294967296):ax .i64 (x:Int)=(x:Int):=wrap64 (by omega) (by omega)
def FP(xg:List Nat)(k:Nat):List Int:=(List.range k).map λi=>((xg.getD i 0 / 3 % 4:Nat):Int)
theorem aoH(xg:List Nat)(k:Nat)(h:k<xg.length):FP xg (k+1)=FP xg k++[((xg[k] / 3 % 4:Nat):Int)]:=by
 unfold FP;rw[Zg2,Zc8];simp[Za8,h]
theorem Lj(xg:List Nat)(k:Nat):(FP xg k).length=k:=by simp[FP]
theorem amj{xg:List Nat}(hx:∀x∈xg,x<65536){zt zg zy zr:Bool}{xt xy xr:List Nat}{st sA:St}{p1 p3:Pos}{x2 V1 V2 V3:AV}{n:Nat}(hn:n<=xg.length)(GF:n<=1000)(hA:Wf sA)(h1A:sA.heap.get p1=some (.cells (jE zt zg zy zr xt xg xy xr) 0))(h13:p1≠p3)(ZU:p3.toNat<sA.next.toNat)(iY:st.next.toNat<=p3.toNat)
  (l2:∀(K:AV->St->Option (AV×St))(s':St),aq c (.lenB .l) [V2] s' K=K (.int .i64 (n:Int)) s'):
  ∀(m k:Nat)(s:St)(V:AV),k+m=n->LL st sA s p3 1 V ((FP xg k).map bJ) (λA=>[V1,V2,V3,A,.af])->
  ∃s' V',LL st sA s' p3 1 V' ((FP xg n).map bJ) (λA=>[V1,V2,V3,A,.af])/\∀(F:Nat)(k4:List AV->St->Option (AV×St))(f:Nat),m<f->
   jR c F k4 f [.ptr p1 0,x2,.ptr p3 0,.int .i64 (k:Int)] s=k4 [.ptr p1 0,x2,.ptr p3 0] s':=by
 intro m;induction m with
 |zero=>
  intro k s V hk h;obtain rfl:k=n:=by omega
  refine⟨s,V,h,λF k4 f hf=> ?_⟩;obtain⟨f,rfl⟩:∃g,f=g+1:=⟨f - 1,by omega⟩
  rw[AL];simp[h.h3,l2]
 |succ m ih=>
  intro k s V hk h;have hkn:k<n:=by omega
  have Li:k<xg.length:=by omega
  have LG:=hx _ (Zb8 Li);obtain⟨v,hv⟩:∃v:Nat,v=xg[k] / 3 % 4:=⟨_,rfl⟩
  have E:(xg[k]:Int) / 3 % 4=(v:Int):=by omega
  have h1:=h.kx.keep p1 _ h13 h1A;obtain⟨s5,s6,V5,a1,a2,a3,a4,a5,a6,a7⟩:=h.push (c:=c) (bytes:=8) (i:=3) (z:=[.int .i64 0]) (x:= .int .i64 (v:Int)) hA ZU iY (λA B=>rfl) (λA=>by simp) rfl rfl rfl (by decide) (by rw[Za5,Lj];omega) (by rw[Za5,Lj];omega);have e:(FP xg k).map bJ++[(.int .i64 (v:Int):AV).cells]=(FP xg (k+1)).map bJ:=by rw[aoH xg k Li,Zc8,hv];rfl
  rw[e]at a3;obtain⟨s7,V7,b1,b2⟩:=ih (k+1) s6 V5 (by omega) a3;refine⟨s7,V7,b1,λF k4 f hf=> ?_⟩;obtain⟨f,rfl⟩:∃g,f=g+1:=⟨f - 1,by omega⟩
  have b3:=b2 F k4 f (by omega);have aI:=λ(K:AV->St->Option (AV×St))(s:St)=>akn (c:=c) .u16 .i64 zg xg Li K s
  have c1:(jE zt zg zy zr xt xg xy xr)[1]? =some (eM .u16 zg xg):=rfl;have h3n:=h.h3;clear b2 ih a3 a4 a5 a6 e hv;have k6:k<=1000000:=by omega
  have x6:xg[k]<=4294967296:=by omega
  have w2:=aiA k6;have w3:=ami x6;rw[<-b3,AL];simp (disch:=omega) [-au,-gQ,-od,cV,iw,Za4,Zb6,h1,h3n,l2,aI,c1,hkn,w3,E,a1,a2,a7,w2]
def Br(ts:List aB)(gs:List aR)(xr:List Nat):Nat->List Rl
 |0=>[]
 |k+1=>Br ts gs xr k++(if(gZ ts gs (xr.getD k 0)).2=true then [(gZ ts gs (xr.getD k 0)).1]else [])
theorem Si(ts:List aB)(gs:List aR)(xr:List Nat):∀k,(Br ts gs xr k).length<=k
 |0=>Za3 _
 |k+1=>by have:=Si ts gs xr k;unfold Br;rw[Zd8];split<;>simp<;>omega
theorem ari{R:Type}(k k':IntKind)(z:Bool)(l:List Nat){i:Nat}(h:i<l.length)(K:AV->Option R)(t:T AB):fq (.idxA 1 none) [eM k z l,.int k' (i:Int)] (λv=>jt (.load none) [v] t (λ_=>true) K)=K (.int k (l[i]:Int)):=by
 unfold eM;simp[h]
theorem arj{R:Type}(s:St)(K:AV->AB->Option R):TA (.alloc [.int .u8 0,.int .i64 0,.str [],.str [],.str [],.int .i64 0]) [] s K=K (.ptr s.next 0) (.cells [.int .u8 0,.int .i64 0,.str [],.str [],.str [],.int .i64 0] 0):=rfl
theorem amk(hc:bH c){xr:List Nat}(hx:∀x∈xr,x<4294967296)(hl:xr.length<=9223372036854775807){zt zg zy zr:Bool}{xt xg xy:List Nat}{st sA:St}{p1 p3:Pos}{x2 V1 V2 V3 V4:AV}(hA:Wf sA)(h1A:sA.heap.get p1=some (.cells (jE zt zg zy zr xt xg xy xr) 0))(h13:p1≠p3)(ZU:p3.toNat<sA.next.toNat)(iY:st.next.toNat<=p3.toNat)
  {ts:List aB} {gs:List aR} {r1 r2:List (List AV)} (hT:TS st sA V1 ts r1) (sT:TS.Since (p3.toNat+1) V1 r1) (hG:GS st sA V2 gs r2) (sG:GS.Since (p3.toNat+1) V2 r2) (lt:ts.length<=1000) (lg:gs.length<=1000)
  (hz:∀t∈ts,0<nI t.sh t.a t.b/\nI t.sh t.a t.b<=1000) (ha:∀t∈ts,(0<=t.a/\t.a<=1000000)/\0<=t.b/\t.b<=1000000):
  ∀(m k:Nat)(s:St)(V:AV),k+m=min xr.length 12->LL st sA s p3 6 V ((Br ts gs xr k).map Rl.cells) (λA=>[V1,V2,V3,V4,A])->
  ∃ s' V',LL st sA s' p3 6 V' ((Br ts gs xr (min xr.length 12)).map Rl.cells) (λA=>[V1,V2,V3,V4,A])/\∀(F:Nat)(k6:List AV->St->Option (AV×St))(f:Nat),m<f->
    jS c F k6 f [.ptr p1 0,x2,.ptr p3 0,.int .i64 (k:Int)] s=k6 [x2,.ptr p3 0] s':=by
 have c3:(jE zt zg zy zr xt xg xy xr)[3]? =some (eM .u32 zr xr):=rfl;have lI:=λ(K:AV->St->Option (AV×St))(s:St)=>SP (c:=c) .u32 zr xr K s
 intro m;induction m with
 |zero=>
  intro k s V hk h;obtain rfl:k=min xr.length 12:=by omega
  refine⟨s,V,h,λF k6 f hf=> ?_⟩;obtain⟨f,rfl⟩:∃g,f=g+1:=⟨f - 1,by omega⟩
  have h1:=h.kx.keep p1 _ h13 h1A;rw[tK];by_cases h3:xr.length<=12
  .have e:min xr.length 12=xr.length:=(by omega);rw[e];simp[h1,c3,lI]
  .have e:min xr.length 12=12:=(by omega);have hd:decide ((12:Int)<(xr.length:Int))=true:=Za0 (by omega);rw[e];simp[h1,c3,lI,hd]
 |succ m ih=>
  intro k s V hk h;have Li:k<xr.length:=by omega
  have hk12:k<12:=by omega
  have LG:=hx _ (Zb8 Li);have kM:k<=1000000:=by omega
  have d12:decide ((k:Int)<12)=true:=Za0 (by omega);have nw:=λ(K:AV->AB->Option (AV×St))=>arj s K
  have xM:xr[k]<=4294967296:=by omega
  have h1:=h.kx.keep p1 _ h13 h1A;have gr:=h.out.ai;have A:=ard hc (V3:=V3) (V4:=V4) (V5:=V) (hT.kx h.kx gr sT) (hG.kx h.kx gr sG) lt lg hz ha xr[k] LG;have gn:=Grew.ah gr.wf (.cells (gZ ts gs xr[k]).1.cells 0);have hS:Br ts gs xr (k+1)=Br ts gs xr k++(if(gZ ts gs xr[k]).2=true then [(gZ ts gs xr[k]).1]else []):=by
    rw[Br];simp[Za8,Li]
  have Qw:∀(K:AV->St->Option (AV×St)),aq c (.store 6) [.ptr s.next 0,.agg (gZ ts gs xr[k]).1.cells] (ah s (.cells [.int .u8 0,.int .i64 0,.str [],.str [],.str [],.int .i64 0] 0)) K=K .undef (ah s (.cells (gZ ts gs xr[k]).1.cells 0)):=λK=>cG c K s 6 (.agg (gZ ts gs xr[k]).1.cells) [.int .u8 0,.int .i64 0,.str [],.str [],.str [],.int .i64 0] rfl rfl rfl
  have aP:=λ(K:AV->Option (AV×St))(t:T AB)=>ari .u32 .i64 zr xr Li K t
  have hg:=h.ai gn;have h3n:=h.h3;have h3g:=hg.h3;have ll:=Si ts gs xr k;have cu5:∀A B D E G:AV,cut [A,B,D,E,G] 0 5=some [A,B,D,E,G]:=λA B D E G=>cQ rfl
  have gx:=aA s (.cells (gZ ts gs xr[k]).1.cells 0);by_cases hb:(gZ ts gs xr[k]).2=true
  . rw[hb]at A;rw[Zb4 hb]at hS;obtain⟨s5,s6,V5,a1,a2,a3,a4,a5,a6,a7⟩:=hg.push (c:=c) (bytes:=72) (i:=4) (z:=[.int .u8 0,.int .i64 0,.str [],.str [],.str [],.int .i64 0]) (x:= .agg (gZ ts gs xr[k]).1.cells) hA ZU iY (λA B=>rfl) (λA=>by simp) rfl rfl rfl (by decide) (by rw[Za5];omega) (by rw[Za5];omega);have e:(Br ts gs xr k).map Rl.cells++[(.agg (gZ ts gs xr[k]).1.cells:AV).cells]=(Br ts gs xr (k+1)).map Rl.cells:=(by rw[hS,Zc8];rfl);rw[e]at a3;obtain⟨s7,V7,b1,b2⟩:=ih (k+1) s6 V5 (by omega) a3;refine⟨s7,V7,b1,λF k6 f hf=> ?_⟩;obtain⟨f,rfl⟩:∃g,f=g+1:=⟨f - 1,by omega⟩
    have b3:=b2 F k6 f (by omega);generalize (gZ ts gs xr[k]).1=R at*
    clear b2 ih a3 a4 a5 a6 e hS hb ll hg h;have w2:=aiA kM;have w3:=ami xM;rw[<-b3,tK];simp (disch:=omega) [-au,dw,Za4,Zb6,h1,h3n,h3g,lI,aP,c3,Li,d12,nw,w3,A,Qw,cu5,gx,a1,a2,a7,w2]
  . have dO:(gZ ts gs xr[k]).2=false:=(by simpa using hb);rw[dO]at A;rw[Za6 hb,Ze1]at hS;rw[<-hS]at hg;obtain⟨s7,V7,b1,b2⟩:=ih (k+1) _ V (by omega) hg;refine⟨s7,V7,b1,λF k6 f hf=> ?_⟩;obtain⟨f,rfl⟩:∃g,f=g+1:=⟨f - 1,by omega⟩
    have b3:=b2 F k6 f (by omega);generalize (gZ ts gs xr[k]).1=R at*
    clear b2 ih hS hb dO ll hg h;have w2:=aiA kM;have w3:=ami xM;rw[<-b3,tK];simp (disch:=omega) [-au,dw,Za4,Zb6,h1,h3n,h3g,lI,aP,c3,Li,d12,nw,w3,A,Qw,cu5,gx,w2]
theorem ajm(hc:bH c){xs:List Nat}(hx:∀x∈xs,x<65536)(hl:xs.length<=9223372036854775807)(z:Bool)(x1:AV){st:St}{p4 p5:Pos}(Qv:p4≠p5)(IE:st.next.toNat<=p5.toNat){W:AV}:∀(m k:Nat)(s:St)(V:AV)(rows:List (List AV)),k+m=min xs.length 12->
  GL st s p4 p5 V W (Dp xs k) rows->∃s' V' vL,GL st s' p4 p5 V' W (Dp xs (min xs.length 12)) vL/\∀(F:Nat)(_:5<=F)(k2:List AV->St->Option (AV×St))(f:Nat),m<f->
    fZ c F k2 f [eM .u16 z xs,x1,.ptr p4 0,.ptr p5 0,.int .i64 (k:Int)] s=k2 [x1,.ptr p4 0,.ptr p5 0] s':=by
 intro m;induction m with
 |zero=>
  intro k s V rows hk h;obtain rfl:k=min xs.length 12:=by omega
  refine⟨s,V,rows,h,λF _ k2 f hf=> ?_⟩;obtain⟨f,rfl⟩:∃g,f=g+1:=⟨f - 1,by omega⟩
  have lI:∀(K:AV->St->Option (AV×St))(s:St),aq c (.lenB .l) [eM .u16 z xs] s K=K (.int .i64 (xs.length:Int)) s:=λK s=>by unfold eM;rw[jv];simp
  rw[AI];by_cases h12:xs.length<=12
  .have e:min xs.length 12=xs.length:=(by omega);rw[e];simp[lI]
  .have e:min xs.length 12=12:=(by omega);rw[e];have hd:decide (12<xs.length)=true:=Za0 (by omega);have hd2:(12:Nat)<xs.length:=(by omega);have hd3:decide ((12:Int)<(xs.length:Int))=true:=Za0 (by omega);simp[lI,hd3]
 |succ m ih=>
  intro k s V rows hk h;obtain⟨s1,V1,r1,h1,e1⟩:=ajl hc hx z x1 Qv IE (k:=k) (by omega) (by omega) h;obtain⟨s2,V2,r2,h2,e2⟩:=ih (k+1) s1 V1 r1 (by omega) h1;refine⟨s2,V2,r2,h2,λF hF k2 f hf=> ?_⟩;obtain⟨f,rfl⟩:∃g,f=g+1:=⟨f - 1,by omega⟩
  rw[e1 F hF k2 f,e2 F hF k2 f (by omega)]
structure YL(st s:St)(p4 p5:Pos)(V W:AV)(gs:List aR)(rows:List (List AV))(ys:List Ty):Prop where
 gl:GL st s p4 p5 V W gs rows
 ty:Mk 3 st s W (ys.map Ty.cells)
 w4:aK W≠some p4
 w5:aK W≠some p5
 wV:∀b,aK W=some b->aK V≠some b
 wI:∀(i:Nat)(r:List AV)(v:AV)(b:Pos),rows[i]? =some r->r[8]? =some v->aK v=some b->aK W≠some b
theorem YL.start{st s:St}{p4 p5:Pos}{V:AV}{gs:List aR}{rows:List (List AV)}(h:GL st s p4 p5 V .af gs rows):YL st s p4 p5 V .af gs rows []:=
 ⟨h,Mk.start h.out.jk h.out.ai,λe=>(nomatch e),λe=>(nomatch e),λ_ e=>(nomatch e),λ_ _ _ _ _ _ _ e=>(nomatch e)⟩
theorem YL.push{st s:St}{p4 p5:Pos}{V W:AV}{gs:List aR}{rows:List (List AV)}{ys:List Ty}(h:YL st s p4 p5 V W gs rows ys)(Qv:p4≠p5)(IE:st.next.toNat<=p5.toNat)(t:Ty)(hlen:ys.length<=1000000):
   ∃s5 s6 W5,(∀(K:AV->St->Option (AV×St)),aq c (.buildSlice 3 1 [.str [],.str [],.int .u8 0] [0]) [.agg t.cells] s (λy q=>aq c (.append 3 40) [W,y] q K)=K W5 s5)/\
    (∀(K:AV->St->Option (AV×St)),aq c (.store 1) [.ptr p5 1,W5] s5 K=K .undef s6)/\YL st s6 p4 p5 V W5 gs rows (ys++[t]):=by
 have hw:=h.gl.out.ai.wf;obtain⟨s5,W5,a1,a2,a3,a4⟩:=h.ty.push (c:=c) (R:=AV×St) (bytes:=40) (z:=[.str [],.str [],.int .u8 0]) (x:= .agg t.cells) rfl rfl rfl (by decide) (by rw[Za5];omega) (by rw[Za5];omega);have e:(ys++[t]).map Ty.cells=ys.map Ty.cells++[(.agg t.cells:AV).cells]:=by rw[Zc8];rfl
 rw[<-e]at a2;have y4:=a3 p4 _ h.w4 h.gl.h4;have y5:=a3 p5 _ h.w5 h.gl.h5;have l4:=hw p4 _ h.gl.h4;have l5:=hw p5 _ h.gl.h5;have b4:aK W5≠some p4:=λe=>by have:=a4 _ e;omega
 have b5:aK W5≠some p5:=λe=>by have:=a4 _ e;omega
 have l5':=a2.ai.wf p5 _ y5;obtain⟨vc,v1⟩:=a2.cells;have bD:∀(K:AV->St->Option (AV×St)),aq c (.store 1) [.ptr p5 1,W5] s5 K=K .undef (bg s5 p5 (.cells [V,W5] 0)):=λK=>by rw[bY c K s5 1 p5 1 W5 [V,W] y5 (by rw[vc];rfl) (by simp) (by rw[vc];exact v1),vc];rfl
 have M6:=a2.store (p:=p5) (b:= .cells [V,W5] 0) IE l5' b5;have keep:∀(u:AV)(n:Nat)(rw:List (List AV)),Mk n st s u rw->(∀b,aK u=some b->aK W≠some b/\b≠p5)->Mk n st (bg s5 p5 (.cells [V,W5] 0)) u rw:=λu n rw hu cN=>
   aiz hu M6.ai λb y hb hy=>by rw[aH (λe=>(cN b hb).2 e.symm)];exact a3 b y (cN b hb).1 hy
 have newW:∀b,aK W5=some b->s.next.toNat<=b.toNat:=a4;refine⟨s5,_,W5,a1,bD,⟨⟨keep V 9 rows h.gl.out λb hb=>⟨λe=>h.wV b e hb,λe=>h.gl.n5 (by rw[hb,e])⟩,h.gl.len,λi g r hi hr=> ?_,by rw[aH (λe=>Qv e.symm)];exact y4,bG _ _ _,h.gl.n4,h.gl.n5⟩,M6,b4,b5,λb hb e=> ?_,λi r v b hr h8 hv e=> ?_⟩⟩
 .obtain⟨v,e1,e2,e3⟩:=h.gl.dY i g r hi hr;have h8:r[8]? =some v:=(by rw[e1];rfl);exact⟨v,e1,keep v 1 _ e2 λb hb=>⟨h.wI i r v b hr h8 hb,(e3 b hb).2.2⟩,e3⟩
 .have:=newW b hb;have:=h.gl.out.own.lt hw e;omega
 .have p1:=newW b e;have hi:i<gs.length:=(by rw[<-h.gl.len];exact(Za1.1 hr).1);obtain⟨u,e1,e2,_⟩:=h.gl.dY i gs[i] r (H0 hi) hr;have:u=v:=(by rw[e1]at h8;exact Zi5 h8);subst this;have:=e2.own.lt hw hv;omega
def mS(gs:List aR):List (List Nat):=gs.map λg=>g.name
def ad8(bK:List Nat)(i k n:Nat):Ty:=⟨bP i,bP k,1+((bK.getD n 0 % 4:Nat):Int)⟩
def aiB(bK:List Nat)(n:Nat):Bool:=decide (n<bK.length)&&decide (bK.getD n 0 % 4<2)
def FQ(bK:List Nat)(i k n:Nat)(ys:List Ty):List Ty:=if aiB bK n=true then ys++[ad8 bK i k n]else ys
theorem aiC(bK:List Nat)(i k n:Nat)(ys:List Ty):(FQ bK i k n ys).length<=ys.length+1:=by unfold FQ;split<;>simp
def mT(names:List (List Nat))(bK:List Nat)(i:Nat):Nat->Nat->Nat->List Ty->Nat×List Ty
 |0,_,n,ys=>(n,ys)
 |m+1,k,n,ys=>if bP i∈names then(if bP k∈names then mT names bK i m (k+1) (n+1) (FQ bK i k n ys)else mT names bK i m (k+1) n ys)else(n,ys)
theorem GL.there(hc:bH c){st s:St}{p4 p5:Pos}{V W:AV}{gs:List aR}{rows:List (List AV)}(h:GL st s p4 p5 V W gs rows)(hl:gs.length<=1000)(x:Nat)(hx:x<1000000):
  c 87 [.agg [V,W],.int .i64 (x:Int)] s=some (.bool (decide (bP x∈mS gs)),s):=
 arc hc h.out.own h.out.row (names:=mS gs) (by rw[mS,Za5,h.len]) (λi h1 h2=>by
  have h3:i<gs.length:=by rw[<-h.len];exact h1
  obtain⟨v,e,_⟩:=h.dY i gs[i] rows[i] (H0 h3) (H0 h1);rw[e];simp[mS,aR.av]) (by rw[h.len];exact hl) x hx h.out.ai.wf
theorem ajn{R:Type}(h:T AB)(ok:AV->Bool)(xs:List (List AV))(i j:Nat)(K1:AV->Option R):jt (.load none) [.fp xs i j] h ok K1=yw (xs[i]?.bind λcs=>cs[j]?) K1:=by unfold jt;rw[CP,CP];cases hx:(xs[i]?.bind λcs=>cs[j]?)<;>rfl
theorem aoI{R:Type}(a b:List Nat)(k:Int)(s:St)(K:AV->AB->Option R):TA (.buildSlice 3 1 [.str [],.str [],.int .u8 0] [0]) [.agg [.str a,.str b,.int .u8 k]] s K=K (.slice s.next 0 1 (some 1) 3) (.cells [.str a,.str b,.int .u8 k] 0):=rfl
theorem aml(a b:List Nat)(k:Int)(K:AV->Option (AV×St)):fq (.build [.str [],.str [],.int .u8 0] [(0,1),(1,1),(2,1)]) [.str a,.str b,.int .u8 k] K=K (.agg [.str a,.str b,.int .u8 k]):=rfl
theorem auv (hc:bH c){bK:List Nat}(ht:∀x∈bK,x<256)(z:Bool){st:St}{p4 p5:Pos}(Qv:p4≠p5)(IE:st.next.toNat<=p5.toNat){V:AV}{gs:List aR}(hgl:gs.length<=1000){rows:List (List AV)}{i:Nat}(hi:i<1000):
  ∀(m k n:Nat)(s:St)(W:AV)(ys:List Ty),k+m=312->ys.length<=n->n+m<=1000000->YL st s p4 p5 V W gs rows ys->
  ∃ s' W',YL st s' p4 p5 V W' gs rows (mT (mS gs) bK i m k n ys).2/\∀(F:Nat)(k8:List AV->St->Option (AV×St))(f:Nat),m<f->
    jU c F k8 f [eM .u8 z bK,.ptr p4 0,.ptr p5 0,.int .i64 (n:Int),.int .i64 (i:Int),.int .i64 (k:Int)] s=k8 [eM .u8 z bK,.ptr p4 0,.ptr p5 0,.int .i64 ((mT (mS gs) bK i m k n ys).1:Int),.int .i64 (i:Int)] s':=by
 intro m;induction m with
 |zero=>
  intro k n s W ys hk hy hn h;obtain rfl:k=312:=by omega
  refine⟨s,W,h,λF k8 f hf=> ?_⟩;obtain⟨f,rfl⟩:∃g,f=g+1:=⟨f - 1,by omega⟩
  rw[iK];simp[mT]
 |succ m ih  =>
  intro k n s W ys hk hy hn h;have T1:=h.gl.there hc hgl i (by omega);have T2:=h.gl.there hc hgl k (by omega);have hd:decide ((k:Int)<312)=true:=Za0 (by omega);have w:ax .i64 ((k:Int)+1)=((k+1:Nat):Int):=wrap64 (by omega) (by omega);have w2:ax .i64 ((n:Int)+1)=((n+1:Nat):Int):=wrap64 (by omega) (by omega);have h5:=h.gl.h5;have cu:cut [V,W] 0 2=some [V,W]:=rfl;have lI:∀(K:AV->St->Option (AV×St))(s:St),aq c (.lenB .l) [eM .u8 z bK] s K=K (.int .i64 (bK.length:Int)) s:=λK s=>by unfold eM;rw[jv];simp
  by_cases Nk:bP i∈mS gs
  . by_cases Aw:bP k∈mS gs
    .   have eT:mT (mS gs) bK i (m+1) k n ys=mT (mS gs) bK i m (k+1) (n+1) (FQ bK i k n ys):=(by rw[mT,Zb4 Nk,Zb4 Aw]);rw[eT];have hl:=aiC bK i k n ys;by_cases sI:n<bK.length
        . have ix:∀(K:AV->St->Option (AV×St))(s:St),aq c (.idxA 1 none) [eM .u8 z bK,.int .i64 (n:Int)] s K=K (.fp (bK.map λ(i:Nat)=>[.int .u8 (i:Int)]) n 0) s:=λK s=>by unfold eM;rw[aaF];simp[sI]
          have pix:∀(K:AV->Option (AV×St)),fq (.idxA 1 none) [eM .u8 z bK,.int .i64 (n:Int)] K=K (.fp (bK.map λ(i:Nat)=>[.int .u8 (i:Int)]) n 0):=λK=>by unfold eM;rw[apP];simp[sI]
          obtain⟨x,hx⟩:∃x,bK[n]=x:=⟨_,rfl⟩
          have hx8:x<256:=(by rw[<-hx];exact ht _ (Zb8 sI));have gd:bK.getD n 0=x:=(by simp[Za8,sI,hx]);have r1:=λ(s:St)(K:AV->St->Option (AV×St))=>cV (c:=c) (k:= .u8) (a:=(x:Int)) (b:=4) (by omega) (by omega) s K
          have r2:=λ(K:AV->Option (AV×St))=>RO (k:= .u8) (a:=(x:Int)) (b:=4) (by omega) (by omega) K
          have w8:ax .u8 (1+(x:Int) % 4)=1+(x:Int) % 4:=F9 (by omega) (by omega);have eC:aiB bK n=decide (x % 4<2):=(by unfold aiB;rw[gd,Za0 sI,Zg5]);have d2:decide ((x:Int) % 4<2)=decide (x % 4<2):=decide_eq_decide.2 (by omega);by_cases hx4:x % 4<2
          . have eY:FQ bK i k n ys=ys++[ad8 bK i k n]:=(by unfold FQ;rw[eC,Zb4 (Za0 hx4)]);rw[eY]at hl ⊢;obtain⟨s5,s6,W5,a1,a2,a3⟩:=h.push (c:=c) Qv IE (ad8 bK i k n) (by omega);have eU:(ad8 bK i k n).cells=[.str (bP i),.str (bP k),.int .u8 (1+(x:Int) % 4)]:=(by unfold ad8 Ty.cells;rw[gd];simp);have a1':∀K,aq c (.append 3 40) [W,.slice s.next 0 1 (some 1) 3] (ah s (.cells [.str (bP i),.str (bP k),.int .u8 (1+(x:Int) % 4)] 0)) K=K W5 s5:=λK=>by have h1:=a1 K;rw[Kr (es:=3) (z:=[.str [],.str [],.int .u8 0]) (x:= .agg (ad8 bK i k n).cells) rfl rfl]at h1;rw[<-eU];exact h1
            have N1:=zu hc i (by omega) s h.gl.out.ai.wf;have N2:=zu hc k (by omega) s h.gl.out.ai.wf;obtain⟨s',W',b1,b2⟩:=ih (k+1) (n+1) s6 W5 _ (by omega) (by omega) (by omega) a3;refine⟨s',W',b1,λF k8 f hf=> ?_⟩;obtain⟨f,rfl⟩:∃g,f=g+1:=⟨f - 1,by omega⟩
            rw[<-b2 F k8 f (by omega),iK];simp[-au,-pY,-Gs,h5,cu,T1,T2,Nk,Aw,hd,dw,lI,sI,ix,pix,hx,r1,r2,d2,hx4,w8,N1,N2,ajn,aoI,aml,a1',a2,w,w2]
          . have eY:FQ bK i k n ys=ys:=(by unfold FQ;rw[eC,Za6 (by simp;omega)]);rw[eY];obtain⟨s',W',b1,b2⟩:=ih (k+1) (n+1) s W ys (by omega) (by omega) (by omega) h;refine⟨s',W',b1,λF k8 f hf=> ?_⟩;obtain⟨f,rfl⟩:∃g,f=g+1:=⟨f - 1,by omega⟩
            have Lc:decide ((x:Int) % 4<2)=false:=Za2 (by omega);rw[<-b2 F k8 f (by omega),iK];simp[-au,-pY,-Gs,h5,cu,T1,T2,Nk,Aw,hd,dw,lI,sI,ix,hx,r1,Lc,w,w2]
        . have eY:FQ bK i k n ys=ys:=(by unfold FQ aiB;rw[Za2 sI,Bool.false_and,Za6 (by decide)]);rw[eY];obtain⟨s',W',b1,b2⟩:=ih (k+1) (n+1) s W ys (by omega) (by omega) (by omega) h;refine⟨s',W',b1,λF k8 f hf=> ?_⟩;obtain⟨f,rfl⟩:∃g,f=g+1:=⟨f - 1,by omega⟩
          rw[<-b2 F k8 f (by omega),iK];simp[-au,-pY,-Gs,h5,cu,T1,T2,Nk,Aw,hd,dw,lI,sI,w,w2]
    .   have eT:mT (mS gs) bK i (m+1) k n ys=mT (mS gs) bK i m (k+1) n ys:=(by rw[mT,Zb4 Nk,Za6 Aw]);rw[eT];obtain⟨s',W',b1,b2⟩:=ih (k+1) n s W ys (by omega) (by omega) (by omega) h;refine⟨s',W',b1,λF k8 f hf=> ?_⟩;obtain⟨f,rfl⟩:∃g,f=g+1:=⟨f - 1,by omega⟩
        rw[<-b2 F k8 f (by omega),iK];simp[-au,-pY,-Gs,h5,cu,T1,T2,Nk,Aw,hd,dw,w]
  . have eT:mT (mS gs) bK i (m+1) k n ys=(n,ys):=(by rw[mT,Za6 Nk]);rw[eT];refine⟨s,W,h,λF k8 f hf=> ?_⟩;obtain⟨f,rfl⟩:∃g,f=g+1:=⟨f - 1,by omega⟩
    rw[iK];simp[-au,-pY,-Gs,h5,cu,T1,Nk,hd,dw]
theorem Xj(names:List (List Nat))(bK:List Nat)(i:Nat):∀(m k n:Nat)(ys:List Ty),ys.length<=n->(mT names bK i m k n ys).2.length<=(mT names bK i m k n ys).1/\(mT names bK i m k n ys).1<=n+m
 |0,k,n,ys,h=>by unfold mT;exact⟨h,by omega⟩
 |m +   1,k,n,ys,h=>by
  unfold mT;split
  . split
    .   have hl:=aiC bK i k n ys;have:=Xj names bK i m (k+1) (n+1) (FQ bK i k n ys) (by omega);omega
    .   have:=Xj names bK i m (k+1) n ys h;omega
  .exact⟨h,by omega⟩
def Xk(names:List (List Nat))(bK:List Nat):Nat->Nat->Nat->List Ty->List Ty
 |0,_,_,ys=>ys
 |m+1,i,n,ys=>Xk names bK m (i+1) (mT names bK i m (i+1) n ys).1 (mT names bK i m (i+1) n ys).2
theorem atz(hc:bH c){bK:List Nat}(ht:∀x∈bK,x<256)(z:Bool){st:St}{p4 p5:Pos}(Qv:p4≠p5)(IE:st.next.toNat<=p5.toNat){V:AV}{gs:List aR}(hgl:gs.length<=1000){rows:List (List AV)}:
  ∀(m i n:Nat)(s:St)(W:AV)(ys:List Ty),i+m=312->ys.length<=n->n+m*312<=1000000->YL st s p4 p5 V W gs rows ys->
  ∃s' W',YL st s' p4 p5 V W' gs rows (Xk (mS gs) bK m i n ys)/\∀(F:Nat)(_:400<=F)(k6:List AV->St->Option (AV×St))(f:Nat),m<f->
   jV c F k6 f [eM .u8 z bK,.ptr p4 0,.ptr p5 0,.int .i64 (n:Int),.int .i64 (i:Int)] s=k6 [.ptr p4 0,.ptr p5 0] s':=by
 intro m;induction m with
 |zero=>
  intro i n s W ys hk hy hn h;obtain rfl:i=312:=by omega
  refine⟨s,W,h,λF _ k6 f hf=> ?_⟩;obtain⟨f,rfl⟩:∃g,f=g+1:=⟨f - 1,by omega⟩
  rw[AM];simp
 |succ m ih=>
  intro i n s W ys hk hy hn h;have hd:decide ((i:Int)<312)=true:=Za0 (by omega);have b1: -9223372036854775808<=(i:Int)+1:=by omega
  have b2:(i:Int)+1<=9223372036854775807:=by omega
  have e3:((i+1:Nat):Int)=(i:Int)+1:=by omega
  obtain⟨s1,W1,h1,e1⟩:=auv hc ht z Qv IE hgl (i:=i) (by omega) m (i+1) n s W ys (by omega) hy (by omega) h;have hl:=Xj (mS gs) bK i m (i+1) n ys hy;obtain⟨s2,W2,h2,e2⟩:=ih (i+1) _ s1 W1 _ (by omega) hl.1 (by omega) h1;refine⟨s2,W2,h2,λF hF k6 f hf=> ?_⟩;obtain⟨f,rfl⟩:∃g,f=g+1:=⟨f - 1,by omega⟩
  have e1':=λk8=>e1 F k8 F (by omega)
  rw[<-e2 F hF k6 f (by omega),AM];clear e1 e2 hl;have w:ax .i64 ((i:Int)+1)=(i:Int)+1:=wrap64 b1 b2;rw[e3]at e1' ⊢;simp[hd,w,e1']
structure RS(st s:St)(V W:AV)(gs:List aR)(rows:List (List AV))(ys:List Ty):Prop where
 ai:Grew st s
 out:Mk 9 st s V rows
 len:rows.length=gs.length
 dY:∀(i:Nat)(g:aR)(r:List AV),gs[i]? =some g->rows[i]? =some r->∃v,r=g.av v/\Mk 1 st s v (g.tg.map Xh)/\∀b,aK v=some b->aK V≠some b/\aK W≠some b
 ty:Mk 3 st s W (ys.map Ty.cells)
 wV:∀b,aK W=some b->aK V≠some b
def fX(xs:List Nat):List aR:=Dp xs (min xs.length 12)
def Db(xs bK:List Nat):List Ty:=Xk (mS (fX xs)) bK 312 0 0 []
theorem GH(xs:List Nat):(fX xs).length<=12:=by unfold fX;rw[Ll];omega
theorem atA(hc:bH c){xs bK:List Nat}(hx:∀x∈xs,x<65536)(hl:xs.length<=9223372036854775807)(ht:∀x∈bK,x<256)(z z2:Bool)(st:St)(hw:Wf st):
   ∃V W s' rows,c 47 [eM .u16 z xs,eM .u8 z2 bK] st=some (.agg [V,W],s')/\RS st s' V W (fX xs) rows (Db xs bK):=by
 have cO:Wf (ah st (.cells [.af,.af] 0)):=bF hw;have g1:=Grew.ah hw (.cells [.af,.af] 0);have g2:=Grew.ah cO (.cells [.af,.af] 0);have n12:st.next≠(ah st (.cells [.af,.af] 0)).next:=by rw[bN];exact Pos.Yj _
 have IE:st.next.toNat<=(ah st (.cells [.af,.af] 0)).next.toNat:=by rw[bN,Pos.aD];omega
 have G0:GL st (ah (ah st (.cells [.af,.af] 0)) (.cells [.af,.af] 0)) st.next (ah st (.cells [.af,.af] 0)).next .af .af (Dp xs 0) []:=
   ⟨Mk.start hw (g1.trans g2),rfl,λi g r hi _=>by simp[Dp]at hi,g2.get (aA _ _),aA _ _,λe=>(nomatch e),λe=>(nomatch e)⟩
 obtain⟨s1,V,rows,h1,e1⟩:=ajm hc hx hl z (eM .u8 z2 bK) n12 IE (min xs.length 12) 0 _ .af [] (by omega) G0;obtain⟨s2,W,h2,e2⟩:=atz hc ht z2 n12 IE (gs:=fX xs) (by have:=GH xs;omega) 312 0 0 s1 .af [] (by omega) (by simp) (by omega) (YL.start h1);have e1':∀k2:List AV->St->Option (AV×St),fZ c 400 k2 400 [eM .u16 z xs,eM .u8 z2 bK,.ptr st.next 0,.ptr (ah st (.cells [.af,.af] 0)).next 0,.int .i64 0] (ah (ah st (.cells [.af,.af] 0)) (.cells [.af,.af] 0))=k2 [eM .u8 z2 bK,.ptr st.next 0,.ptr (ah st (.cells [.af,.af] 0)).next 0] s1:=λk2=>e1 400 (by omega) k2 400 (by omega)
 have e2':∀k6:List AV->St->Option (AV×St),jV c 400 k6 400 [eM .u8 z2 bK,.ptr st.next 0,.ptr (ah st (.cells [.af,.af] 0)).next 0,.int .i64 0,.int .i64 0] s1=k6 [.ptr st.next 0,.ptr (ah st (.cells [.af,.af] 0)).next 0] s2:=λk6=>e2 400 (by omega) k6 400 (by omega)
 have h5:=h2.gl.h5;have h4:=h2.gl.h4;have l4:=h2.gl.out.ai.wf _ _ h4;obtain⟨vc,v1⟩:=h2.gl.out.cells;obtain⟨wc,w1⟩:=h2.ty.cells;have one:aN [V,W]=true:=by
   have v2:V.one=true:=yA v1;have w2:W.one=true:=yA w1;simp only[aN,v2,w2]
 have cu:cut [V,W] 0 2=some [V,W]:=rfl;have Qw:∀(K:AV->St->Option (AV×St)),aq c (.store 2) [.ptr st.next 0,.agg [V,W]] s2 K=K .undef (bg s2 st.next (.cells [V,W] 0)):=λK=>by rw[bY c K s2 2 st.next 0 (.agg [V,W]) [.af,.af] h4 rfl (by simp) one];rfl
 have A:=h2.gl.out.store (p:=st.next) (b:= .cells [V,W] 0) (Za3 _) l4 h2.gl.n4;have B:=h2.ty.store (p:=st.next) (b:= .cells [V,W] 0) (Za3 _) l4 h2.w4;have ins:∀u∈[V,W],dP u:=λu hu=>by
   simp only[Za9,Zc3,Zf0]at hu;rcases hu with rfl|rfl
   .exact A.inst
   .exact B.inst
 obtain⟨sa,t1,ta,tA⟩:=A.RN (l:=[V,W]) (by simp) ins;obtain⟨sb,t2,tb,tB⟩:=B.RN (l:=[V,W]) (by simp) ins;have Ww:sb=sa:=by rw[t1]at t2;exact(Prod.mk.inj t2).2.symm
 subst Ww;refine⟨V,W,sb,rows,?_,⟨tA.ai,tA,h2.gl.len,λi g r hi hr=> ?_,tB,h2.wV⟩⟩
 .rw[Qx hc 400 (r:=(.agg [V,W],bg s2 st.next (.cells [V,W] 0))),t1];rw[U6];simp[e1',e2',h5,cu,Qw]
 . obtain⟨v,q1,q2,q3⟩:=h2.gl.dY i g r hi hr;have h8:r[8]? =some v:=(by rw[q1];rfl);refine⟨v,q1,?_,λb hb=>⟨(q3 b hb).1,h2.wI i r v b hr h8 hb⟩⟩;rcases ta with rfl|rfl
   .exact q2.store (p:=st.next) (b:= .cells [V,W] 0) (Za3 _) l4 (λe=>(q3 _ e).2.1 rfl)
   . (exfalso;have cN:rows≠[]:=λe=>by rw[e]at hr;simp at hr);rcases tA.loose with⟨b,off,n,rfl⟩|⟨_,e⟩
     .  have p1:=tA.new b (iP _ _ _ _);have p2:=tA.own.lt hw (iP _ _ _ _);omega
     .  exact cN e
def nR(xt:List Nat):List aB:=rJ xt (min xt.length 3)
def uB(xt xg:List Nat):List Nat:=xg.take (min xg.length (j6 xt (min xt.length 3)))
def nS(xt xg:List Nat):List aR:=fX (uB xt xg)
def aoJ(xt xg xy:List Nat):List Ty:=Db (uB xt xg) xy
def nQ(xt xg xy:List Nat):List Int:=if 0<xy.length % 4 then FP xg (nS xt xg).length else []
def auw(xt xg xr:List Nat):List Rl:=Br (nR xt) (nS xt xg) xr (min xr.length 12)
def mP(xt xg xy xr:List Nat):cr:=⟨true,nR xt,true,nS xt xg,true,aoJ xt xg xy,true,nQ xt xg xy,true,auw xt xg xr⟩
theorem aoK(x:Nat):0<tN x:=by
 have:0<tA x:=by unfold tA;split<;>(try split)<;>(try split)<;>omega
 unfold tN;split<;>(try split)<;>omega
theorem Sj{xs:List Nat}{k:Nat}{t:aB}(h:t∈rJ xs k):∃i x,t=j8 i x:=by
 unfold rJ at h;simp only[Zc6]at h;obtain⟨i,_,rfl⟩:=h;exact⟨_,_,rfl⟩
theorem aoL{xs:List Nat}{k:Nat}:∀t∈rJ xs k,0<nI t.sh t.a t.b/\nI t.sh t.a t.b<=1000:=λt h=>by obtain⟨i,x,rfl⟩:=Sj h;have e:nI (j8 i x).sh (j8 i x).a (j8 i x).b=((tN x:Nat):Int):=YE x;have h1:=aoK x;have h2:=ach x;rw[e];omega
theorem ahu{xs:List Nat}{k:Nat}:∀t∈rJ xs k,(0<=t.a/\t.a<=1000000)/\0<=t.b/\t.b<=1000000:=λt h=>by obtain⟨i,x,rfl⟩:=Sj h;have h1:=af1 x;have h2:=af2 x;show(0<=((tA x:Nat):Int)/\((tA x:Nat):Int)<=1000000)/\0<=((tB x:Nat):Int)/\((tB x:Nat):Int)<=1000000;omega
theorem RS.gs{st sL sR:St}{V W:AV}{gs:List aR}{rows:List (List AV)}{ys:List Ty}(h:RS sL sR V W gs rows ys)(h0:Wf st)(g:Grew st sL):GS st sR V gs rows/\GS.Since sL.next.toNat V rows:=
 ⟨⟨h.out.back h0 g,h.len,λi t r hi hr=>by
   obtain⟨v,e1,e2,e3⟩:=h.dY i t r hi hr;exact⟨v,e1,e2.back h0 g,λb hb=>(e3 b hb).1⟩⟩,h.out.new,λi r v b hr h8 hb=>by
   have hi:i<gs.length:=(by rw[<-h.len];exact(Za1.1 hr).1);obtain⟨u,e1,e2,_⟩:=h.dY i gs[i] r (H0 hi) hr;have:u=v:=(by rw[e1]at h8;exact Zi5 h8);subst this;exact e2.new b hb⟩
theorem TS.Since.le{n m:Nat}{V:AV}{rows:List (List AV)}(h:TS.Since n V rows)(hm:m<=n):TS.Since m V rows:=⟨λb hb=>Zb3 hm (h.1 b hb),λi r v b h1 h2 h3=>Zb3 hm (h.2 i r v b h1 h2 h3)⟩
theorem GS.Since.le{n m:Nat}{V:AV}{rows:List (List AV)}(h:GS.Since n V rows)(hm:m<=n):GS.Since m V rows:=⟨λb hb=>Zb3 hm (h.1 b hb),λi r v b h1 h2 h3=>Zb3 hm (h.2 i r v b h1 h2 h3)⟩
theorem PS.avj{s s':St}{V1 V2 V3 V4 V5:AV}{p:cr}{r1 r2:List (List AV)}(h1:TS s s' V1 p.ts r1)(h2:GS s s' V2 p.gs r2)(h3:Mk 3 s s' V3 (p.ys.map Ty.cells))(h4:Mk 1 s s' V4 (p.cs.map bJ))(h5:Mk 6 s s' V5 (p.rs.map Rl.cells)):
   ∃fI,Go.Ai.tidy s (.agg [V1,V2,V3,V4,V5],s')=(.agg [V1,V2,V3,V4,V5],fI)/\PS s fI [V1,V2,V3,V4,V5] p:=by
 obtain⟨fI,e,g,k⟩:=Mk.apX (s:=s) (s':=s') (l:=[V1,V2,V3,V4,V5]) (λu hu=>by
   simp only[Za9,Zc3,Zf0]at hu;rcases hu with rfl|rfl|rfl|rfl|rfl
   .exact h1.out.inst
   .exact h2.out.inst
   .exact h3.inst
   .exact h4.inst
   .exact h5.inst) h1.out.jk h1.out.ai
 obtain⟨a1,b1⟩:=k 7 V1 r1 (by simp) h1.out;obtain⟨a2,b2⟩:=k 9 V2 r2 (by simp) h2.out;obtain⟨a3,_⟩:=k 3 V3 _ (by simp) h3;obtain⟨a4,_⟩:=k 1 V4 _ (by simp) h4;obtain⟨a5,_⟩:=k 6 V5 _ (by simp) h5;refine⟨fI,e,g,V1,V2,V3,V4,V5,r1,r2,rfl,⟨a1,h1.len,λi t r hi hr=> ?_⟩,⟨a2,h2.len,λi t r hi hr=> ?_⟩,a3,a4,a5⟩
 . rcases b1 with rfl|rfl
   .exact h1.dY i t r hi hr
   .simp at hr
 . rcases b2 with rfl|rfl
   .exact h2.dY i t r hi hr
   .simp at hr
theorem aoM{R:Type}(k k':IntKind)(z:Bool)(l:List Nat){i:Nat}(h:i<=l.length)(K:AV->Option R):fq (.sliceL 1 false true false) [eM k z l,.int k' (i:Int)] K=K (eM k (z&&l.isEmpty) (l.take i)):=by unfold eM;rw[amX,Za5,Zb4 h];simp only[Zr2,List.map_take];rfl
theorem aoN{R:Type}(k:IntKind)(z:Bool)(l:List Nat)(K:AV->Option R):fq (.lenB .l) [eM k z l] K=K (.int .i64 (l.length:Int)):=by unfold eM;rw[agO];simp
theorem ark{R:Type}(s:St)(K:AV->AB->Option R):TA (.alloc [.af,.af]) [] s K=K (.ptr s.next 0) (.cells [.af,.af] 0):=rfl
theorem asL (hc:bH c) {xt xg xy xr:List Nat}(ht:∀x∈xt,x<256)(hg:∀x∈xg,x<65536)(hy:∀x∈xy,x<256)(hr:∀x∈xr,x<4294967296)(lt:xt.length<=9223372036854775807)(lg:xg.length<=9223372036854775807)(lr:xr.length<=9223372036854775807)(ly:xy.length<=9223372036854775807)
  (zt zg zy zr:Bool) (st:St) (hw:Wf st):∃Vs s',c 15 [.agg (jE zt zg zy zr xt xg xy xr)] st=some (.agg Vs,s')/\PS st s' Vs (mP xt xg xy xr):=by
 have w1:Wf (ah st (.cells (jE zt zg zy zr xt xg xy xr) 0)):=bF hw;have w2:Wf (ah (ah st (.cells (jE zt zg zy zr xt xg xy xr) 0)) (.cells [.af,.af,.af,.af,.af] 0)):=bF w1;have g1:=Grew.ah hw (.cells (jE zt zg zy zr xt xg xy xr) 0);have g2:=Grew.ah w1 (.cells [.af,.af,.af,.af,.af] 0);have g3:=Grew.ah w2 (.cells [.af,.af,.af,.af,.af] 0);obtain⟨p1,ke⟩:∃p1,p1=st.next:=⟨_,rfl⟩
 obtain⟨p2,Gk⟩:∃p2,p2=(ah st (.cells (jE zt zg zy zr xt xg xy xr) 0)).next:=⟨_,rfl⟩
 obtain⟨p3,hp3⟩:∃p3,p3=(ah (ah st (.cells (jE zt zg zy zr xt xg xy xr) 0)) (.cells [.af,.af,.af,.af,.af] 0)).next:=⟨_,rfl⟩
 obtain⟨s3,Gq⟩:∃s3,s3=ah (ah (ah st (.cells (jE zt zg zy zr xt xg xy xr) 0)) (.cells [.af,.af,.af,.af,.af] 0)) (.cells [.af,.af,.af,.af,.af] 0):=⟨_,rfl⟩
 have n1:st.next.toNat=p1.toNat:=by rw[ke]
 have n2:p2.toNat=p1.toNat+1:=by rw[Gk,bN,Pos.aD,ke]
 have n3:p3.toNat=p2.toNat+1:=by rw[hp3,bN,Pos.aD,Gk]
 have n4:s3.next.toNat=p3.toNat+1:=by rw[Gq,bN,Pos.aD,hp3]
 have G3:Grew st s3:=by rw[Gq];exact(g1.trans g2).trans g3
 have H1:s3.heap.get p1=some (.cells (jE zt zg zy zr xt xg xy xr) 0):=by rw[Gq,ke];exact g3.get (g2.get (aA _ _))
 have H2:s3.heap.get p2=some (.cells [.af,.af,.af,.af,.af] 0):=by rw[Gq,Gk];exact g3.get (aA _ _)
 have H3:s3.heap.get p3=some (.cells [.af,.af,.af,.af,.af] 0):=by rw[Gq,hp3];exact aA _ _
 have d13:p1≠p3:=λe=>by subst e;omega
 have d23:p2≠p3:=λe=>by subst e;omega
 have W3:=G3.wf
 obtain⟨sL,V1,r1,T1,e1⟩:=aoG (c:=c) (x2:= .ptr p2 0) hc ht lt (zt:=zt) (zg:=zg) (zy:=zy) (zr:=zr) (xg:=xg) (xy:=xy) (xr:=xr) W3 H1 d13 (by omega) (by omega) (st:=st) (min xt.length 3) 0 s3 .af [] (by omega)
  ⟨⟨Mk.start hw G3,rfl,λi t r hi _=>by simp[rJ]at hi⟩,KX.refl W3,H3,⟨λb e=>(nomatch e),λi r v b hr _ _=>by simp at hr⟩⟩
 have GL:=T1.tab.out.ai;have WL:=GL.wf;have lN:=T1.kx.next;have L1:=T1.kx.keep p1 _ d13 H1;have L2:=T1.kx.keep p2 _ d23 H2;have L3:=T1.h3;have mlen:(nR xt).length<=3:=by unfold nR;rw[Sg];omega
 obtain⟨m,hm⟩:∃m:Nat,m=min xg.length (j6 xt (min xt.length 3)):=⟨_,rfl⟩
 have hmx:xg.take m=uB xt xg:=by rw[hm];rfl
 obtain⟨V2,V3,sR,r2,cR,R⟩:=atA hc (xs:=uB xt xg) (bK:=xy) (λx hx=>hg x (List.mem_of_mem_take hx)) (by have:=List.length_take_le m xg;rw[hmx]at this;omega) hy (zg&&xg.isEmpty) zy sL WL;have GR:=GL.trans R.ai;have WR:=GR.wf;obtain⟨GSR,SR⟩:=R.gs hw GL;have rN:=R.ai.next;have gx:=Grew.ah WR (.cells [V2,V3] 0);obtain⟨sX,hsX⟩:∃sX,sX=ah sR (.cells [V2,V3] 0):=⟨_,rfl⟩
 have WX:Wf sX:=by rw[hsX];exact gx.wf
 have GX:Grew sR sX:=by rw[hsX];exact gx
 have X1:=GX.get (R.ai.get L1);have X2:=GX.get (R.ai.get L2);have X3:=GX.get (R.ai.get L3);have X8:sX.heap.get sR.next=some (.cells [V2,V3] 0):=by rw[hsX];exact aA _ _
 have n8:sR.next≠p3:=fun e=>by have:sR.next.toNat=p3.toNat:=by rw[e]
                               omega
 have lX:=WX _ _ X3;obtain⟨vc2,v2⟩:=R.out.cells;obtain⟨vc3,v3⟩:=R.ty.cells;have An:∀(K:AV->St->Option (AV×St)),aq c (.store 1) [.ptr p3 (0+1),V2] sX K=K .undef (bg sX p3 (.cells [V1,V2,.af,.af,.af] 0)):=λK=>by rw[bY c K sX 1 p3 (0+1) V2 [V1,.af,.af,.af,.af] X3 (by rw[vc2];rfl) (by simp) (by rw[vc2];exact v2),vc2];rfl
 have EK:∀(K:AV->St->Option (AV×St)),aq c (.store 1) [.ptr p3 (0+2),V3] (bg sX p3 (.cells [V1,V2,.af,.af,.af] 0)) K=K .undef (bg sX p3 (.cells [V1,V2,V3,.af,.af] 0)):=λK=>by rw[bY c K _ 1 p3 (0+2) V3 [V1,V2,.af,.af,.af] (bG _ _ _) (by rw[vc3];rfl) (by simp) (by rw[vc3];exact v3),vc3,Pe];rfl
 obtain⟨sB,hsB⟩:∃sB,sB=bg sX p3 (.cells [V1,V2,V3,.af,.af] 0):=⟨_,rfl⟩
 have kXB:KX p3 sX sB:=by rw[hsB];exact(KX.refl WX).store lX _
 have WB:=kXB.wf;have GB:Grew st sB:=by rw[hsB];exact vF hw (GR.trans GX) (by omega) lX _
 have kRB:KX p3 sR sB:=((KX.refl WR).ai GX).trans kXB;have kLB:KX p3 sL sB:=((KX.refl WL).ai R.ai).trans kRB;have B1:=kXB.keep p1 _ d13 X1;have B2:=kXB.keep p2 _ d23 X2;have B3:sB.heap.get p3=some (.cells [V1,V2,V3,.af,.af] 0):=by rw[hsB];exact bG _ _ _
 have lB:=WB _ _ B3;have sT1:TS.Since (p3.toNat+1) V1 r1:=T1.since.le (by omega);have sG2:GS.Since (p3.toNat+1) V2 r2:=SR.le (by omega);have TB:=T1.tab.kx kLB GB sT1;have GSB:=GSR.kx kRB GB sG2;have s3V:∀b,aK V3=some b->p3.toNat+1<=b.toNat:=λb hb=>by have:=R.ty.new b hb;omega
 have YB:=Mk.kx (R.ty.back hw GL) kRB GB s3V;have hgl:(nS xt xg).length<=12:=GH _;have hgn:(nS xt xg).length<=xg.length:=by unfold nS fX;rw[Ll, <-hmx,Zg7];omega
 have l2:∀(K:AV->St->Option (AV×St))(s':St),aq c (.lenB .l) [V2] s' K=K (.int .i64 ((nS xt xg).length:Int)) s':=λK s'=>by rw[QS.lenB R.out.own,R.len];rfl
 have C0:LL st sB sB p3 1 .af ((FP xg 0).map bJ) (λA=>[V1,V2,V3,A,.af]):=⟨Mk.start hw GB,KX.refl WB,B3,λb e=>(nomatch e)⟩
 obtain⟨sC1,V41,C1,e2⟩:=amj (c:=c) (x2:= .ptr p2 0) hg (zt:=zt) (zg:=zg) (zy:=zy) (zr:=zr) (xt:=xt) (xy:=xy) (xr:=xr) (st:=st) (V1:=V1) (V3:=V3) hgn (by omega) WB B1 d13 lB (by omega) l2 (nS xt xg).length 0 sB .af (by omega) C0;have ld2:∀(K:AV->St->Option (AV×St)),aq c (.load none) [.ptr p1 (0+2)] sB K=K (eM .u8 zy xy) sB:=λK=>by rw[aY,B1];rfl
 have key:∃Vs s',nh c 400 (.agg (jE zt zg zy zr xt xg xy xr)) st=some (.agg Vs,s')/\∃fI,Go.Ai.tidy st (.agg Vs,s')=(.agg Vs,fI)/\PS st fI Vs (mP xt xg xy xr):=by
  obtain⟨Q,hQ⟩:∃Q:Option (AV×St)->Prop,Q=λo=>∃Vs s',o=some (.agg Vs,s')/\∃fI,Go.Ai.tidy st (.agg Vs,s')=(.agg Vs,fI)/\PS st fI Vs (mP xt xg xy xr):=⟨_,rfl⟩
  have acQ:Q (nh c 400 (.agg (jE zt zg zy zr xt xg xy xr)) st)->∃Vs s',nh c 400 (.agg (jE zt zg zy zr xt xg xy xr)) st=some (.agg Vs,s')/\∃fI,Go.Ai.tidy st (.agg Vs,s')=(.agg Vs,fI)/\PS st fI Vs (mP xt xg xy xr):=λh=>by rw[hQ]at h;exact h
  apply acQ;clear acQ;have e1':∀(k2:List AV->St->Option (AV×St)),gh c 400 k2 400 [.ptr p1 0,.ptr p2 0,.ptr p3 0,.int .i64 0,.int .i64 0] s3=k2 [.ptr p1 0,.ptr p2 0,.ptr p3 0,.int .i64 (j6 xt (min xt.length 3):Int)] sL:=λk2=>e1 400 k2 400 (by omega)
  have e2':∀(k4:List AV->St->Option (AV×St)),jR c 400 k4 400 [.ptr p1 0,.ptr p2 0,.ptr p3 0,.int .i64 0] sB=k4 [.ptr p1 0,.ptr p2 0,.ptr p3 0] sC1:=λk4=>e2 400 k4 400 (by omega)
  have ra1:∀(K:AV->Option (AV×St)),jt (.load none) [.ptr p1 (0+1)] sL.heap (λ_=>true) K=K (eM .u16 zg xg):=λK=>by rw[jN,L1];rfl
  have ra2:∀(K:AV->Option (AV×St)),jt (.load none) [.ptr p1 (0+2)] sL.heap (λ_=>true) K=K (eM .u8 zy xy):=λK=>by rw[jN,L1];rfl
  have rb0:∀(K:AV->Option (AV×St)),jt (.load none) [.ptr sR.next (0+0)] sX.heap (λ_=>true) K=K V2:=λK=>by rw[jN,X8];rfl
  have rb1:=λ(K:AV->Option (AV×St))=>Fy K (p:=sR.next) (o:=0+1) (h:=(bg sX p3 (.cells [V1,V2,.af,.af,.af] 0)).heap) (h2:=sX.heap) (v:=V3) (by rw[aH (λe=>n8 e.symm),X8];rfl) (by rw[X8];rfl) R.ty.own.beq
  have pm:∀(K:AV->Option (AV×St)),fq .minB [.int .i64 (xg.length:Int),.int .i64 (j6 xt (min xt.length 3):Int)] K=K (.int .i64 (m:Int)):=λK=>by rw[cZ K (λH n=>ajR H n _ _ _ _),hm];congr 2;generalize j6 xt (min xt.length 3)=a;omega
  have Qw:∀(K:AV->St->Option (AV×St)),aq c (.store 2) [.ptr sR.next 0,.agg [V2,V3]] (ah sR (.cells [.af,.af] 0)) K=K .undef sX:=λK=>by
    rw[hsX];exact cG c K sR 2 (.agg [V2,V3]) [.af,.af] rfl rfl (by
        have a2:V2.one=true:=yA v2;have a3:V3.one=true:=yA v3;show aN [V2,V3]=true;simp only[aN,a2,a3])
  rw[U7,dy,show AV.cells (.agg (jE zt zg zy zr xt xg xy xr))=jE zt zg zy zr xt xg xy xr from rfl,dB,dB, <-Gq, <-hp3, <-Gk, <-ke,az,az,e1',
    aL,aL,aL,aL,bu,br,ra1,br,ra1,aoN,di,pm,aoM _ _ _ _ (by omega),br,ra2,hmx,cY,cR,cL,ark,Qw,br,rb0,br,An,br,rb1,br,EK, <-hsB]
  refine yB (P:=λj=>∀sC V4,LL st sB sC p3 1 V4 ((nQ xt xg xy).map bJ) (λA=>[V1,V2,V3,A,.af])->Q (j [.ptr p1 0,.ptr p2 0,.ptr p3 0] sC)) ?_ ?_
  . intro sC V4 hC;have GC:=hC.out.ai;have WC:=GC.wf;have nC:=hC.kx.next;have C1':=hC.kx.keep p1 _ d13 B1;have C2':=hC.kx.keep p2 _ d23 B2;have TC:=TB.kx hC.kx GC sT1;have GSC:=GSB.kx hC.kx GC sG2;have YC:=Mk.kx YB hC.kx GC s3V
    obtain⟨sD,V5,D1,e3⟩:=amk (c:=c) (x2:= .ptr p2 0) hc hr lr (zt:=zt) (zg:=zg) (zy:=zy) (zr:=zr) (xt:=xt) (xg:=xg) (xy:=xy) (V3:=V3) (V4:=V4) WC C1' d13 (by omega) (by omega) TC sT1 GSC sG2 (show(nR xt).length<=1000 by omega) (show(nS xt xg).length<=1000 by omega) aoL ahu (min xr.length 12) 0 sC .af (by omega)
        ⟨Mk.start hw GC,KX.refl WC,hC.h3,λb e=>(nomatch e)⟩
    have e3':∀(k6:List AV->St->Option (AV×St)),jS c 400 k6 400 [.ptr p1 0,.ptr p2 0,.ptr p3 0,.int .i64 0] sC=k6 [.ptr p2 0,.ptr p3 0] sD:=λk6=>e3 400 k6 400 (by omega)
    have GD:=D1.out.ai;have WD:=GD.wf;have D2':=D1.kx.keep p2 _ d23 C2';have s4V:∀b,aK V4=some b->p3.toNat+1<=b.toNat:=λb hb=>by have:=hC.since b hb;omega
    have s5V:∀b,aK V5=some b->p3.toNat+1<=b.toNat:=λb hb=>by have:=D1.since b hb;omega
    have TD:=TC.kx D1.kx GD sT1;have GSD:=GSC.kx D1.kx GD sG2;have YD:=Mk.kx YC D1.kx GD s3V;have CD:=Mk.kx hC.out D1.kx GD s4V;have lD:=WD _ _ D2';have ld5:∀(K:AV->St->Option (AV×St)),aq c (.load (some 5)) [.ptr p3 0] sD K=K (.agg [V1,V2,V3,V4,V5]) sD:=λK=>by rw[gW,D1.h3];rfl
    have one5:aN [V1,V2,V3,V4,V5]=true:=by
        have a1:V1.one=true:=yA TD.out.cells.2;have a2:V2.one=true:=yA v2;have a3:V3.one=true:=yA v3;have a4:V4.one=true:=yA CD.cells.2;have a5:V5.one=true:=yA D1.out.cells.2;simp only[aN,a1,a2,a3,a4,a5,Zk6]
    have sto5:∀(K:AV->St->Option (AV×St)),aq c (.store 5) [.ptr p2 0,.agg [V1,V2,V3,V4,V5]] sD K=K .undef (bg sD p2 (.cells [V1,V2,V3,V4,V5] 0)):=λK=>by rw[bY c K _ 5 p2 0 (.agg [V1,V2,V3,V4,V5]) _ D2' rfl (by simp) one5];rfl
    have kE:KX p2 sD (bg sD p2 (.cells [V1,V2,V3,V4,V5] 0)):=(KX.refl WD).store lD _;have GE:=vF hw GD (show st.next.toNat<=p2.toNat by omega) lD (.cells [V1,V2,V3,V4,V5] 0);obtain⟨fI,t1,t2⟩:=PS.avj (p:=mP xt xg xy xr) (TD.kx kE GE (sT1.le (by omega))) (GSD.kx kE GE (sG2.le (by omega))) (Mk.kx YD kE GE λb hb=>by have:=s3V b hb;omega) (Mk.kx CD kE GE λb hb=>by have:=s4V b hb;omega) (Mk.kx D1.out kE GE λb hb=>by have:=s5V b hb;omega);have hfin:Q (some (.agg [V1,V2,V3,V4,V5],bg sD p2 (.cells [V1,V2,V3,V4,V5] 0))):=(by rw[hQ];exact⟨_,_,rfl,fI,t1,t2⟩);rw[aL,aL,aL,bu,az,e3',aL,aL,bu,ld5,sto5,aaG,bG];exact hfin
  . intro j hj;rw[aT,ld2,SP,cV (by omega) (by omega),BV];by_cases h4:0<xy.length % 4
    .   rw[Za0 (show(0:Int)<(xy.length:Int) % 4 by omega),eo,az,e2',aL,aL,aL,bu];refine hj sC1 V41 ?_;have:nQ xt xg xy=FP xg (nS xt xg).length:=(by unfold nQ;rw[Zb4 h4]);rw[this];exact C1
    .   rw[Za2 (show ¬(0:Int)<(xy.length:Int) % 4 by omega),dQ];refine hj sB .af ?_;have:nQ xt xg xy=[]:=(by unfold nQ;rw[Za6 h4]);rw[this];exact C0
 obtain⟨Vs,s',k1,fI,k2,k3⟩:=key;refine⟨Vs,fI,?_,k3⟩;rw[Qy hc 400 (r:=(.agg Vs,s')) k1,k2]
theorem GY{P:Nat->Bool}:∀(m k i:Nat),k<=i->i<k+m->P i=true->0<=scan P m k
 |0,_,_,_,_,_=>by omega
 |m +   1,k,i,h1,h2,hp=>by
  unfold scan;split
  .omega
  . rename_i hk;exact GY m (k+1) i (by
        rcases Zj2 k i with h|h
        .omega
        .obtain rfl:i=k:=(by omega);exact absurd hp hk) (by omega) hp
theorem aiD{ts:List aB}(h1:∀t∈ts,rM t=0)(h2:∀(i j:Nat)(a b:aB),i<j->ts[i]? =some a->ts[j]? =some b->a.name≠b.name):∀m k,(iD ts m k).2=0
 |0,_=>rfl
 |m+    1,k=>by
  unfold iD;cases e:ts[k]? with
  |none=>rfl
  |some t=>
   have ht:rM t=0:=h1 t (Zc1 e);simp only;rw[Za6 (by simp[ht]),Za6]
   .    exact aiD h1 h2 m (k+1)
   .    intro hs;obtain⟨_,aV,hp⟩:=Bq k 0 hs;generalize (scan (uF ts t.name) k 0).toNat=i at*
        unfold uF at hp;obtain⟨a,ha,hb⟩:=Zf6.1 (Zg1 hp);exact h2 i k a t (by omega) ha e hb
theorem aiE{gs:List aR}(h1:∀g∈gs,jO g=0)(h2:∀(i j:Nat)(a b:aR),i<j->gs[i]? =some a->gs[j]? =some b->a.name≠b.name)(hl:gs.length<=64):∀m k,(oI gs m k).2=0
 |0,_=>rfl
 |m+    1,k=>by
  unfold oI;cases e:gs[k]? with
  |none=>rfl
  |some t=>
   have ht:jO t=0:=h1 t (Zc1 e);have hk:k<gs.length:=(Za1.1 e).1;simp only;rw[Za6 (by simp[ht]),Za6,Za6 (by omega)]
   .    exact aiE h1 h2 hl m (k+1)
   .    intro hs;obtain⟨_,aV,hp⟩:=Bq k 0 hs;generalize (scan (nP gs t.name) k 0).toNat=i at*
        unfold nP at hp;obtain⟨a,ha,hb⟩:=Zf6.1 (Zg1 hp);exact h2 i k a t (by omega) ha e hb
theorem aiF{gs:List aR}{ts:List Ty}(h:∀(k:Nat)(t:Ty),ts[k]? =some t->afZ t (pg ts k)=false/\qW gs t=false/\vH t (pg ts k)=false/\k<256):∀m k,(jP gs ts m k).2=0
 |0,_=>rfl
 |m+1,k=>by
  unfold jP;cases e:ts[k]? with
  |none=>rfl
  |some t=>
   obtain⟨a,b,d,f⟩:=h k t e;simp only;rw[Za6 (by simp[a]),Za6 (by simp[b]),Za6 (by simp[d]),Za6 (by omega)];exact aiF h m (k+1)
theorem ad9{l:List Nat}{n:Nat}(h:∀x∈l,x<n)(h0:0<n)(i:Nat):l.getD i 0<n:=by
 rw[Za8];cases e:l[i]? with
 |none=>simpa using h0
 |some x=>simpa using h x (Zc1 e)
theorem th{α:Type}{f:Nat->α}{k i:Nat}{t:α}(h:((List.range k).map f)[i]? =some t):i<k/\t=f i:=by
 have hi:i<k:=by simpa using(Za1.1 h).1
 rw[Zb7,Zh6 hi,Zd9,H5]at h;exact⟨hi,h.symm⟩
theorem auy:∀i<3,∀x<256,rM (j8 i x)=0:=by decide+kernel
theorem aoO:∀x<256,bw (j8 0 x)=((tN x:Nat):Int):=by decide+kernel
theorem aoP{xt:List Nat}(hx:∀x∈xt,x<256):(bR (nR xt)).2=0:=by
 unfold bR;rw[Za6 (by unfold nR;rw[Sg];omega)];refine aiD (λt ht=> ?_) (λi j a b VU ha hb e=> ?_) _ _
 .obtain⟨i,hi⟩:=Zf1.1 ht;obtain⟨h1,rfl⟩:=th hi;exact auy i (by omega) _ (ad9 hx (by omega) i)
 .obtain⟨h1,rfl⟩:=th ha;obtain⟨h2,rfl⟩:=th hb;have e:fy i=fy j:=e;unfold fy at e;simp only[Zf9,Zn5,Zr1]at e;omega
theorem amm(p:Prop)[Decidable p](i:Nat):zE (if p then bP i else [])=true:=by
 split
 .unfold zE;rw[ad7];simp
 .rfl
theorem auz:∀a b d e:Bool,(Qd none (((if a=true then [0]else [])++(if b=true then [1]else [])++(if d=true then [2]else [])++(if e=true then [3]else [])).map bP)=true/\(((if a=true then [0]else [])++(if b=true then [1]else [])++(if d=true then [2]else [])++(if e=true then [3]else [])).map bP:List (List Nat)).length<=4):=by decide+kernel
theorem arP(x:Nat):Qd none (ES x 4)=true/\(ES x 4).length<=4:=by
 have e:ES x 4=(((if LF x 0=true then [0]else [])++(if LF x 1=true then [1]else [])++(if LF x 2=true then [2]else [])++(if LF x 3=true then [3]else [])).map bP):=by
  unfold ES;rw[show List.range 4=[0,1,2,3]from rfl];cases h0:LF x 0<;>cases h1:LF x 1<;>cases h2:LF x 2<;>cases h3:LF x 3<;>simp[h0,h1,h2,h3]
 rw[e];exact auz _ _ _ _
theorem auA(i x:Nat):jO (yF i x)=0:=by
 have t:=arP x;have n:oD (yF i x).name=true:=ad7 _;have a:zE (yF i x).zQ=true:=amm (x % 2=1) _;have b:zE (yF i x).kj=true:=amm (4<x % 8) _;have d:zE (yF i x).nD=true:=amm (x % 3=2) _;unfold jO;rw[Za6 (by rw[n,a,b,d];simp),Za6 (by show ¬ ¬(0<=((x % 4*500:Nat):Int)/\((x % 4*500:Nat):Int)<=9999);omega),
  Za6 (by show ¬ ¬(0<=((x % 3:Nat):Int)/\((x % 3:Nat):Int)<=2);omega),Za6 (by show ¬4<(ES x 4).length;omega),Za6 (by show ¬Qd none (ES x 4)=false;rw[t.1];simp)]
theorem SQ{a b:Nat}(ha:a<676)(hb:b<676)(h:bP a=bP b):a=b:=by unfold bP at h;simp only[Zf9,Zn5]at h;omega
theorem GZ{a b:Nat}(ha:a<676)(hb:b<676):aO (bP a) (bP b)=decide (a<b):=by
 unfold bP;simp only[aO,JZ,cK];by_cases h1:97+a / 26 % 26<97+b / 26 % 26
 .rw[Za0 h1,Za0 (show a<b by omega)]
 . rw[  Za2 h1];by_cases h2:97+a / 26 % 26=97+b / 26 % 26
   . rw[Za0 h2];by_cases h3:97+a % 26<97+b % 26
     .  rw[Za0 h3,Za0 (show a<b by omega)]
     .  rw[Za2 h3,Za2 (show ¬a<b by omega)];simp only;split<;>rfl
   .rw[Za2 h2,Za2 (show ¬a<b by omega)]
theorem Qz{i:Nat}(h:i<12):FO i=25*i:=by
 have:∀i<12,FO i=25*i:=by decide+kernel
 exact this i h
theorem atB(xs:List Nat):(oI (fX xs) 101 0).2=0:=by
 refine aiE (λg hg=> ?_) (λi j a b VU ha hb e=> ?_) (by have:=GH xs;omega) _ _
 .obtain⟨i,hi⟩:=Zf1.1 hg;obtain⟨h1,rfl⟩:=th hi;exact auA _ _
 .obtain⟨h1,rfl⟩:=th ha;obtain⟨h2,rfl⟩:=th hb;have e:bP (FO i)=bP (FO j):=e;rw[Qz (by omega),Qz (by omega)]at e;have:=SQ (by omega) (by omega) e;omega
theorem Ca{xs:List Nat}{a:Nat}(ha:a<676)(h:bP a∈mS (fX xs)):∃i,i<12/\a=25*i/\∃j,j<(fX xs).length/\nP (fX xs) (bP a) j=true:=by
 unfold mS at h;obtain⟨g,hg,e⟩:=Zc6.1 h;obtain⟨i,hi⟩:=Zf1.1 hg;have hl:=(Za1.1 hi).1;obtain⟨h1,rfl⟩:=th hi;have e:bP (FO i)=bP a:=e;have e2:=e;rw[Qz (by omega)]at e;have:=SQ (by omega) ha e;refine⟨i,by omega,this.symm,i,hl,?_⟩;unfold nP;rw[hi];exact Za0 (congrArg some e2)
def Ij(p:Nat×Nat×Int):Ty:=⟨bP p.1,bP p.2.1,p.2.2⟩
def LJ(p:Nat×Nat×Int):Nat:=p.1*312+p.2.1
def ZV(names:List (List Nat))(ys:List Ty)(q:Nat):Prop:=
 ∃ps:List (Nat×Nat×Int),ys=ps.map Ij/\(∀p∈ps,p.1<p.2.1/\p.2.1<312/\bP p.1∈names/\bP p.2.1∈names/\(p.2.2=1\/p.2.2=2)/\LJ p<q)/\ps.Pairwise λa b=>LJ a<LJ b
theorem ZV.up{names:List (List Nat)}{ys:List Ty}{q q':Nat}(h:ZV names ys q)(hq:q<=q'):ZV names ys q':=by
 obtain⟨ps,e,h1,h2⟩:=h;exact⟨ps,e,λp hp=>by obtain⟨a,b,d,f,g,i⟩:=h1 p hp;exact⟨a,b,d,f,g,by omega⟩,h2⟩
theorem ZV.next{names:List (List Nat)}{bK:List Nat}{ys:List Ty}{i k n:Nat}(h:ZV names ys (i*312+k))(hk:k<312)(EH:i<k)(hi:bP i∈names)(tS:bP k∈names):ZV names (FQ bK i k n ys) (i*312+(k+1)):=by
 unfold FQ;split
 . rename_i hc;obtain⟨ps,e,h1,h2⟩:=h;unfold aiB at hc;simp only[Zb2,Ze7]at hc;refine⟨ps++[(i,k,1+((bK.getD n 0 % 4:Nat):Int))],by rw[Zc8,e];rfl,λp hp=> ?_,?_⟩
   . rcases Zd5.1 hp with hp|hp
     .  obtain⟨a,b,d,f,g,j⟩:=h1 p hp;exact⟨a,b,d,f,g,by omega⟩
     .  simp only[Za9,Zc3,Zf0]at hp;subst hp;exact⟨EH,hk,hi,tS,by show 1+((bK.getD n 0 % 4:Nat):Int)=1\/1+((bK.getD n 0 % 4:Nat):Int)=2;omega,by show i*312+k<_;omega⟩
   .rw[List.pairwise_append];refine⟨h2,List.pairwise_singleton _ _,λa ha b hb=> ?_⟩;simp only[Za9,Zc3,Zf0]at hb;subst hb;exact(h1 a ha).2.2.2.2.2
 .exact h.up (by omega)
theorem abh{names:List (List Nat)}{bK:List Nat}{i:Nat}:∀(m k n:Nat)(ys:List Ty),k+m<=312->i<k->ZV names ys (i*312+k)->ZV names (mT names bK i m k n ys).2 (i*312+312)
 |0,k,n,ys,h1,_,h=>by unfold mT;exact h.up (by omega)
 |m +   1,k,n,ys,h1,h2,h=>by
  unfold mT;split
  . rename_i hi;split
    .   rename_i hk;exact abh m (k+1) (n+1) _ (by omega) (by omega) (h.next (by omega) h2 hi hk)
    .   exact abh m (k+1) n ys (by omega) (by omega) (h.up (by omega))
  .exact h.up (by omega)
theorem ae2{names:List (List Nat)}{bK:List Nat}:∀(m i n:Nat)(ys:List Ty),i+m=312->ZV names ys (i*312)->∃q,ZV names (Xk names bK m i n ys) q
 |0,i,n,ys,_,h=>⟨_,h⟩
 |m+1,i,n,ys,h1,h=>by
  unfold Xk;exact ae2 m (i+1) _ _ (by omega) ((abh m (i+1) n ys (by omega) (by omega) (h.up (by omega))).up (by omega))
def rkN(i j:Nat):Nat:=i*(23 - i) / 2+(j - i - 1)
theorem auB:((List.range 12).all λi=>(List.range 12).all λj=>(List.range 12).all λa=>(List.range 12).all λb=> !(decide (i<j)&&decide (a<b)&&(decide (i<a)||(decide (i=a)&&decide (j<b))))||decide (rkN i j<rkN a b))=true:=by decide+kernel
theorem avk(i:Nat)(hi:i<12)(j:Nat)(hj:j<12)(a:Nat)(ha:a<12)(b:Nat)(hb:b<12)(h1:i<j)(h2:a<b)(h3:i<a\/i=a/\j<b):rkN i j<rkN a b:=by
 have h:=Zg8.1 (Zg8.1 (Zg8.1 (Zg8.1 auB i (Zg3.2 hi)) j (Zg3.2 hj)) a (Zg3.2 ha)) b (Zg3.2 hb);have d3:(decide (i<a)||(decide (i=a)&&decide (j<b)))=true:=by
  rcases h3 with h3|⟨h3,h4⟩
  .rw[Za0 h3];rfl
  .rw[Za0 h3,Za0 h4];simp
 rw[Za0 h1,Za0 h2,d3]at h;simpa using h
theorem avl:∀i<12,∀j<12,i<j->rkN i j<66:=by decide+kernel
theorem aoQ{N:Nat}:∀{l:List Nat}{k:Nat},l.Pairwise (· < ·)->(∀x∈l,k<=x/\x<N)->l.length<=N - k
 |[],_,_,_=>by simp
 |x::l,k,h,hk=>by
  obtain⟨h1,h2⟩:=List.pairwise_cons.1 h;have hx:=hk x (by simp);have:=aoQ (k:=x+1) h2 λy hy=>⟨h1 y hy,(hk y (Zb0 _ hy)).2⟩
  simp only[Zc9];omega
theorem aeJ(xs bK:List Nat):(Db xs bK).length<=66/\(jP (fX xs) (Db xs bK) 101 0).2=0:=by
 obtain⟨q,ps,e,h1,h2⟩:=ae2 (names:=mS (fX xs)) (bK:=bK) 312 0 0 [] rfl ⟨[],rfl,λp hp=>by simp at hp,List.Pairwise.nil⟩;have e:Db xs bK=ps.map Ij:=e;have hlen:ps.length<=66:=by
   have:=aoQ (N:=66) (k:=0) (l:=ps.map λp=>rkN (p.1 / 25) (p.2.1 / 25)) (by
     rw[List.pairwise_map];refine List.Pairwise.imp_of_mem (λ{a b} ha hb Ww=> ?_) h2;obtain⟨a1,a2,a3,a4,_⟩:=h1 a ha;obtain⟨b1,b2,b3,b4,_⟩:=h1 b hb;obtain⟨i,hi,e1,_⟩:=Ca (by omega) a3;obtain⟨j,hj,e2,_⟩:=Ca (by omega) a4;obtain⟨i',OS,e3,_⟩:=Ca (by omega) b3;obtain⟨j',KE,e4,_⟩:=Ca (by omega) b4;unfold LJ at Ww;exact avk _ (by omega) _ (by omega) _ (by omega) _ (by omega) (by omega) (by omega) (by omega)) (λx hx=>by
     obtain⟨p,hp,rfl⟩:=Zc6.1 hx;obtain⟨a1,a2,a3,a4,_⟩:=h1 p hp;obtain⟨i,hi,e1,_⟩:=Ca (by omega) a3;obtain⟨j,hj,e2,_⟩:=Ca (by omega) a4;exact⟨Zi1 _,avl _ (by omega) _ (by omega) (by omega)⟩)
   simpa using this
 refine⟨by rw[e,Za5];exact hlen,aiF (λk t ht=> ?_) 101 0⟩;rw[e,Zb7]at ht;obtain⟨p,hp,rfl⟩:=Zf6.1 ht;have hk:k<ps.length:=(Za1.1 hp).1;obtain⟨a1,a2,a3,a4,a5,_⟩:=h1 p (Zc1 hp);have kn:ZO (Ij p)=true:=by unfold ZO Ij;rcases a5 with h|h<;>simp[h]
 have ls:aO (Ij p).a (Ij p).b=true:=(GZ (by omega) (by omega)).trans (Za0 a1);have prev:∀u,pg (Db xs bK) k=some u->fE (Ij p) u=false/\fE u (Ij p)=true:=λu hu=>by
   unfold pg at hu;by_cases h0:k=0
   .rw[Zb4 h0]at hu;cases hu
   rw[Za6 h0,e,Zb7]at hu;obtain⟨r,hr,rfl⟩:=Zf6.1 hu;obtain⟨b1,b2,b3,b4,b5,_⟩:=h1 r (Zc1 hr);have lt:LJ r<LJ p:=by
     have hr1:=(Za1.1 hr)
     have ke:=(Za1.1 hp)
     obtain⟨w1,Xc⟩:=hr1;obtain⟨w2,Gk⟩:=ke;rw[<-Xc, <-Gk];exact List.pairwise_iff_getElem.1 h2 (k - 1) k w1 w2 (by omega)
   unfold LJ at lt;unfold fE Ij;simp only;rw[GZ (by omega) (by omega),GZ (by omega) (by omega),GZ (by omega) (by omega),GZ (by omega) (by omega)];by_cases hq:r.1=p.1
   .rw[hq,Za2 (show ¬p.1<p.1 by omega),Za2 (show ¬p.2.1<r.2.1 by omega),Za0 (show r.2.1<p.2.1 by omega)];simp
   .rw[Za2 (show ¬p.1<r.1 by omega),Za0 (show r.1<p.1 by omega),Za2 (show ¬bP p.1=bP r.1 from λh=>hq (SQ (by omega) (by omega) h).symm)];simp
 have unk:qW (fX xs) (Ij p)=false:=by obtain⟨_,_,_,i,hi,g1⟩:=Ca (by omega) a3;obtain⟨_,_,_,j,hj,g2⟩:=Ca (by omega) a4;have s1:=GY (fX xs).length 0 i (by omega) (by omega) g1;have s2:=GY (fX xs).length 0 j (by omega) (by omega) g2;unfold qW;rw[Za2 (show ¬scan (nP (fX xs) (Ij p).a) (fX xs).length 0<0 from λh=>by have h:scan (nP (fX xs) (bP p.1)) (fX xs).length 0<0:=h;omega),Za2 (show ¬scan (nP (fX xs) (Ij p).b) (fX xs).length 0<0 from λh=>by have h:scan (nP (fX xs) (bP p.2.1)) (fX xs).length 0<0:=h;omega)];rfl
 refine⟨?_,unk,?_,by omega⟩
 . unfold afZ;rw[kn,ls];cases hv:pg (Db xs bK) k with
   |none=>rfl
   |some u=>simp[(prev u hv).1]
 . unfold vH;cases hv:pg (Db xs bK) k with
   |none=>rfl
   |some u=>simp[(prev u hv).2]
theorem aoR(xs bK:List Nat):(dU (fX xs) (Db xs bK)).2=0:=by unfold dU;rw[Za6 (by rw[atB];simp)];exact(aeJ xs bK).2
theorem WA{xt:List Nat}(hx:∀x∈xt,x<256):∀k,k<=3->aU (rJ xt k)=((j6 xt k:Nat):Int)
 |0,_=>rfl
 |k+1,h=>by
  have ih:=WA hx k (by omega);have e:rJ xt (k+1)=rJ xt k++[j8 k (xt.getD k 0)]:=by unfold rJ;rw[Zg2,Zc8];rfl
  have z:bw (j8 k (xt.getD k 0))=((tN (xt.getD k 0):Nat):Int):=aoO _ (ad9 hx (by omega) k);rw[e];unfold aU at ih ⊢;rw[Zc8,Zs1,ih];simp only[Zd3,Zi8,Zm2,List.sum_nil,z];have e2:j6 xt (k+1)=j6 xt k+tN (xt.getD k 0):=rfl;omega
theorem amn{xt xg xy:List Nat}(hx:∀x∈xt,x<256)(z1 z2 z3 z4 z5:Bool)(rs:List Rl):(jF ⟨z1,nR xt,z2,nS xt xg,z3,aoJ xt xg xy,z4,nQ xt xg xy,z5,rs⟩).2=0:=by
 unfold jF;rw[Za6 (by show ¬(bR (nR xt)).2≠0;rw[aoP hx];simp),Za6 (by show ¬(dU (fX (uB xt xg)) (Db (uB xt xg) xy)).2≠0;rw[aoR];simp)];rw[Za6 (by
  show ¬((nQ xt xg xy).length≠0/\(nQ xt xg xy).length≠(nS xt xg).length);unfold nQ;split
  .rw[Lj];simp
  .simp),Za6 (by
  show ¬zq (nQ xt xg xy)=false;rw[   show zq (nQ xt xg xy)=true from by
    unfold zq nQ;rw[Zg8];intro y hy;split at hy
    .   unfold FP at hy;obtain⟨i,_,rfl⟩:=Zc6.1 hy;rw[Zb2];exact⟨Za0 (by omega),Za0 (by omega)⟩
    .   simp at hy]
  simp),Za6]
 show ¬aU (nR xt)<((nS xt xg).length:Int)
 unfold nR nS fX;rw[Ll,WA hx _ (by omega)];unfold uB;rw[Zg7];omega
theorem aoS{p:cr}{a:Nat}(ha:a<p.gs.length):¬gi p (oQ p.gs a)<0:=by have:=GY (P:=nP p.gs (oQ p.gs a)) p.gs.length 0 a (by omega) (by omega) (by unfold nP oQ;rw[H0 ha];simp);unfold gi;omega
theorem auC{p:cr}(hd:∀(i j:Nat)(a b:aB),i<j->p.ts[i]? =some a->p.ts[j]? =some b->a.name≠b.name){t:Nat}(ht:t<p.ts.length):ti p (yP p.ts t)=(t:Int):=by
 have h0:=GY (P:=uF p.ts (yP p.ts t)) p.ts.length 0 t (by omega) (by omega) (by unfold uF yP;rw[H0 ht];simp);obtain⟨_,h1,h2⟩:=Bq p.ts.length 0 h0;unfold ti;generalize scan (uF p.ts (yP p.ts t)) p.ts.length 0=k at*
 unfold uF yP at h2;rw[H0 ht]at h2;obtain⟨u,hu,e⟩:=Zf6.1 (Zg1 h2);rcases Nat.lt_trichotomy k.toNat t with h|h|h
 .exact absurd e (hd _ _ _ _ h hu (H0 ht))
 .omega
 .exact absurd e.symm (hd _ _ _ _ h (H0 ht) hu)
theorem anD{p:cr}(hg:∀g∈p.gs,g.nD=[]\/oD g.nD=true)(hgd:∀(i j:Nat)(a b:aR),i<j->p.gs[i]? =some a->p.gs[j]? =some b->a.name≠b.name)(htd:∀(i j:Nat)(a b:aB),i<j->p.ts[i]? =some a->p.ts[j]? =some b->a.name≠b.name)
   (um:∀t∈p.ts,bw t=nI t.sh t.a t.b/\0<bw t) (x:Nat) (h:(gZ p.ts p.gs x).2=true):ua p (gZ p.ts p.gs x).1=0:=by
 unfold gZ at h ⊢;by_cases h0:p.gs.length=0\/p.ts.length=0
 .rw[Zb4 h0]at h;cases h
 rw[Za6 h0]at h ⊢;have hw:(Xg (x / 18))<=7:=by unfold Xg;split<;>omega
 have ha:x / 18 / 5 % p.gs.length<p.gs.length:=Zk8 _ (by omega);have hb:x / 18 / 5 / p.gs.length % p.gs.length<p.gs.length:=Zk8 _ (by omega);have fB:x / 18 / 5 / 7 % p.ts.length<p.ts.length:=Zk8 _ (by omega);have hn:x / 18 / 5 / 11 % 4<4:=Zk8 _ (by omega);have k1:1<=1+x % 18:=by omega
 have k2:1+x % 18<=18:=by omega
 generalize 1+x % 18=k at*
 generalize Xg (x / 18)=w at*
 generalize x / 18 / 5=z at*
 generalize z % p.gs.length=a at*
 generalize z / p.gs.length % p.gs.length=b at*
 generalize z / 7 % p.ts.length=t at*
 generalize z / 11 % 4=n at*
 have g1:=aoS ha;have g2:=aoS hb;have g3:GW p.gs a=[]\/oD (GW p.gs a)=true:=by unfold GW;rw[H0 ha];exact hg _ (Zb8 ha)
 have g4:=auC htd fB;have g5:B9 p.ts t=zS p ((t:Nat):Int)/\0<B9 p.ts t:=by have:=um _ (Zb8 fB);unfold B9 zS;rw[Zd0,H0 fB];simp only;omega
 have g6:0<=((z / 13:Nat):Int) % B9 p.ts t/\((z / 13:Nat):Int) % B9 p.ts t<=B9 p.ts t - 1:=⟨Zs2 _ (by omega),by have:=Zq9 ((z / 13:Nat):Int) g5.2;omega⟩
 have g7:a≠b->oQ p.gs a≠oQ p.gs b:=λWw e=>by
   unfold oQ at e;rw[H0 ha,H0 hb]at e;rcases Nat.lt_or_gt_of_ne Ww with h|h
   .exact hgd _ _ _ _ h (H0 ha) (H0 hb) e
   .exact hgd _ _ _ _ h (H0 hb) (H0 ha) e.symm
 clear hg ha hb fB h0 hgd htd um;obtain⟨g5,_⟩:=g5;rw[g5]at g6;rcases B4 k1 k2 with rfl|rfl|rfl|rfl|rfl|rfl|rfl|rfl|rfl|rfl|rfl|rfl|rfl|rfl|rfl|rfl|rfl|rfl
 all_goals
   unfold Sk at h ⊢;unfold ua Sa Lf adB Yr Bp;simp[kd]at h ⊢
   first
   |done
   |omega
   |(simp[*];done)
   |(simp[*];omega)
   |grind
theorem aaZ{ts:List aB}{gs:List aR}{xr:List Nat}:∀{k:Nat}{r:Rl},r∈Br ts gs xr k->∃x,(gZ ts gs x).2=true/\r=(gZ ts gs x).1
 |0,_,h=>by cases h
 |k +   1,r,h=>by
  unfold Br at h;rcases Zd5.1 h with h|h
  .exact aaZ h
  . split at h
    .   rename_i e;simp only[Za9,Zc3,Zf0]at h;exact⟨_,e,h⟩
    .   cases h
theorem ae3{p:cr}(h:∀r∈p.rs,ua p r=0)(hl:p.rs.length<=64):∀m i,(nU p m i).2=0
 |0,_=>rfl
 |m+1,i=>by
  unfold nU;cases e:p.rs[i]? with
  |none=>rfl
  |some r=>
   have:=(Za1.1 e).1;simp only;rw[Za6 (by rw[h r (Zc1 e)];simp),Za6 (by omega)];exact ae3 h hl m (i+1)
theorem SS{xt:List Nat}{i:Nat}{t:aB}(h:(nR xt)[i]? =some t):i<3/\t=j8 i (xt.getD i 0):=by
 obtain⟨h1,h2⟩:=th h;exact⟨by omega,h2⟩
theorem M9{xs:List Nat}{i:Nat}{g:aR}(h:(fX xs)[i]? =some g):i<12/\g=yF i (xs.getD i 0):=by
 obtain⟨h1,h2⟩:=th h;exact⟨by omega,h2⟩
theorem Wz{xt:List Nat}:∀(i j:Nat)(a b:aB),i<j->(nR xt)[i]? =some a->(nR xt)[j]? =some b->a.name≠b.name:=λi j a b VU ha hb e=>by obtain⟨h1,rfl⟩:=SS ha;obtain⟨h2,rfl⟩:=SS hb;have e:fy i=fy j:=e;unfold fy at e;simp only[Zf9,Zn5,Zr1]at e;omega
theorem Wy{xs:List Nat}:∀(i j:Nat)(a b:aR),i<j->(fX xs)[i]? =some a->(fX xs)[j]? =some b->a.name≠b.name:=λi j a b VU ha hb e=>by obtain⟨h1,rfl⟩:=M9 ha;obtain⟨h2,rfl⟩:=M9 hb;have e:bP (FO i)=bP (FO j):=e;rw[Qz (by omega),Qz (by omega)]at e;have:=SQ (by omega) (by omega) e;omega
theorem aeK{xs:List Nat}:∀g∈fX xs,g.nD=[]\/oD g.nD=true:=λg hg=>by
 obtain⟨i,hi⟩:=Zf1.1 hg;obtain⟨_,rfl⟩:=M9 hi;show(if(xs.getD i 0) % 3=2 then bP ((xs.getD i 0) % 5)else [])=[]\/oD (if(xs.getD i 0) % 3=2 then bP ((xs.getD i 0) % 5)else [])=true;split
 .exact .inr (ad7 _)
 .exact .inl rfl
theorem N7{xt:List Nat}(hx:∀x∈xt,x<256):∀t∈nR xt,bw t=nI t.sh t.a t.b/\0<bw t:=λt ht=>by
 obtain⟨i,hi⟩:=Zf1.1 ht;obtain⟨h1,rfl⟩:=SS hi;have aV:=ad9 hx (by omega) i;have z:bw (j8 i (xt.getD i 0))=((tN (xt.getD i 0):Nat):Int):=aoO _ aV;have e:nI (j8 i (xt.getD i 0)).sh (j8 i (xt.getD i 0)).a (j8 i (xt.getD i 0)).b=((tN (xt.getD i 0):Nat):Int):=YE _;have h1:=aoK (xt.getD i 0);exact⟨by rw[z,e],by rw[z];omega⟩
theorem alq{xt xg xy xr:List Nat}(hx:∀x∈xt,x<256):(jZ (mP xt xg xy xr)).2=0:=by
 unfold jZ;have hb:(jF (mP xt xg xy xr)).2=0:=amn hx _ _ _ _ _ _;rw[Za6 (by rw[hb];simp)];refine ae3 (λr hr=> ?_) ?_ _ _
 .obtain⟨x,h1,rfl⟩:=aaZ hr;exact anD (p:=mP xt xg xy xr) aeK Wy Wz (N7 hx) x h1
 .have:=Si (nR xt) (nS xt xg) xr (min xr.length 12);show(Br _ _ _ _).length<=64;omega
end
end Go.Proofs.YtgihekklfnjkiaaGreatDoor
