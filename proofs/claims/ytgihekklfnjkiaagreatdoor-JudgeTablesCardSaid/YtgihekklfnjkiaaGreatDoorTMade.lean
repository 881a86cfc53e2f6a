/- A valid problem out of numbers. -/
import Derived.Test.YtgihekklfnjkiaaGreatDoorTPlainC
set_option linter.all false
set_option linter.unusedSectionVars false
set_option linter.deprecated false
namespace Go.Proofs.YtgihekklfnjkiaaGreatDoor
section
set_option maxRecDepth 100000
open Go Go.Ai Go.Proofs
variable{c : au}
def eR(i:Nat):List Nat:=[116,97+i % 26]
def bQ(i:Nat):List Nat:=[97+i / 26 % 26,97+i % 26]
theorem aq0(hc:bH c)(i:Nat)(hi:i<1000000)(st:St)(hw:Wf st):c 85 [.int .i64 (i:Int)] st=some (.str (eR i),st):=by
 have hg:=Grew.ah hw (.cells [.int .u8 116,.int .u8 (97+(i:Int) % 26)] 0);rw[Ri hc 1 (r:=(.str (eR i),ah st (.cells [.int .u8 116,.int .u8 (97+(i:Int) % 26)] 0))),aE (Plain.str _) hg.keeps];rw[VM];have w1:ax .i64 (97+(i:Int) % 26)=97+(i:Int) % 26:=wrap64 (by omega) (by omega);have w2:ax .u8 (97+(i:Int) % 26)=97+(i:Int) % 26:=Du (by omega) (by omega);have r1:=λ(s:St)(K:AV->St->Option (AV×St))=>cN (c:=c) (k:= .i64) (a:=(i:Int)) (b:=26) (by omega) (by omega) s K
 have two:=λ(s:St)(K:AV->St->Option (AV×St))=>ahr (c:=c) (x:=116) (y:=97+(i:Int) % 26) 116 (97+i % 26) rfl (by omega) (by omega) (by omega) s K
 simp[-av,r1,vF,w1,w2,two,eR]
theorem Ab(hc:bH c)(i:Nat)(hi:i<1000000)(st:St)(hw:Wf st):c 86 [.int .i64 (i:Int)] st=some (.str (bQ i),st):=by
 have hg:=Grew.ah hw (.cells [.int .u8 (97+(i:Int) / 26 % 26),.int .u8 (97+(i:Int) % 26)] 0);rw[ND hc 1 (r:=(.str (bQ i),ah st (.cells [.int .u8 (97+(i:Int) / 26 % 26),.int .u8 (97+(i:Int) % 26)] 0))),aE (Plain.str _) hg.keeps];rw[Rj];have w1:ax .i64 (97+(i:Int) % 26)=97+(i:Int) % 26:=wrap64 (by omega) (by omega);have w2:ax .u8 (97+(i:Int) % 26)=97+(i:Int) % 26:=Du (by omega) (by omega);have w3:ax .i64 (97+(i:Int) / 26 % 26)=97+(i:Int) / 26 % 26:=wrap64 (by omega) (by omega);have w4:ax .u8 (97+(i:Int) / 26 % 26)=97+(i:Int) / 26 % 26:=Du (by omega) (by omega);have r1:=λ(s:St)(K:AV->St->Option (AV×St))=>cN (c:=c) (k:= .i64) (a:=(i:Int)) (b:=26) (by omega) (by omega) s K
 have r2:=λ(s:St)(K:AV->St->Option (AV×St))=>iz (c:=c) (a:=(i:Int)) (b:=26) (by omega) (by omega) (by omega) s K
 have r3:=λ(s:St)(K:AV->St->Option (AV×St))=>cN (c:=c) (k:= .i64) (a:=(i:Int) / 26) (b:=26) (by omega) (by omega) s K
 have two:=λ(s:St)(K:AV->St->Option (AV×St))=>ahr (c:=c) (x:=97+(i:Int) / 26 % 26) (y:=97+(i:Int) % 26) (97+i / 26 % 26) (97+i % 26) (by omega) (by omega) (by omega) (by omega) s K
 simp[-av,r1,r2,r3,vF,w1,w2,w3,w4,two,bQ]
def ot(sh a b:Int):Int:=if sh=2 then 2*a+b else if sh=3 then a+2*b else a
theorem Ma(hc:bH c){l:List AV}{sh a b:Int}(h1:l[1]? =some (.int .u8 sh))(h2:l[2]? =some (.int .i64 a))(h3:l[3]? =some (.int .i64 b))(ha:0<=a/\a<=1000000)(hb:0<=b/\b<=1000000)(st:St)(hw:Wf st):
   c 46 [.agg l] st=some (.int .i64 (ot sh a b),st):=by
 have hg:=Grew.ah hw (.cells l 0);have p1:=az st (.cells l 0);rw[Rk hc 1 (r:=(.int .i64 (ot sh a b),ah st (.cells l 0))),aE (Plain.int _ _) hg.keeps];rw[VN];have w1:ax .i64 (2*a)=2*a:=wrap64 (by omega) (by omega);have w2:ax .i64 (2*b)=2*b:=wrap64 (by omega) (by omega);have w3:ax .i64 (2*a+b)=2*a+b:=wrap64 (by omega) (by omega);have w4:ax .i64 (a+2*b)=a+2*b:=wrap64 (by omega) (by omega);unfold ot;by_cases e2:sh=2
 . subst e2;simp[p1,h1,h2,h3,w1,w3]
 . by_cases e3:sh=3
   . subst e3;simp[p1,h1,h2,h3,w2,w4]
   . have d2:decide (sh=2)=false:=Za2 e2;have d3:decide (sh=3)=false:=Za2 e3;simp[p1,h1,h2,h3,e2,e3,d2,d3]
def aen(i:Nat):List AV:=[.int .i64 (i:Int)]
def uU:List AV:=[.str [],.int .u8 0,.int .i64 0,.int .i64 0,.af,.int .i64 0,.int .i64 0]
def gY(nm:List Nat)(sh a b:Int)(x:Nat)(v:AV):List AV:=[.str nm,.int .u8 sh,.int .i64 a,.int .i64 b,v,.int .i64 (x:Int),.int .i64 (255 - (x:Int))]
def aby(x i:Nat):Bool:=decide (x / 2 ^ i % 2=1)&&decide (0<x % 3)
theorem atg(x i:Nat):aby x i=(decide (x / 2 ^ i % 2=1)&&decide (0<x % 3)):=by rw[aby]
def DI(x k:Nat):List Nat:=(List.range k).filter (aby x)
theorem afg(x k:Nat):DI x (k+1)=DI x k++(if aby x k=true then [k]else []):=by
 unfold DI;rw[Zf8,Zk5];congr 1;cases h:aby x k with
 |true=>simp[h]
 |false=>simp[h]
theorem ahP(x k:Nat):(DI x k).length<=k:=by have:=Zl6 (aby x) (List.range k);rw[Zp7]at this;exact this
structure TI(st s:St)(p4 p5:Pos)(nm:List Nat)(sh a b:Int)(x k:Nat)(v:AV):Prop where
 out:Mk 1 st s v ((DI x k).map aen)
 h4:s.heap.get p4=some (.cells uU 0)
 h5:s.heap.get p5=some (.cells (gY nm sh a b x v) 0)
 n4:aK v≠some p4
 n5:aK v≠some p5
theorem amo(hc:bH c){nm:List Nat}{sh a b:Int}{x n:Nat}(ha:0<=a/\a<=1000000)(hb:0<=b/\b<=1000000)(hx:x<1000000)(hn:ot sh a b=(n:Int))(hn64:n<=64){st:St}{p4 p5:Pos}(h4:st.next.toNat<=p4.toNat)(h5:st.next.toNat<=p5.toNat)(Rm:p4≠p5)
  (F:Nat) (k3):∀(m k:Nat)(s:St)(v:AV),TI st s p4 p5 nm sh a b x k v->n<=k+m->k<=n->
  ∃s' v',TI st s' p4 p5 nm sh a b x n v'/\js c F k3 (m+1) [.int .i64 (x:Int),.ptr p4 0,.ptr p5 0,.int .i64 (k:Int)] s=k3 [.ptr p4 0,.ptr p5 0] s':=by
 intro m;induction m with
 |zero=>
  intro k s v hT h1 h2;obtain rfl:k=n:=by omega
  refine⟨s,v,hT,?_⟩;have S:=Ma hc (l:=gY nm sh a b x v) rfl rfl rfl ha hb s hT.out.ai.wf;have cu:cut (gY nm sh a b x v) 0 7=some (gY nm sh a b x v):=cM rfl;rw[hn]at S;rw[nF];simp[hT.h5,cu,S]
 |succ m ih=>
  intro k s v hT h1 h2;have hw:=hT.out.ai.wf;have S:=Ma hc (l:=gY nm sh a b x v) rfl rfl rfl ha hb s hw;have cu:cut (gY nm sh a b x v) 0 7=some (gY nm sh a b x v):=cM rfl;rw[hn]at S;clear hn;by_cases h:k<n
  . have hx0:(0:Int)<=(x:Int):=Int.natCast_nonneg x;have w:ax .i64 ((k:Int)+1)=((k+1:Nat):Int):=wrap64 (by omega) (by omega);have sr:=λ(s:St)(K:AV->St->Option (AV×St))=>ahq (c:=c) (a:=(x:Int)) (i:=k) (Zb0 h2 hn64) s K
    have p0:(0:Int)<=(x:Int) / 2 ^ k:=Zq9 hx0 (Int.le_of_lt (Int.pow_pos (by omega)));have r1:=λ(s:St)(K:AV->St->Option (AV×St))=>cN (c:=c) (k:= .i64) (a:=(x:Int) / 2 ^ k) (b:=2) p0 (by decide) s K
    have r2:=λ(s:St)(K:AV->St->Option (AV×St))=>cN (c:=c) (k:= .i64) (a:=(x:Int)) (b:=3) hx0 (by decide) s K
    have d1:decide ((x:Int) / 2 ^ k % 2=1)=decide (x / 2 ^ k % 2=1):=(by have:((x:Int) / 2 ^ k % 2=1)↔(x / 2 ^ k % 2=1):=(by rw[show((x:Int) / 2 ^ k % 2)=((x / 2 ^ k % 2:Nat):Int)by simp];omega);exact decide_eq_decide.2 this);have d2:decide (0<(x:Int) % 3)=decide (0<x % 3):=decide_eq_decide.2 (by omega);have c4:(gY nm sh a b x v)[4]? =some v:=rfl;have hl:decide ((k:Int)<(n:Int))=true:=Za0 (Int.ofNat_lt.2 h);have fin:=atg x k;cases hq:aby x k with
    |   true=>
        have hrl:((DI x k).map aen).length<=64:=(by rw[Za5];have:=ahP x k;omega);obtain⟨s5,v5,a1,a2,a3,a4⟩:=hT.out.push (c:=c) (R:=AV×St) (bytes:=8) (z:=[.int .i64 0]) (x:= .int .i64 (k:Int)) rfl rfl rfl (by decide) (by omega) (by omega);have e:(DI x (k+1)).map aen=(DI x k).map aen++[(.int .i64 (k:Int):AV).cells]:=(by rw[afg,Zb3 hq,Zc8];rfl);rw[<-e]at a2;have y4:=a3 p4 _ hT.n4 hT.h4;have y5:=a3 p5 _ hT.n5 hT.h5;have l4:=hw p4 _ hT.h4;have l5:=hw p5 _ hT.h5;have b4:aK v5≠some p4:=λe=>by have:=a4 _ e;omega
        have b5:aK v5≠some p5:=λe=>by have:=a4 _ e;omega
        have hw5:=a2.ai.wf;have l5':=hw5 p5 _ y5;have M:=a2.store (p:=p5) (b:= .cells (gY nm sh a b x v5) 0) h5 l5' b5;obtain⟨vc,v1⟩:=a2.cells;have bw:∀(K:AV->St->Option (AV×St)),aq c (.store 1) [.ptr p5 4,v5] s5 K=K .undef (aY s5 p5 (.cells (gY nm sh a b x v5) 0)):=λK=>by rw[bP c K s5 1 p5 4 v5 (gY nm sh a b x v) y5 (by rw[vc];rfl) (by simp[gY]) (by rw[vc];exact v1),vc];rfl
        have T5:TI st (aY s5 p5 (.cells (gY nm sh a b x v5) 0)) p4 p5 nm sh a b x (k+1) v5:=⟨M,by rw[aG (λe=>Rm e.symm)];exact y4,bN _ _ _,b4,b5⟩
        obtain⟨s',v',b1,b2⟩:=ih (k+1) _ v5 T5 (by omega) (by omega);refine⟨s',v',b1,?_⟩;rw[<-b2,nF];rw[fin,Zb6]at hq;simp[-av,hT.h5,cu,S,h,dz,sr,r1,r2,d1,d2,hq.1,hq.2,c4,a1,bw,w]
    |   false=>
        have e:(DI x (k+1))=(DI x k):=(by rw[afg,Za7 (by rw[hq];decide),Ze0]);obtain⟨s',v',b1,b2⟩:=ih (k+1) s v ⟨by rw[e];exact hT.out,hT.h4,hT.h5,hT.n4,hT.n5⟩ (by omega) (by omega);refine⟨s',v',b1,?_⟩;rw[<-b2,nF];rw[fin]at hq;cases g1:decide (x / 2 ^ k % 2=1)with
        |false=>simp[-av,hT.h5,cu,S,h,dz,sr,r1,r2,d1,d2,g1,c4,w]
        |true=>
         rw[g1,Zf6]at hq;simp[-av,hT.h5,cu,S,h,dz,sr,r1,r2,d1,d2,g1,hq,c4,w]
  . obtain rfl:k=n:=(by omega);refine⟨s,v,hT,?_⟩;rw[nF];simp[hT.h5,cu,S]
theorem mC(s:St)(cs:List AV)(o:Nat)(v:AV)(ho:o<cs.length)(h1:v.cells=[v])(h2:v.one=true)(K:AV->St->Option (AV×St)):aq c (.store 1) [.ptr s.next o,v] (ah s (.cells cs 0)) K=K .undef (ah s (.cells (cs.set o v) 0)):=by
 rw[bP c K (ah s (.cells cs 0)) 1 s.next o v cs (az _ _) (by rw[h1];rfl) (by omega) (by rw[h1];simp[aM,h2]),h1,zW _ _ ho,Lj]
def oV(x:Nat):Nat:=1+x % 4
def tA(x:Nat):Nat:=if x % 4=0 then 1+x / 4 % 6 else if x % 4=1 then 1+x / 4 % 3 else if x % 4=2 then 1+x / 4 % 2 else 1+x / 4 % 5
def tB(x:Nat):Nat:=if x % 4=0 then 0 else if x % 4=1 then x / 4 / 3 % 3 else if x % 4=2 then 1+x / 4 / 2 % 2 else min (1+x / 4 % 5) (x / 4 / 5 % 4)
def tN(x:Nat):Nat:=if x % 4=1 then 2*tA x+tB x else if x % 4=2 then tA x+2*tB x else tA x
theorem agm(x:Nat):tA x<=6:=by unfold tA;split<;>(try split)<;>(try split)<;>omega
theorem ago(x:Nat):tB x<=3:=by unfold tB;split<;>(try split)<;>(try split)<;>omega
theorem acG(x:Nat):tN x<=16:=by have:=agm x;have:=ago x;unfold tN;split<;>(try split)<;>omega
theorem Zb(x:Nat):ot ((oV x:Nat):Int) ((tA x:Nat):Int) ((tB x:Nat):Int)=((tN x:Nat):Int):=by
 unfold ot tN oV;by_cases h1:x % 4=1
 . rw[Zb3 (by omega),Zb3 h1];omega
 . by_cases h2:x % 4=2
   . rw[Za7 (by omega),Zb3 (by omega),Za7 h1,Zb3 h2];omega
   . rw[Za7 (by omega),Za7 (by omega),Za7 h1,Za7 h2]
set_option maxHeartbeats 2000000 in
theorem aq1(hc:bH c)(i x:Nat)(hi:i<1000000)(hx:x<256)(st:St)(hw:Wf st):∃v s',c 45 [.int .i64 (i:Int),.int .i64 (x:Int)] st=some (.agg (gY (eR i) (oV x:Nat) (tA x:Nat) (tB x:Nat) x v),s')/\Mk 1 st s' v ((DI x (tN x)).map aen):=by
 have cg:Wf (ah st (.cells uU 0)):=bn hw;have g1:=Grew.ah hw (.cells uU 0);have W:=aq0 hc i hi (ah st (.cells uU 0)) cg;have hA:=agm x;have hB:=ago x;have hN:=acG x;have g2:=Grew.ah cg (.cells (gY (eR i) (oV x:Nat) (tA x:Nat) (tB x:Nat) x .af) 0);have x1:(ah (ah st (.cells uU 0)) (.cells (gY (eR i) (oV x:Nat) (tA x:Nat) (tB x:Nat) x .af) 0)).heap.get st.next=some (.cells uU 0):=g2.get (az _ _);have x2:(ah (ah st (.cells uU 0)) (.cells (gY (eR i) (oV x:Nat) (tA x:Nat) (tB x:Nat) x .af) 0)).heap.get (ah st (.cells uU 0)).next=some (.cells (gY (eR i) (oV x:Nat) (tA x:Nat) (tB x:Nat) x .af) 0):=az _ _;have XN:st.next≠(ah st (.cells uU 0)).next:=by rw[bD];exact Pos.Ll _
 have T0:TI st (ah (ah st (.cells uU 0)) (.cells (gY (eR i) (oV x:Nat) (tA x:Nat) (tB x:Nat) x .af) 0)) st.next (ah st (.cells uU 0)).next (eR i) (oV x:Nat) (tA x:Nat) (tB x:Nat) x 0 .af:=
   ⟨Mk.start hw (g1.trans g2),x1,x2,λe=>(nomatch e),λe=>(nomatch e)⟩
 obtain⟨s',v,hT,L⟩:=amo hc (n:=tN x) (by omega) (by omega) (by omega) (Zb x) (by omega) (p4:=st.next) (p5:=(ah st (.cells uU 0)).next) (Za3 _) (by rw[bD,Pos.aC];omega) XN (tN x+1)
   (λvs s96=>fO vs λx4 vs=>fO vs λx5 vs=>iT vs (aq c (.load (some 7)) [x5] s96 λx86 s97=>aq c (.store 7) [x4,x86] s97 λ_ s98=>ldr (some 7) x4 s98 λv99=>some (v99,s98))) (tN x) 0 (ah (ah st (.cells uU 0)) (.cells (gY (eR i) (oV x:Nat) (tA x:Nat) (tB x:Nat) x .af) 0)) .af T0 (by omega) (by omega)
 have M:=hT.out;obtain⟨vc,v1⟩:=M.cells;have one:aM (gY (eR i) (oV x:Nat) (tA x:Nat) (tB x:Nat) x v)=true:=by
   simp only[aM]at v1;unfold gY;simp only[aM,AV.one,v1,Zi2,Zi1]at*
 have hcut:cut (gY (eR i) (oV x:Nat) (tA x:Nat) (tB x:Nat) x v) 0 7=some (gY (eR i) (oV x:Nat) (tA x:Nat) (tB x:Nat) x v):=cM rfl;have w7:∀(K:AV->St->Option (AV×St)),aq c (.store 7) [.ptr st.next 0,.agg (gY (eR i) (oV x:Nat) (tA x:Nat) (tB x:Nat) x v)] s' K=K .undef (aY s' st.next (.cells (gY (eR i) (oV x:Nat) (tA x:Nat) (tB x:Nat) x v) 0)):=λK=>by rw[bP c K s' 7 st.next 0 (.agg (gY (eR i) (oV x:Nat) (tA x:Nat) (tB x:Nat) x v)) _ hT.h4 rfl (by simp[uU]) one];rfl
 have M2:=M.store (p:=st.next) (b:= .cells (gY (eR i) (oV x:Nat) (tA x:Nat) (tB x:Nat) x v) 0) (Za3 _) (M.ai.wf _ _ hT.h4) hT.n4;have mem:v∈gY (eR i) (oV x:Nat) (tA x:Nat) (tB x:Nat) x v:=by simp[gY]
 have low:∀y∈eR i,y<256:=by intro y hy;simp[eR]at hy;omega
 obtain⟨cY,t1,_,t3⟩:=M2.Gc mem (λu hu=>by simp only[gY,Za8,Zb7,Ze4]at hu;rcases hu with rfl|rfl|rfl|rfl|rfl|rfl|rfl<;>first|exact dm.str low|exact dm.int _ _|exact M.inst);refine⟨v,cY,?_,t3⟩;rw[Pn hc (tN x+1) (r:=(.agg (gY (eR i) (oV x:Nat) (tA x:Nat) (tB x:Nat) x v),aY s' st.next (.cells (gY (eR i) (oV x:Nat) (tA x:Nat) (tB x:Nat) x v) 0))),t1];have L2:js c (tN x+1) (λvs s96=>fO vs λx4 vs=>fO vs λx5 vs=>iT vs (aq c (.load (some 7)) [x5] s96 λx86 s97=>aq c (.store 7) [x4,x86] s97 λ_ s98=>ldr (some 7) x4 s98 λv99=>some (v99,s98))) (tN x+1) [.int .i64 (x:Int),.ptr st.next 0,.ptr (ah st (.cells uU 0)).next 0,.int .i64 0] (ah (ah st (.cells uU 0)) (.cells (gY (eR i) (oV x:Nat) (tA x:Nat) (tB x:Nat) x .af) 0))=some (.agg (gY (eR i) (oV x:Nat) (tA x:Nat) (tB x:Nat) x v),aY s' st.next (.cells (gY (eR i) (oV x:Nat) (tA x:Nat) (tB x:Nat) x v) 0)):=by
   rw[show(0:Int)=((0:Nat):Int)from rfl,L];simp[hT.h5,hcut,w7]
 generalize hF:tN x+1=F at L2 ⊢;clear hF L hT M2 w7 T0 x1 x2 g2;have q1:=λ(s:St)(K:AV->St->Option (AV×St))=>cN (c:=c) (k:= .i64) (a:=(x:Int)) (b:=4) (by omega) (by omega) s K
 have q2:=λ(s:St)(K:AV->St->Option (AV×St))=>iz (c:=c) (a:=(x:Int)) (b:=4) (by omega) (by omega) (by omega) s K
 have q3:=λ(n:Int)(hn:0<n)(s:St)(K:AV->St->Option (AV×St))=>cN (c:=c) (k:= .i64) (a:=(x:Int) / 4) (b:=n) (by omega) hn s K
 have w1:ax .i64 (1+(x:Int) % 4)=1+(x:Int) % 4:=wrap64 (by omega) (by omega);have w2:ax .u8 (1+(x:Int) % 4)=1+(x:Int) % 4:=Du (by omega) (by omega);have w3:ax .i64 (255 - (x:Int))=255 - (x:Int):=wrap64 (by omega) (by omega);have al:∀(s:St)(K:AV->St->Option (AV×St)),aq c (.alloc [.str [],.int .u8 0,.int .i64 0,.int .i64 0,.af,.int .i64 0,.int .i64 0]) [] s K=K (.ptr s.next 0) (ah s (.cells uU 0)):=λs K=>rfl
 have bld:∀(nm:List Nat)(sh u y:Int)(s:St)(K:AV->St->Option (AV×St)),aq c (.build [.str [],.int .u8 0,.int .i64 0,.int .i64 0,.af,.int .i64 0,.int .i64 0] [(0,1),(1,1),(5,1),(6,1)]) [.str nm,.int .u8 sh,.int .i64 u,.int .i64 y] s K=K (.agg [.str nm,.int .u8 sh,.int .i64 0,.int .i64 0,.af,.int .i64 u,.int .i64 y]) s:=λnm sh u y s K=>rfl
 have Rn:∀(nm:List Nat)(sh u y:Int)(s:St)(K:AV->St->Option (AV×St)),aq c (.store 7) [.ptr s.next 0,.agg [.str nm,.int .u8 sh,.int .i64 0,.int .i64 0,.af,.int .i64 u,.int .i64 y]] (ah s (.cells uU 0)) K=K .undef (ah s (.cells [.str nm,.int .u8 sh,.int .i64 0,.int .i64 0,.af,.int .i64 u,.int .i64 y] 0)):=λnm sh u y s K=>cr c K s 7 (.agg [.str nm,.int .u8 sh,.int .i64 0,.int .i64 0,.af,.int .i64 u,.int .i64 y]) uU rfl rfl rfl
 have amq:∀(nm:List Nat)(sh p q u y z:Int)(s:St)(K:AV->St->Option (AV×St)),aq c (.store 1) [.ptr s.next 2,.int .i64 z] (ah s (.cells [.str nm,.int .u8 sh,.int .i64 p,.int .i64 q,.af,.int .i64 u,.int .i64 y] 0)) K=K .undef (ah s (.cells [.str nm,.int .u8 sh,.int .i64 z,.int .i64 q,.af,.int .i64 u,.int .i64 y] 0)):=λnm sh p q u y z s K=>mC s _ 2 (.int .i64 z) (by simp) rfl rfl K
 have amr:∀(nm:List Nat)(sh p q u y z:Int)(s:St)(K:AV->St->Option (AV×St)),aq c (.store 1) [.ptr s.next 3,.int .i64 z] (ah s (.cells [.str nm,.int .u8 sh,.int .i64 p,.int .i64 q,.af,.int .i64 u,.int .i64 y] 0)) K=K .undef (ah s (.cells [.str nm,.int .u8 sh,.int .i64 p,.int .i64 z,.af,.int .i64 u,.int .i64 y] 0)):=λnm sh p q u y z s K=>mC s _ 3 (.int .i64 z) (by simp) rfl rfl K
 rw[Tz];simp only[al];generalize (ah st (.cells uU 0))=s1 at W cg L2 XN;have a1:ax .i64 1=1:=rfl;have h4:x % 4=0\/x % 4=1\/x % 4=2\/x % 4=3:=by omega
 rcases h4 with h|h|h|h
 . have e4:(x:Int) % 4=0:=(by omega);have eS:((oV x:Nat):Int)=1:=(by unfold oV;omega);have eA:((tA x:Nat):Int)=1+(x:Int) / 4 % 6:=(by unfold tA;rw[Zb3 h];omega);have eB:((tB x:Nat):Int)=0:=(by unfold tB;rw[Zb3 h];rfl);simp only[gY,eS,eA,eB]at L2 ⊢;simp (disch:=omega) [-av,-ir,-nW,-gV,bld,Rn,amq,amr,W,cN,iz,e4,vF,wrap64,Du,dz,Za4,L2]
 . have e4:(x:Int) % 4=1:=(by omega);have eS:((oV x:Nat):Int)=2:=(by unfold oV;omega);have eA:((tA x:Nat):Int)=1+(x:Int) / 4 % 3:=(by unfold tA;rw[Za7 (by omega),Zb3 h];omega);have eB:((tB x:Nat):Int)=(x:Int) / 4 / 3 % 3:=(by unfold tB;rw[Za7 (by omega),Zb3 h];omega);simp only[gY,eS,eA,eB]at L2 ⊢;simp (disch:=omega) [-av,-ir,-nW,-gV,bld,Rn,amq,amr,W,cN,iz,e4,vF,wrap64,Du,dz,Za4,L2]
 . have e4:(x:Int) % 4=2:=(by omega);have eS:((oV x:Nat):Int)=3:=(by unfold oV;omega);have eA:((tA x:Nat):Int)=1+(x:Int) / 4 % 2:=(by unfold tA;rw[Za7 (by omega),Za7 (by omega),Zb3 h];omega);have eB:((tB x:Nat):Int)=1+(x:Int) / 4 / 2 % 2:=(by unfold tB;rw[Za7 (by omega),Za7 (by omega),Zb3 h];omega);simp only[gY,eS,eA,eB]at L2 ⊢;simp (disch:=omega) [-av,-ir,-nW,-gV,bld,Rn,amq,amr,W,cN,iz,e4,vF,wrap64,Du,dz,Za4,L2]
 . have e4:(x:Int) % 4=3:=(by omega);have eS:((oV x:Nat):Int)=4:=(by unfold oV;omega);have eA:((tA x:Nat):Int)=1+(x:Int) / 4 % 5:=(by unfold tA;rw[Za7 (by omega),Za7 (by omega),Za7 (by omega)];omega);obtain⟨mb,hmb⟩:∃mb:Int,mb=min (1+(x:Int) / 4 % 5) ((x:Int) / 4 / 5 % 4):=⟨_,rfl⟩
   have ak0:∀(s:St)(K:AV->St->Option (AV×St)),aq c .minB [.int .i64 (1+(x:Int) / 4 % 5),.int .i64 ((x:Int) / 4 / 5 % 4)] s K=K (.int .i64 mb) s:=λs K=>by rw[hmb];exact akc c K s _ _ _ _
   have eB:((tB x:Nat):Int)=mb:=(by rw[hmb];unfold tB;rw[Za7 (by omega),Za7 (by omega),Za7 (by omega)];omega);clear hmb;simp only[gY,eS,eA,eB]at L2 ⊢;simp (disch:=omega) [-av,-ir,-nW,-gV,-akc,ak0,bld,Rn,amq,amr,W,cN,iz,e4,vF,wrap64,Du,dz,Za4,L2]
theorem Ot{R:Type}(K:AV->Option R){b:Pos}{off len es es':Nat}{cap:Option Nat}{k:IntKind}{i:Nat}(h:i<len):fD (.idxA es none) [.slice b off len cap es',.int k (i:Int)] K=K (.ptr b (off+i*es)):=
 dB K (λH n=>by
  simp only[aF.run,sH,jz];have:Nat.blt i len=true:=by rw[Zq4];exact h
  rw[this])
theorem aiO{es:Nat}{s:St}{v:AV}{rows:List (List AV)}(h:QS es s v rows)(hr:∀r∈rows,r.length=es){i:Nat}(hi:i<rows.length):
   ∃b off cap cs,v= .slice b off rows.length cap es/\s.heap.get b=some (.cells cs 0)/\∀j u,rows[i][j]? =some u->cs[off+i*es+j]? =some u:=by
 rcases h with⟨rfl,rfl⟩|⟨b,off,cap,cs,rfl,g1,g2,g3,g4⟩|⟨b,off,rfl,rfl⟩
 . simp at hi
 rotate_left
 . simp at hi
 . (refine⟨b,off,cap,cs,rfl,g1,λj u hj=> ?_⟩;have hj2:j<es:=(by rw[<-hr _ (Zc2 hi)];exact(Za1.1 hj).1);have:=Go.Ai.yV hr i j rows[i] u (H0 hi) hj;rw[<-g3]at this;have aV:i*es+j<rows.length*es:=by have:(i+1)*es<=rows.length*es:=Zg8 _ hi;rw[Zh1]at this;omega);rw[Zd5,Zb3 aV,Ze5]at this;rw[<-this];congr 1;omega
theorem ams(hc:bH c){s:St}{V W:AV}{rows:List (List AV)}(h:QS 9 s V rows)(hr:∀r∈rows,r.length=9){names:List (List Nat)}(hlen:names.length=rows.length)(hn:∀(i:Nat)(h1:i<rows.length)(h2:i<names.length),rows[i][0]? =some (.str names[i]))(arO:rows.length<=1000)
  {q:Pos} (hq:s.heap.get q=some (.cells [V,W] 0)) (x:Nat) (hx:x<1000000) (hw:Wf s) (F:Nat) (k1 k2):∀(m k f:Nat),m<f->k+m=rows.length->bQ x∉names.take k->
  l9 c F k1 k2 f [.int .i64 (x:Int),.ptr q 0,.int .i64 (k:Int)] s=if bQ x∈names then k1 [.bool true] s else k2 [] s:=by
 intro m;have N:=Ab hc x hx s hw;have cu:∀j:Nat,(cellsOf (s.heap.get q)).bind (λcs=>cs[0]?)=some V:=λ_=>by rw[hq];rfl
 induction m with
 |zero=>
  intro k f hf h1 nG;obtain⟨f,rfl⟩:∃g,f=g+1:=⟨f - 1,by omega⟩
  obtain rfl:k=rows.length:=by omega
  rw[<-hlen,Zj1]at nG;rw[Za7 nG,r9];have lI:=λ(K:AV->St->Option (AV×St))=>h.lenB (c:=c) K s
  simp[hq,lI]
 |succ m ih=>
  intro k f hf h1 nG;obtain⟨f,rfl⟩:∃g,f=g+1:=⟨f - 1,by omega⟩
  have hk:k<rows.length:=by omega
  have uk:k<names.length:=by omega
  have lI:=λ(K:AV->St->Option (AV×St))=>h.lenB (c:=c) K s
  have w:ax .i64 ((k:Int)+1)=((k+1:Nat):Int):=wrap64 (by omega) (by omega);obtain⟨b,off,cap,cs,e,g1,g2⟩:=aiO h hr hk;have nm:=g2 0 _ (hn k hk uk);have hb:=h.beq;have r1:=λ(K:AV->Option (AV×St))=>kg K (o:=0) (v:=V) (h:=s.heap) (h2:=s.heap) (p:=q) (by rw[hq];rfl) (by rw[hq];rfl) hb
  have r2:=λ(K:AV->Option (AV×St))=>kg K (o:=off+k*9) (v:= .str names[k]) (h:=s.heap) (h2:=s.heap) (p:=b) (by rw[g1];exact nm) (by rw[g1];exact nm) (by simp[eo,mV,fP,mH.2 rfl])
  have ix:=λ(K:AV->Option (AV×St))=>Ot K (b:=b) (off:=off) (es:=9) (es':=9) (cap:=cap) (k:= .i64) hk
  rw[<-e]at ix;by_cases heq:names[k]=bQ x
  . have mem:bQ x∈names:=(by rw[<-heq];exact Zc2 uk);rw[Zb3 mem,r9];simp[hq,lI,hk,N,r1,r2,ix,heq]
  . have hno2:bQ x∉names.take (k+1):=by
        rw[Zc6 uk,Zd8,Zh8];rintro(h|h)
        . exact nG h
        . exact heq h.symm
    rw[<-ih (k+1) f (by omega) (by omega) hno2,r9];have d:decide (names[k]=bQ x)=false:=Za2 heq;simp[hq,lI,hk,N,r1,r2,ix,heq,d,w]
theorem aq2(hc:bH c){s:St}{V W:AV}{rows:List (List AV)}(h:QS 9 s V rows)(hr:∀r∈rows,r.length=9){names:List (List Nat)}(hlen:names.length=rows.length)(hn:∀(i:Nat)(h1:i<rows.length)(h2:i<names.length),rows[i][0]? =some (.str names[i]))(arO:rows.length<=1000)
   (x:Nat) (hx:x<1000000) (hw:Wf s):c 87 [.agg [V,W],.int .i64 (x:Int)] s=some (.bool (decide (bQ x∈names)),s):=by
 have hg:=Grew.ah hw (.cells [V,W] 0);have h2:QS 9 (ah s (.cells [V,W] 0)) V rows:=h.mono λb y _ hy=>hg.get hy
 have L:=ams hc h2 hr hlen hn arO (az s (.cells [V,W] 0)) x hx (bn hw) (rows.length+1) (λvs Ol=>fO vs λx4 vs=>iT vs (some (x4,Ol))) (λvs s14=>iT vs (aq c .move [.bool false] s14 λx4 s15=>some (x4,s15))) rows.length 0 (rows.length+1) (by omega) (by omega) (by simp);rw[Po hc (rows.length+1) (r:=(.bool (decide (bQ x∈names)),ah s (.cells [V,W] 0))),aE (Plain.bool _) hg.keeps];rw[TA];by_cases hm:bQ x∈names
 . rw[Zb3 hm]at L;simp at L;simp[L,hm]
 . rw[Za7 hm]at L;simp at L;simp[L,hm]
end
section
set_option maxRecDepth 100000
open Go Go.Ai Go.Proofs
def tD(gs:List aQ)(i:Nat):List Nat:=match gs[i]? with|some g=>g.name|none=>[]
def Ou(gs:List aQ)(i:Nat):List Nat:=match gs[i]? with|some g=>g.o8|none=>[]
def Fu(ts:List aB)(i:Nat):List Nat:=match ts[i]? with|some t=>t.name|none=>[]
def Ov(ts:List aB)(i:Nat):Int:=match ts[i]? with|some t=>ot t.sh t.a t.b|none=>0
def abz(ts:List aB)(gs:List aQ)(k wt a b t n z:Nat):Rl×Bool:=
 if k=1\/k=2\/k=3\/k=4\/k=5 then(⟨k,wt,tD gs a,tD gs b,[],if k=4 then((n+1:Nat):Int)else if k=1 then(n:Int)else 0⟩,decide (a≠b))
 else if k=6\/k=7 then(⟨k,wt,tD gs a,[],Fu ts t,if k=7 then((z / 13:Nat):Int) % Ov ts t else 0⟩,true)
 else if k=10 then(⟨k,wt,if z % 3=0 then tD gs a else [],[],[],0⟩,true)
 else if k=17 then(⟨k,wt,Ou gs a,[],Fu ts t,0⟩,decide (Ou gs a≠[]))
 else(⟨k,wt,[],[],if 0<z % 3 then Fu ts t else [],if k=15\/k=16 then(n:Int)else 0⟩,true)
def aiP(y:Nat):Nat:=if 1<y % 5 then 1+y % 7 else 0
def kj(ts:List aB)(gs:List aQ)(x:Nat):Rl×Bool:=
 if gs.length=0\/ts.length=0 then(⟨((1+x % 18:Nat):Int),(aiP (x / 18):Int),[],[],[],0⟩,false)
 else abz ts gs (1+x % 18) (aiP (x / 18)) (x / 18 / 5 % gs.length) (x / 18 / 5 / gs.length % gs.length) (x / 18 / 5 / 7 % ts.length) (x / 18 / 5 / 11 % 4) (x / 18 / 5)
theorem akA(i:Nat):pK (bQ i)=true:=by unfold pK bQ;have h1:i / 26 % 26<26:=Zl8 _ (by omega);have h2:i % 26<26:=Zl8 _ (by omega);simp;omega
variable{c : au}
theorem afh{cs row:List AV}{o n:Nat}(hl:row.length=n)(h0:0<n)(h:∀(j:Nat)(u:AV),row[j]? =some u->cs[o+j]? =some u):cut cs o n=some row:=by
 have h1:=h (n - 1) row[n - 1] (H0 (by omega));have h2:=(Za1.1 h1).1;unfold cut;have:Nat.ble (o+n) cs.length=true:=by rw[Nat.ble_eq];omega
 rw[this];simp only;congr 1;refine Zi7 λi=> ?_
 rw[Zd5];split
 . rename_i hi;rw[Ze5,h i _ (H0 (by omega)),H0 (by omega)]
 . rw[Zc4 (by omega)]
theorem TS.row{s0 s:St}{V:AV}{ts:List aB}{rows:List (List AV)}(h:TS s0 s V ts rows){i:Nat}(hi:i<ts.length):
   ∃b off cap cs v,V= .slice b off rows.length cap 7/\s.heap.get b=some (.cells cs 0)/\cut cs (off+i*7) 7=some (ts[i].aj v)/\cs[off+i*7]? =some (.str ts[i].name):=by
 have hr:i<rows.length:=by rw[h.len];exact hi
 obtain⟨b,off,cap,cs,e,g1,g2⟩:=aiO h.out.own h.out.row hr;obtain⟨v,e1,_,_⟩:=h.dV i ts[i] rows[i] (H0 hi) (H0 hr);refine⟨b,off,cap,cs,v,e,g1,?_,?_⟩
 . rw[<-e1];exact afh (h.out.row _ (Zc2 hr)) (by omega) g2
 . have:=g2 0 (.str ts[i].name) (by rw[e1];rfl)
   rwa [Zg0]at this
theorem GS.row{s0 s:St}{V:AV}{gs:List aQ}{rows:List (List AV)}(h:GS s0 s V gs rows){i:Nat}(hi:i<gs.length):
   ∃b off cap cs v,V= .slice b off rows.length cap 9/\s.heap.get b=some (.cells cs 0)/\cut cs (off+i*9) 9=some (gs[i].aj v)/\cs[off+i*9]? =some (.str gs[i].name)/\cs[off+i*9+5]? =some (.str gs[i].o8):=by
 have hr:i<rows.length:=by rw[h.len];exact hi
 obtain⟨b,off,cap,cs,e,g1,g2⟩:=aiO h.out.own h.out.row hr;obtain⟨v,e1,_,_⟩:=h.dV i gs[i] rows[i] (H0 hi) (H0 hr);refine⟨b,off,cap,cs,v,e,g1,?_,?_,?_⟩
 . rw[<-e1];exact afh (h.out.row _ (Zc2 hr)) (by omega) g2
 . have:=g2 0 (.str gs[i].name) (by rw[e1];rfl)
   rwa [Zg0]at this
 . exact g2 5 (.str gs[i].o8) (by rw[e1];rfl)
theorem QS.arP{R:Type}{es:Nat}{s:St}{v:AV}{rows:List (List AV)}(h:QS es s v rows)(K:AV->Option R):fD (.lenB .l) [v] K=K (.int .i64 (rows.length:Int)):=by
 rcases h with⟨rfl,rfl⟩|⟨b,off,cap,cs,rfl,_⟩|⟨b,off,rfl,rfl⟩<;>exact dB K (λH n=>rfl)
abbrev gu(k w:Int)(a b t:List Nat)(n:Int):List AV:=[.int .u8 k,.int .i64 w,.str a,.str b,.str t,.int .i64 n]
theorem ath(k w n w':Int)(a b t:List Nat)(s:St)(K:AV->St->Option (AV×St)):aq c (.store 1) [.ptr s.next 1,.int .i64 w'] (ah s (.cells (gu k w a b t n) 0)) K=K .undef (ah s (.cells (gu k w' a b t n) 0)):=mC s _ 1 (.int .i64 w') (by simp) rfl rfl K
theorem akB(k w n:Int)(a b t u:List Nat)(s:St)(K:AV->St->Option (AV×St)):aq c (.store 1) [.ptr s.next 2,.str u] (ah s (.cells (gu k w a b t n) 0)) K=K .undef (ah s (.cells (gu k w u b t n) 0)):=mC s _ 2 (.str u) (by simp) rfl rfl K
theorem ati(k w n:Int)(a b t u:List Nat)(s:St)(K:AV->St->Option (AV×St)):aq c (.store 1) [.ptr s.next 3,.str u] (ah s (.cells (gu k w a b t n) 0)) K=K .undef (ah s (.cells (gu k w a u t n) 0)):=mC s _ 3 (.str u) (by simp) rfl rfl K
theorem akC(k w n:Int)(a b t u:List Nat)(s:St)(K:AV->St->Option (AV×St)):aq c (.store 1) [.ptr s.next 4,.str u] (ah s (.cells (gu k w a b t n) 0)) K=K .undef (ah s (.cells (gu k w a b u n) 0)):=mC s _ 4 (.str u) (by simp) rfl rfl K
theorem Lt(k w n n':Int)(a b t:List Nat)(s:St)(K:AV->St->Option (AV×St)):aq c (.store 1) [.ptr s.next 5,.int .i64 n'] (ah s (.cells (gu k w a b t n) 0)) K=K .undef (ah s (.cells (gu k w a b t n') 0)):=mC s _ 5 (.int .i64 n') (by simp) rfl rfl K
theorem auh{ts:List aB}(h:∀t∈ts,0<ot t.sh t.a t.b/\ot t.sh t.a t.b<=1000){t:Nat}(ht:t<ts.length):Ov ts t=ot ts[t].sh ts[t].a ts[t].b/\0<Ov ts t/\Ov ts t<=1000:=by
 have e:Ov ts t=ot ts[t].sh ts[t].a ts[t].b:=by unfold Ov;rw[H0 ht]
 rw[e];exact⟨rfl,h _ (Zc2 ht)⟩
set_option maxHeartbeats 4000000 in
theorem aq3 (hc : bH c){s0 s:St}{V1 V2 V3 V4 V5:AV}{ts:List aB}{gs:List aQ}{r1 r2:List (List AV)}(hT:TS s0 s V1 ts r1)(hG:GS s0 s V2 gs r2)(lt:ts.length<=1000)(lg:gs.length<=1000)
   (hz:∀t∈ts,0<ot t.sh t.a t.b/\ot t.sh t.a t.b<=1000) (ha:∀t∈ts,(0<=t.a/\t.a<=1000000)/\0<=t.b/\t.b<=1000000) (x:Nat) (hx:x<4294967296):
   c 48 [.agg [V1,V2,V3,V4,V5],.int .i64 (x:Int)] s=some (.tuple [.agg (kj ts gs x).1.cells,.bool (kj ts gs x).2],s):=by
 have hw:=hT.out.ai.wf;have plain:∀(r:Rl)(b:Bool),Plain (.tuple [.agg r.cells,.bool b]):=λr b=>Plain.tuple λv hv=>by
   simp only[Za8,Zb7,Ze4]at hv;rcases hv with rfl|rfl
   . exact Plain.agg λv hv=>by simp only[Rl.cells,Za8,Zb7,Ze4]at hv;rcases hv with rfl|rfl|rfl|rfl|rfl|rfl<;>first|exact Plain.int _ _|exact Plain.str _
   . exact Plain.bool _
 suffices key:∃s',mg c 1 (.agg [V1,V2,V3,V4,V5]) (.int .i64 (x:Int)) s=some (.tuple [.agg (kj ts gs x).1.cells,.bool (kj ts gs x).2],s')/\aT s s' by
   obtain⟨s',k1,k2⟩:=key;rw[Pp hc 1 (r:=(.tuple [.agg (kj ts gs x).1.cells,.bool (kj ts gs x).2],s')) k1,aE (plain _ _) k2]
 have cg:Wf (ah s (.cells [V1,V2,V3,V4,V5] 0)):=bn hw;have g1:=Grew.ah hw (.cells [V1,V2,V3,V4,V5] 0);have kW:Wf (ah (ah s (.cells [V1,V2,V3,V4,V5] 0)) (.cells (gu 0 0 [] [] [] 0) 0)):=bn cg;have g2:=Grew.ah cg (.cells (gu 0 0 [] [] [] 0) 0);have g12:=g1.trans g2;obtain⟨s2,rJ⟩:∃s2,s2=ah (ah s (.cells [V1,V2,V3,V4,V5] 0)) (.cells (gu 0 0 [] [] [] 0) 0):=⟨_,rfl⟩
 obtain⟨p4,hp4⟩:∃p4,p4=(ah s (.cells [V1,V2,V3,V4,V5] 0)).next:=⟨_,rfl⟩
 have aq4:Wf s2:=by rw[rJ];exact kW
 have amt:Grew s s2:=by rw[rJ];exact g12
 have b2:s2.heap.get s.next=some (.cells [V1,V2,V3,V4,V5] 0):=by rw[rJ];exact g2.get (az _ _)
 have b4:s2.heap.get p4=some (.cells (gu 0 0 [] [] [] 0) 0):=by rw[rJ,hp4];exact az _ _
 have n4:s.next.toNat<p4.toNat:=by rw[hp4,bD,Pos.aC];omega
 have n6:p4.toNat<s2.next.toNat:=aq4 _ _ b4;have gS:∀b:AB,Grew s2 (ah s2 b):=λb=>Grew.ah aq4 b
 have hP:∀b:AB,(ah s2 b).heap.get s.next=some (.cells [V1,V2,V3,V4,V5] 0):=λb=>(gS b).get b2
 have hX:∀b:AB,(ah s2 b).heap.get p4=some (.cells (gu 0 0 [] [] [] 0) 0):=λb=>(gS b).get b4
 have fin:∀(k w n:Int)(a b t:List Nat)(K:AV->St->Option (AV×St)),aq c (.store 6) [.ptr p4 0,.agg (gu k w a b t n)] (ah s2 (.cells (gu k w a b t n) 0)) K=K .undef (aY (ah s2 (.cells (gu k w a b t n) 0)) p4 (.cells (gu k w a b t n) 0)):=λk w n a b t K=>by rw[bP c K _ 6 p4 0 (.agg (gu k w a b t n)) _ (hX _) rfl (by simp) rfl];rfl
 have kp:∀(k w n:Int)(a b t:List Nat),aT s (aY (ah s2 (.cells (gu k w a b t n) 0)) p4 (.cells (gu k w a b t n) 0)):=λk w n a b t q y hq=>by have:=hw _ _ hq;rw[aG (λe=>by subst e;omega)];exact(amt.trans (gS _)).get hq
 have cu:∀(k w n:Int)(a b t:List Nat),cut (gu k w a b t n) 0 6=some (gu k w a b t n):=λk w n a b t=>cM rfl
 obtain⟨Q,hQ⟩:∃Q:Option (AV×St)->Prop,Q=λo=>∃s',o=some (.tuple [.agg (kj ts gs x).1.cells,.bool (kj ts gs x).2],s')/\aT s s':=⟨_,rfl⟩
 have Gs:∀(k w n:Int)(a b t:List Nat)(bb:Bool),(⟨k,w,a,b,t,n⟩:Rl)=(kj ts gs x).1->bb=(kj ts gs x).2->Q (some (.tuple [.agg (gu k w a b t n),.bool bb],aY (ah s2 (.cells (gu k w a b t n) 0)) p4 (.cells (gu k w a b t n) 0))):=λk w n a b t bb h1 h2=>by
   rw[hQ];exact⟨_,by rw[<-h1, <-h2];rfl,kp _ _ _ _ _ _⟩
 have ac9:Q (mg c 1 (.agg [V1,V2,V3,V4,V5]) (.int .i64 (x:Int)) s)->∃s',mg c 1 (.agg [V1,V2,V3,V4,V5]) (.int .i64 (x:Int)) s=some (.tuple [.agg (kj ts gs x).1.cells,.bool (kj ts gs x).2],s')/\aT s s':=λh=>by rw[hQ]at h;exact h
 apply ac9;clear ac9;obtain⟨r,hr⟩:∃r:Nat,r=x % 18:=⟨_,rfl⟩
 obtain⟨k,hk⟩:∃k:Nat,k=1+x % 18:=⟨_,rfl⟩
 obtain⟨y,hy⟩:∃y:Nat,y=x / 18:=⟨_,rfl⟩
 obtain⟨y5,hy5⟩:∃y5:Nat,y5=y % 5:=⟨_,rfl⟩
 obtain⟨y7,hy7⟩:∃y7:Nat,y7=y % 7:=⟨_,rfl⟩
 obtain⟨z,hz5⟩:∃z:Nat,z=y / 5:=⟨_,rfl⟩
 obtain⟨w,hwt⟩:∃w:Nat,w=aiP y:=⟨_,rfl⟩
 have E1:(x:Int) % 18=(r:Int):=by omega
 have W1:ax .i64 (1+(r:Int))=(k:Int):=(wrap64 (by omega) (by omega)).trans (by omega);have W8:ax .u8 (k:Int)=(k:Int):=Du (by omega) (by omega);have E2:(x:Int) / 18=(y:Int):=by omega
 have E3:(y:Int) % 5=(y5:Int):=by omega
 have E4:(y:Int) % 7=(y7:Int):=by omega
 have W2:ax .i64 (1+(y7:Int))=1+(y7:Int):=wrap64 (by omega) (by omega);have E5:(y:Int) / 5=(z:Int):=by omega
 obtain⟨g,hg⟩:∃g,g=gs.length:=⟨_,rfl⟩
 obtain⟨T,hTl⟩:∃T,T=ts.length:=⟨_,rfl⟩
 have pl2:∀(K:AV->Option (AV×St)),fD (.lenB .l) [V2] K=K (.int .i64 (g:Int)):=λK=>by rw[hg, <-hG.len];exact QS.arP hG.out.own K
 have pl1:∀(K:AV->Option (AV×St)),fD (.lenB .l) [V1] K=K (.int .i64 (T:Int)):=λK=>by rw[hTl, <-hT.len];exact QS.arP hT.out.own K
 have Jk:∀(l:List AV)(K:AV->Option (AV×St)),ia (.load none) [.ptr s.next (0+1)] (ah s2 (.cells l 0)).heap (λ_=>true) K=K V2:=λl K=>by rw[kQ,hP];rfl
 have rd0:∀(l:List AV)(K:AV->Option (AV×St)),ia (.load none) [.ptr s.next (0+0)] (ah s2 (.cells l 0)).heap (λ_=>true) K=K V1:=λl K=>by rw[kQ,hP];rfl
 have bld:∀(k':Int)(s':St)(K:AV->St->Option (AV×St)),aq c (.build [.int .u8 0,.int .i64 0,.str [],.str [],.str [],.int .i64 0] [(0,1)]) [.int .u8 k'] s' K=K (.agg (gu k' 0 [] [] [] 0)) s':=λk' s' K=>rfl
 have sto0:∀(k':Int)(K:AV->St->Option (AV×St)),aq c (.store 6) [.ptr s2.next 0,.agg (gu k' 0 [] [] [] 0)] (ah s2 (.cells (gu 0 0 [] [] [] 0) 0)) K=K .undef (ah s2 (.cells (gu k' 0 [] [] [] 0) 0)):=λk' K=>cr c K s2 6 (.agg (gu k' 0 [] [] [] 0)) (gu 0 0 [] [] [] 0) rfl rfl rfl
 rw[TE];rw[dI,dF,show AV.cells (.agg [V1,V2,V3,V4,V5])=[V1,V2,V3,V4,V5]from rfl, <-rJ, <-hp4,aA,aA,cN (by omega) (by omega),E1,fS,W1,LS,W8,bld,dF,sto0,aA,iz (by omega) (by omega) (by omega),E2,aA];refine yX (P:=λj=>Q (j [.int .i64 (y:Int),.ptr s.next 0,.ptr p4 0,.ptr s2.next 0] (ah s2 (.cells (gu k w [] [] [] 0) 0)))) ?_ ?_
 . rw[  aH, aH, aH, aH,br,aA,iz (by omega) (by omega) (by omega),E5,aA,bu,Jk,pl2,bu,rd0,pl1,dK,dK,aA,fR,aA];by_cases N7:g=0
   . rw[Za0 (show(g:Int)=0 by omega),acf,acf,Dv,dW];have hR:kj ts gs x=(⟨(k:Int),(w:Int),[],[],[],0⟩,false):=by
        unfold kj;rw[Zb3 (.inl (by omega)), <-hk, <-hy, <-hwt]
     have:=Gs k w 0 [] [] [] false (by rw[hR]) (by rw[hR]);simp[cu,fin];exact this
   rw[Za2 (show ¬(g:Int)=0 by omega),lS,aA,lS,fR,pZ];by_cases hT0:T=0
   . rw[Za0 (show(T:Int)=0 by omega),dW];have hR:kj ts gs x=(⟨(k:Int),(w:Int),[],[],[],0⟩,false):=by
        unfold kj;rw[Zb3 (.inr (by omega)), <-hk, <-hy, <-hwt]
     have:=Gs k w 0 [] [] [] false (by rw[hR]) (by rw[hR]);simp[cu,fin];exact this
   rw[Za2 (show ¬(T:Int)=0 by omega),dQ];obtain⟨a,ea⟩:∃a:Nat,a=z % g:=⟨_,rfl⟩
   obtain⟨zg,ezg⟩:∃zg:Nat,zg=z / g:=⟨_,rfl⟩
   obtain⟨b,eb⟩:∃b:Nat,b=zg % g:=⟨_,rfl⟩
   obtain⟨z7,ez7⟩:∃z7:Nat,z7=z / 7:=⟨_,rfl⟩
   obtain⟨t,et⟩:∃t:Nat,t=z7 % T:=⟨_,rfl⟩
   obtain⟨z11,ez11⟩:∃z11:Nat,z11=z / 11:=⟨_,rfl⟩
   obtain⟨n,en⟩:∃n:Nat,n=z11 % 4:=⟨_,rfl⟩
   have hR:kj ts gs x=abz ts gs k w a b t n z:=by
     unfold kj;rw[Za7 (by omega), <-hk, <-hy, <-hwt, <-hz5, <-hg, <-hTl, <-ea, <-ezg, <-eb, <-ez7, <-et, <-ez11, <-en]
   have Ea:(z:Int) % (g:Int)=(a:Int):=(by rw[ea];exact(Zo2 _ _).symm);have Ezg:(z:Int) / (g:Int)=(zg:Int):=(by rw[ezg];exact(Int.natCast_ediv _ _).symm);have Eb:(zg:Int) % (g:Int)=(b:Int):=(by rw[eb];exact(Zo2 _ _).symm);have Ez7:(z:Int) / 7=(z7:Int):=(by omega);have Et:(z7:Int) % (T:Int)=(t:Int):=(by rw[et];exact(Zo2 _ _).symm);have Ez11:(z:Int) / 11=(z11:Int):=(by omega);have En:(z11:Int) % 4=(n:Int):=(by omega);have za:a<g:=(by rw[ea];exact Zl8 _ (by omega));have zb:b<g:=(by rw[eb];exact Zl8 _ (by omega));have zt:t<T:=(by rw[et];exact Zl8 _ (by omega));have gp:0<(g:Int):=(by omega);have Tp:0<(T:Int):=(by omega);rw[dK,dK,SD (by omega) gp,Ea,dK,dK,ahp (by omega) (by omega) gp,Ezg,dK,SD (by omega) gp,Eb,dK,ahp (by omega) (by omega) (by omega),Ez7,dK,SD (by omega) Tp,Et,dK,dK,dK,
     aA,iz (by omega) (by omega) (by omega),Ez11,cN (by omega) (by omega),En,aA]
   (clear Ea Ezg Eb Ez7 Et Ez11 En ea ezg eb ez7 et ez11;have Bg:1<=k:=(by omega);have uk:k<=18:=(by omega);obtain⟨bA,oA,akR,csA,vA,eA,hA,_,nA,dA⟩:=hG.row (i:=a) (by omega);obtain⟨bB,oB,capB,csB,vB,eB,hB,_,nB,_⟩:=hG.row (i:=b) (by omega);obtain⟨bT,oT,capT,csT,vT,eT,hTb,cT,nT⟩:=hT.row (i:=t) (by omega);have gA:gs[a].name=tD gs a/\gs[a].o8=Ou gs a:=(by unfold tD Ou;rw[H0 (by omega)];exact⟨rfl,rfl⟩);have gB:gs[b].name=tD gs b:=(by unfold tD;rw[H0 (by omega)]);have gT:ts[t].name=Fu ts t:=(by unfold Fu;rw[H0 (by omega)]);rw[gA.1]at nA;rw[gA.2]at dA;rw[gB]at nB;rw[gT]at nT;have amu:∀l:List AV,(ah s2 (.cells l 0)).heap.get bA=some (.cells csA 0):=λl=>(gS _).get (amt.get hA));have arQ:∀l:List AV,(ah s2 (.cells l 0)).heap.get bB=some (.cells csB 0):=λl=>(gS _).get (amt.get hB)
   have heapT:∀l:List AV,(ah s2 (.cells l 0)).heap.get bT=some (.cells csT 0):=λl=>(gS _).get (amt.get hTb)
   have ixA:∀(K:AV->Option (AV×St)),fD (.idxA 9 none) [V2,.int .i64 (a:Int)] K=K (.ptr bA (oA+a*9)):=λK=>by rw[eA];exact Ot K (by rw[hG.len];omega)
   have ixB:∀(K:AV->Option (AV×St)),fD (.idxA 9 none) [V2,.int .i64 (b:Int)] K=K (.ptr bB (oB+b*9)):=λK=>by rw[eB];exact Ot K (by rw[hG.len];omega)
   have ixT:∀(K:AV->Option (AV×St)),fD (.idxA 7 none) [V1,.int .i64 (t:Int)] K=K (.ptr bT (oT+t*7)):=λK=>by rw[eT];exact Ot K (by rw[hT.len];omega)
   have sxA:∀(K:AV->St->Option (AV×St))(s':St),aq c (.idxA 9 none) [V2,.int .i64 (a:Int)] s' K=K (.ptr bA (oA+a*9)) s':=λK s'=>by rw[eA];exact iV c K s' (by rw[hG.len];omega)
   have sxT:∀(K:AV->St->Option (AV×St))(s':St),aq c (.idxA 7 none) [V1,.int .i64 (t:Int)] s' K=K (.ptr bT (oT+t*7)) s':=λK s'=>by rw[eT];exact iV c K s' (by rw[hT.len];omega)
   have cA:=λ(l l':List AV)(K:AV->Option (AV×St))=>F8 K (o:=1) (v:=V2) (h:=(ah s2 (.cells l 0)).heap) (h2:=(ah s2 (.cells l' 0)).heap) (p:=s.next) (by rw[hP];rfl) (by rw[hP];rfl) hG.out.own.beq
   have cP:=λ(l l':List AV)(K:AV->Option (AV×St))=>F8 K (o:=0) (v:=V1) (h:=(ah s2 (.cells l 0)).heap) (h2:=(ah s2 (.cells l' 0)).heap) (p:=s.next) (by rw[hP];rfl) (by rw[hP];rfl) hT.out.own.beq
   have sb:∀u:List Nat,eo (.str u) (.str u)=true:=λu=>by simp[eo,mV,fP,mH.2 rfl]
   clear eA eB eT;generalize oA+a*9=qA at*
   generalize oB+b*9=qB at*
   generalize oT+t*7=qT at*
   have cB:=λ(l l':List AV)(K:AV->Option (AV×St))=>F8 K (o:=qB+0) (v:= .str (tD gs b)) (h:=(ah s2 (.cells l 0)).heap) (h2:=(ah s2 (.cells l' 0)).heap) (p:=bB) (by rw[arQ];exact nB) (by rw[arQ];exact nB) (sb _)
   have cTn:=λ(l l':List AV)(K:AV->Option (AV×St))=>F8 K (o:=qT+0) (v:= .str (Fu ts t)) (h:=(ah s2 (.cells l 0)).heap) (h2:=(ah s2 (.cells l' 0)).heap) (p:=bT) (by rw[heapT];exact nT) (by rw[heapT];exact nT) (sb _)
   have rdA:∀(l:List AV)(K:AV->Option (AV×St)),ia (.load none) [.ptr bA (qA+0)] (ah s2 (.cells l 0)).heap (λ_=>true) K=K (.str (tD gs a)):=λl K=>by rw[kQ,amu,Zg0,show(cellsOf (some (.cells csA 0))).bind (λcs=>cs[qA]?)=some (.str (tD gs a))from nA];rfl
   have su2:∀(k w n:Int)(a b t u:List Nat)(K:AV->St->Option (AV×St)),aq c (.store 1) [.ptr s2.next (0+2),.str u] (ah s2 (.cells (gu k w a b t n) 0)) K=K .undef (ah s2 (.cells (gu k w u b t n) 0)):=λk w n a b t u K=>akB k w n a b t u s2 K
   have su3:∀(k w n:Int)(a b t u:List Nat)(K:AV->St->Option (AV×St)),aq c (.store 1) [.ptr s2.next (0+3),.str u] (ah s2 (.cells (gu k w a b t n) 0)) K=K .undef (ah s2 (.cells (gu k w a u t n) 0)):=λk w n a b t u K=>ati k w n a b t u s2 K
   have su4:∀(k w n:Int)(a b t u:List Nat)(K:AV->St->Option (AV×St)),aq c (.store 1) [.ptr s2.next (0+4),.str u] (ah s2 (.cells (gu k w a b t n) 0)) K=K .undef (ah s2 (.cells (gu k w a b u n) 0)):=λk w n a b t u K=>akC k w n a b t u s2 K
   have ldk:∀(k w n:Int)(a b t:List Nat)(K:AV->St->Option (AV×St)),aq c (.load none) [.ptr s2.next (0+0)] (ah s2 (.cells (gu k w a b t n) 0)) K=K (.int .u8 k) (ah s2 (.cells (gu k w a b t n) 0)):=λk w n a b t K=>by rw[bf,az];rfl
   refine yX (P:=λj=>¬(k=1\/k=2\/k=3\/k=4\/k=5\/k=6\/k=7\/k=10\/k=17)->Q (j [.int .i64 (z:Int),.ptr s.next 0,.ptr p4 0,.ptr s2.next 0,.int .i64 (t:Int)] (ah s2 (.cells (gu k w [] [] [] (if k=15\/k=16 then(n:Int)else 0)) 0)))) ?_ ?_
   . intro hns;obtain⟨z3,e3⟩:∃z3:Nat,z3=z % 3:=⟨_,rfl⟩
     have E6:(z:Int) % 3=(z3:Int):=(by omega);have hf:=hR;unfold abz at hf;rw[Za7 (by omega),Za7 (by omega),Za7 (by omega),Za7 (by omega), <-e3]at hf;obtain⟨n',hn'⟩:∃n':Int,n'=(if k=15\/k=16 then(n:Int)else 0):=⟨_,rfl⟩
     rw[<-hn']at hf ⊢;by_cases h3:0<z3
     .  have hd:decide (0<z3)=true:=Za0 h3;rw[Zb3 h3]at hf;have:=Gs k w n' [] [] (Fu ts t) true (by rw[hf]) (by rw[hf]);simp (disch:=omega) [-gV,dz,Za4,cN,E6,hd,hP,sxT,heapT,nT,akC,cu,fin,bN];exact this
     .  have hd:decide (0<z3)=false:=Za2 h3;rw[Za7 h3]at hf;have:=Gs k w n' [] [] [] true (by rw[hf]) (by rw[hf]);simp (disch:=omega) [-gV,dz,cN,E6,hd,cu,fin,bN];exact this
   . intro  j40 aiQ;rw[aS,ldk];refine yX (P:=λj=>Q (j [.int .i64 (z:Int),.ptr s.next 0,.ptr p4 0,.ptr s2.next 0,.int .i64 (a:Int),.int .i64 (b:Int),.int .i64 (t:Int),.int .i64 (n:Int),.int .u8 (k:Int),.bool (decide (k=1\/k=2\/k=3\/k=4\/k=5))] (ah s2 (.cells (gu k w [] [] [] 0) 0)))) ?_ ?_
     .  rw[ aH, aH, aH,aH,aH,aH,aH,aH,aH,aH,br];by_cases h5:k=1\/k=2\/k=3\/k=4\/k=5
        . rw[ Za0 h5,dW];have hf:=hR;unfold abz at hf;rw[Zb3 h5]at hf;have fF:Q (some (.tuple [.agg (gu k w (tD gs a) (tD gs b) [] (if k=4 then(n:Int)+1 else if k=1 then(n:Int)else 0)),.bool (!decide ((a:Int)=(b:Int)))],aY (ah s2 (.cells (gu k w (tD gs a) (tD gs b) [] (if k=4 then(n:Int)+1 else if k=1 then(n:Int)else 0)) 0)) p4 (.cells (gu k w (tD gs a) (tD gs b) [] (if k=4 then(n:Int)+1 else if k=1 then(n:Int)else 0)) 0))):=
            Gs k w _ (tD gs a) (tD gs b) [] _ (by rw[hf];rfl) (by rw[hf];simp;omega)
          have wn:ax .i64 ((n:Int)+1)=(n:Int)+1:=wrap64 (by omega) (by omega);clear Gs aiQ;rw[bu,Jk,dK,ixA,bu,rdA,bu,su2,bu,cA,dK,ixB,bu,cB,bu,su3];refine yX (P:=λj=>Q (j [.ptr p4 0,.ptr s2.next 0,.int .i64 (a:Int),.int .i64 (b:Int)] (ah s2 (.cells (gu k w (tD gs a) (tD gs b) [] (if k=1\/k=4 then(n:Int)else 0)) 0)))) ?_ ?_
          . rw[ aH,aH,aH,aH,br];refine yX (P:=λj=>Q (j [.ptr p4 0,.ptr s2.next 0,.int .i64 (a:Int),.int .i64 (b:Int)] (ah s2 (.cells (gu k w (tD gs a) (tD gs b) [] (if k=4 then(n:Int)+1 else if k=1 then(n:Int)else 0)) 0)))) ?_ ?_
            . generalize (if k=4 then(n:Int)+1 else if k=1 then(n:Int)else 0)=n6 at*
              simp[cu,fin,bN];exact fF
            . intro j hj;by_cases h4:k=4
              . have hd:decide ((k:Int)=4)=true:=Za0 (by omega);rw[Zb3 h4]at hj;rw[Zb3 (.inr h4),aS,ldk,fR,hd,dW];simp[wn,Lt];exact hj
              . have hd:decide ((k:Int)=4)=false:=Za2 (by omega);rw[Za7 h4]at hj;rw[show(if k=1\/k=4 then(n:Int)else 0)=(if k=1 then(n:Int)else 0)by by_cases h1:k=1<;>simp[h1,h4],aS,ldk,fR,hd,dQ];exact hj
          . intro j hj;rw[aS,ldk,fR,aA];by_cases h1:k=1
            . rw[Zb3 (.inl h1)]at hj;rw[Za0 (show(k:Int)=1 by omega)];simp[Lt];exact hj
            . rw[Za2 (show ¬(k:Int)=1 by omega)];by_cases h4:k=4
              . rw[Zb3 (.inr h4)]at hj;have hd:decide ((k:Int)=4)=true:=Za0 (by omega);rw[lS,aS,lS,ldk,lS,fR,hd];simp[Lt];exact hj
              . rw[Za7 (by omega)]at hj;have hd:decide ((k:Int)=4)=false:=Za2 (by omega);rw[lS,aS,lS,ldk,lS,fR,hd];simp;exact hj
        . rw[ Za2 h5, dQ];refine yX (P:=λj=>Q (j [.int .i64 (z:Int),.ptr s.next 0,.ptr p4 0,.ptr s2.next 0,.int .i64 (a:Int),.int .i64 (t:Int),.int .i64 (n:Int),.int .u8 (k:Int),.bool (decide (k=6\/k=7))] (ah s2 (.cells (gu k w [] [] [] 0) 0)))) ?_ ?_
          . rw[ aH, aH,aH,aH,aH,aH,aH,aH,aH,br];by_cases h67:k=6\/k=7
            . rw[ Za0 h67,dW];have hf:=hR;unfold abz at hf;rw[Za7 h5,Zb3 h67]at hf;obtain⟨sz1,sz2,sz3⟩:=auh hz (t:=t) (by omega);obtain⟨ha1,ha2⟩:=ha _ (Zc2 (show t<ts.length by omega));obtain⟨z13,e13⟩:∃z13:Nat,z13=z / 13:=⟨_,rfl⟩
              have E13:(z:Int) / 13=(z13:Int):=(by omega);rw[<-e13]at hf;have SZ:∀l:List AV,c 46 [.agg (ts[t].aj vT)] (ah s2 (.cells l 0))=some (.int .i64 (Ov ts t),ah s2 (.cells l 0)):=λl=>by rw[sz1];exact Ma hc rfl rfl rfl ha1 ha2 _ (bn aq4)
              have fF:Q (some (.tuple [.agg (gu k w (tD gs a) [] (Fu ts t) (if k=7 then(z13:Int) % Ov ts t else 0)),.bool true],aY (ah s2 (.cells (gu k w (tD gs a) [] (Fu ts t) (if k=7 then(z13:Int) % Ov ts t else 0)) 0)) p4 (.cells (gu k w (tD gs a) [] (Fu ts t) (if k=7 then(z13:Int) % Ov ts t else 0)) 0))):=
                Gs k w _ (tD gs a) [] (Fu ts t) _ (by rw[hf]) (by rw[hf])
              clear Gs aiQ;rw[bu,Jk,dK,ixA,bu,rdA,bu,su2,bu,cP,dK,ixT,bu,cTn,bu,su4];refine yX (P:=λj=>Q (j [.ptr p4 0,.ptr s2.next 0] (ah s2 (.cells (gu k w (tD gs a) [] (Fu ts t) (if k=7 then(z13:Int) % Ov ts t else 0)) 0)))) ?_ ?_
              . generalize (if k=7 then(z13:Int) % Ov ts t else 0)=n6 at*
                simp[cu,fin,bN];exact fF
              . intro j hj;by_cases h7:k=7
                . have hd:decide ((k:Int)=7)=true:=Za0 (by omega);rw[Zb3 h7]at hj;have q:=λ(K:AV->St->Option (AV×St))(s':St)=>cN (c:=c) (k:= .i64) (a:=(z13:Int)) (b:=Ov ts t) (by omega) sz2 s' K
                  generalize Ov ts t=Z at*
                  rw[aS,ldk,fR,hd,dW,aA,iz (by omega) (by omega) (by omega),E13];simp[-gV,q,hP,sxT,heapT,cT,SZ,Lt];exact hj
                . have hd:decide ((k:Int)=7)=false:=Za2 (by omega);rw[Za7 h7]at hj;rw[aS,ldk,fR,hd,dQ];exact hj
            . rw[ Za2 h67,dQ,fR,aA];by_cases Xu:k=10
              . have hf:=hR;unfold abz at hf;rw[Za7 h5,Za7 h67,Zb3 Xu]at hf;obtain⟨z3,e3⟩:∃z3:Nat,z3=z % 3:=⟨_,rfl⟩
                have E6:(z:Int) % 3=(z3:Int):=(by omega);rw[<-e3]at hf;rw[Za0 (show(k:Int)=10 by omega),dW];by_cases h3:z3=0
                . have hd:decide ((z3:Int)=0)=true:=Za0 (by omega);rw[Zb3 h3]at hf;have fF:=Gs k w 0 (tD gs a) [] [] true (by rw[hf]) (by rw[hf]);rw[je,aA,cN (by omega) (by omega),E6,fR,hd,dW];simp[hP,sxA,amu,nA,akB,cu,fin,bN];exact fF
                . have hd:decide ((z3:Int)=0)=false:=Za2 (by omega);rw[Za7 h3]at hf;have fF:=Gs k w 0 [] [] [] true (by rw[hf]) (by rw[hf]);rw[je,aA,cN (by omega) (by omega),E6,fR,hd,dQ];simp[cu,fin,bN];exact fF
              . rw[ Za2 (show ¬(k:Int)=10 by omega),dQ,fR,aA];by_cases h17:k=17
                . have hf:=hR;unfold abz at hf;rw[Za7 h5,Za7 h67,Za7 Xu,Zb3 h17]at hf;rw[Za0 (show(k:Int)=17 by omega),dW];have fF:=Gs k w 0 (Ou gs a) [] (Fu ts t) (!decide (Ou gs a=[])) (by rw[hf]) (by rw[hf];simp);have n46:p4≠s2.next:=λe=>by subst e;omega
                  have cD:=λ(K:AV->Option (AV×St))=>F8 K (o:=0+2) (v:= .str (Ou gs a)) (h:=(aY (ah s2 (.cells (gu k w (Ou gs a) [] (Fu ts t) 0) 0)) p4 (.cells (gu k w (Ou gs a) [] (Fu ts t) 0) 0)).heap) (h2:=(ah s2 (.cells (gu k w (Ou gs a) [] (Fu ts t) 0) 0)).heap) (p:=s2.next) (by rw[aG n46,az];rfl) (by rw[az];rfl) (sb _)
                  have rdD:∀(l:List AV)(K:AV->Option (AV×St)),ia (.load none) [.ptr bA (qA+5)] (ah s2 (.cells l 0)).heap (λ_=>true) K=K (.str (Ou gs a)):=λl K=>by rw[kQ,amu,show(cellsOf (some (.cells csA 0))).bind (λcs=>cs[qA+5]?)=some (.str (Ou gs a))from dA];rfl
                  have rdR:∀(K:AV->Option (AV×St)),ia (.load (some 6)) [.ptr s2.next 0] (ah s2 (.cells (gu k w (Ou gs a) [] (Fu ts t) 0) 0)).heap (λ_=>true) K=K (.agg (gu k w (Ou gs a) [] (Fu ts t) 0)):=λK=>by rw[GU,az];rfl
                  rw[bu,Jk,dK,ixA,bu,rdD,bu,su2,bu,cP,dK,ixT,bu,cTn,bu,su4,rdR,fin,bu,cD,apB,dK,ahc,bN];exact fF
                . rw[ Za2 (show ¬(k:Int)=17 by omega),dQ];have hj:=aiQ (by omega);clear aiQ Gs;by_cases h15:k=15
                  . have hd:decide ((k:Int)=15)=true:=Za0 (by omega);rw[Zb3 (.inl h15)]at hj;rw[je,fR,aA,hd,dW];simp[Lt];exact hj
                  . have hd:decide ((k:Int)=15)=false:=Za2 (by omega);by_cases h16:k=16
                    . have hd2:decide ((k:Int)=16)=true:=Za0 (by omega);rw[Zb3 (.inr h16)]at hj;rw[je,fR,aA,hd,dQ,fR,aA,hd2];simp[Lt];exact hj
                    . have hd2:decide ((k:Int)=16)=false:=Za2 (by omega);rw[Za7 (by omega)]at hj;rw[je,fR,aA,hd,dQ,fR,aA,hd2];simp;exact hj
          . intro j hj;by_cases h6:k=6
            . rw[Za0 (.inl h6)]at hj;rw[fR,aA,Za0 (show(k:Int)=6 by omega),dW];exact hj
            . rw[fR,aA,Za2 (show ¬(k:Int)=6 by omega),dQ,fR,aA];rw[show decide ((k:Int)=7)=decide (k=6\/k=7)by rw[decide_eq_decide];omega];exact hj
     .  intro j hj;clear Gs aiQ hR;rcases Lm Bg uk with rfl|rfl|rfl|rfl|rfl|rfl|rfl|rfl|rfl|rfl|rfl|rfl|rfl|rfl|rfl|rfl|rfl|rfl
        all_goals
          simp at hj ⊢;exact hj
 . intro j hj;by_cases h1:1<y5
   . have e:((w:Nat):Int)=1+(y7:Int):=(by rw[hwt];unfold aiP;rw[Zb3 (by omega)];omega);rw[e]at hj;have hd:decide ((1:Int)<(y5:Int))=true:=Za0 (by omega);simp (disch:=omega) [-gV,cN,E3,E4,hd,W2,ath];exact hj
   . have e:((w:Nat):Int)=0:=(by rw[hwt];unfold aiP;rw[Za7 (by omega)];rfl);rw[e]at hj;have hd:decide ((1:Int)<(y5:Int))=false:=Za2 (by omega);simp (disch:=omega) [-gV,cN,E3,hd];exact hj
variable{c : au}
structure KX(p:Pos)(sA s:St):Prop where
 wf:Wf s
 next:sA.next.toNat<=s.next.toNat
 keep:∀(b:Pos)(x:AB),b≠p->sA.heap.get b=some x->s.heap.get b=some x
theorem KX.refl{p:Pos}{s:St}(hw:Wf s):KX p s s:=⟨hw,Za3 _,λ_ _ _ h=>h⟩
theorem KX.trans{p:Pos}{a b d:St}(h:KX p a b)(g:KX p b d):KX p a d:=⟨g.wf,Zb0 h.next g.next,λq x hq hx=>g.keep q x hq (h.keep q x hq hx)⟩
theorem KX.ai{p:Pos}{a b d:St}(h:KX p a b)(g:Grew b d):KX p a d:=⟨g.wf,Zb0 h.next g.next,λq x hq hx=>g.get (h.keep q x hq hx)⟩
theorem KX.store{p:Pos}{a b:St}(h:KX p a b)(hp:p.toNat<b.next.toNat)(x:AB):KX p a (aY b p x):=
 ⟨jD h.wf hp,h.next,λq y hq hy=>by rw[aG (λe=>hq e.symm)];exact h.keep q y hq hy⟩
def TS.Since(n:Nat)(V:AV)(rows:List (List AV)):Prop:=(∀b,aK V=some b->n<=b.toNat)/\∀(i:Nat)(r:List AV)(v:AV)(b:Pos),rows[i]? =some r->r[4]? =some v->aK v=some b->n<=b.toNat
def GS.Since(n:Nat)(V:AV)(rows:List (List AV)):Prop:=(∀b,aK V=some b->n<=b.toNat)/\∀(i:Nat)(r:List AV)(v:AV)(b:Pos),rows[i]? =some r->r[8]? =some v->aK v=some b->n<=b.toNat
theorem B8{st s:St}{p:Pos}(h0:Wf st)(h:Grew st s)(hp:st.next.toNat<=p.toNat)(yM:p.toNat<s.next.toNat)(b:AB):Grew st (aY s p b):=
 ⟨jD h.wf yM,λq x hq=>by have:=h0 _ _ hq;rw[aG (λe=>by rw[e]at hp;omega)];exact h.get hq,by rw[dH];exact h.next⟩
theorem TS.kx{st sA s:St}{p:Pos}{V:AV}{ts:List aB}{rows:List (List AV)}(h:TS st sA V ts rows)(k:KX p sA s)(g:Grew st s)(hs:TS.Since (p.toNat+1) V rows):TS st s V ts rows:=
 h.oP g λb x _ hb hx=>k.keep b x (λe=>by
  subst e;rcases hb with hb|⟨i,r,v,h1,h2,h3⟩
  . have:=hs.1 _ hb;omega
  . have:=hs.2 i r v _ h1 h2 h3;omega) hx
theorem GS.kx{st sA s:St}{p:Pos}{V:AV}{ts:List aQ}{rows:List (List AV)}(h:GS st sA V ts rows)(k:KX p sA s)(g:Grew st s)(hs:GS.Since (p.toNat+1) V rows):GS st s V ts rows:=
 h.oP g λb x _ hb hx=>k.keep b x (λe=>by
  subst e;rcases hb with hb|⟨i,r,v,h1,h2,h3⟩
  . have:=hs.1 _ hb;omega
  . have:=hs.2 i r v _ h1 h2 h3;omega) hx
theorem Mk.kx{es:Nat}{st sA s:St}{p:Pos}{V:AV}{rows:List (List AV)}(h:Mk es st sA V rows)(k:KX p sA s)(g:Grew st s)(hs:∀b,aK V=some b->p.toNat+1<=b.toNat):Mk es st s V rows:=
 Mk.oP h g λb x hb hx=>k.keep b x (λe=>by subst e;have:=hs _ hb;omega) hx
theorem TS.push{st s:St}{V:AV}{ts:List aB}{rows:List (List AV)}(h:TS st s V ts rows){t:aB}{v:AV}(M:Mk 1 st s v (t.jr.map bV))(hv:∀b,aK v=some b->aK V≠some b)(hlen:ts.length<=1000):
   ∃s5 V5,(∀(K:AV->St->Option (AV×St)),aq c (.buildSlice 7 1 [.str [],.int .u8 0,.int .i64 0,.int .i64 0,.af,.int .i64 0,.int .i64 0] [0]) [.agg (t.aj v)] s (λy q=>aq c (.append 7 80) [V,y] q K)=K V5 s5)/\
    TS st s5 V5 (ts++[t]) (rows++[t.aj v])/\(∀(p:Pos)(b:AB),aK V≠some p->s.heap.get p=some b->s5.heap.get p=some b)/\∀b,aK V5=some b->s.next.toNat<=b.toNat:=by
 have hl:=h.len;have hw:=h.out.ai.wf;obtain⟨s5,V5,a1,a2,a3,a4⟩:=h.out.push (c:=c) (R:=AV×St) (bytes:=80) (z:=[.str [],.int .u8 0,.int .i64 0,.int .i64 0,.af,.int .i64 0,.int .i64 0]) (x:= .agg (t.aj v)) rfl rfl (t.Gi M.cells.2) (by decide) (by omega) (by omega);have small:∀(u:AV)(rw:List (List AV)),Mk 1 st s u rw->(∀b,aK u=some b->aK V≠some b)->Mk 1 st s5 u rw/\∀b,aK u=some b->aK V5≠some b:=λu rw hu cZ=>
   ⟨Mk.oP hu a2.ai λb y hb hy=>a3 b y (cZ b hb) hy,λb hb e=>by have p1:=a4 b e;have p2:=hu.own.lt hw hb;omega⟩
 refine⟨s5,V5,a1,⟨a2,by simp[hl],λi t' r hi hr=> ?_⟩,a3,a4⟩;by_cases Ad:i<ts.length
 . rw[Zc1 (by rw[hl];exact Ad)]at hr;rw[Zc1 Ad]at hi;obtain⟨u,e1,e2,e3⟩:=h.dV i t' r hi hr;obtain⟨f1,f2⟩:=small u _ e2 e3;exact⟨u,e1,f1,f2⟩
 . have iH:=(Za1.1 hi).1;simp at iH;obtain rfl:i=ts.length:=(by omega);rw[Zb9 (by rw[hl];exact Za3 _)]at hr;rw[Zb9 (Za3 _)]at hi;simp[hl]at hr hi;subst hi;subst hr;obtain⟨f1,f2⟩:=small v _ M hv;exact⟨v,rfl,f1,f2⟩
variable{c : au}
def XQ(s:List Nat):List AV:=[.str s]
def MD(x k:Nat):Bool:=decide (x / 2 ^ (6+2*k) % 4=1)
theorem aui(x k:Nat):MD x k=decide (x / 2 ^ (6+2*k) % 4=1):=by rw[MD]
def Fv(x k:Nat):List (List Nat):=((List.range k).filter (MD x)).map bQ
theorem aiR(x k:Nat):Fv x (k+1)=Fv x k++(if MD x k=true then [bQ k]else []):=by
 unfold Fv;rw[Zf8,Zk5,Zc8];congr 1;cases h:MD x k with
 |true=>simp[h]
 |false=>simp[h]
theorem atj(x k:Nat):(Fv x k).length<=k:=by have:=Zl6 (MD x) (List.range k);rw[Zp7]at this;unfold Fv;rw[Za5];exact this
structure GI(s0 s:St)(p8:Pos)(g:aQ)(x k:Nat)(v:AV):Prop where
 out:Mk 1 s0 s v ((Fv x k).map XQ)
 h8:s.heap.get p8=some (.cells (g.aj v) 0)
 n8:aK v≠some p8
theorem ajE(hc:bH c){g:aQ}{x:Nat}(hx:x<1000000){s0:St}{p8:Pos}(h8:s0.next.toNat<=p8.toNat)(x0 x1 x4 x5 x6:AV)
  :∀(m k:Nat)(s:St)(v:AV),GI s0 s p8 g x k v->k+m=4->
  ∃s' v',GI s0 s' p8 g x 4 v'/\∀(F:Nat)(k4:List AV->St->Option (AV×St))(f:Nat),m<f->iG c F k4 f [x0,x1,x4,x5,x6,.int .i64 (x:Int),.ptr p8 0,.int .i64 (k:Int)] s=k4 [x0,x1,x4,x5,x6,.ptr p8 0] s':=by
 intro m;induction m with
 |zero=>
  intro k s v hT h1;obtain rfl:k=4:=by omega
  refine⟨s,v,hT,λF k4 f hf=> ?_⟩;obtain⟨f,rfl⟩:∃g,f=g+1:=⟨f - 1,by omega⟩
  rw[tU];simp
 |succ m ih=>
  intro k s v hT h1;have hw:=hT.out.ai.wf;have h:k<4:=by omega
  . have hx0:(0:Int)<=(x:Int):=Int.natCast_nonneg x;have w:ax .i64 ((k:Int)+1)=((k+1:Nat):Int):=wrap64 (by omega) (by omega);have w1:ax .i64 (2*(k:Int))=2*(k:Int):=wrap64 (by omega) (by omega);have w2:ax .i64 (6+2*(k:Int))=6+2*(k:Int):=wrap64 (by omega) (by omega);have e2:6+2*(k:Int)=((6+2*k:Nat):Int):=(by omega);have hk64:6+2*k<=64:=(by omega);have sr:∀(s:St)(K:AV->St->Option (AV×St)),aq c (.bin .shr .num) [.int .i64 (x:Int),.int .i64 (6+2*(k:Int))] s K=K (.int .i64 ((x:Int) / 2 ^ (6+2*k))) s:=λs K=>by rw[e2];exact ahq hk64 s K
    have p0:(0:Int)<=(x:Int) / 2 ^ (6+2*k):=Zq9 hx0 (Int.le_of_lt (Int.pow_pos (by decide)));have r1:=λ(s:St)(K:AV->St->Option (AV×St))=>cN (c:=c) (k:= .i64) (a:=(x:Int) / 2 ^ (6+2*k)) (b:=4) p0 (by decide) s K
    have d1:decide ((x:Int) / 2 ^ (6+2*k) % 4=1)=decide (x / 2 ^ (6+2*k) % 4=1):=(by have:((x:Int) / 2 ^ (6+2*k) % 4=1)↔(x / 2 ^ (6+2*k) % 4=1):=(by rw[show((x:Int) / 2 ^ (6+2*k) % 4)=((x / 2 ^ (6+2*k) % 4:Nat):Int)by simp];omega);exact decide_eq_decide.2 this);have c8:(g.aj v)[8]? =some v:=rfl;have fin:=aui x k;have N:=Ab hc k (by omega) s hw;have hd:decide ((k:Int)<4)=true:=Za0 (by omega);cases hq:MD x k with
    |   true=>
        have hrl:((Fv x k).map XQ).length<=4:=(by rw[Za5];have:=atj x k;omega);obtain⟨s5,v5,a1,a2,a3,a4⟩:=hT.out.push (c:=c) (R:=AV×St) (bytes:=16) (z:=[.str []]) (x:= .str (bQ k)) rfl rfl rfl (by decide) (by omega) (by omega);have e:(Fv x (k+1)).map XQ=(Fv x k).map XQ++[(.str (bQ k):AV).cells]:=(by rw[aiR,Zb3 hq,Zc8];rfl);rw[<-e]at a2;have y8:=a3 p8 _ hT.n8 hT.h8;have l8:=hw p8 _ hT.h8;have b8:aK v5≠some p8:=λe=>by have:=a4 _ e;omega
        have hw5:=a2.ai.wf;have l8':=hw5 p8 _ y8;have M:=a2.store (p:=p8) (b:= .cells (g.aj v5) 0) h8 l8' b8;obtain⟨vc,v1⟩:=a2.cells;have bw:∀(K:AV->St->Option (AV×St)),aq c (.store 1) [.ptr p8 8,v5] s5 K=K .undef (aY s5 p8 (.cells (g.aj v5) 0)):=λK=>by rw[bP c K s5 1 p8 8 v5 (g.aj v) y8 (by rw[vc];rfl) (by simp[aQ.aj]) (by rw[vc];exact v1),vc];rfl
        obtain⟨s',v',b1,b2⟩:=ih (k+1) _ v5 ⟨M,bN _ _ _,b8⟩ (by omega);refine⟨s',v',b1,λF k4 f hf=> ?_⟩;obtain⟨f,rfl⟩:∃g,f=g+1:=⟨f - 1,by omega⟩
        rw[<-b2 F k4 f (by omega),tU];rw[fin]at hq;simp[-av,hT.h8,hd,dz,sr,r1,d1,hq,c8,N,a1,bw,w,w1,w2]
    |   false=>
        have e:(Fv x (k+1))=(Fv x k):=(by rw[aiR,Za7 (by rw[hq];decide),Ze0]);obtain⟨s',v',b1,b2⟩:=ih (k+1) s v ⟨by rw[e];exact hT.out,hT.h8,hT.n8⟩ (by omega);refine⟨s',v',b1,λF k4 f hf=> ?_⟩;obtain⟨f,rfl⟩:∃g,f=g+1:=⟨f - 1,by omega⟩
        rw[<-b2 F k4 f (by omega),tU];rw[fin]at hq;simp[-av,hd,dz,sr,r1,d1,hq,w,w1,w2]
variable{c : au}
def IV(i:Nat):Nat:=25*i % 312+i / 12
def ze(i x:Nat):aQ:=⟨bQ (IV i),if x % 2=1 then bQ (x % 3)else [],if 4<x % 8 then bQ (x % 8)else [],((x % 4*500:Nat):Int),((x % 3:Nat):Int),if x % 3=2 then bQ (x % 5)else [],decide (x % 5=0),decide (x % 7=0),true,Fv x 4⟩
theorem aiS{es:Nat}{s0 s s':St}{v:AV}{rows:List (List AV)}(h:Mk es s0 s v rows)(hg:Grew s0 s')(hk:∀b x,aK v=some b->s.heap.get b=some x->s'.heap.get b=some x):Mk es s0 s' v rows:=
 ⟨h.jq,hg,h.own.mono hk,h.new,h.row,h.cap,λb hb=>hk b _ hb (h.tight b hb)⟩
structure GL(st s:St)(p4 p5:Pos)(V W:AV)(gs:List aQ)(rows:List (List AV)):Prop where
 out:Mk 9 st s V rows
 len:rows.length=gs.length
 dV:∀(i:Nat)(g:aQ)(r:List AV),gs[i]? =some g->rows[i]? =some r->∃v,r=g.aj v/\Mk 1 st s v (g.tg.map XQ)/\∀b,aK v=some b->aK V≠some b/\b≠p4/\b≠p5
 h4:s.heap.get p4=some (.cells [.af,.af] 0)
 h5:s.heap.get p5=some (.cells [V,W] 0)
 n4:aK V≠some p4
 n5:aK V≠some p5
theorem atk(g:aQ){v:AV}(h:aM [v]=true):aM (g.aj v)=true:=by
 simp only[aM]at h;unfold aQ.aj;simp only[aM,AV.one,h,Zi2,Zi1]at*
theorem GL.push{st s s1:St}{p4 p5:Pos}{V W:AV}{gs:List aQ}{rows:List (List AV)}(h:GL st s p4 p5 V W gs rows)(Rm:p4≠p5)(Jp:st.next.toNat<=p5.toNat){g:aQ}{v:AV}(M:Mk 1 s s1 v (g.tg.map XQ))(hlen:rows.length<=1000):
   ∃ s5 s6 V5,(∀(K:AV->St->Option (AV×St)),aq c (.buildSlice 9 1 [.str [],.str [],.str [],.int .i64 0,.int .i64 0,.str [],.bool false,.bool false,.af] [0]) [.agg (g.aj v)] s1 (λy t=>aq c (.append 9 112) [V,y] t K)=K V5 s5)/\
     (∀(K:AV->St->Option (AV×St)),aq c (.store 1) [.ptr p5 0,V5] s5 K=K .undef s6)/\s1.heap.get p5=some (.cells [V,W] 0)/\GL st s6 p4 p5 V5 W (gs++[g]) (rows++[g.aj v]):=by
 have hw:=h.out.ai.wf;have O1:=h.out.grow M.ai;obtain⟨s5,V5,a1,a2,a3,a4⟩:=O1.push (c:=c) (R:=AV×St) (bytes:=112) (z:=[.str [],.str [],.str [],.int .i64 0,.int .i64 0,.str [],.bool false,.bool false,.af]) (x:= .agg (g.aj v)) rfl rfl (atk g M.cells.2) (by decide) (by omega) (by omega);have y4:=a3 p4 _ h.n4 (M.ai.get h.h4);have y5:=a3 p5 _ h.n5 (M.ai.get h.h5);have l4:=hw p4 _ h.h4;have l5:=hw p5 _ h.h5;have nx:=M.ai.next;have b4:aK V5≠some p4:=λe=>by have:=a4 _ e;omega
 have b5:aK V5≠some p5:=λe=>by have:=a4 _ e;omega
 have l5':=a2.ai.wf p5 _ y5;obtain⟨vc,v1⟩:=a2.cells;have bw:∀(K:AV->St->Option (AV×St)),aq c (.store 1) [.ptr p5 0,V5] s5 K=K .undef (aY s5 p5 (.cells [V5,W] 0)):=λK=>by rw[bP c K s5 1 p5 0 V5 [V,W] y5 (by rw[vc];rfl) (by simp) (by rw[vc];exact v1),vc];rfl
 have M6:=a2.store (p:=p5) (b:= .cells [V5,W] 0) Jp l5' b5;have Mv:=M.back h.out.jq h.out.ai;have vV:∀b,aK v=some b->aK V≠some b/\b≠p4/\b≠p5:=λb hb=>by
   have p1:=M.new b hb;refine⟨λe=> ?_,λe=> ?_,λe=> ?_⟩
   . have:=h.out.own.lt hw e;omega
   . subst e;omega
   . subst e;omega
 have small:∀(u:AV)(rw:List (List AV)),Mk 1 st s1 u rw->(∀b,aK u=some b->aK V≠some b/\b≠p4/\b≠p5)->Mk 1 st (aY s5 p5 (.cells [V5,W] 0)) u rw/\∀b,aK u=some b->aK V5≠some b/\b≠p4/\b≠p5:=λu rw hu cZ=>by
   refine⟨aiS hu M6.ai λb y hb hy=> ?_,λb hb=>⟨λe=> ?_,(cZ b hb).2⟩⟩
   . rw[aG (λe=>(cZ b hb).2.2 e.symm)];exact a3 b y (cZ b hb).1 hy
   . have p1:=a4 b e;have p2:=hu.own.lt hu.ai.wf hb;omega
 refine⟨s5,_,V5,a1,bw,M.ai.get h.h5,⟨M6,by simp[h.len],λi t r hi zn=> ?_,by rw[aG (λe=>Rm e.symm)];exact y4,bN _ _ _,b4,b5⟩⟩;by_cases Ad:i<gs.length
 . rw[Zc1 (by rw[h.len];exact Ad)]at zn;rw[Zc1 Ad]at hi;obtain⟨u,e1,e2,e3⟩:=h.dV i t r hi zn;obtain⟨f1,f2⟩:=small u _ (e2.grow M.ai) e3;exact⟨u,e1,f1,f2⟩
 . have iH:=(Za1.1 hi).1;simp at iH;obtain rfl:i=gs.length:=(by omega);rw[Zb9 (by rw[h.len];exact Za3 _)]at zn;rw[Zb9 (Za3 _)]at hi;simp[h.len]at zn hi;subst hi;subst zn;obtain⟨f1,f2⟩:=small v _ Mv vV;exact⟨v,rfl,f1,f2⟩
variable{c : au}
def eN(k:IntKind)(z:Bool)(l:List Nat):AV:=ro 1 z (l.map λ(i:Nat)=>[.int k (i:Int)])
def DX(xs:List Nat)(k:Nat):List aQ:=(List.range k).map λi=>ze i (xs.getD i 0)
theorem aoy(xs:List Nat)(k:Nat)(h:k<xs.length):DX xs (k+1)=DX xs k++[ze k xs[k]]:=by
 unfold DX;rw[Zf8,Zc8];simp[Zb5,h]
theorem Mh(xs:List Nat)(k:Nat):(DX xs k).length=k:=by simp[DX]
def zG:List AV:=[.str [],.str [],.str [],.int .i64 0,.int .i64 0,.str [],.bool false,.bool false,.af]
theorem tE(s:St)(K:AV->St->Option (AV×St)):aq c (.alloc [.str [],.str [],.str [],.int .i64 0,.int .i64 0,.str [],.bool false,.bool false,.af]) [] s K=K (.ptr s.next 0) (ah s (.cells zG 0)):=rfl
theorem tF(nm:List Nat)(u y:Int)(b d:Bool)(s:St)(K:AV->St->Option (AV×St)):aq c (.build [.str [],.str [],.str [],.int .i64 0,.int .i64 0,.str [],.bool false,.bool false,.af] [(0,1),(3,1),(4,1),(6,1),(7,1)]) [.str nm,.int .i64 u,.int .i64 y,.bool b,.bool d] s K=K (.agg [.str nm,.str [],.str [],.int .i64 u,.int .i64 y,.str [],.bool b,.bool d,.af]) s:=rfl
theorem tG(nm:List Nat)(u y:Int)(b d:Bool)(s:St)(K:AV->St->Option (AV×St)):aq c (.store 9) [.ptr s.next 0,.agg [.str nm,.str [],.str [],.int .i64 u,.int .i64 y,.str [],.bool b,.bool d,.af]] (ah s (.cells zG 0)) K=K .undef (ah s (.cells [.str nm,.str [],.str [],.int .i64 u,.int .i64 y,.str [],.bool b,.bool d,.af] 0)):=
 cr c K s 9 (.agg [.str nm,.str [],.str [],.int .i64 u,.int .i64 y,.str [],.bool b,.bool d,.af]) zG rfl rfl rfl
theorem vM(nm r ct dt z:List Nat)(u y:Int)(b d:Bool)(s:St)(K:AV->St->Option (AV×St)):aq c (.store 1) [.ptr s.next 1,.str z] (ah s (.cells [.str nm,.str r,.str ct,.int .i64 u,.int .i64 y,.str dt,.bool b,.bool d,.af] 0)) K=K .undef (ah s (.cells [.str nm,.str z,.str ct,.int .i64 u,.int .i64 y,.str dt,.bool b,.bool d,.af] 0)):=mC s _ 1 (.str z) (by simp) rfl rfl K
theorem vN(nm r ct dt z:List Nat)(u y:Int)(b d:Bool)(s:St)(K:AV->St->Option (AV×St)):aq c (.store 1) [.ptr s.next 2,.str z] (ah s (.cells [.str nm,.str r,.str ct,.int .i64 u,.int .i64 y,.str dt,.bool b,.bool d,.af] 0)) K=K .undef (ah s (.cells [.str nm,.str r,.str z,.int .i64 u,.int .i64 y,.str dt,.bool b,.bool d,.af] 0)):=mC s _ 2 (.str z) (by simp) rfl rfl K
theorem vO(nm r ct dt z:List Nat)(u y:Int)(b d:Bool)(s:St)(K:AV->St->Option (AV×St)):aq c (.store 1) [.ptr s.next 5,.str z] (ah s (.cells [.str nm,.str r,.str ct,.int .i64 u,.int .i64 y,.str dt,.bool b,.bool d,.af] 0)) K=K .undef (ah s (.cells [.str nm,.str r,.str ct,.int .i64 u,.int .i64 y,.str z,.bool b,.bool d,.af] 0)):=mC s _ 5 (.str z) (by simp) rfl rfl K
theorem afi(i x:Nat)(v:AV):(ze i x).aj v=[.str (bQ (IV i)),.str (if x % 2=1 then bQ (x % 3)else []),.str (if 4<x % 8 then bQ (x % 8)else []),.int .i64 ((x % 4*500:Nat):Int),.int .i64 ((x % 3:Nat):Int),.str (if x % 3=2 then bQ (x % 5)else []),.bool (decide (x % 5=0)),.bool (decide (x % 7=0)),v]:=rfl
set_option maxHeartbeats 4000000 in
theorem ajF(hc:bH c){xs:List Nat}(hx:∀x∈xs,x<65536)(z:Bool)(x1:AV){st s:St}{p4 p5:Pos}(Rm:p4≠p5)(Jp:st.next.toNat<=p5.toNat){V W:AV}{rows:List (List AV)}{k:Nat}(hk:k<xs.length)(hk12:k<12)
   (h:GL st s p4 p5 V W (DX xs k) rows):∃s' V' mQ,GL st s' p4 p5 V' W (DX xs (k+1)) mQ/\∀(F:Nat)(_:5<=F)(k2:List AV->St->Option (AV×St))(f:Nat),
     gw c F k2 (f+1) [eN .u16 z xs,x1,.ptr p4 0,.ptr p5 0,.int .i64 (k:Int)] s=gw c F k2 f [eN .u16 z xs,x1,.ptr p4 0,.ptr p5 0,.int .i64 ((k+1:Nat):Int)] s':=by
 have hw:=h.out.ai.wf;have hx1:=hx _ (Zc2 hk);generalize ME:xs[k]=x at hx1;have M0:Mk 1 s (ah s (.cells ((ze k x).aj .af) 0)) .af []:=Mk.start hw (Grew.ah hw _);obtain⟨s1,v1,hG,L⟩:=ajE hc (g:=ze k x) (x:=x) (by omega) (s0:=s) (p8:=s.next) (Za3 _) (eN .u16 z xs) x1 (.ptr p4 0) (.ptr p5 0) (.int .i64 (k:Int)) 4 0 _ .af ⟨M0,az _ _,λe=>(nomatch e)⟩ rfl;have M:Mk 1 s s1 v1 ((ze k x).tg.map XQ):=hG.out;obtain⟨s5,s6,V5,a1,a2,a3,a4⟩:=h.push (c:=c) Rm Jp M (by rw[h.len,Mh];omega);have e:DX xs k++[ze k x]=DX xs (k+1):=by rw[aoy xs k hk,ME]
 rw[e]at a4;refine⟨s6,V5,_,a4,λF hF k2 f=> ?_⟩;have L':∀k4:List AV->St->Option (AV×St),iG c F k4 F [eN .u16 z xs,x1,.ptr p4 0,.ptr p5 0,.int .i64 (k:Int),.int .i64 (x:Int),.ptr s.next 0,.int .i64 0] (ah s (.cells ((ze k x).aj .af) 0))=k4 [eN .u16 z xs,x1,.ptr p4 0,.ptr p5 0,.int .i64 (k:Int),.ptr s.next 0] s1:=λk4=>L F k4 F (by omega)
 clear a4 M M0 L;have lI:∀(K:AV->St->Option (AV×St))(s:St),aq c (.lenB .l) [eN .u16 z xs] s K=K (.int .i64 (xs.length:Int)) s:=λK s=>by unfold eN;rw[fE];simp
 have ix:∀(K:AV->St->Option (AV×St))(s:St),aq c (.idxA 1 none) [eN .u16 z xs,.int .i64 (k:Int)] s K=K (.fp (xs.map λ(i:Nat)=>[.int .u16 (i:Int)]) k 0) s:=λK s=>by unfold eN;rw[aa1];simp[hk]
 have ld:((xs.map λ(i:Nat)=>[AV.int .u16 (i:Int)])[k]?.bind λcs=>cs[0]?)=some (.int .u16 (x:Int)):=by simp[hk,ME]
 have w0:ax .i64 (x:Int)=(x:Int):=wrap64 (by omega) (by omega);have N1:=Ab hc (IV k) (by unfold IV;omega) s hw;have Fw:cut ((ze k x).aj v1) 0 9=some ((ze k x).aj v1):=cM rfl;have N2:∀(b:AB)(j:Nat)(i:Int),i=(j:Int)->j<1000000->c 86 [.int .i64 i] (ah s b)=some (.str (bQ j),ah s b):=λb j i e hj=>by rw[e];exact Ab hc j hj _ (bn hw)
 have N3:=λb=>N2 b (x % 3) ((x:Int) % 3) (by omega) (by omega)
 have N8:=λb=>N2 b (x % 8) ((x:Int) % 8) (by omega) (by omega)
 have N5:=λb=>N2 b (x % 5) ((x:Int) % 5) (by omega) (by omega)
 have eg:25*(k:Int) % 312+(k:Int) / 12=((IV k:Nat):Int):=by unfold IV;omega
 rw[<-eg]at N1;have XS:decide ((k:Int)<12)=true:=Za0 (by omega);have d5:decide ((x:Int) % 5=0)=decide (x % 5=0):=decide_eq_decide.2 (by omega);have d7:decide ((x:Int) % 7=0)=decide (x % 7=0):=decide_eq_decide.2 (by omega);have u4:((x % 4*500:Nat):Int)=(x:Int) % 4*500:=by omega
 have u3:((x % 3:Nat):Int)=(x:Int) % 3:=by omega
 simp only[afi]at a1 L' hG Fw;clear N2;have h8:=hG.h8;rw[afi]at h8;rw[u4,u3]at L' h8 a1 Fw;rw[Bn];by_cases c1:x % 2=1
 . by_cases c2:4<x % 8
   . by_cases c3:x % 3=2
     .  have e1:decide ((x:Int) % 2=1)=true:=Za0 (by omega);have e2:decide (4<(x:Int) % 8)=true:=Za0 (by omega);have e3:decide ((x:Int) % 3=2)=true:=Za0 (by omega);simp only[Zb3 c1,Zb3 c2,Zb3 c3]at L' h8 a1 Fw;simp (maxSteps:=2000000) (disch:=omega) [-av,-ir,-dF,-gV,-nW,tE,tF,tG,vM,vN,vO,lI,ix,ld,hk,ME,Za4,XS,om,w0,cN,iz,wrap64,N1,N3,N8,N5,d5,d7,e1,e2,e3,dz,L',a1,a2,a3,h8,Fw]
     .  have e1:decide ((x:Int) % 2=1)=true:=Za0 (by omega);have e2:decide (4<(x:Int) % 8)=true:=Za0 (by omega);have e3:decide ((x:Int) % 3=2)=false:=Za2 (by omega);simp only[Zb3 c1,Zb3 c2,Za7 c3]at L' h8 a1 Fw;simp (maxSteps:=2000000) (disch:=omega) [-av,-ir,-dF,-gV,-nW,tE,tF,tG,vM,vN,vO,lI,ix,ld,hk,ME,Za4,XS,om,w0,cN,iz,wrap64,N1,N3,N8,N5,d5,d7,e1,e2,e3,dz,L',a1,a2,a3,h8,Fw]
   . by_cases c3:x % 3=2
     .  have e1:decide ((x:Int) % 2=1)=true:=Za0 (by omega);have e2:decide (4<(x:Int) % 8)=false:=Za2 (by omega);have e3:decide ((x:Int) % 3=2)=true:=Za0 (by omega);simp only[Zb3 c1,Za7 c2,Zb3 c3]at L' h8 a1 Fw;simp (maxSteps:=2000000) (disch:=omega) [-av,-ir,-dF,-gV,-nW,tE,tF,tG,vM,vN,vO,lI,ix,ld,hk,ME,Za4,XS,om,w0,cN,iz,wrap64,N1,N3,N8,N5,d5,d7,e1,e2,e3,dz,L',a1,a2,a3,h8,Fw]
     .  have e1:decide ((x:Int) % 2=1)=true:=Za0 (by omega);have e2:decide (4<(x:Int) % 8)=false:=Za2 (by omega);have e3:decide ((x:Int) % 3=2)=false:=Za2 (by omega);simp only[Zb3 c1,Za7 c2,Za7 c3]at L' h8 a1 Fw;simp (maxSteps:=2000000) (disch:=omega) [-av,-ir,-dF,-gV,-nW,tE,tF,tG,vM,vN,vO,lI,ix,ld,hk,ME,Za4,XS,om,w0,cN,iz,wrap64,N1,N3,N8,N5,d5,d7,e1,e2,e3,dz,L',a1,a2,a3,h8,Fw]
 . by_cases c2:4<x % 8
   . by_cases c3:x % 3=2
     .  have e1:decide ((x:Int) % 2=1)=false:=Za2 (by omega);have e2:decide (4<(x:Int) % 8)=true:=Za0 (by omega);have e3:decide ((x:Int) % 3=2)=true:=Za0 (by omega);simp only[Za7 c1,Zb3 c2,Zb3 c3]at L' h8 a1 Fw;simp (maxSteps:=2000000) (disch:=omega) [-av,-ir,-dF,-gV,-nW,tE,tF,tG,vM,vN,vO,lI,ix,ld,hk,ME,Za4,XS,om,w0,cN,iz,wrap64,N1,N3,N8,N5,d5,d7,e1,e2,e3,dz,L',a1,a2,a3,h8,Fw]
     .  have e1:decide ((x:Int) % 2=1)=false:=Za2 (by omega);have e2:decide (4<(x:Int) % 8)=true:=Za0 (by omega);have e3:decide ((x:Int) % 3=2)=false:=Za2 (by omega);simp only[Za7 c1,Zb3 c2,Za7 c3]at L' h8 a1 Fw;simp (maxSteps:=2000000) (disch:=omega) [-av,-ir,-dF,-gV,-nW,tE,tF,tG,vM,vN,vO,lI,ix,ld,hk,ME,Za4,XS,om,w0,cN,iz,wrap64,N1,N3,N8,N5,d5,d7,e1,e2,e3,dz,L',a1,a2,a3,h8,Fw]
   . by_cases c3:x % 3=2
     .  have e1:decide ((x:Int) % 2=1)=false:=Za2 (by omega);have e2:decide (4<(x:Int) % 8)=false:=Za2 (by omega);have e3:decide ((x:Int) % 3=2)=true:=Za0 (by omega);simp only[Za7 c1,Za7 c2,Zb3 c3]at L' h8 a1 Fw;simp (maxSteps:=2000000) (disch:=omega) [-av,-ir,-dF,-gV,-nW,tE,tF,tG,vM,vN,vO,lI,ix,ld,hk,ME,Za4,XS,om,w0,cN,iz,wrap64,N1,N3,N8,N5,d5,d7,e1,e2,e3,dz,L',a1,a2,a3,h8,Fw]
     .  have e1:decide ((x:Int) % 2=1)=false:=Za2 (by omega);have e2:decide (4<(x:Int) % 8)=false:=Za2 (by omega);have e3:decide ((x:Int) % 3=2)=false:=Za2 (by omega);simp only[Za7 c1,Za7 c2,Za7 c3]at L' h8 a1 Fw;simp (maxSteps:=2000000) (disch:=omega) [-av,-ir,-dF,-gV,-nW,tE,tF,tG,vM,vN,vO,lI,ix,ld,hk,ME,Za4,XS,om,w0,cN,iz,wrap64,N1,N3,N8,N5,d5,d7,e1,e2,e3,dz,L',a1,a2,a3,h8,Fw]
variable{c : au}
def ki(i x:Nat):aB:=⟨eR i,((oV x:Nat):Int),((tA x:Nat):Int),((tB x:Nat):Int),true,(DI x (tN x)).map λ(k:Nat)=>(k:Int),((x:Nat):Int),255 - ((x:Nat):Int)⟩
def rY(xs:List Nat)(k:Nat):List aB:=(List.range k).map λi=>ki i (xs.getD i 0)
theorem aoz(xs:List Nat)(k:Nat)(h:k<xs.length):rY xs (k+1)=rY xs k++[ki k xs[k]]:=by
 unfold rY;rw[Zf8,Zc8];simp[Zb5,h]
theorem Me(xs:List Nat)(k:Nat):(rY xs k).length=k:=by simp[rY]
def j9(xs:List Nat):Nat->Nat
 |0=>0
 |k+1=>j9 xs k+tN (xs.getD k 0)
theorem afj(xs:List Nat):∀k,j9 xs k<=k*16
 |0=>Za3 _
 |k+1=>by have:=afj xs k;have:=acG (xs.getD k 0);unfold j9;omega
theorem amv(i x:Nat)(v:AV):(ki i x).aj v=gY (eR i) (oV x:Nat) (tA x:Nat) (tB x:Nat) x v:=rfl
theorem aq5(i x:Nat):(ki i x).jr.map bV=(DI x (tN x)).map aen:=by unfold ki;rw[Zh4];rfl
theorem QS.owner{es:Nat}{s:St}{v:AV}{rows:List (List AV)}(h:QS es s v rows)(h0:rows≠[]):∃b,aK v=some b:=by
 rcases h with⟨_,e⟩|⟨b,off,cap,cs,rfl,_⟩|⟨b,off,_,e⟩
 . exact absurd e h0
 . (refine⟨b,?_⟩;have:rows.length≠0:=λe=>h0 (Zc5 e));simp only[aK];rw[Za7 (λe=>this e.2)]
 . exact absurd e h0
structure LL(st sA s:St)(p3:Pos)(es:Nat)(V:AV)(rows:List (List AV))(W:AV->List AV):Prop where
 out:Mk es st s V rows
 kx:KX p3 sA s
 h3:s.heap.get p3=some (.cells (W V) 0)
 since:∀b,aK V=some b->sA.next.toNat<=b.toNat
theorem LL.ai{st sA s s':St}{p3:Pos}{es:Nat}{V:AV}{rows:List (List AV)}{W:AV->List AV}(h:LL st sA s p3 es V rows W)(g:Grew s s'):LL st sA s' p3 es V rows W:=
 ⟨h.out.grow g,h.kx.ai g,g.get h.h3,h.since⟩
theorem LL.push{st sA s:St}{p3:Pos}{es bytes i:Nat}{V:AV}{rows:List (List AV)}{W:AV->List AV}(h:LL st sA s p3 es V rows W)(hA:Wf sA)(h3A:p3.toNat<sA.next.toNat)(gJ:st.next.toNat<=p3.toNat)(hi:∀A B,(W A).set i B=W B)(iH:∀A,i<(W A).length)
   {z:List AV} {x:AV} (hz:z.length=es) (hx:x.cells.length=es) (h1:aM x.cells=true) (dY:es≠0) (hb:(2*(rows.length+1)+768)*bytes<=281474976710656) (hn:rows.length<=4000000):
   ∃s5 s6 V5,(∀(K:AV->St->Option (AV×St)),aq c (.buildSlice es 1 z [0]) [x] s (λy q=>aq c (.append es bytes) [V,y] q K)=K V5 s5)/\(∀(K:AV->St->Option (AV×St)),aq c (.store 1) [.ptr p3 i,V5] s5 K=K .undef s6)/\
    LL st sA s6 p3 es V5 (rows++[x.cells]) W/\(∀(p:Pos)(b:AB),p≠p3->aK V≠some p->s.heap.get p=some b->s6.heap.get p=some b)/\(∀b,aK V5=some b->s.next.toNat<=b.toNat)/\s.next.toNat<=s6.next.toNat/\s5.heap.get p3=some (.cells (W V) 0):=by
 have hw:=h.out.ai.wf;obtain⟨s5,V5,a1,a2,a3,a4⟩:=h.out.push (c:=c) (R:=AV×St) (bytes:=bytes) hz hx h1 dY hb hn;have nV:aK V≠some p3:=λe=>by have:=h.since _ e;omega
 have y3:=a3 p3 _ nV h.h3;have n5:aK V5≠some p3:=λe=>by have:=a4 _ e;have:=hw _ _ h.h3;omega
 have l3:=a2.ai.wf p3 _ y3;obtain⟨vc,v1⟩:=a2.cells;obtain⟨b,hbo⟩:=QS.owner a2.own (by simp);have nx:s.next.toNat<=s5.next.toNat:=by have:=a4 b hbo;have:=a2.own.lt a2.ai.wf hbo;omega
 refine⟨s5,aY s5 p3 (.cells (W V5) 0),V5,a1,λK=> ?_,⟨a2.store gJ l3 n5,?_,bN _ _ _,λb hb=> ?_⟩,λp b hp hv hg=> ?_,a4,nx,y3⟩
 . rw[bP c K s5 1 p3 i V5 (W V) y3 (by rw[vc];rfl) (by have:=iH V;omega) (by rw[vc];exact v1),vc];rw[zW _ _ (iH V),hi]
 . refine KX.store ⟨a2.ai.wf,Zb0 h.kx.next nx,λq y hq hy=> ?_⟩ l3 _;refine a3 q y (λe=> ?_) (h.kx.keep q y hq hy);have:=h.since _ e;have:=hA _ _ hy;omega
 . have:=a4 b hb;have:=h.kx.next;omega
 . rw[aG (λe=>hp e.symm)];exact a3 p b hv hg
structure TL(st sA s:St)(p3:Pos)(V:AV)(ts:List aB)(rows:List (List AV))(W:AV->List AV):Prop where
 tab:TS st s V ts rows
 kx:KX p3 sA s
 h3:s.heap.get p3=some (.cells (W V) 0)
 since:TS.Since sA.next.toNat V rows
theorem TL.push{st sA s:St}{p3:Pos}{i:Nat}{V:AV}{ts:List aB}{rows:List (List AV)}{W:AV->List AV}(h:TL st sA s p3 V ts rows W)(hA:Wf sA)(h3A:p3.toNat<sA.next.toNat)(gJ:st.next.toNat<=p3.toNat)(hi:∀A B,(W A).set i B=W B)(iH:∀A,i<(W A).length)
   {t:aB} {v:AV} (M:Mk 1 st s v (t.jr.map bV)) (hv:∀b,aK v=some b->aK V≠some b) (P5:∀b,aK v=some b->sA.next.toNat<=b.toNat) (hlen:ts.length<=1000):
   ∃ s5 s6 V5,(∀(K:AV->St->Option (AV×St)),aq c (.buildSlice 7 1 [.str [],.int .u8 0,.int .i64 0,.int .i64 0,.af,.int .i64 0,.int .i64 0] [0]) [.agg (t.aj v)] s (λy q=>aq c (.append 7 80) [V,y] q K)=K V5 s5)/\
     (∀(K:AV->St->Option (AV×St)),aq c (.store 1) [.ptr p3 i,V5] s5 K=K .undef s6)/\TL st sA s6 p3 V5 (ts++[t]) (rows++[t.aj v]) W/\(∀(p:Pos)(b:AB),p≠p3->aK V≠some p->s.heap.get p=some b->s6.heap.get p=some b)/\s5.heap.get p3=some (.cells (W V) 0):=by
 have hw:=h.tab.out.ai.wf;obtain⟨s5,V5,a1,a2,a3,a4⟩:=h.tab.push (c:=c) M hv hlen;have nV:aK V≠some p3:=λe=>by have:=h.since.1 _ e;omega
 have y3:=a3 p3 _ nV h.h3;have l3:=a2.out.ai.wf p3 _ y3;obtain⟨vc,v1⟩:=a2.out.cells;obtain⟨b,hbo⟩:=QS.owner a2.out.own (by simp);have nx:s.next.toNat<=s5.next.toNat:=by have:=a4 b hbo;have:=a2.out.own.lt a2.out.ai.wf hbo;omega
 have sn:TS.Since sA.next.toNat V5 (rows++[t.aj v]):=by
   refine⟨λb hb=>by have:=a4 b hb;have:=h.kx.next;omega,λj r u b hr h4 hb=> ?_⟩;by_cases hj:j<rows.length
   . rw[Zc1 hj]at hr;exact h.since.2 j r u b hr h4 hb
   . have hjl:=(Za1.1 hr).1;simp at hjl;obtain rfl:j=rows.length:=(by omega);rw[Zb9 (Za3 _)]at hr;simp at hr;subst hr;have:v=u:=(by simpa [aB.aj]using h4);subst this;exact P5 b hb
 have k5:KX p3 sA s5:=⟨a2.out.ai.wf,Zb0 h.kx.next nx,λq y hq hy=>a3 q y (λe=>by
   have:=h.since.1 _ e;have:=hA _ _ hy;omega) (h.kx.keep q y hq hy)⟩
 have kS:KX p3 s5 (aY s5 p3 (.cells (W V5) 0)):=(KX.refl a2.out.ai.wf).store l3 _;have sn3:TS.Since (p3.toNat+1) V5 (rows++[t.aj v]):=⟨λb hb=>by have:=sn.1 b hb;omega,λj r u b h1 h2 h3=>by have:=sn.2 j r u b h1 h2 h3;omega⟩
 refine⟨s5,aY s5 p3 (.cells (W V5) 0),V5,a1,λK=> ?_,⟨a2.kx kS (B8 h.tab.out.jq a2.out.ai gJ l3 _) sn3,k5.store l3 _,bN _ _ _,sn⟩,λp b hp hv hg=> ?_,y3⟩
 . rw[bP c K s5 1 p3 i V5 (W V) y3 (by rw[vc];rfl) (by have:=iH V;omega) (by rw[vc];exact v1),vc];rw[zW _ _ (iH V),hi]
 . rw[aG (λe=>hp e.symm)];exact a3 p b hv hg
variable{c : au}
def nY(zt zg zy zr:Bool)(xt xg xy xr:List Nat):List AV:=[eN .u8 zt xt,eN .u16 zg xg,eN .u8 zy xy,eN .u32 zr xr]
theorem TG{R:Type}(k:IntKind)(z:Bool)(l:List Nat)(K:AV->St->Option R)(s:St):aq c (.lenB .l) [eN k z l] s K=K (.int .i64 (l.length:Int)) s:=by unfold eN;rw[fE];simp
theorem akD{R:Type}(k k':IntKind)(z:Bool)(l:List Nat){i:Nat}(h:i<l.length)(K:AV->St->Option R)(s:St):aq c (.idxA 1 none) [eN k z l,.int k' (i:Int)] s (λv s'=>aq c (.load none) [v] s' K)=K (.int k (l[i]:Int)) s:=by
 unfold eN;simp[h]
theorem au6{a b d:Nat}(h:d=a+b)(hl:a+b<=1000000):ax .i64 ((a:Int)+(b:Int))=(d:Int):=(wrap64 (by omega) (by omega)).trans (by omega)
theorem aoA(hc:bH c){xt:List Nat}(hx:∀x∈xt,x<256){zt zg zy zr:Bool}{xg xy xr:List Nat}{st sA s:St}{p1 p3:Pos}{V x2:AV}{rows:List (List AV)}(hA:Wf sA)(h1A:sA.heap.get p1=some (.cells (nY zt zg zy zr xt xg xy xr) 0))(Uv:p1≠p3)(h3A:p3.toNat<sA.next.toNat)(gJ:st.next.toNat<=p3.toNat)
  {k:Nat} (hk:k<xt.length) (DT:k<3) (h:TL st sA s p3 V (rY xt k) rows (λV=>[V,.af,.af,.af,.af])):
  ∃s' V' mQ,TL st sA s' p3 V' (rY xt (k+1)) mQ (λV=>[V,.af,.af,.af,.af])/\∀(F:Nat)(k2:List AV->St->Option (AV×St))(f:Nat),
   gy c F k2 (f+1) [.ptr p1 0,x2,.ptr p3 0,.int .i64 (j9 xt k:Int),.int .i64 (k:Int)] s=gy c F k2 f [.ptr p1 0,x2,.ptr p3 0,.int .i64 (j9 xt (k+1):Int),.int .i64 ((k+1:Nat):Int)] s':=by
 have ME:=hx _ (Zc2 hk);have d1:decide ((k:Int)<(xt.length:Int))=true:=Za0 (by omega);have d2:decide ((k:Int)<3)=true:=Za0 (by omega);have w2:ax .i64 ((k:Int)+1)=((k+1:Nat):Int):=wrap64 (by omega) (by omega);have w3:ax .i64 (xt[k]:Int)=(xt[k]:Int):=wrap64 (by omega) (by omega);have hw:=h.tab.out.ai.wf;have h1:=h.kx.keep p1 _ Uv h1A;obtain⟨v,s1,C,M⟩:=aq1 hc k xt[k] (by omega) ME s hw;have g1:=M.ai;have gn:=Grew.ah g1.wf (.cells ((ki k xt[k]).aj v) 0);have hM:Mk 1 st (ah s1 (.cells ((ki k xt[k]).aj v) 0)) v ((ki k xt[k]).jr.map bV):=by rw[aq5];exact(M.back h.tab.out.jq h.tab.out.ai).grow gn
 have T1:TL st sA (ah s1 (.cells ((ki k xt[k]).aj v) 0)) p3 V (rY xt k) rows (λV=>[V,.af,.af,.af,.af]):=
  ⟨h.tab.oP (h.tab.out.ai.trans (g1.trans gn)) λb x _ _ hb=>gn.get (g1.get hb),h.kx.ai (g1.trans gn),gn.get (g1.get h.h3),h.since⟩
 obtain⟨s5,s6,V5,a1,a2,a3,a4,a5⟩:=T1.push (c:=c) (i:=0) hA h3A gJ (λA B=>rfl) (λA=>by simp) hM (λb hb e=>by
  have p1:=M.new b hb;have p2:=h.tab.out.own.lt hw e;omega) (λb hb=>by have:=M.new b hb;have:=h.kx.next;omega) (by rw[Me];omega)
 have p6:s6.heap.get s1.next=some (.cells ((ki k xt[k]).aj v) 0):=a4 s1.next _ (λe=>by have:=h.kx.next;have:=g1.next;rw[<-e]at h3A;omega) (λe=>by
  have p2:=h.tab.out.own.lt hw e;have:=g1.next;omega) (az _ _)
 have e:=aoz xt k hk;rw[<-e]at a3;refine⟨s6,V5,_,a3,λF k2 f=> ?_⟩;have hs:=Ma hc (l:=(ki k xt[k]).aj v) (sh:=((oV xt[k]:Nat):Int)) (a:=((tA xt[k]:Nat):Int)) (b:=((tB xt[k]:Nat):Int)) rfl rfl rfl (by have:=agm xt[k];omega) (by have:=ago xt[k];omega) s6 a3.tab.out.ai.wf;rw[Zb]at hs;have hS:j9 xt (k+1)=j9 xt k+tN xt[k]:=by
  rw[j9];simp[Zb5,hk]
 have w1:ax .i64 ((j9 xt k:Int)+(tN xt[k]:Int))=((j9 xt (k+1):Nat):Int):=au6 hS (by have:=afj xt k;have:=acG xt[k];exact Zb0 (Nat.add_le_add ‹_› ‹_›) (by omega));have lI:=λ(K:AV->St->Option (AV×St))(s:St)=>TG (c:=c) .u8 zt xt K s
 have aI:=λ(K:AV->St->Option (AV×St))(s:St)=>akD (c:=c) .u8 .i64 zt xt hk K s
 have c0:(nY zt zg zy zr xt xg xy xr)[0]? =some (eN .u8 zt xt):=rfl;have cu:cut ((ki k xt[k]).aj v) 0 7=some ((ki k xt[k]).aj v):=cM rfl;rw[<-amv]at C;have Rn:∀(K:AV->St->Option (AV×St)),aq c (.store 7) [.ptr s1.next 0,.agg ((ki k xt[k]).aj v)] (ah s1 (.cells [.str [],.int .u8 0,.int .i64 0,.int .i64 0,.af,.int .i64 0,.int .i64 0] 0)) K=K .undef (ah s1 (.cells ((ki k xt[k]).aj v) 0)):=λK=>cr c K s1 7 (.agg ((ki k xt[k]).aj v)) [.str [],.int .u8 0,.int .i64 0,.int .i64 0,.af,.int .i64 0,.int .i64 0] rfl rfl ((ki k xt[k]).Gi M.cells.2)
 have h3n:=T1.h3;have g6:=az s1 (.cells ((ki k xt[k]).aj v) 0);generalize (ki k xt[k]).aj v=tc at*
 generalize j9 xt (k+1)=S1 at*
 clear hS e T1 a3 a4 hM M h;rw[Bo];simp (disch:=omega) [-av,Za4,h1,lI,aI,c0,hk,DT,d1,d2,w3,C,Rn,h3n,g6,cu,a1,a2,a5,p6,hs,w1,w2]
theorem aoB(hc:bH c){xt:List Nat}(hx:∀x∈xt,x<256)(hl:xt.length<=9223372036854775807){zt zg zy zr:Bool}{xg xy xr:List Nat}{st sA:St}{p1 p3:Pos}{x2:AV}(hA:Wf sA)(h1A:sA.heap.get p1=some (.cells (nY zt zg zy zr xt xg xy xr) 0))(Uv:p1≠p3)(h3A:p3.toNat<sA.next.toNat)(gJ:st.next.toNat<=p3.toNat):
  ∀(m k:Nat)(s:St)(V:AV)(rows:List (List AV)),k+m=min xt.length 3->TL st sA s p3 V (rY xt k) rows (λV=>[V,.af,.af,.af,.af])->
  ∃ s' V' mQ,TL st sA s' p3 V' (rY xt (min xt.length 3)) mQ (λV=>[V,.af,.af,.af,.af])/\∀(F:Nat)(k2:List AV->St->Option (AV×St))(f:Nat),m<f->
    gy c F k2 f [.ptr p1 0,x2,.ptr p3 0,.int .i64 (j9 xt k:Int),.int .i64 (k:Int)] s=k2 [.ptr p1 0,x2,.ptr p3 0,.int .i64 (j9 xt (min xt.length 3):Int)] s':=by
 intro m;induction m with
 |zero=>
  intro k s V rows hk h;obtain rfl:k=min xt.length 3:=by omega
  refine⟨s,V,rows,h,λF k2 f hf=> ?_⟩;obtain⟨f,rfl⟩:∃g,f=g+1:=⟨f - 1,by omega⟩
  have h1:=h.kx.keep p1 _ Uv h1A;have c0:(nY zt zg zy zr xt xg xy xr)[0]? =some (eN .u8 zt xt):=rfl;have lI:=λ(K:AV->St->Option (AV×St))(s:St)=>TG (c:=c) .u8 zt xt K s
  generalize j9 xt (min xt.length 3)=S at*
  rw[Bo];by_cases h3:xt.length<=3
  . have e:min xt.length 3=xt.length:=(by omega);rw[e];simp[h1,c0,lI]
  . have e:min xt.length 3=3:=(by omega);have hd:decide ((3:Int)<(xt.length:Int))=true:=Za0 (by omega);rw[e];simp[h1,c0,lI,hd]
 |succ m ih=>
  intro k s V rows hk h;obtain⟨s1,V1,r1,h1,e1⟩:=aoA (x2:=x2) hc hx hA h1A Uv h3A gJ (k:=k) (by omega) (by omega) h;obtain⟨s2,V2,r2,h2,e2⟩:=ih (k+1) s1 V1 r1 (by omega) h1;refine⟨s2,V2,r2,h2,λF k2 f hf=> ?_⟩;obtain⟨f,rfl⟩:∃g,f=g+1:=⟨f - 1,by omega⟩
  rw[e1 F k2 f,e2 F k2 f (by omega)]
variable{c : au}
theorem aiT{k:Nat}(h:k<=1000000):ax .i64 ((k:Int)+1)=((k+1:Nat):Int):=wrap64 (by omega) (by omega)
theorem amw{x:Nat}(h:x<=4294967296):ax .i64 (x:Int)=(x:Int):=wrap64 (by omega) (by omega)
def Gt(xg:List Nat)(k:Nat):List Int:=(List.range k).map λi=>((xg.getD i 0 / 3 % 4:Nat):Int)
theorem aoC(xg:List Nat)(k:Nat)(h:k<xg.length):Gt xg (k+1)=Gt xg k++[((xg[k] / 3 % 4:Nat):Int)]:=by
 unfold Gt;rw[Zf8,Zc8];simp[Zb5,h]
theorem Mf(xg:List Nat)(k:Nat):(Gt xg k).length=k:=by simp[Gt]
theorem amx{xg:List Nat}(hx:∀x∈xg,x<65536){zt zg zy zr:Bool}{xt xy xr:List Nat}{st sA:St}{p1 p3:Pos}{x2 V1 V2 V3:AV}{n:Nat}(hn:n<=xg.length)(DF:n<=1000)(hA:Wf sA)(h1A:sA.heap.get p1=some (.cells (nY zt zg zy zr xt xg xy xr) 0))(Uv:p1≠p3)(h3A:p3.toNat<sA.next.toNat)(gJ:st.next.toNat<=p3.toNat)
  (l2:∀(K:AV->St->Option (AV×St))(s':St),aq c (.lenB .l) [V2] s' K=K (.int .i64 (n:Int)) s'):
  ∀(m k:Nat)(s:St)(V:AV),k+m=n->LL st sA s p3 1 V ((Gt xg k).map bV) (λA=>[V1,V2,V3,A,.af])->
  ∃s' V',LL st sA s' p3 1 V' ((Gt xg n).map bV) (λA=>[V1,V2,V3,A,.af])/\∀(F:Nat)(k4:List AV->St->Option (AV×St))(f:Nat),m<f->
   jU c F k4 f [.ptr p1 0,x2,.ptr p3 0,.int .i64 (k:Int)] s=k4 [.ptr p1 0,x2,.ptr p3 0] s':=by
 intro m;induction m with
 |zero=>
  intro k s V hk h;obtain rfl:k=n:=by omega
  refine⟨s,V,h,λF k4 f hf=> ?_⟩;obtain⟨f,rfl⟩:∃g,f=g+1:=⟨f - 1,by omega⟩
  rw[Bp];simp[h.h3,l2]
 |succ m ih=>
  intro k s V hk h;have hkn:k<n:=by omega
  have Md:k<xg.length:=by omega
  have ME:=hx _ (Zc2 Md);obtain⟨v,hv⟩:∃v:Nat,v=xg[k] / 3 % 4:=⟨_,rfl⟩
  have E:(xg[k]:Int) / 3 % 4=(v:Int):=by omega
  have h1:=h.kx.keep p1 _ Uv h1A;obtain⟨s5,s6,V5,a1,a2,a3,a4,a5,a6,a7⟩:=h.push (c:=c) (bytes:=8) (i:=3) (z:=[.int .i64 0]) (x:= .int .i64 (v:Int)) hA h3A gJ (λA B=>rfl) (λA=>by simp) rfl rfl rfl (by decide) (by rw[Za5,Mf];omega) (by rw[Za5,Mf];omega);have e:(Gt xg k).map bV++[(.int .i64 (v:Int):AV).cells]=(Gt xg (k+1)).map bV:=by rw[aoC xg k Md,Zc8,hv];rfl
  rw[e]at a3;obtain⟨s7,V7,b1,b2⟩:=ih (k+1) s6 V5 (by omega) a3;refine⟨s7,V7,b1,λF k4 f hf=> ?_⟩;obtain⟨f,rfl⟩:∃g,f=g+1:=⟨f - 1,by omega⟩
  have b3:=b2 F k4 f (by omega);have aI:=λ(K:AV->St->Option (AV×St))(s:St)=>akD (c:=c) .u16 .i64 zg xg Md K s
  have c1:(nY zt zg zy zr xt xg xy xr)[1]? =some (eN .u16 zg xg):=rfl;have h3n:=h.h3;clear b2 ih a3 a4 a5 a6 e hv;have k6:k<=1000000:=by omega
  have x6:xg[k]<=4294967296:=by omega
  have w2:=aiT k6;have w3:=amw x6;rw[<-b3,Bp];simp (disch:=omega) [-av,-gV,-nW,cN,iz,Za4,Zb8,h1,h3n,l2,aI,c1,hkn,w3,E,a1,a2,a7,w2]
def IQ(ts:List aB)(gs:List aQ)(xr:List Nat):Nat->List Rl
 |0=>[]
 |k+1=>IQ ts gs xr k++(if(kj ts gs (xr.getD k 0)).2=true then [(kj ts gs (xr.getD k 0)).1]else [])
theorem abk(ts:List aB)(gs:List aQ)(xr:List Nat):∀k,(IQ ts gs xr k).length<=k
 |0=>Za3 _
 |k+1=>by have:=abk ts gs xr k;unfold IQ;rw[Ze6];split<;>simp<;>omega
theorem aq6{R:Type}(k k':IntKind)(z:Bool)(l:List Nat){i:Nat}(h:i<l.length)(K:AV->Option R)(t:T AB):fD (.idxA 1 none) [eN k z l,.int k' (i:Int)] (λv=>ia (.load none) [v] t (λ_=>true) K)=K (.int k (l[i]:Int)):=by
 unfold eN;simp[h]
theorem aq7{R:Type}(s:St)(K:AV->AB->Option R):Um (.alloc [.int .u8 0,.int .i64 0,.str [],.str [],.str [],.int .i64 0]) [] s K=K (.ptr s.next 0) (.cells [.int .u8 0,.int .i64 0,.str [],.str [],.str [],.int .i64 0] 0):=rfl
theorem amy(hc:bH c){xr:List Nat}(hx:∀x∈xr,x<4294967296)(hl:xr.length<=9223372036854775807){zt zg zy zr:Bool}{xt xg xy:List Nat}{st sA:St}{p1 p3:Pos}{x2 V1 V2 V3 V4:AV}(hA:Wf sA)(h1A:sA.heap.get p1=some (.cells (nY zt zg zy zr xt xg xy xr) 0))(Uv:p1≠p3)(h3A:p3.toNat<sA.next.toNat)(gJ:st.next.toNat<=p3.toNat)
  {ts:List aB} {gs:List aQ} {r1 r2:List (List AV)} (hT:TS st sA V1 ts r1) (sT:TS.Since (p3.toNat+1) V1 r1) (hG:GS st sA V2 gs r2) (sG:GS.Since (p3.toNat+1) V2 r2) (lt:ts.length<=1000) (lg:gs.length<=1000)
  (hz:∀t∈ts,0<ot t.sh t.a t.b/\ot t.sh t.a t.b<=1000) (ha:∀t∈ts,(0<=t.a/\t.a<=1000000)/\0<=t.b/\t.b<=1000000):
  ∀(m k:Nat)(s:St)(V:AV),k+m=min xr.length 12->LL st sA s p3 6 V ((IQ ts gs xr k).map Rl.cells) (λA=>[V1,V2,V3,V4,A])->
  ∃ s' V',LL st sA s' p3 6 V' ((IQ ts gs xr (min xr.length 12)).map Rl.cells) (λA=>[V1,V2,V3,V4,A])/\∀(F:Nat)(k6:List AV->St->Option (AV×St))(f:Nat),m<f->
    jV c F k6 f [.ptr p1 0,x2,.ptr p3 0,.int .i64 (k:Int)] s=k6 [x2,.ptr p3 0] s':=by
 have c3:(nY zt zg zy zr xt xg xy xr)[3]? =some (eN .u32 zr xr):=rfl;have lI:=λ(K:AV->St->Option (AV×St))(s:St)=>TG (c:=c) .u32 zr xr K s
 intro m;induction m with
 |zero=>
  intro k s V hk h;obtain rfl:k=min xr.length 12:=by omega
  refine⟨s,V,h,λF k6 f hf=> ?_⟩;obtain⟨f,rfl⟩:∃g,f=g+1:=⟨f - 1,by omega⟩
  have h1:=h.kx.keep p1 _ Uv h1A;rw[tV];by_cases h3:xr.length<=12
  . have e:min xr.length 12=xr.length:=(by omega);rw[e];simp[h1,c3,lI]
  . have e:min xr.length 12=12:=(by omega);have hd:decide ((12:Int)<(xr.length:Int))=true:=Za0 (by omega);rw[e];simp[h1,c3,lI,hd]
 |succ m ih=>
  intro k s V hk h;have Md:k<xr.length:=by omega
  have hk12:k<12:=by omega
  have ME:=hx _ (Zc2 Md);have kM:k<=1000000:=by omega
  have d12:decide ((k:Int)<12)=true:=Za0 (by omega);have nw:=λ(K:AV->AB->Option (AV×St))=>aq7 s K
  have xM:xr[k]<=4294967296:=by omega
  have h1:=h.kx.keep p1 _ Uv h1A;have gr:=h.out.ai;have A:=aq3 hc (V3:=V3) (V4:=V4) (V5:=V) (hT.kx h.kx gr sT) (hG.kx h.kx gr sG) lt lg hz ha xr[k] ME;have gn:=Grew.ah gr.wf (.cells (kj ts gs xr[k]).1.cells 0);have hS:IQ ts gs xr (k+1)=IQ ts gs xr k++(if(kj ts gs xr[k]).2=true then [(kj ts gs xr[k]).1]else []):=by
    rw[IQ];simp[Zb5,Md]
  have Rn:∀(K:AV->St->Option (AV×St)),aq c (.store 6) [.ptr s.next 0,.agg (kj ts gs xr[k]).1.cells] (ah s (.cells [.int .u8 0,.int .i64 0,.str [],.str [],.str [],.int .i64 0] 0)) K=K .undef (ah s (.cells (kj ts gs xr[k]).1.cells 0)):=λK=>cr c K s 6 (.agg (kj ts gs xr[k]).1.cells) [.int .u8 0,.int .i64 0,.str [],.str [],.str [],.int .i64 0] rfl rfl rfl
  have aP:=λ(K:AV->Option (AV×St))(t:T AB)=>aq6 .u32 .i64 zr xr Md K t
  have hg:=h.ai gn;have h3n:=h.h3;have h3g:=hg.h3;have ll:=abk ts gs xr k;have cu5:∀A B D E G:AV,cut [A,B,D,E,G] 0 5=some [A,B,D,E,G]:=λA B D E G=>cM rfl
  have gx:=az s (.cells (kj ts gs xr[k]).1.cells 0);by_cases hb:(kj ts gs xr[k]).2=true
  . rw[hb]at A;rw[Zb3 hb]at hS;obtain⟨s5,s6,V5,a1,a2,a3,a4,a5,a6,a7⟩:=hg.push (c:=c) (bytes:=72) (i:=4) (z:=[.int .u8 0,.int .i64 0,.str [],.str [],.str [],.int .i64 0]) (x:= .agg (kj ts gs xr[k]).1.cells) hA h3A gJ (λA B=>rfl) (λA=>by simp) rfl rfl rfl (by decide) (by rw[Za5];omega) (by rw[Za5];omega);have e:(IQ ts gs xr k).map Rl.cells++[(.agg (kj ts gs xr[k]).1.cells:AV).cells]=(IQ ts gs xr (k+1)).map Rl.cells:=(by rw[hS,Zc8];rfl);rw[e]at a3;obtain⟨s7,V7,b1,b2⟩:=ih (k+1) s6 V5 (by omega) a3;refine⟨s7,V7,b1,λF k6 f hf=> ?_⟩;obtain⟨f,rfl⟩:∃g,f=g+1:=⟨f - 1,by omega⟩
    have b3:=b2 F k6 f (by omega);generalize (kj ts gs xr[k]).1=R at*
    clear b2 ih a3 a4 a5 a6 e hS hb ll hg h;have w2:=aiT kM;have w3:=amw xM;rw[<-b3,tV];simp (disch:=omega) [-av,dz,Za4,Zb8,h1,h3n,h3g,lI,aP,c3,Md,d12,nw,w3,A,Rn,cu5,gx,a1,a2,a7,w2]
  . have dZ:(kj ts gs xr[k]).2=false:=(by simpa using hb);rw[dZ]at A;rw[Za7 hb,Ze0]at hS;rw[<-hS]at hg;obtain⟨s7,V7,b1,b2⟩:=ih (k+1) _ V (by omega) hg;refine⟨s7,V7,b1,λF k6 f hf=> ?_⟩;obtain⟨f,rfl⟩:∃g,f=g+1:=⟨f - 1,by omega⟩
    have b3:=b2 F k6 f (by omega);generalize (kj ts gs xr[k]).1=R at*
    clear b2 ih hS hb dZ ll hg h;have w2:=aiT kM;have w3:=amw xM;rw[<-b3,tV];simp (disch:=omega) [-av,dz,Za4,Zb8,h1,h3n,h3g,lI,aP,c3,Md,d12,nw,w3,A,Rn,cu5,gx,w2]
variable{c : au}
theorem ajG(hc:bH c){xs:List Nat}(hx:∀x∈xs,x<65536)(hl:xs.length<=9223372036854775807)(z:Bool)(x1:AV){st:St}{p4 p5:Pos}(Rm:p4≠p5)(Jp:st.next.toNat<=p5.toNat){W:AV}:∀(m k:Nat)(s:St)(V:AV)(rows:List (List AV)),k+m=min xs.length 12->
  GL st s p4 p5 V W (DX xs k) rows->∃s' V' mQ,GL st s' p4 p5 V' W (DX xs (min xs.length 12)) mQ/\∀(F:Nat)(_:5<=F)(k2:List AV->St->Option (AV×St))(f:Nat),m<f->
    gw c F k2 f [eN .u16 z xs,x1,.ptr p4 0,.ptr p5 0,.int .i64 (k:Int)] s=k2 [x1,.ptr p4 0,.ptr p5 0] s':=by
 intro m;induction m with
 |zero=>
  intro k s V rows hk h;obtain rfl:k=min xs.length 12:=by omega
  refine⟨s,V,rows,h,λF _ k2 f hf=> ?_⟩;obtain⟨f,rfl⟩:∃g,f=g+1:=⟨f - 1,by omega⟩
  have lI:∀(K:AV->St->Option (AV×St))(s:St),aq c (.lenB .l) [eN .u16 z xs] s K=K (.int .i64 (xs.length:Int)) s:=λK s=>by unfold eN;rw[fE];simp
  rw[Bn];by_cases h12:xs.length<=12
  . have e:min xs.length 12=xs.length:=(by omega);rw[e];simp[lI]
  . have e:min xs.length 12=12:=(by omega);rw[e];have hd:decide (12<xs.length)=true:=Za0 (by omega);have hd2:(12:Nat)<xs.length:=(by omega);have hd3:decide ((12:Int)<(xs.length:Int))=true:=Za0 (by omega);simp[lI,hd3]
 |succ m ih=>
  intro k s V rows hk h;obtain⟨s1,V1,r1,h1,e1⟩:=ajF hc hx z x1 Rm Jp (k:=k) (by omega) (by omega) h;obtain⟨s2,V2,r2,h2,e2⟩:=ih (k+1) s1 V1 r1 (by omega) h1;refine⟨s2,V2,r2,h2,λF hF k2 f hf=> ?_⟩;obtain⟨f,rfl⟩:∃g,f=g+1:=⟨f - 1,by omega⟩
  rw[e1 F hF k2 f,e2 F hF k2 f (by omega)]
variable{c : au}
structure YL(st s:St)(p4 p5:Pos)(V W:AV)(gs:List aQ)(rows:List (List AV))(ys:List Ty):Prop where
 gl:GL st s p4 p5 V W gs rows
 ty:Mk 3 st s W (ys.map Ty.cells)
 w4:aK W≠some p4
 w5:aK W≠some p5
 wV:∀b,aK W=some b->aK V≠some b
 wI:∀(i:Nat)(r:List AV)(v:AV)(b:Pos),rows[i]? =some r->r[8]? =some v->aK v=some b->aK W≠some b
theorem YL.start{st s:St}{p4 p5:Pos}{V:AV}{gs:List aQ}{rows:List (List AV)}(h:GL st s p4 p5 V .af gs rows):YL st s p4 p5 V .af gs rows []:=
 ⟨h,Mk.start h.out.jq h.out.ai,λe=>(nomatch e),λe=>(nomatch e),λ_ e=>(nomatch e),λ_ _ _ _ _ _ _ e=>(nomatch e)⟩
theorem YL.push{st s:St}{p4 p5:Pos}{V W:AV}{gs:List aQ}{rows:List (List AV)}{ys:List Ty}(h:YL st s p4 p5 V W gs rows ys)(Rm:p4≠p5)(Jp:st.next.toNat<=p5.toNat)(t:Ty)(hlen:ys.length<=1000000):
   ∃s5 s6 W5,(∀(K:AV->St->Option (AV×St)),aq c (.buildSlice 3 1 [.str [],.str [],.int .u8 0] [0]) [.agg t.cells] s (λy q=>aq c (.append 3 40) [W,y] q K)=K W5 s5)/\
    (∀(K:AV->St->Option (AV×St)),aq c (.store 1) [.ptr p5 1,W5] s5 K=K .undef s6)/\YL st s6 p4 p5 V W5 gs rows (ys++[t]):=by
 have hw:=h.gl.out.ai.wf;obtain⟨s5,W5,a1,a2,a3,a4⟩:=h.ty.push (c:=c) (R:=AV×St) (bytes:=40) (z:=[.str [],.str [],.int .u8 0]) (x:= .agg t.cells) rfl rfl rfl (by decide) (by rw[Za5];omega) (by rw[Za5];omega);have e:(ys++[t]).map Ty.cells=ys.map Ty.cells++[(.agg t.cells:AV).cells]:=by rw[Zc8];rfl
 rw[<-e]at a2;have y4:=a3 p4 _ h.w4 h.gl.h4;have y5:=a3 p5 _ h.w5 h.gl.h5;have l4:=hw p4 _ h.gl.h4;have l5:=hw p5 _ h.gl.h5;have b4:aK W5≠some p4:=λe=>by have:=a4 _ e;omega
 have b5:aK W5≠some p5:=λe=>by have:=a4 _ e;omega
 have l5':=a2.ai.wf p5 _ y5;obtain⟨vc,v1⟩:=a2.cells;have bw:∀(K:AV->St->Option (AV×St)),aq c (.store 1) [.ptr p5 1,W5] s5 K=K .undef (aY s5 p5 (.cells [V,W5] 0)):=λK=>by rw[bP c K s5 1 p5 1 W5 [V,W] y5 (by rw[vc];rfl) (by simp) (by rw[vc];exact v1),vc];rfl
 have M6:=a2.store (p:=p5) (b:= .cells [V,W5] 0) Jp l5' b5;have keep:∀(u:AV)(n:Nat)(rw:List (List AV)),Mk n st s u rw->(∀b,aK u=some b->aK W≠some b/\b≠p5)->Mk n st (aY s5 p5 (.cells [V,W5] 0)) u rw:=λu n rw hu cZ=>
   aiS hu M6.ai λb y hb hy=>by rw[aG (λe=>(cZ b hb).2 e.symm)];exact a3 b y (cZ b hb).1 hy
 have newW:∀b,aK W5=some b->s.next.toNat<=b.toNat:=a4;refine⟨s5,_,W5,a1,bw,⟨⟨keep V 9 rows h.gl.out λb hb=>⟨λe=>h.wV b e hb,λe=>h.gl.n5 (by rw[hb,e])⟩,h.gl.len,λi g r hi hr=> ?_,by rw[aG (λe=>Rm e.symm)];exact y4,bN _ _ _,h.gl.n4,h.gl.n5⟩,M6,b4,b5,λb hb e=> ?_,λi r v b hr h8 hv e=> ?_⟩⟩
 . obtain⟨v,e1,e2,e3⟩:=h.gl.dV i g r hi hr;have h8:r[8]? =some v:=(by rw[e1];rfl);exact⟨v,e1,keep v 1 _ e2 λb hb=>⟨h.wI i r v b hr h8 hb,(e3 b hb).2.2⟩,e3⟩
 . have:=newW b hb;have:=h.gl.out.own.lt hw e;omega
 . have p1:=newW b e;have hi:i<gs.length:=(by rw[<-h.gl.len];exact(Za1.1 hr).1);obtain⟨u,e1,e2,_⟩:=h.gl.dV i gs[i] r (H0 hi) hr;have:u=v:=(by rw[e1]at h8;exact Zi3 h8);subst this;have:=e2.own.lt hw hv;omega
variable{c : au}
def mR(gs:List aQ):List (List Nat):=gs.map λg=>g.name
def aeo(bK:List Nat)(i k n:Nat):Ty:=⟨bQ i,bQ k,1+((bK.getD n 0 % 4:Nat):Int)⟩
def aiU(bK:List Nat)(n:Nat):Bool:=decide (n<bK.length)&&decide (bK.getD n 0 % 4<2)
def Gu(bK:List Nat)(i k n:Nat)(ys:List Ty):List Ty:=if aiU bK n=true then ys++[aeo bK i k n]else ys
theorem aiV(bK:List Nat)(i k n:Nat)(ys:List Ty):(Gu bK i k n ys).length<=ys.length+1:=by unfold Gu;split<;>simp
def mS(names:List (List Nat))(bK:List Nat)(i:Nat):Nat->Nat->Nat->List Ty->Nat×List Ty
 |0,_,n,ys=>(n,ys)
 |m+1,k,n,ys=>if bQ i∈names then(if bQ k∈names then mS names bK i m (k+1) (n+1) (Gu bK i k n ys)else mS names bK i m (k+1) n ys)else(n,ys)
theorem GL.there(hc:bH c){st s:St}{p4 p5:Pos}{V W:AV}{gs:List aQ}{rows:List (List AV)}(h:GL st s p4 p5 V W gs rows)(hl:gs.length<=1000)(x:Nat)(hx:x<1000000):
  c 87 [.agg [V,W],.int .i64 (x:Int)] s=some (.bool (decide (bQ x∈mR gs)),s):=
 aq2 hc h.out.own h.out.row (names:=mR gs) (by rw[mR,Za5,h.len]) (λi h1 h2=>by
  have h3:i<gs.length:=by rw[<-h.len];exact h1
  obtain⟨v,e,_⟩:=h.dV i gs[i] rows[i] (H0 h3) (H0 h1);rw[e];simp[mR,aQ.aj]) (by rw[h.len];exact hl) x hx h.out.ai.wf
theorem ajH{R:Type}(h:T AB)(ok:AV->Bool)(xs:List (List AV))(i j:Nat)(K1:AV->Option R):ia (.load none) [.fp xs i j] h ok K1=yU (xs[i]?.bind λcs=>cs[j]?) K1:=by unfold ia;rw[Dw,Dw];cases hx:(xs[i]?.bind λcs=>cs[j]?)<;>rfl
theorem aoD{R:Type}(a b:List Nat)(k:Int)(s:St)(K:AV->AB->Option R):Um (.buildSlice 3 1 [.str [],.str [],.int .u8 0] [0]) [.agg [.str a,.str b,.int .u8 k]] s K=K (.slice s.next 0 1 (some 1) 3) (.cells [.str a,.str b,.int .u8 k] 0):=rfl
theorem amz(a b:List Nat)(k:Int)(K:AV->Option (AV×St)):fD (.build [.str [],.str [],.int .u8 0] [(0,1),(1,1),(2,1)]) [.str a,.str b,.int .u8 k] K=K (.agg [.str a,.str b,.int .u8 k]):=rfl
theorem auj (hc:bH c){bK:List Nat}(ht:∀x∈bK,x<256)(z:Bool){st:St}{p4 p5:Pos}(Rm:p4≠p5)(Jp:st.next.toNat<=p5.toNat){V:AV}{gs:List aQ}(hgl:gs.length<=1000){rows:List (List AV)}{i:Nat}(hi:i<1000):
  ∀(m k n:Nat)(s:St)(W:AV)(ys:List Ty),k+m=312->ys.length<=n->n+m<=1000000->YL st s p4 p5 V W gs rows ys->
  ∃ s' W',YL st s' p4 p5 V W' gs rows (mS (mR gs) bK i m k n ys).2/\∀(F:Nat)(k8:List AV->St->Option (AV×St))(f:Nat),m<f->
    jW c F k8 f [eN .u8 z bK,.ptr p4 0,.ptr p5 0,.int .i64 (n:Int),.int .i64 (i:Int),.int .i64 (k:Int)] s=k8 [eN .u8 z bK,.ptr p4 0,.ptr p5 0,.int .i64 ((mS (mR gs) bK i m k n ys).1:Int),.int .i64 (i:Int)] s':=by
 intro m;induction m with
 |zero=>
  intro k n s W ys hk hy hn h;obtain rfl:k=312:=by omega
  refine⟨s,W,h,λF k8 f hf=> ?_⟩;obtain⟨f,rfl⟩:∃g,f=g+1:=⟨f - 1,by omega⟩
  rw[iO];simp[mS]
 |succ m ih  =>
  intro k n s W ys hk hy hn h;have T1:=h.gl.there hc hgl i (by omega);have T2:=h.gl.there hc hgl k (by omega);have hd:decide ((k:Int)<312)=true:=Za0 (by omega);have w:ax .i64 ((k:Int)+1)=((k+1:Nat):Int):=wrap64 (by omega) (by omega);have w2:ax .i64 ((n:Int)+1)=((n+1:Nat):Int):=wrap64 (by omega) (by omega);have h5:=h.gl.h5;have cu:cut [V,W] 0 2=some [V,W]:=rfl;have lI:∀(K:AV->St->Option (AV×St))(s:St),aq c (.lenB .l) [eN .u8 z bK] s K=K (.int .i64 (bK.length:Int)) s:=λK s=>by unfold eN;rw[fE];simp
  by_cases hi1:bQ i∈mR gs
  . by_cases Bg:bQ k∈mR gs
    .   have eT:mS (mR gs) bK i (m+1) k n ys=mS (mR gs) bK i m (k+1) (n+1) (Gu bK i k n ys):=(by rw[mS,Zb3 hi1,Zb3 Bg]);rw[eT];have hl:=aiV bK i k n ys;by_cases sW:n<bK.length
        . have ix:∀(K:AV->St->Option (AV×St))(s:St),aq c (.idxA 1 none) [eN .u8 z bK,.int .i64 (n:Int)] s K=K (.fp (bK.map λ(i:Nat)=>[.int .u8 (i:Int)]) n 0) s:=λK s=>by unfold eN;rw[aa1];simp[sW]
          have pix:∀(K:AV->Option (AV×St)),fD (.idxA 1 none) [eN .u8 z bK,.int .i64 (n:Int)] K=K (.fp (bK.map λ(i:Nat)=>[.int .u8 (i:Int)]) n 0):=λK=>by unfold eN;rw[apG];simp[sW]
          obtain⟨x,hx⟩:∃x,bK[n]=x:=⟨_,rfl⟩
          have hx8:x<256:=(by rw[<-hx];exact ht _ (Zc2 sW));have gd:bK.getD n 0=x:=(by simp[Zb5,sW,hx]);have r1:=λ(s:St)(K:AV->St->Option (AV×St))=>cN (c:=c) (k:= .u8) (a:=(x:Int)) (b:=4) (by omega) (by omega) s K
          have r2:=λ(K:AV->Option (AV×St))=>SD (k:= .u8) (a:=(x:Int)) (b:=4) (by omega) (by omega) K
          have w8:ax .u8 (1+(x:Int) % 4)=1+(x:Int) % 4:=Du (by omega) (by omega);have eC:aiU bK n=decide (x % 4<2):=(by unfold aiU;rw[gd,Za0 sW,Zf6]);have d2:decide ((x:Int) % 4<2)=decide (x % 4<2):=decide_eq_decide.2 (by omega);by_cases hx4:x % 4<2
          . have eY:Gu bK i k n ys=ys++[aeo bK i k n]:=(by unfold Gu;rw[eC,Zb3 (Za0 hx4)]);rw[eY]at hl ⊢;obtain⟨s5,s6,W5,a1,a2,a3⟩:=h.push (c:=c) Rm Jp (aeo bK i k n) (by omega);have eU:(aeo bK i k n).cells=[.str (bQ i),.str (bQ k),.int .u8 (1+(x:Int) % 4)]:=(by unfold aeo Ty.cells;rw[gd];simp);have a1':∀K,aq c (.append 3 40) [W,.slice s.next 0 1 (some 1) 3] (ah s (.cells [.str (bQ i),.str (bQ k),.int .u8 (1+(x:Int) % 4)] 0)) K=K W5 s5:=λK=>by have h1:=a1 K;rw[Gb (es:=3) (z:=[.str [],.str [],.int .u8 0]) (x:= .agg (aeo bK i k n).cells) rfl rfl]at h1;rw[<-eU];exact h1
            have N1:=Ab hc i (by omega) s h.gl.out.ai.wf;have N2:=Ab hc k (by omega) s h.gl.out.ai.wf;obtain⟨s',W',b1,b2⟩:=ih (k+1) (n+1) s6 W5 _ (by omega) (by omega) (by omega) a3;refine⟨s',W',b1,λF k8 f hf=> ?_⟩;obtain⟨f,rfl⟩:∃g,f=g+1:=⟨f - 1,by omega⟩
            rw[<-b2 F k8 f (by omega),iO];simp[-av,-p7,-Hr,h5,cu,T1,T2,hi1,Bg,hd,dz,lI,sW,ix,pix,hx,r1,r2,d2,hx4,w8,N1,N2,ajH,aoD,amz,a1',a2,w,w2]
          . have eY:Gu bK i k n ys=ys:=(by unfold Gu;rw[eC,Za7 (by simp;omega)]);rw[eY];obtain⟨s',W',b1,b2⟩:=ih (k+1) (n+1) s W ys (by omega) (by omega) (by omega) h;refine⟨s',W',b1,λF k8 f hf=> ?_⟩;obtain⟨f,rfl⟩:∃g,f=g+1:=⟨f - 1,by omega⟩
            have L8:decide ((x:Int) % 4<2)=false:=Za2 (by omega);rw[<-b2 F k8 f (by omega),iO];simp[-av,-p7,-Hr,h5,cu,T1,T2,hi1,Bg,hd,dz,lI,sW,ix,hx,r1,L8,w,w2]
        . have eY:Gu bK i k n ys=ys:=(by unfold Gu aiU;rw[Za2 sW,Bool.false_and,Za7 (by decide)]);rw[eY];obtain⟨s',W',b1,b2⟩:=ih (k+1) (n+1) s W ys (by omega) (by omega) (by omega) h;refine⟨s',W',b1,λF k8 f hf=> ?_⟩;obtain⟨f,rfl⟩:∃g,f=g+1:=⟨f - 1,by omega⟩
          rw[<-b2 F k8 f (by omega),iO];simp[-av,-p7,-Hr,h5,cu,T1,T2,hi1,Bg,hd,dz,lI,sW,w,w2]
    .   have eT:mS (mR gs) bK i (m+1) k n ys=mS (mR gs) bK i m (k+1) n ys:=(by rw[mS,Zb3 hi1,Za7 Bg]);rw[eT];obtain⟨s',W',b1,b2⟩:=ih (k+1) n s W ys (by omega) (by omega) (by omega) h;refine⟨s',W',b1,λF k8 f hf=> ?_⟩;obtain⟨f,rfl⟩:∃g,f=g+1:=⟨f - 1,by omega⟩
        rw[<-b2 F k8 f (by omega),iO];simp[-av,-p7,-Hr,h5,cu,T1,T2,hi1,Bg,hd,dz,w]
  . have eT:mS (mR gs) bK i (m+1) k n ys=(n,ys):=(by rw[mS,Za7 hi1]);rw[eT];refine⟨s,W,h,λF k8 f hf=> ?_⟩;obtain⟨f,rfl⟩:∃g,f=g+1:=⟨f - 1,by omega⟩
    rw[iO];simp[-av,-p7,-Hr,h5,cu,T1,hi1,hd,dz]
variable{c : au}
theorem XT(names:List (List Nat))(bK:List Nat)(i:Nat):∀(m k n:Nat)(ys:List Ty),ys.length<=n->(mS names bK i m k n ys).2.length<=(mS names bK i m k n ys).1/\(mS names bK i m k n ys).1<=n+m
 |0,k,n,ys,h=>by unfold mS;exact⟨h,by omega⟩
 |m +   1,k,n,ys,h=>by
  unfold mS;split
  . split
    .   have hl:=aiV bK i k n ys;have:=XT names bK i m (k+1) (n+1) (Gu bK i k n ys) (by omega);omega
    .   have:=XT names bK i m (k+1) n ys h;omega
  . exact⟨h,by omega⟩
def XU(names:List (List Nat))(bK:List Nat):Nat->Nat->Nat->List Ty->List Ty
 |0,_,_,ys=>ys
 |m+1,i,n,ys=>XU names bK m (i+1) (mS names bK i m (i+1) n ys).1 (mS names bK i m (i+1) n ys).2
theorem atl(hc:bH c){bK:List Nat}(ht:∀x∈bK,x<256)(z:Bool){st:St}{p4 p5:Pos}(Rm:p4≠p5)(Jp:st.next.toNat<=p5.toNat){V:AV}{gs:List aQ}(hgl:gs.length<=1000){rows:List (List AV)}:
  ∀(m i n:Nat)(s:St)(W:AV)(ys:List Ty),i+m=312->ys.length<=n->n+m*312<=1000000->YL st s p4 p5 V W gs rows ys->
  ∃s' W',YL st s' p4 p5 V W' gs rows (XU (mR gs) bK m i n ys)/\∀(F:Nat)(_:400<=F)(k6:List AV->St->Option (AV×St))(f:Nat),m<f->
   jX c F k6 f [eN .u8 z bK,.ptr p4 0,.ptr p5 0,.int .i64 (n:Int),.int .i64 (i:Int)] s=k6 [.ptr p4 0,.ptr p5 0] s':=by
 intro m;induction m with
 |zero=>
  intro i n s W ys hk hy hn h;obtain rfl:i=312:=by omega
  refine⟨s,W,h,λF _ k6 f hf=> ?_⟩;obtain⟨f,rfl⟩:∃g,f=g+1:=⟨f - 1,by omega⟩
  rw[Bq];simp
 |succ m ih=>
  intro i n s W ys hk hy hn h;have hd:decide ((i:Int)<312)=true:=Za0 (by omega);have b1: -9223372036854775808<=(i:Int)+1:=by omega
  have b2:(i:Int)+1<=9223372036854775807:=by omega
  have e3:((i+1:Nat):Int)=(i:Int)+1:=by omega
  obtain⟨s1,W1,h1,e1⟩:=auj hc ht z Rm Jp hgl (i:=i) (by omega) m (i+1) n s W ys (by omega) hy (by omega) h;have hl:=XT (mR gs) bK i m (i+1) n ys hy;obtain⟨s2,W2,h2,e2⟩:=ih (i+1) _ s1 W1 _ (by omega) hl.1 (by omega) h1;refine⟨s2,W2,h2,λF hF k6 f hf=> ?_⟩;obtain⟨f,rfl⟩:∃g,f=g+1:=⟨f - 1,by omega⟩
  have e1':=λk8=>e1 F k8 F (by omega)
  rw[<-e2 F hF k6 f (by omega),Bq];clear e1 e2 hl;have w:ax .i64 ((i:Int)+1)=(i:Int)+1:=wrap64 b1 b2;rw[e3]at e1' ⊢;simp[hd,w,e1']
structure RS(st s:St)(V W:AV)(gs:List aQ)(rows:List (List AV))(ys:List Ty):Prop where
 ai:Grew st s
 out:Mk 9 st s V rows
 len:rows.length=gs.length
 dV:∀(i:Nat)(g:aQ)(r:List AV),gs[i]? =some g->rows[i]? =some r->∃v,r=g.aj v/\Mk 1 st s v (g.tg.map XQ)/\∀b,aK v=some b->aK V≠some b/\aK W≠some b
 ty:Mk 3 st s W (ys.map Ty.cells)
 wV:∀b,aK W=some b->aK V≠some b
def ig(xs:List Nat):List aQ:=DX xs (min xs.length 12)
def DJ(xs bK:List Nat):List Ty:=XU (mR (ig xs)) bK 312 0 0 []
theorem HD(xs:List Nat):(ig xs).length<=12:=by unfold ig;rw[Mh];omega
theorem atm(hc:bH c){xs bK:List Nat}(hx:∀x∈xs,x<65536)(hl:xs.length<=9223372036854775807)(ht:∀x∈bK,x<256)(z z2:Bool)(st:St)(hw:Wf st):
   ∃V W s' rows,c 47 [eN .u16 z xs,eN .u8 z2 bK] st=some (.agg [V,W],s')/\RS st s' V W (ig xs) rows (DJ xs bK):=by
 have cg:Wf (ah st (.cells [.af,.af] 0)):=bn hw;have g1:=Grew.ah hw (.cells [.af,.af] 0);have g2:=Grew.ah cg (.cells [.af,.af] 0);have XN:st.next≠(ah st (.cells [.af,.af] 0)).next:=by rw[bD];exact Pos.Ll _
 have Jp:st.next.toNat<=(ah st (.cells [.af,.af] 0)).next.toNat:=by rw[bD,Pos.aC];omega
 have G0:GL st (ah (ah st (.cells [.af,.af] 0)) (.cells [.af,.af] 0)) st.next (ah st (.cells [.af,.af] 0)).next .af .af (DX xs 0) []:=
   ⟨Mk.start hw (g1.trans g2),rfl,λi g r hi _=>by simp[DX]at hi,g2.get (az _ _),az _ _,λe=>(nomatch e),λe=>(nomatch e)⟩
 obtain⟨s1,V,rows,h1,e1⟩:=ajG hc hx hl z (eN .u8 z2 bK) XN Jp (min xs.length 12) 0 _ .af [] (by omega) G0;obtain⟨s2,W,h2,e2⟩:=atl hc ht z2 XN Jp (gs:=ig xs) (by have:=HD xs;omega) 312 0 0 s1 .af [] (by omega) (by simp) (by omega) (YL.start h1);have e1':∀k2:List AV->St->Option (AV×St),gw c 400 k2 400 [eN .u16 z xs,eN .u8 z2 bK,.ptr st.next 0,.ptr (ah st (.cells [.af,.af] 0)).next 0,.int .i64 0] (ah (ah st (.cells [.af,.af] 0)) (.cells [.af,.af] 0))=k2 [eN .u8 z2 bK,.ptr st.next 0,.ptr (ah st (.cells [.af,.af] 0)).next 0] s1:=λk2=>e1 400 (by omega) k2 400 (by omega)
 have e2':∀k6:List AV->St->Option (AV×St),jX c 400 k6 400 [eN .u8 z2 bK,.ptr st.next 0,.ptr (ah st (.cells [.af,.af] 0)).next 0,.int .i64 0,.int .i64 0] s1=k6 [.ptr st.next 0,.ptr (ah st (.cells [.af,.af] 0)).next 0] s2:=λk6=>e2 400 (by omega) k6 400 (by omega)
 have h5:=h2.gl.h5;have h4:=h2.gl.h4;have l4:=h2.gl.out.ai.wf _ _ h4;obtain⟨vc,v1⟩:=h2.gl.out.cells;obtain⟨wc,w1⟩:=h2.ty.cells;have one:aM [V,W]=true:=by
   have v2:V.one=true:=yW v1;have w2:W.one=true:=yW w1;simp only[aM,v2,w2]
 have cu:cut [V,W] 0 2=some [V,W]:=rfl;have Rn:∀(K:AV->St->Option (AV×St)),aq c (.store 2) [.ptr st.next 0,.agg [V,W]] s2 K=K .undef (aY s2 st.next (.cells [V,W] 0)):=λK=>by rw[bP c K s2 2 st.next 0 (.agg [V,W]) [.af,.af] h4 rfl (by simp) one];rfl
 have A:=h2.gl.out.store (p:=st.next) (b:= .cells [V,W] 0) (Za3 _) l4 h2.gl.n4;have B:=h2.ty.store (p:=st.next) (b:= .cells [V,W] 0) (Za3 _) l4 h2.w4;have ins:∀u∈[V,W],dm u:=λu hu=>by
   simp only[Za8,Zb7,Ze4]at hu;rcases hu with rfl|rfl
   . exact A.inst
   . exact B.inst
 obtain⟨sa,t1,ta,tA⟩:=A.Gc (l:=[V,W]) (by simp) ins;obtain⟨sb,t2,tb,tB⟩:=B.Gc (l:=[V,W]) (by simp) ins;have hab:sb=sa:=by rw[t1]at t2;exact(Prod.mk.inj t2).2.symm
 subst hab;refine⟨V,W,sb,rows,?_,⟨tA.ai,tA,h2.gl.len,λi g r hi hr=> ?_,tB,h2.wV⟩⟩
 . rw[Ro hc 400 (r:=(.agg [V,W],aY s2 st.next (.cells [V,W] 0))),t1];rw[VO];simp[e1',e2',h5,cu,Rn]
 . obtain⟨v,q1,q2,q3⟩:=h2.gl.dV i g r hi hr;have h8:r[8]? =some v:=(by rw[q1];rfl);refine⟨v,q1,?_,λb hb=>⟨(q3 b hb).1,h2.wI i r v b hr h8 hb⟩⟩;rcases ta with rfl|rfl
   . exact q2.store (p:=st.next) (b:= .cells [V,W] 0) (Za3 _) l4 (λe=>(q3 _ e).2.1 rfl)
   . (exfalso;have cZ:rows≠[]:=λe=>by rw[e]at hr;simp at hr);rcases tA.loose with⟨b,off,n,rfl⟩|⟨_,e⟩
     .  have p1:=tA.new b (qm _ _ _ _);have p2:=tA.own.lt hw (qm _ _ _ _);omega
     .  exact cZ e
variable{c : au}
def pI(xt:List Nat):List aB:=rY xt (min xt.length 3)
def uL(xt xg:List Nat):List Nat:=xg.take (min xg.length (j9 xt (min xt.length 3)))
def pJ(xt xg:List Nat):List aQ:=ig (uL xt xg)
def aoE(xt xg xy:List Nat):List Ty:=DJ (uL xt xg) xy
def nJ(xt xg xy:List Nat):List Int:=if 0<xy.length % 4 then Gt xg (pJ xt xg).length else []
def auk(xt xg xr:List Nat):List Rl:=IQ (pI xt) (pJ xt xg) xr (min xr.length 12)
def vZ(xt xg xy xr:List Nat):bM:=⟨true,pI xt,true,pJ xt xg,true,aoE xt xg xy,true,nJ xt xg xy,true,auk xt xg xr⟩
theorem aoF(x:Nat):0<tN x:=by
 have:0<tA x:=by unfold tA;split<;>(try split)<;>(try split)<;>omega
 unfold tN;split<;>(try split)<;>omega
theorem Mg{xs:List Nat}{k:Nat}{t:aB}(h:t∈rY xs k):∃i x,t=ki i x:=by
 unfold rY at h;simp only[Zc7]at h;obtain⟨i,_,rfl⟩:=h;exact⟨_,_,rfl⟩
theorem aoG{xs:List Nat}{k:Nat}:∀t∈rY xs k,0<ot t.sh t.a t.b/\ot t.sh t.a t.b<=1000:=λt h=>by obtain⟨i,x,rfl⟩:=Mg h;have e:ot (ki i x).sh (ki i x).a (ki i x).b=((tN x:Nat):Int):=Zb x;have h1:=aoF x;have h2:=acG x;rw[e];omega
theorem ahQ{xs:List Nat}{k:Nat}:∀t∈rY xs k,(0<=t.a/\t.a<=1000000)/\0<=t.b/\t.b<=1000000:=λt h=>by obtain⟨i,x,rfl⟩:=Mg h;have h1:=agm x;have h2:=ago x;show(0<=((tA x:Nat):Int)/\((tA x:Nat):Int)<=1000000)/\0<=((tB x:Nat):Int)/\((tB x:Nat):Int)<=1000000;omega
theorem RS.gs{st sL sR:St}{V W:AV}{gs:List aQ}{rows:List (List AV)}{ys:List Ty}(h:RS sL sR V W gs rows ys)(h0:Wf st)(g:Grew st sL):GS st sR V gs rows/\GS.Since sL.next.toNat V rows:=
 ⟨⟨h.out.back h0 g,h.len,λi t r hi hr=>by
   obtain⟨v,e1,e2,e3⟩:=h.dV i t r hi hr;exact⟨v,e1,e2.back h0 g,λb hb=>(e3 b hb).1⟩⟩,h.out.new,λi r v b hr h8 hb=>by
   have hi:i<gs.length:=(by rw[<-h.len];exact(Za1.1 hr).1);obtain⟨u,e1,e2,_⟩:=h.dV i gs[i] r (H0 hi) hr;have:u=v:=(by rw[e1]at h8;exact Zi3 h8);subst this;exact e2.new b hb⟩
theorem TS.Since.le{n m:Nat}{V:AV}{rows:List (List AV)}(h:TS.Since n V rows)(hm:m<=n):TS.Since m V rows:=⟨λb hb=>Zb0 hm (h.1 b hb),λi r v b h1 h2 h3=>Zb0 hm (h.2 i r v b h1 h2 h3)⟩
theorem GS.Since.le{n m:Nat}{V:AV}{rows:List (List AV)}(h:GS.Since n V rows)(hm:m<=n):GS.Since m V rows:=⟨λb hb=>Zb0 hm (h.1 b hb),λi r v b h1 h2 h3=>Zb0 hm (h.2 i r v b h1 h2 h3)⟩
theorem PS.au7{s s':St}{V1 V2 V3 V4 V5:AV}{p:bM}{r1 r2:List (List AV)}(h1:TS s s' V1 p.ts r1)(h2:GS s s' V2 p.gs r2)(h3:Mk 3 s s' V3 (p.ys.map Ty.cells))(h4:Mk 1 s s' V4 (p.cs.map bV))(h5:Mk 6 s s' V5 (p.rs.map Rl.cells)):
   ∃cY,Go.Ai.tidy s (.agg [V1,V2,V3,V4,V5],s')=(.agg [V1,V2,V3,V4,V5],cY)/\PS s cY [V1,V2,V3,V4,V5] p:=by
 obtain⟨cY,e,g,k⟩:=Mk.apP (s:=s) (s':=s') (l:=[V1,V2,V3,V4,V5]) (λu hu=>by
   simp only[Za8,Zb7,Ze4]at hu;rcases hu with rfl|rfl|rfl|rfl|rfl
   . exact h1.out.inst
   . exact h2.out.inst
   . exact h3.inst
   . exact h4.inst
   . exact h5.inst) h1.out.jq h1.out.ai
 obtain⟨a1,b1⟩:=k 7 V1 r1 (by simp) h1.out;obtain⟨a2,b2⟩:=k 9 V2 r2 (by simp) h2.out;obtain⟨a3,_⟩:=k 3 V3 _ (by simp) h3;obtain⟨a4,_⟩:=k 1 V4 _ (by simp) h4;obtain⟨a5,_⟩:=k 6 V5 _ (by simp) h5;refine⟨cY,e,g,V1,V2,V3,V4,V5,r1,r2,rfl,⟨a1,h1.len,λi t r hi hr=> ?_⟩,⟨a2,h2.len,λi t r hi hr=> ?_⟩,a3,a4,a5⟩
 . rcases b1 with rfl|rfl
   . exact h1.dV i t r hi hr
   . simp at hr
 . rcases b2 with rfl|rfl
   . exact h2.dV i t r hi hr
   . simp at hr
theorem aoH{R:Type}(k k':IntKind)(z:Bool)(l:List Nat){i:Nat}(h:i<=l.length)(K:AV->Option R):fD (.sliceL 1 false true false) [eN k z l,.int k' (i:Int)] K=K (eN k (z&&l.isEmpty) (l.take i)):=by unfold eN;rw[ana,Za5,Zb3 h];simp only[Zq1,List.map_take];rfl
theorem aoI{R:Type}(k:IntKind)(z:Bool)(l:List Nat)(K:AV->Option R):fD (.lenB .l) [eN k z l] K=K (.int .i64 (l.length:Int)):=by unfold eN;rw[ag8];simp
theorem aq8{R:Type}(s:St)(K:AV->AB->Option R):Um (.alloc [.af,.af]) [] s K=K (.ptr s.next 0) (.cells [.af,.af] 0):=rfl
set_option maxHeartbeats 4000000 in
theorem asI (hc:bH c) {xt xg xy xr:List Nat}(ht:∀x∈xt,x<256)(hg:∀x∈xg,x<65536)(hy:∀x∈xy,x<256)(hr:∀x∈xr,x<4294967296)(lt:xt.length<=9223372036854775807)(lg:xg.length<=9223372036854775807)(lr:xr.length<=9223372036854775807)(ly:xy.length<=9223372036854775807)
  (zt zg zy zr:Bool) (st:St) (hw:Wf st):∃Vs s',c 15 [.agg (nY zt zg zy zr xt xg xy xr)] st=some (.agg Vs,s')/\PS st s' Vs (vZ xt xg xy xr):=by
 have w1:Wf (ah st (.cells (nY zt zg zy zr xt xg xy xr) 0)):=bn hw;have w2:Wf (ah (ah st (.cells (nY zt zg zy zr xt xg xy xr) 0)) (.cells [.af,.af,.af,.af,.af] 0)):=bn w1;have g1:=Grew.ah hw (.cells (nY zt zg zy zr xt xg xy xr) 0);have g2:=Grew.ah w1 (.cells [.af,.af,.af,.af,.af] 0);have g3:=Grew.ah w2 (.cells [.af,.af,.af,.af,.af] 0);obtain⟨p1,kz⟩:∃p1,p1=st.next:=⟨_,rfl⟩
 obtain⟨p2,yM⟩:∃p2,p2=(ah st (.cells (nY zt zg zy zr xt xg xy xr) 0)).next:=⟨_,rfl⟩
 obtain⟨p3,hp3⟩:∃p3,p3=(ah (ah st (.cells (nY zt zg zy zr xt xg xy xr) 0)) (.cells [.af,.af,.af,.af,.af] 0)).next:=⟨_,rfl⟩
 obtain⟨s3,Hp⟩:∃s3,s3=ah (ah (ah st (.cells (nY zt zg zy zr xt xg xy xr) 0)) (.cells [.af,.af,.af,.af,.af] 0)) (.cells [.af,.af,.af,.af,.af] 0):=⟨_,rfl⟩
 have n1:st.next.toNat=p1.toNat:=by rw[kz]
 have n2:p2.toNat=p1.toNat+1:=by rw[yM,bD,Pos.aC,kz]
 have n3:p3.toNat=p2.toNat+1:=by rw[hp3,bD,Pos.aC,yM]
 have n4:s3.next.toNat=p3.toNat+1:=by rw[Hp,bD,Pos.aC,hp3]
 have G3:Grew st s3:=by rw[Hp];exact(g1.trans g2).trans g3
 have H1:s3.heap.get p1=some (.cells (nY zt zg zy zr xt xg xy xr) 0):=by rw[Hp,kz];exact g3.get (g2.get (az _ _))
 have H2:s3.heap.get p2=some (.cells [.af,.af,.af,.af,.af] 0):=by rw[Hp,yM];exact g3.get (az _ _)
 have H3:s3.heap.get p3=some (.cells [.af,.af,.af,.af,.af] 0):=by rw[Hp,hp3];exact az _ _
 have d13:p1≠p3:=λe=>by subst e;omega
 have d23:p2≠p3:=λe=>by subst e;omega
 have W3:=G3.wf
 obtain⟨sL,V1,r1,T1,e1⟩:=aoB (c:=c) (x2:= .ptr p2 0) hc ht lt (zt:=zt) (zg:=zg) (zy:=zy) (zr:=zr) (xg:=xg) (xy:=xy) (xr:=xr) W3 H1 d13 (by omega) (by omega) (st:=st) (min xt.length 3) 0 s3 .af [] (by omega)
  ⟨⟨Mk.start hw G3,rfl,λi t r hi _=>by simp[rY]at hi⟩,KX.refl W3,H3,⟨λb e=>(nomatch e),λi r v b hr _ _=>by simp at hr⟩⟩
 have GL:=T1.tab.out.ai;have WL:=GL.wf;have lN:=T1.kx.next;have L1:=T1.kx.keep p1 _ d13 H1;have L2:=T1.kx.keep p2 _ d23 H2;have L3:=T1.h3;have mlen:(pI xt).length<=3:=by unfold pI;rw[Me];omega
 obtain⟨m,hm⟩:∃m:Nat,m=min xg.length (j9 xt (min xt.length 3)):=⟨_,rfl⟩
 have hmx:xg.take m=uL xt xg:=by rw[hm];rfl
 obtain⟨V2,V3,sR,r2,cR,R⟩:=atm hc (xs:=uL xt xg) (bK:=xy) (λx hx=>hg x (List.mem_of_mem_take hx)) (by have:=List.length_take_le m xg;rw[hmx]at this;omega) hy (zg&&xg.isEmpty) zy sL WL;have GR:=GL.trans R.ai;have WR:=GR.wf;obtain⟨GSR,SR⟩:=R.gs hw GL;have rN:=R.ai.next;have gx:=Grew.ah WR (.cells [V2,V3] 0);obtain⟨sX,hsX⟩:∃sX,sX=ah sR (.cells [V2,V3] 0):=⟨_,rfl⟩
 have WX:Wf sX:=by rw[hsX];exact gx.wf
 have GX:Grew sR sX:=by rw[hsX];exact gx
 have X1:=GX.get (R.ai.get L1);have X2:=GX.get (R.ai.get L2);have X3:=GX.get (R.ai.get L3);have X8:sX.heap.get sR.next=some (.cells [V2,V3] 0):=by rw[hsX];exact az _ _
 have n8:sR.next≠p3:=fun e=>by have:sR.next.toNat=p3.toNat:=by rw[e]
                               omega
 have lX:=WX _ _ X3;obtain⟨vc2,v2⟩:=R.out.cells;obtain⟨vc3,v3⟩:=R.ty.cells;have w7:∀(K:AV->St->Option (AV×St)),aq c (.store 1) [.ptr p3 (0+1),V2] sX K=K .undef (aY sX p3 (.cells [V1,V2,.af,.af,.af] 0)):=λK=>by rw[bP c K sX 1 p3 (0+1) V2 [V1,.af,.af,.af,.af] X3 (by rw[vc2];rfl) (by simp) (by rw[vc2];exact v2),vc2];rfl
 have Fj:∀(K:AV->St->Option (AV×St)),aq c (.store 1) [.ptr p3 (0+2),V3] (aY sX p3 (.cells [V1,V2,.af,.af,.af] 0)) K=K .undef (aY sX p3 (.cells [V1,V2,V3,.af,.af] 0)):=λK=>by rw[bP c K _ 1 p3 (0+2) V3 [V1,V2,.af,.af,.af] (bN _ _ _) (by rw[vc3];rfl) (by simp) (by rw[vc3];exact v3),vc3,Qo];rfl
 obtain⟨sB,hsB⟩:∃sB,sB=aY sX p3 (.cells [V1,V2,V3,.af,.af] 0):=⟨_,rfl⟩
 have kXB:KX p3 sX sB:=by rw[hsB];exact(KX.refl WX).store lX _
 have WB:=kXB.wf;have GB:Grew st sB:=by rw[hsB];exact B8 hw (GR.trans GX) (by omega) lX _
 have kRB:KX p3 sR sB:=((KX.refl WR).ai GX).trans kXB;have kLB:KX p3 sL sB:=((KX.refl WL).ai R.ai).trans kRB;have B1:=kXB.keep p1 _ d13 X1;have B2:=kXB.keep p2 _ d23 X2;have B3:sB.heap.get p3=some (.cells [V1,V2,V3,.af,.af] 0):=by rw[hsB];exact bN _ _ _
 have lB:=WB _ _ B3;have sT1:TS.Since (p3.toNat+1) V1 r1:=T1.since.le (by omega);have sG2:GS.Since (p3.toNat+1) V2 r2:=SR.le (by omega);have TB:=T1.tab.kx kLB GB sT1;have GSB:=GSR.kx kRB GB sG2;have s3V:∀b,aK V3=some b->p3.toNat+1<=b.toNat:=λb hb=>by have:=R.ty.new b hb;omega
 have YB:=Mk.kx (R.ty.back hw GL) kRB GB s3V;have hgl:(pJ xt xg).length<=12:=HD _;have hgn:(pJ xt xg).length<=xg.length:=by unfold pJ ig;rw[Mh, <-hmx,Zh9];omega
 have l2:∀(K:AV->St->Option (AV×St))(s':St),aq c (.lenB .l) [V2] s' K=K (.int .i64 ((pJ xt xg).length:Int)) s':=λK s'=>by rw[QS.lenB R.out.own,R.len];rfl
 have C0:LL st sB sB p3 1 .af ((Gt xg 0).map bV) (λA=>[V1,V2,V3,A,.af]):=⟨Mk.start hw GB,KX.refl WB,B3,λb e=>(nomatch e)⟩
 obtain⟨sC1,V41,C1,e2⟩:=amx (c:=c) (x2:= .ptr p2 0) hg (zt:=zt) (zg:=zg) (zy:=zy) (zr:=zr) (xt:=xt) (xy:=xy) (xr:=xr) (st:=st) (V1:=V1) (V3:=V3) hgn (by omega) WB B1 d13 lB (by omega) l2 (pJ xt xg).length 0 sB .af (by omega) C0;have ld2:∀(K:AV->St->Option (AV×St)),aq c (.load none) [.ptr p1 (0+2)] sB K=K (eN .u8 zy xy) sB:=λK=>by rw[bf,B1];rfl
 have key:∃Vs s',mZ c 400 (.agg (nY zt zg zy zr xt xg xy xr)) st=some (.agg Vs,s')/\∃cY,Go.Ai.tidy st (.agg Vs,s')=(.agg Vs,cY)/\PS st cY Vs (vZ xt xg xy xr):=by
  obtain⟨Q,hQ⟩:∃Q:Option (AV×St)->Prop,Q=λo=>∃Vs s',o=some (.agg Vs,s')/\∃cY,Go.Ai.tidy st (.agg Vs,s')=(.agg Vs,cY)/\PS st cY Vs (vZ xt xg xy xr):=⟨_,rfl⟩
  have ac9:Q (mZ c 400 (.agg (nY zt zg zy zr xt xg xy xr)) st)->∃Vs s',mZ c 400 (.agg (nY zt zg zy zr xt xg xy xr)) st=some (.agg Vs,s')/\∃cY,Go.Ai.tidy st (.agg Vs,s')=(.agg Vs,cY)/\PS st cY Vs (vZ xt xg xy xr):=λh=>by rw[hQ]at h;exact h
  apply ac9;clear ac9;have e1':∀(k2:List AV->St->Option (AV×St)),gy c 400 k2 400 [.ptr p1 0,.ptr p2 0,.ptr p3 0,.int .i64 0,.int .i64 0] s3=k2 [.ptr p1 0,.ptr p2 0,.ptr p3 0,.int .i64 (j9 xt (min xt.length 3):Int)] sL:=λk2=>e1 400 k2 400 (by omega)
  have e2':∀(k4:List AV->St->Option (AV×St)),jU c 400 k4 400 [.ptr p1 0,.ptr p2 0,.ptr p3 0,.int .i64 0] sB=k4 [.ptr p1 0,.ptr p2 0,.ptr p3 0] sC1:=λk4=>e2 400 k4 400 (by omega)
  have ra1:∀(K:AV->Option (AV×St)),ia (.load none) [.ptr p1 (0+1)] sL.heap (λ_=>true) K=K (eN .u16 zg xg):=λK=>by rw[kQ,L1];rfl
  have ra2:∀(K:AV->Option (AV×St)),ia (.load none) [.ptr p1 (0+2)] sL.heap (λ_=>true) K=K (eN .u8 zy xy):=λK=>by rw[kQ,L1];rfl
  have rb0:∀(K:AV->Option (AV×St)),ia (.load none) [.ptr sR.next (0+0)] sX.heap (λ_=>true) K=K V2:=λK=>by rw[kQ,X8];rfl
  have rb1:=λ(K:AV->Option (AV×St))=>F8 K (p:=sR.next) (o:=0+1) (h:=(aY sX p3 (.cells [V1,V2,.af,.af,.af] 0)).heap) (h2:=sX.heap) (v:=V3) (by rw[aG (λe=>n8 e.symm),X8];rfl) (by rw[X8];rfl) R.ty.own.beq
  have pm:∀(K:AV->Option (AV×St)),fD .minB [.int .i64 (xg.length:Int),.int .i64 (j9 xt (min xt.length 3):Int)] K=K (.int .i64 (m:Int)):=λK=>by rw[dB K (λH n=>akb H n _ _ _ _),hm];congr 2;generalize j9 xt (min xt.length 3)=a;omega
  have Rn:∀(K:AV->St->Option (AV×St)),aq c (.store 2) [.ptr sR.next 0,.agg [V2,V3]] (ah sR (.cells [.af,.af] 0)) K=K .undef sX:=λK=>by
    rw[hsX];exact cr c K sR 2 (.agg [V2,V3]) [.af,.af] rfl rfl (by
        have a2:V2.one=true:=yW v2;have a3:V3.one=true:=yW v3;show aM [V2,V3]=true;simp only[aM,a2,a3])
  rw[VP,dI,show AV.cells (.agg (nY zt zg zy zr xt xg xy xr))=nY zt zg zy zr xt xg xy xr from rfl,dF,dF, <-Hp, <-hp3, <-yM, <-kz,aA,aA,e1',
    aH,aH,aH,aH,br,bu,ra1,bu,ra1,aoI,dK,pm,aoH _ _ _ _ (by omega),bu,ra2,hmx,dD,cR,cO,aq8,Rn,bu,rb0,bu,w7,bu,rb1,bu,Fj, <-hsB]
  refine yX (P:=λj=>∀sC V4,LL st sB sC p3 1 V4 ((nJ xt xg xy).map bV) (λA=>[V1,V2,V3,A,.af])->Q (j [.ptr p1 0,.ptr p2 0,.ptr p3 0] sC)) ?_ ?_
  . intro sC V4 hC;have GC:=hC.out.ai;have WC:=GC.wf;have nC:=hC.kx.next;have C1':=hC.kx.keep p1 _ d13 B1;have C2':=hC.kx.keep p2 _ d23 B2;have TC:=TB.kx hC.kx GC sT1;have GSC:=GSB.kx hC.kx GC sG2;have YC:=Mk.kx YB hC.kx GC s3V
    obtain⟨sD,V5,D1,e3⟩:=amy (c:=c) (x2:= .ptr p2 0) hc hr lr (zt:=zt) (zg:=zg) (zy:=zy) (zr:=zr) (xt:=xt) (xg:=xg) (xy:=xy) (V3:=V3) (V4:=V4) WC C1' d13 (by omega) (by omega) TC sT1 GSC sG2 (show(pI xt).length<=1000 by omega) (show(pJ xt xg).length<=1000 by omega) aoG ahQ (min xr.length 12) 0 sC .af (by omega)
        ⟨Mk.start hw GC,KX.refl WC,hC.h3,λb e=>(nomatch e)⟩
    have e3':∀(k6:List AV->St->Option (AV×St)),jV c 400 k6 400 [.ptr p1 0,.ptr p2 0,.ptr p3 0,.int .i64 0] sC=k6 [.ptr p2 0,.ptr p3 0] sD:=λk6=>e3 400 k6 400 (by omega)
    have GD:=D1.out.ai;have WD:=GD.wf;have D2':=D1.kx.keep p2 _ d23 C2';have s4V:∀b,aK V4=some b->p3.toNat+1<=b.toNat:=λb hb=>by have:=hC.since b hb;omega
    have s5V:∀b,aK V5=some b->p3.toNat+1<=b.toNat:=λb hb=>by have:=D1.since b hb;omega
    have TD:=TC.kx D1.kx GD sT1;have GSD:=GSC.kx D1.kx GD sG2;have YD:=Mk.kx YC D1.kx GD s3V;have CD:=Mk.kx hC.out D1.kx GD s4V;have lD:=WD _ _ D2';have ld5:∀(K:AV->St->Option (AV×St)),aq c (.load (some 5)) [.ptr p3 0] sD K=K (.agg [V1,V2,V3,V4,V5]) sD:=λK=>by rw[gG,D1.h3];rfl
    have one5:aM [V1,V2,V3,V4,V5]=true:=by
        have a1:V1.one=true:=yW TD.out.cells.2;have a2:V2.one=true:=yW v2;have a3:V3.one=true:=yW v3;have a4:V4.one=true:=yW CD.cells.2;have a5:V5.one=true:=yW D1.out.cells.2;simp only[aM,a1,a2,a3,a4,a5,Zi2]
    have sto5:∀(K:AV->St->Option (AV×St)),aq c (.store 5) [.ptr p2 0,.agg [V1,V2,V3,V4,V5]] sD K=K .undef (aY sD p2 (.cells [V1,V2,V3,V4,V5] 0)):=λK=>by rw[bP c K _ 5 p2 0 (.agg [V1,V2,V3,V4,V5]) _ D2' rfl (by simp) one5];rfl
    have kE:KX p2 sD (aY sD p2 (.cells [V1,V2,V3,V4,V5] 0)):=(KX.refl WD).store lD _;have GE:=B8 hw GD (show st.next.toNat<=p2.toNat by omega) lD (.cells [V1,V2,V3,V4,V5] 0);obtain⟨cY,t1,t2⟩:=PS.au7 (p:=vZ xt xg xy xr) (TD.kx kE GE (sT1.le (by omega))) (GSD.kx kE GE (sG2.le (by omega))) (Mk.kx YD kE GE λb hb=>by have:=s3V b hb;omega) (Mk.kx CD kE GE λb hb=>by have:=s4V b hb;omega) (Mk.kx D1.out kE GE λb hb=>by have:=s5V b hb;omega);have hfin:Q (some (.agg [V1,V2,V3,V4,V5],aY sD p2 (.cells [V1,V2,V3,V4,V5] 0))):=(by rw[hQ];exact⟨_,_,rfl,cY,t1,t2⟩);rw[aH,aH,aH,br,aA,e3',aH,aH,br,ld5,sto5,ahc,bN];exact hfin
  . intro j hj;rw[aS,ld2,TG,cN (by omega) (by omega),CB];by_cases h4:0<xy.length % 4
    .   rw[Za0 (show(0:Int)<(xy.length:Int) % 4 by omega),dW,aA,e2',aH,aH,aH,br];refine hj sC1 V41 ?_;have:nJ xt xg xy=Gt xg (pJ xt xg).length:=(by unfold nJ;rw[Zb3 h4]);rw[this];exact C1
    .   rw[Za2 (show ¬(0:Int)<(xy.length:Int) % 4 by omega),dQ];refine hj sB .af ?_;have:nJ xt xg xy=[]:=(by unfold nJ;rw[Za7 h4]);rw[this];exact C0
 obtain⟨Vs,s',k1,cY,k2,k3⟩:=key;refine⟨Vs,cY,?_,k3⟩;rw[Rp hc 400 (r:=(.agg Vs,s')) k1,k2]
theorem Od{P:Nat->Bool}:∀(m k i:Nat),k<=i->i<k+m->P i=true->0<=scan P m k
 |0,_,_,_,_,_=>by omega
 |m +   1,k,i,h1,h2,hp=>by
  unfold scan;split
  . omega
  . rename_i hk;exact Od m (k+1) i (by
        rcases Zi4 k i with h|h
        . omega
        . obtain rfl:i=k:=(by omega);exact absurd hp hk) (by omega) hp
theorem aiW{ts:List aB}(h1:∀t∈ts,rZ t=0)(h2:∀(i j:Nat)(a b:aB),i<j->ts[i]? =some a->ts[j]? =some b->a.name≠b.name):∀m k,(iF ts m k).2=0
 |0,_=>rfl
 |m+    1,k=>by
  unfold iF;cases e:ts[k]? with
  |none=>rfl
  |some t=>
   have ht:rZ t=0:=h1 t (Zc0 e);simp only;rw[Za7 (by simp[ht]),Za7]
   .    exact aiW h1 h2 m (k+1)
   .    intro hs;obtain⟨_,aV,hp⟩:=B7 k 0 hs;generalize (scan (xk ts t.name) k 0).toNat=i at*
        unfold xk at hp;obtain⟨a,ha,hb⟩:=Zf1.1 (Zg9 hp);exact h2 i k a t (by omega) ha e hb
theorem aiX{gs:List aQ}(h1:∀g∈gs,jQ g=0)(h2:∀(i j:Nat)(a b:aQ),i<j->gs[i]? =some a->gs[j]? =some b->a.name≠b.name)(hl:gs.length<=64):∀m k,(ov gs m k).2=0
 |0,_=>rfl
 |m+    1,k=>by
  unfold ov;cases e:gs[k]? with
  |none=>rfl
  |some t=>
   have ht:jQ t=0:=h1 t (Zc0 e);have hk:k<gs.length:=(Za1.1 e).1;simp only;rw[Za7 (by simp[ht]),Za7,Za7 (by omega)]
   .    exact aiX h1 h2 hl m (k+1)
   .    intro hs;obtain⟨_,aV,hp⟩:=B7 k 0 hs;generalize (scan (oF gs t.name) k 0).toNat=i at*
        unfold oF at hp;obtain⟨a,ha,hb⟩:=Zf1.1 (Zg9 hp);exact h2 i k a t (by omega) ha e hb
theorem aiY{gs:List aQ}{ts:List Ty}(h:∀(k:Nat)(t:Ty),ts[k]? =some t->agk t (pg ts k)=false/\ry gs t=false/\we t (pg ts k)=false/\k<256):∀m k,(jR gs ts m k).2=0
 |0,_=>rfl
 |m+1,k=>by
  unfold jR;cases e:ts[k]? with
  |none=>rfl
  |some t=>
   obtain⟨a,b,d,f⟩:=h k t e;simp only;rw[Za7 (by simp[a]),Za7 (by simp[b]),Za7 (by simp[d]),Za7 (by omega)];exact aiY h m (k+1)
theorem aep{l:List Nat}{n:Nat}(h:∀x∈l,x<n)(h0:0<n)(i:Nat):l.getD i 0<n:=by
 rw[Zb5];cases e:l[i]? with
 |none=>simpa using h0
 |some x=>simpa using h x (Zc0 e)
theorem tH{α:Type}{f:Nat->α}{k i:Nat}{t:α}(h:((List.range k).map f)[i]? =some t):i<k/\t=f i:=by
 have hi:i<k:=by simpa using(Za1.1 h).1
 rw[Zb4,Zh5 hi,Ze2,H5]at h;exact⟨hi,h.symm⟩
theorem aul:∀i<3,∀x<256,rZ (ki i x)=0:=by decide+kernel
theorem aoJ:∀x<256,bJ (ki 0 x)=((tN x:Nat):Int):=by decide+kernel
theorem aoK{xt:List Nat}(hx:∀x∈xt,x<256):(bR (pI xt)).2=0:=by
 unfold bR;rw[Za7 (by unfold pI;rw[Me];omega)];refine aiW (λt ht=> ?_) (λi j a b Uq ha hb e=> ?_) _ _
 . obtain⟨i,hi⟩:=Ze3.1 ht;obtain⟨h1,rfl⟩:=tH hi;exact aul i (by omega) _ (aep hx (by omega) i)
 . obtain⟨h1,rfl⟩:=tH ha;obtain⟨h2,rfl⟩:=tH hb;have e:eR i=eR j:=e;unfold eR at e;simp only[Zf7,Zo9,Zr2]at e;omega
theorem amA(p:Prop)[Decidable p](i:Nat):An (if p then bQ i else [])=true:=by
 split
 . unfold An;rw[akA];simp
 . rfl
theorem aum:∀a b d e:Bool,(QX none (((if a=true then [0]else [])++(if b=true then [1]else [])++(if d=true then [2]else [])++(if e=true then [3]else [])).map bQ)=true/\(((if a=true then [0]else [])++(if b=true then [1]else [])++(if d=true then [2]else [])++(if e=true then [3]else [])).map bQ:List (List Nat)).length<=4):=by decide+kernel
theorem arG(x:Nat):QX none (Fv x 4)=true/\(Fv x 4).length<=4:=by
 have e:Fv x 4=(((if MD x 0=true then [0]else [])++(if MD x 1=true then [1]else [])++(if MD x 2=true then [2]else [])++(if MD x 3=true then [3]else [])).map bQ):=by
  unfold Fv;rw[show List.range 4=[0,1,2,3]from rfl];cases h0:MD x 0<;>cases h1:MD x 1<;>cases h2:MD x 2<;>cases h3:MD x 3<;>simp[h0,h1,h2,h3]
 rw[e];exact aum _ _ _ _
theorem aun(i x:Nat):jQ (ze i x)=0:=by
 have t:=arG x;have n:pK (ze i x).name=true:=akA _;have a:An (ze i x).zf=true:=amA (x % 2=1) _;have b:An (ze i x).jP=true:=amA (4<x % 8) _;have d:An (ze i x).o8=true:=amA (x % 3=2) _;unfold jQ;rw[Za7 (by rw[n,a,b,d];simp),Za7 (by show ¬ ¬(0<=((x % 4*500:Nat):Int)/\((x % 4*500:Nat):Int)<=9999);omega),
  Za7 (by show ¬ ¬(0<=((x % 3:Nat):Int)/\((x % 3:Nat):Int)<=2);omega),Za7 (by show ¬4<(Fv x 4).length;omega),Za7 (by show ¬QX none (Fv x 4)=false;rw[t.1];simp)]
theorem abA{a b:Nat}(ha:a<676)(hb:b<676)(h:bQ a=bQ b):a=b:=by unfold bQ at h;simp only[Zf7,Zo9]at h;omega
theorem HS{a b:Nat}(ha:a<676)(hb:b<676):aO (bQ a) (bQ b)=decide (a<b):=by
 unfold bQ;simp only[aO,KJ,cV];by_cases h1:97+a / 26 % 26<97+b / 26 % 26
 . rw[Za0 h1,Za0 (show a<b by omega)]
 . rw[  Za2 h1];by_cases h2:97+a / 26 % 26=97+b / 26 % 26
   . rw[Za0 h2];by_cases h3:97+a % 26<97+b % 26
     .  rw[Za0 h3,Za0 (show a<b by omega)]
     .  rw[Za2 h3,Za2 (show ¬a<b by omega)];simp only;split<;>rfl
   . rw[Za2 h2,Za2 (show ¬a<b by omega)]
theorem aeq{i:Nat}(h:i<12):IV i=25*i:=by
 have:∀i<12,IV i=25*i:=by decide+kernel
 exact this i h
theorem atn(xs:List Nat):(ov (ig xs) 101 0).2=0:=by
 refine aiX (λg hg=> ?_) (λi j a b Uq ha hb e=> ?_) (by have:=HD xs;omega) _ _
 . obtain⟨i,hi⟩:=Ze3.1 hg;obtain⟨h1,rfl⟩:=tH hi;exact aun _ _
 . obtain⟨h1,rfl⟩:=tH ha;obtain⟨h2,rfl⟩:=tH hb;have e:bQ (IV i)=bQ (IV j):=e;rw[aeq (by omega),aeq (by omega)]at e;have:=abA (by omega) (by omega) e;omega
theorem CN{xs:List Nat}{a:Nat}(ha:a<676)(h:bQ a∈mR (ig xs)):∃i,i<12/\a=25*i/\∃j,j<(ig xs).length/\oF (ig xs) (bQ a) j=true:=by
 unfold mR at h;obtain⟨g,hg,e⟩:=Zc7.1 h;obtain⟨i,hi⟩:=Ze3.1 hg;have hl:=(Za1.1 hi).1;obtain⟨h1,rfl⟩:=tH hi;have e:bQ (IV i)=bQ a:=e;have e2:=e;rw[aeq (by omega)]at e;have:=abA (by omega) ha e;refine⟨i,by omega,this.symm,i,hl,?_⟩;unfold oF;rw[hi];exact Za0 (congrArg some e2)
def I0(p:Nat×Nat×Int):Ty:=⟨bQ p.1,bQ p.2.1,p.2.2⟩
def MF(p:Nat×Nat×Int):Nat:=p.1*312+p.2.1
def TOk(names:List (List Nat))(ys:List Ty)(q:Nat):Prop:=
 ∃ps:List (Nat×Nat×Int),ys=ps.map I0/\(∀p∈ps,p.1<p.2.1/\p.2.1<312/\bQ p.1∈names/\bQ p.2.1∈names/\(p.2.2=1\/p.2.2=2)/\MF p<q)/\ps.Pairwise λa b=>MF a<MF b
theorem TOk.up{names:List (List Nat)}{ys:List Ty}{q q':Nat}(h:TOk names ys q)(hq:q<=q'):TOk names ys q':=by
 obtain⟨ps,e,h1,h2⟩:=h;exact⟨ps,e,λp hp=>by obtain⟨a,b,d,f,g,i⟩:=h1 p hp;exact⟨a,b,d,f,g,by omega⟩,h2⟩
theorem TOk.next{names:List (List Nat)}{bK:List Nat}{ys:List Ty}{i k n:Nat}(h:TOk names ys (i*312+k))(hk:k<312)(Ad:i<k)(hi:bQ i∈names)(uk:bQ k∈names):TOk names (Gu bK i k n ys) (i*312+(k+1)):=by
 unfold Gu;split
 . rename_i hc;obtain⟨ps,e,h1,h2⟩:=h;unfold aiU at hc;simp only[Zb6,Ze7]at hc;refine⟨ps++[(i,k,1+((bK.getD n 0 % 4:Nat):Int))],by rw[Zc8,e];rfl,λp hp=> ?_,?_⟩
   . rcases Zd8.1 hp with hp|hp
     .  obtain⟨a,b,d,f,g,j⟩:=h1 p hp;exact⟨a,b,d,f,g,by omega⟩
     .  simp only[Za8,Zb7,Ze4]at hp;subst hp;exact⟨Ad,hk,hi,uk,by show 1+((bK.getD n 0 % 4:Nat):Int)=1\/1+((bK.getD n 0 % 4:Nat):Int)=2;omega,by show i*312+k<_;omega⟩
   . rw[List.pairwise_append];refine⟨h2,List.pairwise_singleton _ _,λa ha b hb=> ?_⟩;simp only[Za8,Zb7,Ze4]at hb;subst hb;exact(h1 a ha).2.2.2.2.2
 . exact h.up (by omega)
theorem abB{names:List (List Nat)}{bK:List Nat}{i:Nat}:∀(m k n:Nat)(ys:List Ty),k+m<=312->i<k->TOk names ys (i*312+k)->TOk names (mS names bK i m k n ys).2 (i*312+312)
 |0,k,n,ys,h1,_,h=>by unfold mS;exact h.up (by omega)
 |m +   1,k,n,ys,h1,h2,h=>by
  unfold mS;split
  . rename_i hi;split
    .   rename_i hk;exact abB m (k+1) (n+1) _ (by omega) (by omega) (h.next (by omega) h2 hi hk)
    .   exact abB m (k+1) n ys (by omega) (by omega) (h.up (by omega))
  . exact h.up (by omega)
theorem afk{names:List (List Nat)}{bK:List Nat}:∀(m i n:Nat)(ys:List Ty),i+m=312->TOk names ys (i*312)->∃q,TOk names (XU names bK m i n ys) q
 |0,i,n,ys,_,h=>⟨_,h⟩
 |m+1,i,n,ys,h1,h=>by
  unfold XU;exact afk m (i+1) _ _ (by omega) ((abB m (i+1) n ys (by omega) (by omega) (h.up (by omega))).up (by omega))
def rkN(i j:Nat):Nat:=i*(23 - i) / 2+(j - i - 1)
theorem auo:((List.range 12).all λi=>(List.range 12).all λj=>(List.range 12).all λa=>(List.range 12).all λb=> !(decide (i<j)&&decide (a<b)&&(decide (i<a)||(decide (i=a)&&decide (j<b))))||decide (rkN i j<rkN a b))=true:=by decide+kernel
theorem au8(i:Nat)(hi:i<12)(j:Nat)(hj:j<12)(a:Nat)(ha:a<12)(b:Nat)(hb:b<12)(h1:i<j)(h2:a<b)(h3:i<a\/i=a/\j<b):rkN i j<rkN a b:=by
 have h:=Zg7.1 (Zg7.1 (Zg7.1 (Zg7.1 auo i (Zh6.2 hi)) j (Zh6.2 hj)) a (Zh6.2 ha)) b (Zh6.2 hb);have d3:(decide (i<a)||(decide (i=a)&&decide (j<b)))=true:=by
  rcases h3 with h3|⟨h3,h4⟩
  . rw[Za0 h3];rfl
  . rw[Za0 h3,Za0 h4];simp
 rw[Za0 h1,Za0 h2,d3]at h;simpa using h
theorem au9:∀i<12,∀j<12,i<j->rkN i j<66:=by decide+kernel
theorem aoL{N:Nat}:∀{l:List Nat}{k:Nat},l.Pairwise (· < ·)->(∀x∈l,k<=x/\x<N)->l.length<=N - k
 |[],_,_,_=>by simp
 |x::l,k,h,hk=>by
  obtain⟨h1,h2⟩:=List.pairwise_cons.1 h;have hx:=hk x (by simp);have:=aoL (k:=x+1) h2 λy hy=>⟨h1 y hy,(hk y (Za9 _ hy)).2⟩
  simp only[Zc9];omega
theorem ae0(xs bK:List Nat):(DJ xs bK).length<=66/\(jR (ig xs) (DJ xs bK) 101 0).2=0:=by
 obtain⟨q,ps,e,h1,h2⟩:=afk (names:=mR (ig xs)) (bK:=bK) 312 0 0 [] rfl ⟨[],rfl,λp hp=>by simp at hp,List.Pairwise.nil⟩;have e:DJ xs bK=ps.map I0:=e;have hlen:ps.length<=66:=by
   have:=aoL (N:=66) (k:=0) (l:=ps.map λp=>rkN (p.1 / 25) (p.2.1 / 25)) (by
     rw[List.pairwise_map];refine List.Pairwise.imp_of_mem (λ{a b} ha hb hab=> ?_) h2;obtain⟨a1,a2,a3,a4,_⟩:=h1 a ha;obtain⟨b1,b2,b3,b4,_⟩:=h1 b hb;obtain⟨i,hi,e1,_⟩:=CN (by omega) a3;obtain⟨j,hj,e2,_⟩:=CN (by omega) a4;obtain⟨i',hi',e3,_⟩:=CN (by omega) b3;obtain⟨j',LA,e4,_⟩:=CN (by omega) b4;unfold MF at hab;exact au8 _ (by omega) _ (by omega) _ (by omega) _ (by omega) (by omega) (by omega) (by omega)) (λx hx=>by
     obtain⟨p,hp,rfl⟩:=Zc7.1 hx;obtain⟨a1,a2,a3,a4,_⟩:=h1 p hp;obtain⟨i,hi,e1,_⟩:=CN (by omega) a3;obtain⟨j,hj,e2,_⟩:=CN (by omega) a4;exact⟨Zi8 _,au9 _ (by omega) _ (by omega) (by omega)⟩)
   simpa using this
 refine⟨by rw[e,Za5];exact hlen,aiY (λk t ht=> ?_) 101 0⟩;rw[e,Zb4]at ht;obtain⟨p,hp,rfl⟩:=Zf1.1 ht;have hk:k<ps.length:=(Za1.1 hp).1;obtain⟨a1,a2,a3,a4,a5,_⟩:=h1 p (Zc0 hp);have kn:knd (I0 p)=true:=by unfold knd I0;rcases a5 with h|h<;>simp[h]
 have ls:aO (I0 p).a (I0 p).b=true:=(HS (by omega) (by omega)).trans (Za0 a1);have prev:∀u,pg (DJ xs bK) k=some u->gh (I0 p) u=false/\gh u (I0 p)=true:=λu hu=>by
   unfold pg at hu;by_cases h0:k=0
   . rw[Zb3 h0]at hu;cases hu
   rw[Za7 h0,e,Zb4]at hu;obtain⟨r,hr,rfl⟩:=Zf1.1 hu;obtain⟨b1,b2,b3,b4,b5,_⟩:=h1 r (Zc0 hr);have lt:MF r<MF p:=by
     have hr1:=(Za1.1 hr)
     have kz:=(Za1.1 hp)
     obtain⟨w1,zn⟩:=hr1;obtain⟨w2,yM⟩:=kz;rw[<-zn, <-yM];exact List.pairwise_iff_getElem.1 h2 (k - 1) k w1 w2 (by omega)
   unfold MF at lt;unfold gh I0;simp only;rw[HS (by omega) (by omega),HS (by omega) (by omega),HS (by omega) (by omega),HS (by omega) (by omega)];by_cases hq:r.1=p.1
   . rw[hq,Za2 (show ¬p.1<p.1 by omega),Za2 (show ¬p.2.1<r.2.1 by omega),Za0 (show r.2.1<p.2.1 by omega)];simp
   . rw[Za2 (show ¬p.1<r.1 by omega),Za0 (show r.1<p.1 by omega),Za2 (show ¬bQ p.1=bQ r.1 from λh=>hq (abA (by omega) (by omega) h).symm)];simp
 have unk:ry (ig xs) (I0 p)=false:=by obtain⟨_,_,_,i,hi,g1⟩:=CN (by omega) a3;obtain⟨_,_,_,j,hj,g2⟩:=CN (by omega) a4;have s1:=Od (ig xs).length 0 i (by omega) (by omega) g1;have s2:=Od (ig xs).length 0 j (by omega) (by omega) g2;unfold ry;rw[Za2 (show ¬scan (oF (ig xs) (I0 p).a) (ig xs).length 0<0 from λh=>by have h:scan (oF (ig xs) (bQ p.1)) (ig xs).length 0<0:=h;omega),Za2 (show ¬scan (oF (ig xs) (I0 p).b) (ig xs).length 0<0 from λh=>by have h:scan (oF (ig xs) (bQ p.2.1)) (ig xs).length 0<0:=h;omega)];rfl
 refine⟨?_,unk,?_,by omega⟩
 . unfold agk;rw[kn,ls];cases hv:pg (DJ xs bK) k with
   |none=>rfl
   |some u=>simp[(prev u hv).1]
 . unfold we;cases hv:pg (DJ xs bK) k with
   |none=>rfl
   |some u=>simp[(prev u hv).2]
theorem aoM(xs bK:List Nat):(dU (ig xs) (DJ xs bK)).2=0:=by unfold dU;rw[Za7 (by rw[atn];simp)];exact(ae0 xs bK).2
theorem Xs{xt:List Nat}(hx:∀x∈xt,x<256):∀k,k<=3->aW (rY xt k)=((j9 xt k:Nat):Int)
 |0,_=>rfl
 |k+1,h=>by
  have ih:=Xs hx k (by omega);have e:rY xt (k+1)=rY xt k++[ki k (xt.getD k 0)]:=by unfold rY;rw[Zf8,Zc8];rfl
  have z:bJ (ki k (xt.getD k 0))=((tN (xt.getD k 0):Nat):Int):=aoJ _ (aep hx (by omega) k);rw[e];unfold aW at ih ⊢;rw[Zc8,Zr0,ih];simp only[Zd2,Zg3,Zo5,List.sum_nil,z];have e2:j9 xt (k+1)=j9 xt k+tN (xt.getD k 0):=rfl;omega
theorem alK{xt xg xy:List Nat}(hx:∀x∈xt,x<256)(z1 z2 z3 z4 z5:Bool)(rs:List Rl):(gX ⟨z1,pI xt,z2,pJ xt xg,z3,aoE xt xg xy,z4,nJ xt xg xy,z5,rs⟩).2=0:=by
 unfold gX;rw[Za7 (by show ¬(bR (pI xt)).2≠0;rw[aoK hx];simp),Za7 (by show ¬(dU (ig (uL xt xg)) (DJ (uL xt xg) xy)).2≠0;rw[aoM];simp)];rw[Za7 (by
  show ¬((nJ xt xg xy).length≠0/\(nJ xt xg xy).length≠(pJ xt xg).length);unfold nJ;split
  . rw[Mf];simp
  . simp),Za7 (by
  show ¬Aa (nJ xt xg xy)=false;rw[   show Aa (nJ xt xg xy)=true from by
    unfold Aa nJ;rw[Zg7];intro y hy;split at hy
    .   unfold Gt at hy;obtain⟨i,_,rfl⟩:=Zc7.1 hy;rw[Zb6];exact⟨Za0 (by omega),Za0 (by omega)⟩
    .   simp at hy]
  simp),Za7]
 show ¬aW (pI xt)<((pJ xt xg).length:Int)
 unfold pI pJ ig;rw[Mh,Xs hx _ (by omega)];unfold uL;rw[Zh9];omega
theorem ae2{p:bM}(h:∀r∈p.rs,fY p r=0)(hl:p.rs.length<=64):∀m i,(qP p m i).2=0
 |0,_=>rfl
 |m+1,i=>by
  unfold qP;cases e:p.rs[i]? with
  |none=>rfl
  |some r=>
   have:=(Za1.1 e).1;simp only;rw[Za7 (by rw[h r (Zc0 e)];simp),Za7 (by omega)];exact ae2 h hl m (i+1)
theorem TH{xt:List Nat}{i:Nat}{t:aB}(h:(pI xt)[i]? =some t):i<3/\t=ki i (xt.getD i 0):=by
 obtain⟨h1,h2⟩:=tH h;exact⟨by omega,h2⟩
theorem ae1{xs:List Nat}{i:Nat}{g:aQ}(h:(ig xs)[i]? =some g):i<12/\g=ze i (xs.getD i 0):=by
 obtain⟨h1,h2⟩:=tH h;exact⟨by omega,h2⟩
theorem ahS{xt:List Nat}:∀(i j:Nat)(a b:aB),i<j->(pI xt)[i]? =some a->(pI xt)[j]? =some b->a.name≠b.name:=λi j a b Uq ha hb e=>by obtain⟨h1,rfl⟩:=TH ha;obtain⟨h2,rfl⟩:=TH hb;have e:eR i=eR j:=e;unfold eR at e;simp only[Zf7,Zo9,Zr2]at e;omega
theorem ajl{xt:List Nat}(hx:∀x∈xt,x<256):∀t∈pI xt,bJ t=ot t.sh t.a t.b/\0<bJ t:=λt ht=>by
 obtain⟨i,hi⟩:=Ze3.1 ht;obtain⟨h1,rfl⟩:=TH hi;have aV:=aep hx (by omega) i;have z:bJ (ki i (xt.getD i 0))=((tN (xt.getD i 0):Nat):Int):=aoJ _ aV;have e:ot (ki i (xt.getD i 0)).sh (ki i (xt.getD i 0)).a (ki i (xt.getD i 0)).b=((tN (xt.getD i 0):Nat):Int):=Zb _;have h1:=aoF (xt.getD i 0);exact⟨by rw[z,e],by rw[z];omega⟩
end
end Go.Proofs.YtgihekklfnjkiaaGreatDoor
