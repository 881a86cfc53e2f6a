/- Functions of the program, plainly, and what they answer. -/
import Derived.Test.YtlkadmkojjceiaaGreatDoorQLawA
set_option linter.all false
set_option maxRecDepth 100000
set_option maxHeartbeats 4000000
namespace Go.Proofs.YtlkadmkojjceiaaGreatDoor
section
open Go Go.Ai Go.Proofs
variable{c:ai}
theorem u6{R:Type}(P:(List AV->St->Option R)->Prop){A:(List AV->St->Option R)->Option R}{T:List AV->St->Option R}{r:Option R}(hT:P T)(hA:∀j,P j->A j=r):gM A T=r:=hA T hT
theorem GK{R:Type}(c:ai)(K:AV->St->Option R)(st:St)(es:Nat)(z:Bool)(rs:List (List AV))(k k':IntKind)(i j:Nat)(h:i<j)(h2:j<=rs.length):
  ak c (.sliceL es true true false) [ro es z rs,.int k (i:Int),.int k' (j:Int)] st K=K (ro es false ((rs.take j).drop i)) st:=by
 have:∀H n,av.run H n (.sliceL es true true false) [ro es z rs,.int k (i:Int),.int k' (j:Int)]=some (.val (ro es false ((rs.take j).drop i))):=λH n=>by
  rw[V6 (by intro e;subst e;simp at h2;omega)];have h3:i<=j:=by omega
  simp[av.run,iK,bounds,fO,di,cQ,h3,h2,ro]
 exact aK c K this st
theorem Ra(ts:List aU):∀(m k:Nat),(gj ts m k).2=0->∀i,k<=i->i<k+m->∀h:i<ts.length,sY ts[i]=0
 |0,k,_,i,h1,h2,_=>by omega
 |m +   1,k,h,i,h1,h2,hi=>by
  have hk:k<ts.length:=by omega
  rw[gj,H5 hk]at h;simp only at h;by_cases h3:sY ts[k]=0
  . rw[Za5 (by simp[h3])]at h;by_cases h4:0<=scan (nW ts ts[k].name) k 0
    .   rw[Za7 h4]at h;simp at h
    .   rw[Za5 h4]at h;by_cases e:i=k
        .subst e;exact h3
        .exact Ra ts m (k+1) h i (by omega) (by omega) hi
  .rw[Za7 h3]at h;exact absurd h h3
theorem C7{ts:List aU}(h:(bH ts).2=0)(i:Nat)(hi:i<ts.length):sY ts[i]=0:=by
 unfold bH at h;split at h
 .simp at h
 .exact Ra ts ts.length 0 h i (by omega) (by omega) hi
theorem C8{t:aU}(h:sY t=0):(bH [t]).2=0:=by
 simp[bH,gj,h,scan]
def gi(p:bZ)(s:List Nat):Int:=scan (fy p.gs s) p.gs.length 0
def ti(p:bZ)(s:List Nat):Int:=scan (nW p.ts s) p.ts.length 0
def s9(p:bZ)(i:Int):Int:=match p.ts[i.toNat]? with
 |some t=>eD t
 |none=>0
def wK(k:Kd)(r:Rl)(m:Int):Int:=if k.n=true/\(r.n<k.lo\/m<r.n)then 42 else 0
def OH(k:Kd)(p:bZ)(r:Rl):Int:=
 if(k.t=116/\ti p r.t<0)\/(k.t=101/\r.t≠[]/\ti p r.t<0)then 6
 else wK k r (if k.yb=true then s9 p (ti p r.t) - 1 else 24)
def UE(k:Kd)(p:bZ)(r:Rl):Int:=
 if k.a=100/\eP r.a=false then 4 else if k.b=true/\r.a=r.b then 5 else OH k p r
def ML(k:Kd)(p:bZ)(r:Rl):Int:=
 if k.w=[]then 40 else if r.wt<0\/1000<r.wt then 41 else if EW k r=false then 43
 else if(k.a=103/\gi p r.a<0)\/(k.a=101/\r.a≠[]/\gi p r.a<0)\/(k.b=true/\gi p r.b<0)then 6
 else UE k p r
theorem aas (hc : Sem c)(k:Kd)(hk:k.yb=true->k.t=116)(p:bZ)(hp:p.Ad)(hv:(bH p.ts).2=0)(r:Rl)(st:St)(hw:Wf st):
   c 121 [.agg k.cells,.agg p.cells,.agg r.cells] st=some (.int .i64 (ML k p r),st):=by
 have dc:Wf (ah st (.cells k.cells 0)):=bK hw;have nI:=bK (b:= .cells p.cells 0) dc;have hg3:=Grew.ah nI (.cells r.cells 0);have yP:=Grew.ah dc (.cells p.cells 0);have hg:=((Grew.ah hw (.cells k.cells 0)).trans yP).trans hg3;have UF:=hg.wf;have p1:=hg3.get (yP.get (aD st (.cells k.cells 0)));have p2:=hg3.get (aD (ah st (.cells k.cells 0)) (.cells p.cells 0));have p3:=aD (ah (ah st (.cells k.cells 0)) (.cells p.cells 0)) (.cells r.cells 0);have A:=λs=>aeE hc p hp s _ UF
 have B:=acp hc k r _ UF;have D:=adH hc p.tz p.ts hp.ok (by have:=hp.ts;unfold nU;omega) r.t _ UF;have N:=Uj hc r.a (ah (ah (ah st (.cells k.cells 0)) (.cells p.cells 0)) (.cells r.cells 0));rw[HR hc 1 (r:=(.int .i64 (ML k p r),ah (ah (ah st (.cells k.cells 0)) (.cells p.cells 0)) (.cells r.cells 0))),aG (Plain.int _ _) hg.keeps];rw[Kw];simp only[pT,aC,AV.cells];generalize ah (ah (ah st (.cells k.cells 0)) (.cells p.cells 0)) (.cells r.cells 0)=s at*
 generalize (ah (ah st (.cells k.cells 0)) (.cells p.cells 0)).next=q3 at*
 generalize (ah st (.cells k.cells 0)).next=q2 at*
 generalize st.next=q1 at*
 refine u6 (P:=λj=>j [.ptr q1 0,.ptr q2 0,.ptr q3 0] s=some (.int .i64 (OH k p r),s)) ?_ ?_
 . have D2  : c 172 [tabs p.tz p.ts,.str r.t] s=some (.tuple [.int .i64 (if 0<=ti p r.t then ti p r.t else 0),.bool (decide (0<=ti p r.t))],s):=(by simp only[hv,Zm2]at D;exact D);have Ql:=xZ (P:=nW p.ts r.t) p.ts.length 0;clear D A B N hg yP hg3 hw dc nI;unfold OH;by_cases ht:0<=ti p r.t
   . have Jz  : ¬ ti p r.t<0:=(by omega);obtain⟨i,hi⟩:∃i:Nat,ti p r.t=(i:Int):=⟨(ti p r.t).toNat,by omega⟩
     have jX:i<p.ts.length:=(by have:=(Ql ht).2.1;unfold ti at hi;rw[hi]at this;simpa using this);simp only[ht,Zg5,Zg2]at D2;by_cases h1:k.t=116
     .  simp[ p1,p2,p3,D2,h1,Jz];refine u6 (P:=λj=>∀m,j [.ptr q1 0,.ptr q3 0,.int .i64 m] s=some (.int .i64 (wK k r m),s)) ?_ ?_
        . intro m;unfold wK;cases hn:k.n with
          |false=>simp[p1,hn]
          | true=>
            by_cases e1:r.n<k.lo
            .simp[p1,p3,hn,e1]
            . by_cases e2:m<r.n
              .simp[p1,p3,hn,e1,e2]
              .simp[p1,p3,hn,e1,e2]
        . intro j hj;cases hs:k.yb with
          |false=>simp[p1,hs,hj]
          | true=>
            have w:aq .i64 ((i:Int)+1)=(i:Int)+1:=(by have:=hp.ts;exact wrap64 (by omega) (by omega));have cnt:=ya hc false [p.ts[i]] (λt ht=>by simp only[Zc3]at ht;subst ht;exact hp.ok _ (Zc6 jX)) s UF;rw[Za7 (C8 (C7 hv i jX)),show bF [p.ts[i]]=eD p.ts[i]by simp[bF]]at cnt;have b:=EO p.ts[i];have w2:aq .i64 (eD p.ts[i] - 1)=eD p.ts[i] - 1:=wrap64 (by omega) (by omega);have hcut:∀K:AV->St->Option (AV×St),ak c (.sliceL 7 true true false) [tabs p.tz p.ts,.int .i64 (i:Int),.int .i64 ((i:Int)+1)] s K=K (tabs false [p.ts[i]]) s:=λK=>by
              (unfold tabs;have:=GK c K s 7 p.tz (p.ts.map aU.cells) .i64 .i64 i (i+1) (by omega) (by rw[Za9];omega);rw[show((i:Int)+1)=((i+1:Nat):Int)by omega,this];have e:((p.ts.map aU.cells).take (i+1)).drop i=[p.ts[i]].map aU.cells:=by rw[Zc4 (by simpa using jX),Zg3 (by simp;omega)];simp);rw[e]
            have e3:s9 p (i:Int)=eD p.ts[i]:=(by simp[s9,jX]);simp[p1,p2,hs,hi,e3,w,hcut,cnt,hj,w2]
     .  by_cases h2 :k.t=101
        . by_cases h3:r.t=[]
          . simp only[h3]at D2 Jz hi;simp[p1,p2,p3,D2,h1,h2,h3,Jz];refine u6 (P:=λj=>∀m,j [.ptr q1 0,.ptr q3 0,.int .i64 m] s=some (.int .i64 (wK k r m),s)) ?_ ?_
            . intro m;unfold wK;cases hn:k.n with
              |false=>simp[p1,hn]
              | true=>
                by_cases e1:r.n<k.lo
                .simp[p1,p3,hn,e1]
                . by_cases e2:m<r.n
                  .simp[p1,p3,hn,e1,e2]
                  .simp[p1,p3,hn,e1,e2]
            . intro j hj;cases hs:k.yb with
              |false=>simp[p1,hs,hj]
              | true=>
                have w:aq .i64 ((i:Int)+1)=(i:Int)+1:=(by have:=hp.ts;exact wrap64 (by omega) (by omega));have cnt:=ya hc false [p.ts[i]] (λt ht=>by simp only[Zc3]at ht;subst ht;exact hp.ok _ (Zc6 jX)) s UF;rw[Za7 (C8 (C7 hv i jX)),show bF [p.ts[i]]=eD p.ts[i]by simp[bF]]at cnt;have b:=EO p.ts[i];have w2:aq .i64 (eD p.ts[i] - 1)=eD p.ts[i] - 1:=wrap64 (by omega) (by omega);have hcut:∀K:AV->St->Option (AV×St),ak c (.sliceL 7 true true false) [tabs p.tz p.ts,.int .i64 (i:Int),.int .i64 ((i:Int)+1)] s K=K (tabs false [p.ts[i]]) s:=λK=>by
                  (unfold tabs;have:=GK c K s 7 p.tz (p.ts.map aU.cells) .i64 .i64 i (i+1) (by omega) (by rw[Za9];omega);rw[show((i:Int)+1)=((i+1:Nat):Int)by omega,this];have e:((p.ts.map aU.cells).take (i+1)).drop i=[p.ts[i]].map aU.cells:=by rw[Zc4 (by simpa using jX),Zg3 (by simp;omega)];simp);rw[e]
                have e3:s9 p (i:Int)=eD p.ts[i]:=(by simp[s9,jX]);simp[p1,p2,hs,hi,e3,w,hcut,cnt,hj,w2]
          . simp[ p1,p2,p3,D2,h1,h2,h3,Jz];refine u6 (P:=λj=>∀m,j [.ptr q1 0,.ptr q3 0,.int .i64 m] s=some (.int .i64 (wK k r m),s)) ?_ ?_
            . intro m;unfold wK;cases hn:k.n with
              |false=>simp[p1,hn]
              | true=>
                by_cases e1:r.n<k.lo
                .simp[p1,p3,hn,e1]
                . by_cases e2:m<r.n
                  .simp[p1,p3,hn,e1,e2]
                  .simp[p1,p3,hn,e1,e2]
            . intro j hj;cases hs:k.yb with
              |false=>simp[p1,hs,hj]
              | true=>
                have w:aq .i64 ((i:Int)+1)=(i:Int)+1:=(by have:=hp.ts;exact wrap64 (by omega) (by omega));have cnt:=ya hc false [p.ts[i]] (λt ht=>by simp only[Zc3]at ht;subst ht;exact hp.ok _ (Zc6 jX)) s UF;rw[Za7 (C8 (C7 hv i jX)),show bF [p.ts[i]]=eD p.ts[i]by simp[bF]]at cnt;have b:=EO p.ts[i];have w2:aq .i64 (eD p.ts[i] - 1)=eD p.ts[i] - 1:=wrap64 (by omega) (by omega);have hcut:∀K:AV->St->Option (AV×St),ak c (.sliceL 7 true true false) [tabs p.tz p.ts,.int .i64 (i:Int),.int .i64 ((i:Int)+1)] s K=K (tabs false [p.ts[i]]) s:=λK=>by
                  (unfold tabs;have:=GK c K s 7 p.tz (p.ts.map aU.cells) .i64 .i64 i (i+1) (by omega) (by rw[Za9];omega);rw[show((i:Int)+1)=((i+1:Nat):Int)by omega,this];have e:((p.ts.map aU.cells).take (i+1)).drop i=[p.ts[i]].map aU.cells:=by rw[Zc4 (by simpa using jX),Zg3 (by simp;omega)];simp);rw[e]
                have e3:s9 p (i:Int)=eD p.ts[i]:=(by simp[s9,jX]);simp[p1,p2,hs,hi,e3,w,hcut,cnt,hj,w2]
        . simp[ p1,p2,p3,D2,h1,h2,Jz];refine u6 (P:=λj=>∀m,j [.ptr q1 0,.ptr q3 0,.int .i64 m] s=some (.int .i64 (wK k r m),s)) ?_ ?_
          . intro m;unfold wK;cases hn:k.n with
            |false=>simp[p1,hn]
            | true=>
              by_cases e1:r.n<k.lo
              .simp[p1,p3,hn,e1]
              . by_cases e2:m<r.n
                .simp[p1,p3,hn,e1,e2]
                .simp[p1,p3,hn,e1,e2]
          . intro j hj;cases hs:k.yb with
            |false=>simp[p1,hs,hj]
            | true=>
              have w:aq .i64 ((i:Int)+1)=(i:Int)+1:=(by have:=hp.ts;exact wrap64 (by omega) (by omega));have cnt:=ya hc false [p.ts[i]] (λt ht=>by simp only[Zc3]at ht;subst ht;exact hp.ok _ (Zc6 jX)) s UF;rw[Za7 (C8 (C7 hv i jX)),show bF [p.ts[i]]=eD p.ts[i]by simp[bF]]at cnt;have b:=EO p.ts[i];have w2:aq .i64 (eD p.ts[i] - 1)=eD p.ts[i] - 1:=wrap64 (by omega) (by omega);have hcut:∀K:AV->St->Option (AV×St),ak c (.sliceL 7 true true false) [tabs p.tz p.ts,.int .i64 (i:Int),.int .i64 ((i:Int)+1)] s K=K (tabs false [p.ts[i]]) s:=λK=>by
                (unfold tabs;have:=GK c K s 7 p.tz (p.ts.map aU.cells) .i64 .i64 i (i+1) (by omega) (by rw[Za9];omega);rw[show((i:Int)+1)=((i+1:Nat):Int)by omega,this];have e:((p.ts.map aU.cells).take (i+1)).drop i=[p.ts[i]].map aU.cells:=by rw[Zc4 (by simpa using jX),Zg3 (by simp;omega)];simp);rw[e]
              have e3:s9 p (i:Int)=eD p.ts[i]:=(by simp[s9,jX]);simp[p1,p2,hs,hi,e3,w,hcut,cnt,hj,w2]
   . have Jz  : ti p r.t<0:=(by omega);simp only[ht,Zf9,decide_false]at D2;by_cases h1:k.t=116
     .  simp[p1,p2,p3,D2,h1,Jz]
     .  by_cases h2:k.t=101
        . by_cases h3:r.t=[]
          . simp only[h3]at D2 Jz;simp[p1,p2,p3,D2,h1,h2,h3,Jz];refine u6 (P:=λj=>∀m,j [.ptr q1 0,.ptr q3 0,.int .i64 m] s=some (.int .i64 (wK k r m),s)) ?_ ?_
            . intro m;unfold wK;cases hn:k.n with
              |false=>simp[p1,hn]
              | true=>
                by_cases e1:r.n<k.lo
                .simp[p1,p3,hn,e1]
                . by_cases e2:m<r.n
                  .simp[p1,p3,hn,e1,e2]
                  .simp[p1,p3,hn,e1,e2]
            . intro j hj;have hs:k.yb=false:=by
                cases h:k.yb with
                |false=>rfl
                |true=>exact absurd (hk h) h1
              simp[p1,hs,hj]
          .simp[p1,p2,p3,D2,h1,h2,h3,Jz]
        . simp[ p1,p2,p3,D2,h1,h2,Jz];refine u6 (P:=λj=>∀m,j [.ptr q1 0,.ptr q3 0,.int .i64 m] s=some (.int .i64 (wK k r m),s)) ?_ ?_
          . intro m;unfold wK;cases hn:k.n with
            |false=>simp[p1,hn]
            | true=>
              by_cases e1:r.n<k.lo
              .simp[p1,p3,hn,e1]
              . by_cases e2:m<r.n
                .simp[p1,p3,hn,e1,e2]
                .simp[p1,p3,hn,e1,e2]
          . intro j hj;have hs:k.yb=false:=by
              cases h:k.yb with
              |false=>rfl
              |true=>exact absurd (hk h) h1
            simp[p1,hs,hj]
 . intro  j hj;have A2:∀nm,c 170 [.agg p.cells,.str nm] s=some (.int .i64 (gi p nm),s):=A;have cc:cut r.cells 0 6=some r.cells:=bV rfl;clear A D hg yP hg3 hw dc nI;unfold ML;by_cases h0:k.w=[]
   .simp[p1,h0]
   by_cases h1:r.wt<0
   .simp[p1,p3,h0,h1]
   by_cases h2:1000<r.wt
   .simp[p1,p3,h0,h1,h2]
   cases h3:EW k r with
   |false=>simp[p1,p3,h0,h1,h2,B,h3]
   |true=>
   simp[p1,p3,h0,h1,h2,B,h3];refine u6 (P:=λj'=>∀b:Bool,j' [.ptr q1 0,.ptr q2 0,.ptr q3 0,.bool b] s=some (.int .i64 (if b=true then 6 else UE k p r),s)) ?_ ?_
   . intro  b;cases b with
     |true=>simp
     |  false =>
        unfold UE;by_cases a1:k.a=100
        . cases a2:eP r.a with
          |false=>simp[p1,p3,a1,a2,N]
          | true=>
            cases b1:k.b with
            |false=>simp[p1,p3,a1,a2,N,b1,hj]
            | true=>
              by_cases b2:r.a=r.b
              .rw[b2]at a2 N;simp[p1,p3,a1,a2,N,b1,b2]
              .simp[p1,p3,a1,a2,N,b1,b2,hj]
        . cases b1:k.b with
          |false=>simp[p1,p3,a1,b1,hj]
          | true=>
            by_cases b2:r.a=r.b
            .simp[p1,p3,a1,b1,b2]
            .simp[p1,p3,a1,b1,b2,hj]
   . intro  j' yG;have K6:=yG true;have K0:=yG false;simp only[Zg5,Zf1,Zf9]at K6 K0;clear yG hj;by_cases a1:k.a=103
     .  by_cases g1:gi p r.a<0
        .simp[p1,p2,p3,a1,A2,g1,K6]
        . cases b1:k.b with
          |false=>simp[p1,p2,p3,a1,A2,g1,b1,K0]
          | true=>
            by_cases g2:gi p r.b<0
            .simp[p1,p2,p3,a1,A2,g1,g2,b1,K6]
            .simp[p1,p2,p3,a1,A2,g1,g2,b1,K0]
     .  by_cases a2:k.a=101
        . by_cases e:r.a=[]
          . cases b1:k.b with
            |false=>simp[p1,p2,p3,a1,a2,e,A2,b1,K0]
            | true=>
              by_cases g2:gi p r.b<0
              .simp[p1,p2,p3,a1,a2,e,A2,g2,b1,K6]
              .simp[p1,p2,p3,a1,a2,e,A2,g2,b1,K0]
          . by_cases g1:gi p r.a<0
            .simp[p1,p2,p3,a1,a2,e,A2,g1,K6]
            . cases b1:k.b with
              |false=>simp[p1,p2,p3,a1,a2,e,A2,g1,b1,K0]
              | true=>
                by_cases g2:gi p r.b<0
                .simp[p1,p2,p3,a1,a2,e,A2,g1,g2,b1,K6]
                .simp[p1,p2,p3,a1,a2,e,A2,g1,g2,b1,K0]
        . cases b1:k.b with
          |false=>simp[p1,p2,p3,a1,a2,A2,b1,K0]
          | true=>
            by_cases g2:gi p r.b<0
            .simp[p1,p2,p3,a1,a2,A2,g2,b1,K6]
            .simp[p1,p2,p3,a1,a2,A2,g2,b1,K0]
def kd:Nat->Kd
 |1=>⟨[97,112,97,114,116],103,true,0,true,0,false,.func 151 [] []⟩
 |2=>⟨[98,101,115,105,100,101],103,true,0,false,0,false,.func 152 [] []⟩
 |3=>⟨[97,99,114,111,115,115],103,true,0,false,0,false,.func 153 [] []⟩
 |4=>⟨[110,101,97,114],103,true,0,true,1,false,.func 154 [] []⟩
 |5=>⟨[116,111,103,101,116,104,101,114],103,true,0,false,0,false,.func 155 [] []⟩
 |6=>⟨[97,116],103,false,116,false,0,false,.func 156 [] []⟩
 |7=>⟨[115,101,97,116],103,false,116,true,0,true,.func 157 [] []⟩
 |8=>⟨[97,108,116,101,114,110,97,116,101],0,false,101,false,0,false,.func 158 [] []⟩
 |9=>⟨[104,111,115,116],0,false,101,false,0,false,.func 159 [] []⟩
 |10=>⟨[114,101,97,99,104],101,false,0,false,0,false,.func 160 [] []⟩
 |11=>⟨[115,112,101,97,107],0,false,101,false,0,false,.func 161 [] []⟩
 |12=>⟨[112,101,97,99,101],0,false,101,false,0,false,.func 162 [] []⟩
 |13=>⟨[99,111,109,112,97,110,121],0,false,101,false,0,false,.func 163 [] []⟩
 |14=>⟨[104,111,110,111,117,114],0,false,101,false,0,false,.func 164 [] []⟩
 |15=>⟨[102,105,108,108],0,false,101,true,0,false,.func 165 [] []⟩
 |16=>⟨[108,105,109,105,116],0,false,101,true,0,false,.func 166 [] []⟩
 |17=>⟨[107,105,116,99,104,101,110],100,false,116,false,0,false,.func 167 [] []⟩
 |18=>⟨[109,105,120],0,false,101,false,0,false,.func 168 [] []⟩
 |_=>⟨[],0,false,0,false,0,false,.jk⟩
def Rb:List (AV×AV×Nat):=[(.int .u8 1,.agg (kd 1).cells,0),(.int .u8 2,.agg (kd 2).cells,1),(.int .u8 3,.agg (kd 3).cells,2),(.int .u8 4,.agg (kd 4).cells,3),(.int .u8 5,.agg (kd 5).cells,4),(.int .u8 6,.agg (kd 6).cells,5),(.int .u8 7,.agg (kd 7).cells,6),(.int .u8 8,.agg (kd 8).cells,7),(.int .u8 9,.agg (kd 9).cells,8),(.int .u8 10,.agg (kd 10).cells,9),(.int .u8 11,.agg (kd 11).cells,10),(.int .u8 12,.agg (kd 12).cells,11),(.int .u8 13,.agg (kd 13).cells,12),(.int .u8 14,.agg (kd 14).cells,13),(.int .u8 15,.agg (kd 15).cells,14),(.int .u8 16,.agg (kd 16).cells,15),(.int .u8 17,.agg (kd 17).cells,16),(.int .u8 18,.agg (kd 18).cells,17)]
theorem RO(p:Pos):¬Plain (.map p):=λh=>by have:=h (λ_=>(⟨0,0,0⟩:Go.Ai.Loc)) (λ_=>⟨1,0,0⟩) (p.toNat+1) (p.toNat+1) (λ_=>none) _ (.map p (Nat.lt_succ_self _));cases this
theorem acq(st:St)(p:Pos)(s':St):tidy st (.map p,s')=(.map p,s'):=by unfold tidy;rw[Za5];exact λe=>RO p e.1
theorem cW{R:Type}(c:ai)(K:AV->St->Option R)(st:St)(z:List AV)(ps:List (Nat×Nat))(xs l:List AV)(h:cj z ps xs=some l):ak c (.build z ps) xs st K=K (.agg l) st:=by rw[iw,h];rfl
theorem cX{R:Type}(c:ai)(K:AV->St->Option R)(st:St)(es:List (AV×AV×Nat))(cl:Nat)(k:IntKind)(x:Int)(v:AV)(hf:jr .i (.int k x) es 0=some none):
  ak c (.mapSet .i) [.map st.next,.int k x,v] (ah st (.map es cl)) K=K .undef (ah st (.map (es++[(.int k x,v,cl)]) (cl+1))):=by
 have:av.run (λb=>(ah st (.map es cl)).heap.get b) (ah st (.map es cl)).next (.mapSet .i) [.map st.next,.int k x,v]=some (.aH .undef none (some (st.next,.map (es++[(.int k x,v,cl)]) (cl+1))) none):=by
  simp[av.run,uH,hf,Xm]
 unfold ak bS;rw[this];show K .undef (b9 (ah st (.map es cl)) st.next _)=_;rw[Pa]
theorem acr(hc:Sem c)(s:St):c 120 [] s=some (.map s.next,ah s (.map Rb 18)):=by
 rw[Pz hc 1 (r:=(.map s.next,ah s (.map Rb 18))),acq];rw[T9];rw[aC,Z3];rw[cW (l:=(kd 1).cells) (h:=rfl),cX (hf:=rfl)];rw[cW (l:=(kd 2).cells) (h:=rfl),cX (hf:=rfl)];rw[cW (l:=(kd 3).cells) (h:=rfl),cX (hf:=rfl)];rw[cW (l:=(kd 4).cells) (h:=rfl),cX (hf:=rfl)];rw[cW (l:=(kd 5).cells) (h:=rfl),cX (hf:=rfl)];rw[cW (l:=(kd 6).cells) (h:=rfl),cX (hf:=rfl)];rw[cW (l:=(kd 7).cells) (h:=rfl),cX (hf:=rfl)];rw[cW (l:=(kd 8).cells) (h:=rfl),cX (hf:=rfl)];rw[cW (l:=(kd 9).cells) (h:=rfl),cX (hf:=rfl)];rw[cW (l:=(kd 10).cells) (h:=rfl),cX (hf:=rfl)];rw[cW (l:=(kd 11).cells) (h:=rfl),cX (hf:=rfl)];rw[cW (l:=(kd 12).cells) (h:=rfl),cX (hf:=rfl)];rw[cW (l:=(kd 13).cells) (h:=rfl),cX (hf:=rfl)];rw[cW (l:=(kd 14).cells) (h:=rfl),cX (hf:=rfl)];rw[cW (l:=(kd 15).cells) (h:=rfl),cX (hf:=rfl)];rw[cW (l:=(kd 16).cells) (h:=rfl),cX (hf:=rfl)];rw[cW (l:=(kd 17).cells) (h:=rfl),cX (hf:=rfl)];rw[cW (l:=(kd 18).cells) (h:=rfl),cX (hf:=rfl)];rw[aC,aC]
 .rfl
theorem adR{R:Type}(c:ai)(K:AV->St->Option R)(st:St)(m:Pos)(cl:Nat)(h:st.heap.get m=some (.map Rb cl))(n:Nat):
   ak c (.lookup .i (.agg [.str [],.int .u8 0,.bool false,.int .u8 0,.bool false,.int .i64 0,.bool false,.jk]) false) [.map m,.int .u8 (n:Int)] st K=K (.agg (kd n).cells) st:=by
 have e:jr .i (.int .u8 (n:Int)) Rb 0=some (if 1<=n/\n<=18 then some (n - 1,.agg (kd n).cells)else none):=by
   by_cases h:n<=18
   .have:n=0\/n=1\/n=2\/n=3\/n=4\/n=5\/n=6\/n=7\/n=8\/n=9\/n=10\/n=11\/n=12\/n=13\/n=14\/n=15\/n=16\/n=17\/n=18:=(by omega);rcases this with rfl|rfl|rfl|rfl|rfl|rfl|rfl|rfl|rfl|rfl|rfl|rfl|rfl|rfl|rfl|rfl|rfl|rfl|rfl<;>rfl
   . have Lw:∀j:Int,j<=18->tY (n:Int) j=false:=λj hj=>by rw[j7];simp;omega
     rw[Za5 (by omega)];simp[Rb,jr,xL,Lw,cH]
 have:∀z:AV,av.run (λb=>st.heap.get b) st.next (.lookup .i z false) [.map m,.int .u8 (n:Int)]=some (.val (if 1<=n/\n<=18 then .agg (kd n).cells else z)):=λz=>by
   simp only[av.run,uG,h,e];by_cases h1:1<=n/\n<=18
   .rw[Za7 h1,Za7 h1]
   .rw[Za5 h1,Za5 h1]
 unfold ak bS;rw[this];by_cases h1:1<=n/\n<=18
 .rw[Za7 h1]
 .rw[Za5 h1];have:kd n=⟨[],0,false,0,false,0,false,.jk⟩:=(by unfold kd;split<;>first|rfl|omega);rw[this];rfl
theorem adS(n:Nat):(kd n).yb=true->(kd n).t=116:=by unfold kd;split<;>simp
def Rl.Ok(r:Rl):Prop:=0<=r.k/\r.k<256
def rX(p:bZ)(r:Rl):Int:=ML (kd r.k.toNat) p r
def j3(p:bZ):Nat->Nat->Int×Int
 |0,_=>(0,0)
 |  m+1,i=>match p.rs[i]? with
    |none=>(0,0)
    |some r=>if rX p r≠0 then((i:Int),rX p r)else if i=64 then((i:Int),7)else j3 p m (i+1)
theorem Lz(p:bZ):∀(m i:Nat),(j3 p m i).2=0->(j3 p m i).1=0
 |0,_,_=>rfl
 |m+    1,i,h=>by
  rw[j3]at h ⊢;cases h0:p.rs[i]? with
  |none=>rfl
  |some r=>
   rw[h0]at h;simp only at h ⊢;by_cases h1:rX p r=0
   .    rw[Za5 (by simp[h1])]at h ⊢;by_cases h2:i=64
        .rw[Za7 h2]at h;simp at h
        .rw[Za5 h2]at h ⊢; exact Lz p m (i+1) h
   .    rw[Za7 h1]at h;exact absurd h h1
def ff(p:bZ):Int×Int:=if(iR p).2≠0 then iR p else j3 p 100 0
theorem Yk(hc:Sem c)(p:bZ)(hp:p.Ad)(hr:∀r∈p.rs,r.Ok)(hv:(bH p.ts).2=0)(q1 mp:Pos)(cl:Nat)(F:Nat)(k1 k2):∀(m k:Nat)(st:St),Wf st->st.heap.get q1=some (.cells p.cells 0)->st.heap.get mp=some (.map Rb cl)->p.rs.length<=k+m->k<=p.rs.length->
  ∃st',Grew st st'/\pJ c F k1 k2 (m+1) [.ptr q1 0,.map mp,ET p.rz p.rs,.int .i64 (p.rs.length:Int),.int .i64 (k:Int)] st=if(j3 p m k).2=0 then k2 [] st' else k1 [.int .i64 (j3 p m k).1,.int .i64 (j3 p m k).2] st':=by
 have hl:=hp.rs;intro m;induction m with
 |zero=>
  intro k st hw h1 h2 h3 h4;obtain rfl:k=p.rs.length:=by omega
  refine⟨st,Grew.refl hw,?_⟩;rw[vX];simp[j3]
 |succ m ih=>
  intro k st hw hq hm h3 h4;by_cases h:k<p.rs.length
  . have w:aq .i64 ((k:Int)+1)=((k+1:Nat):Int):=wrap64 (by omega) (by omega);have dc:Wf (ah st (.cells p.rs[k].cells 0)):=bK hw;have hg:=Grew.ah hw (.cells p.rs[k].cells 0);have hq1:=hg.get hq;have jA:=hg.get hm;have hn:=aD st (.cells p.rs[k].cells 0);obtain⟨n,hk⟩:∃n:Nat,p.rs[k].k=(n:Int):=⟨p.rs[k].k.toNat,by have:=(hr _ (Zc6 h)).1;omega⟩
    have VQ:=aas hc (kd n) (adS n) p hp hv p.rs[k] _ dc;have hS:rX p p.rs[k]=ML (kd n) p p.rs[k]:=(by unfold rX;rw[hk];rfl);have FR:=λ(K:AV->St->Option (AV×St))=>adR c K _ mp cl jA n
    have kf:=λ(K:AV->St->Option (AV×St))=>dK c K st 6 (.agg p.rs[k].cells) [.int .u8 0,.int .i64 0,.str [],.str [],.str [],.int .i64 0] rfl rfl (Rl.one _)
    rw[show(AV.agg p.rs[k].cells).cells=p.rs[k].cells from rfl]at kf;rw[<-hS]at VQ;rw[<-hk]at FR;obtain⟨st',g1,g2⟩:=ih (k+1) _ dc hq1 jA (by omega) (by omega);rw[vX,j3,H5 h];simp only;by_cases h5:rX p p.rs[k]=0
    .   rw[Za5 (by simp[h5])];by_cases h6:k=64
        .refine⟨_,hg,?_⟩;rw[Za7 h6];have h6i:decide ((k:Int)=64)=true:=(by simp only[Zd1];omega);simp[-dK,kf,ET,h,hq1,jA,FR,VQ,h5,h6i]
        .refine⟨st',hg.trans g1,?_⟩;rw[Za5 h6, <-g2];have h6i:¬(k:Int)=64:=(by omega);simp[-dK,kf,ET,h,hq1,jA,FR,VQ,h5,h6i,w]
    .   refine⟨_,hg,?_⟩;rw[Za7 h5];simp[-dK,kf,ET,h,hq1,jA,FR,VQ,h5]
  .obtain rfl:k=p.rs.length:=(by omega);refine⟨st,Grew.refl hw,?_⟩;rw[vX];simp[j3]
theorem LA{p:bZ}(h:(iR p).2=0):(bH p.ts).2=0:=by
 unfold iR at h;by_cases h1:(bH p.ts).2=0
 .exact h1
 .rw[Za7 h1]at h;exact absurd h h1
theorem RP(hc:Sem c)(p:bZ)(hp:p.Ad)(hR:UB c p)(hr:∀r∈p.rs,r.Ok)(st:St)(hw:Wf st):c 77 [.agg p.cells] st=some (.tuple [.int .i64 (ff p).1,.int .i64 (ff p).2],st):=by
 have pE:Plain (.tuple [.int .i64 (ff p).1,.int .i64 (ff p).2]):=Plain.tuple (by simp[Plain.int]);have dc:Wf (ah st (.cells p.cells 0)):=bK hw;have Ly:=Grew.ah hw (.cells p.cells 0);have fE:(ah st (.cells p.cells 0)).heap.get st.next=some (.cells p.cells 0):=aD _ _;have B:=acm hc p hp hR _ dc;by_cases h:(iR p).2=0
 . have hv:=LA h;have K:=acr hc (ah st (.cells p.cells 0));have nI:Wf (ah (ah st (.cells p.cells 0)) (.map Rb 18)):=bK dc;have yP:=Grew.ah dc (.map Rb 18);obtain⟨st',g1,g2⟩:=Yk hc p hp hr hv st.next (ah st (.cells p.cells 0)).next 18 101 (λvs s50=>ju vs λx2 vs=>ju vs λx3 vs=>pH vs (
   some (.tuple [x2,x3],s50))) (λvs s51=>pH vs (
   ak c .move [(.int .i64 0)] s51 λx2 s52=>
 ak c .move [(.int .i64 0)] s52 λx3 s53=>
 some (.tuple [x2,x3],s53))) 100 0 _ nI (yP.get fE) (aD _ _) (by have:=hp.rs;omega) (by omega)
   have e:ff p=j3 p 100 0:=(by unfold ff;rw[Za5 (by simp[h])]);have e0:=Vt h;rw[EK hc 101 (r:=(.tuple [.int .i64 (ff p).1,.int .i64 (ff p).2],st')),aG pE ((Ly.trans yP).trans g1).keeps];rw[I6,e];simp at g2;simp[fE,B,h,K,g2];by_cases h2:(j3 p 100 0).2=0
   .have:=Lz p 100 0 h2;simp[h2,this]
   .simp[h2]
 .have e:ff p=iR p:=(by unfold ff;rw[Za7 h]);rw[EK hc 101 (r:=(.tuple [.int .i64 (ff p).1,.int .i64 (ff p).2],ah st (.cells p.cells 0))),aG pE Ly.keeps];rw[I6,e];simp[fE,B,h]
def wl:List AV:=(List.range 19).map λi=>.str (kd i).w
end
section
open Go Go.Ai Go.Proofs
variable{c:ai}
end
section
open Go Go.Ai Go.Proofs
variable{c:ai}
theorem Kt{α β:Type}{P:α->α->Prop}{l l':List α}(hl:l'.length=l.length)(hs:∀(i:Nat)(t t':α),l[i]? =some t->l'[i]? =some t'->P t t')(f:α->β)(hf:∀t t',P t t'->f t'=f t)(i:Nat):l'[i]?.map f=l[i]?.map f:=by
 by_cases h:i<l.length
 .have h':i<l'.length:=(by omega);rw[H5 h,H5 h'];simp only[Ze8,H4];exact hf _ _ (hs i _ _ (H5 h) (H5 h'))
 .rw[Zc0 (by omega),Zc0 (by omega)]
theorem acs{t t':aU}(h:t.fN t'):sY t'=sY t:=by obtain⟨z,rfl⟩:=h;rfl
theorem WW{t t':aU}(h:t.fN t'):eD t'=eD t:=by obtain⟨z,rfl⟩:=h;rfl
theorem aat{t t':aM}(h:t.fN t'):eM t'=eM t:=by obtain⟨z,rfl⟩:=h;rfl
variable{p p':bZ}
theorem bZ.fN.nm(h:p.fN p')(s:List Nat):nW p'.ts s=nW p.ts s:=funext λi=>by
 unfold nW;rw[Kt h.tl h.ts aU.name (λt t' k=>by obtain⟨z,rfl⟩:=k;rfl)]
theorem bZ.fN.gm(h:p.fN p')(s:List Nat):fy p'.gs s=fy p.gs s:=funext λi=>by
 unfold fy;rw[Kt h.gl h.gs aM.name (λt t' k=>by obtain⟨z,rfl⟩:=k;rfl)]
theorem bZ.fN.at(h:p.fN p'):∀(m k:Nat),gj p'.ts m k=gj p.ts m k
 |0,_=>rfl
 |m +1,k=>by
  have ih:=h.at m (k+1);unfold gj;by_cases hk:k<p.ts.length
  .have kA:k<p'.ts.length:=(by rw[h.tl];exact hk);have hs:=h.ts k _ _ (H5 hk) (H5 kA);have hn:p'.ts[k].name=p.ts[k].name:=(by obtain⟨z,e⟩:=hs;rw[e]);rw[H5 hk,H5 kA];simp only[acs hs,hn,h.nm,ih]
  .have kA:¬k<p'.ts.length:=(by rw[h.tl];exact hk);rw[Zc0 (by omega),Zc0 (by omega)]
theorem bZ.fN.u5(h:p.fN p'):bH p'.ts=bH p.ts:=by unfold bH;rw[h.tl,h.at]
theorem bZ.fN.gsAt(h:p.fN p'):∀(m k:Nat),gq p'.gs m k=gq p.gs m k
 |0,_=>rfl
 |m +1,k=>by
  have ih:=h.gsAt m (k+1);unfold gq;by_cases hk:k<p.gs.length
  .have kA:k<p'.gs.length:=(by rw[h.gl];exact hk);have hs:=h.gs k _ _ (H5 hk) (H5 kA);have hn:p'.gs[k].name=p.gs[k].name:=(by obtain⟨z,e⟩:=hs;rw[e]);rw[H5 hk,H5 kA];simp only[aat hs,hn,h.gm,ih]
  .have kA:¬k<p'.gs.length:=(by rw[h.gl];exact hk);rw[Zc0 (by omega),Zc0 (by omega)]
theorem bZ.fN.unk(h:p.fN p')(t:Ty):iW p'.gs t=iW p.gs t:=by unfold iW;rw[h.gm,h.gm,h.gl]
theorem bZ.fN.tyAt(h:p.fN p')(ts:List Ty):∀(m k:Nat),ej p'.gs ts m k=ej p.gs ts m k
 |0,_=>rfl
 |m+1,k=>by
  have ih:=h.tyAt ts m (k+1);unfold ej;cases ts[k]? with
  |none=>rfl
  |some t=>simp only[h.gl,h.unk,ih]
theorem bZ.fN.roll(h:p.fN p'):bG p'.gs p'.ys=bG p.gs p.ys:=by unfold bG;rw[h.ys,h.gsAt,h.tyAt]
theorem bZ.fN.sum(h:p.fN p'):bF p'.ts=bF p.ts:=by
 unfold bF;congr 1;refine Zi3 λi=> ?_
 rw[Zc1,Zc1];exact Kt h.tl h.ts eD (λt t' k=>WW k) i
theorem bZ.fN.basis(h:p.fN p'):iR p'=iR p:=by unfold iR;rw[h.u5,h.roll,h.cs,h.gl,h.sum]
theorem bZ.fN.gi(h:p.fN p')(s:List Nat):Go.Proofs.YtlkadmkojjceiaaGreatDoor.gi p' s=Go.Proofs.YtlkadmkojjceiaaGreatDoor.gi p s:=by unfold Go.Proofs.YtlkadmkojjceiaaGreatDoor.gi;rw[h.gm,h.gl]
theorem bZ.fN.ti(h:p.fN p')(s:List Nat):Go.Proofs.YtlkadmkojjceiaaGreatDoor.ti p' s=Go.Proofs.YtlkadmkojjceiaaGreatDoor.ti p s:=by unfold Go.Proofs.YtlkadmkojjceiaaGreatDoor.ti;rw[h.nm,h.tl]
theorem bZ.fN.s9(h:p.fN p')(i:Int):Go.Proofs.YtlkadmkojjceiaaGreatDoor.s9 p' i=Go.Proofs.YtlkadmkojjceiaaGreatDoor.s9 p i:=by
 unfold Go.Proofs.YtlkadmkojjceiaaGreatDoor.s9;have:=Kt h.tl h.ts eD (λt t' k=>WW k) i.toNat;cases h1:p.ts[i.toNat]? with
 |none=>rw[h1]at this;cases h2:p'.ts[i.toNat]? with
  |none=>rfl
  |some t=>rw[h2]at this;cases this
 |some t=>rw[h1]at this;cases h2:p'.ts[i.toNat]? with
  |none=>rw[h2]at this;cases this
  |some t'=>rw[h2]at this;simp only[Ze8,H4]at this;simp only[this]
theorem bZ.fN.rule(h:p.fN p')(r:Rl):rX p' r=rX p r:=by
 unfold rX ML UE OH;simp only[h.gi,h.ti,h.s9]
theorem bZ.fN.ET(h:p.fN p'):∀(m k:Nat),j3 p' m k=j3 p m k
 |0,_=>rfl
 |m+1,k=>by
  have ih:=h.ET m (k+1);unfold j3;rw[h.rs];cases p.rs[k]? with
  |none=>rfl
  |some r=>simp only[h.rule,ih]
theorem bZ.fN.check(h:p.fN p'):ff p'=ff p:=by unfold ff;rw[h.basis,h.ET]
end
section
open Go Go.Ai Go.Proofs
theorem yQ{Q:List AV->Prop}{Qs:List (List AV->Prop)}{ps:List (List AV)}(h:Gb (Q::Qs) ps):∃p qs,ps=p::qs/\Q p/\Gb Qs qs:=by
 cases ps with
 |nil=>exact h.elim
 |cons p qs=>exact⟨p,qs,rfl,h⟩
theorem TE{ps:List (List AV)}(h:Gb [] ps):ps=[]:=by
 cases ps with
 |nil=>rfl
 |cons p qs=>exact h.elim
section
variable{H:Type}{enc:TypeId×Value->H}{w:World}{base:Nat}{spare:Nat->Bool}{held:Bool}
end
variable{c:ai}
section
variable{p p':bZ}
theorem bZ.fN.tab(h:p.fN p'){t':aU}(ht:t'∈p'.ts):∃t∈p.ts,t.fN t':=by
 obtain⟨i,hi,rfl⟩:=Zl5.1 ht;have QU:i<p.ts.length:=by rw[<-h.tl];exact hi
 exact⟨p.ts[i],Zc6 QU,h.ts i _ _ (H5 QU) (H5 hi)⟩
theorem bZ.fN.u7(h:p.fN p')(hp:p.Ad):p'.Ad where
 ts:=by rw[h.tl];exact hp.ts
 gs:=by rw[h.gl];exact hp.gs
 ys:=by rw[h.ys];exact hp.ys
 cs:=by rw[h.cs];exact hp.cs
 rs:=by rw[h.rs];exact hp.rs
 ok t ht:=by obtain⟨u,hu,z,rfl⟩:=h.tab ht;have:=hp.ok u hu;exact⟨this.1,this.2⟩
end
section
variable{s s1:St}
end
theorem Yl(hc:Sem c)(z z2:Bool)(gs:List aM)(ts:List Ty)(hl:gs.length<=100)(p:Pos)(st:St)(hw:Wf st)(hp:st.heap.get p=some (.cells [cr z gs,eR z2 ts] 0))(F:Nat)(k1 k2):∀(m k:Nat),gs.length<=k+m->k<=gs.length->
  fZ c F k1 k2 (m+1) [.ptr p 0,.int .i64 (k:Int)] st=if(gq gs m k).2=0 then k2 [.ptr p 0] st else k1 [.int .i64 (gq gs m k).1,.int .i64 (gq gs m k).2] st:=by
 intro m;induction m with
 |zero=>
  intro k h1 h2;obtain rfl:k=gs.length:=by omega
  rw[oh];simp[gq,hp]
 |succ m ih=>
  intro k h1 h2;rw[oh];by_cases h:k<gs.length
  . have w:aq .i64 ((k:Int)+1)=((k+1:Nat):Int):=wrap64 (by omega) (by omega);have hch:=Ur hc gs[k] st hw;have iu:k<=gs.length:=(by omega);have hm:min k gs.length=k:=(by omega);have Lg:=Yc hc (z&&gs.isEmpty) (gs.take k) gs[k].name (by unfold nU;simp;omega) st;rw[show(gs.take k).length=k by simp;omega,Us iu]at Lg;simp only[cr,Zm1]at Lg;rw[gq,H5 h];simp only;by_cases h3:eM gs[k]=0
    .   have e3:¬eM gs[k]≠0:=(by rw[h3];simp);by_cases h4:0<=scan (fy gs gs[k].name) k 0
        .simp only[e3,h4,Zf9,Zg5];simp[cr,hp,h,iu,hch,h3,h4,Lg]
        . by_cases h5:64<=k
          .have h6:(64:Int)<=k:=(by omega);simp only[e3,h4,h5,Zf9,Zg5];simp[cr,hp,h,iu,hch,h3,h4,h6,Lg]
          .have h6:¬(64:Int)<=k:=(by omega);simp only[e3,h4,h5,Zf9];rw[<-ih (k+1) (by omega) (by omega)];simp[cr,hp,h,iu,hch,h3,h4,h6,Lg,w]
    .   simp[cr,hp,h,hch,h3]
  .obtain rfl:k=gs.length:=(by omega);simp[gq,hp]
theorem Ym (hc:Sem c)(z z2:Bool)(gs:List aM)(ts:List Ty)(hl:gs.length<=100)(kZ:ts.length<=100)(p:Pos)(F:Nat)(k1 k4):∀(m k:Nat)(st:St),Wf st->st.heap.get p=some (.cells [cr z gs,eR z2 ts] 0)->ts.length<=k+m->k<=ts.length->
  ∃st',Grew st st'/\fY c F k1 k4 (m+1) [.ptr p 0,.int .i64 (k:Int)] st=if(ej gs ts m k).2=0 then k4 [] st' else k1 [.int .i64 (ej gs ts m k).1,.int .i64 (ej gs ts m k).2] st':=by
 intro m;induction m with
 |zero=>
  intro k st hw hp h1 h2;obtain rfl:k=ts.length:=by omega
  refine⟨st,Grew.refl hw,?_⟩;rw[kC];simp[ej,hp]
 |succ m ih   =>
  intro k st hw hp h1 h2;by_cases h:k<ts.length
  . have w:aq     .i64 ((k:Int)+1)=((k+1:Nat):Int):=wrap64 (by omega) (by omega);have wg:aq .i64 ((gs.length:Int)+(k:Int))=(gs.length:Int)+k:=wrap64 (by omega) (by omega);have dc:Wf (ah st (.cells ts[k].cells 0)):=bK hw;have hg:=Grew.ah hw (.cells ts[k].cells 0);have fE:(ah st (.cells ts[k].cells 0)).heap.get p=some (.cells [cr z gs,eR z2 ts] 0):=hg.get hp;have ha:=Yc hc z gs ts[k].a (by unfold nU;omega) (ah st (.cells ts[k].cells 0));have hb:=Yc hc z gs ts[k].b (by unfold nU;omega) (ah st (.cells ts[k].cells 0));have PU:¬256<=k:=(by omega);have GM:¬(256:Int)<=k:=(by omega);obtain⟨st',g1,g2⟩:=ih (k+1) _ dc fE (by omega) (by omega);have WU:Ac ts[k]=true->(ts[k].k=1\/(¬ts[k].k=1/\ts[k].k=2)):=λq=>by
        simp only[Ac,Zh3,Zd1]at q;by_cases e:ts[k].k=1
        .exact .inl e
        .exact .inr ⟨e,q.resolve_left e⟩
    have hkf:Ac ts[k]=false->(¬ts[k].k=1/\¬ts[k].k=2):=λq=>by simpa [Ac]using q
    rw[kC,ej,H5 h];simp only;by_cases h0:k=0
    .   have hk :¬0<k:=(by omega);have ep:jz ts k=none:=(by simp[jz,h0]);rw[ep];clear h0 ih;simp only[Ks,mO,Bool.or_false,Zf1,Zf9,PU];cases q1:Ac ts[k]
        .obtain⟨f1,f2⟩:=hkf q1;refine⟨_,hg,?_⟩;simp[eR,hp,fE,h,wg,f1,f2]
        . have f:=WU q1;cases q2:ay ts[k].a ts[k].b
          .refine⟨_,hg,?_⟩;rcases f with f|⟨f,f2⟩<;>simp[eR,hp,fE,h,wg,q2, *]
          . cases q3:iW gs ts[k]
            .have q4:=q3;simp only[iW,Zl6,decide_eq_false_iff_not]at q4;obtain⟨n1,n2⟩:=q4;refine⟨st',hg.trans g1,?_⟩;simp only[q1,q2,Zk0,Bool.or_false,Zf1,Zf9];rw[<-g2];rcases f with f|⟨f,f2⟩<;>simp[eR,hp,fE,h,wg,q2,ha,hb,n1,n2,hk,GM,w, *]
            . refine⟨_,hg,?_⟩;by_cases n1:scan (fy gs ts[k].a) gs.length 0<0
              .rcases f with f|⟨f,f2⟩<;>simp[eR,hp,fE,h,wg,q2,ha,hb,n1,hk,GM,w, *]
              .have n2:scan (fy gs ts[k].b) gs.length 0<0:=(by simpa [iW,n1]using q3);rcases f with f|⟨f,f2⟩<;>simp[eR,hp,fE,h,wg,q2,ha,hb,n1,n2,hk,GM,w, *]
    .   have hk : 0<k:=(by omega);have kg:k - 1<ts.length:=(by omega);have wk:aq .i64 ((k:Int) - 1)=((k - 1:Nat):Int):=(by rw[wrap64 (by omega) (by omega)];omega);have ep:jz ts k=some ts[k - 1]:=(by rw[jz,Za5 h0,H5 kg]);have b1:=Q6 hc ts[k] ts[k - 1] (ah st (.cells ts[k].cells 0)) dc;have b2:=Q6 hc ts[k - 1] ts[k] (ah st (.cells ts[k].cells 0)) dc;rw[ep];clear ih;simp only[Ks,mO,PU,Zf9];cases q1:Ac ts[k]
        .obtain⟨f1,f2⟩:=hkf q1;refine⟨_,hg,?_⟩;simp[eR,hp,fE,h,wg,f1,f2]
        . have f:=WU q1;cases q2:ay ts[k].a ts[k].b
          .refine⟨_,hg,?_⟩;rcases f with f|⟨f,f2⟩<;>simp[eR,hp,fE,h,wg,q2, *]
          . cases q5:dO ts[k] ts[k - 1]
            . cases q3:iW gs ts[k]
              . have q4:=q3;simp only[iW,Zl6,decide_eq_false_iff_not]at q4;obtain⟨n1,n2⟩:=q4;cases q6:dO ts[k - 1] ts[k]
                .refine⟨_,hg,?_⟩;rcases f with f|⟨f,f2⟩<;>simp[eR,hp,fE,h,wg,q2,ha,hb,n1,n2,hk,kg,wk,b1,b2,GM,w, *]
                .refine⟨st',hg.trans g1,?_⟩;simp only[q1,q2,q5,Zk0,Zf1,Zf9,Bool.or_false];rw[<-g2];rcases f with f|⟨f,f2⟩<;>simp[eR,hp,fE,h,wg,q2,ha,hb,n1,n2,hk,kg,wk,b1,b2,GM,w, *]
              . refine⟨_,hg,?_⟩;by_cases n1:scan (fy gs ts[k].a) gs.length 0<0
                .rcases f with f|⟨f,f2⟩<;>simp[eR,hp,fE,h,wg,q2,ha,hb,n1,hk,kg,wk,b1,b2,GM,w, *]
                .have n2:scan (fy gs ts[k].b) gs.length 0<0:=(by simpa [iW,n1]using q3);rcases f with f|⟨f,f2⟩<;>simp[eR,hp,fE,h,wg,q2,ha,hb,n1,n2,hk,kg,wk,b1,b2,GM,w, *]
            .refine⟨_,hg,?_⟩;rcases f with f|⟨f,f2⟩<;>simp[eR,hp,fE,h,wg,q2,hk,kg,wk,b1,b2, *]
  .obtain rfl:k=ts.length:=(by omega);refine⟨st,Grew.refl hw,?_⟩;rw[kC];simp[ej,hp]
theorem Yn(hc:Sem c)(z z2:Bool)(gs:List aM)(ts:List Ty)(hl:gs.length<=100)(kZ:ts.length<=100)(st:St)(hw:Wf st):c 137 [.agg [cr z gs,eR z2 ts]] st=some (.tuple [.int .i64 (bG gs ts).1,.int .i64 (bG gs ts).2],st):=by
 have pE:Plain (.tuple [.int .i64 (bG gs ts).1,.int .i64 (bG gs ts).2]):=Plain.tuple (by simp[Plain.int]);have dc:Wf (ah st (.cells [cr z gs,eR z2 ts] 0)):=bK hw;have Ly:=Grew.ah hw (.cells [cr z gs,eR z2 ts] 0);have fE:(ah st (.cells [cr z gs,eR z2 ts] 0)).heap.get st.next=some (.cells [cr z gs,eR z2 ts] 0):=aD _ _;have L0:=λk1 k2=>Yl hc z z2 gs ts hl st.next _ dc fE 102 k1 k2 101 0 (by omega) (by omega)
 by_cases h:(gq gs 101 0).2=0
 . have e:bG gs ts=ej gs ts 101 0:=(by rw[bG,Za5 (by simp[h])]);obtain⟨st',g1,g2⟩:=Ym hc z z2 gs ts hl kZ st.next 102 (λvs s142=>ju vs λx2 vs=>ju vs λx3 vs=>pH vs (some (.tuple [x2,x3],s142))) (λvs s143=>pH vs (
     ak c .move [(.int .i64 0)] s143 λx2 s144=>ak c .move [(.int .i64 0)] s144 λx3 s145=>some (.tuple [x2,x3],s145))) 101 0 _ dc fE (by omega) (by omega)
   rw[pL hc 102 (r:=(.tuple [.int .i64 (bG gs ts).1,.int .i64 (bG gs ts).2],st')),aG pE (Ly.trans g1).keeps];rw[qR,e];simp[h]at L0 g2 ⊢;rw[L0];simp[g2];by_cases h2:(ej gs ts 101 0).2=0
   .have:=Gz gs ts 101 0 h2;simp[h2,this]
   .simp[h2]
 .have e:bG gs ts=gq gs 101 0:=(by rw[bG,Za7 h]);rw[pL hc 102 (r:=(.tuple [.int .i64 (bG gs ts).1,.int .i64 (bG gs ts).2],ah st (.cells [cr z gs,eR z2 ts] 0))),aG pE Ly.keeps];rw[qR,e];simp[h]at L0 ⊢;rw[L0];simp
theorem UG(hc:Sem c)(z z2:Bool)(gs:List aM)(ts:List Ty)(hl:gs.length<=100)(kZ:ts.length<=100)(s:St)(hw:Wf s):c 150 [.agg [cr z gs,eR z2 ts]] s=some (.tuple [.int .i64 (bG gs ts).1,.int .i64 (bG gs ts).2],s):=by
 have ER:Wf (ah s (.cells [cr z gs,eR z2 ts] 0)):=bK hw;obtain⟨v,s',h1,h2,_⟩:=PV hc z z2 gs ts hl kZ _ ER;have Zv:cut [cr z gs,eR z2 ts] 0 2=some [cr z gs,eR z2 ts]:=bV rfl;rw[HU hc 1 (r:=(.tuple [.int .i64 (bG gs ts).1,.int .i64 (bG gs ts).2],s')),aG (Plain.tuple (by simp[Plain.int])) ((cw hw).trans h2)];rw[KA];simp[Zv,h1]
theorem adT(hc:Sem c){p:bZ}(hp:p.Ad):UB c p:=⟨λst hw=>UG hc p.gz p.yz p.gs p.ys hp.gs hp.ys st hw,λst hw=>Yn hc p.gz p.yz p.gs p.ys hp.gs hp.ys st hw⟩
end
noncomputable section
open Go Go.Ai Go.Proofs
attribute [local go_sem ↓] bQ ug ev TF xA getLT vU IX N7 ue uf Gf Eo Ep Er AI AK AL AM AN AO Es Eu AP AQ AR AS AT Kj Kk Kl
attribute [local go_sem] bQ ug ev
section
variable(c:ai)(F:Nat)(x0 x1 x2 x3 x4 x5 x6 x7 x8 x9 Bv Bw:AV)(s:St)
def sF:Sh:=(sq sl (sq sl (sq (sq sl (sc (sq sl sl) sl)) (sq sl (sq sl (sq sl (sq sl sl)))))))
def sH:PX 79 sF:=⟨_,by conv=>lhs;reduce⟩
def nY:O2:=bQ c F b7 sH.1 [x0,x1,x2] s
def Cj:=(by dsimp only[nY,sH,go_sem,Int.reduceOfNat]:nY c F x0 x1 x2 s=_)
end
section
variable{c:ai}(hc:Sem c)(F:Nat){x0 x1 x2 x3 x4 x5 x6 x7 x8 x9 Bv Bw:AV}{s:St}{r:AV×St}
include hc
theorem Au(h:nY c F x0 x1 x2 s=some r):c 79 [x0,x1,x2] s=some (tidy s r):=hc.o0 F sF (by kernel_rfl) (by kernel_rfl) h
end
end
section
set_option linter.unusedSimpArgs false
open Go Go.Ai Go.Proofs
variable{c:ai}
def dl(cs:List AV)(n i:Nat):List AV:=aF (aF cs i ((cs.drop (i+1)).take (n - 1 - i))) (n - 1) [.int .i64 0]
theorem Yo(cs:List AV)(o:Nat):aF cs o []=cs:=by simp[aF]
section
variable{s:St}{b:Pos}{cs:List AV}{n i cp:Nat}
theorem Vu(hc:Sem c)(hb:s.heap.get b=some (.cells cs 0))(hle:n<=cs.length)(hi:i<n)(hn:n<=cp)(h6:n<=1000000)(L5:aL ((cs.drop (i+1)).take (n - 1 - i))=true):
  c 79 [.slice b 0 n (some cp) 1,.int .i64 (i:Int),.int .i64 ((i+1:Nat):Int)] s=some (.slice b 0 (n - 1) (some cp) 1,b9 s b (.cells (dl cs n i) 0)):=by
 have s1:∀(K:AV->St->Option (AV×St))(s:St),ak c (.sliceL 1 true true true) [.slice b 0 n (some cp) 1,.int .i64 (i:Int),.int .i64 ((i+1:Nat):Int),.int .i64 (n:Int)] s K=K (.slice b (0+i*1) (i+1 - i) (some (n - i)) 1) s:=λK s=>aK c K (λH m=>by
  have UH:bounds true true true [.int .i64 (i:Int),.int .i64 ((i+1:Nat):Int),.int .i64 (n:Int)]=some (some i,some (i+1),some n):=by simp only[bounds,fO]
  simp only[av.run,iK,UH,cQ,di,Zg2,Zg1,Za0 (show i<=i+1 by omega),Za0 (show i+1<=n by omega),Za0 hn]) s
 have e1:∀(K:AV->St->Option (AV×St))(s:St),ak c (.bin .eql .num) [.int .i64 (i:Int),.int .i64 ((i+1:Nat):Int)] s K=K (.bool false) s:=λK s=>by
  rw[fe];rw[Za2 (by omega)]
 have p1:∀(K:AV->Option (AV×St)),dJ (.sliceL 1 false true false) [.slice b 0 n (some cp) 1,.int .i64 (i:Int)] K=K (.slice b 0 i (some cp) 1):=λK=>bU K (λH m=>by
  have UH:bounds false true false [.int .i64 (i:Int)]=some (none,some i,none):=by simp only[bounds,fO]
  simp only[av.run,iK,UH,cQ,di,Zg2,Zg1,Zk1,Zj0,Za0 (show i<=cp by omega)];simp)
 have p2:∀(K:AV->Option (AV×St)),dJ (.sliceL 1 true false false) [.slice b 0 n (some cp) 1,.int .i64 ((i+1:Nat):Int)] K=K (.slice b (i+1) (n - (i+1)) (some (cp - (i+1))) 1):=λK=>bU K (λH m=>by
  have UH:bounds true false false [.int .i64 ((i+1:Nat):Int)]=some (some (i+1),none,none):=by simp only[bounds,fO]
  simp only[av.run,iK,UH,cQ,di,Zg2,Zg1,Zk1,Za0 (show i+1<=n by omega),Za0 hn];simp)
 have ln:∀(m:Nat)(K:AV->St->Option (AV×St))(s:St),ak c (.lenB .l) [.slice b 0 m (some cp) 1] s K=K (.int .i64 (m:Int)) s:=λm K s=>aK c K (λH k=>rfl) s
 have s3:∀(K:AV->St->Option (AV×St))(s:St),ak c (.sliceL 1 true true false) [.slice b 0 (n - 1) (some cp) 1,.int .i64 ((n - 1:Nat):Int),.int .i64 (n:Int)] s K=K (.slice b (n - 1) 1 (some (cp - (n - 1))) 1) s:=λK s=>aK c K (λH m=>by
  have UH:bounds true true false [.int .i64 ((n - 1:Nat):Int),.int .i64 (n:Int)]=some (some (n - 1),some n,none):=by simp only[bounds,fO]
  simp only[av.run,iK,UH,cQ,di,Zg2,Zg1,Zk1,Za0 (show n - 1<=n by omega),Za0 hn,show n - (n - 1)=1 by omega];simp) s
 have cl:∀(x:List AV)(t:St)(K:AV->St->Option (AV×St)),t.heap.get b=some (.cells x 0)->n<=x.length->ak c (.clearS 1 [.int .i64 0]) [.slice b (n - 1) 1 (some (cp - (n - 1))) 1] t K=K .undef (b9 t b (.cells (aF x (n - 1) [.int .i64 0]) 0)):=λx t K hx hl=>by
  have:av.run (λb=>t.heap.get b) t.next (.clearS 1 [.int .i64 0]) [.slice b (n - 1) 1 (some (cp - (n - 1))) 1]=some (.aH .undef none (some (b,.cells (aF x (n - 1) (bM [.int .i64 0] 1)) 0)) none):=by simp only[av.run,qz,cQ,hx,di,Za0 (show n - 1+1*1<=x.length by omega),Zj0,Zg2];rfl
  unfold ak bS;rw[this];rfl
 have ap :∀(K:AV->St->Option (AV×St)),ak c (.append 1 8) [.slice b 0 i (some cp) 1,.slice b (i+1) (n - (i+1)) (some (cp - (i+1))) 1] s K=K (.slice b 0 (n - 1) (some cp) 1) (b9 s b (.cells (aF cs i ((cs.drop (i+1)).take (n - 1 - i))) 0)):=λK=>by
  by_cases h0:n - (i+1)=0
  . have:av.run (λb=>s.heap.get b) s.next (.append 1 8) [.slice b 0 i (some cp) 1,.slice b (i+1) (n - (i+1)) (some (cp - (i+1))) 1]=some (.val (.slice b 0 i (some cp) 1)):=by
        simp only[av.run,eV,cS,di,h0,Za0 (show(2*(i+0)+768)*8<=281474976710656 by omega),Za0 (show i+0<=9223372036854775807 by omega),cQ,Zg2]
    have e0:n - 1 - i=0:=(by omega);rw[e0,Zn3,Yo,aae hb,show n - 1=i by omega];unfold ak bS;rw[this]
  . have hf:cg 1 (n - (i+1)) (λb=>s.heap.get b) (.slice b (i+1) (n - (i+1)) (some (cp - (i+1))) 1)=some ((cs.drop (i+1)).take (n - 1 - i)):=by
        simp only[cg,cQ,Za2 (show ¬(n - (i+1))*1=0 by omega),hb];unfold cut;rw[di,Za0 (by omega),show(n - (i+1))*1=n - 1 - i by omega]
    have:av.run (λb=>s.heap.get b) s.next (.append 1 8) [.slice b 0 i (some cp) 1,.slice b (i+1) (n - (i+1)) (some (cp - (i+1))) 1]=some (.aH (.slice b 0 (n - 1) (some cp) 1) none (some (b,.cells (aF cs i ((cs.drop (i+1)).take (n - 1 - i))) 0)) none):=by
        simp only[av.run,eV,cS,di,show i+(n - (i+1))=n - 1 by omega,Za0 (show(2*(n - 1)+768)*8<=281474976710656 by omega),Za0 (show n - 1<=9223372036854775807 by omega),cQ,Za2 h0,Za0 (show n - 1<=cp by omega),hb,hf,
         Za0 (show 0+(n - 1)*1<=cs.length by omega),Zj0,Zg2,L5,Zi8,show 0+i*1=i by omega]
    unfold ak bS;rw[this];rfl
 have kZ:(aF cs i ((cs.drop (i+1)).take (n - 1 - i))).length=cs.length:=by simp only[aF,Zd7,Zd5,Zj5];omega
 have t1:tidy s (.slice b 0 (n - 1) (some cp) 1,b9 s b (.cells (dl cs n i) 0))=(.slice b 0 (n - 1) (some cp) 1,b9 s b (.cells (dl cs n i) 0)):=by
  unfold tidy;split
  .rename_i h;have hk:=h.2 b _ hb;rw[dx]at hk;simp only[H4,AB.cells.injEq,Zm2]at hk;rw[hk,aae hb]
  .rfl
 rw[Au hc 1 (r:=(.slice b 0 (n - 1) (some cp) 1,b9 s b (.cells (dl cs n i) 0))),t1];rw[Cj];simp only[aC,cZ,ln,s1,e1,eI,p1,p2,ap,s3];rw[cl _ _ _ (dx _ _ _) (by rw[kZ];exact hle)];have e2:b9 (b9 s b (.cells (aF cs i ((cs.drop (i+1)).take (n - 1 - i))) 0)) b (.cells (dl cs n i) 0)=b9 s b (.cells (dl cs n i) 0):=by
  unfold b9;simp only[T.uv]
 unfold dl at e2 ⊢;rw[e2]
end
def AW:List AV->St->Option (AV×St)
 |  [.slice b 0 n none 1,.int .i64 i,.int .i64 j],st=>match st.heap.get b with
    |some (.cells cs 0)=>match decide (0<=i)&&decide (j=i+1)&&decide (j<=(n:Int))&&decide (n<=cs.length)&&decide (n<=1000000)&&aL ((cs.drop (i.toNat+1)).take (n - 1 - i.toNat))with
     |true=>some (.slice b 0 (n - 1) none 1,b9 st b (.cells (dl cs n i.toNat) 0))
     |false=>none
    |_=>none
 |_,_=>none
theorem Vv{P:Program}{C:Cells}(bI:∀C':Cells,eO P C' (run Bu gg)):lA P C 79 AW where
 mono args st v st' h:=by
  unfold AW at h;split at h<;>first|(cases h;done)|skip
  split at h<;>first|(cases h;done)|skip
  split at h<;>first|(cases h;done)|skip
  cases h;rw[Br];exact Za6 _
 runs ρ st w args v st' bC h hW hv:=by
  unfold AW at h;split at h<;>first|(cases h;done)|skip
  rename_i b n i j;split at h<;>first|(cases h;done)|skip
  rename_i cs hb;split at h<;>first|(cases h;done)|skip
  rename_i hc;cases h;simp only[Za8,Zd1]at hc;obtain⟨⟨⟨⟨⟨c1,c2⟩,c3⟩,c4⟩,c5⟩,c6⟩:=hc;obtain⟨i,rfl⟩:∃k:Nat,i=(k:Int):=⟨i.toNat,by omega⟩
  subst c2;rw[Zm9]at c6 ⊢;obtain⟨x,xs,rfl,h1,h2⟩:=hv.cons_inv;obtain⟨a,aJ,rfl,hle,Rc,ha⟩:=h1.cK;have Qh:aj ρ st.next.toNat C (.slice b 0 n (some aJ) 1) (.slice (some a) n aJ):= .slice _ _ _ _ _ aJ _ hle (λc h=>by cases h;rfl) ha (λh=>by cases h);have R:=Vu (c:=run Bu gg) (s:=st) rfl hb c4 (show i<n by omega) hle c5 c6;rw[show((i+1:Nat):Int)=(i:Int)+1 by omega]at R;refine Reaches.mono (λy w' he=> ?_) (bI C ρ st w _ _ _ _ _ R hW (au.cons Qh h2));obtain⟨ρ',k1,k2,k3,k4,k5⟩:=he;refine⟨ρ',?_,k2,k3,k4,k5⟩;obtain⟨a2,cap2,rfl,hle2,hcp2,ha2⟩:=k1.cK;have:=hcp2 aJ rfl;subst this;exact .slice _ _ _ _ _ aJ _ hle2 (λc h=>by cases h) ha2 (λ_=>(ha2 (by omega)).1)
end
noncomputable section
open Go Go.Ai Go.Proofs
def uC(f:FuncId):List AV->St->Option (AV×St):=IW (run Bu gg) f 4
def C9:dZ:=vr [(327,Ib),(12,Kg),(77,uC 77),(72,uC 72),(86,uC 86),(129,uC 129),(125,uC 125),(44,uC 44),(47,uC 47),(49,uC 49),(99,uC 99),(53,uC 53),(101,uC 101),(111,uC 111),(118,uC 118),(79,AW)]
def cE(c:ai):Prop:=c=run C9 gg
theorem cE.o0{c:ai}(hc:cE c)(F:Nat){f:FuncId}{args:List AV}{st:St}{r:AV×St}(s:Sh)(hk:(su (C9 f)&& !su (gg.get (key f))&&(dY (gA f).code s).isEmpty)=true)
  {k:O2} (hd:zl c F (R4 []) (gA f) s args st=k) (h:k=some r):c f args st=some (tidy st r):=by
 subst hc;exact Wq s hk hd h
theorem cE.o1{c:ai}(hc:cE c)(F:Nat){f:FuncId}{args:List AV}{st:St}{r:AV×St}(Ls:Un->List Q2->Nat->Q2)(s:Sh)(hk:(su (C9 f)&& !su (gg.get (key f))&&Nat.beq (dY (gA f).code s).length 1)=true)
  (hs:(O9 (fC (gA f) s 0).2&&Nat.beq (ZU (fC (gA f) s 0).2) 0)=true) (h0:∀K' vs st,m7 Ls (gA f) s 0 K' 0 vs st=none)
  (h1:∀K' n vs st,m7 Ls (gA f) s 0 K' (n+1) vs st=Ek (den c F (m7 Ls (gA f) s) (fC (gA f) s 0).1 (lpB (fC (gA f) s 0).2)) (lpI (fC (gA f) s 0).2) (ZV (fC (gA f) s 0).2) K' (m7 Ls (gA f) s 0 K' n) vs st)
  {k:O2} (hd:zl c F (m7 Ls (gA f) s) (gA f) s args st=k) (h:k=some r):c f args st=some (tidy st r):=by
 subst hc;exact Wr Ls s hk hs h0 h1 hd h
theorem cE.oL{c:ai}(hc:cE c)(F:Nat){f:FuncId}{args:List AV}{st:St}{r:AV×St}(Ls:Un->List Q2->Nat->Q2)(s:Sh)(n:Nat)(hk:(su (C9 f)&& !su (gg.get (key f))&&Nat.beq (dY (gA f).code s).length n)=true)
  (hL:∀i,i<n->vL c F (m7 Ls (gA f) s) (fC (gA f) s i).1 (fC (gA f) s i).2) {k:O2} (hd:zl c F (m7 Ls (gA f) s) (gA f) s args st=k) (h:k=some r):c f args st=some (tidy st r):=by
 subst hc;exact Pe Ls s n hk hL hd h
theorem cE.at{c:ai}(hc:cE c){f:FuncId}{s:List AV->St->Option (AV×St)}{args:List AV}{st:St}{r:AV×St}(ho:C9 f=some s)(h:s args st=some r):c f args st=some r:=by subst hc;exact NL ho h
section
variable{c:ai}{s0 s:St}{Vs:List AV}{p:bZ}
theorem aau(hc:cE c)(s:St):c 12 [] s=some (.bool true,s):=hc.at (s:=Kg) rfl rfl
theorem Da(hc:cE c)(h:PS s0 s Vs p)(hp:p.Ad)(hr:∀r∈p.rs,r.Ok):c 77 [.agg Vs] s=some (.tuple [.int .i64 (ff p).1,.int .i64 (ff p).2],s):=by
 obtain⟨p',e,S⟩:=h.dz 1;refine hc.at (s:=uC 77) rfl (NZ ?_ (nL.tuple (by intro v hv;simp at hv;rcases hv with rfl|rfl<;>exact nL.int _ _)));rw[Zd6,Zi1,e, <-S.check];exact RP rfl p' (S.u7 hp) (adT rfl (S.u7 hp)) (by rw[S.rs];exact hr) (emptyAt s) (NY s)
theorem PS.tabs(h:PS s0 s Vs p):∃V1 z p',Vs[0]? =some V1/\Go.Ai.dz s 4 V1=Go.Proofs.YtlkadmkojjceiaaGreatDoor.tabs z p'.ts/\p.fN p':=by
 obtain⟨V1,V2,V3,V4,V5,r1,r2,rfl,h1,h2,h3,h4,h5⟩:=h.all;obtain⟨z,tJ,e,l,k⟩:=h1.dz 2;exact⟨V1,z,{ p with ts:=tJ },rfl,e,⟨l,k,rfl,λi t t' a b=>by rw[a]at b;cases b;exact⟨t.tz,rfl⟩,rfl,rfl,rfl⟩⟩
theorem y6(hc:cE c)(h:PS s0 s Vs p)(dw:∀t∈p.ts,t.Ok)(hv:(bH p.ts).2=0){V1:AV}(e1:Vs[0]? =some V1):c 72 [V1] s=some (.int .i64 (bF p.ts),s):=by
 obtain⟨V,z,p',e,ez,S⟩:=h.tabs;rw[e1]at e;cases e;refine hc.at (s:=uC 72) rfl (NZ ?_ (nL.int _ _));rw[Zd6,Zi1,ez];have:=ya (c:=run Bu gg) rfl z p'.ts (λt ht=>by obtain⟨u,hu,z,rfl⟩:=S.tab ht;have:=dw u hu;exact⟨this.1,this.2⟩) (emptyAt s) (NY s);rw[this,S.u5,Za7 hv,S.sum]
end
end
noncomputable section
open Go Go.Ai Go.Proofs
attribute [local go_sem ↓] bQ ug ev TF xA getLT vU IX N7 ue uf Gf Eo Ep Er AI AK AL AM AN AO Es Eu AP AQ AR AS AT Kj Kk Kl
attribute [local go_sem] bQ ug ev
section
variable(c:ai)(F:Nat)(x0 x1 x2 x3 x4 x5 x6 x7 x8 x9 Bv Bw:AV)(s:St)
def j4:Sh:=(sq sl (sq sl (sq sl (sq (sq sl (sb (sp 0 [1,2,3,4,5] [(2,[1,2,3,4])] (sq (sq sl (sc sl sl)) (sq (sb (sq sl (sq sl (sq sl sl)))) sl))))) (sq sl (sq sl (sj [1,2,3] (sq sl (sc (sq sl (sb (sp 1 [1,2,3,9] [(4,[1,2,3])] (sq (sq sl (sc sl sl)) (sq (sb (sq sl sl)) sl))))) sl)) (sq (sq sl (sb (sp 2 [1,2,3,11] [(6,[2,3])] (sq (sq sl (sc sl sl)) (sj [1,2,3,11] (sb (sq sl (sq sl (sc (sq sl sl) sl)))) sl))))) (sq sl sl)))))))))
def xC:PX 15 j4:=⟨_,by conv=>lhs;reduce⟩
def wL:PL 15 j4 2:=⟨_,by conv=>lhs;reduce⟩
def gV(k6:Q2):Nat->Q2
 |0,_,_=>none
 |n+1,vs,s=>fX c F b7 (gV k6 n) [k6] wL.1 vs s
def m9(k6:Q2)(n:Nat)(vs:List AV)(s:St):=(by dsimp only[gV,wL,go_sem,Int.reduceOfNat]:gV c F k6 (n+1) vs s=_)
def wM:PL 15 j4 1:=⟨_,by conv=>lhs;reduce⟩
def gW(k4:Q2):Nat->Q2
 |0,_,_=>none
 |n+1,vs,s=>fX c F b7 (gW k4 n) [k4] wM.1 vs s
def tK(k4:Q2)(n:Nat)(vs:List AV)(s:St):=(by dsimp only[gW,wM,go_sem,Int.reduceOfNat]:gW c F k4 (n+1) vs s=_)
def wN:PL 15 j4 0:=⟨_,by conv=>lhs;reduce⟩
def ek(k2:Q2):Nat->Q2
 |0,_,_=>none
 |n+1,vs,s=>fX c F b7 (ek k2 n) [k2] wN.1 vs s
def tL(k2:Q2)(n:Nat)(vs:List AV)(s:St):=(by dsimp only[ek,wN,go_sem,Int.reduceOfNat]:ek c F k2 (n+1) vs s=_)
def qa:Un->List Q2->Nat->Q2
 |.z,[k2]=>ek c F k2
 |(.s .z),[k4]=>gW c F k4
 |(.s (.s .z)),[k6]=>gV c F k6
 |_,_=>λ_=>iE
def jI:O2:=bQ c F (qa c F) xC.1 [x0] s
def H6:=(by dsimp only[jI,xC, ↓qa,go_sem,Int.reduceOfNat]:jI c F x0 s=_)
def tO:Sh:=(sq sl (sq (sq sl (sc (sq sl sl) sl)) (sq sl sl)))
def tP:PX 17 tO:=⟨_,by conv=>lhs;reduce⟩
def oU:O2:=bQ c F b7 tP.1 [x0] s
def tQ:=(by dsimp only[oU,tP,go_sem,Int.reduceOfNat]:oU c F x0 s=_)
def nc:Sh:=(sq sl (sq sl (sq (sq sl (sb (sp 0 [3,7,8,9] [(2,[3])] (sq sl (sq (sc sl sl) (sj [3,7,8,9] (sb (sq sl (sq sl (sb (sq sl (sc sl (sq sl (sc sl sl)))))))) sl)))))) (sq sl sl))))
def tR:PX 18 nc:=⟨_,by conv=>lhs;reduce⟩
def sI:PL 18 nc 0:=⟨_,by conv=>lhs;reduce⟩
def gZ(k2:Q2):Nat->Q2
 |0,_,_=>none
 |n+1,vs,s=>fX c F b7 (gZ k2 n) [k2] sI.1 vs s
def qu(k2:Q2)(n:Nat)(vs:List AV)(s:St):=(by dsimp only[gZ,sI,go_sem,Int.reduceOfNat]:gZ c F k2 (n+1) vs s=_)
def nh:Un->List Q2->Nat->Q2
 |.z,[k2]=>gZ c F k2
 |_,_=>λ_=>iE
def oV:O2:=bQ c F (nh c F) tR.1 [x0] s
def DK:=(by dsimp only[oV,tR, ↓nh,go_sem,Int.reduceOfNat]:oV c F x0 s=_)
def qv:Sh:=(sq sl (sq sl sl))
def qw:PX 19 qv:=⟨_,by conv=>lhs;reduce⟩
def mq:O2:=bQ c F b7 qw.1 [x0,x1] s
def Av:=(by dsimp only[mq,qw,go_sem,Int.reduceOfNat]:mq c F x0 x1 s=_)
def oW:Sh:=(sq sl (sq sl (sq sl (sj [1,4,5] (sq sl (sb (sq sl (sc sl (sq sl (sc sl (sq sl (sc sl (sq sl (sc (sq sl sl) sl)))))))))) (sq (sq sl (sb (sp 0 [1,4,5,7] [(3,[4,5])] (sq (sq sl (sc sl sl)) (sj [1,4,5,7] (sb (sq sl (sc (sq sl sl) sl))) sl))))) (sq sl sl))))))
def wO:PX 64 oW:=⟨_,by conv=>lhs;reduce⟩
def u9:PL 64 oW 0:=⟨_,by conv=>lhs;reduce⟩
def gF(k3:Q2):Nat->Q2
 |0,_,_=>none
 |n+1,vs,s=>fX c F b7 (gF k3 n) [k3] u9.1 vs s
def jR(k3:Q2)(n:Nat)(vs:List AV)(s:St):=(by dsimp only[gF,u9,go_sem,Int.reduceOfNat]:gF c F k3 (n+1) vs s=_)
def oX:Un->List Q2->Nat->Q2
 |.z,[k3]=>gF c F k3
 |_,_=>λ_=>iE
def q9:O2:=bQ c F (oX c F) wO.1 [x0,x1] s
def GN:=(by dsimp only[q9,wO, ↓oX,go_sem,Int.reduceOfNat]:q9 c F x0 x1 s=_)
def xD:Sh:=(sq sl (sq (sq sl (sb (sq sl (sc (sq sl sl) (sq sl (sc (sq sl sl) sl)))))) (sq sl sl)))
def xE:PX 65 xD:=⟨_,by conv=>lhs;reduce⟩
def td:O2:=bQ c F b7 xE.1 [x0] s
def H7:=(by dsimp only[td,xE,go_sem,Int.reduceOfNat]:td c F x0 s=_)
def iB:Sh:=(sq sl (sq sl (sq (sq sl (sb (sp 0 [0,1,4,5,6] [(2,[1,4,5])] (sq (sq sl (sc sl sl)) (sj [0,1,4,5,6] (sb (sq sl (sq sl (sj [0,1,4,5,6,7,8] (sq sl (sc sl sl)) (sj [0,1,4,5,6,7,8] (sq sl (sc sl sl)) (sj [0,1,4,5,6,7,8] (sq sl (sc sl sl)) (sq (sq sl (sb (sp 1 [0,1,4,5,6,7,8,9] [(4,[0,1,4,5,6,8])] (sq (sq sl (sc sl sl)) (sj [0,1,4,5,6,7,8,9] (sb (sq sl (sc (sq sl sl) sl))) sl))))) (sq sl sl)))))))) sl))))) (sq sl (sq (sq sl (sb (sp 2 [1,4,5,12,13] [(6,[4,5])] (sq (sq sl (sc sl sl)) (sq (sb (sq sl (sb (sp 3 [1,4,5,12,13,14] [(8,[1,4,5,12,13])] (sq (sq sl (sc sl sl)) (sj [1,4,5,12,13,14] (sb (sq (sq sl (sc sl sl)) (sq (sq sl (sc sl sl)) (sj [1,4,5,12,13,14] (sq sl (sc (sq sl sl) sl)) sl)))) sl)))))) sl))))) (sq sl sl))))))
def xF:PX 66 iB:=⟨_,by conv=>lhs;reduce⟩
def wP:PL 66 iB 3:=⟨_,by conv=>lhs;reduce⟩
def gX(k8:Q2):Nat->Q2
 |0,_,_=>none
 |n+1,vs,s=>fX c F b7 (gX k8 n) [k8] wP.1 vs s
def fK(k8:Q2)(n:Nat)(vs:List AV)(s:St):=(by dsimp only[gX,wP,go_sem,Int.reduceOfNat]:gX c F k8 (n+1) vs s=_)
def wQ:Un->List Q2->Nat->Q2
 |(.s (.s (.s .z))),[k8]=>gX c F k8
 |_,_=>λ_=>iE
def wR:PL 66 iB 2:=⟨_,by conv=>lhs;reduce⟩
def gY(k6:Q2):Nat->Q2
 |0,_,_=>none
 |n+1,vs,s=>fX c F (wQ c F) (gY k6 n) [k6] wR.1 vs s
def tS(k6:Q2)(n:Nat)(vs:List AV)(s:St):=(by dsimp only[gY,wR, ↓wQ,go_sem,Int.reduceOfNat]:gY c F k6 (n+1) vs s=_)
def wS:PL 66 iB 1:=⟨_,by conv=>lhs;reduce⟩
def fD(k4:Q2):Nat->Q2
 |0,_,_=>none
 |n+1,vs,s=>fX c F b7 (fD k4 n) [k4] wS.1 vs s
def ni(k4:Q2)(n:Nat)(vs:List AV)(s:St):=(by dsimp only[fD,wS,go_sem,Int.reduceOfNat]:fD c F k4 (n+1) vs s=_)
def wT:Un->List Q2->Nat->Q2
 |(.s .z),[k4]=>fD c F k4
 |_,_=>λ_=>iE
def wU:PL 66 iB 0:=⟨_,by conv=>lhs;reduce⟩
def eo(k2:Q2):Nat->Q2
 |0,_,_=>none
 |n+1,vs,s=>fX c F (wT c F) (eo k2 n) [k2] wU.1 vs s
def tT(k2:Q2)(n:Nat)(vs:List AV)(s:St):=(by dsimp only[eo,wU, ↓wT,go_sem,Int.reduceOfNat]:eo c F k2 (n+1) vs s=_)
def qb:Un->List Q2->Nat->Q2
 |.z,[k2]=>eo c F k2
 |(.s .z),[k4]=>fD c F k4
 |(.s (.s .z)),[k6]=>gY c F k6
 |(.s (.s (.s .z))),[k8]=>gX c F k8
 |_,_=>λ_=>iE
def th:O2:=bQ c F (qb c F) xF.1 [x0,x1] s
def H8:=(by dsimp only[th,xF, ↓qb,go_sem,Int.reduceOfNat]:th c F x0 x1 s=_)
def wW:Sh:=(sq sl (sq sl (sq sl (sj [1,2,4,6] (sq sl (sc sl sl)) (sq sl (sq sl (sq (sq sl (sc (sq sl sl) sl)) (sq sl (sq sl (sj [1,2,4,6,11] (sq sl (sb (sj [1,2,4,6,9,10,11,12,58,59] (sq sl (sc sl (sq sl (sc sl (sq sl (sc sl (sq sl (sc sl sl)))))))) (sc (sq sl (sj [4,6,9,10] (sq sl (sc sl sl)) (sj [4,6,9,10] (sq sl (sc sl sl)) (sq sl sl)))) (sj [1,2,4,6,9,11,12,58,100] (sq sl (sc sl sl)) (sc (sq sl (sj [4,6] (sq sl (sc sl sl)) (sq sl sl))) (sq sl (sc (sj [4,6] (sq sl (sc sl sl)) (sq sl sl)) (sq sl (sc (sq sl (sq sl sl)) (sj [1,2,4,6,11,12,164] (sq sl (sc sl sl)) (sc sl sl)))))))))))) (sj [4,6] (sq sl (sc sl sl)) (sq sl sl))))))))))))
def wX:PX 67 wW:=⟨_,by conv=>lhs;reduce⟩
def iT:O2:=bQ c F b7 wX.1 [x0,x1] s
def GO:=(by dsimp only[iT,wX,go_sem,Int.reduceOfNat]:iT c F x0 x1 s=_)
def nj:Sh:=(sq sl (sq (sq sl (sb (sp 0 [0,1,7,8] [(1,[4]),(2,[])] (sq sl (sq (sc sl sl) (sq (sb (sq sl (sq sl (sc (sq sl sl) sl)))) sl)))))) (sq sl sl)))
def tU:PX 71 nj:=⟨_,by conv=>lhs;reduce⟩
def sK:PL 71 nj 0:=⟨_,by conv=>lhs;reduce⟩
def g9(k1 k2:Q2):Nat->Q2
 |0,_,_=>none
 |n+1,vs,s=>fX c F b7 (g9 k1 k2 n) [k1,k2] sK.1 vs s
def kW(k1 k2:Q2)(n:Nat)(vs:List AV)(s:St):=(by dsimp only[g9,sK,go_sem,Int.reduceOfNat,Int.reduceNegSucc]:g9 c F k1 k2 (n+1) vs s=_)
def nk:Un->List Q2->Nat->Q2
 |.z,[k1,k2]=>g9 c F k1 k2
 |_,_=>λ_=>iE
def oY:O2:=bQ c F (nk c F) tU.1 [x0,x1] s
def DN:=(by dsimp only[oY,tU, ↓nk,go_sem,Int.reduceOfNat,Int.reduceNegSucc]:oY c F x0 x1 s=_)
def EY:Sh:=(sq sl (sq (sq sl (sq sl (sc (sq sl sl) sl))) (sq sl sl)))
def EZ:PX 80 EY:=⟨_,by conv=>lhs;reduce⟩
def BZ:O2:=bQ c F b7 EZ.1 [x0,x1,x2] s
def E0:=(by dsimp only[BZ,EZ,go_sem,Int.reduceOfNat]:BZ c F x0 x1 x2 s=_)
def xG:Sh:=(sq sl (sq sl sl))
def xH:PX 113 xG:=⟨_,by conv=>lhs;reduce⟩
def tj:O2:=bQ c F b7 xH.1 [x0] s
def H9:=(by dsimp only[tj,xH,go_sem,Int.reduceOfNat]:tj c F x0 s=_)
def ve:Sh:=(sq sl (sq sl sl))
def vg:PX 114 ve:=⟨_,by conv=>lhs;reduce⟩
def qc:O2:=bQ c F b7 vg.1 [x0] s
def E7:=(by dsimp only[qc,vg,go_sem,Int.reduceOfNat]:qc c F x0 s=_)
def oZ:Sh:=(sq sl (sq (sq sl (sb (sp 0 [1,2,5] [(1,[4]),(2,[])] (sq (sq sl (sc sl sl)) (sq (sb (sq sl (sc (sq sl sl) sl))) sl))))) (sq sl sl)))
def wY:PX 115 oZ:=⟨_,by conv=>lhs;reduce⟩
def vh:PL 115 oZ 0:=⟨_,by conv=>lhs;reduce⟩
def iU(k1 k2:Q2):Nat->Q2
 |0,_,_=>none
 |n+1,vs,s=>fX c F b7 (iU k1 k2 n) [k1,k2] vh.1 vs s
def mz(k1 k2:Q2)(n:Nat)(vs:List AV)(s:St):=(by dsimp only[iU,vh,go_sem,Int.reduceOfNat]:iU c F k1 k2 (n+1) vs s=_)
def o6:Un->List Q2->Nat->Q2
 |.z,[k1,k2]=>iU c F k1 k2
 |_,_=>λ_=>iE
def ri:O2:=bQ c F (o6 c F) wY.1 [x0,x1] s
def GP:=(by dsimp only[ri,wY, ↓o6,go_sem,Int.reduceOfNat]:ri c F x0 x1 s=_)
def B0:Sh:=(sq sl (sq (sq sl (sc (sq sl sl) sl)) (sq sl (sq sl (sq (sq sl (sb (sp 0 [2,8,9,23,24,25] [(1,[6,7]),(2,[])] (sq sl (sq (sc sl sl) (sj [2,8,9,23,24,25] (sb (sq sl (sq (sb (sq sl (sc (sq sl sl) (sq sl (sc (sq sl sl) (sq sl (sc (sq sl sl) sl))))))) (sq sl (sc sl sl))))) sl)))))) (sq sl sl))))))
def JA:PX 122 B0:=⟨_,by conv=>lhs;reduce⟩
def HL:PL 122 B0 0:=⟨_,by conv=>lhs;reduce⟩
def pN(k1 k2:Q2):Nat->Q2
 |0,_,_=>none
 |n+1,vs,s=>fX c F b7 (pN k1 k2 n) [k1,k2] HL.1 vs s
def jB(k1 k2:Q2)(n:Nat)(vs:List AV)(s:St):=(by dsimp only[pN,HL,go_sem,Int.reduceOfNat,Int.reduceNegSucc]:pN c F k1 k2 (n+1) vs s=_)
def B4:Un->List Q2->Nat->Q2
 |.z,[k1,k2]=>pN c F k1 k2
 |_,_=>λ_=>iE
def GQ:O2:=bQ c F (B4 c F) JA.1 [x0,x1,x2] s
def JB:=(by dsimp only[GQ,JA, ↓B4,go_sem,Int.reduceOfNat,Int.reduceNegSucc]:GQ c F x0 x1 x2 s=_)
end
section
variable{c:ai}(hc:cE c)(F:Nat){x0 x1 x2 x3 x4 x5 x6 x7 x8 x9 Bv Bw:AV}{s:St}{r:AV×St}
include hc
theorem E8(h:jI c F x0 s=some r):c 15 [x0] s=some (tidy s r):=hc.oL F (qa c F) j4 3 (by kernel_rfl) (λi hi=>match i,hi with|0,_=>eF 0 (by kernel_rfl) (λ_ _ _=>by kernel_rfl) (λ_ _ _ _=>by kernel_rfl)|1,_=>eF 1 (by kernel_rfl) (λ_ _ _=>by kernel_rfl) (λ_ _ _ _=>by kernel_rfl)|2,_=>eF 2 (by kernel_rfl) (λ_ _ _=>by kernel_rfl) (λ_ _ _ _=>by kernel_rfl)|n+3,h=>absurd h (by omega)) (by kernel_rfl) h
theorem rj(h:oU c F x0 s=some r):c 17 [x0] s=some (tidy s r):=hc.o0 F tO (by kernel_rfl) (by kernel_rfl) h
theorem B5(h:oV c F x0 s=some r):c 18 [x0] s=some (tidy s r):=hc.o1 F (nh c F) nc (by kernel_rfl) (by kernel_rfl) (λ_ _ _=>by kernel_rfl) (λ_ _ _ _=>by kernel_rfl) (by kernel_rfl) h
theorem y9(h:mq c F x0 x1 s=some r):c 19 [x0,x1] s=some (tidy s r):=hc.o0 F qv (by kernel_rfl) (by kernel_rfl) h
theorem DO(h:q9 c F x0 x1 s=some r):c 64 [x0,x1] s=some (tidy s r):=hc.o1 F (oX c F) oW (by kernel_rfl) (by kernel_rfl) (λ_ _ _=>by kernel_rfl) (λ_ _ _ _=>by kernel_rfl) (by kernel_rfl) h
theorem E9(h:td c F x0 s=some r):c 65 [x0] s=some (tidy s r):=hc.o0 F xD (by kernel_rfl) (by kernel_rfl) h
theorem Fa(h:th c F x0 x1 s=some r):c 66 [x0,x1] s=some (tidy s r):=hc.oL F (qb c F) iB 4 (by kernel_rfl) (λi hi=>match i,hi with|0,_=>eF 0 (by kernel_rfl) (λ_ _ _=>by kernel_rfl) (λ_ _ _ _=>by kernel_rfl)|1,_=>eF 1 (by kernel_rfl) (λ_ _ _=>by kernel_rfl) (λ_ _ _ _=>by kernel_rfl)|2,_=>eF 2 (by kernel_rfl) (λ_ _ _=>by kernel_rfl) (λ_ _ _ _=>by kernel_rfl)|3,_=>eF 3 (by kernel_rfl) (λ_ _ _=>by kernel_rfl) (λ_ _ _ _=>by kernel_rfl)|n+4,h=>absurd h (by omega)) (by kernel_rfl) h
theorem DP(h:iT c F x0 x1 s=some r):c 67 [x0,x1] s=some (tidy s r):=hc.o0 F wW (by kernel_rfl) (by kernel_rfl) h
theorem B6(h:oY c F x0 x1 s=some r):c 71 [x0,x1] s=some (tidy s r):=hc.o1 F (nk c F) nj (by kernel_rfl) (by kernel_rfl) (λ_ _ _=>by kernel_rfl) (λ_ _ _ _=>by kernel_rfl) (by kernel_rfl) h
theorem B7(h:BZ c F x0 x1 x2 s=some r):c 80 [x0,x1,x2] s=some (tidy s r):=hc.o0 F EY (by kernel_rfl) (by kernel_rfl) h
theorem Fb(h:tj c F x0 s=some r):c 113 [x0] s=some (tidy s r):=hc.o0 F xG (by kernel_rfl) (by kernel_rfl) h
theorem Cl(h:qc c F x0 s=some r):c 114 [x0] s=some (tidy s r):=hc.o0 F ve (by kernel_rfl) (by kernel_rfl) h
theorem DQ(h:ri c F x0 x1 s=some r):c 115 [x0,x1] s=some (tidy s r):=hc.o1 F (o6 c F) oZ (by kernel_rfl) (by kernel_rfl) (λ_ _ _=>by kernel_rfl) (λ_ _ _ _=>by kernel_rfl) (by kernel_rfl) h
theorem Fe(h:GQ c F x0 x1 x2 s=some r):c 122 [x0,x1,x2] s=some (tidy s r):=hc.o1 F (B4 c F) B0 (by kernel_rfl) (by kernel_rfl) (λ_ _ _=>by kernel_rfl) (λ_ _ _ _=>by kernel_rfl) (by kernel_rfl) h
end
end
section
open Go Go.Ai Go.Proofs
variable{c:ai}
def dS(i:Nat):List Nat:=[116,97+i % 26]
def br(i:Nat):List Nat:=[97+i / 26 % 26,97+i % 26]
theorem acu(hc:cE c)(i:Nat)(hi:i<1000000)(st:St)(hw:Wf st):c 113 [.int .i64 (i:Int)] st=some (.str (dS i),st):=by
 have hg:=Grew.ah hw (.cells [.int .u8 116,.int .u8 (97+(i:Int) % 26)] 0);rw[Fb hc 1 (r:=(.str (dS i),ah st (.cells [.int .u8 116,.int .u8 (97+(i:Int) % 26)] 0))),aG (Plain.str _) hg.keeps];rw[H9];have w1:aq .i64 (97+(i:Int) % 26)=97+(i:Int) % 26:=wrap64 (by omega) (by omega);have w2:aq .u8 (97+(i:Int) % 26)=97+(i:Int) % 26:=yu (by omega) (by omega);have r1:=λ(s:St)(K:AV->St->Option (AV×St))=>bN (c:=c) (k:= .i64) (a:=(i:Int)) (b:=26) (by omega) (by omega) s K
 have two:=λ(s:St)(K:AV->St->Option (AV×St))=>TA (c:=c) (x:=116) (y:=97+(i:Int) % 26) 116 (97+i % 26) rfl (by omega) (by omega) (by omega) s K
 simp[-bf,r1,uS,w1,w2,two,dS]
theorem rY(hc:cE c)(i:Nat)(hi:i<1000000)(st:St)(hw:Wf st):c 114 [.int .i64 (i:Int)] st=some (.str (br i),st):=by
 have hg:=Grew.ah hw (.cells [.int .u8 (97+(i:Int) / 26 % 26),.int .u8 (97+(i:Int) % 26)] 0);rw[Cl hc 1 (r:=(.str (br i),ah st (.cells [.int .u8 (97+(i:Int) / 26 % 26),.int .u8 (97+(i:Int) % 26)] 0))),aG (Plain.str _) hg.keeps];rw[E7];have w1:aq .i64 (97+(i:Int) % 26)=97+(i:Int) % 26:=wrap64 (by omega) (by omega);have w2:aq .u8 (97+(i:Int) % 26)=97+(i:Int) % 26:=yu (by omega) (by omega);have w3:aq .i64 (97+(i:Int) / 26 % 26)=97+(i:Int) / 26 % 26:=wrap64 (by omega) (by omega);have w4:aq .u8 (97+(i:Int) / 26 % 26)=97+(i:Int) / 26 % 26:=yu (by omega) (by omega);have r1:=λ(s:St)(K:AV->St->Option (AV×St))=>bN (c:=c) (k:= .i64) (a:=(i:Int)) (b:=26) (by omega) (by omega) s K
 have r2:=λ(s:St)(K:AV->St->Option (AV×St))=>eG (c:=c) (a:=(i:Int)) (b:=26) (by omega) (by omega) (by omega) s K
 have r3:=λ(s:St)(K:AV->St->Option (AV×St))=>bN (c:=c) (k:= .i64) (a:=(i:Int) / 26) (b:=26) (by omega) (by omega) s K
 have two:=λ(s:St)(K:AV->St->Option (AV×St))=>TA (c:=c) (x:=97+(i:Int) / 26 % 26) (y:=97+(i:Int) % 26) (97+i / 26 % 26) (97+i % 26) (by omega) (by omega) (by omega) (by omega) s K
 simp[-bf,r1,r2,r3,uS,w1,w2,w3,w4,two,br]
def jC(sh a b:Int):Int:=if sh=2 then 2*a+b else if sh=3 then a+2*b else a
theorem GU(hc:cE c){l:List AV}{sh a b:Int}(h1:l[1]? =some (.int .u8 sh))(h2:l[2]? =some (.int .i64 a))(h3:l[3]? =some (.int .i64 b))(ha:0<=a/\a<=1000000)(hb:0<=b/\b<=1000000)(st:St)(hw:Wf st):
   c 65 [.agg l] st=some (.int .i64 (jC sh a b),st):=by
 have hg:=Grew.ah hw (.cells l 0);have p1:=aD st (.cells l 0);rw[E9 hc 1 (r:=(.int .i64 (jC sh a b),ah st (.cells l 0))),aG (Plain.int _ _) hg.keeps];rw[H7];have w1:aq .i64 (2*a)=2*a:=wrap64 (by omega) (by omega);have w2:aq .i64 (2*b)=2*b:=wrap64 (by omega) (by omega);have w3:aq .i64 (2*a+b)=2*a+b:=wrap64 (by omega) (by omega);have w4:aq .i64 (a+2*b)=a+2*b:=wrap64 (by omega) (by omega);unfold jC;by_cases e2:sh=2
 .subst e2;simp[p1,h1,h2,h3,w1,w3]
 . by_cases e3:sh=3
   .subst e3;simp[p1,h1,h2,h3,w2,w4]
   .have d2:decide (sh=2)=false:=Za2 e2;have d3:decide (sh=3)=false:=Za2 e3;simp[p1,h1,h2,h3,e2,e3,d2,d3]
def PW(i:Nat):List AV:=[.int .i64 (i:Int)]
def nZ:List AV:=[.str [],.int .u8 0,.int .i64 0,.int .i64 0,.af,.int .i64 0,.int .i64 0]
def fh(nm:List Nat)(sh a b:Int)(x:Nat)(v:AV):List AV:=[.str nm,.int .u8 sh,.int .i64 a,.int .i64 b,v,.int .i64 (x:Int),.int .i64 (255 - (x:Int))]
def MM(x i:Nat):Bool:=decide (x / 2 ^ i % 2=1)&&decide (0<x % 3)
theorem adU(x i:Nat):MM x i=(decide (x / 2 ^ i % 2=1)&&decide (0<x % 3)):=by rw[MM]
def wZ(x k:Nat):List Nat:=(List.range k).filter (MM x)
theorem Re(x k:Nat):wZ x (k+1)=wZ x k++(if MM x k=true then [k]else []):=by
 unfold wZ;rw[Zj2,List.filter_append];congr 1;cases h:MM x k with
 |true=>simp[h]
 |false=>simp[h]
theorem UI(x k:Nat):(wZ x k).length<=k:=by have:=List.length_filter_le (MM x) (List.range k);rw[Zp6]at this;exact this
structure TI(st s:St)(p4 p5:Pos)(nm:List Nat)(sh a b:Int)(x k:Nat)(v:AV):Prop where
 out:Mk 1 st s v ((wZ x k).map PW)
 h4:s.heap.get p4=some (.cells nZ 0)
 h5:s.heap.get p5=some (.cells (fh nm sh a b x v) 0)
 n4:aZ v≠some p4
 n5:aZ v≠some p5
theorem Yp(hc:cE c){nm:List Nat}{sh a b:Int}{x n:Nat}(ha:0<=a/\a<=1000000)(hb:0<=b/\b<=1000000)(hx:x<1000000)(hn:jC sh a b=(n:Int))(hn64:n<=64){st:St}{p4 p5:Pos}(h4:st.next.toNat<=p4.toNat)(h5:st.next.toNat<=p5.toNat)(Ff:p4≠p5)
  (F:Nat) (k3):∀(m k:Nat)(s:St)(v:AV),TI st s p4 p5 nm sh a b x k v->n<=k+m->k<=n->
  ∃s' v',TI st s' p4 p5 nm sh a b x n v'/\gF c F k3 (m+1) [.int .i64 (x:Int),.ptr p4 0,.ptr p5 0,.int .i64 (k:Int)] s=k3 [.ptr p4 0,.ptr p5 0] s':=by
 intro m;induction m with
 |zero=>
  intro k s v hT h1 h2;obtain rfl:k=n:=by omega
  refine⟨s,v,hT,?_⟩;have S:=GU hc (l:=fh nm sh a b x v) rfl rfl rfl ha hb s hT.out.aE.wf;have cu:cut (fh nm sh a b x v) 0 7=some (fh nm sh a b x v):=bV rfl;rw[hn]at S;rw[jR];simp[hT.h5,cu,S]
 |succ m ih=>
  intro k s v hT h1 h2;have hw:=hT.out.aE.wf;have S:=GU hc (l:=fh nm sh a b x v) rfl rfl rfl ha hb s hw;have cu:cut (fh nm sh a b x v) 0 7=some (fh nm sh a b x v):=bV rfl;rw[hn]at S;clear hn;by_cases h:k<n
  . have Ll:(0:Int)<=(x:Int):=Int.natCast_nonneg x;have w:aq .i64 ((k:Int)+1)=((k+1:Nat):Int):=wrap64 (by omega) (by omega);have sr:=λ(s:St)(K:AV->St->Option (AV×St))=>Tz (c:=c) (a:=(x:Int)) (i:=k) (Zc8 h2 hn64) s K
    have p0:(0:Int)<=(x:Int) / 2 ^ k:=Zq5 Ll (Int.le_of_lt (Int.pow_pos (by omega)));have r1:=λ(s:St)(K:AV->St->Option (AV×St))=>bN (c:=c) (k:= .i64) (a:=(x:Int) / 2 ^ k) (b:=2) p0 (by decide) s K
    have r2:=λ(s:St)(K:AV->St->Option (AV×St))=>bN (c:=c) (k:= .i64) (a:=(x:Int)) (b:=3) Ll (by decide) s K
    have d1:decide ((x:Int) / 2 ^ k % 2=1)=decide (x / 2 ^ k % 2=1):=(by have:((x:Int) / 2 ^ k % 2=1)↔(x / 2 ^ k % 2=1):=(by rw[show((x:Int) / 2 ^ k % 2)=((x / 2 ^ k % 2:Nat):Int)by simp];omega);exact decide_eq_decide.2 this);have d2:decide (0<(x:Int) % 3)=decide (0<x % 3):=decide_eq_decide.2 (by omega);have c4:(fh nm sh a b x v)[4]? =some v:=rfl;have hl:decide ((k:Int)<(n:Int))=true:=Za0 (Int.ofNat_lt.2 h);have fin:=adU x k;cases hq:MM x k with
    |   true=>
        have hrl:((wZ x k).map PW).length<=64:=(by rw[Za9];have:=UI x k;omega);obtain⟨s5,v5,a1,a2,a3,a4⟩:=hT.out.push (c:=c) (R:=AV×St) (bytes:=8) (z:=[.int .i64 0]) (x:= .int .i64 (k:Int)) rfl rfl rfl (by decide) (by omega) (by omega);have e:(wZ x (k+1)).map PW=(wZ x k).map PW++[(.int .i64 (k:Int):AV).cells]:=(by rw[Re,Za7 hq,Ze2];rfl);rw[<-e]at a2;have y4:=a3 p4 _ hT.n4 hT.h4;have y5:=a3 p5 _ hT.n5 hT.h5;have l4:=hw p4 _ hT.h4;have l5:=hw p5 _ hT.h5;have b4:aZ v5≠some p4:=λe=>by have:=a4 _ e;omega
        have b5:aZ v5≠some p5:=λe=>by have:=a4 _ e;omega
        have hw5:=a2.aE.wf;have l5':=hw5 p5 _ y5;have M:=a2.store (p:=p5) (b:= .cells (fh nm sh a b x v5) 0) h5 l5' b5;obtain⟨vc,v1⟩:=a2.cells;have aN:∀(K:AV->St->Option (AV×St)),ak c (.store 1) [.ptr p5 4,v5] s5 K=K .undef (b9 s5 p5 (.cells (fh nm sh a b x v5) 0)):=λK=>by rw[dh c K s5 1 p5 4 v5 (fh nm sh a b x v) y5 (by rw[vc];rfl) (by simp[fh]) (by rw[vc];exact v1),vc];rfl
        have T5:TI st (b9 s5 p5 (.cells (fh nm sh a b x v5) 0)) p4 p5 nm sh a b x (k+1) v5:=⟨M,by rw[bk (λe=>Ff e.symm)];exact y4,dx _ _ _,b4,b5⟩
        obtain⟨s',v',b1,b2⟩:=ih (k+1) _ v5 T5 (by omega) (by omega);refine⟨s',v',b1,?_⟩;rw[<-b2,jR];rw[fin,Za8]at hq;simp[-bf,hT.h5,cu,S,h,gM,sr,r1,r2,d1,d2,hq.1,hq.2,c4,a1,aN,w]
    |   false=>
        have e:(wZ x (k+1))=(wZ x k):=(by rw[Re,Za5 (by rw[hq];decide),Zf0]);obtain⟨s',v',b1,b2⟩:=ih (k+1) s v ⟨by rw[e];exact hT.out,hT.h4,hT.h5,hT.n4,hT.n5⟩ (by omega) (by omega);refine⟨s',v',b1,?_⟩;rw[<-b2,jR];rw[fin]at hq;cases g1:decide (x / 2 ^ k % 2=1)with
        |false=>simp[-bf,hT.h5,cu,S,h,gM,sr,r1,r2,d1,d2,g1,c4,w]
        |true=>
         rw[g1,Zf4]at hq;simp[-bf,hT.h5,cu,S,h,gM,sr,r1,r2,d1,d2,g1,hq,c4,w]
  .obtain rfl:k=n:=(by omega);refine⟨s,v,hT,?_⟩;rw[jR];simp[hT.h5,cu,S]
theorem jg(s:St)(cs:List AV)(o:Nat)(v:AV)(ho:o<cs.length)(h1:v.cells=[v])(h2:v.one=true)(K:AV->St->Option (AV×St)):ak c (.store 1) [.ptr s.next o,v] (ah s (.cells cs 0)) K=K .undef (ah s (.cells (cs.set o v) 0)):=by
 rw[dh c K (ah s (.cells cs 0)) 1 s.next o v cs (aD _ _) (by rw[h1];rfl) (by omega) (by rw[h1];simp[aL,h2]),h1,Aq _ _ ho,Pa]
def kI(x:Nat):Nat:=1+x % 4
def tA(x:Nat):Nat:=if x % 4=0 then 1+x / 4 % 6 else if x % 4=1 then 1+x / 4 % 3 else if x % 4=2 then 1+x / 4 % 2 else 1+x / 4 % 5
def tB(x:Nat):Nat:=if x % 4=0 then 0 else if x % 4=1 then x / 4 / 3 % 3 else if x % 4=2 then 1+x / 4 / 2 % 2 else min (1+x / 4 % 5) (x / 4 / 5 % 4)
def tN(x:Nat):Nat:=if x % 4=1 then 2*tA x+tB x else if x % 4=2 then tA x+2*tB x else tA x
theorem Sc(x:Nat):tA x<=6:=by unfold tA;split<;>(try split)<;>(try split)<;>omega
theorem Sd(x:Nat):tB x<=3:=by unfold tB;split<;>(try split)<;>(try split)<;>omega
theorem OI(x:Nat):tN x<=16:=by have:=Sc x;have:=Sd x;unfold tN;split<;>(try split)<;>omega
theorem Ku(x:Nat):jC ((kI x:Nat):Int) ((tA x:Nat):Int) ((tB x:Nat):Int)=((tN x:Nat):Int):=by
 unfold jC tN kI;by_cases h1:x % 4=1
 .rw[Za7 (by omega),Za7 h1];omega
 . by_cases h2:x % 4=2
   .rw[Za5 (by omega),Za7 (by omega),Za5 h1,Za7 h2];omega
   .rw[Za5 (by omega),Za5 (by omega),Za5 h1,Za5 h2]
theorem acv(hc:cE c)(i x:Nat)(hi:i<1000000)(hx:x<256)(st:St)(hw:Wf st):∃v s',c 64 [.int .i64 (i:Int),.int .i64 (x:Int)] st=some (.agg (fh (dS i) (kI x:Nat) (tA x:Nat) (tB x:Nat) x v),s')/\Mk 1 st s' v ((wZ x (tN x)).map PW):=by
 have dc:Wf (ah st (.cells nZ 0)):=bK hw;have g1:=Grew.ah hw (.cells nZ 0);have W:=acu hc i hi (ah st (.cells nZ 0)) dc;have hA:=Sc x;have hB:=Sd x;have hN:=OI x;have g2:=Grew.ah dc (.cells (fh (dS i) (kI x:Nat) (tA x:Nat) (tB x:Nat) x .af) 0);have x1:(ah (ah st (.cells nZ 0)) (.cells (fh (dS i) (kI x:Nat) (tA x:Nat) (tB x:Nat) x .af) 0)).heap.get st.next=some (.cells nZ 0):=g2.get (aD _ _);have x2:(ah (ah st (.cells nZ 0)) (.cells (fh (dS i) (kI x:Nat) (tA x:Nat) (tB x:Nat) x .af) 0)).heap.get (ah st (.cells nZ 0)).next=some (.cells (fh (dS i) (kI x:Nat) (tA x:Nat) (tB x:Nat) x .af) 0):=aD _ _;have n12:st.next≠(ah st (.cells nZ 0)).next:=by rw[cN];exact Pos.Pb _
 have T0:TI st (ah (ah st (.cells nZ 0)) (.cells (fh (dS i) (kI x:Nat) (tA x:Nat) (tB x:Nat) x .af) 0)) st.next (ah st (.cells nZ 0)).next (dS i) (kI x:Nat) (tA x:Nat) (tB x:Nat) x 0 .af:=
   ⟨Mk.start hw (g1.trans g2),x1,x2,λe=>(nomatch e),λe=>(nomatch e)⟩
 obtain⟨s',v,hT,L⟩:=Yp hc (n:=tN x) (by omega) (by omega) (by omega) (Ku x) (by omega) (p4:=st.next) (p5:=(ah st (.cells nZ 0)).next) (Za6 _) (by rw[cN,Pos.az];omega) n12 (tN x+1)
   (λvs s96=>ju vs λx4 vs=>ju vs λx5 vs=>pH vs (ak c (.load (some 7)) [x5] s96 λx86 s97=>ak c (.store 7) [x4,x86] s97 λ_ s98=>Lb (some 7) x4 s98 λv99=>some (v99,s98))) (tN x) 0 (ah (ah st (.cells nZ 0)) (.cells (fh (dS i) (kI x:Nat) (tA x:Nat) (tB x:Nat) x .af) 0)) .af T0 (by omega) (by omega)
 have M:=hT.out;obtain⟨vc,v1⟩:=M.cells;have one:aL (fh (dS i) (kI x:Nat) (tA x:Nat) (tB x:Nat) x v)=true:=by
   simp only[aL]at v1;unfold fh;simp only[aL,AV.one,v1,Zi8,Zk8]at*
 have hcut:cut (fh (dS i) (kI x:Nat) (tA x:Nat) (tB x:Nat) x v) 0 7=some (fh (dS i) (kI x:Nat) (tA x:Nat) (tB x:Nat) x v):=bV rfl;have jT:∀(K:AV->St->Option (AV×St)),ak c (.store 7) [.ptr st.next 0,.agg (fh (dS i) (kI x:Nat) (tA x:Nat) (tB x:Nat) x v)] s' K=K .undef (b9 s' st.next (.cells (fh (dS i) (kI x:Nat) (tA x:Nat) (tB x:Nat) x v) 0)):=λK=>by rw[dh c K s' 7 st.next 0 (.agg (fh (dS i) (kI x:Nat) (tA x:Nat) (tB x:Nat) x v)) _ hT.h4 rfl (by simp[nZ]) one];rfl
 have M2:=M.store (p:=st.next) (b:= .cells (fh (dS i) (kI x:Nat) (tA x:Nat) (tB x:Nat) x v) 0) (Za6 _) (M.aE.wf _ _ hT.h4) hT.n4;have mem:v∈fh (dS i) (kI x:Nat) (tA x:Nat) (tB x:Nat) x v:=by simp[fh]
 have low:∀y∈dS i,y<256:=by intro y hy;simp[dS]at hy;omega
 obtain⟨gO,t1,_,t3⟩:=M2.Gd mem (λu hu=>by simp only[fh,Zb1,Ze6,Zj6]at hu;rcases hu with rfl|rfl|rfl|rfl|rfl|rfl|rfl<;>first|exact iq.str low|exact iq.int _ _|exact M.inst);refine⟨v,gO,?_,t3⟩;rw[DO hc (tN x+1) (r:=(.agg (fh (dS i) (kI x:Nat) (tA x:Nat) (tB x:Nat) x v),b9 s' st.next (.cells (fh (dS i) (kI x:Nat) (tA x:Nat) (tB x:Nat) x v) 0))),t1];have L2:gF c (tN x+1) (λvs s96=>ju vs λx4 vs=>ju vs λx5 vs=>pH vs (ak c (.load (some 7)) [x5] s96 λx86 s97=>ak c (.store 7) [x4,x86] s97 λ_ s98=>Lb (some 7) x4 s98 λv99=>some (v99,s98))) (tN x+1) [.int .i64 (x:Int),.ptr st.next 0,.ptr (ah st (.cells nZ 0)).next 0,.int .i64 0] (ah (ah st (.cells nZ 0)) (.cells (fh (dS i) (kI x:Nat) (tA x:Nat) (tB x:Nat) x .af) 0))=some (.agg (fh (dS i) (kI x:Nat) (tA x:Nat) (tB x:Nat) x v),b9 s' st.next (.cells (fh (dS i) (kI x:Nat) (tA x:Nat) (tB x:Nat) x v) 0)):=by
   rw[show(0:Int)=((0:Nat):Int)from rfl,L];simp[hT.h5,hcut,jT]
 generalize hF:tN x+1=F at L2 ⊢;clear hF L hT M2 jT T0 x1 x2 g2;have q1:=λ(s:St)(K:AV->St->Option (AV×St))=>bN (c:=c) (k:= .i64) (a:=(x:Int)) (b:=4) (by omega) (by omega) s K
 have q2:=λ(s:St)(K:AV->St->Option (AV×St))=>eG (c:=c) (a:=(x:Int)) (b:=4) (by omega) (by omega) (by omega) s K
 have q3:=λ(n:Int)(hn:0<n)(s:St)(K:AV->St->Option (AV×St))=>bN (c:=c) (k:= .i64) (a:=(x:Int) / 4) (b:=n) (by omega) hn s K
 have w1:aq .i64 (1+(x:Int) % 4)=1+(x:Int) % 4:=wrap64 (by omega) (by omega);have w2:aq .u8 (1+(x:Int) % 4)=1+(x:Int) % 4:=yu (by omega) (by omega);have w3:aq .i64 (255 - (x:Int))=255 - (x:Int):=wrap64 (by omega) (by omega);have al:∀(s:St)(K:AV->St->Option (AV×St)),ak c (.alloc [.str [],.int .u8 0,.int .i64 0,.int .i64 0,.af,.int .i64 0,.int .i64 0]) [] s K=K (.ptr s.next 0) (ah s (.cells nZ 0)):=λs K=>rfl
 have WZ:∀(nm:List Nat)(sh u y:Int)(s:St)(K:AV->St->Option (AV×St)),ak c (.build [.str [],.int .u8 0,.int .i64 0,.int .i64 0,.af,.int .i64 0,.int .i64 0] [(0,1),(1,1),(5,1),(6,1)]) [.str nm,.int .u8 sh,.int .i64 u,.int .i64 y] s K=K (.agg [.str nm,.int .u8 sh,.int .i64 0,.int .i64 0,.af,.int .i64 u,.int .i64 y]) s:=λnm sh u y s K=>rfl
 have Fg:∀(nm:List Nat)(sh u y:Int)(s:St)(K:AV->St->Option (AV×St)),ak c (.store 7) [.ptr s.next 0,.agg [.str nm,.int .u8 sh,.int .i64 0,.int .i64 0,.af,.int .i64 u,.int .i64 y]] (ah s (.cells nZ 0)) K=K .undef (ah s (.cells [.str nm,.int .u8 sh,.int .i64 0,.int .i64 0,.af,.int .i64 u,.int .i64 y] 0)):=λnm sh u y s K=>dK c K s 7 (.agg [.str nm,.int .u8 sh,.int .i64 0,.int .i64 0,.af,.int .i64 u,.int .i64 y]) nZ rfl rfl rfl
 have Yq:∀(nm:List Nat)(sh p q u y z:Int)(s:St)(K:AV->St->Option (AV×St)),ak c (.store 1) [.ptr s.next 2,.int .i64 z] (ah s (.cells [.str nm,.int .u8 sh,.int .i64 p,.int .i64 q,.af,.int .i64 u,.int .i64 y] 0)) K=K .undef (ah s (.cells [.str nm,.int .u8 sh,.int .i64 z,.int .i64 q,.af,.int .i64 u,.int .i64 y] 0)):=λnm sh p q u y z s K=>jg s _ 2 (.int .i64 z) (by simp) rfl rfl K
 have Yr:∀(nm:List Nat)(sh p q u y z:Int)(s:St)(K:AV->St->Option (AV×St)),ak c (.store 1) [.ptr s.next 3,.int .i64 z] (ah s (.cells [.str nm,.int .u8 sh,.int .i64 p,.int .i64 q,.af,.int .i64 u,.int .i64 y] 0)) K=K .undef (ah s (.cells [.str nm,.int .u8 sh,.int .i64 p,.int .i64 z,.af,.int .i64 u,.int .i64 y] 0)):=λnm sh p q u y z s K=>jg s _ 3 (.int .i64 z) (by simp) rfl rfl K
 rw[GN];simp only[al];generalize (ah st (.cells nZ 0))=s1 at W dc L2 n12;have a1:aq .i64 1=1:=rfl;have h4:x % 4=0\/x % 4=1\/x % 4=2\/x % 4=3:=by omega
 rcases h4 with h|h|h|h
 .have e4:(x:Int) % 4=0:=(by omega);have eS:((kI x:Nat):Int)=1:=(by unfold kI;omega);have eA:((tA x:Nat):Int)=1+(x:Int) / 4 % 6:=(by unfold tA;rw[Za7 h];omega);have eB:((tB x:Nat):Int)=0:=(by unfold tB;rw[Za7 h];rfl);simp only[fh,eS,eA,eB]at L2 ⊢;simp (disch:=omega) [-bf,-iw,-j8,-fP,WZ,Fg,Yq,Yr,W,bN,eG,e4,uS,wrap64,yu,gM,Zb3,L2]
 .have e4:(x:Int) % 4=1:=(by omega);have eS:((kI x:Nat):Int)=2:=(by unfold kI;omega);have eA:((tA x:Nat):Int)=1+(x:Int) / 4 % 3:=(by unfold tA;rw[Za5 (by omega),Za7 h];omega);have eB:((tB x:Nat):Int)=(x:Int) / 4 / 3 % 3:=(by unfold tB;rw[Za5 (by omega),Za7 h];omega);simp only[fh,eS,eA,eB]at L2 ⊢;simp (disch:=omega) [-bf,-iw,-j8,-fP,WZ,Fg,Yq,Yr,W,bN,eG,e4,uS,wrap64,yu,gM,Zb3,L2]
 .have e4:(x:Int) % 4=2:=(by omega);have eS:((kI x:Nat):Int)=3:=(by unfold kI;omega);have eA:((tA x:Nat):Int)=1+(x:Int) / 4 % 2:=(by unfold tA;rw[Za5 (by omega),Za5 (by omega),Za7 h];omega);have eB:((tB x:Nat):Int)=1+(x:Int) / 4 / 2 % 2:=(by unfold tB;rw[Za5 (by omega),Za5 (by omega),Za7 h];omega);simp only[fh,eS,eA,eB]at L2 ⊢;simp (disch:=omega) [-bf,-iw,-j8,-fP,WZ,Fg,Yq,Yr,W,bN,eG,e4,uS,wrap64,yu,gM,Zb3,L2]
 . have e4:(x:Int) % 4=3:=(by omega);have eS:((kI x:Nat):Int)=4:=(by unfold kI;omega);have eA:((tA x:Nat):Int)=1+(x:Int) / 4 % 5:=(by unfold tA;rw[Za5 (by omega),Za5 (by omega),Za5 (by omega)];omega);obtain⟨mb,hmb⟩:∃mb:Int,mb=min (1+(x:Int) / 4 % 5) ((x:Int) / 4 / 5 % 4):=⟨_,rfl⟩
   have abc:∀(s:St)(K:AV->St->Option (AV×St)),ak c .minB [.int .i64 (1+(x:Int) / 4 % 5),.int .i64 ((x:Int) / 4 / 5 % 4)] s K=K (.int .i64 mb) s:=λs K=>by rw[hmb];exact Wo c K s _ _ _ _
   have eB:((tB x:Nat):Int)=mb:=(by rw[hmb];unfold tB;rw[Za5 (by omega),Za5 (by omega),Za5 (by omega)];omega);clear hmb;simp only[fh,eS,eA,eB]at L2 ⊢;simp (disch:=omega) [-bf,-iw,-j8,-fP,-Wo,abc,WZ,Fg,Yq,Yr,W,bN,eG,e4,uS,wrap64,yu,gM,Zb3,L2]
theorem Db{R:Type}(K:AV->Option R){b:Pos}{off len es es':Nat}{cap:Option Nat}{k:IntKind}{i:Nat}(h:i<len):dJ (.idxA es none) [.slice b off len cap es',.int k (i:Int)] K=K (.ptr b (off+i*es)):=
 bU K (λH n=>by
  simp only[av.run,nG,fO];have:Nat.blt i len=true:=by rw[Zq0];exact h
  rw[this])
theorem UJ{es:Nat}{s:St}{v:AV}{rows:List (List AV)}(h:QS es s v rows)(hr:∀r∈rows,r.length=es){i:Nat}(hi:i<rows.length):
   ∃b off cap cs,v= .slice b off rows.length cap es/\s.heap.get b=some (.cells cs 0)/\∀j u,rows[i][j]? =some u->cs[off+i*es+j]? =some u:=by
 rcases h with⟨rfl,rfl⟩|⟨b,off,cap,cs,rfl,g1,g2,g3,g4⟩|⟨b,off,rfl,rfl⟩
 .simp at hi
 rotate_left
 .simp at hi
 . (refine⟨b,off,cap,cs,rfl,g1,λj u hj=> ?_⟩;have hj2:j<es:=(by rw[<-hr _ (Zc6 hi)];exact(Za3.1 hj).1);have:=Go.Ai.Bs hr i j rows[i] u (H5 hi) hj;rw[<-g3]at this;have aT:i*es+j<rows.length*es:=by have:(i+1)*es<=rows.length*es:=Zg9 _ hi;rw[Zj4]at this;omega);rw[Zb8,Za7 aT,Zc5]at this;rw[<-this];congr 1;omega
theorem Ys(hc:cE c){s:St}{V W:AV}{rows:List (List AV)}(h:QS 9 s V rows)(hr:∀r∈rows,r.length=9){names:List (List Nat)}(hlen:names.length=rows.length)(hn:∀(i:Nat)(h1:i<rows.length)(h2:i<names.length),rows[i][0]? =some (.str names[i]))(ac2:rows.length<=1000)
  {q:Pos} (hq:s.heap.get q=some (.cells [V,W] 0)) (x:Nat) (hx:x<1000000) (hw:Wf s) (F:Nat) (k1 k2):∀(m k f:Nat),m<f->k+m=rows.length->br x∉names.take k->
  iU c F k1 k2 f [.int .i64 (x:Int),.ptr q 0,.int .i64 (k:Int)] s=if br x∈names then k1 [.bool true] s else k2 [] s:=by
 intro m;have N:=rY hc x hx s hw;have cu:∀j:Nat,(cellsOf (s.heap.get q)).bind (λcs=>cs[0]?)=some V:=λ_=>by rw[hq];rfl
 induction m with
 |zero=>
  intro k f hf h1 kP;obtain⟨f,rfl⟩:∃g,f=g+1:=⟨f - 1,by omega⟩
  obtain rfl:k=rows.length:=by omega
  rw[<-hlen,Zi7]at kP;rw[Za5 kP,mz];have lI:=λ(K:AV->St->Option (AV×St))=>h.lenB (c:=c) K s
  simp[hq,lI]
 |succ m ih=>
  intro k f hf h1 kP;obtain⟨f,rfl⟩:∃g,f=g+1:=⟨f - 1,by omega⟩
  have hk:k<rows.length:=by omega
  have iu:k<names.length:=by omega
  have lI:=λ(K:AV->St->Option (AV×St))=>h.lenB (c:=c) K s
  have w:aq .i64 ((k:Int)+1)=((k+1:Nat):Int):=wrap64 (by omega) (by omega);obtain⟨b,off,cap,cs,e,g1,g2⟩:=UJ h hr hk;have nm:=g2 0 _ (hn k hk iu);have hb:=h.beq;have r1:=λ(K:AV->Option (AV×St))=>xV K (o:=0) (v:=V) (h:=s.heap) (h2:=s.heap) (p:=q) (by rw[hq];rfl) (by rw[hq];rfl) hb
  have r2:=λ(K:AV->Option (AV×St))=>xV K (o:=off+k*9) (v:= .str names[k]) (h:=s.heap) (h2:=s.heap) (p:=b) (by rw[g1];exact nm) (by rw[g1];exact nm) (by simp[fj,kF,gy,kj.2 rfl])
  have ix:=λ(K:AV->Option (AV×St))=>Db K (b:=b) (off:=off) (es:=9) (es':=9) (cap:=cap) (k:= .i64) hk
  rw[<-e]at ix;by_cases heq:names[k]=br x
  .have mem:br x∈names:=(by rw[<-heq];exact Zc6 iu);rw[Za7 mem,mz];simp[hq,lI,hk,N,r1,r2,ix,heq]
  . have hno2:br x∉names.take (k+1):=by
        rw[Zc4 iu,Zc9,Zc3];rintro(h|h)
        .exact kP h
        .exact heq h.symm
    rw[<-ih (k+1) f (by omega) (by omega) hno2,mz];have d:decide (names[k]=br x)=false:=Za2 heq;simp[hq,lI,hk,N,r1,r2,ix,heq,d,w]
theorem acw(hc:cE c){s:St}{V W:AV}{rows:List (List AV)}(h:QS 9 s V rows)(hr:∀r∈rows,r.length=9){names:List (List Nat)}(hlen:names.length=rows.length)(hn:∀(i:Nat)(h1:i<rows.length)(h2:i<names.length),rows[i][0]? =some (.str names[i]))(ac2:rows.length<=1000)
   (x:Nat) (hx:x<1000000) (hw:Wf s):c 115 [.agg [V,W],.int .i64 (x:Int)] s=some (.bool (decide (br x∈names)),s):=by
 have hg:=Grew.ah hw (.cells [V,W] 0);have h2:QS 9 (ah s (.cells [V,W] 0)) V rows:=h.mono λb y _ hy=>hg.get hy
 have L:=Ys hc h2 hr hlen hn ac2 (aD s (.cells [V,W] 0)) x hx (bK hw) (rows.length+1) (λvs s13=>ju vs λx4 vs=>pH vs (some (x4,s13))) (λvs s14=>pH vs (ak c .move [.bool false] s14 λx4 s15=>some (x4,s15))) rows.length 0 (rows.length+1) (by omega) (by omega) (by simp);rw[DQ hc (rows.length+1) (r:=(.bool (decide (br x∈names)),ah s (.cells [V,W] 0))),aG (Plain.bool _) hg.keeps];rw[GP];by_cases hm:br x∈names
 .rw[Za7 hm]at L;simp at L;simp[L,hm]
 .rw[Za5 hm]at L;simp at L;simp[L,hm]
end
section
open Go Go.Ai Go.Proofs
def kD(gs:List aM)(i:Nat):List Nat:=match gs[i]? with|some g=>g.name|none=>[]
def zc(gs:List aM)(i:Nat):List Nat:=match gs[i]? with|some g=>g.kV|none=>[]
def rq(ts:List aU)(i:Nat):List Nat:=match ts[i]? with|some t=>t.name|none=>[]
def vk(ts:List aU)(i:Nat):Int:=match ts[i]? with|some t=>jC t.sh t.a t.b|none=>0
def GV(ts:List aU)(gs:List aM)(k wt a b t n z:Nat):Rl×Bool:=
 if k=1\/k=2\/k=3\/k=4\/k=5 then(⟨k,wt,kD gs a,kD gs b,[],if k=4 then((n+1:Nat):Int)else if k=1 then(n:Int)else 0⟩,decide (a≠b))
 else if k=6\/k=7 then(⟨k,wt,kD gs a,[],rq ts t,if k=7 then((z / 13:Nat):Int) % vk ts t else 0⟩,true)
 else if k=10 then(⟨k,wt,if z % 3=0 then kD gs a else [],[],[],0⟩,true)
 else if k=17 then(⟨k,wt,zc gs a,[],rq ts t,0⟩,decide (zc gs a≠[]))
 else(⟨k,wt,[],[],if 0<z % 3 then rq ts t else [],if k=15\/k=16 then(n:Int)else 0⟩,true)
def JC(y:Nat):Nat:=if 1<y % 5 then 1+y % 7 else 0
def fq(ts:List aU)(gs:List aM)(x:Nat):Rl×Bool:=
 if gs.length=0\/ts.length=0 then(⟨((1+x % 18:Nat):Int),(JC (x / 18):Int),[],[],[],0⟩,false)
 else GV ts gs (1+x % 18) (JC (x / 18)) (x / 18 / 5 % gs.length) (x / 18 / 5 / gs.length % gs.length) (x / 18 / 5 / 7 % ts.length) (x / 18 / 5 / 11 % 4) (x / 18 / 5)
theorem PY(i:Nat):eP (br i)=true:=by unfold eP br;have h1:i / 26 % 26<26:=Zi4 _ (by omega);have h2:i % 26<26:=Zi4 _ (by omega);simp;omega
variable{c:ai}
theorem Rf{cs row:List AV}{o n:Nat}(hl:row.length=n)(h0:0<n)(h:∀(j:Nat)(u:AV),row[j]? =some u->cs[o+j]? =some u):cut cs o n=some row:=by
 have h1:=h (n - 1) row[n - 1] (H5 (by omega));have h2:=(Za3.1 h1).1;unfold cut;have:Nat.ble (o+n) cs.length=true:=by rw[Nat.ble_eq];omega
 rw[this];simp only;congr 1;refine Zi3 λi=> ?_
 rw[Zb8];split
 .rename_i hi;rw[Zc5,h i _ (H5 (by omega)),H5 (by omega)]
 .rw[Zc0 (by omega)]
theorem TS.row{s0 s:St}{V:AV}{ts:List aU}{rows:List (List AV)}(h:TS s0 s V ts rows){i:Nat}(hi:i<ts.length):
   ∃b off cap cs v,V= .slice b off rows.length cap 7/\s.heap.get b=some (.cells cs 0)/\cut cs (off+i*7) 7=some (ts[i].aA v)/\cs[off+i*7]? =some (.str ts[i].name):=by
 have hr:i<rows.length:=by rw[h.len];exact hi
 obtain⟨b,off,cap,cs,e,g1,g2⟩:=UJ h.out.own h.out.row hr;obtain⟨v,e1,_,_⟩:=h.qt i ts[i] rows[i] (H5 hi) (H5 hr);refine⟨b,off,cap,cs,v,e,g1,?_,?_⟩
 .rw[<-e1];exact Rf (h.out.row _ (Zc6 hr)) (by omega) g2
 . have:=g2 0 (.str ts[i].name) (by rw[e1];rfl)
   rwa [Zh5]at this
theorem GS.row{s0 s:St}{V:AV}{gs:List aM}{rows:List (List AV)}(h:GS s0 s V gs rows){i:Nat}(hi:i<gs.length):
   ∃b off cap cs v,V= .slice b off rows.length cap 9/\s.heap.get b=some (.cells cs 0)/\cut cs (off+i*9) 9=some (gs[i].aA v)/\cs[off+i*9]? =some (.str gs[i].name)/\cs[off+i*9+5]? =some (.str gs[i].kV):=by
 have hr:i<rows.length:=by rw[h.len];exact hi
 obtain⟨b,off,cap,cs,e,g1,g2⟩:=UJ h.out.own h.out.row hr;obtain⟨v,e1,_,_⟩:=h.qt i gs[i] rows[i] (H5 hi) (H5 hr);refine⟨b,off,cap,cs,v,e,g1,?_,?_,?_⟩
 .rw[<-e1];exact Rf (h.out.row _ (Zc6 hr)) (by omega) g2
 . have:=g2 0 (.str gs[i].name) (by rw[e1];rfl)
   rwa [Zh5]at this
 .exact g2 5 (.str gs[i].kV) (by rw[e1];rfl)
theorem QS.ac3{R:Type}{es:Nat}{s:St}{v:AV}{rows:List (List AV)}(h:QS es s v rows)(K:AV->Option R):dJ (.lenB .l) [v] K=K (.int .i64 (rows.length:Int)):=by
 rcases h with⟨rfl,rfl⟩|⟨b,off,cap,cs,rfl,_⟩|⟨b,off,rfl,rfl⟩<;>exact bU K (λH n=>rfl)
abbrev eu(k w:Int)(a b t:List Nat)(n:Int):List AV:=[.int .u8 k,.int .i64 w,.str a,.str b,.str t,.int .i64 n]
theorem adV(k w n w':Int)(a b t:List Nat)(s:St)(K:AV->St->Option (AV×St)):ak c (.store 1) [.ptr s.next 1,.int .i64 w'] (ah s (.cells (eu k w a b t n) 0)) K=K .undef (ah s (.cells (eu k w' a b t n) 0)):=jg s _ 1 (.int .i64 w') (by simp) rfl rfl K
theorem W0(k w n:Int)(a b t u:List Nat)(s:St)(K:AV->St->Option (AV×St)):ak c (.store 1) [.ptr s.next 2,.str u] (ah s (.cells (eu k w a b t n) 0)) K=K .undef (ah s (.cells (eu k w u b t n) 0)):=jg s _ 2 (.str u) (by simp) rfl rfl K
theorem adW(k w n:Int)(a b t u:List Nat)(s:St)(K:AV->St->Option (AV×St)):ak c (.store 1) [.ptr s.next 3,.str u] (ah s (.cells (eu k w a b t n) 0)) K=K .undef (ah s (.cells (eu k w a u t n) 0)):=jg s _ 3 (.str u) (by simp) rfl rfl K
theorem W4(k w n:Int)(a b t u:List Nat)(s:St)(K:AV->St->Option (AV×St)):ak c (.store 1) [.ptr s.next 4,.str u] (ah s (.cells (eu k w a b t n) 0)) K=K .undef (ah s (.cells (eu k w a b u n) 0)):=jg s _ 4 (.str u) (by simp) rfl rfl K
theorem AX(k w n n':Int)(a b t:List Nat)(s:St)(K:AV->St->Option (AV×St)):ak c (.store 1) [.ptr s.next 5,.int .i64 n'] (ah s (.cells (eu k w a b t n) 0)) K=K .undef (ah s (.cells (eu k w a b t n') 0)):=jg s _ 5 (.int .i64 n') (by simp) rfl rfl K
theorem aeF{ts:List aU}(h:∀t∈ts,0<jC t.sh t.a t.b/\jC t.sh t.a t.b<=1000){t:Nat}(ht:t<ts.length):vk ts t=jC ts[t].sh ts[t].a ts[t].b/\0<vk ts t/\vk ts t<=1000:=by
 have e:vk ts t=jC ts[t].sh ts[t].a ts[t].b:=by unfold vk;rw[H5 ht]
 rw[e];exact⟨rfl,h _ (Zc6 ht)⟩
theorem acy (hc : cE c){s0 s:St}{V1 V2 V3 V4 V5:AV}{ts:List aU}{gs:List aM}{r1 r2:List (List AV)}(hT:TS s0 s V1 ts r1)(hG:GS s0 s V2 gs r2)(lt:ts.length<=1000)(lg:gs.length<=1000)
   (hz:∀t∈ts,0<jC t.sh t.a t.b/\jC t.sh t.a t.b<=1000) (ha:∀t∈ts,(0<=t.a/\t.a<=1000000)/\0<=t.b/\t.b<=1000000) (x:Nat) (hx:x<4294967296):
   c 67 [.agg [V1,V2,V3,V4,V5],.int .i64 (x:Int)] s=some (.tuple [.agg (fq ts gs x).1.cells,.bool (fq ts gs x).2],s):=by
 have hw:=hT.out.aE.wf;have plain:∀(r:Rl)(b:Bool),Plain (.tuple [.agg r.cells,.bool b]):=λr b=>Plain.tuple λv hv=>by
   simp only[Zb1,Ze6,Zj6]at hv;rcases hv with rfl|rfl
   .exact Plain.agg λv hv=>by simp only[Rl.cells,Zb1,Ze6,Zj6]at hv;rcases hv with rfl|rfl|rfl|rfl|rfl|rfl<;>first|exact Plain.int _ _|exact Plain.str _
   .exact Plain.bool _
 suffices key:∃s',iT c 1 (.agg [V1,V2,V3,V4,V5]) (.int .i64 (x:Int)) s=some (.tuple [.agg (fq ts gs x).1.cells,.bool (fq ts gs x).2],s')/\bt s s' by
   obtain⟨s',k1,k2⟩:=key;rw[DP hc 1 (r:=(.tuple [.agg (fq ts gs x).1.cells,.bool (fq ts gs x).2],s')) k1,aG (plain _ _) k2]
 have dc:Wf (ah s (.cells [V1,V2,V3,V4,V5] 0)):=bK hw;have g1:=Grew.ah hw (.cells [V1,V2,V3,V4,V5] 0);have nI:Wf (ah (ah s (.cells [V1,V2,V3,V4,V5] 0)) (.cells (eu 0 0 [] [] [] 0) 0)):=bK dc;have g2:=Grew.ah dc (.cells (eu 0 0 [] [] [] 0) 0);have g12:=g1.trans g2;obtain⟨s2,pI⟩:∃s2,s2=ah (ah s (.cells [V1,V2,V3,V4,V5] 0)) (.cells (eu 0 0 [] [] [] 0) 0):=⟨_,rfl⟩
 obtain⟨p4,hp4⟩:∃p4,p4=(ah s (.cells [V1,V2,V3,V4,V5] 0)).next:=⟨_,rfl⟩
 have acz:Wf s2:=by rw[pI];exact nI
 have Yt:Grew s s2:=by rw[pI];exact g12
 have b2:s2.heap.get s.next=some (.cells [V1,V2,V3,V4,V5] 0):=by rw[pI];exact g2.get (aD _ _)
 have b4:s2.heap.get p4=some (.cells (eu 0 0 [] [] [] 0) 0):=by rw[pI,hp4];exact aD _ _
 have n4:s.next.toNat<p4.toNat:=by rw[hp4,cN,Pos.az];omega
 have n6:p4.toNat<s2.next.toNat:=acz _ _ b4;have gS:∀b:AB,Grew s2 (ah s2 b):=λb=>Grew.ah acz b
 have hP:∀b:AB,(ah s2 b).heap.get s.next=some (.cells [V1,V2,V3,V4,V5] 0):=λb=>(gS b).get b2
 have hX:∀b:AB,(ah s2 b).heap.get p4=some (.cells (eu 0 0 [] [] [] 0) 0):=λb=>(gS b).get b4
 have fin:∀(k w n:Int)(a b t:List Nat)(K:AV->St->Option (AV×St)),ak c (.store 6) [.ptr p4 0,.agg (eu k w a b t n)] (ah s2 (.cells (eu k w a b t n) 0)) K=K .undef (b9 (ah s2 (.cells (eu k w a b t n) 0)) p4 (.cells (eu k w a b t n) 0)):=λk w n a b t K=>by rw[dh c K _ 6 p4 0 (.agg (eu k w a b t n)) _ (hX _) rfl (by simp) rfl];rfl
 have kp:∀(k w n:Int)(a b t:List Nat),bt s (b9 (ah s2 (.cells (eu k w a b t n) 0)) p4 (.cells (eu k w a b t n) 0)):=λk w n a b t q y hq=>by have:=hw _ _ hq;rw[bk (λe=>by subst e;omega)];exact(Yt.trans (gS _)).get hq
 have cu:∀(k w n:Int)(a b t:List Nat),cut (eu k w a b t n) 0 6=some (eu k w a b t n):=λk w n a b t=>bV rfl
 obtain⟨Q,hQ⟩:∃Q:Option (AV×St)->Prop,Q=λo=>∃s',o=some (.tuple [.agg (fq ts gs x).1.cells,.bool (fq ts gs x).2],s')/\bt s s':=⟨_,rfl⟩
 have yc:∀(k w n:Int)(a b t:List Nat)(bb:Bool),(⟨k,w,a,b,t,n⟩:Rl)=(fq ts gs x).1->bb=(fq ts gs x).2->Q (some (.tuple [.agg (eu k w a b t n),.bool bb],b9 (ah s2 (.cells (eu k w a b t n) 0)) p4 (.cells (eu k w a b t n) 0))):=λk w n a b t bb h1 h2=>by
   rw[hQ];exact⟨_,by rw[<-h1, <-h2];rfl,kp _ _ _ _ _ _⟩
 have OJ:Q (iT c 1 (.agg [V1,V2,V3,V4,V5]) (.int .i64 (x:Int)) s)->∃s',iT c 1 (.agg [V1,V2,V3,V4,V5]) (.int .i64 (x:Int)) s=some (.tuple [.agg (fq ts gs x).1.cells,.bool (fq ts gs x).2],s')/\bt s s':=λh=>by rw[hQ]at h;exact h
 apply OJ;clear OJ;obtain⟨r,hr⟩:∃r:Nat,r=x % 18:=⟨_,rfl⟩
 obtain⟨k,hk⟩:∃k:Nat,k=1+x % 18:=⟨_,rfl⟩
 obtain⟨y,hy⟩:∃y:Nat,y=x / 18:=⟨_,rfl⟩
 obtain⟨y5,hy5⟩:∃y5:Nat,y5=y % 5:=⟨_,rfl⟩
 obtain⟨y7,hy7⟩:∃y7:Nat,y7=y % 7:=⟨_,rfl⟩
 obtain⟨z,hz5⟩:∃z:Nat,z=y / 5:=⟨_,rfl⟩
 obtain⟨w,hwt⟩:∃w:Nat,w=JC y:=⟨_,rfl⟩
 have E1:(x:Int) % 18=(r:Int):=by omega
 have W1:aq .i64 (1+(r:Int))=(k:Int):=(wrap64 (by omega) (by omega)).trans (by omega);have W8:aq .u8 (k:Int)=(k:Int):=yu (by omega) (by omega);have E2:(x:Int) / 18=(y:Int):=by omega
 have E3:(y:Int) % 5=(y5:Int):=by omega
 have E4:(y:Int) % 7=(y7:Int):=by omega
 have W2:aq .i64 (1+(y7:Int))=1+(y7:Int):=wrap64 (by omega) (by omega);have E5:(y:Int) / 5=(z:Int):=by omega
 obtain⟨g,hg⟩:∃g,g=gs.length:=⟨_,rfl⟩
 obtain⟨T,hTl⟩:∃T,T=ts.length:=⟨_,rfl⟩
 have pl2:∀(K:AV->Option (AV×St)),dJ (.lenB .l) [V2] K=K (.int .i64 (g:Int)):=λK=>by rw[hg, <-hG.len];exact QS.ac3 hG.out.own K
 have pl1:∀(K:AV->Option (AV×St)),dJ (.lenB .l) [V1] K=K (.int .i64 (T:Int)):=λK=>by rw[hTl, <-hT.len];exact QS.ac3 hT.out.own K
 have Ww:∀(l:List AV)(K:AV->Option (AV×St)),kR (.load none) [.ptr s.next (0+1)] (ah s2 (.cells l 0)).heap (λ_=>true) K=K V2:=λl K=>by rw[oK,hP];rfl
 have rd0:∀(l:List AV)(K:AV->Option (AV×St)),kR (.load none) [.ptr s.next (0+0)] (ah s2 (.cells l 0)).heap (λ_=>true) K=K V1:=λl K=>by rw[oK,hP];rfl
 have WZ:∀(k':Int)(s':St)(K:AV->St->Option (AV×St)),ak c (.build [.int .u8 0,.int .i64 0,.str [],.str [],.str [],.int .i64 0] [(0,1)]) [.int .u8 k'] s' K=K (.agg (eu k' 0 [] [] [] 0)) s':=λk' s' K=>rfl
 have sto0:∀(k':Int)(K:AV->St->Option (AV×St)),ak c (.store 6) [.ptr s2.next 0,.agg (eu k' 0 [] [] [] 0)] (ah s2 (.cells (eu 0 0 [] [] [] 0) 0)) K=K .undef (ah s2 (.cells (eu k' 0 [] [] [] 0) 0)):=λk' K=>dK c K s2 6 (.agg (eu k' 0 [] [] [] 0)) (eu 0 0 [] [] [] 0) rfl rfl rfl
 rw[GO];rw[pT,iO,show AV.cells (.agg [V1,V2,V3,V4,V5])=[V1,V2,V3,V4,V5]from rfl, <-pI, <-hp4,aC,aC,bN (by omega) (by omega),E1,iA,W1,Mm,W8,WZ,iO,sto0,aC,eG (by omega) (by omega) (by omega),E2,aC];refine qM (P:=λj=>Q (j [.int .i64 (y:Int),.ptr s.next 0,.ptr p4 0,.ptr s2.next 0] (ah s2 (.cells (eu k w [] [] [] 0) 0)))) ?_ ?_
 . rw[  aB, aB, aB, aB,bu,aC,eG (by omega) (by omega) (by omega),E5,aC,bn,Ww,pl2,bn,rd0,pl1,cZ,cZ,aC,fe,aC];by_cases zK:g=0
   . rw[Za0 (show(g:Int)=0 by omega),ZW,ZW,Ga,e8];have hR:fq ts gs x=(⟨(k:Int),(w:Int),[],[],[],0⟩,false):=by
        unfold fq;rw[Za7 (.inl (by omega)), <-hk, <-hy, <-hwt]
     have:=yc k w 0 [] [] [] false (by rw[hR]) (by rw[hR]);simp[cu,fin];exact this
   rw[Za2 (show ¬(g:Int)=0 by omega),pR,aC,pR,fe,NP];by_cases hT0:T=0
   . rw[Za0 (show(T:Int)=0 by omega),e8];have hR:fq ts gs x=(⟨(k:Int),(w:Int),[],[],[],0⟩,false):=by
        unfold fq;rw[Za7 (.inr (by omega)), <-hk, <-hy, <-hwt]
     have:=yc k w 0 [] [] [] false (by rw[hR]) (by rw[hR]);simp[cu,fin];exact this
   rw[Za2 (show ¬(T:Int)=0 by omega),eI];obtain⟨a,ea⟩:∃a:Nat,a=z % g:=⟨_,rfl⟩
   obtain⟨zg,ezg⟩:∃zg:Nat,zg=z / g:=⟨_,rfl⟩
   obtain⟨b,eb⟩:∃b:Nat,b=zg % g:=⟨_,rfl⟩
   obtain⟨z7,ez7⟩:∃z7:Nat,z7=z / 7:=⟨_,rfl⟩
   obtain⟨t,et⟩:∃t:Nat,t=z7 % T:=⟨_,rfl⟩
   obtain⟨z11,ez11⟩:∃z11:Nat,z11=z / 11:=⟨_,rfl⟩
   obtain⟨n,en⟩:∃n:Nat,n=z11 % 4:=⟨_,rfl⟩
   have hR:fq ts gs x=GV ts gs k w a b t n z:=by
     unfold fq;rw[Za5 (by omega), <-hk, <-hy, <-hwt, <-hz5, <-hg, <-hTl, <-ea, <-ezg, <-eb, <-ez7, <-et, <-ez11, <-en]
   have Ea:(z:Int) % (g:Int)=(a:Int):=(by rw[ea];exact(Zl9 _ _).symm);have Ezg:(z:Int) / (g:Int)=(zg:Int):=(by rw[ezg];exact(Zp9 _ _).symm);have Eb:(zg:Int) % (g:Int)=(b:Int):=(by rw[eb];exact(Zl9 _ _).symm);have Ez7:(z:Int) / 7=(z7:Int):=(by omega);have Et:(z7:Int) % (T:Int)=(t:Int):=(by rw[et];exact(Zl9 _ _).symm);have Ez11:(z:Int) / 11=(z11:Int):=(by omega);have En:(z11:Int) % 4=(n:Int):=(by omega);have za:a<g:=(by rw[ea];exact Zi4 _ (by omega));have zb:b<g:=(by rw[eb];exact Zi4 _ (by omega));have zt:t<T:=(by rw[et];exact Zi4 _ (by omega));have gp:0<(g:Int):=(by omega);have Tp:0<(T:Int):=(by omega);rw[cZ,cZ,Ge (by omega) gp,Ea,cZ,cZ,Mr (by omega) (by omega) gp,Ezg,cZ,Ge (by omega) gp,Eb,cZ,Mr (by omega) (by omega) (by omega),Ez7,cZ,Ge (by omega) Tp,Et,cZ,cZ,cZ,
     aC,eG (by omega) (by omega) (by omega),Ez11,bN (by omega) (by omega),En,aC]
   (clear Ea Ezg Eb Ez7 Et Ez11 En ea ezg eb ez7 et ez11;have kg:1<=k:=(by omega);have iu:k<=18:=(by omega);obtain⟨bA,oA,Xw,csA,vA,eA,hA,_,nA,dA⟩:=hG.row (i:=a) (by omega);obtain⟨bB,oB,capB,csB,vB,eB,hB,_,nB,_⟩:=hG.row (i:=b) (by omega);obtain⟨bT,oT,capT,csT,vT,eT,hTb,cT,nT⟩:=hT.row (i:=t) (by omega);have gA:gs[a].name=kD gs a/\gs[a].kV=zc gs a:=(by unfold kD zc;rw[H5 (by omega)];exact⟨rfl,rfl⟩);have gB:gs[b].name=kD gs b:=(by unfold kD;rw[H5 (by omega)]);have gT:ts[t].name=rq ts t:=(by unfold rq;rw[H5 (by omega)]);rw[gA.1]at nA;rw[gA.2]at dA;rw[gB]at nB;rw[gT]at nT;have Yu:∀l:List AV,(ah s2 (.cells l 0)).heap.get bA=some (.cells csA 0):=λl=>(gS _).get (Yt.get hA));have ac4:∀l:List AV,(ah s2 (.cells l 0)).heap.get bB=some (.cells csB 0):=λl=>(gS _).get (Yt.get hB)
   have heapT:∀l:List AV,(ah s2 (.cells l 0)).heap.get bT=some (.cells csT 0):=λl=>(gS _).get (Yt.get hTb)
   have ixA:∀(K:AV->Option (AV×St)),dJ (.idxA 9 none) [V2,.int .i64 (a:Int)] K=K (.ptr bA (oA+a*9)):=λK=>by rw[eA];exact Db K (by rw[hG.len];omega)
   have ixB:∀(K:AV->Option (AV×St)),dJ (.idxA 9 none) [V2,.int .i64 (b:Int)] K=K (.ptr bB (oB+b*9)):=λK=>by rw[eB];exact Db K (by rw[hG.len];omega)
   have ixT:∀(K:AV->Option (AV×St)),dJ (.idxA 7 none) [V1,.int .i64 (t:Int)] K=K (.ptr bT (oT+t*7)):=λK=>by rw[eT];exact Db K (by rw[hT.len];omega)
   have sxA:∀(K:AV->St->Option (AV×St))(s':St),ak c (.idxA 9 none) [V2,.int .i64 (a:Int)] s' K=K (.ptr bA (oA+a*9)) s':=λK s'=>by rw[eA];exact Gc c K s' (by rw[hG.len];omega)
   have sxT:∀(K:AV->St->Option (AV×St))(s':St),ak c (.idxA 7 none) [V1,.int .i64 (t:Int)] s' K=K (.ptr bT (oT+t*7)) s':=λK s'=>by rw[eT];exact Gc c K s' (by rw[hT.len];omega)
   have cA:=λ(l l':List AV)(K:AV->Option (AV×St))=>uR K (o:=1) (v:=V2) (h:=(ah s2 (.cells l 0)).heap) (h2:=(ah s2 (.cells l' 0)).heap) (p:=s.next) (by rw[hP];rfl) (by rw[hP];rfl) hG.out.own.beq
   have cP:=λ(l l':List AV)(K:AV->Option (AV×St))=>uR K (o:=0) (v:=V1) (h:=(ah s2 (.cells l 0)).heap) (h2:=(ah s2 (.cells l' 0)).heap) (p:=s.next) (by rw[hP];rfl) (by rw[hP];rfl) hT.out.own.beq
   have sb:∀u:List Nat,fj (.str u) (.str u)=true:=λu=>by simp[fj,kF,gy,kj.2 rfl]
   clear eA eB eT;generalize oA+a*9=qA at*
   generalize oB+b*9=qB at*
   generalize oT+t*7=qT at*
   have cB:=λ(l l':List AV)(K:AV->Option (AV×St))=>uR K (o:=qB+0) (v:= .str (kD gs b)) (h:=(ah s2 (.cells l 0)).heap) (h2:=(ah s2 (.cells l' 0)).heap) (p:=bB) (by rw[ac4];exact nB) (by rw[ac4];exact nB) (sb _)
   have cTn:=λ(l l':List AV)(K:AV->Option (AV×St))=>uR K (o:=qT+0) (v:= .str (rq ts t)) (h:=(ah s2 (.cells l 0)).heap) (h2:=(ah s2 (.cells l' 0)).heap) (p:=bT) (by rw[heapT];exact nT) (by rw[heapT];exact nT) (sb _)
   have rdA:∀(l:List AV)(K:AV->Option (AV×St)),kR (.load none) [.ptr bA (qA+0)] (ah s2 (.cells l 0)).heap (λ_=>true) K=K (.str (kD gs a)):=λl K=>by rw[oK,Yu,Zh5,show(cellsOf (some (.cells csA 0))).bind (λcs=>cs[qA]?)=some (.str (kD gs a))from nA];rfl
   have su2:∀(k w n:Int)(a b t u:List Nat)(K:AV->St->Option (AV×St)),ak c (.store 1) [.ptr s2.next (0+2),.str u] (ah s2 (.cells (eu k w a b t n) 0)) K=K .undef (ah s2 (.cells (eu k w u b t n) 0)):=λk w n a b t u K=>W0 k w n a b t u s2 K
   have su3:∀(k w n:Int)(a b t u:List Nat)(K:AV->St->Option (AV×St)),ak c (.store 1) [.ptr s2.next (0+3),.str u] (ah s2 (.cells (eu k w a b t n) 0)) K=K .undef (ah s2 (.cells (eu k w a u t n) 0)):=λk w n a b t u K=>adW k w n a b t u s2 K
   have su4:∀(k w n:Int)(a b t u:List Nat)(K:AV->St->Option (AV×St)),ak c (.store 1) [.ptr s2.next (0+4),.str u] (ah s2 (.cells (eu k w a b t n) 0)) K=K .undef (ah s2 (.cells (eu k w a b u n) 0)):=λk w n a b t u K=>W4 k w n a b t u s2 K
   have Rg:∀(k w n:Int)(a b t:List Nat)(K:AV->St->Option (AV×St)),ak c (.load none) [.ptr s2.next (0+0)] (ah s2 (.cells (eu k w a b t n) 0)) K=K (.int .u8 k) (ah s2 (.cells (eu k w a b t n) 0)):=λk w n a b t K=>by rw[iG,aD];rfl
   refine qM (P:=λj=>¬(k=1\/k=2\/k=3\/k=4\/k=5\/k=6\/k=7\/k=10\/k=17)->Q (j [.int .i64 (z:Int),.ptr s.next 0,.ptr p4 0,.ptr s2.next 0,.int .i64 (t:Int)] (ah s2 (.cells (eu k w [] [] [] (if k=15\/k=16 then(n:Int)else 0)) 0)))) ?_ ?_
   . intro hns;obtain⟨z3,e3⟩:∃z3:Nat,z3=z % 3:=⟨_,rfl⟩
     have E6:(z:Int) % 3=(z3:Int):=(by omega);have hf:=hR;unfold GV at hf;rw[Za5 (by omega),Za5 (by omega),Za5 (by omega),Za5 (by omega), <-e3]at hf;obtain⟨n',NB⟩:∃n':Int,n'=(if k=15\/k=16 then(n:Int)else 0):=⟨_,rfl⟩
     rw[<-NB]at hf ⊢;by_cases h3:0<z3
     .  have hd:decide (0<z3)=true:=Za0 h3;rw[Za7 h3]at hf;have:=yc k w n' [] [] (rq ts t) true (by rw[hf]) (by rw[hf]);simp (disch:=omega) [-fP,gM,Zb3,bN,E6,hd,hP,sxT,heapT,nT,W4,cu,fin,dx];exact this
     .  have hd:decide (0<z3)=false:=Za2 h3;rw[Za5 h3]at hf;have:=yc k w n' [] [] [] true (by rw[hf]) (by rw[hf]);simp (disch:=omega) [-fP,gM,bN,E6,hd,cu,fin,dx];exact this
   . intro  j40 UK;rw[cC,Rg];refine qM (P:=λj=>Q (j [.int .i64 (z:Int),.ptr s.next 0,.ptr p4 0,.ptr s2.next 0,.int .i64 (a:Int),.int .i64 (b:Int),.int .i64 (t:Int),.int .i64 (n:Int),.int .u8 (k:Int),.bool (decide (k=1\/k=2\/k=3\/k=4\/k=5))] (ah s2 (.cells (eu k w [] [] [] 0) 0)))) ?_ ?_
     .  rw[ aB, aB, aB,aB,aB,aB,aB,aB,aB,aB,bu];by_cases h5:k=1\/k=2\/k=3\/k=4\/k=5
        . rw[ Za0 h5,e8];have hf:=hR;unfold GV at hf;rw[Za7 h5]at hf;have fF:Q (some (.tuple [.agg (eu k w (kD gs a) (kD gs b) [] (if k=4 then(n:Int)+1 else if k=1 then(n:Int)else 0)),.bool (!decide ((a:Int)=(b:Int)))],b9 (ah s2 (.cells (eu k w (kD gs a) (kD gs b) [] (if k=4 then(n:Int)+1 else if k=1 then(n:Int)else 0)) 0)) p4 (.cells (eu k w (kD gs a) (kD gs b) [] (if k=4 then(n:Int)+1 else if k=1 then(n:Int)else 0)) 0))):=
            yc k w _ (kD gs a) (kD gs b) [] _ (by rw[hf];rfl) (by rw[hf];simp;omega)
          have wn:aq .i64 ((n:Int)+1)=(n:Int)+1:=wrap64 (by omega) (by omega);clear yc UK;rw[bn,Ww,cZ,ixA,bn,rdA,bn,su2,bn,cA,cZ,ixB,bn,cB,bn,su3];refine qM (P:=λj=>Q (j [.ptr p4 0,.ptr s2.next 0,.int .i64 (a:Int),.int .i64 (b:Int)] (ah s2 (.cells (eu k w (kD gs a) (kD gs b) [] (if k=1\/k=4 then(n:Int)else 0)) 0)))) ?_ ?_
          . rw[ aB,aB,aB,aB,bu];refine qM (P:=λj=>Q (j [.ptr p4 0,.ptr s2.next 0,.int .i64 (a:Int),.int .i64 (b:Int)] (ah s2 (.cells (eu k w (kD gs a) (kD gs b) [] (if k=4 then(n:Int)+1 else if k=1 then(n:Int)else 0)) 0)))) ?_ ?_
            . generalize (if k=4 then(n:Int)+1 else if k=1 then(n:Int)else 0)=n6 at*
              simp[cu,fin,dx];exact fF
            . intro j hj;by_cases h4:k=4
              .have hd:decide ((k:Int)=4)=true:=Za0 (by omega);rw[Za7 h4]at hj;rw[Za7 (.inr h4),cC,Rg,fe,hd,e8];simp[wn,AX];exact hj
              .have hd:decide ((k:Int)=4)=false:=Za2 (by omega);rw[Za5 h4]at hj;rw[show(if k=1\/k=4 then(n:Int)else 0)=(if k=1 then(n:Int)else 0)by by_cases h1:k=1<;>simp[h1,h4],cC,Rg,fe,hd,eI];exact hj
          . intro j hj;rw[cC,Rg,fe,aC];by_cases h1:k=1
            .rw[Za7 (.inl h1)]at hj;rw[Za0 (show(k:Int)=1 by omega)];simp[AX];exact hj
            . rw[Za2 (show ¬(k:Int)=1 by omega)];by_cases h4:k=4
              .rw[Za7 (.inr h4)]at hj;have hd:decide ((k:Int)=4)=true:=Za0 (by omega);rw[pR,cC,pR,Rg,pR,fe,hd];simp[AX];exact hj
              .rw[Za5 (by omega)]at hj;have hd:decide ((k:Int)=4)=false:=Za2 (by omega);rw[pR,cC,pR,Rg,pR,fe,hd];simp;exact hj
        . rw[ Za2 h5, eI];refine qM (P:=λj=>Q (j [.int .i64 (z:Int),.ptr s.next 0,.ptr p4 0,.ptr s2.next 0,.int .i64 (a:Int),.int .i64 (t:Int),.int .i64 (n:Int),.int .u8 (k:Int),.bool (decide (k=6\/k=7))] (ah s2 (.cells (eu k w [] [] [] 0) 0)))) ?_ ?_
          . rw[ aB, aB,aB,aB,aB,aB,aB,aB,aB,bu];by_cases h67:k=6\/k=7
            . rw[ Za0 h67,e8];have hf:=hR;unfold GV at hf;rw[Za5 h5,Za7 h67]at hf;obtain⟨sz1,sz2,sz3⟩:=aeF hz (t:=t) (by omega);obtain⟨ha1,ha2⟩:=ha _ (Zc6 (show t<ts.length by omega));obtain⟨OK,e13⟩:∃OK:Nat,OK=z / 13:=⟨_,rfl⟩
              have E13:(z:Int) / 13=(OK:Int):=(by omega);rw[<-e13]at hf;have SZ:∀l:List AV,c 65 [.agg (ts[t].aA vT)] (ah s2 (.cells l 0))=some (.int .i64 (vk ts t),ah s2 (.cells l 0)):=λl=>by rw[sz1];exact GU hc rfl rfl rfl ha1 ha2 _ (bK acz)
              have fF:Q (some (.tuple [.agg (eu k w (kD gs a) [] (rq ts t) (if k=7 then(OK:Int) % vk ts t else 0)),.bool true],b9 (ah s2 (.cells (eu k w (kD gs a) [] (rq ts t) (if k=7 then(OK:Int) % vk ts t else 0)) 0)) p4 (.cells (eu k w (kD gs a) [] (rq ts t) (if k=7 then(OK:Int) % vk ts t else 0)) 0))):=
                yc k w _ (kD gs a) [] (rq ts t) _ (by rw[hf]) (by rw[hf])
              clear yc UK;rw[bn,Ww,cZ,ixA,bn,rdA,bn,su2,bn,cP,cZ,ixT,bn,cTn,bn,su4];refine qM (P:=λj=>Q (j [.ptr p4 0,.ptr s2.next 0] (ah s2 (.cells (eu k w (kD gs a) [] (rq ts t) (if k=7 then(OK:Int) % vk ts t else 0)) 0)))) ?_ ?_
              . generalize (if k=7 then(OK:Int) % vk ts t else 0)=n6 at*
                simp[cu,fin,dx];exact fF
              . intro j hj;by_cases h7:k=7
                . have hd:decide ((k:Int)=7)=true:=Za0 (by omega);rw[Za7 h7]at hj;have q:=λ(K:AV->St->Option (AV×St))(s':St)=>bN (c:=c) (k:= .i64) (a:=(OK:Int)) (b:=vk ts t) (by omega) sz2 s' K
                  generalize vk ts t=Z at*
                  rw[cC,Rg,fe,hd,e8,aC,eG (by omega) (by omega) (by omega),E13];simp[-fP,q,hP,sxT,heapT,cT,SZ,AX];exact hj
                .have hd:decide ((k:Int)=7)=false:=Za2 (by omega);rw[Za5 h7]at hj;rw[cC,Rg,fe,hd,eI];exact hj
            . rw[ Za2 h67,eI,fe,aC];by_cases h10:k=10
              . have hf:=hR;unfold GV at hf;rw[Za5 h5,Za5 h67,Za7 h10]at hf;obtain⟨z3,e3⟩:∃z3:Nat,z3=z % 3:=⟨_,rfl⟩
                have E6:(z:Int) % 3=(z3:Int):=(by omega);rw[<-e3]at hf;rw[Za0 (show(k:Int)=10 by omega),e8];by_cases h3:z3=0
                .have hd:decide ((z3:Int)=0)=true:=Za0 (by omega);rw[Za7 h3]at hf;have fF:=yc k w 0 (kD gs a) [] [] true (by rw[hf]) (by rw[hf]);rw[qK,aC,bN (by omega) (by omega),E6,fe,hd,e8];simp[hP,sxA,Yu,nA,W0,cu,fin,dx];exact fF
                .have hd:decide ((z3:Int)=0)=false:=Za2 (by omega);rw[Za5 h3]at hf;have fF:=yc k w 0 [] [] [] true (by rw[hf]) (by rw[hf]);rw[qK,aC,bN (by omega) (by omega),E6,fe,hd,eI];simp[cu,fin,dx];exact fF
              . rw[ Za2 (show ¬(k:Int)=10 by omega),eI,fe,aC];by_cases h17:k=17
                . have hf:=hR;unfold GV at hf;rw[Za5 h5,Za5 h67,Za5 h10,Za7 h17]at hf;rw[Za0 (show(k:Int)=17 by omega),e8];have fF:=yc k w 0 (zc gs a) [] (rq ts t) (!decide (zc gs a=[])) (by rw[hf]) (by rw[hf];simp);have n46:p4≠s2.next:=λe=>by subst e;omega
                  have cD:=λ(K:AV->Option (AV×St))=>uR K (o:=0+2) (v:= .str (zc gs a)) (h:=(b9 (ah s2 (.cells (eu k w (zc gs a) [] (rq ts t) 0) 0)) p4 (.cells (eu k w (zc gs a) [] (rq ts t) 0) 0)).heap) (h2:=(ah s2 (.cells (eu k w (zc gs a) [] (rq ts t) 0) 0)).heap) (p:=s2.next) (by rw[bk n46,aD];rfl) (by rw[aD];rfl) (sb _)
                  have rdD:∀(l:List AV)(K:AV->Option (AV×St)),kR (.load none) [.ptr bA (qA+5)] (ah s2 (.cells l 0)).heap (λ_=>true) K=K (.str (zc gs a)):=λl K=>by rw[oK,Yu,show(cellsOf (some (.cells csA 0))).bind (λcs=>cs[qA+5]?)=some (.str (zc gs a))from dA];rfl
                  have rdR:∀(K:AV->Option (AV×St)),kR (.load (some 6)) [.ptr s2.next 0] (ah s2 (.cells (eu k w (zc gs a) [] (rq ts t) 0) 0)).heap (λ_=>true) K=K (.agg (eu k w (zc gs a) [] (rq ts t) 0)):=λK=>by rw[Dx,aD];rfl
                  rw[bn,Ww,cZ,ixA,bn,rdD,bn,su2,bn,cP,cZ,ixT,bn,cTn,bn,su4,rdR,fin,bn,cD,abv,cZ,Mn,dx];exact fF
                . rw[ Za2 (show ¬(k:Int)=17 by omega),eI];have hj:=UK (by omega);clear UK yc;by_cases h15:k=15
                  .have hd:decide ((k:Int)=15)=true:=Za0 (by omega);rw[Za7 (.inl h15)]at hj;rw[qK,fe,aC,hd,e8];simp[AX];exact hj
                  . have hd:decide ((k:Int)=15)=false:=Za2 (by omega);by_cases h16:k=16
                    .have Nr:decide ((k:Int)=16)=true:=Za0 (by omega);rw[Za7 (.inr h16)]at hj;rw[qK,fe,aC,hd,eI,fe,aC,Nr];simp[AX];exact hj
                    .have Nr:decide ((k:Int)=16)=false:=Za2 (by omega);rw[Za5 (by omega)]at hj;rw[qK,fe,aC,hd,eI,fe,aC,Nr];simp;exact hj
          . intro j hj;by_cases h6:k=6
            .rw[Za0 (.inl h6)]at hj;rw[fe,aC,Za0 (show(k:Int)=6 by omega),e8];exact hj
            .rw[fe,aC,Za2 (show ¬(k:Int)=6 by omega),eI,fe,aC];rw[show decide ((k:Int)=7)=decide (k=6\/k=7)by rw[decide_eq_decide];omega];exact hj
     .  intro j hj;clear yc UK hR;rcases Ws kg iu with rfl|rfl|rfl|rfl|rfl|rfl|rfl|rfl|rfl|rfl|rfl|rfl|rfl|rfl|rfl|rfl|rfl|rfl
        all_goals
          simp at hj ⊢;exact hj
 . intro j hj;by_cases h1:1<y5
   .have e:((w:Nat):Int)=1+(y7:Int):=(by rw[hwt];unfold JC;rw[Za7 (by omega)];omega);rw[e]at hj;have hd:decide ((1:Int)<(y5:Int))=true:=Za0 (by omega);simp (disch:=omega) [-fP,bN,E3,E4,hd,W2,adV];exact hj
   .have e:((w:Nat):Int)=0:=(by rw[hwt];unfold JC;rw[Za5 (by omega)];rfl);rw[e]at hj;have hd:decide ((1:Int)<(y5:Int))=false:=Za2 (by omega);simp (disch:=omega) [-fP,bN,E3,hd];exact hj
structure KX(p:Pos)(sA s:St):Prop where
 wf:Wf s
 next:sA.next.toNat<=s.next.toNat
 keep:∀(b:Pos)(x:AB),b≠p->sA.heap.get b=some x->s.heap.get b=some x
theorem KX.refl{p:Pos}{s:St}(hw:Wf s):KX p s s:=⟨hw,Za6 _,λ_ _ _ h=>h⟩
theorem KX.trans{p:Pos}{a b d:St}(h:KX p a b)(g:KX p b d):KX p a d:=⟨g.wf,Zc8 h.next g.next,λq x hq hx=>g.keep q x hq (h.keep q x hq hx)⟩
theorem KX.aE{p:Pos}{a b d:St}(h:KX p a b)(g:Grew b d):KX p a d:=⟨g.wf,Zc8 h.next g.next,λq x hq hx=>g.get (h.keep q x hq hx)⟩
theorem KX.store{p:Pos}{a b:St}(h:KX p a b)(hp:p.toNat<b.next.toNat)(x:AB):KX p a (b9 b p x):=
 ⟨Em h.wf hp,h.next,λq y hq hy=>by rw[bk (λe=>hq e.symm)];exact h.keep q y hq hy⟩
def TS.mP(n:Nat)(V:AV)(rows:List (List AV)):Prop:=(∀b,aZ V=some b->n<=b.toNat)/\∀(i:Nat)(r:List AV)(v:AV)(b:Pos),rows[i]? =some r->r[4]? =some v->aZ v=some b->n<=b.toNat
def GS.mP(n:Nat)(V:AV)(rows:List (List AV)):Prop:=(∀b,aZ V=some b->n<=b.toNat)/\∀(i:Nat)(r:List AV)(v:AV)(b:Pos),rows[i]? =some r->r[8]? =some v->aZ v=some b->n<=b.toNat
theorem ru{st s:St}{p:Pos}(h0:Wf st)(h:Grew st s)(hp:st.next.toNat<=p.toNat)(xx:p.toNat<s.next.toNat)(b:AB):Grew st (b9 s p b):=
 ⟨Em h.wf xx,λq x hq=>by have:=h0 _ _ hq;rw[bk (λe=>by rw[e]at hp;omega)];exact h.get hq,by rw[Br];exact h.next⟩
theorem TS.kx{st sA s:St}{p:Pos}{V:AV}{ts:List aU}{rows:List (List AV)}(h:TS st sA V ts rows)(k:KX p sA s)(g:Grew st s)(hs:TS.mP (p.toNat+1) V rows):TS st s V ts rows:=
 h.ud g λb x _ hb hx=>k.keep b x (λe=>by
  subst e;rcases hb with hb|⟨i,r,v,h1,h2,h3⟩
  .have:=hs.1 _ hb;omega
  .have:=hs.2 i r v _ h1 h2 h3;omega) hx
theorem GS.kx{st sA s:St}{p:Pos}{V:AV}{ts:List aM}{rows:List (List AV)}(h:GS st sA V ts rows)(k:KX p sA s)(g:Grew st s)(hs:GS.mP (p.toNat+1) V rows):GS st s V ts rows:=
 h.ud g λb x _ hb hx=>k.keep b x (λe=>by
  subst e;rcases hb with hb|⟨i,r,v,h1,h2,h3⟩
  .have:=hs.1 _ hb;omega
  .have:=hs.2 i r v _ h1 h2 h3;omega) hx
theorem Mk.kx{es:Nat}{st sA s:St}{p:Pos}{V:AV}{rows:List (List AV)}(h:Mk es st sA V rows)(k:KX p sA s)(g:Grew st s)(hs:∀b,aZ V=some b->p.toNat+1<=b.toNat):Mk es st s V rows:=
 Mk.ud h g λb x hb hx=>k.keep b x (λe=>by subst e;have:=hs _ hb;omega) hx
theorem TS.push{st s:St}{V:AV}{ts:List aU}{rows:List (List AV)}(h:TS st s V ts rows){t:aU}{v:AV}(M:Mk 1 st s v (t.pM.map cv))(hv:∀b,aZ v=some b->aZ V≠some b)(hlen:ts.length<=1000):
   ∃s5 V5,(∀(K:AV->St->Option (AV×St)),ak c (.buildSlice 7 1 [.str [],.int .u8 0,.int .i64 0,.int .i64 0,.af,.int .i64 0,.int .i64 0] [0]) [.agg (t.aA v)] s (λy q=>ak c (.append 7 80) [V,y] q K)=K V5 s5)/\
    TS st s5 V5 (ts++[t]) (rows++[t.aA v])/\(∀(p:Pos)(b:AB),aZ V≠some p->s.heap.get p=some b->s5.heap.get p=some b)/\∀b,aZ V5=some b->s.next.toNat<=b.toNat:=by
 have hl:=h.len;have hw:=h.out.aE.wf;obtain⟨s5,V5,a1,a2,a3,a4⟩:=h.out.push (c:=c) (R:=AV×St) (bytes:=80) (z:=[.str [],.int .u8 0,.int .i64 0,.int .i64 0,.af,.int .i64 0,.int .i64 0]) (x:= .agg (t.aA v)) rfl rfl (t.MG M.cells.2) (by decide) (by omega) (by omega);have small:∀(u:AV)(rw:List (List AV)),Mk 1 st s u rw->(∀b,aZ u=some b->aZ V≠some b)->Mk 1 st s5 u rw/\∀b,aZ u=some b->aZ V5≠some b:=λu rw hu cF=>
   ⟨Mk.ud hu a2.aE λb y hb hy=>a3 b y (cF b hb) hy,λb hb e=>by have p1:=a4 b e;have p2:=hu.own.lt hw hb;omega⟩
 refine⟨s5,V5,a1,⟨a2,by simp[hl],λi t' r hi hr=> ?_⟩,a3,a4⟩;by_cases Cw:i<ts.length
 .rw[Zb7 (by rw[hl];exact Cw)]at hr;rw[Zb7 Cw]at hi;obtain⟨u,e1,e2,e3⟩:=h.qt i t' r hi hr;obtain⟨f1,f2⟩:=small u _ e2 e3;exact⟨u,e1,f1,f2⟩
 .have jX:=(Za3.1 hi).1;simp at jX;obtain rfl:i=ts.length:=(by omega);rw[Zc2 (by rw[hl];exact Za6 _)]at hr;rw[Zc2 (Za6 _)]at hi;simp[hl]at hr hi;subst hi;subst hr;obtain⟨f1,f2⟩:=small v _ M hv;exact⟨v,rfl,f1,f2⟩
def JD(s:List Nat):List AV:=[.str s]
def B8(x k:Nat):Bool:=decide (x / 2 ^ (6+2*k) % 4=1)
theorem aeG(x k:Nat):B8 x k=decide (x / 2 ^ (6+2*k) % 4=1):=by rw[B8]
def xI(x k:Nat):List (List Nat):=((List.range k).filter (B8 x)).map br
theorem UL(x k:Nat):xI x (k+1)=xI x k++(if B8 x k=true then [br k]else []):=by
 unfold xI;rw[Zj2,List.filter_append,Ze2];congr 1;cases h:B8 x k with
 |true=>simp[h]
 |false=>simp[h]
theorem adX(x k:Nat):(xI x k).length<=k:=by have:=List.length_filter_le (B8 x) (List.range k);rw[Zp6]at this;unfold xI;rw[Za9];exact this
structure GI(s0 s:St)(p8:Pos)(g:aM)(x k:Nat)(v:AV):Prop where
 out:Mk 1 s0 s v ((xI x k).map JD)
 h8:s.heap.get p8=some (.cells (g.aA v) 0)
 n8:aZ v≠some p8
theorem Vx(hc:cE c){g:aM}{x:Nat}(hx:x<1000000){s0:St}{p8:Pos}(h8:s0.next.toNat<=p8.toNat)(x0 x1 x4 x5 x6:AV)
  :∀(m k:Nat)(s:St)(v:AV),GI s0 s p8 g x k v->k+m=4->
  ∃s' v',GI s0 s' p8 g x 4 v'/\∀(F:Nat)(k4:List AV->St->Option (AV×St))(f:Nat),m<f->fD c F k4 f [x0,x1,x4,x5,x6,.int .i64 (x:Int),.ptr p8 0,.int .i64 (k:Int)] s=k4 [x0,x1,x4,x5,x6,.ptr p8 0] s':=by
 intro m;induction m with
 |zero=>
  intro k s v hT h1;obtain rfl:k=4:=by omega
  refine⟨s,v,hT,λF k4 f hf=> ?_⟩;obtain⟨f,rfl⟩:∃g,f=g+1:=⟨f - 1,by omega⟩
  rw[ni];simp
 |succ m ih=>
  intro k s v hT h1;have hw:=hT.out.aE.wf;have h:k<4:=by omega
  . have Ll:(0:Int)<=(x:Int):=Int.natCast_nonneg x;have w:aq .i64 ((k:Int)+1)=((k+1:Nat):Int):=wrap64 (by omega) (by omega);have w1:aq .i64 (2*(k:Int))=2*(k:Int):=wrap64 (by omega) (by omega);have w2:aq .i64 (6+2*(k:Int))=6+2*(k:Int):=wrap64 (by omega) (by omega);have e2:6+2*(k:Int)=((6+2*k:Nat):Int):=(by omega);have hk64:6+2*k<=64:=(by omega);have sr:∀(s:St)(K:AV->St->Option (AV×St)),ak c (.bin .shr .num) [.int .i64 (x:Int),.int .i64 (6+2*(k:Int))] s K=K (.int .i64 ((x:Int) / 2 ^ (6+2*k))) s:=λs K=>by rw[e2];exact Tz hk64 s K
    have p0:(0:Int)<=(x:Int) / 2 ^ (6+2*k):=Zq5 Ll (Int.le_of_lt (Int.pow_pos (by decide)));have r1:=λ(s:St)(K:AV->St->Option (AV×St))=>bN (c:=c) (k:= .i64) (a:=(x:Int) / 2 ^ (6+2*k)) (b:=4) p0 (by decide) s K
    have d1:decide ((x:Int) / 2 ^ (6+2*k) % 4=1)=decide (x / 2 ^ (6+2*k) % 4=1):=(by have:((x:Int) / 2 ^ (6+2*k) % 4=1)↔(x / 2 ^ (6+2*k) % 4=1):=(by rw[show((x:Int) / 2 ^ (6+2*k) % 4)=((x / 2 ^ (6+2*k) % 4:Nat):Int)by simp];omega);exact decide_eq_decide.2 this);have c8:(g.aA v)[8]? =some v:=rfl;have fin:=aeG x k;have N:=rY hc k (by omega) s hw;have hd:decide ((k:Int)<4)=true:=Za0 (by omega);cases hq:B8 x k with
    |   true=>
        have hrl:((xI x k).map JD).length<=4:=(by rw[Za9];have:=adX x k;omega);obtain⟨s5,v5,a1,a2,a3,a4⟩:=hT.out.push (c:=c) (R:=AV×St) (bytes:=16) (z:=[.str []]) (x:= .str (br k)) rfl rfl rfl (by decide) (by omega) (by omega);have e:(xI x (k+1)).map JD=(xI x k).map JD++[(.str (br k):AV).cells]:=(by rw[UL,Za7 hq,Ze2];rfl);rw[<-e]at a2;have y8:=a3 p8 _ hT.n8 hT.h8;have l8:=hw p8 _ hT.h8;have b8:aZ v5≠some p8:=λe=>by have:=a4 _ e;omega
        have hw5:=a2.aE.wf;have l8':=hw5 p8 _ y8;have M:=a2.store (p:=p8) (b:= .cells (g.aA v5) 0) h8 l8' b8;obtain⟨vc,v1⟩:=a2.cells;have aN:∀(K:AV->St->Option (AV×St)),ak c (.store 1) [.ptr p8 8,v5] s5 K=K .undef (b9 s5 p8 (.cells (g.aA v5) 0)):=λK=>by rw[dh c K s5 1 p8 8 v5 (g.aA v) y8 (by rw[vc];rfl) (by simp[aM.aA]) (by rw[vc];exact v1),vc];rfl
        obtain⟨s',v',b1,b2⟩:=ih (k+1) _ v5 ⟨M,dx _ _ _,b8⟩ (by omega);refine⟨s',v',b1,λF k4 f hf=> ?_⟩;obtain⟨f,rfl⟩:∃g,f=g+1:=⟨f - 1,by omega⟩
        rw[<-b2 F k4 f (by omega),ni];rw[fin]at hq;simp[-bf,hT.h8,hd,gM,sr,r1,d1,hq,c8,N,a1,aN,w,w1,w2]
    |   false=>
        have e:(xI x (k+1))=(xI x k):=(by rw[UL,Za5 (by rw[hq];decide),Zf0]);obtain⟨s',v',b1,b2⟩:=ih (k+1) s v ⟨by rw[e];exact hT.out,hT.h8,hT.n8⟩ (by omega);refine⟨s',v',b1,λF k4 f hf=> ?_⟩;obtain⟨f,rfl⟩:∃g,f=g+1:=⟨f - 1,by omega⟩
        rw[<-b2 F k4 f (by omega),ni];rw[fin]at hq;simp[-bf,hd,gM,sr,r1,d1,hq,w,w1,w2]
def yd(i:Nat):Nat:=25*i % 312+i / 12
def tq(i x:Nat):aM:=⟨br (yd i),if x % 2=1 then br (x % 3)else [],if 4<x % 8 then br (x % 8)else [],((x % 4*500:Nat):Int),((x % 3:Nat):Int),if x % 3=2 then br (x % 5)else [],decide (x % 5=0),decide (x % 7=0),true,xI x 4⟩
theorem UM{es:Nat}{s0 s s':St}{v:AV}{rows:List (List AV)}(h:Mk es s0 s v rows)(hg:Grew s0 s')(hk:∀b x,aZ v=some b->s.heap.get b=some x->s'.heap.get b=some x):Mk es s0 s' v rows:=
 ⟨h.qi,hg,h.own.mono hk,h.new,h.row,h.cap,λb hb=>hk b _ hb (h.tight b hb)⟩
structure GL(st s:St)(p4 p5:Pos)(V W:AV)(gs:List aM)(rows:List (List AV)):Prop where
 out:Mk 9 st s V rows
 len:rows.length=gs.length
 qt:∀(i:Nat)(g:aM)(r:List AV),gs[i]? =some g->rows[i]? =some r->∃v,r=g.aA v/\Mk 1 st s v (g.tg.map JD)/\∀b,aZ v=some b->aZ V≠some b/\b≠p4/\b≠p5
 h4:s.heap.get p4=some (.cells [.af,.af] 0)
 h5:s.heap.get p5=some (.cells [V,W] 0)
 n4:aZ V≠some p4
 n5:aZ V≠some p5
theorem adY(g:aM){v:AV}(h:aL [v]=true):aL (g.aA v)=true:=by
 simp only[aL]at h;unfold aM.aA;simp only[aL,AV.one,h,Zi8,Zk8]at*
theorem GL.push{st s s1:St}{p4 p5:Pos}{V W:AV}{gs:List aM}{rows:List (List AV)}(h:GL st s p4 p5 V W gs rows)(Ff:p4≠p5)(Dc:st.next.toNat<=p5.toNat){g:aM}{v:AV}(M:Mk 1 s s1 v (g.tg.map JD))(hlen:rows.length<=1000):
   ∃ s5 s6 V5,(∀(K:AV->St->Option (AV×St)),ak c (.buildSlice 9 1 [.str [],.str [],.str [],.int .i64 0,.int .i64 0,.str [],.bool false,.bool false,.af] [0]) [.agg (g.aA v)] s1 (λy t=>ak c (.append 9 112) [V,y] t K)=K V5 s5)/\
     (∀(K:AV->St->Option (AV×St)),ak c (.store 1) [.ptr p5 0,V5] s5 K=K .undef s6)/\s1.heap.get p5=some (.cells [V,W] 0)/\GL st s6 p4 p5 V5 W (gs++[g]) (rows++[g.aA v]):=by
 have hw:=h.out.aE.wf;have O1:=h.out.grow M.aE;obtain⟨s5,V5,a1,a2,a3,a4⟩:=O1.push (c:=c) (R:=AV×St) (bytes:=112) (z:=[.str [],.str [],.str [],.int .i64 0,.int .i64 0,.str [],.bool false,.bool false,.af]) (x:= .agg (g.aA v)) rfl rfl (adY g M.cells.2) (by decide) (by omega) (by omega);have y4:=a3 p4 _ h.n4 (M.aE.get h.h4);have y5:=a3 p5 _ h.n5 (M.aE.get h.h5);have l4:=hw p4 _ h.h4;have l5:=hw p5 _ h.h5;have nx:=M.aE.next;have b4:aZ V5≠some p4:=λe=>by have:=a4 _ e;omega
 have b5:aZ V5≠some p5:=λe=>by have:=a4 _ e;omega
 have l5':=a2.aE.wf p5 _ y5;obtain⟨vc,v1⟩:=a2.cells;have aN:∀(K:AV->St->Option (AV×St)),ak c (.store 1) [.ptr p5 0,V5] s5 K=K .undef (b9 s5 p5 (.cells [V5,W] 0)):=λK=>by rw[dh c K s5 1 p5 0 V5 [V,W] y5 (by rw[vc];rfl) (by simp) (by rw[vc];exact v1),vc];rfl
 have M6:=a2.store (p:=p5) (b:= .cells [V5,W] 0) Dc l5' b5;have Mv:=M.back h.out.qi h.out.aE;have vV:∀b,aZ v=some b->aZ V≠some b/\b≠p4/\b≠p5:=λb hb=>by
   have p1:=M.new b hb;refine⟨λe=> ?_,λe=> ?_,λe=> ?_⟩
   .have:=h.out.own.lt hw e;omega
   .subst e;omega
   .subst e;omega
 have small:∀(u:AV)(rw:List (List AV)),Mk 1 st s1 u rw->(∀b,aZ u=some b->aZ V≠some b/\b≠p4/\b≠p5)->Mk 1 st (b9 s5 p5 (.cells [V5,W] 0)) u rw/\∀b,aZ u=some b->aZ V5≠some b/\b≠p4/\b≠p5:=λu rw hu cF=>by
   refine⟨UM hu M6.aE λb y hb hy=> ?_,λb hb=>⟨λe=> ?_,(cF b hb).2⟩⟩
   .rw[bk (λe=>(cF b hb).2.2 e.symm)];exact a3 b y (cF b hb).1 hy
   .have p1:=a4 b e;have p2:=hu.own.lt hu.aE.wf hb;omega
 refine⟨s5,_,V5,a1,aN,M.aE.get h.h5,⟨M6,by simp[h.len],λi t r hi UN=> ?_,by rw[bk (λe=>Ff e.symm)];exact y4,dx _ _ _,b4,b5⟩⟩;by_cases Cw:i<gs.length
 .rw[Zb7 (by rw[h.len];exact Cw)]at UN;rw[Zb7 Cw]at hi;obtain⟨u,e1,e2,e3⟩:=h.qt i t r hi UN;obtain⟨f1,f2⟩:=small u _ (e2.grow M.aE) e3;exact⟨u,e1,f1,f2⟩
 .have jX:=(Za3.1 hi).1;simp at jX;obtain rfl:i=gs.length:=(by omega);rw[Zc2 (by rw[h.len];exact Za6 _)]at UN;rw[Zc2 (Za6 _)]at hi;simp[h.len]at UN hi;subst hi;subst UN;obtain⟨f1,f2⟩:=small v _ Mv vV;exact⟨v,rfl,f1,f2⟩
def bR(k:IntKind)(z:Bool)(l:List Nat):AV:=ro 1 z (l.map λ(i:Nat)=>[.int k (i:Int)])
def w6(xs:List Nat)(k:Nat):List aM:=(List.range k).map λi=>tq i (xs.getD i 0)
theorem aav(xs:List Nat)(k:Nat)(h:k<xs.length):w6 xs (k+1)=w6 xs k++[tq k xs[k]]:=by
 unfold w6;rw[Zj2,Ze2];simp[Zb4,h]
theorem B9(xs:List Nat)(k:Nat):(w6 xs k).length=k:=by simp[w6]
def zG:List AV:=[.str [],.str [],.str [],.int .i64 0,.int .i64 0,.str [],.bool false,.bool false,.af]
theorem mQ(s:St)(K:AV->St->Option (AV×St)):ak c (.alloc [.str [],.str [],.str [],.int .i64 0,.int .i64 0,.str [],.bool false,.bool false,.af]) [] s K=K (.ptr s.next 0) (ah s (.cells zG 0)):=rfl
theorem mR(nm:List Nat)(u y:Int)(b d:Bool)(s:St)(K:AV->St->Option (AV×St)):ak c (.build [.str [],.str [],.str [],.int .i64 0,.int .i64 0,.str [],.bool false,.bool false,.af] [(0,1),(3,1),(4,1),(6,1),(7,1)]) [.str nm,.int .i64 u,.int .i64 y,.bool b,.bool d] s K=K (.agg [.str nm,.str [],.str [],.int .i64 u,.int .i64 y,.str [],.bool b,.bool d,.af]) s:=rfl
theorem mS(nm:List Nat)(u y:Int)(b d:Bool)(s:St)(K:AV->St->Option (AV×St)):ak c (.store 9) [.ptr s.next 0,.agg [.str nm,.str [],.str [],.int .i64 u,.int .i64 y,.str [],.bool b,.bool d,.af]] (ah s (.cells zG 0)) K=K .undef (ah s (.cells [.str nm,.str [],.str [],.int .i64 u,.int .i64 y,.str [],.bool b,.bool d,.af] 0)):=
 dK c K s 9 (.agg [.str nm,.str [],.str [],.int .i64 u,.int .i64 y,.str [],.bool b,.bool d,.af]) zG rfl rfl rfl
theorem om(nm r ct dt z:List Nat)(u y:Int)(b d:Bool)(s:St)(K:AV->St->Option (AV×St)):ak c (.store 1) [.ptr s.next 1,.str z] (ah s (.cells [.str nm,.str r,.str ct,.int .i64 u,.int .i64 y,.str dt,.bool b,.bool d,.af] 0)) K=K .undef (ah s (.cells [.str nm,.str z,.str ct,.int .i64 u,.int .i64 y,.str dt,.bool b,.bool d,.af] 0)):=jg s _ 1 (.str z) (by simp) rfl rfl K
theorem oo(nm r ct dt z:List Nat)(u y:Int)(b d:Bool)(s:St)(K:AV->St->Option (AV×St)):ak c (.store 1) [.ptr s.next 2,.str z] (ah s (.cells [.str nm,.str r,.str ct,.int .i64 u,.int .i64 y,.str dt,.bool b,.bool d,.af] 0)) K=K .undef (ah s (.cells [.str nm,.str r,.str z,.int .i64 u,.int .i64 y,.str dt,.bool b,.bool d,.af] 0)):=jg s _ 2 (.str z) (by simp) rfl rfl K
theorem oq(nm r ct dt z:List Nat)(u y:Int)(b d:Bool)(s:St)(K:AV->St->Option (AV×St)):ak c (.store 1) [.ptr s.next 5,.str z] (ah s (.cells [.str nm,.str r,.str ct,.int .i64 u,.int .i64 y,.str dt,.bool b,.bool d,.af] 0)) K=K .undef (ah s (.cells [.str nm,.str r,.str ct,.int .i64 u,.int .i64 y,.str z,.bool b,.bool d,.af] 0)):=jg s _ 5 (.str z) (by simp) rfl rfl K
theorem Rh(i x:Nat)(v:AV):(tq i x).aA v=[.str (br (yd i)),.str (if x % 2=1 then br (x % 3)else []),.str (if 4<x % 8 then br (x % 8)else []),.int .i64 ((x % 4*500:Nat):Int),.int .i64 ((x % 3:Nat):Int),.str (if x % 3=2 then br (x % 5)else []),.bool (decide (x % 5=0)),.bool (decide (x % 7=0)),v]:=rfl
theorem Vy(hc:cE c){xs:List Nat}(hx:∀x∈xs,x<65536)(z:Bool)(x1:AV){st s:St}{p4 p5:Pos}(Ff:p4≠p5)(Dc:st.next.toNat<=p5.toNat){V W:AV}{rows:List (List AV)}{k:Nat}(hk:k<xs.length)(hk12:k<12)
   (h:GL st s p4 p5 V W (w6 xs k) rows):∃s' V' GW,GL st s' p4 p5 V' W (w6 xs (k+1)) GW/\∀(F:Nat)(_:5<=F)(k2:List AV->St->Option (AV×St))(f:Nat),
     eo c F k2 (f+1) [bR .u16 z xs,x1,.ptr p4 0,.ptr p5 0,.int .i64 (k:Int)] s=eo c F k2 f [bR .u16 z xs,x1,.ptr p4 0,.ptr p5 0,.int .i64 ((k+1:Nat):Int)] s':=by
 have hw:=h.out.aE.wf;have VL:=hx _ (Zc6 hk);generalize Ca:xs[k]=x at VL;have M0:Mk 1 s (ah s (.cells ((tq k x).aA .af) 0)) .af []:=Mk.start hw (Grew.ah hw _);obtain⟨s1,v1,hG,L⟩:=Vx hc (g:=tq k x) (x:=x) (by omega) (s0:=s) (p8:=s.next) (Za6 _) (bR .u16 z xs) x1 (.ptr p4 0) (.ptr p5 0) (.int .i64 (k:Int)) 4 0 _ .af ⟨M0,aD _ _,λe=>(nomatch e)⟩ rfl;have M:Mk 1 s s1 v1 ((tq k x).tg.map JD):=hG.out;obtain⟨s5,s6,V5,a1,a2,a3,a4⟩:=h.push (c:=c) Ff Dc M (by rw[h.len,B9];omega);have e:w6 xs k++[tq k x]=w6 xs (k+1):=by rw[aav xs k hk,Ca]
 rw[e]at a4;refine⟨s6,V5,_,a4,λF hF k2 f=> ?_⟩;have L':∀k4:List AV->St->Option (AV×St),fD c F k4 F [bR .u16 z xs,x1,.ptr p4 0,.ptr p5 0,.int .i64 (k:Int),.int .i64 (x:Int),.ptr s.next 0,.int .i64 0] (ah s (.cells ((tq k x).aA .af) 0))=k4 [bR .u16 z xs,x1,.ptr p4 0,.ptr p5 0,.int .i64 (k:Int),.ptr s.next 0] s1:=λk4=>L F k4 F (by omega)
 clear a4 M M0 L;have lI:∀(K:AV->St->Option (AV×St))(s:St),ak c (.lenB .l) [bR .u16 z xs] s K=K (.int .i64 (xs.length:Int)) s:=λK s=>by unfold bR;rw[kJ];simp
 have ix:∀(K:AV->St->Option (AV×St))(s:St),ak c (.idxA 1 none) [bR .u16 z xs,.int .i64 (k:Int)] s K=K (.fp (xs.map λ(i:Nat)=>[.int .u16 (i:Int)]) k 0) s:=λK s=>by unfold bR;rw[Tm];simp[hk]
 have ld:((xs.map λ(i:Nat)=>[AV.int .u16 (i:Int)])[k]?.bind λcs=>cs[0]?)=some (.int .u16 (x:Int)):=by simp[hk,Ca]
 have w0:aq .i64 (x:Int)=(x:Int):=wrap64 (by omega) (by omega);have N1:=rY hc (yd k) (by unfold yd;omega) s hw;have xJ:cut ((tq k x).aA v1) 0 9=some ((tq k x).aA v1):=bV rfl;have N2:∀(b:AB)(j:Nat)(i:Int),i=(j:Int)->j<1000000->c 114 [.int .i64 i] (ah s b)=some (.str (br j),ah s b):=λb j i e hj=>by rw[e];exact rY hc j hj _ (bK hw)
 have N3:=λb=>N2 b (x % 3) ((x:Int) % 3) (by omega) (by omega)
 have N8:=λb=>N2 b (x % 8) ((x:Int) % 8) (by omega) (by omega)
 have N5:=λb=>N2 b (x % 5) ((x:Int) % 5) (by omega) (by omega)
 have eg:25*(k:Int) % 312+(k:Int) / 12=((yd k:Nat):Int):=by unfold yd;omega
 rw[<-eg]at N1;have JE:decide ((k:Int)<12)=true:=Za0 (by omega);have d5:decide ((x:Int) % 5=0)=decide (x % 5=0):=decide_eq_decide.2 (by omega);have d7:decide ((x:Int) % 7=0)=decide (x % 7=0):=decide_eq_decide.2 (by omega);have u4:((x % 4*500:Nat):Int)=(x:Int) % 4*500:=by omega
 have u3:((x % 3:Nat):Int)=(x:Int) % 3:=by omega
 simp only[Rh]at a1 L' hG xJ;clear N2;have h8:=hG.h8;rw[Rh]at h8;rw[u4,u3]at L' h8 a1 xJ;rw[tT];by_cases c1:x % 2=1
 . by_cases c2:4<x % 8
   . by_cases c3:x % 3=2
     .  have e1:decide ((x:Int) % 2=1)=true:=Za0 (by omega);have e2:decide (4<(x:Int) % 8)=true:=Za0 (by omega);have e3:decide ((x:Int) % 3=2)=true:=Za0 (by omega);simp only[Za7 c1,Za7 c2,Za7 c3]at L' h8 a1 xJ;simp (maxSteps:=2000000) (disch:=omega) [-bf,-iw,-iO,-fP,-j8,mQ,mR,mS,om,oo,oq,lI,ix,ld,hk,Ca,Zb3,JE,mM,w0,bN,eG,wrap64,N1,N3,N8,N5,d5,d7,e1,e2,e3,gM,L',a1,a2,a3,h8,xJ]
     .  have e1:decide ((x:Int) % 2=1)=true:=Za0 (by omega);have e2:decide (4<(x:Int) % 8)=true:=Za0 (by omega);have e3:decide ((x:Int) % 3=2)=false:=Za2 (by omega);simp only[Za7 c1,Za7 c2,Za5 c3]at L' h8 a1 xJ;simp (maxSteps:=2000000) (disch:=omega) [-bf,-iw,-iO,-fP,-j8,mQ,mR,mS,om,oo,oq,lI,ix,ld,hk,Ca,Zb3,JE,mM,w0,bN,eG,wrap64,N1,N3,N8,N5,d5,d7,e1,e2,e3,gM,L',a1,a2,a3,h8,xJ]
   . by_cases c3:x % 3=2
     .  have e1:decide ((x:Int) % 2=1)=true:=Za0 (by omega);have e2:decide (4<(x:Int) % 8)=false:=Za2 (by omega);have e3:decide ((x:Int) % 3=2)=true:=Za0 (by omega);simp only[Za7 c1,Za5 c2,Za7 c3]at L' h8 a1 xJ;simp (maxSteps:=2000000) (disch:=omega) [-bf,-iw,-iO,-fP,-j8,mQ,mR,mS,om,oo,oq,lI,ix,ld,hk,Ca,Zb3,JE,mM,w0,bN,eG,wrap64,N1,N3,N8,N5,d5,d7,e1,e2,e3,gM,L',a1,a2,a3,h8,xJ]
     .  have e1:decide ((x:Int) % 2=1)=true:=Za0 (by omega);have e2:decide (4<(x:Int) % 8)=false:=Za2 (by omega);have e3:decide ((x:Int) % 3=2)=false:=Za2 (by omega);simp only[Za7 c1,Za5 c2,Za5 c3]at L' h8 a1 xJ;simp (maxSteps:=2000000) (disch:=omega) [-bf,-iw,-iO,-fP,-j8,mQ,mR,mS,om,oo,oq,lI,ix,ld,hk,Ca,Zb3,JE,mM,w0,bN,eG,wrap64,N1,N3,N8,N5,d5,d7,e1,e2,e3,gM,L',a1,a2,a3,h8,xJ]
 . by_cases c2:4<x % 8
   . by_cases c3:x % 3=2
     .  have e1:decide ((x:Int) % 2=1)=false:=Za2 (by omega);have e2:decide (4<(x:Int) % 8)=true:=Za0 (by omega);have e3:decide ((x:Int) % 3=2)=true:=Za0 (by omega);simp only[Za5 c1,Za7 c2,Za7 c3]at L' h8 a1 xJ;simp (maxSteps:=2000000) (disch:=omega) [-bf,-iw,-iO,-fP,-j8,mQ,mR,mS,om,oo,oq,lI,ix,ld,hk,Ca,Zb3,JE,mM,w0,bN,eG,wrap64,N1,N3,N8,N5,d5,d7,e1,e2,e3,gM,L',a1,a2,a3,h8,xJ]
     .  have e1:decide ((x:Int) % 2=1)=false:=Za2 (by omega);have e2:decide (4<(x:Int) % 8)=true:=Za0 (by omega);have e3:decide ((x:Int) % 3=2)=false:=Za2 (by omega);simp only[Za5 c1,Za7 c2,Za5 c3]at L' h8 a1 xJ;simp (maxSteps:=2000000) (disch:=omega) [-bf,-iw,-iO,-fP,-j8,mQ,mR,mS,om,oo,oq,lI,ix,ld,hk,Ca,Zb3,JE,mM,w0,bN,eG,wrap64,N1,N3,N8,N5,d5,d7,e1,e2,e3,gM,L',a1,a2,a3,h8,xJ]
   . by_cases c3:x % 3=2
     .  have e1:decide ((x:Int) % 2=1)=false:=Za2 (by omega);have e2:decide (4<(x:Int) % 8)=false:=Za2 (by omega);have e3:decide ((x:Int) % 3=2)=true:=Za0 (by omega);simp only[Za5 c1,Za5 c2,Za7 c3]at L' h8 a1 xJ;simp (maxSteps:=2000000) (disch:=omega) [-bf,-iw,-iO,-fP,-j8,mQ,mR,mS,om,oo,oq,lI,ix,ld,hk,Ca,Zb3,JE,mM,w0,bN,eG,wrap64,N1,N3,N8,N5,d5,d7,e1,e2,e3,gM,L',a1,a2,a3,h8,xJ]
     .  have e1:decide ((x:Int) % 2=1)=false:=Za2 (by omega);have e2:decide (4<(x:Int) % 8)=false:=Za2 (by omega);have e3:decide ((x:Int) % 3=2)=false:=Za2 (by omega);simp only[Za5 c1,Za5 c2,Za5 c3]at L' h8 a1 xJ;simp (maxSteps:=2000000) (disch:=omega) [-bf,-iw,-iO,-fP,-j8,mQ,mR,mS,om,oo,oq,lI,ix,ld,hk,Ca,Zb3,JE,mM,w0,bN,eG,wrap64,N1,N3,N8,N5,d5,d7,e1,e2,e3,gM,L',a1,a2,a3,h8,xJ]
def ir(i x:Nat):aU:=⟨dS i,((kI x:Nat):Int),((tA x:Nat):Int),((tB x:Nat):Int),true,(wZ x (tN x)).map λ(k:Nat)=>(k:Int),((x:Nat):Int),255 - ((x:Nat):Int)⟩
def nr(xs:List Nat)(k:Nat):List aU:=(List.range k).map λi=>ir i (xs.getD i 0)
theorem aaw(xs:List Nat)(k:Nat)(h:k<xs.length):nr xs (k+1)=nr xs k++[ir k xs[k]]:=by
 unfold nr;rw[Zj2,Ze2];simp[Zb4,h]
theorem GY(xs:List Nat)(k:Nat):(nr xs k).length=k:=by simp[nr]
def ia(xs:List Nat):Nat->Nat
 |0=>0
 |k+1=>ia xs k+tN (xs.getD k 0)
theorem Ri(xs:List Nat):∀k,ia xs k<=k*16
 |0=>Za6 _
 |k+1=>by have:=Ri xs k;have:=OI (xs.getD k 0);unfold ia;omega
theorem Yv(i x:Nat)(v:AV):(ir i x).aA v=fh (dS i) (kI x:Nat) (tA x:Nat) (tB x:Nat) x v:=rfl
theorem acA(i x:Nat):(ir i x).pM.map cv=(wZ x (tN x)).map PW:=by unfold ir;rw[Zg4];rfl
theorem QS.owner{es:Nat}{s:St}{v:AV}{rows:List (List AV)}(h:QS es s v rows)(h0:rows≠[]):∃b,aZ v=some b:=by
 rcases h with⟨_,e⟩|⟨b,off,cap,cs,rfl,_⟩|⟨b,off,_,e⟩
 .exact absurd e h0
 . (refine⟨b,?_⟩;have:rows.length≠0:=λe=>h0 (Zb2 e));simp only[aZ];rw[Za5 (λe=>this e.2)]
 .exact absurd e h0
structure LL(st sA s:St)(p3:Pos)(es:Nat)(V:AV)(rows:List (List AV))(W:AV->List AV):Prop where
 out:Mk es st s V rows
 kx:KX p3 sA s
 h3:s.heap.get p3=some (.cells (W V) 0)
 since:∀b,aZ V=some b->sA.next.toNat<=b.toNat
theorem LL.aE{st sA s s':St}{p3:Pos}{es:Nat}{V:AV}{rows:List (List AV)}{W:AV->List AV}(h:LL st sA s p3 es V rows W)(g:Grew s s'):LL st sA s' p3 es V rows W:=
 ⟨h.out.grow g,h.kx.aE g,g.get h.h3,h.since⟩
theorem LL.push{st sA s:St}{p3:Pos}{es bytes i:Nat}{V:AV}{rows:List (List AV)}{W:AV->List AV}(h:LL st sA s p3 es V rows W)(hA:Wf sA)(LB:p3.toNat<sA.next.toNat)(kf:st.next.toNat<=p3.toNat)(hi:∀A B,(W A).set i B=W B)(jX:∀A,i<(W A).length)
   {z:List AV} {x:AV} (hz:z.length=es) (hx:x.cells.length=es) (h1:aL x.cells=true) (dF:es≠0) (hb:(2*(rows.length+1)+768)*bytes<=281474976710656) (hn:rows.length<=4000000):
   ∃s5 s6 V5,(∀(K:AV->St->Option (AV×St)),ak c (.buildSlice es 1 z [0]) [x] s (λy q=>ak c (.append es bytes) [V,y] q K)=K V5 s5)/\(∀(K:AV->St->Option (AV×St)),ak c (.store 1) [.ptr p3 i,V5] s5 K=K .undef s6)/\
    LL st sA s6 p3 es V5 (rows++[x.cells]) W/\(∀(p:Pos)(b:AB),p≠p3->aZ V≠some p->s.heap.get p=some b->s6.heap.get p=some b)/\(∀b,aZ V5=some b->s.next.toNat<=b.toNat)/\s.next.toNat<=s6.next.toNat/\s5.heap.get p3=some (.cells (W V) 0):=by
 have hw:=h.out.aE.wf;obtain⟨s5,V5,a1,a2,a3,a4⟩:=h.out.push (c:=c) (R:=AV×St) (bytes:=bytes) hz hx h1 dF hb hn;have nV:aZ V≠some p3:=λe=>by have:=h.since _ e;omega
 have y3:=a3 p3 _ nV h.h3;have n5:aZ V5≠some p3:=λe=>by have:=a4 _ e;have:=hw _ _ h.h3;omega
 have l3:=a2.aE.wf p3 _ y3;obtain⟨vc,v1⟩:=a2.cells;obtain⟨b,hbo⟩:=QS.owner a2.own (by simp);have nx:s.next.toNat<=s5.next.toNat:=by have:=a4 b hbo;have:=a2.own.lt a2.aE.wf hbo;omega
 refine⟨s5,b9 s5 p3 (.cells (W V5) 0),V5,a1,λK=> ?_,⟨a2.store kf l3 n5,?_,dx _ _ _,λb hb=> ?_⟩,λp b hp hv hg=> ?_,a4,nx,y3⟩
 .rw[dh c K s5 1 p3 i V5 (W V) y3 (by rw[vc];rfl) (by have:=jX V;omega) (by rw[vc];exact v1),vc];rw[Aq _ _ (jX V),hi]
 .refine KX.store ⟨a2.aE.wf,Zc8 h.kx.next nx,λq y hq hy=> ?_⟩ l3 _;refine a3 q y (λe=> ?_) (h.kx.keep q y hq hy);have:=h.since _ e;have:=hA _ _ hy;omega
 .have:=a4 b hb;have:=h.kx.next;omega
 .rw[bk (λe=>hp e.symm)];exact a3 p b hv hg
structure TL(st sA s:St)(p3:Pos)(V:AV)(ts:List aU)(rows:List (List AV))(W:AV->List AV):Prop where
 tab:TS st s V ts rows
 kx:KX p3 sA s
 h3:s.heap.get p3=some (.cells (W V) 0)
 since:TS.mP sA.next.toNat V rows
theorem TL.push{st sA s:St}{p3:Pos}{i:Nat}{V:AV}{ts:List aU}{rows:List (List AV)}{W:AV->List AV}(h:TL st sA s p3 V ts rows W)(hA:Wf sA)(LB:p3.toNat<sA.next.toNat)(kf:st.next.toNat<=p3.toNat)(hi:∀A B,(W A).set i B=W B)(jX:∀A,i<(W A).length)
   {t:aU} {v:AV} (M:Mk 1 st s v (t.pM.map cv)) (hv:∀b,aZ v=some b->aZ V≠some b) (Il:∀b,aZ v=some b->sA.next.toNat<=b.toNat) (hlen:ts.length<=1000):
   ∃ s5 s6 V5,(∀(K:AV->St->Option (AV×St)),ak c (.buildSlice 7 1 [.str [],.int .u8 0,.int .i64 0,.int .i64 0,.af,.int .i64 0,.int .i64 0] [0]) [.agg (t.aA v)] s (λy q=>ak c (.append 7 80) [V,y] q K)=K V5 s5)/\
     (∀(K:AV->St->Option (AV×St)),ak c (.store 1) [.ptr p3 i,V5] s5 K=K .undef s6)/\TL st sA s6 p3 V5 (ts++[t]) (rows++[t.aA v]) W/\(∀(p:Pos)(b:AB),p≠p3->aZ V≠some p->s.heap.get p=some b->s6.heap.get p=some b)/\s5.heap.get p3=some (.cells (W V) 0):=by
 have hw:=h.tab.out.aE.wf;obtain⟨s5,V5,a1,a2,a3,a4⟩:=h.tab.push (c:=c) M hv hlen;have nV:aZ V≠some p3:=λe=>by have:=h.since.1 _ e;omega
 have y3:=a3 p3 _ nV h.h3;have l3:=a2.out.aE.wf p3 _ y3;obtain⟨vc,v1⟩:=a2.out.cells;obtain⟨b,hbo⟩:=QS.owner a2.out.own (by simp);have nx:s.next.toNat<=s5.next.toNat:=by have:=a4 b hbo;have:=a2.out.own.lt a2.out.aE.wf hbo;omega
 have sn:TS.mP sA.next.toNat V5 (rows++[t.aA v]):=by
   refine⟨λb hb=>by have:=a4 b hb;have:=h.kx.next;omega,λj r u b hr h4 hb=> ?_⟩;by_cases hj:j<rows.length
   .rw[Zb7 hj]at hr;exact h.since.2 j r u b hr h4 hb
   .have hjl:=(Za3.1 hr).1;simp at hjl;obtain rfl:j=rows.length:=(by omega);rw[Zc2 (Za6 _)]at hr;simp at hr;subst hr;have:v=u:=(by simpa [aU.aA]using h4);subst this;exact Il b hb
 have k5:KX p3 sA s5:=⟨a2.out.aE.wf,Zc8 h.kx.next nx,λq y hq hy=>a3 q y (λe=>by
   have:=h.since.1 _ e;have:=hA _ _ hy;omega) (h.kx.keep q y hq hy)⟩
 have kS:KX p3 s5 (b9 s5 p3 (.cells (W V5) 0)):=(KX.refl a2.out.aE.wf).store l3 _;have sn3:TS.mP (p3.toNat+1) V5 (rows++[t.aA v]):=⟨λb hb=>by have:=sn.1 b hb;omega,λj r u b h1 h2 h3=>by have:=sn.2 j r u b h1 h2 h3;omega⟩
 refine⟨s5,b9 s5 p3 (.cells (W V5) 0),V5,a1,λK=> ?_,⟨a2.kx kS (ru h.tab.out.qi a2.out.aE kf l3 _) sn3,k5.store l3 _,dx _ _ _,sn⟩,λp b hp hv hg=> ?_,y3⟩
 .rw[dh c K s5 1 p3 i V5 (W V) y3 (by rw[vc];rfl) (by have:=jX V;omega) (by rw[vc];exact v1),vc];rw[Aq _ _ (jX V),hi]
 .rw[bk (λe=>hp e.symm)];exact a3 p b hv hg
def dP(zt zg zy zr:Bool)(xt xg xy xr:List Nat):List AV:=[bR .u8 zt xt,bR .u16 zg xg,bR .u8 zy xy,bR .u32 zr xr]
theorem ry{R:Type}(k:IntKind)(z:Bool)(l:List Nat)(K:AV->St->Option R)(s:St):ak c (.lenB .l) [bR k z l] s K=K (.int .i64 (l.length:Int)) s:=by unfold bR;rw[kJ];simp
theorem W6{R:Type}(k k':IntKind)(z:Bool)(l:List Nat){i:Nat}(h:i<l.length)(K:AV->St->Option R)(s:St):ak c (.idxA 1 none) [bR k z l,.int k' (i:Int)] s (λv s'=>ak c (.load none) [v] s' K)=K (.int k (l[i]:Int)) s:=by
 unfold bR;simp[h]
theorem afy{a b d:Nat}(h:d=a+b)(hl:a+b<=1000000):aq .i64 ((a:Int)+(b:Int))=(d:Int):=(wrap64 (by omega) (by omega)).trans (by omega)
theorem aax(hc:cE c){xt:List Nat}(hx:∀x∈xt,x<256){zt zg zy zr:Bool}{xg xy xr:List Nat}{st sA s:St}{p1 p3:Pos}{V x2:AV}{rows:List (List AV)}(hA:Wf sA)(OM:sA.heap.get p1=some (.cells (dP zt zg zy zr xt xg xy xr) 0))(ON:p1≠p3)(LB:p3.toNat<sA.next.toNat)(kf:st.next.toNat<=p3.toNat)
  {k:Nat} (hk:k<xt.length) (hk3:k<3) (h:TL st sA s p3 V (nr xt k) rows (λV=>[V,.af,.af,.af,.af])):
  ∃s' V' GW,TL st sA s' p3 V' (nr xt (k+1)) GW (λV=>[V,.af,.af,.af,.af])/\∀(F:Nat)(k2:List AV->St->Option (AV×St))(f:Nat),
   ek c F k2 (f+1) [.ptr p1 0,x2,.ptr p3 0,.int .i64 (ia xt k:Int),.int .i64 (k:Int)] s=ek c F k2 f [.ptr p1 0,x2,.ptr p3 0,.int .i64 (ia xt (k+1):Int),.int .i64 ((k+1:Nat):Int)] s':=by
 have Ca:=hx _ (Zc6 hk);have d1:decide ((k:Int)<(xt.length:Int))=true:=Za0 (by omega);have d2:decide ((k:Int)<3)=true:=Za0 (by omega);have w2:aq .i64 ((k:Int)+1)=((k+1:Nat):Int):=wrap64 (by omega) (by omega);have w3:aq .i64 (xt[k]:Int)=(xt[k]:Int):=wrap64 (by omega) (by omega);have hw:=h.tab.out.aE.wf;have h1:=h.kx.keep p1 _ ON OM;obtain⟨v,s1,C,M⟩:=acv hc k xt[k] (by omega) Ca s hw;have g1:=M.aE;have gn:=Grew.ah g1.wf (.cells ((ir k xt[k]).aA v) 0);have hM:Mk 1 st (ah s1 (.cells ((ir k xt[k]).aA v) 0)) v ((ir k xt[k]).pM.map cv):=by rw[acA];exact(M.back h.tab.out.qi h.tab.out.aE).grow gn
 have T1:TL st sA (ah s1 (.cells ((ir k xt[k]).aA v) 0)) p3 V (nr xt k) rows (λV=>[V,.af,.af,.af,.af]):=
  ⟨h.tab.ud (h.tab.out.aE.trans (g1.trans gn)) λb x _ _ hb=>gn.get (g1.get hb),h.kx.aE (g1.trans gn),gn.get (g1.get h.h3),h.since⟩
 obtain⟨s5,s6,V5,a1,a2,a3,a4,a5⟩:=T1.push (c:=c) (i:=0) hA LB kf (λA B=>rfl) (λA=>by simp) hM (λb hb e=>by
  have p1:=M.new b hb;have p2:=h.tab.out.own.lt hw e;omega) (λb hb=>by have:=M.new b hb;have:=h.kx.next;omega) (by rw[GY];omega)
 have p6:s6.heap.get s1.next=some (.cells ((ir k xt[k]).aA v) 0):=a4 s1.next _ (λe=>by have:=h.kx.next;have:=g1.next;rw[<-e]at LB;omega) (λe=>by
  have p2:=h.tab.out.own.lt hw e;have:=g1.next;omega) (aD _ _)
 have e:=aaw xt k hk;rw[<-e]at a3;refine⟨s6,V5,_,a3,λF k2 f=> ?_⟩;have hs:=GU hc (l:=(ir k xt[k]).aA v) (sh:=((kI xt[k]:Nat):Int)) (a:=((tA xt[k]:Nat):Int)) (b:=((tB xt[k]:Nat):Int)) rfl rfl rfl (by have:=Sc xt[k];omega) (by have:=Sd xt[k];omega) s6 a3.tab.out.aE.wf;rw[Ku]at hs;have hS:ia xt (k+1)=ia xt k+tN xt[k]:=by
  rw[ia];simp[Zb4,hk]
 have w1:aq .i64 ((ia xt k:Int)+(tN xt[k]:Int))=((ia xt (k+1):Nat):Int):=afy hS (by have:=Ri xt k;have:=OI xt[k];exact Zc8 (Nat.add_le_add ‹_› ‹_›) (by omega));have lI:=λ(K:AV->St->Option (AV×St))(s:St)=>ry (c:=c) .u8 zt xt K s
 have aI:=λ(K:AV->St->Option (AV×St))(s:St)=>W6 (c:=c) .u8 .i64 zt xt hk K s
 have c0:(dP zt zg zy zr xt xg xy xr)[0]? =some (bR .u8 zt xt):=rfl;have cu:cut ((ir k xt[k]).aA v) 0 7=some ((ir k xt[k]).aA v):=bV rfl;rw[<-Yv]at C;have Fg:∀(K:AV->St->Option (AV×St)),ak c (.store 7) [.ptr s1.next 0,.agg ((ir k xt[k]).aA v)] (ah s1 (.cells [.str [],.int .u8 0,.int .i64 0,.int .i64 0,.af,.int .i64 0,.int .i64 0] 0)) K=K .undef (ah s1 (.cells ((ir k xt[k]).aA v) 0)):=λK=>dK c K s1 7 (.agg ((ir k xt[k]).aA v)) [.str [],.int .u8 0,.int .i64 0,.int .i64 0,.af,.int .i64 0,.int .i64 0] rfl rfl ((ir k xt[k]).MG M.cells.2)
 have W7:=T1.h3;have g6:=aD s1 (.cells ((ir k xt[k]).aA v) 0);generalize (ir k xt[k]).aA v=tc at*
 generalize ia xt (k+1)=S1 at*
 clear hS e T1 a3 a4 hM M h;rw[tL];simp (disch:=omega) [-bf,Zb3,h1,lI,aI,c0,hk,hk3,d1,d2,w3,C,Fg,W7,g6,cu,a1,a2,a5,p6,hs,w1,w2]
theorem aay(hc:cE c){xt:List Nat}(hx:∀x∈xt,x<256)(hl:xt.length<=9223372036854775807){zt zg zy zr:Bool}{xg xy xr:List Nat}{st sA:St}{p1 p3:Pos}{x2:AV}(hA:Wf sA)(OM:sA.heap.get p1=some (.cells (dP zt zg zy zr xt xg xy xr) 0))(ON:p1≠p3)(LB:p3.toNat<sA.next.toNat)(kf:st.next.toNat<=p3.toNat):
  ∀(m k:Nat)(s:St)(V:AV)(rows:List (List AV)),k+m=min xt.length 3->TL st sA s p3 V (nr xt k) rows (λV=>[V,.af,.af,.af,.af])->
  ∃ s' V' GW,TL st sA s' p3 V' (nr xt (min xt.length 3)) GW (λV=>[V,.af,.af,.af,.af])/\∀(F:Nat)(k2:List AV->St->Option (AV×St))(f:Nat),m<f->
    ek c F k2 f [.ptr p1 0,x2,.ptr p3 0,.int .i64 (ia xt k:Int),.int .i64 (k:Int)] s=k2 [.ptr p1 0,x2,.ptr p3 0,.int .i64 (ia xt (min xt.length 3):Int)] s':=by
 intro m;induction m with
 |zero=>
  intro k s V rows hk h;obtain rfl:k=min xt.length 3:=by omega
  refine⟨s,V,rows,h,λF k2 f hf=> ?_⟩;obtain⟨f,rfl⟩:∃g,f=g+1:=⟨f - 1,by omega⟩
  have h1:=h.kx.keep p1 _ ON OM;have c0:(dP zt zg zy zr xt xg xy xr)[0]? =some (bR .u8 zt xt):=rfl;have lI:=λ(K:AV->St->Option (AV×St))(s:St)=>ry (c:=c) .u8 zt xt K s
  generalize ia xt (min xt.length 3)=S at*
  rw[tL];by_cases h3:xt.length<=3
  .have e:min xt.length 3=xt.length:=(by omega);rw[e];simp[h1,c0,lI]
  .have e:min xt.length 3=3:=(by omega);have hd:decide ((3:Int)<(xt.length:Int))=true:=Za0 (by omega);rw[e];simp[h1,c0,lI,hd]
 |succ m ih=>
  intro k s V rows hk h;obtain⟨s1,V1,r1,h1,e1⟩:=aax (x2:=x2) hc hx hA OM ON LB kf (k:=k) (by omega) (by omega) h;obtain⟨s2,V2,r2,h2,e2⟩:=ih (k+1) s1 V1 r1 (by omega) h1;refine⟨s2,V2,r2,h2,λF k2 f hf=> ?_⟩;obtain⟨f,rfl⟩:∃g,f=g+1:=⟨f - 1,by omega⟩
  rw[e1 F k2 f,e2 F k2 f (by omega)]
theorem UO{k:Nat}(h:k<=1000000):aq .i64 ((k:Int)+1)=((k+1:Nat):Int):=wrap64 (by omega) (by omega)
theorem Yw{x:Nat}(h:x<=4294967296):aq .i64 (x:Int)=(x:Int):=wrap64 (by omega) (by omega)
def ye(xg:List Nat)(k:Nat):List Int:=(List.range k).map λi=>((xg.getD i 0 / 3 % 4:Nat):Int)
theorem aaz(xg:List Nat)(k:Nat)(h:k<xg.length):ye xg (k+1)=ye xg k++[((xg[k] / 3 % 4:Nat):Int)]:=by
 unfold ye;rw[Zj2,Ze2];simp[Zb4,h]
theorem GZ(xg:List Nat)(k:Nat):(ye xg k).length=k:=by simp[ye]
theorem Yx{xg:List Nat}(hx:∀x∈xg,x<65536){zt zg zy zr:Bool}{xt xy xr:List Nat}{st sA:St}{p1 p3:Pos}{x2 V1 V2 V3:AV}{n:Nat}(hn:n<=xg.length)(Lw:n<=1000)(hA:Wf sA)(OM:sA.heap.get p1=some (.cells (dP zt zg zy zr xt xg xy xr) 0))(ON:p1≠p3)(LB:p3.toNat<sA.next.toNat)(kf:st.next.toNat<=p3.toNat)
  (l2:∀(K:AV->St->Option (AV×St))(s':St),ak c (.lenB .l) [V2] s' K=K (.int .i64 (n:Int)) s'):
  ∀(m k:Nat)(s:St)(V:AV),k+m=n->LL st sA s p3 1 V ((ye xg k).map cv) (λA=>[V1,V2,V3,A,.af])->
  ∃s' V',LL st sA s' p3 1 V' ((ye xg n).map cv) (λA=>[V1,V2,V3,A,.af])/\∀(F:Nat)(k4:List AV->St->Option (AV×St))(f:Nat),m<f->
   gW c F k4 f [.ptr p1 0,x2,.ptr p3 0,.int .i64 (k:Int)] s=k4 [.ptr p1 0,x2,.ptr p3 0] s':=by
 intro m;induction m with
 |zero=>
  intro k s V hk h;obtain rfl:k=n:=by omega
  refine⟨s,V,h,λF k4 f hf=> ?_⟩;obtain⟨f,rfl⟩:∃g,f=g+1:=⟨f - 1,by omega⟩
  rw[tK];simp[h.h3,l2]
 |succ m ih=>
  intro k s V hk h;have hkn:k<n:=by omega
  have OO:k<xg.length:=by omega
  have Ca:=hx _ (Zc6 OO);obtain⟨v,hv⟩:∃v:Nat,v=xg[k] / 3 % 4:=⟨_,rfl⟩
  have E:(xg[k]:Int) / 3 % 4=(v:Int):=by omega
  have h1:=h.kx.keep p1 _ ON OM;obtain⟨s5,s6,V5,a1,a2,a3,a4,a5,a6,a7⟩:=h.push (c:=c) (bytes:=8) (i:=3) (z:=[.int .i64 0]) (x:= .int .i64 (v:Int)) hA LB kf (λA B=>rfl) (λA=>by simp) rfl rfl rfl (by decide) (by rw[Za9,GZ];omega) (by rw[Za9,GZ];omega);have e:(ye xg k).map cv++[(.int .i64 (v:Int):AV).cells]=(ye xg (k+1)).map cv:=by rw[aaz xg k OO,Ze2,hv];rfl
  rw[e]at a3;obtain⟨s7,V7,b1,b2⟩:=ih (k+1) s6 V5 (by omega) a3;refine⟨s7,V7,b1,λF k4 f hf=> ?_⟩;obtain⟨f,rfl⟩:∃g,f=g+1:=⟨f - 1,by omega⟩
  have b3:=b2 F k4 f (by omega);have aI:=λ(K:AV->St->Option (AV×St))(s:St)=>W6 (c:=c) .u16 .i64 zg xg OO K s
  have c1:(dP zt zg zy zr xt xg xy xr)[1]? =some (bR .u16 zg xg):=rfl;have W7:=h.h3;clear b2 ih a3 a4 a5 a6 e hv;have k6:k<=1000000:=by omega
  have x6:xg[k]<=4294967296:=by omega
  have w2:=UO k6;have w3:=Yw x6;rw[<-b3,tK];simp (disch:=omega) [-bf,-fP,-j8,bN,eG,Zb3,Ze5,h1,W7,l2,aI,c1,hkn,w3,E,a1,a2,a7,w2]
def uD(ts:List aU)(gs:List aM)(xr:List Nat):Nat->List Rl
 |0=>[]
 |k+1=>uD ts gs xr k++(if(fq ts gs (xr.getD k 0)).2=true then [(fq ts gs (xr.getD k 0)).1]else [])
theorem G1(ts:List aU)(gs:List aM)(xr:List Nat):∀k,(uD ts gs xr k).length<=k
 |0=>Za6 _
 |k+1=>by have:=G1 ts gs xr k;unfold uD;rw[Zd7];split<;>simp<;>omega
theorem acB{R:Type}(k k':IntKind)(z:Bool)(l:List Nat){i:Nat}(h:i<l.length)(K:AV->Option R)(t:T AB):dJ (.idxA 1 none) [bR k z l,.int k' (i:Int)] (λv=>kR (.load none) [v] t (λ_=>true) K)=K (.int k (l[i]:Int)):=by
 unfold bR;simp[h]
theorem acC{R:Type}(s:St)(K:AV->AB->Option R):IF (.alloc [.int .u8 0,.int .i64 0,.str [],.str [],.str [],.int .i64 0]) [] s K=K (.ptr s.next 0) (.cells [.int .u8 0,.int .i64 0,.str [],.str [],.str [],.int .i64 0] 0):=rfl
theorem Yy(hc:cE c){xr:List Nat}(hx:∀x∈xr,x<4294967296)(hl:xr.length<=9223372036854775807){zt zg zy zr:Bool}{xt xg xy:List Nat}{st sA:St}{p1 p3:Pos}{x2 V1 V2 V3 V4:AV}(hA:Wf sA)(OM:sA.heap.get p1=some (.cells (dP zt zg zy zr xt xg xy xr) 0))(ON:p1≠p3)(LB:p3.toNat<sA.next.toNat)(kf:st.next.toNat<=p3.toNat)
  {ts:List aU} {gs:List aM} {r1 r2:List (List AV)} (hT:TS st sA V1 ts r1) (sT:TS.mP (p3.toNat+1) V1 r1) (hG:GS st sA V2 gs r2) (sG:GS.mP (p3.toNat+1) V2 r2) (lt:ts.length<=1000) (lg:gs.length<=1000)
  (hz:∀t∈ts,0<jC t.sh t.a t.b/\jC t.sh t.a t.b<=1000) (ha:∀t∈ts,(0<=t.a/\t.a<=1000000)/\0<=t.b/\t.b<=1000000):
  ∀(m k:Nat)(s:St)(V:AV),k+m=min xr.length 12->LL st sA s p3 6 V ((uD ts gs xr k).map Rl.cells) (λA=>[V1,V2,V3,V4,A])->
  ∃ s' V',LL st sA s' p3 6 V' ((uD ts gs xr (min xr.length 12)).map Rl.cells) (λA=>[V1,V2,V3,V4,A])/\∀(F:Nat)(k6:List AV->St->Option (AV×St))(f:Nat),m<f->
    gV c F k6 f [.ptr p1 0,x2,.ptr p3 0,.int .i64 (k:Int)] s=k6 [x2,.ptr p3 0] s':=by
 have c3:(dP zt zg zy zr xt xg xy xr)[3]? =some (bR .u32 zr xr):=rfl;have lI:=λ(K:AV->St->Option (AV×St))(s:St)=>ry (c:=c) .u32 zr xr K s
 intro m;induction m with
 |zero=>
  intro k s V hk h;obtain rfl:k=min xr.length 12:=by omega
  refine⟨s,V,h,λF k6 f hf=> ?_⟩;obtain⟨f,rfl⟩:∃g,f=g+1:=⟨f - 1,by omega⟩
  have h1:=h.kx.keep p1 _ ON OM;rw[m9];by_cases h3:xr.length<=12
  .have e:min xr.length 12=xr.length:=(by omega);rw[e];simp[h1,c3,lI]
  .have e:min xr.length 12=12:=(by omega);have hd:decide ((12:Int)<(xr.length:Int))=true:=Za0 (by omega);rw[e];simp[h1,c3,lI,hd]
 |succ m ih=>
  intro k s V hk h;have OO:k<xr.length:=by omega
  have hk12:k<12:=by omega
  have Ca:=hx _ (Zc6 OO);have kM:k<=1000000:=by omega
  have d12:decide ((k:Int)<12)=true:=Za0 (by omega);have nw:=λ(K:AV->AB->Option (AV×St))=>acC s K
  have xM:xr[k]<=4294967296:=by omega
  have h1:=h.kx.keep p1 _ ON OM;have gr:=h.out.aE;have A:=acy hc (V3:=V3) (V4:=V4) (V5:=V) (hT.kx h.kx gr sT) (hG.kx h.kx gr sG) lt lg hz ha xr[k] Ca;have gn:=Grew.ah gr.wf (.cells (fq ts gs xr[k]).1.cells 0);have hS:uD ts gs xr (k+1)=uD ts gs xr k++(if(fq ts gs xr[k]).2=true then [(fq ts gs xr[k]).1]else []):=by
    rw[uD];simp[Zb4,OO]
  have Fg:∀(K:AV->St->Option (AV×St)),ak c (.store 6) [.ptr s.next 0,.agg (fq ts gs xr[k]).1.cells] (ah s (.cells [.int .u8 0,.int .i64 0,.str [],.str [],.str [],.int .i64 0] 0)) K=K .undef (ah s (.cells (fq ts gs xr[k]).1.cells 0)):=λK=>dK c K s 6 (.agg (fq ts gs xr[k]).1.cells) [.int .u8 0,.int .i64 0,.str [],.str [],.str [],.int .i64 0] rfl rfl rfl
  have aP:=λ(K:AV->Option (AV×St))(t:T AB)=>acB .u32 .i64 zr xr OO K t
  have hg:=h.aE gn;have W7:=h.h3;have h3g:=hg.h3;have ll:=G1 ts gs xr k;have cu5:∀A B D E G:AV,cut [A,B,D,E,G] 0 5=some [A,B,D,E,G]:=λA B D E G=>bV rfl
  have gx:=aD s (.cells (fq ts gs xr[k]).1.cells 0);by_cases hb:(fq ts gs xr[k]).2=true
  . rw[hb]at A;rw[Za7 hb]at hS;obtain⟨s5,s6,V5,a1,a2,a3,a4,a5,a6,a7⟩:=hg.push (c:=c) (bytes:=72) (i:=4) (z:=[.int .u8 0,.int .i64 0,.str [],.str [],.str [],.int .i64 0]) (x:= .agg (fq ts gs xr[k]).1.cells) hA LB kf (λA B=>rfl) (λA=>by simp) rfl rfl rfl (by decide) (by rw[Za9];omega) (by rw[Za9];omega);have e:(uD ts gs xr k).map Rl.cells++[(.agg (fq ts gs xr[k]).1.cells:AV).cells]=(uD ts gs xr (k+1)).map Rl.cells:=(by rw[hS,Ze2];rfl);rw[e]at a3;obtain⟨s7,V7,b1,b2⟩:=ih (k+1) s6 V5 (by omega) a3;refine⟨s7,V7,b1,λF k6 f hf=> ?_⟩;obtain⟨f,rfl⟩:∃g,f=g+1:=⟨f - 1,by omega⟩
    have b3:=b2 F k6 f (by omega);generalize (fq ts gs xr[k]).1=R at*
    clear b2 ih a3 a4 a5 a6 e hS hb ll hg h;have w2:=UO kM;have w3:=Yw xM;rw[<-b3,m9];simp (disch:=omega) [-bf,gM,Zb3,Ze5,h1,W7,h3g,lI,aP,c3,OO,d12,nw,w3,A,Fg,cu5,gx,a1,a2,a7,w2]
  . have jK:(fq ts gs xr[k]).2=false:=(by simpa using hb);rw[jK]at A;rw[Za5 hb,Zf0]at hS;rw[<-hS]at hg;obtain⟨s7,V7,b1,b2⟩:=ih (k+1) _ V (by omega) hg;refine⟨s7,V7,b1,λF k6 f hf=> ?_⟩;obtain⟨f,rfl⟩:∃g,f=g+1:=⟨f - 1,by omega⟩
    have b3:=b2 F k6 f (by omega);generalize (fq ts gs xr[k]).1=R at*
    clear b2 ih hS hb jK ll hg h;have w2:=UO kM;have w3:=Yw xM;rw[<-b3,m9];simp (disch:=omega) [-bf,gM,Zb3,Ze5,h1,W7,h3g,lI,aP,c3,OO,d12,nw,w3,A,Fg,cu5,gx,w2]
theorem Vz(hc:cE c){xs:List Nat}(hx:∀x∈xs,x<65536)(hl:xs.length<=9223372036854775807)(z:Bool)(x1:AV){st:St}{p4 p5:Pos}(Ff:p4≠p5)(Dc:st.next.toNat<=p5.toNat){W:AV}:∀(m k:Nat)(s:St)(V:AV)(rows:List (List AV)),k+m=min xs.length 12->
  GL st s p4 p5 V W (w6 xs k) rows->∃s' V' GW,GL st s' p4 p5 V' W (w6 xs (min xs.length 12)) GW/\∀(F:Nat)(_:5<=F)(k2:List AV->St->Option (AV×St))(f:Nat),m<f->
    eo c F k2 f [bR .u16 z xs,x1,.ptr p4 0,.ptr p5 0,.int .i64 (k:Int)] s=k2 [x1,.ptr p4 0,.ptr p5 0] s':=by
 intro m;induction m with
 |zero=>
  intro k s V rows hk h;obtain rfl:k=min xs.length 12:=by omega
  refine⟨s,V,rows,h,λF _ k2 f hf=> ?_⟩;obtain⟨f,rfl⟩:∃g,f=g+1:=⟨f - 1,by omega⟩
  have lI:∀(K:AV->St->Option (AV×St))(s:St),ak c (.lenB .l) [bR .u16 z xs] s K=K (.int .i64 (xs.length:Int)) s:=λK s=>by unfold bR;rw[kJ];simp
  rw[tT];by_cases SY:xs.length<=12
  .have e:min xs.length 12=xs.length:=(by omega);rw[e];simp[lI]
  .have e:min xs.length 12=12:=(by omega);rw[e];have hd:decide (12<xs.length)=true:=Za0 (by omega);have Nr:(12:Nat)<xs.length:=(by omega);have WQ:decide ((12:Int)<(xs.length:Int))=true:=Za0 (by omega);simp[lI,WQ]
 |succ m ih=>
  intro k s V rows hk h;obtain⟨s1,V1,r1,h1,e1⟩:=Vy hc hx z x1 Ff Dc (k:=k) (by omega) (by omega) h;obtain⟨s2,V2,r2,h2,e2⟩:=ih (k+1) s1 V1 r1 (by omega) h1;refine⟨s2,V2,r2,h2,λF hF k2 f hf=> ?_⟩;obtain⟨f,rfl⟩:∃g,f=g+1:=⟨f - 1,by omega⟩
  rw[e1 F hF k2 f,e2 F hF k2 f (by omega)]
structure YL(st s:St)(p4 p5:Pos)(V W:AV)(gs:List aM)(rows:List (List AV))(ys:List Ty):Prop where
 gl:GL st s p4 p5 V W gs rows
 ty:Mk 3 st s W (ys.map Ty.cells)
 w4:aZ W≠some p4
 w5:aZ W≠some p5
 wV:∀b,aZ W=some b->aZ V≠some b
 wI:∀(i:Nat)(r:List AV)(v:AV)(b:Pos),rows[i]? =some r->r[8]? =some v->aZ v=some b->aZ W≠some b
theorem YL.start{st s:St}{p4 p5:Pos}{V:AV}{gs:List aM}{rows:List (List AV)}(h:GL st s p4 p5 V .af gs rows):YL st s p4 p5 V .af gs rows []:=
 ⟨h,Mk.start h.out.qi h.out.aE,λe=>(nomatch e),λe=>(nomatch e),λ_ e=>(nomatch e),λ_ _ _ _ _ _ _ e=>(nomatch e)⟩
theorem YL.push{st s:St}{p4 p5:Pos}{V W:AV}{gs:List aM}{rows:List (List AV)}{ys:List Ty}(h:YL st s p4 p5 V W gs rows ys)(Ff:p4≠p5)(Dc:st.next.toNat<=p5.toNat)(t:Ty)(hlen:ys.length<=1000000):
   ∃s5 s6 W5,(∀(K:AV->St->Option (AV×St)),ak c (.buildSlice 3 1 [.str [],.str [],.int .u8 0] [0]) [.agg t.cells] s (λy q=>ak c (.append 3 40) [W,y] q K)=K W5 s5)/\
    (∀(K:AV->St->Option (AV×St)),ak c (.store 1) [.ptr p5 1,W5] s5 K=K .undef s6)/\YL st s6 p4 p5 V W5 gs rows (ys++[t]):=by
 have hw:=h.gl.out.aE.wf;obtain⟨s5,W5,a1,a2,a3,a4⟩:=h.ty.push (c:=c) (R:=AV×St) (bytes:=40) (z:=[.str [],.str [],.int .u8 0]) (x:= .agg t.cells) rfl rfl rfl (by decide) (by rw[Za9];omega) (by rw[Za9];omega);have e:(ys++[t]).map Ty.cells=ys.map Ty.cells++[(.agg t.cells:AV).cells]:=by rw[Ze2];rfl
 rw[<-e]at a2;have y4:=a3 p4 _ h.w4 h.gl.h4;have y5:=a3 p5 _ h.w5 h.gl.h5;have l4:=hw p4 _ h.gl.h4;have l5:=hw p5 _ h.gl.h5;have b4:aZ W5≠some p4:=λe=>by have:=a4 _ e;omega
 have b5:aZ W5≠some p5:=λe=>by have:=a4 _ e;omega
 have l5':=a2.aE.wf p5 _ y5;obtain⟨vc,v1⟩:=a2.cells;have aN:∀(K:AV->St->Option (AV×St)),ak c (.store 1) [.ptr p5 1,W5] s5 K=K .undef (b9 s5 p5 (.cells [V,W5] 0)):=λK=>by rw[dh c K s5 1 p5 1 W5 [V,W] y5 (by rw[vc];rfl) (by simp) (by rw[vc];exact v1),vc];rfl
 have M6:=a2.store (p:=p5) (b:= .cells [V,W5] 0) Dc l5' b5;have keep:∀(u:AV)(n:Nat)(rw:List (List AV)),Mk n st s u rw->(∀b,aZ u=some b->aZ W≠some b/\b≠p5)->Mk n st (b9 s5 p5 (.cells [V,W5] 0)) u rw:=λu n rw hu cF=>
   UM hu M6.aE λb y hb hy=>by rw[bk (λe=>(cF b hb).2 e.symm)];exact a3 b y (cF b hb).1 hy
 have newW:∀b,aZ W5=some b->s.next.toNat<=b.toNat:=a4;refine⟨s5,_,W5,a1,aN,⟨⟨keep V 9 rows h.gl.out λb hb=>⟨λe=>h.wV b e hb,λe=>h.gl.n5 (by rw[hb,e])⟩,h.gl.len,λi g r hi hr=> ?_,by rw[bk (λe=>Ff e.symm)];exact y4,dx _ _ _,h.gl.n4,h.gl.n5⟩,M6,b4,b5,λb hb e=> ?_,λi r v b hr h8 hv e=> ?_⟩⟩
 .obtain⟨v,e1,e2,e3⟩:=h.gl.qt i g r hi hr;have h8:r[8]? =some v:=(by rw[e1];rfl);exact⟨v,e1,keep v 1 _ e2 λb hb=>⟨h.wI i r v b hr h8 hb,(e3 b hb).2.2⟩,e3⟩
 .have:=newW b hb;have:=h.gl.out.own.lt hw e;omega
 .have p1:=newW b e;have hi:i<gs.length:=(by rw[<-h.gl.len];exact(Za3.1 hr).1);obtain⟨u,e1,e2,_⟩:=h.gl.qt i gs[i] r (H5 hi) hr;have:u=v:=(by rw[e1]at h8;exact Zh4 h8);subst this;have:=e2.own.lt hw hv;omega
def jD(gs:List aM):List (List Nat):=gs.map λg=>g.name
def PZ(bg:List Nat)(i k n:Nat):Ty:=⟨br i,br k,1+((bg.getD n 0 % 4:Nat):Int)⟩
def UP(bg:List Nat)(n:Nat):Bool:=decide (n<bg.length)&&decide (bg.getD n 0 % 4<2)
def yf(bg:List Nat)(i k n:Nat)(ys:List Ty):List Ty:=if UP bg n=true then ys++[PZ bg i k n]else ys
theorem UQ(bg:List Nat)(i k n:Nat)(ys:List Ty):(yf bg i k n ys).length<=ys.length+1:=by unfold yf;split<;>simp
def jE(names:List (List Nat))(bg:List Nat)(i:Nat):Nat->Nat->Nat->List Ty->Nat×List Ty
 |0,_,n,ys=>(n,ys)
 |m+1,k,n,ys=>if br i∈names then(if br k∈names then jE names bg i m (k+1) (n+1) (yf bg i k n ys)else jE names bg i m (k+1) n ys)else(n,ys)
theorem GL.there(hc:cE c){st s:St}{p4 p5:Pos}{V W:AV}{gs:List aM}{rows:List (List AV)}(h:GL st s p4 p5 V W gs rows)(hl:gs.length<=1000)(x:Nat)(hx:x<1000000):
  c 115 [.agg [V,W],.int .i64 (x:Int)] s=some (.bool (decide (br x∈jD gs)),s):=
 acw hc h.out.own h.out.row (names:=jD gs) (by rw[jD,Za9,h.len]) (λi h1 h2=>by
  have h3:i<gs.length:=by rw[<-h.len];exact h1
  obtain⟨v,e,_⟩:=h.qt i gs[i] rows[i] (H5 h3) (H5 h1);rw[e];simp[jD,aM.aA]) (by rw[h.len];exact hl) x hx h.out.aE.wf
theorem VA{R:Type}(h:T AB)(ok:AV->Bool)(xs:List (List AV))(i j:Nat)(K1:AV->Option R):kR (.load none) [.fp xs i j] h ok K1=sP (xs[i]?.bind λcs=>cs[j]?) K1:=by unfold kR;rw[vN,vN];cases hx:(xs[i]?.bind λcs=>cs[j]?)<;>rfl
theorem aaA{R:Type}(a b:List Nat)(k:Int)(s:St)(K:AV->AB->Option R):IF (.buildSlice 3 1 [.str [],.str [],.int .u8 0] [0]) [.agg [.str a,.str b,.int .u8 k]] s K=K (.slice s.next 0 1 (some 1) 3) (.cells [.str a,.str b,.int .u8 k] 0):=rfl
theorem Yz(a b:List Nat)(k:Int)(K:AV->Option (AV×St)):dJ (.build [.str [],.str [],.int .u8 0] [(0,1),(1,1),(2,1)]) [.str a,.str b,.int .u8 k] K=K (.agg [.str a,.str b,.int .u8 k]):=rfl
theorem aeH (hc:cE c){bg:List Nat}(ht:∀x∈bg,x<256)(z:Bool){st:St}{p4 p5:Pos}(Ff:p4≠p5)(Dc:st.next.toNat<=p5.toNat){V:AV}{gs:List aM}(zL:gs.length<=1000){rows:List (List AV)}{i:Nat}(hi:i<1000):
  ∀(m k n:Nat)(s:St)(W:AV)(ys:List Ty),k+m=312->ys.length<=n->n+m<=1000000->YL st s p4 p5 V W gs rows ys->
  ∃ s' W',YL st s' p4 p5 V W' gs rows (jE (jD gs) bg i m k n ys).2/\∀(F:Nat)(k8:List AV->St->Option (AV×St))(f:Nat),m<f->
    gX c F k8 f [bR .u8 z bg,.ptr p4 0,.ptr p5 0,.int .i64 (n:Int),.int .i64 (i:Int),.int .i64 (k:Int)] s=k8 [bR .u8 z bg,.ptr p4 0,.ptr p5 0,.int .i64 ((jE (jD gs) bg i m k n ys).1:Int),.int .i64 (i:Int)] s':=by
 intro m;induction m with
 |zero=>
  intro k n s W ys hk hy hn h;obtain rfl:k=312:=by omega
  refine⟨s,W,h,λF k8 f hf=> ?_⟩;obtain⟨f,rfl⟩:∃g,f=g+1:=⟨f - 1,by omega⟩
  rw[fK];simp[jE]
 |succ m ih  =>
  intro k n s W ys hk hy hn h;have T1:=h.gl.there hc zL i (by omega);have T2:=h.gl.there hc zL k (by omega);have hd:decide ((k:Int)<312)=true:=Za0 (by omega);have w:aq .i64 ((k:Int)+1)=((k+1:Nat):Int):=wrap64 (by omega) (by omega);have w2:aq .i64 ((n:Int)+1)=((n+1:Nat):Int):=wrap64 (by omega) (by omega);have h5:=h.gl.h5;have cu:cut [V,W] 0 2=some [V,W]:=rfl;have lI:∀(K:AV->St->Option (AV×St))(s:St),ak c (.lenB .l) [bR .u8 z bg] s K=K (.int .i64 (bg.length:Int)) s:=λK s=>by unfold bR;rw[kJ];simp
  by_cases OP:br i∈jD gs
  . by_cases kg:br k∈jD gs
    .   have eT:jE (jD gs) bg i (m+1) k n ys=jE (jD gs) bg i m (k+1) (n+1) (yf bg i k n ys):=(by rw[jE,Za7 OP,Za7 kg]);rw[eT];have hl:=UQ bg i k n ys;by_cases kQ:n<bg.length
        . have ix:∀(K:AV->St->Option (AV×St))(s:St),ak c (.idxA 1 none) [bR .u8 z bg,.int .i64 (n:Int)] s K=K (.fp (bg.map λ(i:Nat)=>[.int .u8 (i:Int)]) n 0) s:=λK s=>by unfold bR;rw[Tm];simp[kQ]
          have pix:∀(K:AV->Option (AV×St)),dJ (.idxA 1 none) [bR .u8 z bg,.int .i64 (n:Int)] K=K (.fp (bg.map λ(i:Nat)=>[.int .u8 (i:Int)]) n 0):=λK=>by unfold bR;rw[abA];simp[kQ]
          obtain⟨x,hx⟩:∃x,bg[n]=x:=⟨_,rfl⟩
          have hx8:x<256:=(by rw[<-hx];exact ht _ (Zc6 kQ));have gd:bg.getD n 0=x:=(by simp[Zb4,kQ,hx]);have r1:=λ(s:St)(K:AV->St->Option (AV×St))=>bN (c:=c) (k:= .u8) (a:=(x:Int)) (b:=4) (by omega) (by omega) s K
          have r2:=λ(K:AV->Option (AV×St))=>Ge (k:= .u8) (a:=(x:Int)) (b:=4) (by omega) (by omega) K
          have w8:aq .u8 (1+(x:Int) % 4)=1+(x:Int) % 4:=yu (by omega) (by omega);have eC:UP bg n=decide (x % 4<2):=(by unfold UP;rw[gd,Za0 kQ,Zf4]);have d2:decide ((x:Int) % 4<2)=decide (x % 4<2):=decide_eq_decide.2 (by omega);by_cases hx4:x % 4<2
          . have eY:yf bg i k n ys=ys++[PZ bg i k n]:=(by unfold yf;rw[eC,Za7 (Za0 hx4)]);rw[eY]at hl ⊢;obtain⟨s5,s6,W5,a1,a2,a3⟩:=h.push (c:=c) Ff Dc (PZ bg i k n) (by omega);have eU:(PZ bg i k n).cells=[.str (br i),.str (br k),.int .u8 (1+(x:Int) % 4)]:=(by unfold PZ Ty.cells;rw[gd];simp);have a1':∀K,ak c (.append 3 40) [W,.slice s.next 0 1 (some 1) 3] (ah s (.cells [.str (br i),.str (br k),.int .u8 (1+(x:Int) % 4)] 0)) K=K W5 s5:=λK=>by have h1:=a1 K;rw[Wp (es:=3) (z:=[.str [],.str [],.int .u8 0]) (x:= .agg (PZ bg i k n).cells) rfl rfl]at h1;rw[<-eU];exact h1
            have N1:=rY hc i (by omega) s h.gl.out.aE.wf;have N2:=rY hc k (by omega) s h.gl.out.aE.wf;obtain⟨s',W',b1,b2⟩:=ih (k+1) (n+1) s6 W5 _ (by omega) (by omega) (by omega) a3;refine⟨s',W',b1,λF k8 f hf=> ?_⟩;obtain⟨f,rfl⟩:∃g,f=g+1:=⟨f - 1,by omega⟩
            rw[<-b2 F k8 f (by omega),fK];simp[-bf,-vP,-yO,h5,cu,T1,T2,OP,kg,hd,gM,lI,kQ,ix,pix,hx,r1,r2,d2,hx4,w8,N1,N2,VA,aaA,Yz,a1',a2,w,w2]
          . have eY:yf bg i k n ys=ys:=(by unfold yf;rw[eC,Za5 (by simp;omega)]);rw[eY];obtain⟨s',W',b1,b2⟩:=ih (k+1) (n+1) s W ys (by omega) (by omega) (by omega) h;refine⟨s',W',b1,λF k8 f hf=> ?_⟩;obtain⟨f,rfl⟩:∃g,f=g+1:=⟨f - 1,by omega⟩
            have d2':decide ((x:Int) % 4<2)=false:=Za2 (by omega);rw[<-b2 F k8 f (by omega),fK];simp[-bf,-vP,-yO,h5,cu,T1,T2,OP,kg,hd,gM,lI,kQ,ix,hx,r1,d2',w,w2]
        . have eY:yf bg i k n ys=ys:=(by unfold yf UP;rw[Za2 kQ,Bool.false_and,Za5 (by decide)]);rw[eY];obtain⟨s',W',b1,b2⟩:=ih (k+1) (n+1) s W ys (by omega) (by omega) (by omega) h;refine⟨s',W',b1,λF k8 f hf=> ?_⟩;obtain⟨f,rfl⟩:∃g,f=g+1:=⟨f - 1,by omega⟩
          rw[<-b2 F k8 f (by omega),fK];simp[-bf,-vP,-yO,h5,cu,T1,T2,OP,kg,hd,gM,lI,kQ,w,w2]
    .   have eT:jE (jD gs) bg i (m+1) k n ys=jE (jD gs) bg i m (k+1) n ys:=(by rw[jE,Za7 OP,Za5 kg]);rw[eT];obtain⟨s',W',b1,b2⟩:=ih (k+1) n s W ys (by omega) (by omega) (by omega) h;refine⟨s',W',b1,λF k8 f hf=> ?_⟩;obtain⟨f,rfl⟩:∃g,f=g+1:=⟨f - 1,by omega⟩
        rw[<-b2 F k8 f (by omega),fK];simp[-bf,-vP,-yO,h5,cu,T1,T2,OP,kg,hd,gM,w]
  . have eT:jE (jD gs) bg i (m+1) k n ys=(n,ys):=(by rw[jE,Za5 OP]);rw[eT];refine⟨s,W,h,λF k8 f hf=> ?_⟩;obtain⟨f,rfl⟩:∃g,f=g+1:=⟨f - 1,by omega⟩
    rw[fK];simp[-bf,-vP,-yO,h5,cu,T1,OP,hd,gM]
theorem JF(names:List (List Nat))(bg:List Nat)(i:Nat):∀(m k n:Nat)(ys:List Ty),ys.length<=n->(jE names bg i m k n ys).2.length<=(jE names bg i m k n ys).1/\(jE names bg i m k n ys).1<=n+m
 |0,k,n,ys,h=>by unfold jE;exact⟨h,by omega⟩
 |m +   1,k,n,ys,h=>by
  unfold jE;split
  . split
    .   have hl:=UQ bg i k n ys;have:=JF names bg i m (k+1) (n+1) (yf bg i k n ys) (by omega);omega
    .   have:=JF names bg i m (k+1) n ys h;omega
  .exact⟨h,by omega⟩
def JG(names:List (List Nat))(bg:List Nat):Nat->Nat->Nat->List Ty->List Ty
 |0,_,_,ys=>ys
 |m+1,i,n,ys=>JG names bg m (i+1) (jE names bg i m (i+1) n ys).1 (jE names bg i m (i+1) n ys).2
theorem adZ(hc:cE c){bg:List Nat}(ht:∀x∈bg,x<256)(z:Bool){st:St}{p4 p5:Pos}(Ff:p4≠p5)(Dc:st.next.toNat<=p5.toNat){V:AV}{gs:List aM}(zL:gs.length<=1000){rows:List (List AV)}:
  ∀(m i n:Nat)(s:St)(W:AV)(ys:List Ty),i+m=312->ys.length<=n->n+m*312<=1000000->YL st s p4 p5 V W gs rows ys->
  ∃s' W',YL st s' p4 p5 V W' gs rows (JG (jD gs) bg m i n ys)/\∀(F:Nat)(_:400<=F)(k6:List AV->St->Option (AV×St))(f:Nat),m<f->
   gY c F k6 f [bR .u8 z bg,.ptr p4 0,.ptr p5 0,.int .i64 (n:Int),.int .i64 (i:Int)] s=k6 [.ptr p4 0,.ptr p5 0] s':=by
 intro m;induction m with
 |zero=>
  intro i n s W ys hk hy hn h;obtain rfl:i=312:=by omega
  refine⟨s,W,h,λF _ k6 f hf=> ?_⟩;obtain⟨f,rfl⟩:∃g,f=g+1:=⟨f - 1,by omega⟩
  rw[tS];simp
 |succ m ih=>
  intro i n s W ys hk hy hn h;have hd:decide ((i:Int)<312)=true:=Za0 (by omega);have b1: -9223372036854775808<=(i:Int)+1:=by omega
  have b2:(i:Int)+1<=9223372036854775807:=by omega
  have e3:((i+1:Nat):Int)=(i:Int)+1:=by omega
  obtain⟨s1,W1,h1,e1⟩:=aeH hc ht z Ff Dc zL (i:=i) (by omega) m (i+1) n s W ys (by omega) hy (by omega) h;have hl:=JF (jD gs) bg i m (i+1) n ys hy;obtain⟨s2,W2,h2,e2⟩:=ih (i+1) _ s1 W1 _ (by omega) hl.1 (by omega) h1;refine⟨s2,W2,h2,λF hF k6 f hf=> ?_⟩;obtain⟨f,rfl⟩:∃g,f=g+1:=⟨f - 1,by omega⟩
  have W9:=λk8=>e1 F k8 F (by omega)
  rw[<-e2 F hF k6 f (by omega),tS];clear e1 e2 hl;have w:aq .i64 ((i:Int)+1)=(i:Int)+1:=wrap64 b1 b2;rw[e3]at W9 ⊢;simp[hd,w,W9]
structure RS(st s:St)(V W:AV)(gs:List aM)(rows:List (List AV))(ys:List Ty):Prop where
 aE:Grew st s
 out:Mk 9 st s V rows
 len:rows.length=gs.length
 qt:∀(i:Nat)(g:aM)(r:List AV),gs[i]? =some g->rows[i]? =some r->∃v,r=g.aA v/\Mk 1 st s v (g.tg.map JD)/\∀b,aZ v=some b->aZ V≠some b/\aZ W≠some b
 ty:Mk 3 st s W (ys.map Ty.cells)
 wV:∀b,aZ W=some b->aZ V≠some b
def eN(xs:List Nat):List aM:=w6 xs (min xs.length 12)
def w7(xs bg:List Nat):List Ty:=JG (jD (eN xs)) bg 312 0 0 []
theorem zd(xs:List Nat):(eN xs).length<=12:=by unfold eN;rw[B9];omega
theorem ad0(hc:cE c){xs bg:List Nat}(hx:∀x∈xs,x<65536)(hl:xs.length<=9223372036854775807)(ht:∀x∈bg,x<256)(z z2:Bool)(st:St)(hw:Wf st):
   ∃V W s' rows,c 66 [bR .u16 z xs,bR .u8 z2 bg] st=some (.agg [V,W],s')/\RS st s' V W (eN xs) rows (w7 xs bg):=by
 have dc:Wf (ah st (.cells [.af,.af] 0)):=bK hw;have g1:=Grew.ah hw (.cells [.af,.af] 0);have g2:=Grew.ah dc (.cells [.af,.af] 0);have n12:st.next≠(ah st (.cells [.af,.af] 0)).next:=by rw[cN];exact Pos.Pb _
 have Dc:st.next.toNat<=(ah st (.cells [.af,.af] 0)).next.toNat:=by rw[cN,Pos.az];omega
 have G0:GL st (ah (ah st (.cells [.af,.af] 0)) (.cells [.af,.af] 0)) st.next (ah st (.cells [.af,.af] 0)).next .af .af (w6 xs 0) []:=
   ⟨Mk.start hw (g1.trans g2),rfl,λi g r hi _=>by simp[w6]at hi,g2.get (aD _ _),aD _ _,λe=>(nomatch e),λe=>(nomatch e)⟩
 obtain⟨s1,V,rows,h1,e1⟩:=Vz hc hx hl z (bR .u8 z2 bg) n12 Dc (min xs.length 12) 0 _ .af [] (by omega) G0;obtain⟨s2,W,h2,e2⟩:=adZ hc ht z2 n12 Dc (gs:=eN xs) (by have:=zd xs;omega) 312 0 0 s1 .af [] (by omega) (by simp) (by omega) (YL.start h1);have W9:∀k2:List AV->St->Option (AV×St),eo c 400 k2 400 [bR .u16 z xs,bR .u8 z2 bg,.ptr st.next 0,.ptr (ah st (.cells [.af,.af] 0)).next 0,.int .i64 0] (ah (ah st (.cells [.af,.af] 0)) (.cells [.af,.af] 0))=k2 [bR .u8 z2 bg,.ptr st.next 0,.ptr (ah st (.cells [.af,.af] 0)).next 0] s1:=λk2=>e1 400 (by omega) k2 400 (by omega)
 have e2':∀k6:List AV->St->Option (AV×St),gY c 400 k6 400 [bR .u8 z2 bg,.ptr st.next 0,.ptr (ah st (.cells [.af,.af] 0)).next 0,.int .i64 0,.int .i64 0] s1=k6 [.ptr st.next 0,.ptr (ah st (.cells [.af,.af] 0)).next 0] s2:=λk6=>e2 400 (by omega) k6 400 (by omega)
 have h5:=h2.gl.h5;have h4:=h2.gl.h4;have l4:=h2.gl.out.aE.wf _ _ h4;obtain⟨vc,v1⟩:=h2.gl.out.cells;obtain⟨wc,w1⟩:=h2.ty.cells;have one:aL [V,W]=true:=by
   have v2:V.one=true:=qL v1;have w2:W.one=true:=qL w1;simp only[aL,v2,w2]
 have cu:cut [V,W] 0 2=some [V,W]:=rfl;have Fg:∀(K:AV->St->Option (AV×St)),ak c (.store 2) [.ptr st.next 0,.agg [V,W]] s2 K=K .undef (b9 s2 st.next (.cells [V,W] 0)):=λK=>by rw[dh c K s2 2 st.next 0 (.agg [V,W]) [.af,.af] h4 rfl (by simp) one];rfl
 have A:=h2.gl.out.store (p:=st.next) (b:= .cells [V,W] 0) (Za6 _) l4 h2.gl.n4;have B:=h2.ty.store (p:=st.next) (b:= .cells [V,W] 0) (Za6 _) l4 h2.w4;have ins:∀u∈[V,W],iq u:=λu hu=>by
   simp only[Zb1,Ze6,Zj6]at hu;rcases hu with rfl|rfl
   .exact A.inst
   .exact B.inst
 obtain⟨sa,t1,ta,tA⟩:=A.Gd (l:=[V,W]) (by simp) ins;obtain⟨sb,t2,tb,tB⟩:=B.Gd (l:=[V,W]) (by simp) ins;have hab:sb=sa:=by rw[t1]at t2;exact(Prod.mk.inj t2).2.symm
 subst hab;refine⟨V,W,sb,rows,?_,⟨tA.aE,tA,h2.gl.len,λi g r hi hr=> ?_,tB,h2.wV⟩⟩
 .rw[Fa hc 400 (r:=(.agg [V,W],b9 s2 st.next (.cells [V,W] 0))),t1];rw[H8];simp[W9,e2',h5,cu,Fg]
 . obtain⟨v,q1,q2,q3⟩:=h2.gl.qt i g r hi hr;have h8:r[8]? =some v:=(by rw[q1];rfl);refine⟨v,q1,?_,λb hb=>⟨(q3 b hb).1,h2.wI i r v b hr h8 hb⟩⟩;rcases ta with rfl|rfl
   .exact q2.store (p:=st.next) (b:= .cells [V,W] 0) (Za6 _) l4 (λe=>(q3 _ e).2.1 rfl)
   . (exfalso;have cF:rows≠[]:=λe=>by rw[e]at hr;simp at hr);rcases tA.loose with⟨b,off,n,rfl⟩|⟨_,e⟩
     .  have p1:=tA.new b (oe _ _ _ _);have p2:=tA.own.lt hw (oe _ _ _ _);omega
     .  exact cF e
def gu(xt:List Nat):List aU:=nr xt (min xt.length 3)
def rA(xt xg:List Nat):List Nat:=xg.take (min xg.length (ia xt (min xt.length 3)))
def jF(xt xg:List Nat):List aM:=eN (rA xt xg)
def aaB(xt xg xy:List Nat):List Ty:=w7 (rA xt xg) xy
def lW(xt xg xy:List Nat):List Int:=if 0<xy.length % 4 then ye xg (jF xt xg).length else []
def aeI(xt xg xr:List Nat):List Rl:=uD (gu xt) (jF xt xg) xr (min xr.length 12)
def jS(xt xg xy xr:List Nat):bZ:=⟨true,gu xt,true,jF xt xg,true,aaB xt xg xy,true,lW xt xg xy,true,aeI xt xg xr⟩
theorem aaC(x:Nat):0<tN x:=by
 have:0<tA x:=by unfold tA;split<;>(try split)<;>(try split)<;>omega
 unfold tN;split<;>(try split)<;>omega
theorem MN{xs:List Nat}{k:Nat}{t:aU}(h:t∈nr xs k):∃i x,t=ir i x:=by
 unfold nr at h;simp only[Zg0]at h;obtain⟨i,_,rfl⟩:=h;exact⟨_,_,rfl⟩
theorem aaD{xs:List Nat}{k:Nat}:∀t∈nr xs k,0<jC t.sh t.a t.b/\jC t.sh t.a t.b<=1000:=λt h=>by obtain⟨i,x,rfl⟩:=MN h;have e:jC (ir i x).sh (ir i x).a (ir i x).b=((tN x:Nat):Int):=Ku x;have h1:=aaC x;have h2:=OI x;rw[e];omega
theorem UR{xs:List Nat}{k:Nat}:∀t∈nr xs k,(0<=t.a/\t.a<=1000000)/\0<=t.b/\t.b<=1000000:=λt h=>by obtain⟨i,x,rfl⟩:=MN h;have h1:=Sc x;have h2:=Sd x;show(0<=((tA x:Nat):Int)/\((tA x:Nat):Int)<=1000000)/\0<=((tB x:Nat):Int)/\((tB x:Nat):Int)<=1000000;omega
theorem RS.gs{st sL sR:St}{V W:AV}{gs:List aM}{rows:List (List AV)}{ys:List Ty}(h:RS sL sR V W gs rows ys)(h0:Wf st)(g:Grew st sL):GS st sR V gs rows/\GS.mP sL.next.toNat V rows:=
 ⟨⟨h.out.back h0 g,h.len,λi t r hi hr=>by
   obtain⟨v,e1,e2,e3⟩:=h.qt i t r hi hr;exact⟨v,e1,e2.back h0 g,λb hb=>(e3 b hb).1⟩⟩,h.out.new,λi r v b hr h8 hb=>by
   have hi:i<gs.length:=(by rw[<-h.len];exact(Za3.1 hr).1);obtain⟨u,e1,e2,_⟩:=h.qt i gs[i] r (H5 hi) hr;have:u=v:=(by rw[e1]at h8;exact Zh4 h8);subst this;exact e2.new b hb⟩
theorem TS.mP.le{n m:Nat}{V:AV}{rows:List (List AV)}(h:TS.mP n V rows)(hm:m<=n):TS.mP m V rows:=⟨λb hb=>Zc8 hm (h.1 b hb),λi r v b h1 h2 h3=>Zc8 hm (h.2 i r v b h1 h2 h3)⟩
theorem GS.mP.le{n m:Nat}{V:AV}{rows:List (List AV)}(h:GS.mP n V rows)(hm:m<=n):GS.mP m V rows:=⟨λb hb=>Zc8 hm (h.1 b hb),λi r v b h1 h2 h3=>Zc8 hm (h.2 i r v b h1 h2 h3)⟩
theorem PS.ac5{s s':St}{V1 V2 V3 V4 V5:AV}{p:bZ}{r1 r2:List (List AV)}(h1:TS s s' V1 p.ts r1)(h2:GS s s' V2 p.gs r2)(h3:Mk 3 s s' V3 (p.ys.map Ty.cells))(h4:Mk 1 s s' V4 (p.cs.map cv))(h5:Mk 6 s s' V5 (p.rs.map Rl.cells)):
   ∃gO,Go.Ai.tidy s (.agg [V1,V2,V3,V4,V5],s')=(.agg [V1,V2,V3,V4,V5],gO)/\PS s gO [V1,V2,V3,V4,V5] p:=by
 obtain⟨gO,e,g,k⟩:=Mk.abL (s:=s) (s':=s') (l:=[V1,V2,V3,V4,V5]) (λu hu=>by
   simp only[Zb1,Ze6,Zj6]at hu;rcases hu with rfl|rfl|rfl|rfl|rfl
   .exact h1.out.inst
   .exact h2.out.inst
   .exact h3.inst
   .exact h4.inst
   .exact h5.inst) h1.out.qi h1.out.aE
 obtain⟨a1,b1⟩:=k 7 V1 r1 (by simp) h1.out;obtain⟨a2,b2⟩:=k 9 V2 r2 (by simp) h2.out;obtain⟨a3,_⟩:=k 3 V3 _ (by simp) h3;obtain⟨a4,_⟩:=k 1 V4 _ (by simp) h4;obtain⟨a5,_⟩:=k 6 V5 _ (by simp) h5;refine⟨gO,e,g,V1,V2,V3,V4,V5,r1,r2,rfl,⟨a1,h1.len,λi t r hi hr=> ?_⟩,⟨a2,h2.len,λi t r hi hr=> ?_⟩,a3,a4,a5⟩
 . rcases b1 with rfl|rfl
   .exact h1.qt i t r hi hr
   .simp at hr
 . rcases b2 with rfl|rfl
   .exact h2.qt i t r hi hr
   .simp at hr
theorem aaE{R:Type}(k k':IntKind)(z:Bool)(l:List Nat){i:Nat}(h:i<=l.length)(K:AV->Option R):dJ (.sliceL 1 false true false) [bR k z l,.int k' (i:Int)] K=K (bR k (z&&l.isEmpty) (l.take i)):=by unfold bR;rw[ZY,Za9,Za7 h];simp only[Zp8,Zm1];rfl
theorem aaF{R:Type}(k:IntKind)(z:Bool)(l:List Nat)(K:AV->Option R):dJ (.lenB .l) [bR k z l] K=K (.int .i64 (l.length:Int)):=by unfold bR;rw[Tj];simp
theorem acD{R:Type}(s:St)(K:AV->AB->Option R):IF (.alloc [.af,.af]) [] s K=K (.ptr s.next 0) (.cells [.af,.af] 0):=rfl
theorem Xa (hc:cE c) {xt xg xy xr:List Nat}(ht:∀x∈xt,x<256)(hg:∀x∈xg,x<65536)(hy:∀x∈xy,x<256)(hr:∀x∈xr,x<4294967296)(lt:xt.length<=9223372036854775807)(lg:xg.length<=9223372036854775807)(lr:xr.length<=9223372036854775807)(ly:xy.length<=9223372036854775807)
  (zt zg zy zr:Bool) (st:St) (hw:Wf st):∃Vs s',c 15 [.agg (dP zt zg zy zr xt xg xy xr)] st=some (.agg Vs,s')/\PS st s' Vs (jS xt xg xy xr):=by
 have w1:Wf (ah st (.cells (dP zt zg zy zr xt xg xy xr) 0)):=bK hw;have w2:Wf (ah (ah st (.cells (dP zt zg zy zr xt xg xy xr) 0)) (.cells [.af,.af,.af,.af,.af] 0)):=bK w1;have g1:=Grew.ah hw (.cells (dP zt zg zy zr xt xg xy xr) 0);have g2:=Grew.ah w1 (.cells [.af,.af,.af,.af,.af] 0);have g3:=Grew.ah w2 (.cells [.af,.af,.af,.af,.af] 0);obtain⟨p1,fE⟩:∃p1,p1=st.next:=⟨_,rfl⟩
 obtain⟨p2,xx⟩:∃p2,p2=(ah st (.cells (dP zt zg zy zr xt xg xy xr) 0)).next:=⟨_,rfl⟩
 obtain⟨p3,Wz⟩:∃p3,p3=(ah (ah st (.cells (dP zt zg zy zr xt xg xy xr) 0)) (.cells [.af,.af,.af,.af,.af] 0)).next:=⟨_,rfl⟩
 obtain⟨s3,qN⟩:∃s3,s3=ah (ah (ah st (.cells (dP zt zg zy zr xt xg xy xr) 0)) (.cells [.af,.af,.af,.af,.af] 0)) (.cells [.af,.af,.af,.af,.af] 0):=⟨_,rfl⟩
 have n1:st.next.toNat=p1.toNat:=by rw[fE]
 have n2:p2.toNat=p1.toNat+1:=by rw[xx,cN,Pos.az,fE]
 have n3:p3.toNat=p2.toNat+1:=by rw[Wz,cN,Pos.az,xx]
 have n4:s3.next.toNat=p3.toNat+1:=by rw[qN,cN,Pos.az,Wz]
 have G3:Grew st s3:=by rw[qN];exact(g1.trans g2).trans g3
 have H1:s3.heap.get p1=some (.cells (dP zt zg zy zr xt xg xy xr) 0):=by rw[qN,fE];exact g3.get (g2.get (aD _ _))
 have H2:s3.heap.get p2=some (.cells [.af,.af,.af,.af,.af] 0):=by rw[qN,xx];exact g3.get (aD _ _)
 have H3:s3.heap.get p3=some (.cells [.af,.af,.af,.af,.af] 0):=by rw[qN,Wz];exact aD _ _
 have d13:p1≠p3:=λe=>by subst e;omega
 have d23:p2≠p3:=λe=>by subst e;omega
 have W3:=G3.wf
 obtain⟨sL,V1,r1,T1,e1⟩:=aay (c:=c) (x2:= .ptr p2 0) hc ht lt (zt:=zt) (zg:=zg) (zy:=zy) (zr:=zr) (xg:=xg) (xy:=xy) (xr:=xr) W3 H1 d13 (by omega) (by omega) (st:=st) (min xt.length 3) 0 s3 .af [] (by omega)
  ⟨⟨Mk.start hw G3,rfl,λi t r hi _=>by simp[nr]at hi⟩,KX.refl W3,H3,⟨λb e=>(nomatch e),λi r v b hr _ _=>by simp at hr⟩⟩
 have GL:=T1.tab.out.aE;have WL:=GL.wf;have lN:=T1.kx.next;have L1:=T1.kx.keep p1 _ d13 H1;have L2:=T1.kx.keep p2 _ d23 H2;have L3:=T1.h3;have mlen:(gu xt).length<=3:=by unfold gu;rw[GY];omega
 obtain⟨m,hm⟩:∃m:Nat,m=min xg.length (ia xt (min xt.length 3)):=⟨_,rfl⟩
 have hmx:xg.take m=rA xt xg:=by rw[hm];rfl
 obtain⟨V2,V3,sR,r2,cR,R⟩:=ad0 hc (xs:=rA xt xg) (bg:=xy) (λx hx=>hg x (Zl7 hx)) (by have:=List.length_take_le m xg;rw[hmx]at this;omega) hy (zg&&xg.isEmpty) zy sL WL;have GR:=GL.trans R.aE;have WR:=GR.wf;obtain⟨GSR,SR⟩:=R.gs hw GL;have rN:=R.aE.next;have gx:=Grew.ah WR (.cells [V2,V3] 0);obtain⟨sX,hsX⟩:∃sX,sX=ah sR (.cells [V2,V3] 0):=⟨_,rfl⟩
 have WX:Wf sX:=by rw[hsX];exact gx.wf
 have GX:Grew sR sX:=by rw[hsX];exact gx
 have X1:=GX.get (R.aE.get L1);have X2:=GX.get (R.aE.get L2);have X3:=GX.get (R.aE.get L3);have X8:sX.heap.get sR.next=some (.cells [V2,V3] 0):=by rw[hsX];exact aD _ _
 have n8:sR.next≠p3:=fun e=>by have:sR.next.toNat=p3.toNat:=by rw[e]
                               omega
 have lX:=WX _ _ X3;obtain⟨vc2,v2⟩:=R.out.cells;obtain⟨vc3,v3⟩:=R.ty.cells;have jT:∀(K:AV->St->Option (AV×St)),ak c (.store 1) [.ptr p3 (0+1),V2] sX K=K .undef (b9 sX p3 (.cells [V1,V2,.af,.af,.af] 0)):=λK=>by rw[dh c K sX 1 p3 (0+1) V2 [V1,.af,.af,.af,.af] X3 (by rw[vc2];rfl) (by simp) (by rw[vc2];exact v2),vc2];rfl
 have Ez:∀(K:AV->St->Option (AV×St)),ak c (.store 1) [.ptr p3 (0+2),V3] (b9 sX p3 (.cells [V1,V2,.af,.af,.af] 0)) K=K .undef (b9 sX p3 (.cells [V1,V2,V3,.af,.af] 0)):=λK=>by rw[dh c K _ 1 p3 (0+2) V3 [V1,V2,.af,.af,.af] (dx _ _ _) (by rw[vc3];rfl) (by simp) (by rw[vc3];exact v3),vc3,adp];rfl
 obtain⟨sB,hsB⟩:∃sB,sB=b9 sX p3 (.cells [V1,V2,V3,.af,.af] 0):=⟨_,rfl⟩
 have kXB:KX p3 sX sB:=by rw[hsB];exact(KX.refl WX).store lX _
 have WB:=kXB.wf;have GB:Grew st sB:=by rw[hsB];exact ru hw (GR.trans GX) (by omega) lX _
 have kRB:KX p3 sR sB:=((KX.refl WR).aE GX).trans kXB;have kLB:KX p3 sL sB:=((KX.refl WL).aE R.aE).trans kRB;have B1:=kXB.keep p1 _ d13 X1;have B2:=kXB.keep p2 _ d23 X2;have B3:sB.heap.get p3=some (.cells [V1,V2,V3,.af,.af] 0):=by rw[hsB];exact dx _ _ _
 have lB:=WB _ _ B3;have sT1:TS.mP (p3.toNat+1) V1 r1:=T1.since.le (by omega);have sG2:GS.mP (p3.toNat+1) V2 r2:=SR.le (by omega);have TB:=T1.tab.kx kLB GB sT1;have GSB:=GSR.kx kRB GB sG2;have s3V:∀b,aZ V3=some b->p3.toNat+1<=b.toNat:=λb hb=>by have:=R.ty.new b hb;omega
 have YB:=Mk.kx (R.ty.back hw GL) kRB GB s3V;have zL:(jF xt xg).length<=12:=zd _;have hgn:(jF xt xg).length<=xg.length:=by unfold jF eN;rw[B9, <-hmx,Zd5];omega
 have l2:∀(K:AV->St->Option (AV×St))(s':St),ak c (.lenB .l) [V2] s' K=K (.int .i64 ((jF xt xg).length:Int)) s':=λK s'=>by rw[QS.lenB R.out.own,R.len];rfl
 have C0:LL st sB sB p3 1 .af ((ye xg 0).map cv) (λA=>[V1,V2,V3,A,.af]):=⟨Mk.start hw GB,KX.refl WB,B3,λb e=>(nomatch e)⟩
 obtain⟨sC1,V41,C1,e2⟩:=Yx (c:=c) (x2:= .ptr p2 0) hg (zt:=zt) (zg:=zg) (zy:=zy) (zr:=zr) (xt:=xt) (xy:=xy) (xr:=xr) (st:=st) (V1:=V1) (V3:=V3) hgn (by omega) WB B1 d13 lB (by omega) l2 (jF xt xg).length 0 sB .af (by omega) C0;have ld2:∀(K:AV->St->Option (AV×St)),ak c (.load none) [.ptr p1 (0+2)] sB K=K (bR .u8 zy xy) sB:=λK=>by rw[iG,B1];rfl
 have key:∃Vs s',jI c 400 (.agg (dP zt zg zy zr xt xg xy xr)) st=some (.agg Vs,s')/\∃gO,Go.Ai.tidy st (.agg Vs,s')=(.agg Vs,gO)/\PS st gO Vs (jS xt xg xy xr):=by
  obtain⟨Q,hQ⟩:∃Q:Option (AV×St)->Prop,Q=λo=>∃Vs s',o=some (.agg Vs,s')/\∃gO,Go.Ai.tidy st (.agg Vs,s')=(.agg Vs,gO)/\PS st gO Vs (jS xt xg xy xr):=⟨_,rfl⟩
  have OJ:Q (jI c 400 (.agg (dP zt zg zy zr xt xg xy xr)) st)->∃Vs s',jI c 400 (.agg (dP zt zg zy zr xt xg xy xr)) st=some (.agg Vs,s')/\∃gO,Go.Ai.tidy st (.agg Vs,s')=(.agg Vs,gO)/\PS st gO Vs (jS xt xg xy xr):=λh=>by rw[hQ]at h;exact h
  apply OJ;clear OJ;have W9:∀(k2:List AV->St->Option (AV×St)),ek c 400 k2 400 [.ptr p1 0,.ptr p2 0,.ptr p3 0,.int .i64 0,.int .i64 0] s3=k2 [.ptr p1 0,.ptr p2 0,.ptr p3 0,.int .i64 (ia xt (min xt.length 3):Int)] sL:=λk2=>e1 400 k2 400 (by omega)
  have e2':∀(k4:List AV->St->Option (AV×St)),gW c 400 k4 400 [.ptr p1 0,.ptr p2 0,.ptr p3 0,.int .i64 0] sB=k4 [.ptr p1 0,.ptr p2 0,.ptr p3 0] sC1:=λk4=>e2 400 k4 400 (by omega)
  have ra1:∀(K:AV->Option (AV×St)),kR (.load none) [.ptr p1 (0+1)] sL.heap (λ_=>true) K=K (bR .u16 zg xg):=λK=>by rw[oK,L1];rfl
  have ra2:∀(K:AV->Option (AV×St)),kR (.load none) [.ptr p1 (0+2)] sL.heap (λ_=>true) K=K (bR .u8 zy xy):=λK=>by rw[oK,L1];rfl
  have rb0:∀(K:AV->Option (AV×St)),kR (.load none) [.ptr sR.next (0+0)] sX.heap (λ_=>true) K=K V2:=λK=>by rw[oK,X8];rfl
  have rb1:=λ(K:AV->Option (AV×St))=>uR K (p:=sR.next) (o:=0+1) (h:=(b9 sX p3 (.cells [V1,V2,.af,.af,.af] 0)).heap) (h2:=sX.heap) (v:=V3) (by rw[bk (λe=>n8 e.symm),X8];rfl) (by rw[X8];rfl) R.ty.own.beq
  have pm:∀(K:AV->Option (AV×St)),dJ .minB [.int .i64 (xg.length:Int),.int .i64 (ia xt (min xt.length 3):Int)] K=K (.int .i64 (m:Int)):=λK=>by rw[bU K (λH n=>Ki H n _ _ _ _),hm];congr 2;generalize ia xt (min xt.length 3)=a;omega
  have Fg:∀(K:AV->St->Option (AV×St)),ak c (.store 2) [.ptr sR.next 0,.agg [V2,V3]] (ah sR (.cells [.af,.af] 0)) K=K .undef sX:=λK=>by
    rw[hsX];exact dK c K sR 2 (.agg [V2,V3]) [.af,.af] rfl rfl (by
        have a2:V2.one=true:=qL v2;have a3:V3.one=true:=qL v3;show aL [V2,V3]=true;simp only[aL,a2,a3])
  rw[H6,pT,show AV.cells (.agg (dP zt zg zy zr xt xg xy xr))=dP zt zg zy zr xt xg xy xr from rfl,iO,iO, <-qN, <-Wz, <-xx, <-fE,aC,aC,W9,
    aB,aB,aB,aB,bu,bn,ra1,bn,ra1,aaF,cZ,pm,aaE _ _ _ _ (by omega),bn,ra2,hmx,fM,cR,eZ,acD,Fg,bn,rb0,bn,jT,bn,rb1,bn,Ez, <-hsB]
  refine qM (P:=λj=>∀sC V4,LL st sB sC p3 1 V4 ((lW xt xg xy).map cv) (λA=>[V1,V2,V3,A,.af])->Q (j [.ptr p1 0,.ptr p2 0,.ptr p3 0] sC)) ?_ ?_
  . intro sC V4 hC;have GC:=hC.out.aE;have WC:=GC.wf;have nC:=hC.kx.next;have C1':=hC.kx.keep p1 _ d13 B1;have C2':=hC.kx.keep p2 _ d23 B2;have TC:=TB.kx hC.kx GC sT1;have GSC:=GSB.kx hC.kx GC sG2;have YC:=Mk.kx YB hC.kx GC s3V
    obtain⟨sD,V5,D1,e3⟩:=Yy (c:=c) (x2:= .ptr p2 0) hc hr lr (zt:=zt) (zg:=zg) (zy:=zy) (zr:=zr) (xt:=xt) (xg:=xg) (xy:=xy) (V3:=V3) (V4:=V4) WC C1' d13 (by omega) (by omega) TC sT1 GSC sG2 (show(gu xt).length<=1000 by omega) (show(jF xt xg).length<=1000 by omega) aaD UR (min xr.length 12) 0 sC .af (by omega)
        ⟨Mk.start hw GC,KX.refl WC,hC.h3,λb e=>(nomatch e)⟩
    have e3':∀(k6:List AV->St->Option (AV×St)),gV c 400 k6 400 [.ptr p1 0,.ptr p2 0,.ptr p3 0,.int .i64 0] sC=k6 [.ptr p2 0,.ptr p3 0] sD:=λk6=>e3 400 k6 400 (by omega)
    have GD:=D1.out.aE;have WD:=GD.wf;have D2':=D1.kx.keep p2 _ d23 C2';have s4V:∀b,aZ V4=some b->p3.toNat+1<=b.toNat:=λb hb=>by have:=hC.since b hb;omega
    have s5V:∀b,aZ V5=some b->p3.toNat+1<=b.toNat:=λb hb=>by have:=D1.since b hb;omega
    have TD:=TC.kx D1.kx GD sT1;have GSD:=GSC.kx D1.kx GD sG2;have YD:=Mk.kx YC D1.kx GD s3V;have CD:=Mk.kx hC.out D1.kx GD s4V;have lD:=WD _ _ D2';have ld5:∀(K:AV->St->Option (AV×St)),ak c (.load (some 5)) [.ptr p3 0] sD K=K (.agg [V1,V2,V3,V4,V5]) sD:=λK=>by rw[yy,D1.h3];rfl
    have one5:aL [V1,V2,V3,V4,V5]=true:=by
        have a1:V1.one=true:=qL TD.out.cells.2;have a2:V2.one=true:=qL v2;have a3:V3.one=true:=qL v3;have a4:V4.one=true:=qL CD.cells.2;have a5:V5.one=true:=qL D1.out.cells.2;simp only[aL,a1,a2,a3,a4,a5,Zi8]
    have sto5:∀(K:AV->St->Option (AV×St)),ak c (.store 5) [.ptr p2 0,.agg [V1,V2,V3,V4,V5]] sD K=K .undef (b9 sD p2 (.cells [V1,V2,V3,V4,V5] 0)):=λK=>by rw[dh c K _ 5 p2 0 (.agg [V1,V2,V3,V4,V5]) _ D2' rfl (by simp) one5];rfl
    have kE:KX p2 sD (b9 sD p2 (.cells [V1,V2,V3,V4,V5] 0)):=(KX.refl WD).store lD _;have GE:=ru hw GD (show st.next.toNat<=p2.toNat by omega) lD (.cells [V1,V2,V3,V4,V5] 0);obtain⟨gO,t1,t2⟩:=PS.ac5 (p:=jS xt xg xy xr) (TD.kx kE GE (sT1.le (by omega))) (GSD.kx kE GE (sG2.le (by omega))) (Mk.kx YD kE GE λb hb=>by have:=s3V b hb;omega) (Mk.kx CD kE GE λb hb=>by have:=s4V b hb;omega) (Mk.kx D1.out kE GE λb hb=>by have:=s5V b hb;omega);have hfin:Q (some (.agg [V1,V2,V3,V4,V5],b9 sD p2 (.cells [V1,V2,V3,V4,V5] 0))):=(by rw[hQ];exact⟨_,_,rfl,gO,t1,t2⟩);rw[aB,aB,aB,bu,aC,e3',aB,aB,bu,ld5,sto5,Mn,dx];exact hfin
  . intro j hj;rw[cC,ld2,ry,bN (by omega) (by omega),We];by_cases h4:0<xy.length % 4
    .   rw[Za0 (show(0:Int)<(xy.length:Int) % 4 by omega),e8,aC,e2',aB,aB,aB,bu];refine hj sC1 V41 ?_;have:lW xt xg xy=ye xg (jF xt xg).length:=(by unfold lW;rw[Za7 h4]);rw[this];exact C1
    .   rw[Za2 (show ¬(0:Int)<(xy.length:Int) % 4 by omega),eI];refine hj sB .af ?_;have:lW xt xg xy=[]:=(by unfold lW;rw[Za5 h4]);rw[this];exact C0
 obtain⟨Vs,s',k1,gO,k2,k3⟩:=key;refine⟨Vs,gO,?_,k3⟩;rw[E8 hc 400 (r:=(.agg Vs,s')) k1,k2]
end
end Go.Proofs.YtlkadmkojjceiaaGreatDoor
