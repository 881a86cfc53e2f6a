/- Functions of the program, plainly, and what they answer. -/
import Derived.Test.YtlkadmkojjceiaaGreatDoorWLawA
set_option linter.all false
set_option maxRecDepth 100000
set_option maxHeartbeats 4000000
namespace Go.Proofs.YtlkadmkojjceiaaGreatDoor
section
open Go Go.Ai Go.Proofs
variable{c:ai}
theorem vD{R:Type}(P:(List AV->St->Option R)->Prop){A:(List AV->St->Option R)->Option R}{T:List AV->St->Option R}{r:Option R}(hT:P T)(hA:∀j,P j->A j=r):fe A T=r:=hA T hT
theorem GJ{R:Type}(c:ai)(K:AV->St->Option R)(st:St)(es:Nat)(z:Bool)(rs:List (List AV))(k k':IntKind)(i j:Nat)(h:i<j)(h2:j<=rs.length):
  ak c (.sliceL es true true false) [ro es z rs,.int k (i:Int),.int k' (j:Int)] st K=K (ro es false ((rs.take j).drop i)) st:=by
 have:∀H n,ay.run H n (.sliceL es true true false) [ro es z rs,.int k (i:Int),.int k' (j:Int)]=some (.val (ro es false ((rs.take j).drop i))):=λH n=>by
  rw[Wi (by intro e;subst e;simp at h2;omega)];have h3:i<=j:=by omega
  simp[ay.run,oI,bounds,iE,ff,eH,h3,h2,ro]
 exact aW c K this st
theorem Rg(ts:List aU):∀(m k:Nat),(fZ ts m k).2=0->∀i,k<=i->i<k+m->∀h:i<ts.length,tK ts[i]=0
 |0,k,_,i,h1,h2,_=>by omega
 |m +   1,k,h,i,h1,h2,hi=>by
  have hk:k<ts.length:=by omega
  rw[fZ,H4 hk]at h;simp only at h;by_cases h3:tK ts[k]=0
  . rw[Za3 (by simp[h3])]at h;by_cases h4:0<=scan (ow ts ts[k].name) k 0
    .   rw[Za6 h4]at h;simp at h
    .   rw[Za3 h4]at h;by_cases e:i=k
        .subst e;exact h3
        .exact Rg ts m (k+1) h i (by omega) (by omega) hi
  .rw[Za6 h3]at h;exact absurd h h3
theorem Dr{ts:List aU}(h:(bJ ts).2=0)(i:Nat)(hi:i<ts.length):tK ts[i]=0:=by
 unfold bJ at h;split at h
 .simp at h
 .exact Rg ts ts.length 0 h i (by omega) (by omega) hi
theorem Ds{t:aU}(h:tK t=0):(bJ [t]).2=0:=by
 simp[bJ,fZ,h,scan]
def gi(p:cj)(s:List Nat):Int:=scan (fq p.gs s) p.gs.length 0
def ti(p:cj)(s:List Nat):Int:=scan (ow p.ts s) p.ts.length 0
def tM(p:cj)(i:Int):Int:=match p.ts[i.toNat]? with
 |some t=>dR t
 |none=>0
def w7(k:Kd)(r:Rl)(m:Int):Int:=if k.n=true/\(r.n<k.lo\/m<r.n)then 42 else 0
def OE(k:Kd)(p:cj)(r:Rl):Int:=
 if(k.t=116/\ti p r.t<0)\/(k.t=101/\r.t≠[]/\ti p r.t<0)then 6
 else w7 k r (if k.yM=true then tM p (ti p r.t) - 1 else 24)
def UQ(k:Kd)(p:cj)(r:Rl):Int:=
 if k.a=100/\eJ r.a=false then 4 else if k.b=true/\r.a=r.b then 5 else OE k p r
def MH(k:Kd)(p:cj)(r:Rl):Int:=
 if k.w=[]then 40 else if r.wt<0\/1000<r.wt then 41 else if EZ k r=false then 43
 else if(k.a=103/\gi p r.a<0)\/(k.a=101/\r.a≠[]/\gi p r.a<0)\/(k.b=true/\gi p r.b<0)then 6
 else UQ k p r
theorem aau (hc : Sem c)(k:Kd)(hk:k.yM=true->k.t=116)(p:cj)(hp:p.HL)(hv:(bJ p.ts).2=0)(r:Rl)(st:St)(hw:Wf st):
   c 121 [.agg k.cells,.agg p.cells,.agg r.cells] st=some (.int .i64 (MH k p r),st):=by
 have cX:Wf (af st (.cells k.cells 0)):=bL hw;have nZ:=bL (b:= .cells p.cells 0) cX;have hg3:=Grew.af nZ (.cells r.cells 0);have zw:=Grew.af cX (.cells p.cells 0);have hg:=((Grew.af hw (.cells k.cells 0)).trans zw).trans hg3;have UR:=hg.wf;have p1:=hg3.get (zw.get (aD st (.cells k.cells 0)));have p2:=hg3.get (aD (af st (.cells k.cells 0)) (.cells p.cells 0));have p3:=aD (af (af st (.cells k.cells 0)) (.cells p.cells 0)) (.cells r.cells 0);have A:=λs=>aeD hc p hp s _ UR
 have B:=acu hc k r _ UR;have D:=adM hc p.tz p.ts hp.ok (by have:=hp.ts;unfold ov;omega) r.t _ UR;have N:=Uv hc r.a (af (af (af st (.cells k.cells 0)) (.cells p.cells 0)) (.cells r.cells 0));rw[HT hc 1 (r:=(.int .i64 (MH k p r),af (af (af st (.cells k.cells 0)) (.cells p.cells 0)) (.cells r.cells 0))),aF (Plain.int _ _) hg.keeps];rw[KB];simp only[qp,aC,AV.cells];generalize af (af (af st (.cells k.cells 0)) (.cells p.cells 0)) (.cells r.cells 0)=s at*
 generalize (af (af st (.cells k.cells 0)) (.cells p.cells 0)).next=q3 at*
 generalize (af st (.cells k.cells 0)).next=q2 at*
 generalize st.next=q1 at*
 refine vD (P:=λj=>j [.ptr q1 0,.ptr q2 0,.ptr q3 0] s=some (.int .i64 (OE k p r),s)) ?_ ?_
 . have D2  : c 172 [tabs p.tz p.ts,.str r.t] s=some (.tuple [.int .i64 (if 0<=ti p r.t then ti p r.t else 0),.bool (decide (0<=ti p r.t))],s):=(by simp only[hv,Zk4]at D;exact D);have Qt:=yK (P:=ow p.ts r.t) p.ts.length 0;clear D A B N hg zw hg3 hw cX nZ;unfold OE;by_cases ht:0<=ti p r.t
   . have HM  : ¬ ti p r.t<0:=(by omega);obtain⟨i,hi⟩:∃i:Nat,ti p r.t=(i:Int):=⟨(ti p r.t).toNat,by omega⟩
     have jy:i<p.ts.length:=(by have:=(Qt ht).2.1;unfold ti at hi;rw[hi]at this;simpa using this);simp only[ht,Zg3,Zl0]at D2;by_cases h1:k.t=116
     .  simp[ p1,p2,p3,D2,h1,HM];refine vD (P:=λj=>∀m,j [.ptr q1 0,.ptr q3 0,.int .i64 m] s=some (.int .i64 (w7 k r m),s)) ?_ ?_
        . intro m;unfold w7;cases hn:k.n with
          |false=>simp[p1,hn]
          | true=>
            by_cases e1:r.n<k.lo
            .simp[p1,p3,hn,e1]
            . by_cases e2:m<r.n
              .simp[p1,p3,hn,e1,e2]
              .simp[p1,p3,hn,e1,e2]
        . intro j hj;cases hs:k.yM with
          |false=>simp[p1,hs,hj]
          | true=>
            have w:aq .i64 ((i:Int)+1)=(i:Int)+1:=(by have:=hp.ts;exact wrap64 (by omega) (by omega));have cnt:=yL hc false [p.ts[i]] (λt ht=>by simp only[Zd3]at ht;subst ht;exact hp.ok _ (Zb9 jy)) s UR;rw[Za6 (Ds (Dr hv i jy)),show bl [p.ts[i]]=dR p.ts[i]by simp[bl]]at cnt;have b:=ET p.ts[i];have w2:aq .i64 (dR p.ts[i] - 1)=dR p.ts[i] - 1:=wrap64 (by omega) (by omega);have hcut:∀K:AV->St->Option (AV×St),ak c (.sliceL 7 true true false) [tabs p.tz p.ts,.int .i64 (i:Int),.int .i64 ((i:Int)+1)] s K=K (tabs false [p.ts[i]]) s:=λK=>by
              (unfold tabs;have:=GJ c K s 7 p.tz (p.ts.map aU.cells) .i64 .i64 i (i+1) (by omega) (by rw[Za9];omega);rw[show((i:Int)+1)=((i+1:Nat):Int)by omega,this];have e:((p.ts.map aU.cells).take (i+1)).drop i=[p.ts[i]].map aU.cells:=by rw[Zc9 (by simpa using jy),Zg0 (by simp;omega)];simp);rw[e]
            have e3:tM p (i:Int)=dR p.ts[i]:=(by simp[tM,jy]);simp[p1,p2,hs,hi,e3,w,hcut,cnt,hj,w2]
     .  by_cases h2 :k.t=101
        . by_cases h3:r.t=[]
          . simp only[h3]at D2 HM hi;simp[p1,p2,p3,D2,h1,h2,h3,HM];refine vD (P:=λj=>∀m,j [.ptr q1 0,.ptr q3 0,.int .i64 m] s=some (.int .i64 (w7 k r m),s)) ?_ ?_
            . intro m;unfold w7;cases hn:k.n with
              |false=>simp[p1,hn]
              | true=>
                by_cases e1:r.n<k.lo
                .simp[p1,p3,hn,e1]
                . by_cases e2:m<r.n
                  .simp[p1,p3,hn,e1,e2]
                  .simp[p1,p3,hn,e1,e2]
            . intro j hj;cases hs:k.yM with
              |false=>simp[p1,hs,hj]
              | true=>
                have w:aq .i64 ((i:Int)+1)=(i:Int)+1:=(by have:=hp.ts;exact wrap64 (by omega) (by omega));have cnt:=yL hc false [p.ts[i]] (λt ht=>by simp only[Zd3]at ht;subst ht;exact hp.ok _ (Zb9 jy)) s UR;rw[Za6 (Ds (Dr hv i jy)),show bl [p.ts[i]]=dR p.ts[i]by simp[bl]]at cnt;have b:=ET p.ts[i];have w2:aq .i64 (dR p.ts[i] - 1)=dR p.ts[i] - 1:=wrap64 (by omega) (by omega);have hcut:∀K:AV->St->Option (AV×St),ak c (.sliceL 7 true true false) [tabs p.tz p.ts,.int .i64 (i:Int),.int .i64 ((i:Int)+1)] s K=K (tabs false [p.ts[i]]) s:=λK=>by
                  (unfold tabs;have:=GJ c K s 7 p.tz (p.ts.map aU.cells) .i64 .i64 i (i+1) (by omega) (by rw[Za9];omega);rw[show((i:Int)+1)=((i+1:Nat):Int)by omega,this];have e:((p.ts.map aU.cells).take (i+1)).drop i=[p.ts[i]].map aU.cells:=by rw[Zc9 (by simpa using jy),Zg0 (by simp;omega)];simp);rw[e]
                have e3:tM p (i:Int)=dR p.ts[i]:=(by simp[tM,jy]);simp[p1,p2,hs,hi,e3,w,hcut,cnt,hj,w2]
          . simp[ p1,p2,p3,D2,h1,h2,h3,HM];refine vD (P:=λj=>∀m,j [.ptr q1 0,.ptr q3 0,.int .i64 m] s=some (.int .i64 (w7 k r m),s)) ?_ ?_
            . intro m;unfold w7;cases hn:k.n with
              |false=>simp[p1,hn]
              | true=>
                by_cases e1:r.n<k.lo
                .simp[p1,p3,hn,e1]
                . by_cases e2:m<r.n
                  .simp[p1,p3,hn,e1,e2]
                  .simp[p1,p3,hn,e1,e2]
            . intro j hj;cases hs:k.yM with
              |false=>simp[p1,hs,hj]
              | true=>
                have w:aq .i64 ((i:Int)+1)=(i:Int)+1:=(by have:=hp.ts;exact wrap64 (by omega) (by omega));have cnt:=yL hc false [p.ts[i]] (λt ht=>by simp only[Zd3]at ht;subst ht;exact hp.ok _ (Zb9 jy)) s UR;rw[Za6 (Ds (Dr hv i jy)),show bl [p.ts[i]]=dR p.ts[i]by simp[bl]]at cnt;have b:=ET p.ts[i];have w2:aq .i64 (dR p.ts[i] - 1)=dR p.ts[i] - 1:=wrap64 (by omega) (by omega);have hcut:∀K:AV->St->Option (AV×St),ak c (.sliceL 7 true true false) [tabs p.tz p.ts,.int .i64 (i:Int),.int .i64 ((i:Int)+1)] s K=K (tabs false [p.ts[i]]) s:=λK=>by
                  (unfold tabs;have:=GJ c K s 7 p.tz (p.ts.map aU.cells) .i64 .i64 i (i+1) (by omega) (by rw[Za9];omega);rw[show((i:Int)+1)=((i+1:Nat):Int)by omega,this];have e:((p.ts.map aU.cells).take (i+1)).drop i=[p.ts[i]].map aU.cells:=by rw[Zc9 (by simpa using jy),Zg0 (by simp;omega)];simp);rw[e]
                have e3:tM p (i:Int)=dR p.ts[i]:=(by simp[tM,jy]);simp[p1,p2,hs,hi,e3,w,hcut,cnt,hj,w2]
        . simp[ p1,p2,p3,D2,h1,h2,HM];refine vD (P:=λj=>∀m,j [.ptr q1 0,.ptr q3 0,.int .i64 m] s=some (.int .i64 (w7 k r m),s)) ?_ ?_
          . intro m;unfold w7;cases hn:k.n with
            |false=>simp[p1,hn]
            | true=>
              by_cases e1:r.n<k.lo
              .simp[p1,p3,hn,e1]
              . by_cases e2:m<r.n
                .simp[p1,p3,hn,e1,e2]
                .simp[p1,p3,hn,e1,e2]
          . intro j hj;cases hs:k.yM with
            |false=>simp[p1,hs,hj]
            | true=>
              have w:aq .i64 ((i:Int)+1)=(i:Int)+1:=(by have:=hp.ts;exact wrap64 (by omega) (by omega));have cnt:=yL hc false [p.ts[i]] (λt ht=>by simp only[Zd3]at ht;subst ht;exact hp.ok _ (Zb9 jy)) s UR;rw[Za6 (Ds (Dr hv i jy)),show bl [p.ts[i]]=dR p.ts[i]by simp[bl]]at cnt;have b:=ET p.ts[i];have w2:aq .i64 (dR p.ts[i] - 1)=dR p.ts[i] - 1:=wrap64 (by omega) (by omega);have hcut:∀K:AV->St->Option (AV×St),ak c (.sliceL 7 true true false) [tabs p.tz p.ts,.int .i64 (i:Int),.int .i64 ((i:Int)+1)] s K=K (tabs false [p.ts[i]]) s:=λK=>by
                (unfold tabs;have:=GJ c K s 7 p.tz (p.ts.map aU.cells) .i64 .i64 i (i+1) (by omega) (by rw[Za9];omega);rw[show((i:Int)+1)=((i+1:Nat):Int)by omega,this];have e:((p.ts.map aU.cells).take (i+1)).drop i=[p.ts[i]].map aU.cells:=by rw[Zc9 (by simpa using jy),Zg0 (by simp;omega)];simp);rw[e]
              have e3:tM p (i:Int)=dR p.ts[i]:=(by simp[tM,jy]);simp[p1,p2,hs,hi,e3,w,hcut,cnt,hj,w2]
   . have HM  : ti p r.t<0:=(by omega);simp only[ht,Zf7,decide_false]at D2;by_cases h1:k.t=116
     .  simp[p1,p2,p3,D2,h1,HM]
     .  by_cases h2:k.t=101
        . by_cases h3:r.t=[]
          . simp only[h3]at D2 HM;simp[p1,p2,p3,D2,h1,h2,h3,HM];refine vD (P:=λj=>∀m,j [.ptr q1 0,.ptr q3 0,.int .i64 m] s=some (.int .i64 (w7 k r m),s)) ?_ ?_
            . intro m;unfold w7;cases hn:k.n with
              |false=>simp[p1,hn]
              | true=>
                by_cases e1:r.n<k.lo
                .simp[p1,p3,hn,e1]
                . by_cases e2:m<r.n
                  .simp[p1,p3,hn,e1,e2]
                  .simp[p1,p3,hn,e1,e2]
            . intro j hj;have hs:k.yM=false:=by
                cases h:k.yM with
                |false=>rfl
                |true=>exact absurd (hk h) h1
              simp[p1,hs,hj]
          .simp[p1,p2,p3,D2,h1,h2,h3,HM]
        . simp[ p1,p2,p3,D2,h1,h2,HM];refine vD (P:=λj=>∀m,j [.ptr q1 0,.ptr q3 0,.int .i64 m] s=some (.int .i64 (w7 k r m),s)) ?_ ?_
          . intro m;unfold w7;cases hn:k.n with
            |false=>simp[p1,hn]
            | true=>
              by_cases e1:r.n<k.lo
              .simp[p1,p3,hn,e1]
              . by_cases e2:m<r.n
                .simp[p1,p3,hn,e1,e2]
                .simp[p1,p3,hn,e1,e2]
          . intro j hj;have hs:k.yM=false:=by
              cases h:k.yM with
              |false=>rfl
              |true=>exact absurd (hk h) h1
            simp[p1,hs,hj]
 . intro  j hj;have A2:∀nm,c 170 [.agg p.cells,.str nm] s=some (.int .i64 (gi p nm),s):=A;have cc:cut r.cells 0 6=some r.cells:=bV rfl;clear A D hg zw hg3 hw cX nZ;unfold MH;by_cases h0:k.w=[]
   .simp[p1,h0]
   by_cases h1:r.wt<0
   .simp[p1,p3,h0,h1]
   by_cases h2:1000<r.wt
   .simp[p1,p3,h0,h1,h2]
   cases h3:EZ k r with
   |false=>simp[p1,p3,h0,h1,h2,B,h3]
   |true=>
   simp[p1,p3,h0,h1,h2,B,h3];refine vD (P:=λj'=>∀b:Bool,j' [.ptr q1 0,.ptr q2 0,.ptr q3 0,.bool b] s=some (.int .i64 (if b=true then 6 else UQ k p r),s)) ?_ ?_
   . intro  b;cases b with
     |true=>simp
     |  false =>
        unfold UQ;by_cases a1:k.a=100
        . cases a2:eJ r.a with
          |false=>simp[p1,p3,a1,a2,N]
          | true=>
            cases b1:k.b with
            |false=>simp[p1,p3,a1,a2,N,b1,hj]
            | true=>
              by_cases b2:r.a=r.b
              .rw[b2]at a2 N;simp[p1,p3,a1,a2,N,b1,b2]
              .simp[p1,p3,a1,a2,N,b1,b2,hj]
        . cases b1:k.b with
          |false=>simp[p1,p3,a1,b1,hj]
          | true=>
            by_cases b2:r.a=r.b
            .simp[p1,p3,a1,b1,b2]
            .simp[p1,p3,a1,b1,b2,hj]
   . intro  j' zj;have K6:=zj true;have K0:=zj false;simp only[Zg3,Zf0,Zf7]at K6 K0;clear zj hj;by_cases a1:k.a=103
     .  by_cases g1:gi p r.a<0
        .simp[p1,p2,p3,a1,A2,g1,K6]
        . cases b1:k.b with
          |false=>simp[p1,p2,p3,a1,A2,g1,b1,K0]
          | true=>
            by_cases g2:gi p r.b<0
            .simp[p1,p2,p3,a1,A2,g1,g2,b1,K6]
            .simp[p1,p2,p3,a1,A2,g1,g2,b1,K0]
     .  by_cases a2:k.a=101
        . by_cases e:r.a=[]
          . cases b1:k.b with
            |false=>simp[p1,p2,p3,a1,a2,e,A2,b1,K0]
            | true=>
              by_cases g2:gi p r.b<0
              .simp[p1,p2,p3,a1,a2,e,A2,g2,b1,K6]
              .simp[p1,p2,p3,a1,a2,e,A2,g2,b1,K0]
          . by_cases g1:gi p r.a<0
            .simp[p1,p2,p3,a1,a2,e,A2,g1,K6]
            . cases b1:k.b with
              |false=>simp[p1,p2,p3,a1,a2,e,A2,g1,b1,K0]
              | true=>
                by_cases g2:gi p r.b<0
                .simp[p1,p2,p3,a1,a2,e,A2,g1,g2,b1,K6]
                .simp[p1,p2,p3,a1,a2,e,A2,g1,g2,b1,K0]
        . cases b1:k.b with
          |false=>simp[p1,p2,p3,a1,a2,A2,b1,K0]
          | true=>
            by_cases g2:gi p r.b<0
            .simp[p1,p2,p3,a1,a2,A2,g2,b1,K6]
            .simp[p1,p2,p3,a1,a2,A2,g2,b1,K0]
def kd:Nat->Kd
 |1=>⟨[97,112,97,114,116],103,true,0,true,0,false,.func 151 [] []⟩
 |2=>⟨[98,101,115,105,100,101],103,true,0,false,0,false,.func 152 [] []⟩
 |3=>⟨[97,99,114,111,115,115],103,true,0,false,0,false,.func 153 [] []⟩
 |4=>⟨[110,101,97,114],103,true,0,true,1,false,.func 154 [] []⟩
 |5=>⟨[116,111,103,101,116,104,101,114],103,true,0,false,0,false,.func 155 [] []⟩
 |6=>⟨[97,116],103,false,116,false,0,false,.func 156 [] []⟩
 |7=>⟨[115,101,97,116],103,false,116,true,0,true,.func 157 [] []⟩
 |8=>⟨[97,108,116,101,114,110,97,116,101],0,false,101,false,0,false,.func 158 [] []⟩
 |9=>⟨[104,111,115,116],0,false,101,false,0,false,.func 159 [] []⟩
 |10=>⟨[114,101,97,99,104],101,false,0,false,0,false,.func 160 [] []⟩
 |11=>⟨[115,112,101,97,107],0,false,101,false,0,false,.func 161 [] []⟩
 |12=>⟨[112,101,97,99,101],0,false,101,false,0,false,.func 162 [] []⟩
 |13=>⟨[99,111,109,112,97,110,121],0,false,101,false,0,false,.func 163 [] []⟩
 |14=>⟨[104,111,110,111,117,114],0,false,101,false,0,false,.func 164 [] []⟩
 |15=>⟨[102,105,108,108],0,false,101,true,0,false,.func 165 [] []⟩
 |16=>⟨[108,105,109,105,116],0,false,101,true,0,false,.func 166 [] []⟩
 |17=>⟨[107,105,116,99,104,101,110],100,false,116,false,0,false,.func 167 [] []⟩
 |18=>⟨[109,105,120],0,false,101,false,0,false,.func 168 [] []⟩
 |_=>⟨[],0,false,0,false,0,false,.jk⟩
def Rh:List (AV×AV×Nat):=[(.int .u8 1,.agg (kd 1).cells,0),(.int .u8 2,.agg (kd 2).cells,1),(.int .u8 3,.agg (kd 3).cells,2),(.int .u8 4,.agg (kd 4).cells,3),(.int .u8 5,.agg (kd 5).cells,4),(.int .u8 6,.agg (kd 6).cells,5),(.int .u8 7,.agg (kd 7).cells,6),(.int .u8 8,.agg (kd 8).cells,7),(.int .u8 9,.agg (kd 9).cells,8),(.int .u8 10,.agg (kd 10).cells,9),(.int .u8 11,.agg (kd 11).cells,10),(.int .u8 12,.agg (kd 12).cells,11),(.int .u8 13,.agg (kd 13).cells,12),(.int .u8 14,.agg (kd 14).cells,13),(.int .u8 15,.agg (kd 15).cells,14),(.int .u8 16,.agg (kd 16).cells,15),(.int .u8 17,.agg (kd 17).cells,16),(.int .u8 18,.agg (kd 18).cells,17)]
theorem RY(p:Pos):¬Plain (.map p):=λh=>by have:=h (λ_=>(⟨0,0,0⟩:Go.Ai.Loc)) (λ_=>⟨1,0,0⟩) (p.toNat+1) (p.toNat+1) (λ_=>none) _ (.map p (Nat.lt_succ_self _));cases this
theorem acv(st:St)(p:Pos)(s':St):tidy st (.map p,s')=(.map p,s'):=by unfold tidy;rw[Za3];exact λe=>RY p e.1
theorem cO{R:Type}(c:ai)(K:AV->St->Option R)(st:St)(z:List AV)(ps:List (Nat×Nat))(xs l:List AV)(h:bY z ps xs=some l):ak c (.build z ps) xs st K=K (.agg l) st:=by rw[iJ,h];rfl
theorem cQ{R:Type}(c:ai)(K:AV->St->Option R)(st:St)(es:List (AV×AV×Nat))(cl:Nat)(k:IntKind)(x:Int)(v:AV)(hf:jr .i (.int k x) es 0=some none):
  ak c (.mapSet .i) [.map st.next,.int k x,v] (af st (.map es cl)) K=K .undef (af st (.map (es++[(.int k x,v,cl)]) (cl+1))):=by
 have:ay.run (λb=>(af st (.map es cl)).heap.get b) (af st (.map es cl)).next (.mapSet .i) [.map st.next,.int k x,v]=some (.aE .undef none (some (st.next,.map (es++[(.int k x,v,cl)]) (cl+1))) none):=by
  simp[ay.run,uX,hf,Xl]
 unfold ak bF;rw[this];show K .undef (cI (af st (.map es cl)) st.next _)=_;rw[Pd]
theorem acw(hc:Sem c)(s:St):c 120 [] s=some (.map s.next,af s (.map Rh 18)):=by
 rw[PC hc 1 (r:=(.map s.next,af s (.map Rh 18))),acv];rw[Uk];rw[aC,Z5];rw[cO (l:=(kd 1).cells) (h:=rfl),cQ (hf:=rfl)];rw[cO (l:=(kd 2).cells) (h:=rfl),cQ (hf:=rfl)];rw[cO (l:=(kd 3).cells) (h:=rfl),cQ (hf:=rfl)];rw[cO (l:=(kd 4).cells) (h:=rfl),cQ (hf:=rfl)];rw[cO (l:=(kd 5).cells) (h:=rfl),cQ (hf:=rfl)];rw[cO (l:=(kd 6).cells) (h:=rfl),cQ (hf:=rfl)];rw[cO (l:=(kd 7).cells) (h:=rfl),cQ (hf:=rfl)];rw[cO (l:=(kd 8).cells) (h:=rfl),cQ (hf:=rfl)];rw[cO (l:=(kd 9).cells) (h:=rfl),cQ (hf:=rfl)];rw[cO (l:=(kd 10).cells) (h:=rfl),cQ (hf:=rfl)];rw[cO (l:=(kd 11).cells) (h:=rfl),cQ (hf:=rfl)];rw[cO (l:=(kd 12).cells) (h:=rfl),cQ (hf:=rfl)];rw[cO (l:=(kd 13).cells) (h:=rfl),cQ (hf:=rfl)];rw[cO (l:=(kd 14).cells) (h:=rfl),cQ (hf:=rfl)];rw[cO (l:=(kd 15).cells) (h:=rfl),cQ (hf:=rfl)];rw[cO (l:=(kd 16).cells) (h:=rfl),cQ (hf:=rfl)];rw[cO (l:=(kd 17).cells) (h:=rfl),cQ (hf:=rfl)];rw[cO (l:=(kd 18).cells) (h:=rfl),cQ (hf:=rfl)];rw[aC,aC]
 .rfl
theorem adW{R:Type}(c:ai)(K:AV->St->Option R)(st:St)(m:Pos)(cl:Nat)(h:st.heap.get m=some (.map Rh cl))(n:Nat):
   ak c (.lookup .i (.agg [.str [],.int .u8 0,.bool false,.int .u8 0,.bool false,.int .i64 0,.bool false,.jk]) false) [.map m,.int .u8 (n:Int)] st K=K (.agg (kd n).cells) st:=by
 have e:jr .i (.int .u8 (n:Int)) Rh 0=some (if 1<=n/\n<=18 then some (n - 1,.agg (kd n).cells)else none):=by
   by_cases h:n<=18
   .have:n=0\/n=1\/n=2\/n=3\/n=4\/n=5\/n=6\/n=7\/n=8\/n=9\/n=10\/n=11\/n=12\/n=13\/n=14\/n=15\/n=16\/n=17\/n=18:=(by omega);rcases this with rfl|rfl|rfl|rfl|rfl|rfl|rfl|rfl|rfl|rfl|rfl|rfl|rfl|rfl|rfl|rfl|rfl|rfl|rfl<;>rfl
   . have Q9:∀j:Int,j<=18->uB (n:Int) j=false:=λj hj=>by rw[kj];simp;omega
     rw[Za3 (by omega)];simp[Rh,jr,yo,Q9,cC]
 have:∀z:AV,ay.run (λb=>st.heap.get b) st.next (.lookup .i z false) [.map m,.int .u8 (n:Int)]=some (.val (if 1<=n/\n<=18 then .agg (kd n).cells else z)):=λz=>by
   simp only[ay.run,uW,h,e];by_cases h1:1<=n/\n<=18
   .rw[Za6 h1,Za6 h1]
   .rw[Za3 h1,Za3 h1]
 unfold ak bF;rw[this];by_cases h1:1<=n/\n<=18
 .rw[Za6 h1]
 .rw[Za3 h1];have:kd n=⟨[],0,false,0,false,0,false,.jk⟩:=(by unfold kd;split<;>first|rfl|omega);rw[this];rfl
theorem adX(n:Nat):(kd n).yM=true->(kd n).t=116:=by unfold kd;split<;>simp
def Rl.Ok(r:Rl):Prop:=0<=r.k/\r.k<256
def sO(p:cj)(r:Rl):Int:=MH (kd r.k.toNat) p r
def ke(p:cj):Nat->Nat->Int×Int
 |0,_=>(0,0)
 |  m+1,i=>match p.rs[i]? with
    |none=>(0,0)
    |some r=>if sO p r≠0 then((i:Int),sO p r)else if i=64 then((i:Int),7)else ke p m (i+1)
theorem LA(p:cj):∀(m i:Nat),(ke p m i).2=0->(ke p m i).1=0
 |0,_,_=>rfl
 |m+    1,i,h=>by
  rw[ke]at h ⊢;cases h0:p.rs[i]? with
  |none=>rfl
  |some r=>
   rw[h0]at h;simp only at h ⊢;by_cases h1:sO p r=0
   .    rw[Za3 (by simp[h1])]at h ⊢;by_cases h2:i=64
        .rw[Za6 h2]at h;simp at h
        .rw[Za3 h2]at h ⊢; exact LA p m (i+1) h
   .    rw[Za6 h1]at h;exact absurd h h1
def iO(p:cj):Int×Int:=if(iN p).2≠0 then iN p else ke p 100 0
theorem Yo(hc:Sem c)(p:cj)(hp:p.HL)(hr:∀r∈p.rs,r.Ok)(hv:(bJ p.ts).2=0)(q1 mp:Pos)(cl:Nat)(F:Nat)(k1 k2):∀(m k:Nat)(st:St),Wf st->st.heap.get q1=some (.cells p.cells 0)->st.heap.get mp=some (.map Rh cl)->p.rs.length<=k+m->k<=p.rs.length->
  ∃st',Grew st st'/\qe c F k1 k2 (m+1) [.ptr q1 0,.map mp,EW p.rz p.rs,.int .i64 (p.rs.length:Int),.int .i64 (k:Int)] st=if(ke p m k).2=0 then k2 [] st' else k1 [.int .i64 (ke p m k).1,.int .i64 (ke p m k).2] st':=by
 have hl:=hp.rs;intro m;induction m with
 |zero=>
  intro k st hw h1 h2 h3 h4;obtain rfl:k=p.rs.length:=by omega
  refine⟨st,Grew.refl hw,?_⟩;rw[wB];simp[ke]
 |succ m ih=>
  intro k st hw hq hm h3 h4;by_cases h:k<p.rs.length
  . have w:aq .i64 ((k:Int)+1)=((k+1:Nat):Int):=wrap64 (by omega) (by omega);have cX:Wf (af st (.cells p.rs[k].cells 0)):=bL hw;have hg:=Grew.af hw (.cells p.rs[k].cells 0);have hq1:=hg.get hq;have jD:=hg.get hm;have hn:=aD st (.cells p.rs[k].cells 0);obtain⟨n,hk⟩:∃n:Nat,p.rs[k].k=(n:Int):=⟨p.rs[k].k.toNat,by have:=(hr _ (Zb9 h)).1;omega⟩
    have VZ:=aau hc (kd n) (adX n) p hp hv p.rs[k] _ cX;have hS:sO p p.rs[k]=MH (kd n) p p.rs[k]:=(by unfold sO;rw[hk];rfl);have FT:=λ(K:AV->St->Option (AV×St))=>adW c K _ mp cl jD n
    have iY:=λ(K:AV->St->Option (AV×St))=>cv c K st 6 (.agg p.rs[k].cells) [.int .u8 0,.int .i64 0,.str [],.str [],.str [],.int .i64 0] rfl rfl (Rl.one _)
    rw[show(AV.agg p.rs[k].cells).cells=p.rs[k].cells from rfl]at iY;rw[<-hS]at VZ;rw[<-hk]at FT;obtain⟨st',g1,g2⟩:=ih (k+1) _ cX hq1 jD (by omega) (by omega);rw[wB,ke,H4 h];simp only;by_cases h5:sO p p.rs[k]=0
    .   rw[Za3 (by simp[h5])];by_cases h6:k=64
        .refine⟨_,hg,?_⟩;rw[Za6 h6];have h6i:decide ((k:Int)=64)=true:=(by simp only[Zd7];omega);simp[-cv,iY,EW,h,hq1,jD,FT,VZ,h5,h6i]
        .refine⟨st',hg.trans g1,?_⟩;rw[Za3 h6, <-g2];have h6i:¬(k:Int)=64:=(by omega);simp[-cv,iY,EW,h,hq1,jD,FT,VZ,h5,h6i,w]
    .   refine⟨_,hg,?_⟩;rw[Za6 h5];simp[-cv,iY,EW,h,hq1,jD,FT,VZ,h5]
  .obtain rfl:k=p.rs.length:=(by omega);refine⟨st,Grew.refl hw,?_⟩;rw[wB];simp[ke]
theorem VH{p:cj}(h:(iN p).2=0):(bJ p.ts).2=0:=by
 unfold iN at h;by_cases h1:(bJ p.ts).2=0
 .exact h1
 .rw[Za6 h1]at h;exact absurd h h1
theorem RZ(hc:Sem c)(p:cj)(hp:p.HL)(hR:UN c p)(hr:∀r∈p.rs,r.Ok)(st:St)(hw:Wf st):c 77 [.agg p.cells] st=some (.tuple [.int .i64 (iO p).1,.int .i64 (iO p).2],st):=by
 have p7:Plain (.tuple [.int .i64 (iO p).1,.int .i64 (iO p).2]):=Plain.tuple (by simp[Plain.int]);have cX:Wf (af st (.cells p.cells 0)):=bL hw;have Lz:=Grew.af hw (.cells p.cells 0);have eD:(af st (.cells p.cells 0)).heap.get st.next=some (.cells p.cells 0):=aD _ _;have B:=acq hc p hp hR _ cX;by_cases h:(iN p).2=0
 . have hv:=VH h;have K:=acw hc (af st (.cells p.cells 0));have nZ:Wf (af (af st (.cells p.cells 0)) (.map Rh 18)):=bL cX;have zw:=Grew.af cX (.map Rh 18);obtain⟨st',g1,g2⟩:=Yo hc p hp hr hv st.next (af st (.cells p.cells 0)).next 18 101 (λvs s50=>ju vs λx2 vs=>ju vs λx3 vs=>qd vs (
   some (.tuple [x2,x3],s50))) (λvs s51=>qd vs (
   ak c .move [(.int .i64 0)] s51 λx2 s52=>
 ak c .move [(.int .i64 0)] s52 λx3 s53=>
 some (.tuple [x2,x3],s53))) 100 0 _ nZ (zw.get eD) (aD _ _) (by have:=hp.rs;omega) (by omega)
   have e:iO p=ke p 100 0:=(by unfold iO;rw[Za3 (by simp[h])]);have e0:=VG h;rw[EO hc 101 (r:=(.tuple [.int .i64 (iO p).1,.int .i64 (iO p).2],st')),aF p7 ((Lz.trans zw).trans g1).keeps];rw[Jd,e];simp at g2;simp[eD,B,h,K,g2];by_cases h2:(ke p 100 0).2=0
   .have:=LA p 100 0 h2;simp[h2,this]
   .simp[h2]
 .have e:iO p=iN p:=(by unfold iO;rw[Za6 h]);rw[EO hc 101 (r:=(.tuple [.int .i64 (iO p).1,.int .i64 (iO p).2],af st (.cells p.cells 0))),aF p7 Lz.keeps];rw[Jd,e];simp[eD,B,h]
end
section
open Go Go.Ai Go.Proofs
variable{c:ai}
end
section
open Go Go.Ai Go.Proofs
variable{c:ai}
theorem Ky{α β:Type}{P:α->α->Prop}{l l':List α}(hl:l'.length=l.length)(hs:∀(i:Nat)(t t':α),l[i]? =some t->l'[i]? =some t'->P t t')(f:α->β)(hf:∀t t',P t t'->f t'=f t)(i:Nat):l'[i]?.map f=l[i]?.map f:=by
 by_cases h:i<l.length
 .have h':i<l'.length:=(by omega);rw[H4 h,H4 h'];simp only[Ze7,H0];exact hf _ _ (hs i _ _ (H4 h) (H4 h'))
 .rw[Zb4 (by omega),Zb4 (by omega)]
theorem acy{t t':aU}(h:t.fP t'):tK t'=tK t:=by obtain⟨z,rfl⟩:=h;rfl
theorem W7{t t':aU}(h:t.fP t'):dR t'=dR t:=by obtain⟨z,rfl⟩:=h;rfl
theorem aav{t t':aK}(h:t.fP t'):eI t'=eI t:=by obtain⟨z,rfl⟩:=h;rfl
variable{p p':cj}
theorem cj.fP.nm(h:p.fP p')(s:List Nat):ow p'.ts s=ow p.ts s:=funext λi=>by
 unfold ow;rw[Ky h.tl h.ts aU.name (λt t' k=>by obtain⟨z,rfl⟩:=k;rfl)]
theorem cj.fP.gm(h:p.fP p')(s:List Nat):fq p'.gs s=fq p.gs s:=funext λi=>by
 unfold fq;rw[Ky h.gl h.gs aK.name (λt t' k=>by obtain⟨z,rfl⟩:=k;rfl)]
theorem cj.fP.at(h:p.fP p'):∀(m k:Nat),fZ p'.ts m k=fZ p.ts m k
 |0,_=>rfl
 |m +1,k=>by
  have ih:=h.at m (k+1);unfold fZ;by_cases hk:k<p.ts.length
  .have kH:k<p'.ts.length:=(by rw[h.tl];exact hk);have hs:=h.ts k _ _ (H4 hk) (H4 kH);have hn:p'.ts[k].name=p.ts[k].name:=(by obtain⟨z,e⟩:=hs;rw[e]);rw[H4 hk,H4 kH];simp only[acy hs,hn,h.nm,ih]
  .have kH:¬k<p'.ts.length:=(by rw[h.tl];exact hk);rw[Zb4 (by omega),Zb4 (by omega)]
theorem cj.fP.zJ(h:p.fP p'):bJ p'.ts=bJ p.ts:=by unfold bJ;rw[h.tl,h.at]
theorem cj.fP.gsAt(h:p.fP p'):∀(m k:Nat),gb p'.gs m k=gb p.gs m k
 |0,_=>rfl
 |m +1,k=>by
  have ih:=h.gsAt m (k+1);unfold gb;by_cases hk:k<p.gs.length
  .have kH:k<p'.gs.length:=(by rw[h.gl];exact hk);have hs:=h.gs k _ _ (H4 hk) (H4 kH);have hn:p'.gs[k].name=p.gs[k].name:=(by obtain⟨z,e⟩:=hs;rw[e]);rw[H4 hk,H4 kH];simp only[aav hs,hn,h.gm,ih]
  .have kH:¬k<p'.gs.length:=(by rw[h.gl];exact hk);rw[Zb4 (by omega),Zb4 (by omega)]
theorem cj.fP.unk(h:p.fP p')(t:Ty):iV p'.gs t=iV p.gs t:=by unfold iV;rw[h.gm,h.gm,h.gl]
theorem cj.fP.tyAt(h:p.fP p')(ts:List Ty):∀(m k:Nat),ej p'.gs ts m k=ej p.gs ts m k
 |0,_=>rfl
 |m+1,k=>by
  have ih:=h.tyAt ts m (k+1);unfold ej;cases ts[k]? with
  |none=>rfl
  |some t=>simp only[h.gl,h.unk,ih]
theorem cj.fP.roll(h:p.fP p'):bG p'.gs p'.ys=bG p.gs p.ys:=by unfold bG;rw[h.ys,h.gsAt,h.tyAt]
theorem cj.fP.sum(h:p.fP p'):bl p'.ts=bl p.ts:=by
 unfold bl;congr 1;refine Zi0 λi=> ?_
 rw[Zb8,Zb8];exact Ky h.tl h.ts dR (λt t' k=>W7 k) i
theorem cj.fP.basis(h:p.fP p'):iN p'=iN p:=by unfold iN;rw[h.zJ,h.roll,h.cs,h.gl,h.sum]
theorem cj.fP.gi(h:p.fP p')(s:List Nat):Go.Proofs.YtlkadmkojjceiaaGreatDoor.gi p' s=Go.Proofs.YtlkadmkojjceiaaGreatDoor.gi p s:=by unfold Go.Proofs.YtlkadmkojjceiaaGreatDoor.gi;rw[h.gm,h.gl]
theorem cj.fP.ti(h:p.fP p')(s:List Nat):Go.Proofs.YtlkadmkojjceiaaGreatDoor.ti p' s=Go.Proofs.YtlkadmkojjceiaaGreatDoor.ti p s:=by unfold Go.Proofs.YtlkadmkojjceiaaGreatDoor.ti;rw[h.nm,h.tl]
theorem cj.fP.tM(h:p.fP p')(i:Int):Go.Proofs.YtlkadmkojjceiaaGreatDoor.tM p' i=Go.Proofs.YtlkadmkojjceiaaGreatDoor.tM p i:=by
 unfold Go.Proofs.YtlkadmkojjceiaaGreatDoor.tM;have:=Ky h.tl h.ts dR (λt t' k=>W7 k) i.toNat;cases h1:p.ts[i.toNat]? with
 |none=>rw[h1]at this;cases h2:p'.ts[i.toNat]? with
  |none=>rfl
  |some t=>rw[h2]at this;cases this
 |some t=>rw[h1]at this;cases h2:p'.ts[i.toNat]? with
  |none=>rw[h2]at this;cases this
  |some t'=>rw[h2]at this;simp only[Ze7,H0]at this;simp only[this]
theorem cj.fP.rule(h:p.fP p')(r:Rl):sO p' r=sO p r:=by
 unfold sO MH UQ OE;simp only[h.gi,h.ti,h.tM]
theorem cj.fP.EW(h:p.fP p'):∀(m k:Nat),ke p' m k=ke p m k
 |0,_=>rfl
 |m+1,k=>by
  have ih:=h.EW m (k+1);unfold ke;rw[h.rs];cases p.rs[k]? with
  |none=>rfl
  |some r=>simp only[h.rule,ih]
theorem cj.fP.check(h:p.fP p'):iO p'=iO p:=by unfold iO;rw[h.basis,h.EW]
end
section
open Go Go.Ai Go.Proofs
theorem zx{Q:List AV->Prop}{Qs:List (List AV->Prop)}{ps:List (List AV)}(h:Gc (Q::Qs) ps):∃p qs,ps=p::qs/\Q p/\Gc Qs qs:=by
 cases ps with
 |nil=>exact h.elim
 |cons p qs=>exact⟨p,qs,rfl,h⟩
theorem TW{ps:List (List AV)}(h:Gc [] ps):ps=[]:=by
 cases ps with
 |nil=>rfl
 |cons p qs=>exact h.elim
section
variable{H:Type}{enc:TypeId×Value->H}{w:World}{base:Nat}{spare:Nat->Bool}{held:Bool}
end
variable{c:ai}
section
variable{p p':cj}
theorem cj.fP.tab(h:p.fP p'){t':aU}(ht:t'∈p'.ts):∃t∈p.ts,t.fP t':=by
 obtain⟨i,hi,rfl⟩:=Zk8.1 ht;have QZ:i<p.ts.length:=by rw[<-h.tl];exact hi
 exact⟨p.ts[i],Zb9 QZ,h.ts i _ _ (H4 QZ) (H4 hi)⟩
theorem cj.fP.AM(h:p.fP p')(hp:p.HL):p'.HL where
 ts:=by rw[h.tl];exact hp.ts
 gs:=by rw[h.gl];exact hp.gs
 ys:=by rw[h.ys];exact hp.ys
 cs:=by rw[h.cs];exact hp.cs
 rs:=by rw[h.rs];exact hp.rs
 ok t ht:=by obtain⟨u,hu,z,rfl⟩:=h.tab ht;have:=hp.ok u hu;exact⟨this.1,this.2⟩
end
section
variable{s s1:St}
end
theorem Yp(hc:Sem c)(z z2:Bool)(gs:List aK)(ts:List Ty)(hl:gs.length<=100)(p:Pos)(st:St)(hw:Wf st)(hp:st.heap.get p=some (.cells [b7 z gs,eM z2 ts] 0))(F:Nat)(k1 k2):∀(m k:Nat),gs.length<=k+m->k<=gs.length->
  fX c F k1 k2 (m+1) [.ptr p 0,.int .i64 (k:Int)] st=if(gb gs m k).2=0 then k2 [.ptr p 0] st else k1 [.int .i64 (gb gs m k).1,.int .i64 (gb gs m k).2] st:=by
 intro m;induction m with
 |zero=>
  intro k h1 h2;obtain rfl:k=gs.length:=by omega
  rw[oN];simp[gb,hp]
 |succ m ih=>
  intro k h1 h2;rw[oN];by_cases h:k<gs.length
  . have w:aq .i64 ((k:Int)+1)=((k+1:Nat):Int):=wrap64 (by omega) (by omega);have hch:=UD hc gs[k] st hw;have kI:k<=gs.length:=(by omega);have hm:min k gs.length=k:=(by omega);have Li:=Yg hc (z&&gs.isEmpty) (gs.take k) gs[k].name (by unfold ov;simp;omega) st;rw[show(gs.take k).length=k by simp;omega,UE kI]at Li;simp only[b7,Zn1]at Li;rw[gb,H4 h];simp only;by_cases h3:eI gs[k]=0
    .   have e3:¬eI gs[k]≠0:=(by rw[h3];simp);by_cases h4:0<=scan (fq gs gs[k].name) k 0
        .simp only[e3,h4,Zf7,Zg3];simp[b7,hp,h,kI,hch,h3,h4,Li]
        . by_cases h5:64<=k
          .have h6:(64:Int)<=k:=(by omega);simp only[e3,h4,h5,Zf7,Zg3];simp[b7,hp,h,kI,hch,h3,h4,h6,Li]
          .have h6:¬(64:Int)<=k:=(by omega);simp only[e3,h4,h5,Zf7];rw[<-ih (k+1) (by omega) (by omega)];simp[b7,hp,h,kI,hch,h3,h4,h6,Li,w]
    .   simp[b7,hp,h,hch,h3]
  .obtain rfl:k=gs.length:=(by omega);simp[gb,hp]
theorem Yq (hc:Sem c)(z z2:Bool)(gs:List aK)(ts:List Ty)(hl:gs.length<=100)(mU:ts.length<=100)(p:Pos)(F:Nat)(k1 k4):∀(m k:Nat)(st:St),Wf st->st.heap.get p=some (.cells [b7 z gs,eM z2 ts] 0)->ts.length<=k+m->k<=ts.length->
  ∃st',Grew st st'/\fW c F k1 k4 (m+1) [.ptr p 0,.int .i64 (k:Int)] st=if(ej gs ts m k).2=0 then k4 [] st' else k1 [.int .i64 (ej gs ts m k).1,.int .i64 (ej gs ts m k).2] st':=by
 intro m;induction m with
 |zero=>
  intro k st hw hp h1 h2;obtain rfl:k=ts.length:=by omega
  refine⟨st,Grew.refl hw,?_⟩;rw[kJ];simp[ej,hp]
 |succ m ih   =>
  intro k st hw hp h1 h2;by_cases h:k<ts.length
  . have w:aq     .i64 ((k:Int)+1)=((k+1:Nat):Int):=wrap64 (by omega) (by omega);have wg:aq .i64 ((gs.length:Int)+(k:Int))=(gs.length:Int)+k:=wrap64 (by omega) (by omega);have cX:Wf (af st (.cells ts[k].cells 0)):=bL hw;have hg:=Grew.af hw (.cells ts[k].cells 0);have eD:(af st (.cells ts[k].cells 0)).heap.get p=some (.cells [b7 z gs,eM z2 ts] 0):=hg.get hp;have ha:=Yg hc z gs ts[k].a (by unfold ov;omega) (af st (.cells ts[k].cells 0));have hb:=Yg hc z gs ts[k].b (by unfold ov;omega) (af st (.cells ts[k].cells 0));have PY:¬256<=k:=(by omega);have GK:¬(256:Int)<=k:=(by omega);obtain⟨st',g1,g2⟩:=ih (k+1) _ cX eD (by omega) (by omega);have W4:AL ts[k]=true->(ts[k].k=1\/(¬ts[k].k=1/\ts[k].k=2)):=λq=>by
        simp only[AL,Zh0,Zd7]at q;by_cases e:ts[k].k=1
        .exact .inl e
        .exact .inr ⟨e,q.resolve_left e⟩
    have hkf:AL ts[k]=false->(¬ts[k].k=1/\¬ts[k].k=2):=λq=>by simpa [AL]using q
    rw[kJ,ej,H4 h];simp only;by_cases h0:k=0
    .   have hk :¬0<k:=(by omega);have ep:jC ts k=none:=(by simp[jC,h0]);rw[ep];clear h0 ih;simp only[Kw,m7,Bool.or_false,Zf0,Zf7,PY];cases q1:AL ts[k]
        .obtain⟨f1,f2⟩:=hkf q1;refine⟨_,hg,?_⟩;simp[eM,hp,eD,h,wg,f1,f2]
        . have f:=W4 q1;cases q2:az ts[k].a ts[k].b
          .refine⟨_,hg,?_⟩;rcases f with f|⟨f,f2⟩<;>simp[eM,hp,eD,h,wg,q2, *]
          . cases q3:iV gs ts[k]
            .have q4:=q3;simp only[iV,Zl1,decide_eq_false_iff_not]at q4;obtain⟨n1,n2⟩:=q4;refine⟨st',hg.trans g1,?_⟩;simp only[q1,q2,Zn3,Bool.or_false,Zf0,Zf7];rw[<-g2];rcases f with f|⟨f,f2⟩<;>simp[eM,hp,eD,h,wg,q2,ha,hb,n1,n2,hk,GK,w, *]
            . refine⟨_,hg,?_⟩;by_cases n1:scan (fq gs ts[k].a) gs.length 0<0
              .rcases f with f|⟨f,f2⟩<;>simp[eM,hp,eD,h,wg,q2,ha,hb,n1,hk,GK,w, *]
              .have n2:scan (fq gs ts[k].b) gs.length 0<0:=(by simpa [iV,n1]using q3);rcases f with f|⟨f,f2⟩<;>simp[eM,hp,eD,h,wg,q2,ha,hb,n1,n2,hk,GK,w, *]
    .   have hk : 0<k:=(by omega);have lK:k - 1<ts.length:=(by omega);have wk:aq .i64 ((k:Int) - 1)=((k - 1:Nat):Int):=(by rw[wrap64 (by omega) (by omega)];omega);have ep:jC ts k=some ts[k - 1]:=(by rw[jC,Za3 h0,H4 lK]);have b1:=Ra hc ts[k] ts[k - 1] (af st (.cells ts[k].cells 0)) cX;have b2:=Ra hc ts[k - 1] ts[k] (af st (.cells ts[k].cells 0)) cX;rw[ep];clear ih;simp only[Kw,m7,PY,Zf7];cases q1:AL ts[k]
        .obtain⟨f1,f2⟩:=hkf q1;refine⟨_,hg,?_⟩;simp[eM,hp,eD,h,wg,f1,f2]
        . have f:=W4 q1;cases q2:az ts[k].a ts[k].b
          .refine⟨_,hg,?_⟩;rcases f with f|⟨f,f2⟩<;>simp[eM,hp,eD,h,wg,q2, *]
          . cases q5:dL ts[k] ts[k - 1]
            . cases q3:iV gs ts[k]
              . have q4:=q3;simp only[iV,Zl1,decide_eq_false_iff_not]at q4;obtain⟨n1,n2⟩:=q4;cases q6:dL ts[k - 1] ts[k]
                .refine⟨_,hg,?_⟩;rcases f with f|⟨f,f2⟩<;>simp[eM,hp,eD,h,wg,q2,ha,hb,n1,n2,hk,lK,wk,b1,b2,GK,w, *]
                .refine⟨st',hg.trans g1,?_⟩;simp only[q1,q2,q5,Zn3,Zf0,Zf7,Bool.or_false];rw[<-g2];rcases f with f|⟨f,f2⟩<;>simp[eM,hp,eD,h,wg,q2,ha,hb,n1,n2,hk,lK,wk,b1,b2,GK,w, *]
              . refine⟨_,hg,?_⟩;by_cases n1:scan (fq gs ts[k].a) gs.length 0<0
                .rcases f with f|⟨f,f2⟩<;>simp[eM,hp,eD,h,wg,q2,ha,hb,n1,hk,lK,wk,b1,b2,GK,w, *]
                .have n2:scan (fq gs ts[k].b) gs.length 0<0:=(by simpa [iV,n1]using q3);rcases f with f|⟨f,f2⟩<;>simp[eM,hp,eD,h,wg,q2,ha,hb,n1,n2,hk,lK,wk,b1,b2,GK,w, *]
            .refine⟨_,hg,?_⟩;rcases f with f|⟨f,f2⟩<;>simp[eM,hp,eD,h,wg,q2,hk,lK,wk,b1,b2, *]
  .obtain rfl:k=ts.length:=(by omega);refine⟨st,Grew.refl hw,?_⟩;rw[kJ];simp[ej,hp]
theorem Yr(hc:Sem c)(z z2:Bool)(gs:List aK)(ts:List Ty)(hl:gs.length<=100)(mU:ts.length<=100)(st:St)(hw:Wf st):c 137 [.agg [b7 z gs,eM z2 ts]] st=some (.tuple [.int .i64 (bG gs ts).1,.int .i64 (bG gs ts).2],st):=by
 have p7:Plain (.tuple [.int .i64 (bG gs ts).1,.int .i64 (bG gs ts).2]):=Plain.tuple (by simp[Plain.int]);have cX:Wf (af st (.cells [b7 z gs,eM z2 ts] 0)):=bL hw;have Lz:=Grew.af hw (.cells [b7 z gs,eM z2 ts] 0);have eD:(af st (.cells [b7 z gs,eM z2 ts] 0)).heap.get st.next=some (.cells [b7 z gs,eM z2 ts] 0):=aD _ _;have L0:=λk1 k2=>Yp hc z z2 gs ts hl st.next _ cX eD 102 k1 k2 101 0 (by omega) (by omega)
 by_cases h:(gb gs 101 0).2=0
 . have e:bG gs ts=ej gs ts 101 0:=(by rw[bG,Za3 (by simp[h])]);obtain⟨st',g1,g2⟩:=Yq hc z z2 gs ts hl mU st.next 102 (λvs s142=>ju vs λx2 vs=>ju vs λx3 vs=>qd vs (some (.tuple [x2,x3],s142))) (λvs s143=>qd vs (
     ak c .move [(.int .i64 0)] s143 λx2 s144=>ak c .move [(.int .i64 0)] s144 λx3 s145=>some (.tuple [x2,x3],s145))) 101 0 _ cX eD (by omega) (by omega)
   rw[qg hc 102 (r:=(.tuple [.int .i64 (bG gs ts).1,.int .i64 (bG gs ts).2],st')),aF p7 (Lz.trans g1).keeps];rw[rJ,e];simp[h]at L0 g2 ⊢;rw[L0];simp[g2];by_cases h2:(ej gs ts 101 0).2=0
   .have:=Gy gs ts 101 0 h2;simp[h2,this]
   .simp[h2]
 .have e:bG gs ts=gb gs 101 0:=(by rw[bG,Za6 h]);rw[qg hc 102 (r:=(.tuple [.int .i64 (bG gs ts).1,.int .i64 (bG gs ts).2],af st (.cells [b7 z gs,eM z2 ts] 0))),aF p7 Lz.keeps];rw[rJ,e];simp[h]at L0 ⊢;rw[L0];simp
theorem US(hc:Sem c)(z z2:Bool)(gs:List aK)(ts:List Ty)(hl:gs.length<=100)(mU:ts.length<=100)(s:St)(hw:Wf s):c 150 [.agg [b7 z gs,eM z2 ts]] s=some (.tuple [.int .i64 (bG gs ts).1,.int .i64 (bG gs ts).2],s):=by
 have EU:Wf (af s (.cells [b7 z gs,eM z2 ts] 0)):=bL hw;obtain⟨v,s',h1,h2,_⟩:=PZ hc z z2 gs ts hl mU _ EU;have SQ:cut [b7 z gs,eM z2 ts] 0 2=some [b7 z gs,eM z2 ts]:=bV rfl;rw[HW hc 1 (r:=(.tuple [.int .i64 (bG gs ts).1,.int .i64 (bG gs ts).2],s')),aF (Plain.tuple (by simp[Plain.int])) ((b9 hw).trans h2)];rw[KE];simp[SQ,h1]
theorem adY(hc:Sem c){p:cj}(hp:p.HL):UN c p:=⟨λst hw=>US hc p.gz p.yz p.gs p.ys hp.gs hp.ys st hw,λst hw=>Yr hc p.gz p.yz p.gs p.ys hp.gs hp.ys st hw⟩
end
noncomputable section
open Go Go.Ai Go.Proofs
def uS(f:FuncId):List AV->St->Option (AV×St):=I1 (run Fo gg) f 4
def CI:dZ:=vN [(327,Ih),(12,Ke),(77,uS 77),(72,uS 72),(86,uS 86),(129,uS 129),(125,uS 125),(44,uS 44),(47,uS 47),(49,uS 49),(99,uS 99),(53,uS 53),(101,uS 101),(111,uS 111),(118,uS 118)]
def cr(c:ai):Prop:=c=run CI gg
theorem cr.o0{c:ai}(hc:cr c)(F:Nat){f:FuncId}{args:List AV}{st:St}{r:AV×St}(s:Sh)(hk:(sV (CI f)&& !sV (gg.get (key f))&&(dY (gA f).code s).isEmpty)=true)
  {k:O2} (hd:zU c F (Sb []) (gA f) s args st=k) (h:k=some r):c f args st=some (tidy st r):=by
 subst hc;exact Wx s hk hd h
theorem cr.o1{c:ai}(hc:cr c)(F:Nat){f:FuncId}{args:List AV}{st:St}{r:AV×St}(Ls:Un->List Q2->Nat->Q2)(s:Sh)(hk:(sV (CI f)&& !sV (gg.get (key f))&&Nat.beq (dY (gA f).code s).length 1)=true)
  (hs:(Pc (fC (gA f) s 0).2&&Nat.beq (ZW (fC (gA f) s 0).2) 0)=true) (h0:∀K' vs st,nE Ls (gA f) s 0 K' 0 vs st=none)
  (h1:∀K' n vs st,nE Ls (gA f) s 0 K' (n+1) vs st=Ey (den c F (nE Ls (gA f) s) (fC (gA f) s 0).1 (lpB (fC (gA f) s 0).2)) (lpI (fC (gA f) s 0).2) (ZX (fC (gA f) s 0).2) K' (nE Ls (gA f) s 0 K' n) vs st)
  {k:O2} (hd:zU c F (nE Ls (gA f) s) (gA f) s args st=k) (h:k=some r):c f args st=some (tidy st r):=by
 subst hc;exact Wy Ls s hk hs h0 h1 hd h
theorem cr.oL{c:ai}(hc:cr c)(F:Nat){f:FuncId}{args:List AV}{st:St}{r:AV×St}(Ls:Un->List Q2->Nat->Q2)(s:Sh)(n:Nat)(hk:(sV (CI f)&& !sV (gg.get (key f))&&Nat.beq (dY (gA f).code s).length n)=true)
  (hL:∀i,i<n->v9 c F (nE Ls (gA f) s) (fC (gA f) s i).1 (fC (gA f) s i).2) {k:O2} (hd:zU c F (nE Ls (gA f) s) (gA f) s args st=k) (h:k=some r):c f args st=some (tidy st r):=by
 subst hc;exact Pp Ls s n hk hL hd h
theorem cr.at{c:ai}(hc:cr c){f:FuncId}{s:List AV->St->Option (AV×St)}{args:List AV}{st:St}{r:AV×St}(ho:CI f=some s)(h:s args st=some r):c f args st=some r:=by subst hc;exact NK ho h
section
variable{c:ai}{s0 s:St}{Vs:List AV}{p:cj}
theorem aaw(hc:cr c)(s:St):c 12 [] s=some (.bool true,s):=hc.at (s:=Ke) rfl rfl
theorem aax(hc:cr c)(h:PS s0 s Vs p)(hp:p.HL)(hr:∀r∈p.rs,r.Ok):c 77 [.agg Vs] s=some (.tuple [.int .i64 (iO p).1,.int .i64 (iO p).2],s):=by
 obtain⟨p',e,S⟩:=h.di 1;refine hc.at (s:=uS 77) rfl (NU ?_ (oc.tuple (by intro v hv;simp at hv;rcases hv with rfl|rfl<;>exact oc.int _ _)));rw[Zd5,Zh9,e, <-S.check];exact RZ rfl p' (S.AM hp) (adY rfl (S.AM hp)) (by rw[S.rs];exact hr) (emptyAt s) (NT s)
theorem PS.tabs(h:PS s0 s Vs p):∃V1 z p',Vs[0]? =some V1/\Go.Ai.di s 4 V1=Go.Proofs.YtlkadmkojjceiaaGreatDoor.tabs z p'.ts/\p.fP p':=by
 obtain⟨V1,V2,V3,V4,V5,r1,r2,rfl,h1,h2,h3,h4,h5⟩:=h.all;obtain⟨z,uf,e,l,k⟩:=h1.di 2;exact⟨V1,z,{ p with ts:=uf },rfl,e,⟨l,k,rfl,λi t t' a b=>by rw[a]at b;cases b;exact⟨t.tz,rfl⟩,rfl,rfl,rfl⟩⟩
theorem Ri(hc:cr c)(h:PS s0 s Vs p)(e8:∀t∈p.ts,t.Ok)(hv:(bJ p.ts).2=0){V1:AV}(e1:Vs[0]? =some V1):c 72 [V1] s=some (.int .i64 (bl p.ts),s):=by
 obtain⟨V,z,p',e,ez,S⟩:=h.tabs;rw[e1]at e;cases e;refine hc.at (s:=uS 72) rfl (NU ?_ (oc.int _ _));rw[Zd5,Zh9,ez];have:=yL (c:=run Fo gg) rfl z p'.ts (λt ht=>by obtain⟨u,hu,z,rfl⟩:=S.tab ht;have:=e8 u hu;exact⟨this.1,this.2⟩) (emptyAt s) (NT s);rw[this,S.zJ,Za6 hv,S.sum]
end
end
noncomputable section
open Go Go.Ai Go.Proofs
attribute [local go_sem ↓] bX Da ev evX Am getLT AZ Po TX zd ze Mj NX NY NZ Kg Kh Ki Kj Kk Kl N4 N6 Km Kn Ko Kp Kq Sg Si Sj
attribute [local go_sem] bX Da ev
section
variable(c:ai)(F:Nat)(x0 x1 x2 x3 x4 x5 x6 x7 x8 x9 Uf Ug:AV)(s:St)
def kf:Sh:=(sq sl (sq sl (sq sl (sq (sq sl (sb (sp 0 [1,2,3,4,5] [(2,[1,2,3,4])] (sq (sq sl (sc sl sl)) (sq (sb (sq sl (sq sl (sq sl sl)))) sl))))) (sq sl (sq sl (sj [1,2,3] (sq sl (sc (sq sl (sb (sp 1 [1,2,3,9] [(4,[1,2,3])] (sq (sq sl (sc sl sl)) (sq (sb (sq sl sl)) sl))))) sl)) (sq (sq sl (sb (sp 2 [1,2,3,11] [(6,[2,3])] (sq (sq sl (sc sl sl)) (sj [1,2,3,11] (sb (sq sl (sq sl (sc (sq sl sl) sl)))) sl))))) (sq sl sl)))))))))
def yd:PX 15 kf:=⟨_,by conv=>lhs;reduce⟩
def w9:PL 15 kf 2:=⟨_,by conv=>lhs;reduce⟩
def gM(k6:Q2):Nat->Q2
 |0,_,_=>none
 |n+1,vs,s=>gu c F bW (gM k6 n) [k6] w9.1 vs s
def nG(k6:Q2)(n:Nat)(vs:List AV)(s:St):=(by dsimp only[gM,w9,go_sem,Int.reduceOfNat]:gM c F k6 (n+1) vs s=_)
def xe:PL 15 kf 1:=⟨_,by conv=>lhs;reduce⟩
def gO(k4:Q2):Nat->Q2
 |0,_,_=>none
 |n+1,vs,s=>gu c F bW (gO k4 n) [k4] xe.1 vs s
def ug(k4:Q2)(n:Nat)(vs:List AV)(s:St):=(by dsimp only[gO,xe,go_sem,Int.reduceOfNat]:gO c F k4 (n+1) vs s=_)
def xj:PL 15 kf 0:=⟨_,by conv=>lhs;reduce⟩
def ek(k2:Q2):Nat->Q2
 |0,_,_=>none
 |n+1,vs,s=>gu c F bW (ek k2 n) [k2] xj.1 vs s
def uh(k2:Q2)(n:Nat)(vs:List AV)(s:St):=(by dsimp only[ek,xj,go_sem,Int.reduceOfNat]:ek c F k2 (n+1) vs s=_)
def qC:Un->List Q2->Nat->Q2
 |.z,[k2]=>ek c F k2
 |(.s .z),[k4]=>gO c F k4
 |(.s (.s .z)),[k6]=>gM c F k6
 |_,_=>λ_=>iK
def jM:O2:=bX c F (qC c F) yd.1 [x0] s
def H8:=(by dsimp only[jM,yd, ↓qC,go_sem,Int.reduceOfNat]:jM c F x0 s=_)
def oE:Sh:=(sq sl (sq sl (sq sl (sq sl (sq (sq sl (sb (sp 0 [1,2,5,6,7,8] [(2,[7])] (sq (sq sl (sc sl sl)) (sj [1,2,5,6,7,8] (sb (sq sl (sj [1,2,5,6,7,8,9] (sq sl (sc sl sl)) (sq sl (sc sl sl))))) sl))))) (sq sl sl))))))
def vE:PX 16 oE:=⟨_,by conv=>lhs;reduce⟩
def uj:PL 16 oE 0:=⟨_,by conv=>lhs;reduce⟩
def dD(k2:Q2):Nat->Q2
 |0,_,_=>none
 |n+1,vs,s=>gu c F bW (dD k2 n) [k2] uj.1 vs s
def jE(k2:Q2)(n:Nat)(vs:List AV)(s:St):=(by dsimp only[dD,uj,go_sem,Int.reduceOfNat,Int.reduceNegSucc]:dD c F k2 (n+1) vs s=_)
def oF:Un->List Q2->Nat->Q2
 |.z,[k2]=>dD c F k2
 |_,_=>λ_=>iK
def qD:O2:=bX c F (oF c F) vE.1 [x0,x1] s
def E0:=(by dsimp only[qD,vE, ↓oF,go_sem,Int.reduceOfNat,Int.reduceNegSucc]:qD c F x0 x1 s=_)
def uk:Sh:=(sq sl (sq (sq sl (sc (sq sl sl) sl)) (sq sl sl)))
def um:PX 17 uk:=⟨_,by conv=>lhs;reduce⟩
def pK:O2:=bX c F bW um.1 [x0] s
def uo:=(by dsimp only[pK,um,go_sem,Int.reduceOfNat]:pK c F x0 s=_)
def nH:Sh:=(sq sl (sq sl (sq (sq sl (sb (sp 0 [3,7,8,9] [(2,[3])] (sq sl (sq (sc sl sl) (sj [3,7,8,9] (sb (sq sl (sq sl (sb (sq sl (sc sl (sq sl (sc sl sl)))))))) sl)))))) (sq sl sl))))
def uq:PX 18 nH:=⟨_,by conv=>lhs;reduce⟩
def th:PL 18 nH 0:=⟨_,by conv=>lhs;reduce⟩
def gR(k2:Q2):Nat->Q2
 |0,_,_=>none
 |n+1,vs,s=>gu c F bW (gR k2 n) [k2] th.1 vs s
def qU(k2:Q2)(n:Nat)(vs:List AV)(s:St):=(by dsimp only[gR,th,go_sem,Int.reduceOfNat]:gR c F k2 (n+1) vs s=_)
def nI:Un->List Q2->Nat->Q2
 |.z,[k2]=>gR c F k2
 |_,_=>λ_=>iK
def pL:O2:=bX c F (nI c F) uq.1 [x0] s
def DX:=(by dsimp only[pL,uq, ↓nI,go_sem,Int.reduceOfNat]:pL c F x0 s=_)
def qV:Sh:=(sq sl (sq sl sl))
def qW:PX 19 qV:=⟨_,by conv=>lhs;reduce⟩
def mH:O2:=bX c F bW qW.1 [x0,x1] s
def A6:=(by dsimp only[mH,qW,go_sem,Int.reduceOfNat]:mH c F x0 x1 s=_)
def nJ:Sh:=(sq sl (sq (sq sl (sc (sq sl sl) sl)) (sq (sq sl (sb (sp 0 [0,1,12,13] [(1,[4]),(2,[])] (sq sl (sq (sc sl sl) (sq (sb (sq sl (sq sl (sc (sq sl sl) sl)))) sl)))))) (sq sl sl))))
def ur:PX 21 nJ:=⟨_,by conv=>lhs;reduce⟩
def tj:PL 21 nJ 0:=⟨_,by conv=>lhs;reduce⟩
def gU(k1 k2:Q2):Nat->Q2
 |0,_,_=>none
 |n+1,vs,s=>gu c F bW (gU k1 k2 n) [k1,k2] tj.1 vs s
def lu(k1 k2:Q2)(n:Nat)(vs:List AV)(s:St):=(by dsimp only[gU,tj,go_sem,Int.reduceOfNat]:gU c F k1 k2 (n+1) vs s=_)
def nK:Un->List Q2->Nat->Q2
 |.z,[k1,k2]=>gU c F k1 k2
 |_,_=>λ_=>iK
def pM:O2:=bX c F (nK c F) ur.1 [x0,x1] s
def DY:=(by dsimp only[pM,ur, ↓nK,go_sem,Int.reduceOfNat]:pM c F x0 x1 s=_)
def Cd:Sh:=(sq sl (sq (sq sl (sc (sq sl sl) sl)) (sq sl (sq (sq sl (sb (sp 0 [0,1,5,13,14] [(2,[5])] (sq sl (sq (sc sl sl) (sj [0,1,5,13,14] (sb (sq sl (sq sl (sc sl sl)))) sl)))))) (sq sl sl)))))
def JG:PX 23 Cd:=⟨_,by conv=>lhs;reduce⟩
def HN:PL 23 Cd 0:=⟨_,by conv=>lhs;reduce⟩
def qi(k2:Q2):Nat->Q2
 |0,_,_=>none
 |n+1,vs,s=>gu c F bW (qi k2 n) [k2] HN.1 vs s
def xk(k2:Q2)(n:Nat)(vs:List AV)(s:St):=(by dsimp only[qi,HN,go_sem,Int.reduceOfNat]:qi c F k2 (n+1) vs s=_)
def Ce:Un->List Q2->Nat->Q2
 |.z,[k2]=>qi c F k2
 |_,_=>λ_=>iK
def GM:O2:=bX c F (Ce c F) JG.1 [x0,x1] s
def UT:=(by dsimp only[GM,JG, ↓Ce,go_sem,Int.reduceOfNat]:GM c F x0 x1 s=_)
def Cf:Sh:=(sq sl (sq sl sl))
def Cg:PX 33 Cf:=⟨_,by conv=>lhs;reduce⟩
def yN:O2:=bX c F bW Cg.1 [x0,x1] s
def MI:=(by dsimp only[yN,Cg,go_sem,Int.reduceOfNat]:yN c F x0 x1 s=_)
def pN:Sh:=(sq sl (sq sl (sq sl (sj [1,4,5] (sq sl (sb (sq sl (sc sl (sq sl (sc sl (sq sl (sc sl (sq sl (sc (sq sl sl) sl)))))))))) (sq (sq sl (sb (sp 0 [1,4,5,7] [(3,[4,5])] (sq (sq sl (sc sl sl)) (sj [1,4,5,7] (sb (sq sl (sc (sq sl sl) sl))) sl))))) (sq sl sl))))))
def xp:PX 64 pN:=⟨_,by conv=>lhs;reduce⟩
def vF:PL 64 pN 0:=⟨_,by conv=>lhs;reduce⟩
def gC(k3:Q2):Nat->Q2
 |0,_,_=>none
 |n+1,vs,s=>gu c F bW (gC k3 n) [k3] vF.1 vs s
def jX(k3:Q2)(n:Nat)(vs:List AV)(s:St):=(by dsimp only[gC,vF,go_sem,Int.reduceOfNat]:gC c F k3 (n+1) vs s=_)
def pO:Un->List Q2->Nat->Q2
 |.z,[k3]=>gC c F k3
 |_,_=>λ_=>iK
def rW:O2:=bX c F (pO c F) xp.1 [x0,x1] s
def GN:=(by dsimp only[rW,xp, ↓pO,go_sem,Int.reduceOfNat]:rW c F x0 x1 s=_)
def ye:Sh:=(sq sl (sq (sq sl (sb (sq sl (sc (sq sl sl) (sq sl (sc (sq sl sl) sl)))))) (sq sl sl)))
def yf:PX 65 ye:=⟨_,by conv=>lhs;reduce⟩
def tO:O2:=bX c F bW yf.1 [x0] s
def H9:=(by dsimp only[tO,yf,go_sem,Int.reduceOfNat]:tO c F x0 s=_)
def iu:Sh:=(sq sl (sq sl (sq (sq sl (sb (sp 0 [0,1,4,5,6] [(2,[1,4,5])] (sq (sq sl (sc sl sl)) (sj [0,1,4,5,6] (sb (sq sl (sq sl (sj [0,1,4,5,6,7,8] (sq sl (sc sl sl)) (sj [0,1,4,5,6,7,8] (sq sl (sc sl sl)) (sj [0,1,4,5,6,7,8] (sq sl (sc sl sl)) (sq (sq sl (sb (sp 1 [0,1,4,5,6,7,8,9] [(4,[0,1,4,5,6,8])] (sq (sq sl (sc sl sl)) (sj [0,1,4,5,6,7,8,9] (sb (sq sl (sc (sq sl sl) sl))) sl))))) (sq sl sl)))))))) sl))))) (sq sl (sq (sq sl (sb (sp 2 [1,4,5,12,13] [(6,[4,5])] (sq (sq sl (sc sl sl)) (sq (sb (sq sl (sb (sp 3 [1,4,5,12,13,14] [(8,[1,4,5,12,13])] (sq (sq sl (sc sl sl)) (sj [1,4,5,12,13,14] (sb (sq (sq sl (sc sl sl)) (sq (sq sl (sc sl sl)) (sj [1,4,5,12,13,14] (sq sl (sc (sq sl sl) sl)) sl)))) sl)))))) sl))))) (sq sl sl))))))
def yg:PX 66 iu:=⟨_,by conv=>lhs;reduce⟩
def xq:PL 66 iu 3:=⟨_,by conv=>lhs;reduce⟩
def gP(k8:Q2):Nat->Q2
 |0,_,_=>none
 |n+1,vs,s=>gu c F bW (gP k8 n) [k8] xq.1 vs s
def fM(k8:Q2)(n:Nat)(vs:List AV)(s:St):=(by dsimp only[gP,xq,go_sem,Int.reduceOfNat]:gP c F k8 (n+1) vs s=_)
def xw:Un->List Q2->Nat->Q2
 |(.s (.s (.s .z))),[k8]=>gP c F k8
 |_,_=>λ_=>iK
def xx:PL 66 iu 2:=⟨_,by conv=>lhs;reduce⟩
def gQ(k6:Q2):Nat->Q2
 |0,_,_=>none
 |n+1,vs,s=>gu c F (xw c F) (gQ k6 n) [k6] xx.1 vs s
def uu(k6:Q2)(n:Nat)(vs:List AV)(s:St):=(by dsimp only[gQ,xx, ↓xw,go_sem,Int.reduceOfNat]:gQ c F k6 (n+1) vs s=_)
def xz:PL 66 iu 1:=⟨_,by conv=>lhs;reduce⟩
def fG(k4:Q2):Nat->Q2
 |0,_,_=>none
 |n+1,vs,s=>gu c F bW (fG k4 n) [k4] xz.1 vs s
def nL(k4:Q2)(n:Nat)(vs:List AV)(s:St):=(by dsimp only[fG,xz,go_sem,Int.reduceOfNat]:fG c F k4 (n+1) vs s=_)
def xA:Un->List Q2->Nat->Q2
 |(.s .z),[k4]=>fG c F k4
 |_,_=>λ_=>iK
def xB:PL 66 iu 0:=⟨_,by conv=>lhs;reduce⟩
def eo(k2:Q2):Nat->Q2
 |0,_,_=>none
 |n+1,vs,s=>gu c F (xA c F) (eo k2 n) [k2] xB.1 vs s
def uv(k2:Q2)(n:Nat)(vs:List AV)(s:St):=(by dsimp only[eo,xB, ↓xA,go_sem,Int.reduceOfNat]:eo c F k2 (n+1) vs s=_)
def qE:Un->List Q2->Nat->Q2
 |.z,[k2]=>eo c F k2
 |(.s .z),[k4]=>fG c F k4
 |(.s (.s .z)),[k6]=>gQ c F k6
 |(.s (.s (.s .z))),[k8]=>gP c F k8
 |_,_=>λ_=>iK
def tP:O2:=bX c F (qE c F) yg.1 [x0,x1] s
def Ia:=(by dsimp only[tP,yg, ↓qE,go_sem,Int.reduceOfNat]:tP c F x0 x1 s=_)
def xC:Sh:=(sq sl (sq sl (sq sl (sj [1,2,4,6] (sq sl (sc sl sl)) (sq sl (sq sl (sq (sq sl (sc (sq sl sl) sl)) (sq sl (sq sl (sj [1,2,4,6,11] (sq sl (sb (sj [1,2,4,6,9,10,11,12,58,59] (sq sl (sc sl (sq sl (sc sl (sq sl (sc sl (sq sl (sc sl sl)))))))) (sc (sq sl (sj [4,6,9,10] (sq sl (sc sl sl)) (sj [4,6,9,10] (sq sl (sc sl sl)) (sq sl sl)))) (sj [1,2,4,6,9,11,12,58,100] (sq sl (sc sl sl)) (sc (sq sl (sj [4,6] (sq sl (sc sl sl)) (sq sl sl))) (sq sl (sc (sj [4,6] (sq sl (sc sl sl)) (sq sl sl)) (sq sl (sc (sq sl (sq sl sl)) (sj [1,2,4,6,11,12,164] (sq sl (sc sl sl)) (sc sl sl)))))))))))) (sj [4,6] (sq sl (sc sl sl)) (sq sl sl))))))))))))
def xD:PX 67 xC:=⟨_,by conv=>lhs;reduce⟩
def iP:O2:=bX c F bW xD.1 [x0,x1] s
def GO:=(by dsimp only[iP,xD,go_sem,Int.reduceOfNat]:iP c F x0 x1 s=_)
def nM:Sh:=(sq sl (sq sl (sq (sq sl (sb (sp 0 [1,3,4] [(2,[3])] (sq (sq sl (sc sl sl)) (sq (sb sl) sl))))) (sq sl sl))))
def uw:PX 68 nM:=⟨_,by conv=>lhs;reduce⟩
def tq:PL 68 nM 0:=⟨_,by conv=>lhs;reduce⟩
def gV(k2:Q2):Nat->Q2
 |0,_,_=>none
 |n+1,vs,s=>gu c F bW (gV k2 n) [k2] tq.1 vs s
def qX(k2:Q2)(n:Nat)(vs:List AV)(s:St):=(by dsimp only[gV,tq,go_sem,Int.reduceOfNat]:gV c F k2 (n+1) vs s=_)
def nN:Un->List Q2->Nat->Q2
 |.z,[k2]=>gV c F k2
 |_,_=>λ_=>iK
def pP:O2:=bX c F (nN c F) uw.1 [x0] s
def DZ:=(by dsimp only[pP,uw, ↓nN,go_sem,Int.reduceOfNat]:pP c F x0 s=_)
def AN:Sh:=(sq sl (sq sl (sj [5] (sq sl (sc sl sl)) (sq sl sl))))
def AO:PX 69 AN:=⟨_,by conv=>lhs;reduce⟩
def xE:O2:=bX c F bW AO.1 [x0,x1] s
def KO:=(by dsimp only[xE,AO,go_sem,Int.reduceOfNat]:xE c F x0 x1 s=_)
def pQ:Sh:=(sq sl (sq (sq sl (sb (sp 0 [0,1,5] [(1,[4]),(2,[])] (sq (sq sl (sc sl sl)) (sq (sb (sq sl (sq sl (sc (sq sl (sq sl sl)) sl)))) sl))))) (sq sl sl)))
def xF:PX 70 pQ:=⟨_,by conv=>lhs;reduce⟩
def vG:PL 70 pQ 0:=⟨_,by conv=>lhs;reduce⟩
def iQ(k1 k2:Q2):Nat->Q2
 |0,_,_=>none
 |n+1,vs,s=>gu c F bW (iQ k1 k2 n) [k1,k2] vG.1 vs s
def mI(k1 k2:Q2)(n:Nat)(vs:List AV)(s:St):=(by dsimp only[iQ,vG,go_sem,Int.reduceOfNat,Int.reduceNegSucc]:iQ c F k1 k2 (n+1) vs s=_)
def pR:Un->List Q2->Nat->Q2
 |.z,[k1,k2]=>iQ c F k1 k2
 |_,_=>λ_=>iK
def rX:O2:=bX c F (pR c F) xF.1 [x0,x1] s
def xG:=(by dsimp only[rX,xF, ↓pR,go_sem,Int.reduceOfNat,Int.reduceNegSucc]:rX c F x0 x1 s=_)
def nO:Sh:=(sq sl (sq (sq sl (sb (sp 0 [0,1,7,8] [(1,[4]),(2,[])] (sq sl (sq (sc sl sl) (sq (sb (sq sl (sq sl (sc (sq sl sl) sl)))) sl)))))) (sq sl sl)))
def ux:PX 71 nO:=⟨_,by conv=>lhs;reduce⟩
def tr:PL 71 nO 0:=⟨_,by conv=>lhs;reduce⟩
def gW(k1 k2:Q2):Nat->Q2
 |0,_,_=>none
 |n+1,vs,s=>gu c F bW (gW k1 k2 n) [k1,k2] tr.1 vs s
def lz(k1 k2:Q2)(n:Nat)(vs:List AV)(s:St):=(by dsimp only[gW,tr,go_sem,Int.reduceOfNat,Int.reduceNegSucc]:gW c F k1 k2 (n+1) vs s=_)
def nP:Un->List Q2->Nat->Q2
 |.z,[k1,k2]=>gW c F k1 k2
 |_,_=>λ_=>iK
def pS:O2:=bX c F (nP c F) ux.1 [x0,x1] s
def D3:=(by dsimp only[pS,ux, ↓nP,go_sem,Int.reduceOfNat,Int.reduceNegSucc]:pS c F x0 x1 s=_)
def E7:Sh:=(sq sl (sq (sq sl (sq sl (sc (sq sl sl) sl))) (sq sl sl)))
def E8:PX 80 E7:=⟨_,by conv=>lhs;reduce⟩
def Ci:O2:=bX c F bW E8.1 [x0,x1,x2] s
def P0:=(by dsimp only[Ci,E8,go_sem,Int.reduceOfNat]:Ci c F x0 x1 x2 s=_)
def E9:Sh:=(sq sl (sq sl sl))
def Fa:PX 89 E9:=⟨_,by conv=>lhs;reduce⟩
def Cj:O2:=bX c F bW Fa.1 [x0] s
def P1:=(by dsimp only[Cj,Fa,go_sem,Int.reduceOfNat]:Cj c F x0 s=_)
def yh:Sh:=(sq sl (sq sl sl))
def yj:PX 113 yh:=⟨_,by conv=>lhs;reduce⟩
def tQ:O2:=bX c F bW yj.1 [x0] s
def Ib:=(by dsimp only[tQ,yj,go_sem,Int.reduceOfNat]:tQ c F x0 s=_)
def vH:Sh:=(sq sl (sq sl sl))
def vI:PX 114 vH:=⟨_,by conv=>lhs;reduce⟩
def qF:O2:=bX c F bW vI.1 [x0] s
def Fb:=(by dsimp only[qF,vI,go_sem,Int.reduceOfNat]:qF c F x0 s=_)
def pT:Sh:=(sq sl (sq (sq sl (sb (sp 0 [1,2,5] [(1,[4]),(2,[])] (sq (sq sl (sc sl sl)) (sq (sb (sq sl (sc (sq sl sl) sl))) sl))))) (sq sl sl)))
def xH:PX 115 pT:=⟨_,by conv=>lhs;reduce⟩
def vJ:PL 115 pT 0:=⟨_,by conv=>lhs;reduce⟩
def iR(k1 k2:Q2):Nat->Q2
 |0,_,_=>none
 |n+1,vs,s=>gu c F bW (iR k1 k2 n) [k1,k2] vJ.1 vs s
def mJ(k1 k2:Q2)(n:Nat)(vs:List AV)(s:St):=(by dsimp only[iR,vJ,go_sem,Int.reduceOfNat]:iR c F k1 k2 (n+1) vs s=_)
def pU:Un->List Q2->Nat->Q2
 |.z,[k1,k2]=>iR c F k1 k2
 |_,_=>λ_=>iK
def rY:O2:=bX c F (pU c F) xH.1 [x0,x1] s
def GP:=(by dsimp only[rY,xH, ↓pU,go_sem,Int.reduceOfNat]:rY c F x0 x1 s=_)
def Ck:Sh:=(sq sl (sq (sq sl (sc (sq sl sl) sl)) (sq sl (sq sl (sq (sq sl (sb (sp 0 [2,8,9,23,24,25] [(1,[6,7]),(2,[])] (sq sl (sq (sc sl sl) (sj [2,8,9,23,24,25] (sb (sq sl (sq (sb (sq sl (sc (sq sl sl) (sq sl (sc (sq sl sl) (sq sl (sc (sq sl sl) sl))))))) (sq sl (sc sl sl))))) sl)))))) (sq sl sl))))))
def JH:PX 122 Ck:=⟨_,by conv=>lhs;reduce⟩
def HO:PL 122 Ck 0:=⟨_,by conv=>lhs;reduce⟩
def qj(k1 k2:Q2):Nat->Q2
 |0,_,_=>none
 |n+1,vs,s=>gu c F bW (qj k1 k2 n) [k1,k2] HO.1 vs s
def xI(k1 k2:Q2)(n:Nat)(vs:List AV)(s:St):=(by dsimp only[qj,HO,go_sem,Int.reduceOfNat,Int.reduceNegSucc]:qj c F k1 k2 (n+1) vs s=_)
def Cm:Un->List Q2->Nat->Q2
 |.z,[k1,k2]=>qj c F k1 k2
 |_,_=>λ_=>iK
def GQ:O2:=bX c F (Cm c F) JH.1 [x0,x1,x2] s
def UU:=(by dsimp only[GQ,JH, ↓Cm,go_sem,Int.reduceOfNat,Int.reduceNegSucc]:GQ c F x0 x1 x2 s=_)
def Cn:Sh:=(sq sl (sq sl sl))
def Co:PX 128 Cn:=⟨_,by conv=>lhs;reduce⟩
def yO:O2:=bX c F bW Co.1 [x0,x1] s
def MJ:=(by dsimp only[yO,Co,go_sem,Int.reduceOfNat]:yO c F x0 x1 s=_)
end
section
variable{c:ai}(hc:cr c)(F:Nat){x0 x1 x2 x3 x4 x5 x6 x7 x8 x9 Uf Ug:AV}{s:St}{r:AV×St}
include hc
theorem Fe(h:jM c F x0 s=some r):c 15 [x0] s=some (tidy s r):=hc.oL F (qC c F) kf 3 (by kernel_rfl) (λi hi=>match i,hi with|0,_=>fQ 0 (by kernel_rfl) (λ_ _ _=>by kernel_rfl) (λ_ _ _ _=>by kernel_rfl)|1,_=>fQ 1 (by kernel_rfl) (λ_ _ _=>by kernel_rfl) (λ_ _ _ _=>by kernel_rfl)|2,_=>fQ 2 (by kernel_rfl) (λ_ _ _=>by kernel_rfl) (λ_ _ _ _=>by kernel_rfl)|n+3,h=>absurd h (by omega)) (by kernel_rfl) h
theorem CG(h:qD c F x0 x1 s=some r):c 16 [x0,x1] s=some (tidy s r):=hc.o1 F (oF c F) oE (by kernel_rfl) (by kernel_rfl) (λ_ _ _=>by kernel_rfl) (λ_ _ _ _=>by kernel_rfl) (by kernel_rfl) h
theorem rZ(h:pK c F x0 s=some r):c 17 [x0] s=some (tidy s r):=hc.o0 F uk (by kernel_rfl) (by kernel_rfl) h
theorem Cp(h:pL c F x0 s=some r):c 18 [x0] s=some (tidy s r):=hc.o1 F (nI c F) nH (by kernel_rfl) (by kernel_rfl) (λ_ _ _=>by kernel_rfl) (λ_ _ _ _=>by kernel_rfl) (by kernel_rfl) h
theorem zK(h:mH c F x0 x1 s=some r):c 19 [x0,x1] s=some (tidy s r):=hc.o0 F qV (by kernel_rfl) (by kernel_rfl) h
theorem Cq(h:pM c F x0 x1 s=some r):c 21 [x0,x1] s=some (tidy s r):=hc.o1 F (nK c F) nJ (by kernel_rfl) (by kernel_rfl) (λ_ _ _=>by kernel_rfl) (λ_ _ _ _=>by kernel_rfl) (by kernel_rfl) h
theorem P2(h:GM c F x0 x1 s=some r):c 23 [x0,x1] s=some (tidy s r):=hc.o1 F (Ce c F) Cd (by kernel_rfl) (by kernel_rfl) (λ_ _ _=>by kernel_rfl) (λ_ _ _ _=>by kernel_rfl) (by kernel_rfl) h
theorem JI(h:yN c F x0 x1 s=some r):c 33 [x0,x1] s=some (tidy s r):=hc.o0 F Cf (by kernel_rfl) (by kernel_rfl) h
theorem D4(h:rW c F x0 x1 s=some r):c 64 [x0,x1] s=some (tidy s r):=hc.o1 F (pO c F) pN (by kernel_rfl) (by kernel_rfl) (λ_ _ _=>by kernel_rfl) (λ_ _ _ _=>by kernel_rfl) (by kernel_rfl) h
theorem Ff(h:tO c F x0 s=some r):c 65 [x0] s=some (tidy s r):=hc.o0 F ye (by kernel_rfl) (by kernel_rfl) h
theorem Fg(h:tP c F x0 x1 s=some r):c 66 [x0,x1] s=some (tidy s r):=hc.oL F (qE c F) iu 4 (by kernel_rfl) (λi hi=>match i,hi with|0,_=>fQ 0 (by kernel_rfl) (λ_ _ _=>by kernel_rfl) (λ_ _ _ _=>by kernel_rfl)|1,_=>fQ 1 (by kernel_rfl) (λ_ _ _=>by kernel_rfl) (λ_ _ _ _=>by kernel_rfl)|2,_=>fQ 2 (by kernel_rfl) (λ_ _ _=>by kernel_rfl) (λ_ _ _ _=>by kernel_rfl)|3,_=>fQ 3 (by kernel_rfl) (λ_ _ _=>by kernel_rfl) (λ_ _ _ _=>by kernel_rfl)|n+4,h=>absurd h (by omega)) (by kernel_rfl) h
theorem D5(h:iP c F x0 x1 s=some r):c 67 [x0,x1] s=some (tidy s r):=hc.o0 F xC (by kernel_rfl) (by kernel_rfl) h
theorem Cr(h:pP c F x0 s=some r):c 68 [x0] s=some (tidy s r):=hc.o1 F (nN c F) nM (by kernel_rfl) (by kernel_rfl) (λ_ _ _=>by kernel_rfl) (λ_ _ _ _=>by kernel_rfl) (by kernel_rfl) h
theorem Ic(h:xE c F x0 x1 s=some r):c 69 [x0,x1] s=some (tidy s r):=hc.o0 F AN (by kernel_rfl) (by kernel_rfl) h
theorem uy(h:rX c F x0 x1 s=some r):c 70 [x0,x1] s=some (tidy s r):=hc.o1 F (pR c F) pQ (by kernel_rfl) (by kernel_rfl) (λ_ _ _=>by kernel_rfl) (λ_ _ _ _=>by kernel_rfl) (by kernel_rfl) h
theorem Cs(h:pS c F x0 x1 s=some r):c 71 [x0,x1] s=some (tidy s r):=hc.o1 F (nP c F) nO (by kernel_rfl) (by kernel_rfl) (λ_ _ _=>by kernel_rfl) (λ_ _ _ _=>by kernel_rfl) (by kernel_rfl) h
theorem MK(h:Ci c F x0 x1 x2 s=some r):c 80 [x0,x1,x2] s=some (tidy s r):=hc.o0 F E7 (by kernel_rfl) (by kernel_rfl) h
theorem ML(h:Cj c F x0 s=some r):c 89 [x0] s=some (tidy s r):=hc.o0 F E9 (by kernel_rfl) (by kernel_rfl) h
theorem Fh(h:tQ c F x0 s=some r):c 113 [x0] s=some (tidy s r):=hc.o0 F yh (by kernel_rfl) (by kernel_rfl) h
theorem CH(h:qF c F x0 s=some r):c 114 [x0] s=some (tidy s r):=hc.o0 F vH (by kernel_rfl) (by kernel_rfl) h
theorem D6(h:rY c F x0 x1 s=some r):c 115 [x0,x1] s=some (tidy s r):=hc.o1 F (pU c F) pT (by kernel_rfl) (by kernel_rfl) (λ_ _ _=>by kernel_rfl) (λ_ _ _ _=>by kernel_rfl) (by kernel_rfl) h
theorem P9(h:GQ c F x0 x1 x2 s=some r):c 122 [x0,x1,x2] s=some (tidy s r):=hc.o1 F (Cm c F) Ck (by kernel_rfl) (by kernel_rfl) (λ_ _ _=>by kernel_rfl) (λ_ _ _ _=>by kernel_rfl) (by kernel_rfl) h
theorem JJ(h:yO c F x0 x1 s=some r):c 128 [x0,x1] s=some (tidy s r):=hc.o0 F Cn (by kernel_rfl) (by kernel_rfl) h
end
end
section
open Go Go.Ai Go.Proofs
variable{c:ai}
def dS(i:Nat):List Nat:=[116,97+i % 26]
def br(i:Nat):List Nat:=[97+i / 26 % 26,97+i % 26]
theorem acz(hc:cr c)(i:Nat)(hi:i<1000000)(st:St)(hw:Wf st):c 113 [.int .i64 (i:Int)] st=some (.str (dS i),st):=by
 have hg:=Grew.af hw (.cells [.int .u8 116,.int .u8 (97+(i:Int) % 26)] 0);rw[Fh hc 1 (r:=(.str (dS i),af st (.cells [.int .u8 116,.int .u8 (97+(i:Int) % 26)] 0))),aF (Plain.str _) hg.keeps];rw[Ib];have w1:aq .i64 (97+(i:Int) % 26)=97+(i:Int) % 26:=wrap64 (by omega) (by omega);have w2:aq .u8 (97+(i:Int) % 26)=97+(i:Int) % 26:=yY (by omega) (by omega);have r1:=λ(s:St)(K:AV->St->Option (AV×St))=>bS (c:=c) (k:= .i64) (a:=(i:Int)) (b:=26) (by omega) (by omega) s K
 have two:=λ(s:St)(K:AV->St->Option (AV×St))=>TV (c:=c) (x:=116) (y:=97+(i:Int) % 26) 116 (97+i % 26) rfl (by omega) (by omega) (by omega) s K
 simp[-aO,r1,vn,w1,w2,two,dS]
theorem sP(hc:cr c)(i:Nat)(hi:i<1000000)(st:St)(hw:Wf st):c 114 [.int .i64 (i:Int)] st=some (.str (br i),st):=by
 have hg:=Grew.af hw (.cells [.int .u8 (97+(i:Int) / 26 % 26),.int .u8 (97+(i:Int) % 26)] 0);rw[CH hc 1 (r:=(.str (br i),af st (.cells [.int .u8 (97+(i:Int) / 26 % 26),.int .u8 (97+(i:Int) % 26)] 0))),aF (Plain.str _) hg.keeps];rw[Fb];have w1:aq .i64 (97+(i:Int) % 26)=97+(i:Int) % 26:=wrap64 (by omega) (by omega);have w2:aq .u8 (97+(i:Int) % 26)=97+(i:Int) % 26:=yY (by omega) (by omega);have w3:aq .i64 (97+(i:Int) / 26 % 26)=97+(i:Int) / 26 % 26:=wrap64 (by omega) (by omega);have w4:aq .u8 (97+(i:Int) / 26 % 26)=97+(i:Int) / 26 % 26:=yY (by omega) (by omega);have r1:=λ(s:St)(K:AV->St->Option (AV×St))=>bS (c:=c) (k:= .i64) (a:=(i:Int)) (b:=26) (by omega) (by omega) s K
 have r2:=λ(s:St)(K:AV->St->Option (AV×St))=>fD (c:=c) (a:=(i:Int)) (b:=26) (by omega) (by omega) (by omega) s K
 have r3:=λ(s:St)(K:AV->St->Option (AV×St))=>bS (c:=c) (k:= .i64) (a:=(i:Int) / 26) (b:=26) (by omega) (by omega) s K
 have two:=λ(s:St)(K:AV->St->Option (AV×St))=>TV (c:=c) (x:=97+(i:Int) / 26 % 26) (y:=97+(i:Int) % 26) (97+i / 26 % 26) (97+i % 26) (by omega) (by omega) (by omega) (by omega) s K
 simp[-aO,r1,r2,r3,vn,w1,w2,w3,w4,two,br]
def jF(sh a b:Int):Int:=if sh=2 then 2*a+b else if sh=3 then a+2*b else a
theorem Ct(hc:cr c){l:List AV}{sh a b:Int}(h1:l[1]? =some (.int .u8 sh))(h2:l[2]? =some (.int .i64 a))(h3:l[3]? =some (.int .i64 b))(ha:0<=a/\a<=1000000)(hb:0<=b/\b<=1000000)(st:St)(hw:Wf st):
   c 65 [.agg l] st=some (.int .i64 (jF sh a b),st):=by
 have hg:=Grew.af hw (.cells l 0);have p1:=aD st (.cells l 0);rw[Ff hc 1 (r:=(.int .i64 (jF sh a b),af st (.cells l 0))),aF (Plain.int _ _) hg.keeps];rw[H9];have w1:aq .i64 (2*a)=2*a:=wrap64 (by omega) (by omega);have w2:aq .i64 (2*b)=2*b:=wrap64 (by omega) (by omega);have w3:aq .i64 (2*a+b)=2*a+b:=wrap64 (by omega) (by omega);have w4:aq .i64 (a+2*b)=a+2*b:=wrap64 (by omega) (by omega);unfold jF;by_cases e2:sh=2
 .subst e2;simp[p1,h1,h2,h3,w1,w3]
 . by_cases e3:sh=3
   .subst e3;simp[p1,h1,h2,h3,w2,w4]
   .have d2:decide (sh=2)=false:=Za1 e2;have d3:decide (sh=3)=false:=Za1 e3;simp[p1,h1,h2,h3,e2,e3,d2,d3]
def Qa(i:Nat):List AV:=[.int .i64 (i:Int)]
def oG:List AV:=[.str [],.int .u8 0,.int .i64 0,.int .i64 0,.ah,.int .i64 0,.int .i64 0]
def eZ(nm:List Nat)(sh a b:Int)(x:Nat)(v:AV):List AV:=[.str nm,.int .u8 sh,.int .i64 a,.int .i64 b,v,.int .i64 (x:Int),.int .i64 (255 - (x:Int))]
def MM(x i:Nat):Bool:=decide (x / 2 ^ i % 2=1)&&decide (0<x % 3)
theorem adZ(x i:Nat):MM x i=(decide (x / 2 ^ i % 2=1)&&decide (0<x % 3)):=by rw[MM]
def xJ(x k:Nat):List Nat:=(List.range k).filter (MM x)
theorem Rj(x k:Nat):xJ x (k+1)=xJ x k++(if MM x k=true then [k]else []):=by
 unfold xJ;rw[Zi7,List.filter_append];congr 1;cases h:MM x k with
 |true=>simp[h]
 |false=>simp[h]
theorem UW(x k:Nat):(xJ x k).length<=k:=by have:=List.length_filter_le (MM x) (List.range k);rw[Zp2]at this;exact this
structure TI(st s:St)(p4 p5:Pos)(nm:List Nat)(sh a b:Int)(x k:Nat)(v:AV):Prop where
 out:Mk 1 st s v ((xJ x k).map Qa)
 h4:s.heap.get p4=some (.cells oG 0)
 h5:s.heap.get p5=some (.cells (eZ nm sh a b x v) 0)
 n4:bg v≠some p4
 n5:bg v≠some p5
theorem Ys(hc:cr c){nm:List Nat}{sh a b:Int}{x n:Nat}(ha:0<=a/\a<=1000000)(hb:0<=b/\b<=1000000)(hx:x<1000000)(hn:jF sh a b=(n:Int))(hn64:n<=64){st:St}{p4 p5:Pos}(h4:st.next.toNat<=p4.toNat)(h5:st.next.toNat<=p5.toNat)(Fi:p4≠p5)
  (F:Nat) (k3):∀(m k:Nat)(s:St)(v:AV),TI st s p4 p5 nm sh a b x k v->n<=k+m->k<=n->
  ∃s' v',TI st s' p4 p5 nm sh a b x n v'/\gC c F k3 (m+1) [.int .i64 (x:Int),.ptr p4 0,.ptr p5 0,.int .i64 (k:Int)] s=k3 [.ptr p4 0,.ptr p5 0] s':=by
 intro m;induction m with
 |zero=>
  intro k s v hT h1 h2;obtain rfl:k=n:=by omega
  refine⟨s,v,hT,?_⟩;have S:=Ct hc (l:=eZ nm sh a b x v) rfl rfl rfl ha hb s hT.out.ax.wf;have cu:cut (eZ nm sh a b x v) 0 7=some (eZ nm sh a b x v):=bV rfl;rw[hn]at S;rw[jX];simp[hT.h5,cu,S]
 |succ m ih=>
  intro k s v hT h1 h2;have hw:=hT.out.ax.wf;have S:=Ct hc (l:=eZ nm sh a b x v) rfl rfl rfl ha hb s hw;have cu:cut (eZ nm sh a b x v) 0 7=some (eZ nm sh a b x v):=bV rfl;rw[hn]at S;clear hn;by_cases h:k<n
  . have Ln:(0:Int)<=(x:Int):=Int.natCast_nonneg x;have w:aq .i64 ((k:Int)+1)=((k+1:Nat):Int):=wrap64 (by omega) (by omega);have sr:=λ(s:St)(K:AV->St->Option (AV×St))=>TU (c:=c) (a:=(x:Int)) (i:=k) (Zc8 h2 hn64) s K
    have p0:(0:Int)<=(x:Int) / 2 ^ k:=Zp9 Ln (Int.le_of_lt (Int.pow_pos (by omega)));have r1:=λ(s:St)(K:AV->St->Option (AV×St))=>bS (c:=c) (k:= .i64) (a:=(x:Int) / 2 ^ k) (b:=2) p0 (by decide) s K
    have r2:=λ(s:St)(K:AV->St->Option (AV×St))=>bS (c:=c) (k:= .i64) (a:=(x:Int)) (b:=3) Ln (by decide) s K
    have d1:decide ((x:Int) / 2 ^ k % 2=1)=decide (x / 2 ^ k % 2=1):=(by have:((x:Int) / 2 ^ k % 2=1)↔(x / 2 ^ k % 2=1):=(by rw[show((x:Int) / 2 ^ k % 2)=((x / 2 ^ k % 2:Nat):Int)by simp];omega);exact decide_eq_decide.2 this);have d2:decide (0<(x:Int) % 3)=decide (0<x % 3):=decide_eq_decide.2 (by omega);have c4:(eZ nm sh a b x v)[4]? =some v:=rfl;have hl:decide ((k:Int)<(n:Int))=true:=H5 (Int.ofNat_lt.2 h);have fin:=adZ x k;cases hq:MM x k with
    |   true=>
        have hrl:((xJ x k).map Qa).length<=64:=(by rw[Za9];have:=UW x k;omega);obtain⟨s5,v5,a1,a2,a3,a4⟩:=hT.out.push (c:=c) (R:=AV×St) (bytes:=8) (z:=[.int .i64 0]) (x:= .int .i64 (k:Int)) rfl rfl rfl (by decide) (by omega) (by omega);have e:(xJ x (k+1)).map Qa=(xJ x k).map Qa++[(.int .i64 (k:Int):AV).cells]:=(by rw[Rj,Za6 hq,Ze3];rfl);rw[<-e]at a2;have y4:=a3 p4 _ hT.n4 hT.h4;have y5:=a3 p5 _ hT.n5 hT.h5;have l4:=hw p4 _ hT.h4;have l5:=hw p5 _ hT.h5;have b4:bg v5≠some p4:=λe=>by have:=a4 _ e;omega
        have b5:bg v5≠some p5:=λe=>by have:=a4 _ e;omega
        have hw5:=a2.ax.wf;have l5':=hw5 p5 _ y5;have M:=a2.store (p:=p5) (b:= .cells (eZ nm sh a b x v5) 0) h5 l5' b5;obtain⟨vc,v1⟩:=a2.cells;have aM:∀(K:AV->St->Option (AV×St)),ak c (.store 1) [.ptr p5 4,v5] s5 K=K .undef (cI s5 p5 (.cells (eZ nm sh a b x v5) 0)):=λK=>by rw[dN c K s5 1 p5 4 v5 (eZ nm sh a b x v) y5 (by rw[vc];rfl) (by simp[eZ]) (by rw[vc];exact v1),vc];rfl
        have T5:TI st (cI s5 p5 (.cells (eZ nm sh a b x v5) 0)) p4 p5 nm sh a b x (k+1) v5:=⟨M,by rw[bt (λe=>Fi e.symm)];exact y4,dF _ _ _,b4,b5⟩
        obtain⟨s',v',b1,b2⟩:=ih (k+1) _ v5 T5 (by omega) (by omega);refine⟨s',v',b1,?_⟩;rw[<-b2,jX];rw[fin,Za8]at hq;simp[-aO,hT.h5,cu,S,h,fe,sr,r1,r2,d1,d2,hq.1,hq.2,c4,a1,aM,w]
    |   false=>
        have e:(xJ x (k+1))=(xJ x k):=(by rw[Rj,Za3 (by rw[hq];decide),Zf3]);obtain⟨s',v',b1,b2⟩:=ih (k+1) s v ⟨by rw[e];exact hT.out,hT.h4,hT.h5,hT.n4,hT.n5⟩ (by omega) (by omega);refine⟨s',v',b1,?_⟩;rw[<-b2,jX];rw[fin]at hq;cases g1:decide (x / 2 ^ k % 2=1)with
        |false=>simp[-aO,hT.h5,cu,S,h,fe,sr,r1,r2,d1,d2,g1,c4,w]
        |true=>
         rw[g1,Zf2]at hq;simp[-aO,hT.h5,cu,S,h,fe,sr,r1,r2,d1,d2,g1,hq,c4,w]
  .obtain rfl:k=n:=(by omega);refine⟨s,v,hT,?_⟩;rw[jX];simp[hT.h5,cu,S]
theorem jg(s:St)(cs:List AV)(o:Nat)(v:AV)(ho:o<cs.length)(h1:v.cells=[v])(h2:v.one=true)(K:AV->St->Option (AV×St)):ak c (.store 1) [.ptr s.next o,v] (af s (.cells cs 0)) K=K .undef (af s (.cells (cs.set o v) 0)):=by
 rw[dN c K (af s (.cells cs 0)) 1 s.next o v cs (aD _ _) (by rw[h1];rfl) (by omega) (by rw[h1];simp[aS,h2]),h1,sJ _ _ ho,Pd]
def kQ(x:Nat):Nat:=1+x % 4
def tA(x:Nat):Nat:=if x % 4=0 then 1+x / 4 % 6 else if x % 4=1 then 1+x / 4 % 3 else if x % 4=2 then 1+x / 4 % 2 else 1+x / 4 % 5
def tB(x:Nat):Nat:=if x % 4=0 then 0 else if x % 4=1 then x / 4 / 3 % 3 else if x % 4=2 then 1+x / 4 / 2 % 2 else min (1+x / 4 % 5) (x / 4 / 5 % 4)
def tN(x:Nat):Nat:=if x % 4=1 then 2*tA x+tB x else if x % 4=2 then tA x+2*tB x else tA x
theorem So(x:Nat):tA x<=6:=by unfold tA;split<;>(try split)<;>(try split)<;>omega
theorem Sp(x:Nat):tB x<=3:=by unfold tB;split<;>(try split)<;>(try split)<;>omega
theorem OG(x:Nat):tN x<=16:=by have:=So x;have:=Sp x;unfold tN;split<;>(try split)<;>omega
theorem Kz(x:Nat):jF ((kQ x:Nat):Int) ((tA x:Nat):Int) ((tB x:Nat):Int)=((tN x:Nat):Int):=by
 unfold jF tN kQ;by_cases h1:x % 4=1
 .rw[Za6 (by omega),Za6 h1];omega
 . by_cases h2:x % 4=2
   .rw[Za3 (by omega),Za6 (by omega),Za3 h1,Za6 h2];omega
   .rw[Za3 (by omega),Za3 (by omega),Za3 h1,Za3 h2]
theorem acA(hc:cr c)(i x:Nat)(hi:i<1000000)(hx:x<256)(st:St)(hw:Wf st):∃v s',c 64 [.int .i64 (i:Int),.int .i64 (x:Int)] st=some (.agg (eZ (dS i) (kQ x:Nat) (tA x:Nat) (tB x:Nat) x v),s')/\Mk 1 st s' v ((xJ x (tN x)).map Qa):=by
 have cX:Wf (af st (.cells oG 0)):=bL hw;have g1:=Grew.af hw (.cells oG 0);have W:=acz hc i hi (af st (.cells oG 0)) cX;have hA:=So x;have hB:=Sp x;have hN:=OG x;have g2:=Grew.af cX (.cells (eZ (dS i) (kQ x:Nat) (tA x:Nat) (tB x:Nat) x .ah) 0);have x1:(af (af st (.cells oG 0)) (.cells (eZ (dS i) (kQ x:Nat) (tA x:Nat) (tB x:Nat) x .ah) 0)).heap.get st.next=some (.cells oG 0):=g2.get (aD _ _);have x2:(af (af st (.cells oG 0)) (.cells (eZ (dS i) (kQ x:Nat) (tA x:Nat) (tB x:Nat) x .ah) 0)).heap.get (af st (.cells oG 0)).next=some (.cells (eZ (dS i) (kQ x:Nat) (tA x:Nat) (tB x:Nat) x .ah) 0):=aD _ _;have n12:st.next≠(af st (.cells oG 0)).next:=by rw[dz];exact Pos.Pe _
 have T0:TI st (af (af st (.cells oG 0)) (.cells (eZ (dS i) (kQ x:Nat) (tA x:Nat) (tB x:Nat) x .ah) 0)) st.next (af st (.cells oG 0)).next (dS i) (kQ x:Nat) (tA x:Nat) (tB x:Nat) x 0 .ah:=
   ⟨Mk.start hw (g1.trans g2),x1,x2,λe=>(nomatch e),λe=>(nomatch e)⟩
 obtain⟨s',v,hT,L⟩:=Ys hc (n:=tN x) (by omega) (by omega) (by omega) (Kz x) (by omega) (p4:=st.next) (p5:=(af st (.cells oG 0)).next) (Za5 _) (by rw[dz,Pos.aB];omega) n12 (tN x+1)
   (λvs s96=>ju vs λx4 vs=>ju vs λx5 vs=>qd vs (ak c (.load (some 7)) [x5] s96 λx86 s97=>ak c (.store 7) [x4,x86] s97 λ_ s98=>Wh (some 7) x4 s98 λv99=>some (v99,s98))) (tN x) 0 (af (af st (.cells oG 0)) (.cells (eZ (dS i) (kQ x:Nat) (tA x:Nat) (tB x:Nat) x .ah) 0)) .ah T0 (by omega) (by omega)
 have M:=hT.out;obtain⟨vc,v1⟩:=M.cells;have one:aS (eZ (dS i) (kQ x:Nat) (tA x:Nat) (tB x:Nat) x v)=true:=by
   simp only[aS]at v1;unfold eZ;simp only[aS,AV.one,v1,Zj4,Zl5]at*
 have hcut:cut (eZ (dS i) (kQ x:Nat) (tA x:Nat) (tB x:Nat) x v) 0 7=some (eZ (dS i) (kQ x:Nat) (tA x:Nat) (tB x:Nat) x v):=bV rfl;have iy:∀(K:AV->St->Option (AV×St)),ak c (.store 7) [.ptr st.next 0,.agg (eZ (dS i) (kQ x:Nat) (tA x:Nat) (tB x:Nat) x v)] s' K=K .undef (cI s' st.next (.cells (eZ (dS i) (kQ x:Nat) (tA x:Nat) (tB x:Nat) x v) 0)):=λK=>by rw[dN c K s' 7 st.next 0 (.agg (eZ (dS i) (kQ x:Nat) (tA x:Nat) (tB x:Nat) x v)) _ hT.h4 rfl (by simp[oG]) one];rfl
 have M2:=M.store (p:=st.next) (b:= .cells (eZ (dS i) (kQ x:Nat) (tA x:Nat) (tB x:Nat) x v) 0) (Za5 _) (M.ax.wf _ _ hT.h4) hT.n4;have mem:v∈eZ (dS i) (kQ x:Nat) (tA x:Nat) (tB x:Nat) x v:=by simp[eZ]
 have low:∀y∈dS i,y<256:=by intro y hy;simp[dS]at hy;omega
 obtain⟨ij,t1,_,t3⟩:=M2.Gd mem (λu hu=>by simp only[eZ,Zb0,Ze6,Zi9]at hu;rcases hu with rfl|rfl|rfl|rfl|rfl|rfl|rfl<;>first|exact ia.str low|exact ia.int _ _|exact M.inst);refine⟨v,ij,?_,t3⟩;rw[D4 hc (tN x+1) (r:=(.agg (eZ (dS i) (kQ x:Nat) (tA x:Nat) (tB x:Nat) x v),cI s' st.next (.cells (eZ (dS i) (kQ x:Nat) (tA x:Nat) (tB x:Nat) x v) 0))),t1];have L2:gC c (tN x+1) (λvs s96=>ju vs λx4 vs=>ju vs λx5 vs=>qd vs (ak c (.load (some 7)) [x5] s96 λx86 s97=>ak c (.store 7) [x4,x86] s97 λ_ s98=>Wh (some 7) x4 s98 λv99=>some (v99,s98))) (tN x+1) [.int .i64 (x:Int),.ptr st.next 0,.ptr (af st (.cells oG 0)).next 0,.int .i64 0] (af (af st (.cells oG 0)) (.cells (eZ (dS i) (kQ x:Nat) (tA x:Nat) (tB x:Nat) x .ah) 0))=some (.agg (eZ (dS i) (kQ x:Nat) (tA x:Nat) (tB x:Nat) x v),cI s' st.next (.cells (eZ (dS i) (kQ x:Nat) (tA x:Nat) (tB x:Nat) x v) 0)):=by
   rw[show(0:Int)=((0:Nat):Int)from rfl,L];simp[hT.h5,hcut,iy]
 generalize hF:tN x+1=F at L2 ⊢;clear hF L hT M2 iy T0 x1 x2 g2;have q1:=λ(s:St)(K:AV->St->Option (AV×St))=>bS (c:=c) (k:= .i64) (a:=(x:Int)) (b:=4) (by omega) (by omega) s K
 have q2:=λ(s:St)(K:AV->St->Option (AV×St))=>fD (c:=c) (a:=(x:Int)) (b:=4) (by omega) (by omega) (by omega) s K
 have q3:=λ(n:Int)(hn:0<n)(s:St)(K:AV->St->Option (AV×St))=>bS (c:=c) (k:= .i64) (a:=(x:Int) / 4) (b:=n) (by omega) hn s K
 have w1:aq .i64 (1+(x:Int) % 4)=1+(x:Int) % 4:=wrap64 (by omega) (by omega);have w2:aq .u8 (1+(x:Int) % 4)=1+(x:Int) % 4:=yY (by omega) (by omega);have w3:aq .i64 (255 - (x:Int))=255 - (x:Int):=wrap64 (by omega) (by omega);have al:∀(s:St)(K:AV->St->Option (AV×St)),ak c (.alloc [.str [],.int .u8 0,.int .i64 0,.int .i64 0,.ah,.int .i64 0,.int .i64 0]) [] s K=K (.ptr s.next 0) (af s (.cells oG 0)):=λs K=>rfl
 have W9:∀(nm:List Nat)(sh u y:Int)(s:St)(K:AV->St->Option (AV×St)),ak c (.build [.str [],.int .u8 0,.int .i64 0,.int .i64 0,.ah,.int .i64 0,.int .i64 0] [(0,1),(1,1),(5,1),(6,1)]) [.str nm,.int .u8 sh,.int .i64 u,.int .i64 y] s K=K (.agg [.str nm,.int .u8 sh,.int .i64 0,.int .i64 0,.ah,.int .i64 u,.int .i64 y]) s:=λnm sh u y s K=>rfl
 have Fj:∀(nm:List Nat)(sh u y:Int)(s:St)(K:AV->St->Option (AV×St)),ak c (.store 7) [.ptr s.next 0,.agg [.str nm,.int .u8 sh,.int .i64 0,.int .i64 0,.ah,.int .i64 u,.int .i64 y]] (af s (.cells oG 0)) K=K .undef (af s (.cells [.str nm,.int .u8 sh,.int .i64 0,.int .i64 0,.ah,.int .i64 u,.int .i64 y] 0)):=λnm sh u y s K=>cv c K s 7 (.agg [.str nm,.int .u8 sh,.int .i64 0,.int .i64 0,.ah,.int .i64 u,.int .i64 y]) oG rfl rfl rfl
 have Yt:∀(nm:List Nat)(sh p q u y z:Int)(s:St)(K:AV->St->Option (AV×St)),ak c (.store 1) [.ptr s.next 2,.int .i64 z] (af s (.cells [.str nm,.int .u8 sh,.int .i64 p,.int .i64 q,.ah,.int .i64 u,.int .i64 y] 0)) K=K .undef (af s (.cells [.str nm,.int .u8 sh,.int .i64 z,.int .i64 q,.ah,.int .i64 u,.int .i64 y] 0)):=λnm sh p q u y z s K=>jg s _ 2 (.int .i64 z) (by simp) rfl rfl K
 have Yu:∀(nm:List Nat)(sh p q u y z:Int)(s:St)(K:AV->St->Option (AV×St)),ak c (.store 1) [.ptr s.next 3,.int .i64 z] (af s (.cells [.str nm,.int .u8 sh,.int .i64 p,.int .i64 q,.ah,.int .i64 u,.int .i64 y] 0)) K=K .undef (af s (.cells [.str nm,.int .u8 sh,.int .i64 p,.int .i64 z,.ah,.int .i64 u,.int .i64 y] 0)):=λnm sh p q u y z s K=>jg s _ 3 (.int .i64 z) (by simp) rfl rfl K
 rw[GN];simp only[al];generalize (af st (.cells oG 0))=s1 at W cX L2 n12;have a1:aq .i64 1=1:=rfl;have h4:x % 4=0\/x % 4=1\/x % 4=2\/x % 4=3:=by omega
 rcases h4 with h|h|h|h
 .have e4:(x:Int) % 4=0:=(by omega);have eS:((kQ x:Nat):Int)=1:=(by unfold kQ;omega);have eA:((tA x:Nat):Int)=1+(x:Int) / 4 % 6:=(by unfold tA;rw[Za6 h];omega);have eB:((tB x:Nat):Int)=0:=(by unfold tB;rw[Za6 h];rfl);simp only[eZ,eS,eA,eB]at L2 ⊢;simp (disch:=omega) [-aO,-iJ,-kq,-eX,W9,Fj,Yt,Yu,W,bS,fD,e4,vn,wrap64,yY,fe,Zb2,L2]
 .have e4:(x:Int) % 4=1:=(by omega);have eS:((kQ x:Nat):Int)=2:=(by unfold kQ;omega);have eA:((tA x:Nat):Int)=1+(x:Int) / 4 % 3:=(by unfold tA;rw[Za3 (by omega),Za6 h];omega);have eB:((tB x:Nat):Int)=(x:Int) / 4 / 3 % 3:=(by unfold tB;rw[Za3 (by omega),Za6 h];omega);simp only[eZ,eS,eA,eB]at L2 ⊢;simp (disch:=omega) [-aO,-iJ,-kq,-eX,W9,Fj,Yt,Yu,W,bS,fD,e4,vn,wrap64,yY,fe,Zb2,L2]
 .have e4:(x:Int) % 4=2:=(by omega);have eS:((kQ x:Nat):Int)=3:=(by unfold kQ;omega);have eA:((tA x:Nat):Int)=1+(x:Int) / 4 % 2:=(by unfold tA;rw[Za3 (by omega),Za3 (by omega),Za6 h];omega);have eB:((tB x:Nat):Int)=1+(x:Int) / 4 / 2 % 2:=(by unfold tB;rw[Za3 (by omega),Za3 (by omega),Za6 h];omega);simp only[eZ,eS,eA,eB]at L2 ⊢;simp (disch:=omega) [-aO,-iJ,-kq,-eX,W9,Fj,Yt,Yu,W,bS,fD,e4,vn,wrap64,yY,fe,Zb2,L2]
 . have e4:(x:Int) % 4=3:=(by omega);have eS:((kQ x:Nat):Int)=4:=(by unfold kQ;omega);have eA:((tA x:Nat):Int)=1+(x:Int) / 4 % 5:=(by unfold tA;rw[Za3 (by omega),Za3 (by omega),Za3 (by omega)];omega);obtain⟨mb,hmb⟩:∃mb:Int,mb=min (1+(x:Int) / 4 % 5) ((x:Int) / 4 / 5 % 4):=⟨_,rfl⟩
   have abl:∀(s:St)(K:AV->St->Option (AV×St)),ak c .minB [.int .i64 (1+(x:Int) / 4 % 5),.int .i64 ((x:Int) / 4 / 5 % 4)] s K=K (.int .i64 mb) s:=λs K=>by rw[hmb];exact Wu c K s _ _ _ _
   have eB:((tB x:Nat):Int)=mb:=(by rw[hmb];unfold tB;rw[Za3 (by omega),Za3 (by omega),Za3 (by omega)];omega);clear hmb;simp only[eZ,eS,eA,eB]at L2 ⊢;simp (disch:=omega) [-aO,-iJ,-kq,-eX,-Wu,abl,W9,Fj,Yt,Yu,W,bS,fD,e4,vn,wrap64,yY,fe,Zb2,L2]
theorem zL{R:Type}(K:AV->Option R){b:Pos}{off len es es':Nat}{cap:Option Nat}{k:IntKind}{i:Nat}(h:i<len):dQ (.idxA es none) [.slice b off len cap es',.int k (i:Int)] K=K (.ptr b (off+i*es)):=
 bZ K (λH n=>by
  simp only[ay.run,mK,iE];have:Nat.blt i len=true:=by rw[Zo8];exact h
  rw[this])
theorem UX{es:Nat}{s:St}{v:AV}{rows:List (List AV)}(h:QS es s v rows)(hr:∀r∈rows,r.length=es){i:Nat}(hi:i<rows.length):
   ∃b off cap cs,v= .slice b off rows.length cap es/\s.heap.get b=some (.cells cs 0)/\∀j u,rows[i][j]? =some u->cs[off+i*es+j]? =some u:=by
 rcases h with⟨rfl,rfl⟩|⟨b,off,cap,cs,rfl,g1,g2,g3,g4⟩|⟨b,off,rfl,rfl⟩
 .simp at hi
 rotate_left
 .simp at hi
 . (refine⟨b,off,cap,cs,rfl,g1,λj u hj=> ?_⟩;have Z8:j<es:=(by rw[<-hr _ (Zb9 hi)];exact(Za0.1 hj).1);have:=Go.Ai.yF hr i j rows[i] u (H4 hi) hj;rw[<-g3]at this;have aN:i*es+j<rows.length*es:=by have:(i+1)*es<=rows.length*es:=Zf9 _ hi;rw[Zh2]at this;omega);rw[Zc0,Za6 aN,Zc6]at this;rw[<-this];congr 1;omega
theorem Yv(hc:cr c){s:St}{V W:AV}{rows:List (List AV)}(h:QS 9 s V rows)(hr:∀r∈rows,r.length=9){names:List (List Nat)}(hlen:names.length=rows.length)(hn:∀(i:Nat)(h1:i<rows.length)(h2:i<names.length),rows[i][0]? =some (.str names[i]))(adf:rows.length<=1000)
  {q:Pos} (hq:s.heap.get q=some (.cells [V,W] 0)) (x:Nat) (hx:x<1000000) (hw:Wf s) (F:Nat) (k1 k2):∀(m k f:Nat),m<f->k+m=rows.length->br x∉names.take k->
  iR c F k1 k2 f [.int .i64 (x:Int),.ptr q 0,.int .i64 (k:Int)] s=if br x∈names then k1 [.bool true] s else k2 [] s:=by
 intro m;have N:=sP hc x hx s hw;have cu:∀j:Nat,(cellsOf (s.heap.get q)).bind (λcs=>cs[0]?)=some V:=λ_=>by rw[hq];rfl
 induction m with
 |zero=>
  intro k f hf h1 j4;obtain⟨f,rfl⟩:∃g,f=g+1:=⟨f - 1,by omega⟩
  obtain rfl:k=rows.length:=by omega
  rw[<-hlen,Zi4]at j4;rw[Za3 j4,mJ];have lI:=λ(K:AV->St->Option (AV×St))=>h.lenB (c:=c) K s
  simp[hq,lI]
 |succ m ih=>
  intro k f hf h1 j4;obtain⟨f,rfl⟩:∃g,f=g+1:=⟨f - 1,by omega⟩
  have hk:k<rows.length:=by omega
  have kI:k<names.length:=by omega
  have lI:=λ(K:AV->St->Option (AV×St))=>h.lenB (c:=c) K s
  have w:aq .i64 ((k:Int)+1)=((k+1:Nat):Int):=wrap64 (by omega) (by omega);obtain⟨b,off,cap,cs,e,g1,g2⟩:=UX h hr hk;have nm:=g2 0 _ (hn k hk kI);have hb:=h.beq;have r1:=λ(K:AV->Option (AV×St))=>yE K (o:=0) (v:=V) (h:=s.heap) (h2:=s.heap) (p:=q) (by rw[hq];rfl) (by rw[hq];rfl) hb
  have r2:=λ(K:AV->Option (AV×St))=>yE K (o:=off+k*9) (v:= .str names[k]) (h:=s.heap) (h2:=s.heap) (p:=b) (by rw[g1];exact nm) (by rw[g1];exact nm) (by simp[e9,kO,gq,kD.2 rfl])
  have ix:=λ(K:AV->Option (AV×St))=>zL K (b:=b) (off:=off) (es:=9) (es':=9) (cap:=cap) (k:= .i64) hk
  rw[<-e]at ix;by_cases heq:names[k]=br x
  .have mem:br x∈names:=(by rw[<-heq];exact Zb9 kI);rw[Za6 mem,mJ];simp[hq,lI,hk,N,r1,r2,ix,heq]
  . have hno2:br x∉names.take (k+1):=by
        rw[Zc9 kI,Zd6,Zd3];rintro(h|h)
        .exact j4 h
        .exact heq h.symm
    rw[<-ih (k+1) f (by omega) (by omega) hno2,mJ];have d:decide (names[k]=br x)=false:=Za1 heq;simp[hq,lI,hk,N,r1,r2,ix,heq,d,w]
theorem acB(hc:cr c){s:St}{V W:AV}{rows:List (List AV)}(h:QS 9 s V rows)(hr:∀r∈rows,r.length=9){names:List (List Nat)}(hlen:names.length=rows.length)(hn:∀(i:Nat)(h1:i<rows.length)(h2:i<names.length),rows[i][0]? =some (.str names[i]))(adf:rows.length<=1000)
   (x:Nat) (hx:x<1000000) (hw:Wf s):c 115 [.agg [V,W],.int .i64 (x:Int)] s=some (.bool (decide (br x∈names)),s):=by
 have hg:=Grew.af hw (.cells [V,W] 0);have h2:QS 9 (af s (.cells [V,W] 0)) V rows:=h.mono λb y _ hy=>hg.get hy
 have L:=Yv hc h2 hr hlen hn adf (aD s (.cells [V,W] 0)) x hx (bL hw) (rows.length+1) (λvs s13=>ju vs λx4 vs=>qd vs (some (x4,s13))) (λvs s14=>qd vs (ak c .move [.bool false] s14 λx4 s15=>some (x4,s15))) rows.length 0 (rows.length+1) (by omega) (by omega) (by simp);rw[D6 hc (rows.length+1) (r:=(.bool (decide (br x∈names)),af s (.cells [V,W] 0))),aF (Plain.bool _) hg.keeps];rw[GP];by_cases hm:br x∈names
 .rw[Za6 hm]at L;simp at L;simp[L,hm]
 .rw[Za3 hm]at L;simp at L;simp[L,hm]
end
section
open Go Go.Ai Go.Proofs
def kK(gs:List aK)(i:Nat):List Nat:=match gs[i]? with|some g=>g.name|none=>[]
def zM(gs:List aK)(i:Nat):List Nat:=match gs[i]? with|some g=>g.lq|none=>[]
def r9(ts:List aU)(i:Nat):List Nat:=match ts[i]? with|some t=>t.name|none=>[]
def vK(ts:List aU)(i:Nat):Int:=match ts[i]? with|some t=>jF t.sh t.a t.b|none=>0
def GU(ts:List aU)(gs:List aK)(k wt a b t n z:Nat):Rl×Bool:=
 if k=1\/k=2\/k=3\/k=4\/k=5 then(⟨k,wt,kK gs a,kK gs b,[],if k=4 then((n+1:Nat):Int)else if k=1 then(n:Int)else 0⟩,decide (a≠b))
 else if k=6\/k=7 then(⟨k,wt,kK gs a,[],r9 ts t,if k=7 then((z / 13:Nat):Int) % vK ts t else 0⟩,true)
 else if k=10 then(⟨k,wt,if z % 3=0 then kK gs a else [],[],[],0⟩,true)
 else if k=17 then(⟨k,wt,zM gs a,[],r9 ts t,0⟩,decide (zM gs a≠[]))
 else(⟨k,wt,[],[],if 0<z % 3 then r9 ts t else [],if k=15\/k=16 then(n:Int)else 0⟩,true)
def JK(y:Nat):Nat:=if 1<y % 5 then 1+y % 7 else 0
def fj(ts:List aU)(gs:List aK)(x:Nat):Rl×Bool:=
 if gs.length=0\/ts.length=0 then(⟨((1+x % 18:Nat):Int),(JK (x / 18):Int),[],[],[],0⟩,false)
 else GU ts gs (1+x % 18) (JK (x / 18)) (x / 18 / 5 % gs.length) (x / 18 / 5 / gs.length % gs.length) (x / 18 / 5 / 7 % ts.length) (x / 18 / 5 / 11 % 4) (x / 18 / 5)
theorem Qb(i:Nat):eJ (br i)=true:=by unfold eJ br;have h1:i / 26 % 26<26:=Zi1 _ (by omega);have h2:i % 26<26:=Zi1 _ (by omega);simp;omega
variable{c:ai}
theorem Rk{cs row:List AV}{o n:Nat}(hl:row.length=n)(h0:0<n)(h:∀(j:Nat)(u:AV),row[j]? =some u->cs[o+j]? =some u):cut cs o n=some row:=by
 have h1:=h (n - 1) row[n - 1] (H4 (by omega));have h2:=(Za0.1 h1).1;unfold cut;have:Nat.ble (o+n) cs.length=true:=by rw[Nat.ble_eq];omega
 rw[this];simp only;congr 1;refine Zi0 λi=> ?_
 rw[Zc0];split
 .rename_i hi;rw[Zc6,h i _ (H4 (by omega)),H4 (by omega)]
 .rw[Zb4 (by omega)]
theorem TS.row{s0 s:St}{V:AV}{ts:List aU}{rows:List (List AV)}(h:TS s0 s V ts rows){i:Nat}(hi:i<ts.length):
   ∃b off cap cs v,V= .slice b off rows.length cap 7/\s.heap.get b=some (.cells cs 0)/\cut cs (off+i*7) 7=some (ts[i].aA v)/\cs[off+i*7]? =some (.str ts[i].name):=by
 have hr:i<rows.length:=by rw[h.len];exact hi
 obtain⟨b,off,cap,cs,e,g1,g2⟩:=UX h.out.own h.out.row hr;obtain⟨v,e1,_,_⟩:=h.rV i ts[i] rows[i] (H4 hi) (H4 hr);refine⟨b,off,cap,cs,v,e,g1,?_,?_⟩
 .rw[<-e1];exact Rk (h.out.row _ (Zb9 hr)) (by omega) g2
 . have:=g2 0 (.str ts[i].name) (by rw[e1];rfl)
   rwa [Zg6]at this
theorem GS.row{s0 s:St}{V:AV}{gs:List aK}{rows:List (List AV)}(h:GS s0 s V gs rows){i:Nat}(hi:i<gs.length):
   ∃b off cap cs v,V= .slice b off rows.length cap 9/\s.heap.get b=some (.cells cs 0)/\cut cs (off+i*9) 9=some (gs[i].aA v)/\cs[off+i*9]? =some (.str gs[i].name)/\cs[off+i*9+5]? =some (.str gs[i].lq):=by
 have hr:i<rows.length:=by rw[h.len];exact hi
 obtain⟨b,off,cap,cs,e,g1,g2⟩:=UX h.out.own h.out.row hr;obtain⟨v,e1,_,_⟩:=h.rV i gs[i] rows[i] (H4 hi) (H4 hr);refine⟨b,off,cap,cs,v,e,g1,?_,?_,?_⟩
 .rw[<-e1];exact Rk (h.out.row _ (Zb9 hr)) (by omega) g2
 . have:=g2 0 (.str gs[i].name) (by rw[e1];rfl)
   rwa [Zg6]at this
 .exact g2 5 (.str gs[i].lq) (by rw[e1];rfl)
theorem QS.adg{R:Type}{es:Nat}{s:St}{v:AV}{rows:List (List AV)}(h:QS es s v rows)(K:AV->Option R):dQ (.lenB .l) [v] K=K (.int .i64 (rows.length:Int)):=by
 rcases h with⟨rfl,rfl⟩|⟨b,off,cap,cs,rfl,_⟩|⟨b,off,rfl,rfl⟩<;>exact bZ K (λH n=>rfl)
abbrev eu(k w:Int)(a b t:List Nat)(n:Int):List AV:=[.int .u8 k,.int .i64 w,.str a,.str b,.str t,.int .i64 n]
theorem ad0(k w n w':Int)(a b t:List Nat)(s:St)(K:AV->St->Option (AV×St)):ak c (.store 1) [.ptr s.next 1,.int .i64 w'] (af s (.cells (eu k w a b t n) 0)) K=K .undef (af s (.cells (eu k w' a b t n) 0)):=jg s _ 1 (.int .i64 w') (by simp) rfl rfl K
theorem Xa(k w n:Int)(a b t u:List Nat)(s:St)(K:AV->St->Option (AV×St)):ak c (.store 1) [.ptr s.next 2,.str u] (af s (.cells (eu k w a b t n) 0)) K=K .undef (af s (.cells (eu k w u b t n) 0)):=jg s _ 2 (.str u) (by simp) rfl rfl K
theorem ad1(k w n:Int)(a b t u:List Nat)(s:St)(K:AV->St->Option (AV×St)):ak c (.store 1) [.ptr s.next 3,.str u] (af s (.cells (eu k w a b t n) 0)) K=K .undef (af s (.cells (eu k w a u t n) 0)):=jg s _ 3 (.str u) (by simp) rfl rfl K
theorem Xb(k w n:Int)(a b t u:List Nat)(s:St)(K:AV->St->Option (AV×St)):ak c (.store 1) [.ptr s.next 4,.str u] (af s (.cells (eu k w a b t n) 0)) K=K .undef (af s (.cells (eu k w a b u n) 0)):=jg s _ 4 (.str u) (by simp) rfl rfl K
theorem Bg(k w n n':Int)(a b t:List Nat)(s:St)(K:AV->St->Option (AV×St)):ak c (.store 1) [.ptr s.next 5,.int .i64 n'] (af s (.cells (eu k w a b t n) 0)) K=K .undef (af s (.cells (eu k w a b t n') 0)):=jg s _ 5 (.int .i64 n') (by simp) rfl rfl K
theorem aeE{ts:List aU}(h:∀t∈ts,0<jF t.sh t.a t.b/\jF t.sh t.a t.b<=1000){t:Nat}(ht:t<ts.length):vK ts t=jF ts[t].sh ts[t].a ts[t].b/\0<vK ts t/\vK ts t<=1000:=by
 have e:vK ts t=jF ts[t].sh ts[t].a ts[t].b:=by unfold vK;rw[H4 ht]
 rw[e];exact⟨rfl,h _ (Zb9 ht)⟩
theorem acC (hc : cr c){s0 s:St}{V1 V2 V3 V4 V5:AV}{ts:List aU}{gs:List aK}{r1 r2:List (List AV)}(hT:TS s0 s V1 ts r1)(hG:GS s0 s V2 gs r2)(lt:ts.length<=1000)(lg:gs.length<=1000)
   (hz:∀t∈ts,0<jF t.sh t.a t.b/\jF t.sh t.a t.b<=1000) (ha:∀t∈ts,(0<=t.a/\t.a<=1000000)/\0<=t.b/\t.b<=1000000) (x:Nat) (hx:x<4294967296):
   c 67 [.agg [V1,V2,V3,V4,V5],.int .i64 (x:Int)] s=some (.tuple [.agg (fj ts gs x).1.cells,.bool (fj ts gs x).2],s):=by
 have hw:=hT.out.ax.wf;have plain:∀(r:Rl)(b:Bool),Plain (.tuple [.agg r.cells,.bool b]):=λr b=>Plain.tuple λv hv=>by
   simp only[Zb0,Ze6,Zi9]at hv;rcases hv with rfl|rfl
   .exact Plain.agg λv hv=>by simp only[Rl.cells,Zb0,Ze6,Zi9]at hv;rcases hv with rfl|rfl|rfl|rfl|rfl|rfl<;>first|exact Plain.int _ _|exact Plain.str _
   .exact Plain.bool _
 suffices key:∃s',iP c 1 (.agg [V1,V2,V3,V4,V5]) (.int .i64 (x:Int)) s=some (.tuple [.agg (fj ts gs x).1.cells,.bool (fj ts gs x).2],s')/\bu s s' by
   obtain⟨s',k1,k2⟩:=key;rw[D5 hc 1 (r:=(.tuple [.agg (fj ts gs x).1.cells,.bool (fj ts gs x).2],s')) k1,aF (plain _ _) k2]
 have cX:Wf (af s (.cells [V1,V2,V3,V4,V5] 0)):=bL hw;have g1:=Grew.af hw (.cells [V1,V2,V3,V4,V5] 0);have nZ:Wf (af (af s (.cells [V1,V2,V3,V4,V5] 0)) (.cells (eu 0 0 [] [] [] 0) 0)):=bL cX;have g2:=Grew.af cX (.cells (eu 0 0 [] [] [] 0) 0);have g12:=g1.trans g2;obtain⟨s2,zu⟩:∃s2,s2=af (af s (.cells [V1,V2,V3,V4,V5] 0)) (.cells (eu 0 0 [] [] [] 0) 0):=⟨_,rfl⟩
 obtain⟨p4,hp4⟩:∃p4,p4=(af s (.cells [V1,V2,V3,V4,V5] 0)).next:=⟨_,rfl⟩
 have acD:Wf s2:=by rw[zu];exact nZ
 have Yw:Grew s s2:=by rw[zu];exact g12
 have b2:s2.heap.get s.next=some (.cells [V1,V2,V3,V4,V5] 0):=by rw[zu];exact g2.get (aD _ _)
 have b4:s2.heap.get p4=some (.cells (eu 0 0 [] [] [] 0) 0):=by rw[zu,hp4];exact aD _ _
 have n4:s.next.toNat<p4.toNat:=by rw[hp4,dz,Pos.aB];omega
 have n6:p4.toNat<s2.next.toNat:=acD _ _ b4;have gS:∀b:AB,Grew s2 (af s2 b):=λb=>Grew.af acD b
 have hP:∀b:AB,(af s2 b).heap.get s.next=some (.cells [V1,V2,V3,V4,V5] 0):=λb=>(gS b).get b2
 have hX:∀b:AB,(af s2 b).heap.get p4=some (.cells (eu 0 0 [] [] [] 0) 0):=λb=>(gS b).get b4
 have fin:∀(k w n:Int)(a b t:List Nat)(K:AV->St->Option (AV×St)),ak c (.store 6) [.ptr p4 0,.agg (eu k w a b t n)] (af s2 (.cells (eu k w a b t n) 0)) K=K .undef (cI (af s2 (.cells (eu k w a b t n) 0)) p4 (.cells (eu k w a b t n) 0)):=λk w n a b t K=>by rw[dN c K _ 6 p4 0 (.agg (eu k w a b t n)) _ (hX _) rfl (by simp) rfl];rfl
 have kp:∀(k w n:Int)(a b t:List Nat),bu s (cI (af s2 (.cells (eu k w a b t n) 0)) p4 (.cells (eu k w a b t n) 0)):=λk w n a b t q y hq=>by have:=hw _ _ hq;rw[bt (λe=>by subst e;omega)];exact(Yw.trans (gS _)).get hq
 have cu:∀(k w n:Int)(a b t:List Nat),cut (eu k w a b t n) 0 6=some (eu k w a b t n):=λk w n a b t=>bV rfl
 obtain⟨Q,hQ⟩:∃Q:Option (AV×St)->Prop,Q=λo=>∃s',o=some (.tuple [.agg (fj ts gs x).1.cells,.bool (fj ts gs x).2],s')/\bu s s':=⟨_,rfl⟩
 have yP:∀(k w n:Int)(a b t:List Nat)(bb:Bool),(⟨k,w,a,b,t,n⟩:Rl)=(fj ts gs x).1->bb=(fj ts gs x).2->Q (some (.tuple [.agg (eu k w a b t n),.bool bb],cI (af s2 (.cells (eu k w a b t n) 0)) p4 (.cells (eu k w a b t n) 0))):=λk w n a b t bb h1 h2=>by
   rw[hQ];exact⟨_,by rw[<-h1, <-h2];rfl,kp _ _ _ _ _ _⟩
 have OH:Q (iP c 1 (.agg [V1,V2,V3,V4,V5]) (.int .i64 (x:Int)) s)->∃s',iP c 1 (.agg [V1,V2,V3,V4,V5]) (.int .i64 (x:Int)) s=some (.tuple [.agg (fj ts gs x).1.cells,.bool (fj ts gs x).2],s')/\bu s s':=λh=>by rw[hQ]at h;exact h
 apply OH;clear OH;obtain⟨r,hr⟩:∃r:Nat,r=x % 18:=⟨_,rfl⟩
 obtain⟨k,hk⟩:∃k:Nat,k=1+x % 18:=⟨_,rfl⟩
 obtain⟨y,hy⟩:∃y:Nat,y=x / 18:=⟨_,rfl⟩
 obtain⟨y5,hy5⟩:∃y5:Nat,y5=y % 5:=⟨_,rfl⟩
 obtain⟨y7,hy7⟩:∃y7:Nat,y7=y % 7:=⟨_,rfl⟩
 obtain⟨z,hz5⟩:∃z:Nat,z=y / 5:=⟨_,rfl⟩
 obtain⟨w,UY⟩:∃w:Nat,w=JK y:=⟨_,rfl⟩
 have E1:(x:Int) % 18=(r:Int):=by omega
 have W1:aq .i64 (1+(r:Int))=(k:Int):=(wrap64 (by omega) (by omega)).trans (by omega);have W8:aq .u8 (k:Int)=(k:Int):=yY (by omega) (by omega);have E2:(x:Int) / 18=(y:Int):=by omega
 have E3:(y:Int) % 5=(y5:Int):=by omega
 have E4:(y:Int) % 7=(y7:Int):=by omega
 have W2:aq .i64 (1+(y7:Int))=1+(y7:Int):=wrap64 (by omega) (by omega);have E5:(y:Int) / 5=(z:Int):=by omega
 obtain⟨g,hg⟩:∃g,g=gs.length:=⟨_,rfl⟩
 obtain⟨T,hTl⟩:∃T,T=ts.length:=⟨_,rfl⟩
 have pl2:∀(K:AV->Option (AV×St)),dQ (.lenB .l) [V2] K=K (.int .i64 (g:Int)):=λK=>by rw[hg, <-hG.len];exact QS.adg hG.out.own K
 have pl1:∀(K:AV->Option (AV×St)),dQ (.lenB .l) [V1] K=K (.int .i64 (T:Int)):=λK=>by rw[hTl, <-hT.len];exact QS.adg hT.out.own K
 have Lg:∀(l:List AV)(K:AV->Option (AV×St)),kY (.load none) [.ptr s.next (0+1)] (af s2 (.cells l 0)).heap (λ_=>true) K=K V2:=λl K=>by rw[pz,hP];rfl
 have rd0:∀(l:List AV)(K:AV->Option (AV×St)),kY (.load none) [.ptr s.next (0+0)] (af s2 (.cells l 0)).heap (λ_=>true) K=K V1:=λl K=>by rw[pz,hP];rfl
 have W9:∀(k':Int)(s':St)(K:AV->St->Option (AV×St)),ak c (.build [.int .u8 0,.int .i64 0,.str [],.str [],.str [],.int .i64 0] [(0,1)]) [.int .u8 k'] s' K=K (.agg (eu k' 0 [] [] [] 0)) s':=λk' s' K=>rfl
 have sto0:∀(k':Int)(K:AV->St->Option (AV×St)),ak c (.store 6) [.ptr s2.next 0,.agg (eu k' 0 [] [] [] 0)] (af s2 (.cells (eu 0 0 [] [] [] 0) 0)) K=K .undef (af s2 (.cells (eu k' 0 [] [] [] 0) 0)):=λk' K=>cv c K s2 6 (.agg (eu k' 0 [] [] [] 0)) (eu 0 0 [] [] [] 0) rfl rfl rfl
 rw[GO];rw[qp,jP,show AV.cells (.agg [V1,V2,V3,V4,V5])=[V1,V2,V3,V4,V5]from rfl, <-zu, <-hp4,aC,aC,bS (by omega) (by omega),E1,vk,W1,Me,W8,W9,jP,sto0,aC,fD (by omega) (by omega) (by omega),E2,aC];refine rE (P:=λj=>Q (j [.int .i64 (y:Int),.ptr s.next 0,.ptr p4 0,.ptr s2.next 0] (af s2 (.cells (eu k w [] [] [] 0) 0)))) ?_ ?_
 . rw[  aG, aG, aG, aG,cN,aC,fD (by omega) (by omega) (by omega),E5,aC,bn,Lg,pl2,bn,rd0,pl1,dW,dW,aC,fy,aC];by_cases hg0:g=0
   . rw[H5 (show(g:Int)=0 by omega),ZY,ZY,XV,jV];have hR:fj ts gs x=(⟨(k:Int),(w:Int),[],[],[],0⟩,false):=by
        unfold fj;rw[Za6 (.inl (by omega)), <-hk, <-hy, <-UY]
     have:=yP k w 0 [] [] [] false (by rw[hR]) (by rw[hR]);simp[cu,fin];exact this
   rw[Za1 (show ¬(g:Int)=0 by omega),vg,aC,vg,fy,XW];by_cases hT0:T=0
   . rw[H5 (show(T:Int)=0 by omega),jV];have hR:fj ts gs x=(⟨(k:Int),(w:Int),[],[],[],0⟩,false):=by
        unfold fj;rw[Za6 (.inr (by omega)), <-hk, <-hy, <-UY]
     have:=yP k w 0 [] [] [] false (by rw[hR]) (by rw[hR]);simp[cu,fin];exact this
   rw[Za1 (show ¬(T:Int)=0 by omega),lf];obtain⟨a,ea⟩:∃a:Nat,a=z % g:=⟨_,rfl⟩
   obtain⟨zg,ezg⟩:∃zg:Nat,zg=z / g:=⟨_,rfl⟩
   obtain⟨b,eb⟩:∃b:Nat,b=zg % g:=⟨_,rfl⟩
   obtain⟨z7,ez7⟩:∃z7:Nat,z7=z / 7:=⟨_,rfl⟩
   obtain⟨t,et⟩:∃t:Nat,t=z7 % T:=⟨_,rfl⟩
   obtain⟨z11,ez11⟩:∃z11:Nat,z11=z / 11:=⟨_,rfl⟩
   obtain⟨n,en⟩:∃n:Nat,n=z11 % 4:=⟨_,rfl⟩
   have hR:fj ts gs x=GU ts gs k w a b t n z:=by
     unfold fj;rw[Za3 (by omega), <-hk, <-hy, <-UY, <-hz5, <-hg, <-hTl, <-ea, <-ezg, <-eb, <-ez7, <-et, <-ez11, <-en]
   have Ea:(z:Int) % (g:Int)=(a:Int):=(by rw[ea];exact(Zj8 _ _).symm);have Ezg:(z:Int) / (g:Int)=(zg:Int):=(by rw[ezg];exact(Int.natCast_ediv _ _).symm);have Eb:(zg:Int) % (g:Int)=(b:Int):=(by rw[eb];exact(Zj8 _ _).symm);have Ez7:(z:Int) / 7=(z7:Int):=(by omega);have Et:(z7:Int) % (T:Int)=(t:Int):=(by rw[et];exact(Zj8 _ _).symm);have Ez11:(z:Int) / 11=(z11:Int):=(by omega);have En:(z11:Int) % 4=(n:Int):=(by omega);have za:a<g:=(by rw[ea];exact Zi1 _ (by omega));have zb:b<g:=(by rw[eb];exact Zi1 _ (by omega));have zt:t<T:=(by rw[et];exact Zi1 _ (by omega));have gp:0<(g:Int):=(by omega);have Tp:0<(T:Int):=(by omega);rw[dW,dW,yG (by omega) gp,Ea,dW,dW,TR (by omega) (by omega) gp,Ezg,dW,yG (by omega) gp,Eb,dW,TR (by omega) (by omega) (by omega),Ez7,dW,yG (by omega) Tp,Et,dW,dW,dW,
     aC,fD (by omega) (by omega) (by omega),Ez11,bS (by omega) (by omega),En,aC]
   (clear Ea Ezg Eb Ez7 Et Ez11 En ea ezg eb ez7 et ez11;have lK:1<=k:=(by omega);have kI:k<=18:=(by omega);obtain⟨bA,oA,Xv,csA,vA,eA,hA,_,nA,dA⟩:=hG.row (i:=a) (by omega);obtain⟨bB,oB,capB,csB,vB,eB,hB,_,nB,_⟩:=hG.row (i:=b) (by omega);obtain⟨bT,oT,capT,csT,vT,eT,hTb,cT,nT⟩:=hT.row (i:=t) (by omega);have gA:gs[a].name=kK gs a/\gs[a].lq=zM gs a:=(by unfold kK zM;rw[H4 (by omega)];exact⟨rfl,rfl⟩);have gB:gs[b].name=kK gs b:=(by unfold kK;rw[H4 (by omega)]);have gT:ts[t].name=r9 ts t:=(by unfold r9;rw[H4 (by omega)]);rw[gA.1]at nA;rw[gA.2]at dA;rw[gB]at nB;rw[gT]at nT;have Yx:∀l:List AV,(af s2 (.cells l 0)).heap.get bA=some (.cells csA 0):=λl=>(gS _).get (Yw.get hA));have adh:∀l:List AV,(af s2 (.cells l 0)).heap.get bB=some (.cells csB 0):=λl=>(gS _).get (Yw.get hB)
   have heapT:∀l:List AV,(af s2 (.cells l 0)).heap.get bT=some (.cells csT 0):=λl=>(gS _).get (Yw.get hTb)
   have ixA:∀(K:AV->Option (AV×St)),dQ (.idxA 9 none) [V2,.int .i64 (a:Int)] K=K (.ptr bA (oA+a*9)):=λK=>by rw[eA];exact zL K (by rw[hG.len];omega)
   have ixB:∀(K:AV->Option (AV×St)),dQ (.idxA 9 none) [V2,.int .i64 (b:Int)] K=K (.ptr bB (oB+b*9)):=λK=>by rw[eB];exact zL K (by rw[hG.len];omega)
   have ixT:∀(K:AV->Option (AV×St)),dQ (.idxA 7 none) [V1,.int .i64 (t:Int)] K=K (.ptr bT (oT+t*7)):=λK=>by rw[eT];exact zL K (by rw[hT.len];omega)
   have sxA:∀(K:AV->St->Option (AV×St))(s':St),ak c (.idxA 9 none) [V2,.int .i64 (a:Int)] s' K=K (.ptr bA (oA+a*9)) s':=λK s'=>by rw[eA];exact uM c K s' (by rw[hG.len];omega)
   have sxT:∀(K:AV->St->Option (AV×St))(s':St),ak c (.idxA 7 none) [V1,.int .i64 (t:Int)] s' K=K (.ptr bT (oT+t*7)) s':=λK s'=>by rw[eT];exact uM c K s' (by rw[hT.len];omega)
   have cA:=λ(l l':List AV)(K:AV->Option (AV×St))=>yD K (o:=1) (v:=V2) (h:=(af s2 (.cells l 0)).heap) (h2:=(af s2 (.cells l' 0)).heap) (p:=s.next) (by rw[hP];rfl) (by rw[hP];rfl) hG.out.own.beq
   have cP:=λ(l l':List AV)(K:AV->Option (AV×St))=>yD K (o:=0) (v:=V1) (h:=(af s2 (.cells l 0)).heap) (h2:=(af s2 (.cells l' 0)).heap) (p:=s.next) (by rw[hP];rfl) (by rw[hP];rfl) hT.out.own.beq
   have sb:∀u:List Nat,e9 (.str u) (.str u)=true:=λu=>by simp[e9,kO,gq,kD.2 rfl]
   clear eA eB eT;generalize oA+a*9=qA at*
   generalize oB+b*9=qB at*
   generalize oT+t*7=qT at*
   have cB:=λ(l l':List AV)(K:AV->Option (AV×St))=>yD K (o:=qB+0) (v:= .str (kK gs b)) (h:=(af s2 (.cells l 0)).heap) (h2:=(af s2 (.cells l' 0)).heap) (p:=bB) (by rw[adh];exact nB) (by rw[adh];exact nB) (sb _)
   have cTn:=λ(l l':List AV)(K:AV->Option (AV×St))=>yD K (o:=qT+0) (v:= .str (r9 ts t)) (h:=(af s2 (.cells l 0)).heap) (h2:=(af s2 (.cells l' 0)).heap) (p:=bT) (by rw[heapT];exact nT) (by rw[heapT];exact nT) (sb _)
   have rdA:∀(l:List AV)(K:AV->Option (AV×St)),kY (.load none) [.ptr bA (qA+0)] (af s2 (.cells l 0)).heap (λ_=>true) K=K (.str (kK gs a)):=λl K=>by rw[pz,Yx,Zg6,show(cellsOf (some (.cells csA 0))).bind (λcs=>cs[qA]?)=some (.str (kK gs a))from nA];rfl
   have su2:∀(k w n:Int)(a b t u:List Nat)(K:AV->St->Option (AV×St)),ak c (.store 1) [.ptr s2.next (0+2),.str u] (af s2 (.cells (eu k w a b t n) 0)) K=K .undef (af s2 (.cells (eu k w u b t n) 0)):=λk w n a b t u K=>Xa k w n a b t u s2 K
   have su3:∀(k w n:Int)(a b t u:List Nat)(K:AV->St->Option (AV×St)),ak c (.store 1) [.ptr s2.next (0+3),.str u] (af s2 (.cells (eu k w a b t n) 0)) K=K .undef (af s2 (.cells (eu k w a u t n) 0)):=λk w n a b t u K=>ad1 k w n a b t u s2 K
   have su4:∀(k w n:Int)(a b t u:List Nat)(K:AV->St->Option (AV×St)),ak c (.store 1) [.ptr s2.next (0+4),.str u] (af s2 (.cells (eu k w a b t n) 0)) K=K .undef (af s2 (.cells (eu k w a b u n) 0)):=λk w n a b t u K=>Xb k w n a b t u s2 K
   have Rm:∀(k w n:Int)(a b t:List Nat)(K:AV->St->Option (AV×St)),ak c (.load none) [.ptr s2.next (0+0)] (af s2 (.cells (eu k w a b t n) 0)) K=K (.int .u8 k) (af s2 (.cells (eu k w a b t n) 0)):=λk w n a b t K=>by rw[jw,aD];rfl
   refine rE (P:=λj=>¬(k=1\/k=2\/k=3\/k=4\/k=5\/k=6\/k=7\/k=10\/k=17)->Q (j [.int .i64 (z:Int),.ptr s.next 0,.ptr p4 0,.ptr s2.next 0,.int .i64 (t:Int)] (af s2 (.cells (eu k w [] [] [] (if k=15\/k=16 then(n:Int)else 0)) 0)))) ?_ ?_
   . intro hns;obtain⟨z3,e3⟩:∃z3:Nat,z3=z % 3:=⟨_,rfl⟩
     have E6:(z:Int) % 3=(z3:Int):=(by omega);have hf:=hR;unfold GU at hf;rw[Za3 (by omega),Za3 (by omega),Za3 (by omega),Za3 (by omega), <-e3]at hf;obtain⟨n',NA⟩:∃n':Int,n'=(if k=15\/k=16 then(n:Int)else 0):=⟨_,rfl⟩
     rw[<-NA]at hf ⊢;by_cases h3:0<z3
     .  have hd:decide (0<z3)=true:=H5 h3;rw[Za6 h3]at hf;have:=yP k w n' [] [] (r9 ts t) true (by rw[hf]) (by rw[hf]);simp (disch:=omega) [-eX,fe,Zb2,bS,E6,hd,hP,sxT,heapT,nT,Xb,cu,fin,dF];exact this
     .  have hd:decide (0<z3)=false:=Za1 h3;rw[Za3 h3]at hf;have:=yP k w n' [] [] [] true (by rw[hf]) (by rw[hf]);simp (disch:=omega) [-eX,fe,bS,E6,hd,cu,fin,dF];exact this
   . intro  j40 UZ;rw[c9,Rm];refine rE (P:=λj=>Q (j [.int .i64 (z:Int),.ptr s.next 0,.ptr p4 0,.ptr s2.next 0,.int .i64 (a:Int),.int .i64 (b:Int),.int .i64 (t:Int),.int .i64 (n:Int),.int .u8 (k:Int),.bool (decide (k=1\/k=2\/k=3\/k=4\/k=5))] (af s2 (.cells (eu k w [] [] [] 0) 0)))) ?_ ?_
     .  rw[ aG, aG, aG,aG,aG,aG,aG,aG,aG,aG,cN];by_cases h5:k=1\/k=2\/k=3\/k=4\/k=5
        . rw[ H5 h5,jV];have hf:=hR;unfold GU at hf;rw[Za6 h5]at hf;have fF:Q (some (.tuple [.agg (eu k w (kK gs a) (kK gs b) [] (if k=4 then(n:Int)+1 else if k=1 then(n:Int)else 0)),.bool (!decide ((a:Int)=(b:Int)))],cI (af s2 (.cells (eu k w (kK gs a) (kK gs b) [] (if k=4 then(n:Int)+1 else if k=1 then(n:Int)else 0)) 0)) p4 (.cells (eu k w (kK gs a) (kK gs b) [] (if k=4 then(n:Int)+1 else if k=1 then(n:Int)else 0)) 0))):=
            yP k w _ (kK gs a) (kK gs b) [] _ (by rw[hf];rfl) (by rw[hf];simp;omega)
          have wn:aq .i64 ((n:Int)+1)=(n:Int)+1:=wrap64 (by omega) (by omega);clear yP UZ;rw[bn,Lg,dW,ixA,bn,rdA,bn,su2,bn,cA,dW,ixB,bn,cB,bn,su3];refine rE (P:=λj=>Q (j [.ptr p4 0,.ptr s2.next 0,.int .i64 (a:Int),.int .i64 (b:Int)] (af s2 (.cells (eu k w (kK gs a) (kK gs b) [] (if k=1\/k=4 then(n:Int)else 0)) 0)))) ?_ ?_
          . rw[ aG,aG,aG,aG,cN];refine rE (P:=λj=>Q (j [.ptr p4 0,.ptr s2.next 0,.int .i64 (a:Int),.int .i64 (b:Int)] (af s2 (.cells (eu k w (kK gs a) (kK gs b) [] (if k=4 then(n:Int)+1 else if k=1 then(n:Int)else 0)) 0)))) ?_ ?_
            . generalize (if k=4 then(n:Int)+1 else if k=1 then(n:Int)else 0)=n6 at*
              simp[cu,fin,dF];exact fF
            . intro j hj;by_cases h4:k=4
              .have hd:decide ((k:Int)=4)=true:=H5 (by omega);rw[Za6 h4]at hj;rw[Za6 (.inr h4),c9,Rm,fy,hd,jV];simp[wn,Bg];exact hj
              .have hd:decide ((k:Int)=4)=false:=Za1 (by omega);rw[Za3 h4]at hj;rw[show(if k=1\/k=4 then(n:Int)else 0)=(if k=1 then(n:Int)else 0)by by_cases h1:k=1<;>simp[h1,h4],c9,Rm,fy,hd,lf];exact hj
          . intro j hj;rw[c9,Rm,fy,aC];by_cases h1:k=1
            .rw[Za6 (.inl h1)]at hj;rw[H5 (show(k:Int)=1 by omega)];simp[Bg];exact hj
            . rw[Za1 (show ¬(k:Int)=1 by omega)];by_cases h4:k=4
              .rw[Za6 (.inr h4)]at hj;have hd:decide ((k:Int)=4)=true:=H5 (by omega);rw[vg,c9,vg,Rm,vg,fy,hd];simp[Bg];exact hj
              .rw[Za3 (by omega)]at hj;have hd:decide ((k:Int)=4)=false:=Za1 (by omega);rw[vg,c9,vg,Rm,vg,fy,hd];simp;exact hj
        . rw[ Za1 h5, lf];refine rE (P:=λj=>Q (j [.int .i64 (z:Int),.ptr s.next 0,.ptr p4 0,.ptr s2.next 0,.int .i64 (a:Int),.int .i64 (t:Int),.int .i64 (n:Int),.int .u8 (k:Int),.bool (decide (k=6\/k=7))] (af s2 (.cells (eu k w [] [] [] 0) 0)))) ?_ ?_
          . rw[ aG, aG,aG,aG,aG,aG,aG,aG,aG,cN];by_cases h67:k=6\/k=7
            . rw[ H5 h67,jV];have hf:=hR;unfold GU at hf;rw[Za3 h5,Za6 h67]at hf;obtain⟨sz1,sz2,sz3⟩:=aeE hz (t:=t) (by omega);obtain⟨ha1,ha2⟩:=ha _ (Zb9 (show t<ts.length by omega));obtain⟨OI,e13⟩:∃OI:Nat,OI=z / 13:=⟨_,rfl⟩
              have E13:(z:Int) / 13=(OI:Int):=(by omega);rw[<-e13]at hf;have SZ:∀l:List AV,c 65 [.agg (ts[t].aA vT)] (af s2 (.cells l 0))=some (.int .i64 (vK ts t),af s2 (.cells l 0)):=λl=>by rw[sz1];exact Ct hc rfl rfl rfl ha1 ha2 _ (bL acD)
              have fF:Q (some (.tuple [.agg (eu k w (kK gs a) [] (r9 ts t) (if k=7 then(OI:Int) % vK ts t else 0)),.bool true],cI (af s2 (.cells (eu k w (kK gs a) [] (r9 ts t) (if k=7 then(OI:Int) % vK ts t else 0)) 0)) p4 (.cells (eu k w (kK gs a) [] (r9 ts t) (if k=7 then(OI:Int) % vK ts t else 0)) 0))):=
                yP k w _ (kK gs a) [] (r9 ts t) _ (by rw[hf]) (by rw[hf])
              clear yP UZ;rw[bn,Lg,dW,ixA,bn,rdA,bn,su2,bn,cP,dW,ixT,bn,cTn,bn,su4];refine rE (P:=λj=>Q (j [.ptr p4 0,.ptr s2.next 0] (af s2 (.cells (eu k w (kK gs a) [] (r9 ts t) (if k=7 then(OI:Int) % vK ts t else 0)) 0)))) ?_ ?_
              . generalize (if k=7 then(OI:Int) % vK ts t else 0)=n6 at*
                simp[cu,fin,dF];exact fF
              . intro j hj;by_cases h7:k=7
                . have hd:decide ((k:Int)=7)=true:=H5 (by omega);rw[Za6 h7]at hj;have q:=λ(K:AV->St->Option (AV×St))(s':St)=>bS (c:=c) (k:= .i64) (a:=(OI:Int)) (b:=vK ts t) (by omega) sz2 s' K
                  generalize vK ts t=Z at*
                  rw[c9,Rm,fy,hd,jV,aC,fD (by omega) (by omega) (by omega),E13];simp[-eX,q,hP,sxT,heapT,cT,SZ,Bg];exact hj
                .have hd:decide ((k:Int)=7)=false:=Za1 (by omega);rw[Za3 h7]at hj;rw[c9,Rm,fy,hd,lf];exact hj
            . rw[ Za1 h67,lf,fy,aC];by_cases h10:k=10
              . have hf:=hR;unfold GU at hf;rw[Za3 h5,Za3 h67,Za6 h10]at hf;obtain⟨z3,e3⟩:∃z3:Nat,z3=z % 3:=⟨_,rfl⟩
                have E6:(z:Int) % 3=(z3:Int):=(by omega);rw[<-e3]at hf;rw[H5 (show(k:Int)=10 by omega),jV];by_cases h3:z3=0
                .have hd:decide ((z3:Int)=0)=true:=H5 (by omega);rw[Za6 h3]at hf;have fF:=yP k w 0 (kK gs a) [] [] true (by rw[hf]) (by rw[hf]);rw[rC,aC,bS (by omega) (by omega),E6,fy,hd,jV];simp[hP,sxA,Yx,nA,Xa,cu,fin,dF];exact fF
                .have hd:decide ((z3:Int)=0)=false:=Za1 (by omega);rw[Za3 h3]at hf;have fF:=yP k w 0 [] [] [] true (by rw[hf]) (by rw[hf]);rw[rC,aC,bS (by omega) (by omega),E6,fy,hd,lf];simp[cu,fin,dF];exact fF
              . rw[ Za1 (show ¬(k:Int)=10 by omega),lf,fy,aC];by_cases h17:k=17
                . have hf:=hR;unfold GU at hf;rw[Za3 h5,Za3 h67,Za3 h10,Za6 h17]at hf;rw[H5 (show(k:Int)=17 by omega),jV];have fF:=yP k w 0 (zM gs a) [] (r9 ts t) (!decide (zM gs a=[])) (by rw[hf]) (by rw[hf];simp);have n46:p4≠s2.next:=λe=>by subst e;omega
                  have cD:=λ(K:AV->Option (AV×St))=>yD K (o:=0+2) (v:= .str (zM gs a)) (h:=(cI (af s2 (.cells (eu k w (zM gs a) [] (r9 ts t) 0) 0)) p4 (.cells (eu k w (zM gs a) [] (r9 ts t) 0) 0)).heap) (h2:=(af s2 (.cells (eu k w (zM gs a) [] (r9 ts t) 0) 0)).heap) (p:=s2.next) (by rw[bt n46,aD];rfl) (by rw[aD];rfl) (sb _)
                  have rdD:∀(l:List AV)(K:AV->Option (AV×St)),kY (.load none) [.ptr bA (qA+5)] (af s2 (.cells l 0)).heap (λ_=>true) K=K (.str (zM gs a)):=λl K=>by rw[pz,Yx,show(cellsOf (some (.cells csA 0))).bind (λcs=>cs[qA+5]?)=some (.str (zM gs a))from dA];rfl
                  have rdR:∀(K:AV->Option (AV×St)),kY (.load (some 6)) [.ptr s2.next 0] (af s2 (.cells (eu k w (zM gs a) [] (r9 ts t) 0) 0)).heap (λ_=>true) K=K (.agg (eu k w (zM gs a) [] (r9 ts t) 0)):=λK=>by rw[DI,aD];rfl
                  rw[bn,Lg,dW,ixA,bn,rdD,bn,su2,bn,cP,dW,ixT,bn,cTn,bn,su4,rdR,fin,bn,cD,abE,dW,TE,dF];exact fF
                . rw[ Za1 (show ¬(k:Int)=17 by omega),lf];have hj:=UZ (by omega);clear UZ yP;by_cases h15:k=15
                  .have hd:decide ((k:Int)=15)=true:=H5 (by omega);rw[Za6 (.inl h15)]at hj;rw[rC,fy,aC,hd,jV];simp[Bg];exact hj
                  . have hd:decide ((k:Int)=15)=false:=Za1 (by omega);by_cases h16:k=16
                    .have Nq:decide ((k:Int)=16)=true:=H5 (by omega);rw[Za6 (.inr h16)]at hj;rw[rC,fy,aC,hd,lf,fy,aC,Nq];simp[Bg];exact hj
                    .have Nq:decide ((k:Int)=16)=false:=Za1 (by omega);rw[Za3 (by omega)]at hj;rw[rC,fy,aC,hd,lf,fy,aC,Nq];simp;exact hj
          . intro j hj;by_cases h6:k=6
            .rw[H5 (.inl h6)]at hj;rw[fy,aC,H5 (show(k:Int)=6 by omega),jV];exact hj
            .rw[fy,aC,Za1 (show ¬(k:Int)=6 by omega),lf,fy,aC];rw[show decide ((k:Int)=7)=decide (k=6\/k=7)by rw[decide_eq_decide];omega];exact hj
     .  intro j hj;clear yP UZ hR;rcases Wz lK kI with rfl|rfl|rfl|rfl|rfl|rfl|rfl|rfl|rfl|rfl|rfl|rfl|rfl|rfl|rfl|rfl|rfl|rfl
        all_goals
          simp at hj ⊢;exact hj
 . intro j hj;by_cases h1:1<y5
   .have e:((w:Nat):Int)=1+(y7:Int):=(by rw[UY];unfold JK;rw[Za6 (by omega)];omega);rw[e]at hj;have hd:decide ((1:Int)<(y5:Int))=true:=H5 (by omega);simp (disch:=omega) [-eX,bS,E3,E4,hd,W2,ad0];exact hj
   .have e:((w:Nat):Int)=0:=(by rw[UY];unfold JK;rw[Za3 (by omega)];rfl);rw[e]at hj;have hd:decide ((1:Int)<(y5:Int))=false:=Za1 (by omega);simp (disch:=omega) [-eX,bS,E3,hd];exact hj
structure KX(p:Pos)(sA s:St):Prop where
 wf:Wf s
 next:sA.next.toNat<=s.next.toNat
 keep:∀(b:Pos)(x:AB),b≠p->sA.heap.get b=some x->s.heap.get b=some x
theorem KX.refl{p:Pos}{s:St}(hw:Wf s):KX p s s:=⟨hw,Za5 _,λ_ _ _ h=>h⟩
theorem KX.trans{p:Pos}{a b d:St}(h:KX p a b)(g:KX p b d):KX p a d:=⟨g.wf,Zc8 h.next g.next,λq x hq hx=>g.keep q x hq (h.keep q x hq hx)⟩
theorem KX.ax{p:Pos}{a b d:St}(h:KX p a b)(g:Grew b d):KX p a d:=⟨g.wf,Zc8 h.next g.next,λq x hq hx=>g.get (h.keep q x hq hx)⟩
theorem KX.store{p:Pos}{a b:St}(h:KX p a b)(hp:p.toNat<b.next.toNat)(x:AB):KX p a (cI b p x):=
 ⟨EA h.wf hp,h.next,λq y hq hy=>by rw[bt (λe=>hq e.symm)];exact h.keep q y hq hy⟩
def TS.m8(n:Nat)(V:AV)(rows:List (List AV)):Prop:=(∀b,bg V=some b->n<=b.toNat)/\∀(i:Nat)(r:List AV)(v:AV)(b:Pos),rows[i]? =some r->r[4]? =some v->bg v=some b->n<=b.toNat
def GS.m8(n:Nat)(V:AV)(rows:List (List AV)):Prop:=(∀b,bg V=some b->n<=b.toNat)/\∀(i:Nat)(r:List AV)(v:AV)(b:Pos),rows[i]? =some r->r[8]? =some v->bg v=some b->n<=b.toNat
theorem uT{st s:St}{p:Pos}(h0:Wf st)(h:Grew st s)(hp:st.next.toNat<=p.toNat)(xY:p.toNat<s.next.toNat)(b:AB):Grew st (cI s p b):=
 ⟨EA h.wf xY,λq x hq=>by have:=h0 _ _ hq;rw[bt (λe=>by rw[e]at hp;omega)];exact h.get hq,by rw[Gb];exact h.next⟩
theorem TS.kx{st sA s:St}{p:Pos}{V:AV}{ts:List aU}{rows:List (List AV)}(h:TS st sA V ts rows)(k:KX p sA s)(g:Grew st s)(hs:TS.m8 (p.toNat+1) V rows):TS st s V ts rows:=
 h.qL g λb x _ hb hx=>k.keep b x (λe=>by
  subst e;rcases hb with hb|⟨i,r,v,h1,h2,h3⟩
  .have:=hs.1 _ hb;omega
  .have:=hs.2 i r v _ h1 h2 h3;omega) hx
theorem GS.kx{st sA s:St}{p:Pos}{V:AV}{ts:List aK}{rows:List (List AV)}(h:GS st sA V ts rows)(k:KX p sA s)(g:Grew st s)(hs:GS.m8 (p.toNat+1) V rows):GS st s V ts rows:=
 h.qL g λb x _ hb hx=>k.keep b x (λe=>by
  subst e;rcases hb with hb|⟨i,r,v,h1,h2,h3⟩
  .have:=hs.1 _ hb;omega
  .have:=hs.2 i r v _ h1 h2 h3;omega) hx
theorem Mk.kx{es:Nat}{st sA s:St}{p:Pos}{V:AV}{rows:List (List AV)}(h:Mk es st sA V rows)(k:KX p sA s)(g:Grew st s)(hs:∀b,bg V=some b->p.toNat+1<=b.toNat):Mk es st s V rows:=
 Mk.qL h g λb x hb hx=>k.keep b x (λe=>by subst e;have:=hs _ hb;omega) hx
theorem TS.push{st s:St}{V:AV}{ts:List aU}{rows:List (List AV)}(h:TS st s V ts rows){t:aU}{v:AV}(M:Mk 1 st s v (t.qh.map cq))(hv:∀b,bg v=some b->bg V≠some b)(hlen:ts.length<=1000):
   ∃s5 V5,(∀(K:AV->St->Option (AV×St)),ak c (.buildSlice 7 1 [.str [],.int .u8 0,.int .i64 0,.int .i64 0,.ah,.int .i64 0,.int .i64 0] [0]) [.agg (t.aA v)] s (λy q=>ak c (.append 7 80) [V,y] q K)=K V5 s5)/\
    TS st s5 V5 (ts++[t]) (rows++[t.aA v])/\(∀(p:Pos)(b:AB),bg V≠some p->s.heap.get p=some b->s5.heap.get p=some b)/\∀b,bg V5=some b->s.next.toNat<=b.toNat:=by
 have hl:=h.len;have hw:=h.out.ax.wf;obtain⟨s5,V5,a1,a2,a3,a4⟩:=h.out.push (c:=c) (R:=AV×St) (bytes:=80) (z:=[.str [],.int .u8 0,.int .i64 0,.int .i64 0,.ah,.int .i64 0,.int .i64 0]) (x:= .agg (t.aA v)) rfl rfl (t.MC M.cells.2) (by decide) (by omega) (by omega);have small:∀(u:AV)(rw:List (List AV)),Mk 1 st s u rw->(∀b,bg u=some b->bg V≠some b)->Mk 1 st s5 u rw/\∀b,bg u=some b->bg V5≠some b:=λu rw hu aV=>
   ⟨Mk.qL hu a2.ax λb y hb hy=>a3 b y (aV b hb) hy,λb hb e=>by have p1:=a4 b e;have p2:=hu.own.lt hw hb;omega⟩
 refine⟨s5,V5,a1,⟨a2,by simp[hl],λi t' r hi hr=> ?_⟩,a3,a4⟩;by_cases u6:i<ts.length
 .rw[Zc1 (by rw[hl];exact u6)]at hr;rw[Zc1 u6]at hi;obtain⟨u,e1,e2,e3⟩:=h.rV i t' r hi hr;obtain⟨f1,f2⟩:=small u _ e2 e3;exact⟨u,e1,f1,f2⟩
 .have jy:=(Za0.1 hi).1;simp at jy;obtain rfl:i=ts.length:=(by omega);rw[Zc2 (by rw[hl];exact Za5 _)]at hr;rw[Zc2 (Za5 _)]at hi;simp[hl]at hr hi;subst hi;subst hr;obtain⟨f1,f2⟩:=small v _ M hv;exact⟨v,rfl,f1,f2⟩
def JL(s:List Nat):List AV:=[.str s]
def Cu(x k:Nat):Bool:=decide (x / 2 ^ (6+2*k) % 4=1)
theorem aeF(x k:Nat):Cu x k=decide (x / 2 ^ (6+2*k) % 4=1):=by rw[Cu]
def yl(x k:Nat):List (List Nat):=((List.range k).filter (Cu x)).map br
theorem U0(x k:Nat):yl x (k+1)=yl x k++(if Cu x k=true then [br k]else []):=by
 unfold yl;rw[Zi7,List.filter_append,Ze3];congr 1;cases h:Cu x k with
 |true=>simp[h]
 |false=>simp[h]
theorem ad2(x k:Nat):(yl x k).length<=k:=by have:=List.length_filter_le (Cu x) (List.range k);rw[Zp2]at this;unfold yl;rw[Za9];exact this
structure GI(s0 s:St)(p8:Pos)(g:aK)(x k:Nat)(v:AV):Prop where
 out:Mk 1 s0 s v ((yl x k).map JL)
 h8:s.heap.get p8=some (.cells (g.aA v) 0)
 n8:bg v≠some p8
theorem VI(hc:cr c){g:aK}{x:Nat}(hx:x<1000000){s0:St}{p8:Pos}(h8:s0.next.toNat<=p8.toNat)(x0 x1 x4 x5 x6:AV)
  :∀(m k:Nat)(s:St)(v:AV),GI s0 s p8 g x k v->k+m=4->
  ∃s' v',GI s0 s' p8 g x 4 v'/\∀(F:Nat)(k4:List AV->St->Option (AV×St))(f:Nat),m<f->fG c F k4 f [x0,x1,x4,x5,x6,.int .i64 (x:Int),.ptr p8 0,.int .i64 (k:Int)] s=k4 [x0,x1,x4,x5,x6,.ptr p8 0] s':=by
 intro m;induction m with
 |zero=>
  intro k s v hT h1;obtain rfl:k=4:=by omega
  refine⟨s,v,hT,λF k4 f hf=> ?_⟩;obtain⟨f,rfl⟩:∃g,f=g+1:=⟨f - 1,by omega⟩
  rw[nL];simp
 |succ m ih=>
  intro k s v hT h1;have hw:=hT.out.ax.wf;have h:k<4:=by omega
  . have Ln:(0:Int)<=(x:Int):=Int.natCast_nonneg x;have w:aq .i64 ((k:Int)+1)=((k+1:Nat):Int):=wrap64 (by omega) (by omega);have w1:aq .i64 (2*(k:Int))=2*(k:Int):=wrap64 (by omega) (by omega);have w2:aq .i64 (6+2*(k:Int))=6+2*(k:Int):=wrap64 (by omega) (by omega);have e2:6+2*(k:Int)=((6+2*k:Nat):Int):=(by omega);have hk64:6+2*k<=64:=(by omega);have sr:∀(s:St)(K:AV->St->Option (AV×St)),ak c (.bin .shr .num) [.int .i64 (x:Int),.int .i64 (6+2*(k:Int))] s K=K (.int .i64 ((x:Int) / 2 ^ (6+2*k))) s:=λs K=>by rw[e2];exact TU hk64 s K
    have p0:(0:Int)<=(x:Int) / 2 ^ (6+2*k):=Zp9 Ln (Int.le_of_lt (Int.pow_pos (by decide)));have r1:=λ(s:St)(K:AV->St->Option (AV×St))=>bS (c:=c) (k:= .i64) (a:=(x:Int) / 2 ^ (6+2*k)) (b:=4) p0 (by decide) s K
    have d1:decide ((x:Int) / 2 ^ (6+2*k) % 4=1)=decide (x / 2 ^ (6+2*k) % 4=1):=(by have:((x:Int) / 2 ^ (6+2*k) % 4=1)↔(x / 2 ^ (6+2*k) % 4=1):=(by rw[show((x:Int) / 2 ^ (6+2*k) % 4)=((x / 2 ^ (6+2*k) % 4:Nat):Int)by simp];omega);exact decide_eq_decide.2 this);have c8:(g.aA v)[8]? =some v:=rfl;have fin:=aeF x k;have N:=sP hc k (by omega) s hw;have hd:decide ((k:Int)<4)=true:=H5 (by omega);cases hq:Cu x k with
    |   true=>
        have hrl:((yl x k).map JL).length<=4:=(by rw[Za9];have:=ad2 x k;omega);obtain⟨s5,v5,a1,a2,a3,a4⟩:=hT.out.push (c:=c) (R:=AV×St) (bytes:=16) (z:=[.str []]) (x:= .str (br k)) rfl rfl rfl (by decide) (by omega) (by omega);have e:(yl x (k+1)).map JL=(yl x k).map JL++[(.str (br k):AV).cells]:=(by rw[U0,Za6 hq,Ze3];rfl);rw[<-e]at a2;have y8:=a3 p8 _ hT.n8 hT.h8;have l8:=hw p8 _ hT.h8;have b8:bg v5≠some p8:=λe=>by have:=a4 _ e;omega
        have hw5:=a2.ax.wf;have l8':=hw5 p8 _ y8;have M:=a2.store (p:=p8) (b:= .cells (g.aA v5) 0) h8 l8' b8;obtain⟨vc,v1⟩:=a2.cells;have aM:∀(K:AV->St->Option (AV×St)),ak c (.store 1) [.ptr p8 8,v5] s5 K=K .undef (cI s5 p8 (.cells (g.aA v5) 0)):=λK=>by rw[dN c K s5 1 p8 8 v5 (g.aA v) y8 (by rw[vc];rfl) (by simp[aK.aA]) (by rw[vc];exact v1),vc];rfl
        obtain⟨s',v',b1,b2⟩:=ih (k+1) _ v5 ⟨M,dF _ _ _,b8⟩ (by omega);refine⟨s',v',b1,λF k4 f hf=> ?_⟩;obtain⟨f,rfl⟩:∃g,f=g+1:=⟨f - 1,by omega⟩
        rw[<-b2 F k4 f (by omega),nL];rw[fin]at hq;simp[-aO,hT.h8,hd,fe,sr,r1,d1,hq,c8,N,a1,aM,w,w1,w2]
    |   false=>
        have e:(yl x (k+1))=(yl x k):=(by rw[U0,Za3 (by rw[hq];decide),Zf3]);obtain⟨s',v',b1,b2⟩:=ih (k+1) s v ⟨by rw[e];exact hT.out,hT.h8,hT.n8⟩ (by omega);refine⟨s',v',b1,λF k4 f hf=> ?_⟩;obtain⟨f,rfl⟩:∃g,f=g+1:=⟨f - 1,by omega⟩
        rw[<-b2 F k4 f (by omega),nL];rw[fin]at hq;simp[-aO,hd,fe,sr,r1,d1,hq,w,w1,w2]
def yQ(i:Nat):Nat:=25*i % 312+i / 12
def tR(i x:Nat):aK:=⟨br (yQ i),if x % 2=1 then br (x % 3)else [],if 4<x % 8 then br (x % 8)else [],((x % 4*500:Nat):Int),((x % 3:Nat):Int),if x % 3=2 then br (x % 5)else [],decide (x % 5=0),decide (x % 7=0),true,yl x 4⟩
theorem U1{es:Nat}{s0 s s':St}{v:AV}{rows:List (List AV)}(h:Mk es s0 s v rows)(hg:Grew s0 s')(hk:∀b x,bg v=some b->s.heap.get b=some x->s'.heap.get b=some x):Mk es s0 s' v rows:=
 ⟨h.od,hg,h.own.mono hk,h.new,h.row,h.cap,λb hb=>hk b _ hb (h.tight b hb)⟩
structure GL(st s:St)(p4 p5:Pos)(V W:AV)(gs:List aK)(rows:List (List AV)):Prop where
 out:Mk 9 st s V rows
 len:rows.length=gs.length
 rV:∀(i:Nat)(g:aK)(r:List AV),gs[i]? =some g->rows[i]? =some r->∃v,r=g.aA v/\Mk 1 st s v (g.tg.map JL)/\∀b,bg v=some b->bg V≠some b/\b≠p4/\b≠p5
 h4:s.heap.get p4=some (.cells [.ah,.ah] 0)
 h5:s.heap.get p5=some (.cells [V,W] 0)
 n4:bg V≠some p4
 n5:bg V≠some p5
theorem ad3(g:aK){v:AV}(h:aS [v]=true):aS (g.aA v)=true:=by
 simp only[aS]at h;unfold aK.aA;simp only[aS,AV.one,h,Zj4,Zl5]at*
theorem GL.push{st s s1:St}{p4 p5:Pos}{V W:AV}{gs:List aK}{rows:List (List AV)}(h:GL st s p4 p5 V W gs rows)(Fi:p4≠p5)(Dt:st.next.toNat<=p5.toNat){g:aK}{v:AV}(M:Mk 1 s s1 v (g.tg.map JL))(hlen:rows.length<=1000):
   ∃ s5 s6 V5,(∀(K:AV->St->Option (AV×St)),ak c (.buildSlice 9 1 [.str [],.str [],.str [],.int .i64 0,.int .i64 0,.str [],.bool false,.bool false,.ah] [0]) [.agg (g.aA v)] s1 (λy t=>ak c (.append 9 112) [V,y] t K)=K V5 s5)/\
     (∀(K:AV->St->Option (AV×St)),ak c (.store 1) [.ptr p5 0,V5] s5 K=K .undef s6)/\s1.heap.get p5=some (.cells [V,W] 0)/\GL st s6 p4 p5 V5 W (gs++[g]) (rows++[g.aA v]):=by
 have hw:=h.out.ax.wf;have O1:=h.out.grow M.ax;obtain⟨s5,V5,a1,a2,a3,a4⟩:=O1.push (c:=c) (R:=AV×St) (bytes:=112) (z:=[.str [],.str [],.str [],.int .i64 0,.int .i64 0,.str [],.bool false,.bool false,.ah]) (x:= .agg (g.aA v)) rfl rfl (ad3 g M.cells.2) (by decide) (by omega) (by omega);have y4:=a3 p4 _ h.n4 (M.ax.get h.h4);have y5:=a3 p5 _ h.n5 (M.ax.get h.h5);have l4:=hw p4 _ h.h4;have l5:=hw p5 _ h.h5;have nx:=M.ax.next;have b4:bg V5≠some p4:=λe=>by have:=a4 _ e;omega
 have b5:bg V5≠some p5:=λe=>by have:=a4 _ e;omega
 have l5':=a2.ax.wf p5 _ y5;obtain⟨vc,v1⟩:=a2.cells;have aM:∀(K:AV->St->Option (AV×St)),ak c (.store 1) [.ptr p5 0,V5] s5 K=K .undef (cI s5 p5 (.cells [V5,W] 0)):=λK=>by rw[dN c K s5 1 p5 0 V5 [V,W] y5 (by rw[vc];rfl) (by simp) (by rw[vc];exact v1),vc];rfl
 have M6:=a2.store (p:=p5) (b:= .cells [V5,W] 0) Dt l5' b5;have Mv:=M.back h.out.od h.out.ax;have vV:∀b,bg v=some b->bg V≠some b/\b≠p4/\b≠p5:=λb hb=>by
   have p1:=M.new b hb;refine⟨λe=> ?_,λe=> ?_,λe=> ?_⟩
   .have:=h.out.own.lt hw e;omega
   .subst e;omega
   .subst e;omega
 have small:∀(u:AV)(rw:List (List AV)),Mk 1 st s1 u rw->(∀b,bg u=some b->bg V≠some b/\b≠p4/\b≠p5)->Mk 1 st (cI s5 p5 (.cells [V5,W] 0)) u rw/\∀b,bg u=some b->bg V5≠some b/\b≠p4/\b≠p5:=λu rw hu aV=>by
   refine⟨U1 hu M6.ax λb y hb hy=> ?_,λb hb=>⟨λe=> ?_,(aV b hb).2⟩⟩
   .rw[bt (λe=>(aV b hb).2.2 e.symm)];exact a3 b y (aV b hb).1 hy
   .have p1:=a4 b e;have p2:=hu.own.lt hu.ax.wf hb;omega
 refine⟨s5,_,V5,a1,aM,M.ax.get h.h5,⟨M6,by simp[h.len],λi t r hi U2=> ?_,by rw[bt (λe=>Fi e.symm)];exact y4,dF _ _ _,b4,b5⟩⟩;by_cases u6:i<gs.length
 .rw[Zc1 (by rw[h.len];exact u6)]at U2;rw[Zc1 u6]at hi;obtain⟨u,e1,e2,e3⟩:=h.rV i t r hi U2;obtain⟨f1,f2⟩:=small u _ (e2.grow M.ax) e3;exact⟨u,e1,f1,f2⟩
 .have jy:=(Za0.1 hi).1;simp at jy;obtain rfl:i=gs.length:=(by omega);rw[Zc2 (by rw[h.len];exact Za5 _)]at U2;rw[Zc2 (Za5 _)]at hi;simp[h.len]at U2 hi;subst hi;subst U2;obtain⟨f1,f2⟩:=small v _ Mv vV;exact⟨v,rfl,f1,f2⟩
def cV(k:IntKind)(z:Bool)(l:List Nat):AV:=ro 1 z (l.map λ(i:Nat)=>[.int k (i:Int)])
def xK(xs:List Nat)(k:Nat):List aK:=(List.range k).map λi=>tR i (xs.getD i 0)
theorem aay(xs:List Nat)(k:Nat)(h:k<xs.length):xK xs (k+1)=xK xs k++[tR k xs[k]]:=by
 unfold xK;rw[Zi7,Ze3];simp[Zb5,h]
theorem GV(xs:List Nat)(k:Nat):(xK xs k).length=k:=by simp[xK]
def zG:List AV:=[.str [],.str [],.str [],.int .i64 0,.int .i64 0,.str [],.bool false,.bool false,.ah]
theorem m9(s:St)(K:AV->St->Option (AV×St)):ak c (.alloc [.str [],.str [],.str [],.int .i64 0,.int .i64 0,.str [],.bool false,.bool false,.ah]) [] s K=K (.ptr s.next 0) (af s (.cells zG 0)):=rfl
theorem nc(nm:List Nat)(u y:Int)(b d:Bool)(s:St)(K:AV->St->Option (AV×St)):ak c (.build [.str [],.str [],.str [],.int .i64 0,.int .i64 0,.str [],.bool false,.bool false,.ah] [(0,1),(3,1),(4,1),(6,1),(7,1)]) [.str nm,.int .i64 u,.int .i64 y,.bool b,.bool d] s K=K (.agg [.str nm,.str [],.str [],.int .i64 u,.int .i64 y,.str [],.bool b,.bool d,.ah]) s:=rfl
theorem nh(nm:List Nat)(u y:Int)(b d:Bool)(s:St)(K:AV->St->Option (AV×St)):ak c (.store 9) [.ptr s.next 0,.agg [.str nm,.str [],.str [],.int .i64 u,.int .i64 y,.str [],.bool b,.bool d,.ah]] (af s (.cells zG 0)) K=K .undef (af s (.cells [.str nm,.str [],.str [],.int .i64 u,.int .i64 y,.str [],.bool b,.bool d,.ah] 0)):=
 cv c K s 9 (.agg [.str nm,.str [],.str [],.int .i64 u,.int .i64 y,.str [],.bool b,.bool d,.ah]) zG rfl rfl rfl
theorem oO(nm r ct dt z:List Nat)(u y:Int)(b d:Bool)(s:St)(K:AV->St->Option (AV×St)):ak c (.store 1) [.ptr s.next 1,.str z] (af s (.cells [.str nm,.str r,.str ct,.int .i64 u,.int .i64 y,.str dt,.bool b,.bool d,.ah] 0)) K=K .undef (af s (.cells [.str nm,.str z,.str ct,.int .i64 u,.int .i64 y,.str dt,.bool b,.bool d,.ah] 0)):=jg s _ 1 (.str z) (by simp) rfl rfl K
theorem oP(nm r ct dt z:List Nat)(u y:Int)(b d:Bool)(s:St)(K:AV->St->Option (AV×St)):ak c (.store 1) [.ptr s.next 2,.str z] (af s (.cells [.str nm,.str r,.str ct,.int .i64 u,.int .i64 y,.str dt,.bool b,.bool d,.ah] 0)) K=K .undef (af s (.cells [.str nm,.str r,.str z,.int .i64 u,.int .i64 y,.str dt,.bool b,.bool d,.ah] 0)):=jg s _ 2 (.str z) (by simp) rfl rfl K
theorem oQ(nm r ct dt z:List Nat)(u y:Int)(b d:Bool)(s:St)(K:AV->St->Option (AV×St)):ak c (.store 1) [.ptr s.next 5,.str z] (af s (.cells [.str nm,.str r,.str ct,.int .i64 u,.int .i64 y,.str dt,.bool b,.bool d,.ah] 0)) K=K .undef (af s (.cells [.str nm,.str r,.str ct,.int .i64 u,.int .i64 y,.str z,.bool b,.bool d,.ah] 0)):=jg s _ 5 (.str z) (by simp) rfl rfl K
theorem Rn(i x:Nat)(v:AV):(tR i x).aA v=[.str (br (yQ i)),.str (if x % 2=1 then br (x % 3)else []),.str (if 4<x % 8 then br (x % 8)else []),.int .i64 ((x % 4*500:Nat):Int),.int .i64 ((x % 3:Nat):Int),.str (if x % 3=2 then br (x % 5)else []),.bool (decide (x % 5=0)),.bool (decide (x % 7=0)),v]:=rfl
theorem VJ(hc:cr c){xs:List Nat}(hx:∀x∈xs,x<65536)(z:Bool)(x1:AV){st s:St}{p4 p5:Pos}(Fi:p4≠p5)(Dt:st.next.toNat<=p5.toNat){V W:AV}{rows:List (List AV)}{k:Nat}(hk:k<xs.length)(hk12:k<12)
   (h:GL st s p4 p5 V W (xK xs k) rows):∃s' V' GW,GL st s' p4 p5 V' W (xK xs (k+1)) GW/\∀(F:Nat)(_:5<=F)(k2:List AV->St->Option (AV×St))(f:Nat),
     eo c F k2 (f+1) [cV .u16 z xs,x1,.ptr p4 0,.ptr p5 0,.int .i64 (k:Int)] s=eo c F k2 f [cV .u16 z xs,x1,.ptr p4 0,.ptr p5 0,.int .i64 ((k+1:Nat):Int)] s':=by
 have hw:=h.out.ax.wf;have VU:=hx _ (Zb9 hk);generalize Cw:xs[k]=x at VU;have M0:Mk 1 s (af s (.cells ((tR k x).aA .ah) 0)) .ah []:=Mk.start hw (Grew.af hw _);obtain⟨s1,v1,hG,L⟩:=VI hc (g:=tR k x) (x:=x) (by omega) (s0:=s) (p8:=s.next) (Za5 _) (cV .u16 z xs) x1 (.ptr p4 0) (.ptr p5 0) (.int .i64 (k:Int)) 4 0 _ .ah ⟨M0,aD _ _,λe=>(nomatch e)⟩ rfl;have M:Mk 1 s s1 v1 ((tR k x).tg.map JL):=hG.out;obtain⟨s5,s6,V5,a1,a2,a3,a4⟩:=h.push (c:=c) Fi Dt M (by rw[h.len,GV];omega);have e:xK xs k++[tR k x]=xK xs (k+1):=by rw[aay xs k hk,Cw]
 rw[e]at a4;refine⟨s6,V5,_,a4,λF hF k2 f=> ?_⟩;have L':∀k4:List AV->St->Option (AV×St),fG c F k4 F [cV .u16 z xs,x1,.ptr p4 0,.ptr p5 0,.int .i64 (k:Int),.int .i64 (x:Int),.ptr s.next 0,.int .i64 0] (af s (.cells ((tR k x).aA .ah) 0))=k4 [cV .u16 z xs,x1,.ptr p4 0,.ptr p5 0,.int .i64 (k:Int),.ptr s.next 0] s1:=λk4=>L F k4 F (by omega)
 clear a4 M M0 L;have lI:∀(K:AV->St->Option (AV×St))(s:St),ak c (.lenB .l) [cV .u16 z xs] s K=K (.int .i64 (xs.length:Int)) s:=λK s=>by unfold cV;rw[jv];simp
 have ix:∀(K:AV->St->Option (AV×St))(s:St),ak c (.idxA 1 none) [cV .u16 z xs,.int .i64 (k:Int)] s K=K (.fp (xs.map λ(i:Nat)=>[.int .u16 (i:Int)]) k 0) s:=λK s=>by unfold cV;rw[Mf];simp[hk]
 have ld:((xs.map λ(i:Nat)=>[AV.int .u16 (i:Int)])[k]?.bind λcs=>cs[0]?)=some (.int .u16 (x:Int)):=by simp[hk,Cw]
 have w0:aq .i64 (x:Int)=(x:Int):=wrap64 (by omega) (by omega);have N1:=sP hc (yQ k) (by unfold yQ;omega) s hw;have ym:cut ((tR k x).aA v1) 0 9=some ((tR k x).aA v1):=bV rfl;have N2:∀(b:AB)(j:Nat)(i:Int),i=(j:Int)->j<1000000->c 114 [.int .i64 i] (af s b)=some (.str (br j),af s b):=λb j i e hj=>by rw[e];exact sP hc j hj _ (bL hw)
 have N3:=λb=>N2 b (x % 3) ((x:Int) % 3) (by omega) (by omega)
 have N8:=λb=>N2 b (x % 8) ((x:Int) % 8) (by omega) (by omega)
 have N5:=λb=>N2 b (x % 5) ((x:Int) % 5) (by omega) (by omega)
 have eg:25*(k:Int) % 312+(k:Int) / 12=((yQ k:Nat):Int):=by unfold yQ;omega
 rw[<-eg]at N1;have JM:decide ((k:Int)<12)=true:=H5 (by omega);have d5:decide ((x:Int) % 5=0)=decide (x % 5=0):=decide_eq_decide.2 (by omega);have d7:decide ((x:Int) % 7=0)=decide (x % 7=0):=decide_eq_decide.2 (by omega);have u4:((x % 4*500:Nat):Int)=(x:Int) % 4*500:=by omega
 have u3:((x % 3:Nat):Int)=(x:Int) % 3:=by omega
 simp only[Rn]at a1 L' hG ym;clear N2;have h8:=hG.h8;rw[Rn]at h8;rw[u4,u3]at L' h8 a1 ym;rw[uv];by_cases c1:x % 2=1
 . by_cases c2:4<x % 8
   . by_cases c3:x % 3=2
     .  have e1:decide ((x:Int) % 2=1)=true:=H5 (by omega);have e2:decide (4<(x:Int) % 8)=true:=H5 (by omega);have e3:decide ((x:Int) % 3=2)=true:=H5 (by omega);simp only[Za6 c1,Za6 c2,Za6 c3]at L' h8 a1 ym;simp (maxSteps:=2000000) (disch:=omega) [-aO,-iJ,-jP,-eX,-kq,m9,nc,nh,oO,oP,oQ,lI,ix,ld,hk,Cw,Zb2,JM,mZ,w0,bS,fD,wrap64,N1,N3,N8,N5,d5,d7,e1,e2,e3,fe,L',a1,a2,a3,h8,ym]
     .  have e1:decide ((x:Int) % 2=1)=true:=H5 (by omega);have e2:decide (4<(x:Int) % 8)=true:=H5 (by omega);have e3:decide ((x:Int) % 3=2)=false:=Za1 (by omega);simp only[Za6 c1,Za6 c2,Za3 c3]at L' h8 a1 ym;simp (maxSteps:=2000000) (disch:=omega) [-aO,-iJ,-jP,-eX,-kq,m9,nc,nh,oO,oP,oQ,lI,ix,ld,hk,Cw,Zb2,JM,mZ,w0,bS,fD,wrap64,N1,N3,N8,N5,d5,d7,e1,e2,e3,fe,L',a1,a2,a3,h8,ym]
   . by_cases c3:x % 3=2
     .  have e1:decide ((x:Int) % 2=1)=true:=H5 (by omega);have e2:decide (4<(x:Int) % 8)=false:=Za1 (by omega);have e3:decide ((x:Int) % 3=2)=true:=H5 (by omega);simp only[Za6 c1,Za3 c2,Za6 c3]at L' h8 a1 ym;simp (maxSteps:=2000000) (disch:=omega) [-aO,-iJ,-jP,-eX,-kq,m9,nc,nh,oO,oP,oQ,lI,ix,ld,hk,Cw,Zb2,JM,mZ,w0,bS,fD,wrap64,N1,N3,N8,N5,d5,d7,e1,e2,e3,fe,L',a1,a2,a3,h8,ym]
     .  have e1:decide ((x:Int) % 2=1)=true:=H5 (by omega);have e2:decide (4<(x:Int) % 8)=false:=Za1 (by omega);have e3:decide ((x:Int) % 3=2)=false:=Za1 (by omega);simp only[Za6 c1,Za3 c2,Za3 c3]at L' h8 a1 ym;simp (maxSteps:=2000000) (disch:=omega) [-aO,-iJ,-jP,-eX,-kq,m9,nc,nh,oO,oP,oQ,lI,ix,ld,hk,Cw,Zb2,JM,mZ,w0,bS,fD,wrap64,N1,N3,N8,N5,d5,d7,e1,e2,e3,fe,L',a1,a2,a3,h8,ym]
 . by_cases c2:4<x % 8
   . by_cases c3:x % 3=2
     .  have e1:decide ((x:Int) % 2=1)=false:=Za1 (by omega);have e2:decide (4<(x:Int) % 8)=true:=H5 (by omega);have e3:decide ((x:Int) % 3=2)=true:=H5 (by omega);simp only[Za3 c1,Za6 c2,Za6 c3]at L' h8 a1 ym;simp (maxSteps:=2000000) (disch:=omega) [-aO,-iJ,-jP,-eX,-kq,m9,nc,nh,oO,oP,oQ,lI,ix,ld,hk,Cw,Zb2,JM,mZ,w0,bS,fD,wrap64,N1,N3,N8,N5,d5,d7,e1,e2,e3,fe,L',a1,a2,a3,h8,ym]
     .  have e1:decide ((x:Int) % 2=1)=false:=Za1 (by omega);have e2:decide (4<(x:Int) % 8)=true:=H5 (by omega);have e3:decide ((x:Int) % 3=2)=false:=Za1 (by omega);simp only[Za3 c1,Za6 c2,Za3 c3]at L' h8 a1 ym;simp (maxSteps:=2000000) (disch:=omega) [-aO,-iJ,-jP,-eX,-kq,m9,nc,nh,oO,oP,oQ,lI,ix,ld,hk,Cw,Zb2,JM,mZ,w0,bS,fD,wrap64,N1,N3,N8,N5,d5,d7,e1,e2,e3,fe,L',a1,a2,a3,h8,ym]
   . by_cases c3:x % 3=2
     .  have e1:decide ((x:Int) % 2=1)=false:=Za1 (by omega);have e2:decide (4<(x:Int) % 8)=false:=Za1 (by omega);have e3:decide ((x:Int) % 3=2)=true:=H5 (by omega);simp only[Za3 c1,Za3 c2,Za6 c3]at L' h8 a1 ym;simp (maxSteps:=2000000) (disch:=omega) [-aO,-iJ,-jP,-eX,-kq,m9,nc,nh,oO,oP,oQ,lI,ix,ld,hk,Cw,Zb2,JM,mZ,w0,bS,fD,wrap64,N1,N3,N8,N5,d5,d7,e1,e2,e3,fe,L',a1,a2,a3,h8,ym]
     .  have e1:decide ((x:Int) % 2=1)=false:=Za1 (by omega);have e2:decide (4<(x:Int) % 8)=false:=Za1 (by omega);have e3:decide ((x:Int) % 3=2)=false:=Za1 (by omega);simp only[Za3 c1,Za3 c2,Za3 c3]at L' h8 a1 ym;simp (maxSteps:=2000000) (disch:=omega) [-aO,-iJ,-jP,-eX,-kq,m9,nc,nh,oO,oP,oQ,lI,ix,ld,hk,Cw,Zb2,JM,mZ,w0,bS,fD,wrap64,N1,N3,N8,N5,d5,d7,e1,e2,e3,fe,L',a1,a2,a3,h8,ym]
def ic(i x:Nat):aU:=⟨dS i,((kQ x:Nat):Int),((tA x:Nat):Int),((tB x:Nat):Int),true,(xJ x (tN x)).map λ(k:Nat)=>(k:Int),((x:Nat):Int),255 - ((x:Nat):Int)⟩
def nQ(xs:List Nat)(k:Nat):List aU:=(List.range k).map λi=>ic i (xs.getD i 0)
theorem aaz(xs:List Nat)(k:Nat)(h:k<xs.length):nQ xs (k+1)=nQ xs k++[ic k xs[k]]:=by
 unfold nQ;rw[Zi7,Ze3];simp[Zb5,h]
theorem GY(xs:List Nat)(k:Nat):(nQ xs k).length=k:=by simp[nQ]
def gX(xs:List Nat):Nat->Nat
 |0=>0
 |k+1=>gX xs k+tN (xs.getD k 0)
theorem Ro(xs:List Nat):∀k,gX xs k<=k*16
 |0=>Za5 _
 |k+1=>by have:=Ro xs k;have:=OG (xs.getD k 0);unfold gX;omega
theorem Yy(i x:Nat)(v:AV):(ic i x).aA v=eZ (dS i) (kQ x:Nat) (tA x:Nat) (tB x:Nat) x v:=rfl
theorem acE(i x:Nat):(ic i x).qh.map cq=(xJ x (tN x)).map Qa:=by unfold ic;rw[Zg1];rfl
theorem QS.owner{es:Nat}{s:St}{v:AV}{rows:List (List AV)}(h:QS es s v rows)(h0:rows≠[]):∃b,bg v=some b:=by
 rcases h with⟨_,e⟩|⟨b,off,cap,cs,rfl,_⟩|⟨b,off,_,e⟩
 .exact absurd e h0
 . (refine⟨b,?_⟩;have:rows.length≠0:=λe=>h0 (Zb1 e));simp only[bg];rw[Za3 (λe=>this e.2)]
 .exact absurd e h0
structure LL(st sA s:St)(p3:Pos)(es:Nat)(V:AV)(rows:List (List AV))(W:AV->List AV):Prop where
 out:Mk es st s V rows
 kx:KX p3 sA s
 h3:s.heap.get p3=some (.cells (W V) 0)
 since:∀b,bg V=some b->sA.next.toNat<=b.toNat
theorem LL.ax{st sA s s':St}{p3:Pos}{es:Nat}{V:AV}{rows:List (List AV)}{W:AV->List AV}(h:LL st sA s p3 es V rows W)(g:Grew s s'):LL st sA s' p3 es V rows W:=
 ⟨h.out.grow g,h.kx.ax g,g.get h.h3,h.since⟩
theorem LL.push{st sA s:St}{p3:Pos}{es bytes i:Nat}{V:AV}{rows:List (List AV)}{W:AV->List AV}(h:LL st sA s p3 es V rows W)(hA:Wf sA)(LB:p3.toNat<sA.next.toNat)(iY:st.next.toNat<=p3.toNat)(hi:∀A B,(W A).set i B=W B)(jy:∀A,i<(W A).length)
   {z:List AV} {x:AV} (hz:z.length=es) (hx:x.cells.length=es) (h1:aS x.cells=true) (dc:es≠0) (hb:(2*(rows.length+1)+768)*bytes<=281474976710656) (hn:rows.length<=4000000):
   ∃s5 s6 V5,(∀(K:AV->St->Option (AV×St)),ak c (.buildSlice es 1 z [0]) [x] s (λy q=>ak c (.append es bytes) [V,y] q K)=K V5 s5)/\(∀(K:AV->St->Option (AV×St)),ak c (.store 1) [.ptr p3 i,V5] s5 K=K .undef s6)/\
    LL st sA s6 p3 es V5 (rows++[x.cells]) W/\(∀(p:Pos)(b:AB),p≠p3->bg V≠some p->s.heap.get p=some b->s6.heap.get p=some b)/\(∀b,bg V5=some b->s.next.toNat<=b.toNat)/\s.next.toNat<=s6.next.toNat/\s5.heap.get p3=some (.cells (W V) 0):=by
 have hw:=h.out.ax.wf;obtain⟨s5,V5,a1,a2,a3,a4⟩:=h.out.push (c:=c) (R:=AV×St) (bytes:=bytes) hz hx h1 dc hb hn;have nV:bg V≠some p3:=λe=>by have:=h.since _ e;omega
 have y3:=a3 p3 _ nV h.h3;have n5:bg V5≠some p3:=λe=>by have:=a4 _ e;have:=hw _ _ h.h3;omega
 have l3:=a2.ax.wf p3 _ y3;obtain⟨vc,v1⟩:=a2.cells;obtain⟨b,hbo⟩:=QS.owner a2.own (by simp);have nx:s.next.toNat<=s5.next.toNat:=by have:=a4 b hbo;have:=a2.own.lt a2.ax.wf hbo;omega
 refine⟨s5,cI s5 p3 (.cells (W V5) 0),V5,a1,λK=> ?_,⟨a2.store iY l3 n5,?_,dF _ _ _,λb hb=> ?_⟩,λp b hp hv hg=> ?_,a4,nx,y3⟩
 .rw[dN c K s5 1 p3 i V5 (W V) y3 (by rw[vc];rfl) (by have:=jy V;omega) (by rw[vc];exact v1),vc];rw[sJ _ _ (jy V),hi]
 .refine KX.store ⟨a2.ax.wf,Zc8 h.kx.next nx,λq y hq hy=> ?_⟩ l3 _;refine a3 q y (λe=> ?_) (h.kx.keep q y hq hy);have:=h.since _ e;have:=hA _ _ hy;omega
 .have:=a4 b hb;have:=h.kx.next;omega
 .rw[bt (λe=>hp e.symm)];exact a3 p b hv hg
structure TL(st sA s:St)(p3:Pos)(V:AV)(ts:List aU)(rows:List (List AV))(W:AV->List AV):Prop where
 tab:TS st s V ts rows
 kx:KX p3 sA s
 h3:s.heap.get p3=some (.cells (W V) 0)
 since:TS.m8 sA.next.toNat V rows
theorem TL.push{st sA s:St}{p3:Pos}{i:Nat}{V:AV}{ts:List aU}{rows:List (List AV)}{W:AV->List AV}(h:TL st sA s p3 V ts rows W)(hA:Wf sA)(LB:p3.toNat<sA.next.toNat)(iY:st.next.toNat<=p3.toNat)(hi:∀A B,(W A).set i B=W B)(jy:∀A,i<(W A).length)
   {t:aU} {v:AV} (M:Mk 1 st s v (t.qh.map cq)) (hv:∀b,bg v=some b->bg V≠some b) (Iq:∀b,bg v=some b->sA.next.toNat<=b.toNat) (hlen:ts.length<=1000):
   ∃ s5 s6 V5,(∀(K:AV->St->Option (AV×St)),ak c (.buildSlice 7 1 [.str [],.int .u8 0,.int .i64 0,.int .i64 0,.ah,.int .i64 0,.int .i64 0] [0]) [.agg (t.aA v)] s (λy q=>ak c (.append 7 80) [V,y] q K)=K V5 s5)/\
     (∀(K:AV->St->Option (AV×St)),ak c (.store 1) [.ptr p3 i,V5] s5 K=K .undef s6)/\TL st sA s6 p3 V5 (ts++[t]) (rows++[t.aA v]) W/\(∀(p:Pos)(b:AB),p≠p3->bg V≠some p->s.heap.get p=some b->s6.heap.get p=some b)/\s5.heap.get p3=some (.cells (W V) 0):=by
 have hw:=h.tab.out.ax.wf;obtain⟨s5,V5,a1,a2,a3,a4⟩:=h.tab.push (c:=c) M hv hlen;have nV:bg V≠some p3:=λe=>by have:=h.since.1 _ e;omega
 have y3:=a3 p3 _ nV h.h3;have l3:=a2.out.ax.wf p3 _ y3;obtain⟨vc,v1⟩:=a2.out.cells;obtain⟨b,hbo⟩:=QS.owner a2.out.own (by simp);have nx:s.next.toNat<=s5.next.toNat:=by have:=a4 b hbo;have:=a2.out.own.lt a2.out.ax.wf hbo;omega
 have sn:TS.m8 sA.next.toNat V5 (rows++[t.aA v]):=by
   refine⟨λb hb=>by have:=a4 b hb;have:=h.kx.next;omega,λj r u b hr h4 hb=> ?_⟩;by_cases hj:j<rows.length
   .rw[Zc1 hj]at hr;exact h.since.2 j r u b hr h4 hb
   .have hjl:=(Za0.1 hr).1;simp at hjl;obtain rfl:j=rows.length:=(by omega);rw[Zc2 (Za5 _)]at hr;simp at hr;subst hr;have:v=u:=(by simpa [aU.aA]using h4);subst this;exact Iq b hb
 have k5:KX p3 sA s5:=⟨a2.out.ax.wf,Zc8 h.kx.next nx,λq y hq hy=>a3 q y (λe=>by
   have:=h.since.1 _ e;have:=hA _ _ hy;omega) (h.kx.keep q y hq hy)⟩
 have kS:KX p3 s5 (cI s5 p3 (.cells (W V5) 0)):=(KX.refl a2.out.ax.wf).store l3 _;have sn3:TS.m8 (p3.toNat+1) V5 (rows++[t.aA v]):=⟨λb hb=>by have:=sn.1 b hb;omega,λj r u b h1 h2 h3=>by have:=sn.2 j r u b h1 h2 h3;omega⟩
 refine⟨s5,cI s5 p3 (.cells (W V5) 0),V5,a1,λK=> ?_,⟨a2.kx kS (uT h.tab.out.od a2.out.ax iY l3 _) sn3,k5.store l3 _,dF _ _ _,sn⟩,λp b hp hv hg=> ?_,y3⟩
 .rw[dN c K s5 1 p3 i V5 (W V) y3 (by rw[vc];rfl) (by have:=jy V;omega) (by rw[vc];exact v1),vc];rw[sJ _ _ (jy V),hi]
 .rw[bt (λe=>hp e.symm)];exact a3 p b hv hg
def jG(zt zg zy zr:Bool)(xt xg xy xr:List Nat):List AV:=[cV .u8 zt xt,cV .u16 zg xg,cV .u8 zy xy,cV .u32 zr xr]
theorem GZ{R:Type}(k:IntKind)(z:Bool)(l:List Nat)(K:AV->St->Option R)(s:St):ak c (.lenB .l) [cV k z l] s K=K (.int .i64 (l.length:Int)) s:=by unfold cV;rw[jv];simp
theorem Xc{R:Type}(k k':IntKind)(z:Bool)(l:List Nat){i:Nat}(h:i<l.length)(K:AV->St->Option R)(s:St):ak c (.idxA 1 none) [cV k z l,.int k' (i:Int)] s (λv s'=>ak c (.load none) [v] s' K)=K (.int k (l[i]:Int)) s:=by
 unfold cV;simp[h]
theorem afy{a b d:Nat}(h:d=a+b)(hl:a+b<=1000000):aq .i64 ((a:Int)+(b:Int))=(d:Int):=(wrap64 (by omega) (by omega)).trans (by omega)
theorem aaA(hc:cr c){xt:List Nat}(hx:∀x∈xt,x<256){zt zg zy zr:Bool}{xg xy xr:List Nat}{st sA s:St}{p1 p3:Pos}{V x2:AV}{rows:List (List AV)}(hA:Wf sA)(OJ:sA.heap.get p1=some (.cells (jG zt zg zy zr xt xg xy xr) 0))(OK:p1≠p3)(LB:p3.toNat<sA.next.toNat)(iY:st.next.toNat<=p3.toNat)
  {k:Nat} (hk:k<xt.length) (hk3:k<3) (h:TL st sA s p3 V (nQ xt k) rows (λV=>[V,.ah,.ah,.ah,.ah])):
  ∃s' V' GW,TL st sA s' p3 V' (nQ xt (k+1)) GW (λV=>[V,.ah,.ah,.ah,.ah])/\∀(F:Nat)(k2:List AV->St->Option (AV×St))(f:Nat),
   ek c F k2 (f+1) [.ptr p1 0,x2,.ptr p3 0,.int .i64 (gX xt k:Int),.int .i64 (k:Int)] s=ek c F k2 f [.ptr p1 0,x2,.ptr p3 0,.int .i64 (gX xt (k+1):Int),.int .i64 ((k+1:Nat):Int)] s':=by
 have Cw:=hx _ (Zb9 hk);have d1:decide ((k:Int)<(xt.length:Int))=true:=H5 (by omega);have d2:decide ((k:Int)<3)=true:=H5 (by omega);have w2:aq .i64 ((k:Int)+1)=((k+1:Nat):Int):=wrap64 (by omega) (by omega);have w3:aq .i64 (xt[k]:Int)=(xt[k]:Int):=wrap64 (by omega) (by omega);have hw:=h.tab.out.ax.wf;have h1:=h.kx.keep p1 _ OK OJ;obtain⟨v,s1,C,M⟩:=acA hc k xt[k] (by omega) Cw s hw;have g1:=M.ax;have gn:=Grew.af g1.wf (.cells ((ic k xt[k]).aA v) 0);have hM:Mk 1 st (af s1 (.cells ((ic k xt[k]).aA v) 0)) v ((ic k xt[k]).qh.map cq):=by rw[acE];exact(M.back h.tab.out.od h.tab.out.ax).grow gn
 have T1:TL st sA (af s1 (.cells ((ic k xt[k]).aA v) 0)) p3 V (nQ xt k) rows (λV=>[V,.ah,.ah,.ah,.ah]):=
  ⟨h.tab.qL (h.tab.out.ax.trans (g1.trans gn)) λb x _ _ hb=>gn.get (g1.get hb),h.kx.ax (g1.trans gn),gn.get (g1.get h.h3),h.since⟩
 obtain⟨s5,s6,V5,a1,a2,a3,a4,a5⟩:=T1.push (c:=c) (i:=0) hA LB iY (λA B=>rfl) (λA=>by simp) hM (λb hb e=>by
  have p1:=M.new b hb;have p2:=h.tab.out.own.lt hw e;omega) (λb hb=>by have:=M.new b hb;have:=h.kx.next;omega) (by rw[GY];omega)
 have p6:s6.heap.get s1.next=some (.cells ((ic k xt[k]).aA v) 0):=a4 s1.next _ (λe=>by have:=h.kx.next;have:=g1.next;rw[<-e]at LB;omega) (λe=>by
  have p2:=h.tab.out.own.lt hw e;have:=g1.next;omega) (aD _ _)
 have e:=aaz xt k hk;rw[<-e]at a3;refine⟨s6,V5,_,a3,λF k2 f=> ?_⟩;have hs:=Ct hc (l:=(ic k xt[k]).aA v) (sh:=((kQ xt[k]:Nat):Int)) (a:=((tA xt[k]:Nat):Int)) (b:=((tB xt[k]:Nat):Int)) rfl rfl rfl (by have:=So xt[k];omega) (by have:=Sp xt[k];omega) s6 a3.tab.out.ax.wf;rw[Kz]at hs;have hS:gX xt (k+1)=gX xt k+tN xt[k]:=by
  rw[gX];simp[Zb5,hk]
 have w1:aq .i64 ((gX xt k:Int)+(tN xt[k]:Int))=((gX xt (k+1):Nat):Int):=afy hS (by have:=Ro xt k;have:=OG xt[k];exact Zc8 (Nat.add_le_add ‹_› ‹_›) (by omega));have lI:=λ(K:AV->St->Option (AV×St))(s:St)=>GZ (c:=c) .u8 zt xt K s
 have aI:=λ(K:AV->St->Option (AV×St))(s:St)=>Xc (c:=c) .u8 .i64 zt xt hk K s
 have c0:(jG zt zg zy zr xt xg xy xr)[0]? =some (cV .u8 zt xt):=rfl;have cu:cut ((ic k xt[k]).aA v) 0 7=some ((ic k xt[k]).aA v):=bV rfl;rw[<-Yy]at C;have Fj:∀(K:AV->St->Option (AV×St)),ak c (.store 7) [.ptr s1.next 0,.agg ((ic k xt[k]).aA v)] (af s1 (.cells [.str [],.int .u8 0,.int .i64 0,.int .i64 0,.ah,.int .i64 0,.int .i64 0] 0)) K=K .undef (af s1 (.cells ((ic k xt[k]).aA v) 0)):=λK=>cv c K s1 7 (.agg ((ic k xt[k]).aA v)) [.str [],.int .u8 0,.int .i64 0,.int .i64 0,.ah,.int .i64 0,.int .i64 0] rfl rfl ((ic k xt[k]).MC M.cells.2)
 have Xd:=T1.h3;have g6:=aD s1 (.cells ((ic k xt[k]).aA v) 0);generalize (ic k xt[k]).aA v=tc at*
 generalize gX xt (k+1)=S1 at*
 clear hS e T1 a3 a4 hM M h;rw[uh];simp (disch:=omega) [-aO,Zb2,h1,lI,aI,c0,hk,hk3,d1,d2,w3,C,Fj,Xd,g6,cu,a1,a2,a5,p6,hs,w1,w2]
theorem aaB(hc:cr c){xt:List Nat}(hx:∀x∈xt,x<256)(hl:xt.length<=9223372036854775807){zt zg zy zr:Bool}{xg xy xr:List Nat}{st sA:St}{p1 p3:Pos}{x2:AV}(hA:Wf sA)(OJ:sA.heap.get p1=some (.cells (jG zt zg zy zr xt xg xy xr) 0))(OK:p1≠p3)(LB:p3.toNat<sA.next.toNat)(iY:st.next.toNat<=p3.toNat):
  ∀(m k:Nat)(s:St)(V:AV)(rows:List (List AV)),k+m=min xt.length 3->TL st sA s p3 V (nQ xt k) rows (λV=>[V,.ah,.ah,.ah,.ah])->
  ∃ s' V' GW,TL st sA s' p3 V' (nQ xt (min xt.length 3)) GW (λV=>[V,.ah,.ah,.ah,.ah])/\∀(F:Nat)(k2:List AV->St->Option (AV×St))(f:Nat),m<f->
    ek c F k2 f [.ptr p1 0,x2,.ptr p3 0,.int .i64 (gX xt k:Int),.int .i64 (k:Int)] s=k2 [.ptr p1 0,x2,.ptr p3 0,.int .i64 (gX xt (min xt.length 3):Int)] s':=by
 intro m;induction m with
 |zero=>
  intro k s V rows hk h;obtain rfl:k=min xt.length 3:=by omega
  refine⟨s,V,rows,h,λF k2 f hf=> ?_⟩;obtain⟨f,rfl⟩:∃g,f=g+1:=⟨f - 1,by omega⟩
  have h1:=h.kx.keep p1 _ OK OJ;have c0:(jG zt zg zy zr xt xg xy xr)[0]? =some (cV .u8 zt xt):=rfl;have lI:=λ(K:AV->St->Option (AV×St))(s:St)=>GZ (c:=c) .u8 zt xt K s
  generalize gX xt (min xt.length 3)=S at*
  rw[uh];by_cases h3:xt.length<=3
  .have e:min xt.length 3=xt.length:=(by omega);rw[e];simp[h1,c0,lI]
  .have e:min xt.length 3=3:=(by omega);have hd:decide ((3:Int)<(xt.length:Int))=true:=H5 (by omega);rw[e];simp[h1,c0,lI,hd]
 |succ m ih=>
  intro k s V rows hk h;obtain⟨s1,V1,r1,h1,e1⟩:=aaA (x2:=x2) hc hx hA OJ OK LB iY (k:=k) (by omega) (by omega) h;obtain⟨s2,V2,r2,h2,e2⟩:=ih (k+1) s1 V1 r1 (by omega) h1;refine⟨s2,V2,r2,h2,λF k2 f hf=> ?_⟩;obtain⟨f,rfl⟩:∃g,f=g+1:=⟨f - 1,by omega⟩
  rw[e1 F k2 f,e2 F k2 f (by omega)]
theorem U3{k:Nat}(h:k<=1000000):aq .i64 ((k:Int)+1)=((k+1:Nat):Int):=wrap64 (by omega) (by omega)
theorem Yz{x:Nat}(h:x<=4294967296):aq .i64 (x:Int)=(x:Int):=wrap64 (by omega) (by omega)
def yR(xg:List Nat)(k:Nat):List Int:=(List.range k).map λi=>((xg.getD i 0 / 3 % 4:Nat):Int)
theorem aaC(xg:List Nat)(k:Nat)(h:k<xg.length):yR xg (k+1)=yR xg k++[((xg[k] / 3 % 4:Nat):Int)]:=by
 unfold yR;rw[Zi7,Ze3];simp[Zb5,h]
theorem G1(xg:List Nat)(k:Nat):(yR xg k).length=k:=by simp[yR]
theorem YA{xg:List Nat}(hx:∀x∈xg,x<65536){zt zg zy zr:Bool}{xt xy xr:List Nat}{st sA:St}{p1 p3:Pos}{x2 V1 V2 V3:AV}{n:Nat}(hn:n<=xg.length)(Q9:n<=1000)(hA:Wf sA)(OJ:sA.heap.get p1=some (.cells (jG zt zg zy zr xt xg xy xr) 0))(OK:p1≠p3)(LB:p3.toNat<sA.next.toNat)(iY:st.next.toNat<=p3.toNat)
  (l2:∀(K:AV->St->Option (AV×St))(s':St),ak c (.lenB .l) [V2] s' K=K (.int .i64 (n:Int)) s'):
  ∀(m k:Nat)(s:St)(V:AV),k+m=n->LL st sA s p3 1 V ((yR xg k).map cq) (λA=>[V1,V2,V3,A,.ah])->
  ∃s' V',LL st sA s' p3 1 V' ((yR xg n).map cq) (λA=>[V1,V2,V3,A,.ah])/\∀(F:Nat)(k4:List AV->St->Option (AV×St))(f:Nat),m<f->
   gO c F k4 f [.ptr p1 0,x2,.ptr p3 0,.int .i64 (k:Int)] s=k4 [.ptr p1 0,x2,.ptr p3 0] s':=by
 intro m;induction m with
 |zero=>
  intro k s V hk h;obtain rfl:k=n:=by omega
  refine⟨s,V,h,λF k4 f hf=> ?_⟩;obtain⟨f,rfl⟩:∃g,f=g+1:=⟨f - 1,by omega⟩
  rw[ug];simp[h.h3,l2]
 |succ m ih=>
  intro k s V hk h;have hkn:k<n:=by omega
  have Cx:k<xg.length:=by omega
  have Cw:=hx _ (Zb9 Cx);obtain⟨v,hv⟩:∃v:Nat,v=xg[k] / 3 % 4:=⟨_,rfl⟩
  have E:(xg[k]:Int) / 3 % 4=(v:Int):=by omega
  have h1:=h.kx.keep p1 _ OK OJ;obtain⟨s5,s6,V5,a1,a2,a3,a4,a5,a6,a7⟩:=h.push (c:=c) (bytes:=8) (i:=3) (z:=[.int .i64 0]) (x:= .int .i64 (v:Int)) hA LB iY (λA B=>rfl) (λA=>by simp) rfl rfl rfl (by decide) (by rw[Za9,G1];omega) (by rw[Za9,G1];omega);have e:(yR xg k).map cq++[(.int .i64 (v:Int):AV).cells]=(yR xg (k+1)).map cq:=by rw[aaC xg k Cx,Ze3,hv];rfl
  rw[e]at a3;obtain⟨s7,V7,b1,b2⟩:=ih (k+1) s6 V5 (by omega) a3;refine⟨s7,V7,b1,λF k4 f hf=> ?_⟩;obtain⟨f,rfl⟩:∃g,f=g+1:=⟨f - 1,by omega⟩
  have b3:=b2 F k4 f (by omega);have aI:=λ(K:AV->St->Option (AV×St))(s:St)=>Xc (c:=c) .u16 .i64 zg xg Cx K s
  have c1:(jG zt zg zy zr xt xg xy xr)[1]? =some (cV .u16 zg xg):=rfl;have Xd:=h.h3;clear b2 ih a3 a4 a5 a6 e hv;have k6:k<=1000000:=by omega
  have x6:xg[k]<=4294967296:=by omega
  have w2:=U3 k6;have w3:=Yz x6;rw[<-b3,ug];simp (disch:=omega) [-aO,-eX,-kq,bS,fD,Zb2,Ze4,h1,Xd,l2,aI,c1,hkn,w3,E,a1,a2,a7,w2]
def uU(ts:List aU)(gs:List aK)(xr:List Nat):Nat->List Rl
 |0=>[]
 |k+1=>uU ts gs xr k++(if(fj ts gs (xr.getD k 0)).2=true then [(fj ts gs (xr.getD k 0)).1]else [])
theorem G2(ts:List aU)(gs:List aK)(xr:List Nat):∀k,(uU ts gs xr k).length<=k
 |0=>Za5 _
 |k+1=>by have:=G2 ts gs xr k;unfold uU;rw[Zd2];split<;>simp<;>omega
theorem acF{R:Type}(k k':IntKind)(z:Bool)(l:List Nat){i:Nat}(h:i<l.length)(K:AV->Option R)(t:T AB):dQ (.idxA 1 none) [cV k z l,.int k' (i:Int)] (λv=>kY (.load none) [v] t (λ_=>true) K)=K (.int k (l[i]:Int)):=by
 unfold cV;simp[h]
theorem acG{R:Type}(s:St)(K:AV->AB->Option R):IL (.alloc [.int .u8 0,.int .i64 0,.str [],.str [],.str [],.int .i64 0]) [] s K=K (.ptr s.next 0) (.cells [.int .u8 0,.int .i64 0,.str [],.str [],.str [],.int .i64 0] 0):=rfl
theorem YE(hc:cr c){xr:List Nat}(hx:∀x∈xr,x<4294967296)(hl:xr.length<=9223372036854775807){zt zg zy zr:Bool}{xt xg xy:List Nat}{st sA:St}{p1 p3:Pos}{x2 V1 V2 V3 V4:AV}(hA:Wf sA)(OJ:sA.heap.get p1=some (.cells (jG zt zg zy zr xt xg xy xr) 0))(OK:p1≠p3)(LB:p3.toNat<sA.next.toNat)(iY:st.next.toNat<=p3.toNat)
  {ts:List aU} {gs:List aK} {r1 r2:List (List AV)} (hT:TS st sA V1 ts r1) (sT:TS.m8 (p3.toNat+1) V1 r1) (hG:GS st sA V2 gs r2) (sG:GS.m8 (p3.toNat+1) V2 r2) (lt:ts.length<=1000) (lg:gs.length<=1000)
  (hz:∀t∈ts,0<jF t.sh t.a t.b/\jF t.sh t.a t.b<=1000) (ha:∀t∈ts,(0<=t.a/\t.a<=1000000)/\0<=t.b/\t.b<=1000000):
  ∀(m k:Nat)(s:St)(V:AV),k+m=min xr.length 12->LL st sA s p3 6 V ((uU ts gs xr k).map Rl.cells) (λA=>[V1,V2,V3,V4,A])->
  ∃ s' V',LL st sA s' p3 6 V' ((uU ts gs xr (min xr.length 12)).map Rl.cells) (λA=>[V1,V2,V3,V4,A])/\∀(F:Nat)(k6:List AV->St->Option (AV×St))(f:Nat),m<f->
    gM c F k6 f [.ptr p1 0,x2,.ptr p3 0,.int .i64 (k:Int)] s=k6 [x2,.ptr p3 0] s':=by
 have c3:(jG zt zg zy zr xt xg xy xr)[3]? =some (cV .u32 zr xr):=rfl;have lI:=λ(K:AV->St->Option (AV×St))(s:St)=>GZ (c:=c) .u32 zr xr K s
 intro m;induction m with
 |zero=>
  intro k s V hk h;obtain rfl:k=min xr.length 12:=by omega
  refine⟨s,V,h,λF k6 f hf=> ?_⟩;obtain⟨f,rfl⟩:∃g,f=g+1:=⟨f - 1,by omega⟩
  have h1:=h.kx.keep p1 _ OK OJ;rw[nG];by_cases h3:xr.length<=12
  .have e:min xr.length 12=xr.length:=(by omega);rw[e];simp[h1,c3,lI]
  .have e:min xr.length 12=12:=(by omega);have hd:decide ((12:Int)<(xr.length:Int))=true:=H5 (by omega);rw[e];simp[h1,c3,lI,hd]
 |succ m ih=>
  intro k s V hk h;have Cx:k<xr.length:=by omega
  have hk12:k<12:=by omega
  have Cw:=hx _ (Zb9 Cx);have kM:k<=1000000:=by omega
  have d12:decide ((k:Int)<12)=true:=H5 (by omega);have nw:=λ(K:AV->AB->Option (AV×St))=>acG s K
  have xM:xr[k]<=4294967296:=by omega
  have h1:=h.kx.keep p1 _ OK OJ;have gr:=h.out.ax;have A:=acC hc (V3:=V3) (V4:=V4) (V5:=V) (hT.kx h.kx gr sT) (hG.kx h.kx gr sG) lt lg hz ha xr[k] Cw;have gn:=Grew.af gr.wf (.cells (fj ts gs xr[k]).1.cells 0);have hS:uU ts gs xr (k+1)=uU ts gs xr k++(if(fj ts gs xr[k]).2=true then [(fj ts gs xr[k]).1]else []):=by
    rw[uU];simp[Zb5,Cx]
  have Fj:∀(K:AV->St->Option (AV×St)),ak c (.store 6) [.ptr s.next 0,.agg (fj ts gs xr[k]).1.cells] (af s (.cells [.int .u8 0,.int .i64 0,.str [],.str [],.str [],.int .i64 0] 0)) K=K .undef (af s (.cells (fj ts gs xr[k]).1.cells 0)):=λK=>cv c K s 6 (.agg (fj ts gs xr[k]).1.cells) [.int .u8 0,.int .i64 0,.str [],.str [],.str [],.int .i64 0] rfl rfl rfl
  have aP:=λ(K:AV->Option (AV×St))(t:T AB)=>acF .u32 .i64 zr xr Cx K t
  have hg:=h.ax gn;have Xd:=h.h3;have h3g:=hg.h3;have ll:=G2 ts gs xr k;have cu5:∀A B D E G:AV,cut [A,B,D,E,G] 0 5=some [A,B,D,E,G]:=λA B D E G=>bV rfl
  have gx:=aD s (.cells (fj ts gs xr[k]).1.cells 0);by_cases hb:(fj ts gs xr[k]).2=true
  . rw[hb]at A;rw[Za6 hb]at hS;obtain⟨s5,s6,V5,a1,a2,a3,a4,a5,a6,a7⟩:=hg.push (c:=c) (bytes:=72) (i:=4) (z:=[.int .u8 0,.int .i64 0,.str [],.str [],.str [],.int .i64 0]) (x:= .agg (fj ts gs xr[k]).1.cells) hA LB iY (λA B=>rfl) (λA=>by simp) rfl rfl rfl (by decide) (by rw[Za9];omega) (by rw[Za9];omega);have e:(uU ts gs xr k).map Rl.cells++[(.agg (fj ts gs xr[k]).1.cells:AV).cells]=(uU ts gs xr (k+1)).map Rl.cells:=(by rw[hS,Ze3];rfl);rw[e]at a3;obtain⟨s7,V7,b1,b2⟩:=ih (k+1) s6 V5 (by omega) a3;refine⟨s7,V7,b1,λF k6 f hf=> ?_⟩;obtain⟨f,rfl⟩:∃g,f=g+1:=⟨f - 1,by omega⟩
    have b3:=b2 F k6 f (by omega);generalize (fj ts gs xr[k]).1=R at*
    clear b2 ih a3 a4 a5 a6 e hS hb ll hg h;have w2:=U3 kM;have w3:=Yz xM;rw[<-b3,nG];simp (disch:=omega) [-aO,fe,Zb2,Ze4,h1,Xd,h3g,lI,aP,c3,Cx,d12,nw,w3,A,Fj,cu5,gx,a1,a2,a7,w2]
  . have iX:(fj ts gs xr[k]).2=false:=(by simpa using hb);rw[iX]at A;rw[Za3 hb,Zf3]at hS;rw[<-hS]at hg;obtain⟨s7,V7,b1,b2⟩:=ih (k+1) _ V (by omega) hg;refine⟨s7,V7,b1,λF k6 f hf=> ?_⟩;obtain⟨f,rfl⟩:∃g,f=g+1:=⟨f - 1,by omega⟩
    have b3:=b2 F k6 f (by omega);generalize (fj ts gs xr[k]).1=R at*
    clear b2 ih hS hb iX ll hg h;have w2:=U3 kM;have w3:=Yz xM;rw[<-b3,nG];simp (disch:=omega) [-aO,fe,Zb2,Ze4,h1,Xd,h3g,lI,aP,c3,Cx,d12,nw,w3,A,Fj,cu5,gx,w2]
theorem VK(hc:cr c){xs:List Nat}(hx:∀x∈xs,x<65536)(hl:xs.length<=9223372036854775807)(z:Bool)(x1:AV){st:St}{p4 p5:Pos}(Fi:p4≠p5)(Dt:st.next.toNat<=p5.toNat){W:AV}:∀(m k:Nat)(s:St)(V:AV)(rows:List (List AV)),k+m=min xs.length 12->
  GL st s p4 p5 V W (xK xs k) rows->∃s' V' GW,GL st s' p4 p5 V' W (xK xs (min xs.length 12)) GW/\∀(F:Nat)(_:5<=F)(k2:List AV->St->Option (AV×St))(f:Nat),m<f->
    eo c F k2 f [cV .u16 z xs,x1,.ptr p4 0,.ptr p5 0,.int .i64 (k:Int)] s=k2 [x1,.ptr p4 0,.ptr p5 0] s':=by
 intro m;induction m with
 |zero=>
  intro k s V rows hk h;obtain rfl:k=min xs.length 12:=by omega
  refine⟨s,V,rows,h,λF _ k2 f hf=> ?_⟩;obtain⟨f,rfl⟩:∃g,f=g+1:=⟨f - 1,by omega⟩
  have lI:∀(K:AV->St->Option (AV×St))(s:St),ak c (.lenB .l) [cV .u16 z xs] s K=K (.int .i64 (xs.length:Int)) s:=λK s=>by unfold cV;rw[jv];simp
  rw[uv];by_cases Tf:xs.length<=12
  .have e:min xs.length 12=xs.length:=(by omega);rw[e];simp[lI]
  .have e:min xs.length 12=12:=(by omega);rw[e];have hd:decide (12<xs.length)=true:=H5 (by omega);have Nq:(12:Nat)<xs.length:=(by omega);have WZ:decide ((12:Int)<(xs.length:Int))=true:=H5 (by omega);simp[lI,WZ]
 |succ m ih=>
  intro k s V rows hk h;obtain⟨s1,V1,r1,h1,e1⟩:=VJ hc hx z x1 Fi Dt (k:=k) (by omega) (by omega) h;obtain⟨s2,V2,r2,h2,e2⟩:=ih (k+1) s1 V1 r1 (by omega) h1;refine⟨s2,V2,r2,h2,λF hF k2 f hf=> ?_⟩;obtain⟨f,rfl⟩:∃g,f=g+1:=⟨f - 1,by omega⟩
  rw[e1 F hF k2 f,e2 F hF k2 f (by omega)]
structure YL(st s:St)(p4 p5:Pos)(V W:AV)(gs:List aK)(rows:List (List AV))(ys:List Ty):Prop where
 gl:GL st s p4 p5 V W gs rows
 ty:Mk 3 st s W (ys.map Ty.cells)
 w4:bg W≠some p4
 w5:bg W≠some p5
 wV:∀b,bg W=some b->bg V≠some b
 wI:∀(i:Nat)(r:List AV)(v:AV)(b:Pos),rows[i]? =some r->r[8]? =some v->bg v=some b->bg W≠some b
theorem YL.start{st s:St}{p4 p5:Pos}{V:AV}{gs:List aK}{rows:List (List AV)}(h:GL st s p4 p5 V .ah gs rows):YL st s p4 p5 V .ah gs rows []:=
 ⟨h,Mk.start h.out.od h.out.ax,λe=>(nomatch e),λe=>(nomatch e),λ_ e=>(nomatch e),λ_ _ _ _ _ _ _ e=>(nomatch e)⟩
theorem YL.push{st s:St}{p4 p5:Pos}{V W:AV}{gs:List aK}{rows:List (List AV)}{ys:List Ty}(h:YL st s p4 p5 V W gs rows ys)(Fi:p4≠p5)(Dt:st.next.toNat<=p5.toNat)(t:Ty)(hlen:ys.length<=1000000):
   ∃s5 s6 W5,(∀(K:AV->St->Option (AV×St)),ak c (.buildSlice 3 1 [.str [],.str [],.int .u8 0] [0]) [.agg t.cells] s (λy q=>ak c (.append 3 40) [W,y] q K)=K W5 s5)/\
    (∀(K:AV->St->Option (AV×St)),ak c (.store 1) [.ptr p5 1,W5] s5 K=K .undef s6)/\YL st s6 p4 p5 V W5 gs rows (ys++[t]):=by
 have hw:=h.gl.out.ax.wf;obtain⟨s5,W5,a1,a2,a3,a4⟩:=h.ty.push (c:=c) (R:=AV×St) (bytes:=40) (z:=[.str [],.str [],.int .u8 0]) (x:= .agg t.cells) rfl rfl rfl (by decide) (by rw[Za9];omega) (by rw[Za9];omega);have e:(ys++[t]).map Ty.cells=ys.map Ty.cells++[(.agg t.cells:AV).cells]:=by rw[Ze3];rfl
 rw[<-e]at a2;have y4:=a3 p4 _ h.w4 h.gl.h4;have y5:=a3 p5 _ h.w5 h.gl.h5;have l4:=hw p4 _ h.gl.h4;have l5:=hw p5 _ h.gl.h5;have b4:bg W5≠some p4:=λe=>by have:=a4 _ e;omega
 have b5:bg W5≠some p5:=λe=>by have:=a4 _ e;omega
 have l5':=a2.ax.wf p5 _ y5;obtain⟨vc,v1⟩:=a2.cells;have aM:∀(K:AV->St->Option (AV×St)),ak c (.store 1) [.ptr p5 1,W5] s5 K=K .undef (cI s5 p5 (.cells [V,W5] 0)):=λK=>by rw[dN c K s5 1 p5 1 W5 [V,W] y5 (by rw[vc];rfl) (by simp) (by rw[vc];exact v1),vc];rfl
 have M6:=a2.store (p:=p5) (b:= .cells [V,W5] 0) Dt l5' b5;have keep:∀(u:AV)(n:Nat)(rw:List (List AV)),Mk n st s u rw->(∀b,bg u=some b->bg W≠some b/\b≠p5)->Mk n st (cI s5 p5 (.cells [V,W5] 0)) u rw:=λu n rw hu aV=>
   U1 hu M6.ax λb y hb hy=>by rw[bt (λe=>(aV b hb).2 e.symm)];exact a3 b y (aV b hb).1 hy
 have newW:∀b,bg W5=some b->s.next.toNat<=b.toNat:=a4;refine⟨s5,_,W5,a1,aM,⟨⟨keep V 9 rows h.gl.out λb hb=>⟨λe=>h.wV b e hb,λe=>h.gl.n5 (by rw[hb,e])⟩,h.gl.len,λi g r hi hr=> ?_,by rw[bt (λe=>Fi e.symm)];exact y4,dF _ _ _,h.gl.n4,h.gl.n5⟩,M6,b4,b5,λb hb e=> ?_,λi r v b hr h8 hv e=> ?_⟩⟩
 .obtain⟨v,e1,e2,e3⟩:=h.gl.rV i g r hi hr;have h8:r[8]? =some v:=(by rw[e1];rfl);exact⟨v,e1,keep v 1 _ e2 λb hb=>⟨h.wI i r v b hr h8 hb,(e3 b hb).2.2⟩,e3⟩
 .have:=newW b hb;have:=h.gl.out.own.lt hw e;omega
 .have p1:=newW b e;have hi:i<gs.length:=(by rw[<-h.gl.len];exact(Za0.1 hr).1);obtain⟨u,e1,e2,_⟩:=h.gl.rV i gs[i] r (H4 hi) hr;have:u=v:=(by rw[e1]at h8;exact Zf5 h8);subst this;have:=e2.own.lt hw hv;omega
def jH(gs:List aK):List (List Nat):=gs.map λg=>g.name
def Qc(bh:List Nat)(i k n:Nat):Ty:=⟨br i,br k,1+((bh.getD n 0 % 4:Nat):Int)⟩
def U4(bh:List Nat)(n:Nat):Bool:=decide (n<bh.length)&&decide (bh.getD n 0 % 4<2)
def yS(bh:List Nat)(i k n:Nat)(ys:List Ty):List Ty:=if U4 bh n=true then ys++[Qc bh i k n]else ys
theorem U5(bh:List Nat)(i k n:Nat)(ys:List Ty):(yS bh i k n ys).length<=ys.length+1:=by unfold yS;split<;>simp
def jI(names:List (List Nat))(bh:List Nat)(i:Nat):Nat->Nat->Nat->List Ty->Nat×List Ty
 |0,_,n,ys=>(n,ys)
 |m+1,k,n,ys=>if br i∈names then(if br k∈names then jI names bh i m (k+1) (n+1) (yS bh i k n ys)else jI names bh i m (k+1) n ys)else(n,ys)
theorem GL.there(hc:cr c){st s:St}{p4 p5:Pos}{V W:AV}{gs:List aK}{rows:List (List AV)}(h:GL st s p4 p5 V W gs rows)(hl:gs.length<=1000)(x:Nat)(hx:x<1000000):
  c 115 [.agg [V,W],.int .i64 (x:Int)] s=some (.bool (decide (br x∈jH gs)),s):=
 acB hc h.out.own h.out.row (names:=jH gs) (by rw[jH,Za9,h.len]) (λi h1 h2=>by
  have h3:i<gs.length:=by rw[<-h.len];exact h1
  obtain⟨v,e,_⟩:=h.rV i gs[i] rows[i] (H4 h3) (H4 h1);rw[e];simp[jH,aK.aA]) (by rw[h.len];exact hl) x hx h.out.ax.wf
theorem VL{R:Type}(h:T AB)(ok:AV->Bool)(xs:List (List AV))(i j:Nat)(K1:AV->Option R):kY (.load none) [.fp xs i j] h ok K1=tE (xs[i]?.bind λcs=>cs[j]?) K1:=by unfold kY;rw[wj,wj];cases hx:(xs[i]?.bind λcs=>cs[j]?)<;>rfl
theorem aaD{R:Type}(a b:List Nat)(k:Int)(s:St)(K:AV->AB->Option R):IL (.buildSlice 3 1 [.str [],.str [],.int .u8 0] [0]) [.agg [.str a,.str b,.int .u8 k]] s K=K (.slice s.next 0 1 (some 1) 3) (.cells [.str a,.str b,.int .u8 k] 0):=rfl
theorem YF(a b:List Nat)(k:Int)(K:AV->Option (AV×St)):dQ (.build [.str [],.str [],.int .u8 0] [(0,1),(1,1),(2,1)]) [.str a,.str b,.int .u8 k] K=K (.agg [.str a,.str b,.int .u8 k]):=rfl
theorem aeG (hc:cr c){bh:List Nat}(ht:∀x∈bh,x<256)(z:Bool){st:St}{p4 p5:Pos}(Fi:p4≠p5)(Dt:st.next.toNat<=p5.toNat){V:AV}{gs:List aK}(hgl:gs.length<=1000){rows:List (List AV)}{i:Nat}(hi:i<1000):
  ∀(m k n:Nat)(s:St)(W:AV)(ys:List Ty),k+m=312->ys.length<=n->n+m<=1000000->YL st s p4 p5 V W gs rows ys->
  ∃ s' W',YL st s' p4 p5 V W' gs rows (jI (jH gs) bh i m k n ys).2/\∀(F:Nat)(k8:List AV->St->Option (AV×St))(f:Nat),m<f->
    gP c F k8 f [cV .u8 z bh,.ptr p4 0,.ptr p5 0,.int .i64 (n:Int),.int .i64 (i:Int),.int .i64 (k:Int)] s=k8 [cV .u8 z bh,.ptr p4 0,.ptr p5 0,.int .i64 ((jI (jH gs) bh i m k n ys).1:Int),.int .i64 (i:Int)] s':=by
 intro m;induction m with
 |zero=>
  intro k n s W ys hk hy hn h;obtain rfl:k=312:=by omega
  refine⟨s,W,h,λF k8 f hf=> ?_⟩;obtain⟨f,rfl⟩:∃g,f=g+1:=⟨f - 1,by omega⟩
  rw[fM];simp[jI]
 |succ m ih  =>
  intro k n s W ys hk hy hn h;have T1:=h.gl.there hc hgl i (by omega);have T2:=h.gl.there hc hgl k (by omega);have hd:decide ((k:Int)<312)=true:=H5 (by omega);have w:aq .i64 ((k:Int)+1)=((k+1:Nat):Int):=wrap64 (by omega) (by omega);have w2:aq .i64 ((n:Int)+1)=((n+1:Nat):Int):=wrap64 (by omega) (by omega);have h5:=h.gl.h5;have cu:cut [V,W] 0 2=some [V,W]:=rfl;have lI:∀(K:AV->St->Option (AV×St))(s:St),ak c (.lenB .l) [cV .u8 z bh] s K=K (.int .i64 (bh.length:Int)) s:=λK s=>by unfold cV;rw[jv];simp
  by_cases Rp:br i∈jH gs
  . by_cases lK:br k∈jH gs
    .   have eT:jI (jH gs) bh i (m+1) k n ys=jI (jH gs) bh i m (k+1) (n+1) (yS bh i k n ys):=(by rw[jI,Za6 Rp,Za6 lK]);rw[eT];have hl:=U5 bh i k n ys;by_cases kX:n<bh.length
        . have ix:∀(K:AV->St->Option (AV×St))(s:St),ak c (.idxA 1 none) [cV .u8 z bh,.int .i64 (n:Int)] s K=K (.fp (bh.map λ(i:Nat)=>[.int .u8 (i:Int)]) n 0) s:=λK s=>by unfold cV;rw[Mf];simp[kX]
          have pix:∀(K:AV->Option (AV×St)),dQ (.idxA 1 none) [cV .u8 z bh,.int .i64 (n:Int)] K=K (.fp (bh.map λ(i:Nat)=>[.int .u8 (i:Int)]) n 0):=λK=>by unfold cV;rw[abI];simp[kX]
          obtain⟨x,hx⟩:∃x,bh[n]=x:=⟨_,rfl⟩
          have hx8:x<256:=(by rw[<-hx];exact ht _ (Zb9 kX));have gd:bh.getD n 0=x:=(by simp[Zb5,kX,hx]);have r1:=λ(s:St)(K:AV->St->Option (AV×St))=>bS (c:=c) (k:= .u8) (a:=(x:Int)) (b:=4) (by omega) (by omega) s K
          have r2:=λ(K:AV->Option (AV×St))=>yG (k:= .u8) (a:=(x:Int)) (b:=4) (by omega) (by omega) K
          have w8:aq .u8 (1+(x:Int) % 4)=1+(x:Int) % 4:=yY (by omega) (by omega);have eC:U4 bh n=decide (x % 4<2):=(by unfold U4;rw[gd,H5 kX,Zf2]);have d2:decide ((x:Int) % 4<2)=decide (x % 4<2):=decide_eq_decide.2 (by omega);by_cases hx4:x % 4<2
          . have eY:yS bh i k n ys=ys++[Qc bh i k n]:=(by unfold yS;rw[eC,Za6 (H5 hx4)]);rw[eY]at hl ⊢;obtain⟨s5,s6,W5,a1,a2,a3⟩:=h.push (c:=c) Fi Dt (Qc bh i k n) (by omega);have eU:(Qc bh i k n).cells=[.str (br i),.str (br k),.int .u8 (1+(x:Int) % 4)]:=(by unfold Qc Ty.cells;rw[gd];simp);have a1':∀K,ak c (.append 3 40) [W,.slice s.next 0 1 (some 1) 3] (af s (.cells [.str (br i),.str (br k),.int .u8 (1+(x:Int) % 4)] 0)) K=K W5 s5:=λK=>by have h1:=a1 K;rw[Ww (es:=3) (z:=[.str [],.str [],.int .u8 0]) (x:= .agg (Qc bh i k n).cells) rfl rfl]at h1;rw[<-eU];exact h1
            have N1:=sP hc i (by omega) s h.gl.out.ax.wf;have N2:=sP hc k (by omega) s h.gl.out.ax.wf;obtain⟨s',W',b1,b2⟩:=ih (k+1) (n+1) s6 W5 _ (by omega) (by omega) (by omega) a3;refine⟨s',W',b1,λF k8 f hf=> ?_⟩;obtain⟨f,rfl⟩:∃g,f=g+1:=⟨f - 1,by omega⟩
            rw[<-b2 F k8 f (by omega),fM];simp[-aO,-wo,-zq,h5,cu,T1,T2,Rp,lK,hd,fe,lI,kX,ix,pix,hx,r1,r2,d2,hx4,w8,N1,N2,VL,aaD,YF,a1',a2,w,w2]
          . have eY:yS bh i k n ys=ys:=(by unfold yS;rw[eC,Za3 (by simp;omega)]);rw[eY];obtain⟨s',W',b1,b2⟩:=ih (k+1) (n+1) s W ys (by omega) (by omega) (by omega) h;refine⟨s',W',b1,λF k8 f hf=> ?_⟩;obtain⟨f,rfl⟩:∃g,f=g+1:=⟨f - 1,by omega⟩
            have d2':decide ((x:Int) % 4<2)=false:=Za1 (by omega);rw[<-b2 F k8 f (by omega),fM];simp[-aO,-wo,-zq,h5,cu,T1,T2,Rp,lK,hd,fe,lI,kX,ix,hx,r1,d2',w,w2]
        . have eY:yS bh i k n ys=ys:=(by unfold yS U4;rw[Za1 kX,Bool.false_and,Za3 (by decide)]);rw[eY];obtain⟨s',W',b1,b2⟩:=ih (k+1) (n+1) s W ys (by omega) (by omega) (by omega) h;refine⟨s',W',b1,λF k8 f hf=> ?_⟩;obtain⟨f,rfl⟩:∃g,f=g+1:=⟨f - 1,by omega⟩
          rw[<-b2 F k8 f (by omega),fM];simp[-aO,-wo,-zq,h5,cu,T1,T2,Rp,lK,hd,fe,lI,kX,w,w2]
    .   have eT:jI (jH gs) bh i (m+1) k n ys=jI (jH gs) bh i m (k+1) n ys:=(by rw[jI,Za6 Rp,Za3 lK]);rw[eT];obtain⟨s',W',b1,b2⟩:=ih (k+1) n s W ys (by omega) (by omega) (by omega) h;refine⟨s',W',b1,λF k8 f hf=> ?_⟩;obtain⟨f,rfl⟩:∃g,f=g+1:=⟨f - 1,by omega⟩
        rw[<-b2 F k8 f (by omega),fM];simp[-aO,-wo,-zq,h5,cu,T1,T2,Rp,lK,hd,fe,w]
  . have eT:jI (jH gs) bh i (m+1) k n ys=(n,ys):=(by rw[jI,Za3 Rp]);rw[eT];refine⟨s,W,h,λF k8 f hf=> ?_⟩;obtain⟨f,rfl⟩:∃g,f=g+1:=⟨f - 1,by omega⟩
    rw[fM];simp[-aO,-wo,-zq,h5,cu,T1,Rp,hd,fe]
theorem JN(names:List (List Nat))(bh:List Nat)(i:Nat):∀(m k n:Nat)(ys:List Ty),ys.length<=n->(jI names bh i m k n ys).2.length<=(jI names bh i m k n ys).1/\(jI names bh i m k n ys).1<=n+m
 |0,k,n,ys,h=>by unfold jI;exact⟨h,by omega⟩
 |m +   1,k,n,ys,h=>by
  unfold jI;split
  . split
    .   have hl:=U5 bh i k n ys;have:=JN names bh i m (k+1) (n+1) (yS bh i k n ys) (by omega);omega
    .   have:=JN names bh i m (k+1) n ys h;omega
  .exact⟨h,by omega⟩
def JO(names:List (List Nat))(bh:List Nat):Nat->Nat->Nat->List Ty->List Ty
 |0,_,_,ys=>ys
 |m+1,i,n,ys=>JO names bh m (i+1) (jI names bh i m (i+1) n ys).1 (jI names bh i m (i+1) n ys).2
theorem ad4(hc:cr c){bh:List Nat}(ht:∀x∈bh,x<256)(z:Bool){st:St}{p4 p5:Pos}(Fi:p4≠p5)(Dt:st.next.toNat<=p5.toNat){V:AV}{gs:List aK}(hgl:gs.length<=1000){rows:List (List AV)}:
  ∀(m i n:Nat)(s:St)(W:AV)(ys:List Ty),i+m=312->ys.length<=n->n+m*312<=1000000->YL st s p4 p5 V W gs rows ys->
  ∃s' W',YL st s' p4 p5 V W' gs rows (JO (jH gs) bh m i n ys)/\∀(F:Nat)(_:400<=F)(k6:List AV->St->Option (AV×St))(f:Nat),m<f->
   gQ c F k6 f [cV .u8 z bh,.ptr p4 0,.ptr p5 0,.int .i64 (n:Int),.int .i64 (i:Int)] s=k6 [.ptr p4 0,.ptr p5 0] s':=by
 intro m;induction m with
 |zero=>
  intro i n s W ys hk hy hn h;obtain rfl:i=312:=by omega
  refine⟨s,W,h,λF _ k6 f hf=> ?_⟩;obtain⟨f,rfl⟩:∃g,f=g+1:=⟨f - 1,by omega⟩
  rw[uu];simp
 |succ m ih=>
  intro i n s W ys hk hy hn h;have hd:decide ((i:Int)<312)=true:=H5 (by omega);have b1: -9223372036854775808<=(i:Int)+1:=by omega
  have b2:(i:Int)+1<=9223372036854775807:=by omega
  have e3:((i+1:Nat):Int)=(i:Int)+1:=by omega
  obtain⟨s1,W1,h1,e1⟩:=aeG hc ht z Fi Dt hgl (i:=i) (by omega) m (i+1) n s W ys (by omega) hy (by omega) h;have hl:=JN (jH gs) bh i m (i+1) n ys hy;obtain⟨s2,W2,h2,e2⟩:=ih (i+1) _ s1 W1 _ (by omega) hl.1 (by omega) h1;refine⟨s2,W2,h2,λF hF k6 f hf=> ?_⟩;obtain⟨f,rfl⟩:∃g,f=g+1:=⟨f - 1,by omega⟩
  have Rq:=λk8=>e1 F k8 F (by omega)
  rw[<-e2 F hF k6 f (by omega),uu];clear e1 e2 hl;have w:aq .i64 ((i:Int)+1)=(i:Int)+1:=wrap64 b1 b2;rw[e3]at Rq ⊢;simp[hd,w,Rq]
structure RS(st s:St)(V W:AV)(gs:List aK)(rows:List (List AV))(ys:List Ty):Prop where
 ax:Grew st s
 out:Mk 9 st s V rows
 len:rows.length=gs.length
 rV:∀(i:Nat)(g:aK)(r:List AV),gs[i]? =some g->rows[i]? =some r->∃v,r=g.aA v/\Mk 1 st s v (g.tg.map JL)/\∀b,bg v=some b->bg V≠some b/\bg W≠some b
 ty:Mk 3 st s W (ys.map Ty.cells)
 wV:∀b,bg W=some b->bg V≠some b
def eR(xs:List Nat):List aK:=xK xs (min xs.length 12)
def xL(xs bh:List Nat):List Ty:=JO (jH (eR xs)) bh 312 0 0 []
theorem zN(xs:List Nat):(eR xs).length<=12:=by unfold eR;rw[GV];omega
theorem ad5(hc:cr c){xs bh:List Nat}(hx:∀x∈xs,x<65536)(hl:xs.length<=9223372036854775807)(ht:∀x∈bh,x<256)(z z2:Bool)(st:St)(hw:Wf st):
   ∃V W s' rows,c 66 [cV .u16 z xs,cV .u8 z2 bh] st=some (.agg [V,W],s')/\RS st s' V W (eR xs) rows (xL xs bh):=by
 have cX:Wf (af st (.cells [.ah,.ah] 0)):=bL hw;have g1:=Grew.af hw (.cells [.ah,.ah] 0);have g2:=Grew.af cX (.cells [.ah,.ah] 0);have n12:st.next≠(af st (.cells [.ah,.ah] 0)).next:=by rw[dz];exact Pos.Pe _
 have Dt:st.next.toNat<=(af st (.cells [.ah,.ah] 0)).next.toNat:=by rw[dz,Pos.aB];omega
 have G0:GL st (af (af st (.cells [.ah,.ah] 0)) (.cells [.ah,.ah] 0)) st.next (af st (.cells [.ah,.ah] 0)).next .ah .ah (xK xs 0) []:=
   ⟨Mk.start hw (g1.trans g2),rfl,λi g r hi _=>by simp[xK]at hi,g2.get (aD _ _),aD _ _,λe=>(nomatch e),λe=>(nomatch e)⟩
 obtain⟨s1,V,rows,h1,e1⟩:=VK hc hx hl z (cV .u8 z2 bh) n12 Dt (min xs.length 12) 0 _ .ah [] (by omega) G0;obtain⟨s2,W,h2,e2⟩:=ad4 hc ht z2 n12 Dt (gs:=eR xs) (by have:=zN xs;omega) 312 0 0 s1 .ah [] (by omega) (by simp) (by omega) (YL.start h1);have Rq:∀k2:List AV->St->Option (AV×St),eo c 400 k2 400 [cV .u16 z xs,cV .u8 z2 bh,.ptr st.next 0,.ptr (af st (.cells [.ah,.ah] 0)).next 0,.int .i64 0] (af (af st (.cells [.ah,.ah] 0)) (.cells [.ah,.ah] 0))=k2 [cV .u8 z2 bh,.ptr st.next 0,.ptr (af st (.cells [.ah,.ah] 0)).next 0] s1:=λk2=>e1 400 (by omega) k2 400 (by omega)
 have e2':∀k6:List AV->St->Option (AV×St),gQ c 400 k6 400 [cV .u8 z2 bh,.ptr st.next 0,.ptr (af st (.cells [.ah,.ah] 0)).next 0,.int .i64 0,.int .i64 0] s1=k6 [.ptr st.next 0,.ptr (af st (.cells [.ah,.ah] 0)).next 0] s2:=λk6=>e2 400 (by omega) k6 400 (by omega)
 have h5:=h2.gl.h5;have h4:=h2.gl.h4;have l4:=h2.gl.out.ax.wf _ _ h4;obtain⟨vc,v1⟩:=h2.gl.out.cells;obtain⟨wc,w1⟩:=h2.ty.cells;have one:aS [V,W]=true:=by
   have v2:V.one=true:=rD v1;have w2:W.one=true:=rD w1;simp only[aS,v2,w2]
 have cu:cut [V,W] 0 2=some [V,W]:=rfl;have Fj:∀(K:AV->St->Option (AV×St)),ak c (.store 2) [.ptr st.next 0,.agg [V,W]] s2 K=K .undef (cI s2 st.next (.cells [V,W] 0)):=λK=>by rw[dN c K s2 2 st.next 0 (.agg [V,W]) [.ah,.ah] h4 rfl (by simp) one];rfl
 have A:=h2.gl.out.store (p:=st.next) (b:= .cells [V,W] 0) (Za5 _) l4 h2.gl.n4;have B:=h2.ty.store (p:=st.next) (b:= .cells [V,W] 0) (Za5 _) l4 h2.w4;have ins:∀u∈[V,W],ia u:=λu hu=>by
   simp only[Zb0,Ze6,Zi9]at hu;rcases hu with rfl|rfl
   .exact A.inst
   .exact B.inst
 obtain⟨sa,t1,ta,tA⟩:=A.Gd (l:=[V,W]) (by simp) ins;obtain⟨sb,t2,tb,tB⟩:=B.Gd (l:=[V,W]) (by simp) ins;have OM:sb=sa:=by rw[t1]at t2;exact(Prod.mk.inj t2).2.symm
 subst OM;refine⟨V,W,sb,rows,?_,⟨tA.ax,tA,h2.gl.len,λi g r hi hr=> ?_,tB,h2.wV⟩⟩
 .rw[Fg hc 400 (r:=(.agg [V,W],cI s2 st.next (.cells [V,W] 0))),t1];rw[Ia];simp[Rq,e2',h5,cu,Fj]
 . obtain⟨v,q1,q2,q3⟩:=h2.gl.rV i g r hi hr;have h8:r[8]? =some v:=(by rw[q1];rfl);refine⟨v,q1,?_,λb hb=>⟨(q3 b hb).1,h2.wI i r v b hr h8 hb⟩⟩;rcases ta with rfl|rfl
   .exact q2.store (p:=st.next) (b:= .cells [V,W] 0) (Za5 _) l4 (λe=>(q3 _ e).2.1 rfl)
   . (exfalso;have aV:rows≠[]:=λe=>by rw[e]at hr;simp at hr);rcases tA.loose with⟨b,off,n,rfl⟩|⟨_,e⟩
     .  have p1:=tA.new b (oM _ _ _ _);have p2:=tA.own.lt hw (oM _ _ _ _);omega
     .  exact aV e
def gh(xt:List Nat):List aU:=nQ xt (min xt.length 3)
def uz(xt xg:List Nat):List Nat:=xg.take (min xg.length (gX xt (min xt.length 3)))
def kL(xt xg:List Nat):List aK:=eR (uz xt xg)
def aaE(xt xg xy:List Nat):List Ty:=xL (uz xt xg) xy
def mz(xt xg xy:List Nat):List Int:=if 0<xy.length % 4 then yR xg (kL xt xg).length else []
def aeH(xt xg xr:List Nat):List Rl:=uU (gh xt) (kL xt xg) xr (min xr.length 12)
def ni(xt xg xy xr:List Nat):cj:=⟨true,gh xt,true,kL xt xg,true,aaE xt xg xy,true,mz xt xg xy,true,aeH xt xg xr⟩
theorem aaF(x:Nat):0<tN x:=by
 have:0<tA x:=by unfold tA;split<;>(try split)<;>(try split)<;>omega
 unfold tN;split<;>(try split)<;>omega
theorem MN{xs:List Nat}{k:Nat}{t:aU}(h:t∈nQ xs k):∃i x,t=ic i x:=by
 unfold nQ at h;simp only[Ze5]at h;obtain⟨i,_,rfl⟩:=h;exact⟨_,_,rfl⟩
theorem aaG{xs:List Nat}{k:Nat}:∀t∈nQ xs k,0<jF t.sh t.a t.b/\jF t.sh t.a t.b<=1000:=λt h=>by obtain⟨i,x,rfl⟩:=MN h;have e:jF (ic i x).sh (ic i x).a (ic i x).b=((tN x:Nat):Int):=Kz x;have h1:=aaF x;have h2:=OG x;rw[e];omega
theorem U6{xs:List Nat}{k:Nat}:∀t∈nQ xs k,(0<=t.a/\t.a<=1000000)/\0<=t.b/\t.b<=1000000:=λt h=>by obtain⟨i,x,rfl⟩:=MN h;have h1:=So x;have h2:=Sp x;show(0<=((tA x:Nat):Int)/\((tA x:Nat):Int)<=1000000)/\0<=((tB x:Nat):Int)/\((tB x:Nat):Int)<=1000000;omega
theorem RS.gs{st sL sR:St}{V W:AV}{gs:List aK}{rows:List (List AV)}{ys:List Ty}(h:RS sL sR V W gs rows ys)(h0:Wf st)(g:Grew st sL):GS st sR V gs rows/\GS.m8 sL.next.toNat V rows:=
 ⟨⟨h.out.back h0 g,h.len,λi t r hi hr=>by
   obtain⟨v,e1,e2,e3⟩:=h.rV i t r hi hr;exact⟨v,e1,e2.back h0 g,λb hb=>(e3 b hb).1⟩⟩,h.out.new,λi r v b hr h8 hb=>by
   have hi:i<gs.length:=(by rw[<-h.len];exact(Za0.1 hr).1);obtain⟨u,e1,e2,_⟩:=h.rV i gs[i] r (H4 hi) hr;have:u=v:=(by rw[e1]at h8;exact Zf5 h8);subst this;exact e2.new b hb⟩
theorem TS.m8.le{n m:Nat}{V:AV}{rows:List (List AV)}(h:TS.m8 n V rows)(hm:m<=n):TS.m8 m V rows:=⟨λb hb=>Zc8 hm (h.1 b hb),λi r v b h1 h2 h3=>Zc8 hm (h.2 i r v b h1 h2 h3)⟩
theorem GS.m8.le{n m:Nat}{V:AV}{rows:List (List AV)}(h:GS.m8 n V rows)(hm:m<=n):GS.m8 m V rows:=⟨λb hb=>Zc8 hm (h.1 b hb),λi r v b h1 h2 h3=>Zc8 hm (h.2 i r v b h1 h2 h3)⟩
theorem PS.afz{s s':St}{V1 V2 V3 V4 V5:AV}{p:cj}{r1 r2:List (List AV)}(h1:TS s s' V1 p.ts r1)(h2:GS s s' V2 p.gs r2)(h3:Mk 3 s s' V3 (p.ys.map Ty.cells))(h4:Mk 1 s s' V4 (p.cs.map cq))(h5:Mk 6 s s' V5 (p.rs.map Rl.cells)):
   ∃ij,Go.Ai.tidy s (.agg [V1,V2,V3,V4,V5],s')=(.agg [V1,V2,V3,V4,V5],ij)/\PS s ij [V1,V2,V3,V4,V5] p:=by
 obtain⟨ij,e,g,k⟩:=Mk.abQ (s:=s) (s':=s') (l:=[V1,V2,V3,V4,V5]) (λu hu=>by
   simp only[Zb0,Ze6,Zi9]at hu;rcases hu with rfl|rfl|rfl|rfl|rfl
   .exact h1.out.inst
   .exact h2.out.inst
   .exact h3.inst
   .exact h4.inst
   .exact h5.inst) h1.out.od h1.out.ax
 obtain⟨a1,b1⟩:=k 7 V1 r1 (by simp) h1.out;obtain⟨a2,b2⟩:=k 9 V2 r2 (by simp) h2.out;obtain⟨a3,_⟩:=k 3 V3 _ (by simp) h3;obtain⟨a4,_⟩:=k 1 V4 _ (by simp) h4;obtain⟨a5,_⟩:=k 6 V5 _ (by simp) h5;refine⟨ij,e,g,V1,V2,V3,V4,V5,r1,r2,rfl,⟨a1,h1.len,λi t r hi hr=> ?_⟩,⟨a2,h2.len,λi t r hi hr=> ?_⟩,a3,a4,a5⟩
 . rcases b1 with rfl|rfl
   .exact h1.rV i t r hi hr
   .simp at hr
 . rcases b2 with rfl|rfl
   .exact h2.rV i t r hi hr
   .simp at hr
theorem aaH{R:Type}(k k':IntKind)(z:Bool)(l:List Nat){i:Nat}(h:i<=l.length)(K:AV->Option R):dQ (.sliceL 1 false true false) [cV k z l,.int k' (i:Int)] K=K (cV k (z&&l.isEmpty) (l.take i)):=by unfold cV;rw[Z0,Za9,Za6 h];simp only[Zp4,Zn1];rfl
theorem aaI{R:Type}(k:IntKind)(z:Bool)(l:List Nat)(K:AV->Option R):dQ (.lenB .l) [cV k z l] K=K (.int .i64 (l.length:Int)):=by unfold cV;rw[Tw];simp
theorem acH{R:Type}(s:St)(K:AV->AB->Option R):IL (.alloc [.ah,.ah]) [] s K=K (.ptr s.next 0) (.cells [.ah,.ah] 0):=rfl
theorem ad6 (hc:cr c) {xt xg xy xr:List Nat}(ht:∀x∈xt,x<256)(hg:∀x∈xg,x<65536)(hy:∀x∈xy,x<256)(hr:∀x∈xr,x<4294967296)(lt:xt.length<=9223372036854775807)(lg:xg.length<=9223372036854775807)(lr:xr.length<=9223372036854775807)(ly:xy.length<=9223372036854775807)
  (zt zg zy zr:Bool) (st:St) (hw:Wf st):∃Vs s',c 15 [.agg (jG zt zg zy zr xt xg xy xr)] st=some (.agg Vs,s')/\PS st s' Vs (ni xt xg xy xr):=by
 have w1:Wf (af st (.cells (jG zt zg zy zr xt xg xy xr) 0)):=bL hw;have w2:Wf (af (af st (.cells (jG zt zg zy zr xt xg xy xr) 0)) (.cells [.ah,.ah,.ah,.ah,.ah] 0)):=bL w1;have g1:=Grew.af hw (.cells (jG zt zg zy zr xt xg xy xr) 0);have g2:=Grew.af w1 (.cells [.ah,.ah,.ah,.ah,.ah] 0);have g3:=Grew.af w2 (.cells [.ah,.ah,.ah,.ah,.ah] 0);obtain⟨p1,eD⟩:∃p1,p1=st.next:=⟨_,rfl⟩
 obtain⟨p2,xY⟩:∃p2,p2=(af st (.cells (jG zt zg zy zr xt xg xy xr) 0)).next:=⟨_,rfl⟩
 obtain⟨p3,WJ⟩:∃p3,p3=(af (af st (.cells (jG zt zg zy zr xt xg xy xr) 0)) (.cells [.ah,.ah,.ah,.ah,.ah] 0)).next:=⟨_,rfl⟩
 obtain⟨s3,Db⟩:∃s3,s3=af (af (af st (.cells (jG zt zg zy zr xt xg xy xr) 0)) (.cells [.ah,.ah,.ah,.ah,.ah] 0)) (.cells [.ah,.ah,.ah,.ah,.ah] 0):=⟨_,rfl⟩
 have n1:st.next.toNat=p1.toNat:=by rw[eD]
 have n2:p2.toNat=p1.toNat+1:=by rw[xY,dz,Pos.aB,eD]
 have n3:p3.toNat=p2.toNat+1:=by rw[WJ,dz,Pos.aB,xY]
 have n4:s3.next.toNat=p3.toNat+1:=by rw[Db,dz,Pos.aB,WJ]
 have G3:Grew st s3:=by rw[Db];exact(g1.trans g2).trans g3
 have H1:s3.heap.get p1=some (.cells (jG zt zg zy zr xt xg xy xr) 0):=by rw[Db,eD];exact g3.get (g2.get (aD _ _))
 have H2:s3.heap.get p2=some (.cells [.ah,.ah,.ah,.ah,.ah] 0):=by rw[Db,xY];exact g3.get (aD _ _)
 have H3:s3.heap.get p3=some (.cells [.ah,.ah,.ah,.ah,.ah] 0):=by rw[Db,WJ];exact aD _ _
 have d13:p1≠p3:=λe=>by subst e;omega
 have d23:p2≠p3:=λe=>by subst e;omega
 have W3:=G3.wf
 obtain⟨sL,V1,r1,T1,e1⟩:=aaB (c:=c) (x2:= .ptr p2 0) hc ht lt (zt:=zt) (zg:=zg) (zy:=zy) (zr:=zr) (xg:=xg) (xy:=xy) (xr:=xr) W3 H1 d13 (by omega) (by omega) (st:=st) (min xt.length 3) 0 s3 .ah [] (by omega)
  ⟨⟨Mk.start hw G3,rfl,λi t r hi _=>by simp[nQ]at hi⟩,KX.refl W3,H3,⟨λb e=>(nomatch e),λi r v b hr _ _=>by simp at hr⟩⟩
 have GL:=T1.tab.out.ax;have WL:=GL.wf;have lN:=T1.kx.next;have L1:=T1.kx.keep p1 _ d13 H1;have L2:=T1.kx.keep p2 _ d23 H2;have L3:=T1.h3;have mlen:(gh xt).length<=3:=by unfold gh;rw[GY];omega
 obtain⟨m,hm⟩:∃m:Nat,m=min xg.length (gX xt (min xt.length 3)):=⟨_,rfl⟩
 have hmx:xg.take m=uz xt xg:=by rw[hm];rfl
 obtain⟨V2,V3,sR,r2,cR,R⟩:=ad5 hc (xs:=uz xt xg) (bh:=xy) (λx hx=>hg x (Zn6 hx)) (by have:=List.length_take_le m xg;rw[hmx]at this;omega) hy (zg&&xg.isEmpty) zy sL WL;have GR:=GL.trans R.ax;have WR:=GR.wf;obtain⟨GSR,SR⟩:=R.gs hw GL;have rN:=R.ax.next;have gx:=Grew.af WR (.cells [V2,V3] 0);obtain⟨sX,hsX⟩:∃sX,sX=af sR (.cells [V2,V3] 0):=⟨_,rfl⟩
 have WX:Wf sX:=by rw[hsX];exact gx.wf
 have GX:Grew sR sX:=by rw[hsX];exact gx
 have X1:=GX.get (R.ax.get L1);have X2:=GX.get (R.ax.get L2);have X3:=GX.get (R.ax.get L3);have X8:sX.heap.get sR.next=some (.cells [V2,V3] 0):=by rw[hsX];exact aD _ _
 have n8:sR.next≠p3:=fun e=>by have:sR.next.toNat=p3.toNat:=by rw[e]
                               omega
 have lX:=WX _ _ X3;obtain⟨vc2,v2⟩:=R.out.cells;obtain⟨vc3,v3⟩:=R.ty.cells;have iy:∀(K:AV->St->Option (AV×St)),ak c (.store 1) [.ptr p3 (0+1),V2] sX K=K .undef (cI sX p3 (.cells [V1,V2,.ah,.ah,.ah] 0)):=λK=>by rw[dN c K sX 1 p3 (0+1) V2 [V1,.ah,.ah,.ah,.ah] X3 (by rw[vc2];rfl) (by simp) (by rw[vc2];exact v2),vc2];rfl
 have yb:∀(K:AV->St->Option (AV×St)),ak c (.store 1) [.ptr p3 (0+2),V3] (cI sX p3 (.cells [V1,V2,.ah,.ah,.ah] 0)) K=K .undef (cI sX p3 (.cells [V1,V2,V3,.ah,.ah] 0)):=λK=>by rw[dN c K _ 1 p3 (0+2) V3 [V1,V2,.ah,.ah,.ah] (dF _ _ _) (by rw[vc3];rfl) (by simp) (by rw[vc3];exact v3),vc3,adB];rfl
 obtain⟨sB,hsB⟩:∃sB,sB=cI sX p3 (.cells [V1,V2,V3,.ah,.ah] 0):=⟨_,rfl⟩
 have kXB:KX p3 sX sB:=by rw[hsB];exact(KX.refl WX).store lX _
 have WB:=kXB.wf;have GB:Grew st sB:=by rw[hsB];exact uT hw (GR.trans GX) (by omega) lX _
 have kRB:KX p3 sR sB:=((KX.refl WR).ax GX).trans kXB;have kLB:KX p3 sL sB:=((KX.refl WL).ax R.ax).trans kRB;have B1:=kXB.keep p1 _ d13 X1;have B2:=kXB.keep p2 _ d23 X2;have B3:sB.heap.get p3=some (.cells [V1,V2,V3,.ah,.ah] 0):=by rw[hsB];exact dF _ _ _
 have lB:=WB _ _ B3;have sT1:TS.m8 (p3.toNat+1) V1 r1:=T1.since.le (by omega);have sG2:GS.m8 (p3.toNat+1) V2 r2:=SR.le (by omega);have TB:=T1.tab.kx kLB GB sT1;have GSB:=GSR.kx kRB GB sG2;have s3V:∀b,bg V3=some b->p3.toNat+1<=b.toNat:=λb hb=>by have:=R.ty.new b hb;omega
 have YB:=Mk.kx (R.ty.back hw GL) kRB GB s3V;have hgl:(kL xt xg).length<=12:=zN _;have hgn:(kL xt xg).length<=xg.length:=by unfold kL eR;rw[GV, <-hmx,Zh6];omega
 have l2:∀(K:AV->St->Option (AV×St))(s':St),ak c (.lenB .l) [V2] s' K=K (.int .i64 ((kL xt xg).length:Int)) s':=λK s'=>by rw[QS.lenB R.out.own,R.len];rfl
 have C0:LL st sB sB p3 1 .ah ((yR xg 0).map cq) (λA=>[V1,V2,V3,A,.ah]):=⟨Mk.start hw GB,KX.refl WB,B3,λb e=>(nomatch e)⟩
 obtain⟨sC1,V41,C1,e2⟩:=YA (c:=c) (x2:= .ptr p2 0) hg (zt:=zt) (zg:=zg) (zy:=zy) (zr:=zr) (xt:=xt) (xy:=xy) (xr:=xr) (st:=st) (V1:=V1) (V3:=V3) hgn (by omega) WB B1 d13 lB (by omega) l2 (kL xt xg).length 0 sB .ah (by omega) C0;have ld2:∀(K:AV->St->Option (AV×St)),ak c (.load none) [.ptr p1 (0+2)] sB K=K (cV .u8 zy xy) sB:=λK=>by rw[jw,B1];rfl
 have key:∃Vs s',jM c 400 (.agg (jG zt zg zy zr xt xg xy xr)) st=some (.agg Vs,s')/\∃ij,Go.Ai.tidy st (.agg Vs,s')=(.agg Vs,ij)/\PS st ij Vs (ni xt xg xy xr):=by
  obtain⟨Q,hQ⟩:∃Q:Option (AV×St)->Prop,Q=λo=>∃Vs s',o=some (.agg Vs,s')/\∃ij,Go.Ai.tidy st (.agg Vs,s')=(.agg Vs,ij)/\PS st ij Vs (ni xt xg xy xr):=⟨_,rfl⟩
  have OH:Q (jM c 400 (.agg (jG zt zg zy zr xt xg xy xr)) st)->∃Vs s',jM c 400 (.agg (jG zt zg zy zr xt xg xy xr)) st=some (.agg Vs,s')/\∃ij,Go.Ai.tidy st (.agg Vs,s')=(.agg Vs,ij)/\PS st ij Vs (ni xt xg xy xr):=λh=>by rw[hQ]at h;exact h
  apply OH;clear OH;have Rq:∀(k2:List AV->St->Option (AV×St)),ek c 400 k2 400 [.ptr p1 0,.ptr p2 0,.ptr p3 0,.int .i64 0,.int .i64 0] s3=k2 [.ptr p1 0,.ptr p2 0,.ptr p3 0,.int .i64 (gX xt (min xt.length 3):Int)] sL:=λk2=>e1 400 k2 400 (by omega)
  have e2':∀(k4:List AV->St->Option (AV×St)),gO c 400 k4 400 [.ptr p1 0,.ptr p2 0,.ptr p3 0,.int .i64 0] sB=k4 [.ptr p1 0,.ptr p2 0,.ptr p3 0] sC1:=λk4=>e2 400 k4 400 (by omega)
  have ra1:∀(K:AV->Option (AV×St)),kY (.load none) [.ptr p1 (0+1)] sL.heap (λ_=>true) K=K (cV .u16 zg xg):=λK=>by rw[pz,L1];rfl
  have ra2:∀(K:AV->Option (AV×St)),kY (.load none) [.ptr p1 (0+2)] sL.heap (λ_=>true) K=K (cV .u8 zy xy):=λK=>by rw[pz,L1];rfl
  have rb0:∀(K:AV->Option (AV×St)),kY (.load none) [.ptr sR.next (0+0)] sX.heap (λ_=>true) K=K V2:=λK=>by rw[pz,X8];rfl
  have rb1:=λ(K:AV->Option (AV×St))=>yD K (p:=sR.next) (o:=0+1) (h:=(cI sX p3 (.cells [V1,V2,.ah,.ah,.ah] 0)).heap) (h2:=sX.heap) (v:=V3) (by rw[bt (λe=>n8 e.symm),X8];rfl) (by rw[X8];rfl) R.ty.own.beq
  have pm:∀(K:AV->Option (AV×St)),dQ .minB [.int .i64 (xg.length:Int),.int .i64 (gX xt (min xt.length 3):Int)] K=K (.int .i64 (m:Int)):=λK=>by rw[bZ K (λH n=>Pj H n _ _ _ _),hm];congr 2;generalize gX xt (min xt.length 3)=a;omega
  have Fj:∀(K:AV->St->Option (AV×St)),ak c (.store 2) [.ptr sR.next 0,.agg [V2,V3]] (af sR (.cells [.ah,.ah] 0)) K=K .undef sX:=λK=>by
    rw[hsX];exact cv c K sR 2 (.agg [V2,V3]) [.ah,.ah] rfl rfl (by
        have a2:V2.one=true:=rD v2;have a3:V3.one=true:=rD v3;show aS [V2,V3]=true;simp only[aS,a2,a3])
  rw[H8,qp,show AV.cells (.agg (jG zt zg zy zr xt xg xy xr))=jG zt zg zy zr xt xg xy xr from rfl,jP,jP, <-Db, <-WJ, <-xY, <-eD,aC,aC,Rq,
    aG,aG,aG,aG,cN,bn,ra1,bn,ra1,aaI,dW,pm,aaH _ _ _ _ (by omega),bn,ra2,hmx,jO,cR,ig,acH,Fj,bn,rb0,bn,iy,bn,rb1,bn,yb, <-hsB]
  refine rE (P:=λj=>∀sC V4,LL st sB sC p3 1 V4 ((mz xt xg xy).map cq) (λA=>[V1,V2,V3,A,.ah])->Q (j [.ptr p1 0,.ptr p2 0,.ptr p3 0] sC)) ?_ ?_
  . intro sC V4 hC;have GC:=hC.out.ax;have WC:=GC.wf;have nC:=hC.kx.next;have C1':=hC.kx.keep p1 _ d13 B1;have C2':=hC.kx.keep p2 _ d23 B2;have TC:=TB.kx hC.kx GC sT1;have GSC:=GSB.kx hC.kx GC sG2;have YC:=Mk.kx YB hC.kx GC s3V
    obtain⟨sD,V5,D1,e3⟩:=YE (c:=c) (x2:= .ptr p2 0) hc hr lr (zt:=zt) (zg:=zg) (zy:=zy) (zr:=zr) (xt:=xt) (xg:=xg) (xy:=xy) (V3:=V3) (V4:=V4) WC C1' d13 (by omega) (by omega) TC sT1 GSC sG2 (show(gh xt).length<=1000 by omega) (show(kL xt xg).length<=1000 by omega) aaG U6 (min xr.length 12) 0 sC .ah (by omega)
        ⟨Mk.start hw GC,KX.refl WC,hC.h3,λb e=>(nomatch e)⟩
    have e3':∀(k6:List AV->St->Option (AV×St)),gM c 400 k6 400 [.ptr p1 0,.ptr p2 0,.ptr p3 0,.int .i64 0] sC=k6 [.ptr p2 0,.ptr p3 0] sD:=λk6=>e3 400 k6 400 (by omega)
    have GD:=D1.out.ax;have WD:=GD.wf;have D2':=D1.kx.keep p2 _ d23 C2';have s4V:∀b,bg V4=some b->p3.toNat+1<=b.toNat:=λb hb=>by have:=hC.since b hb;omega
    have s5V:∀b,bg V5=some b->p3.toNat+1<=b.toNat:=λb hb=>by have:=D1.since b hb;omega
    have TD:=TC.kx D1.kx GD sT1;have GSD:=GSC.kx D1.kx GD sG2;have YD:=Mk.kx YC D1.kx GD s3V;have CD:=Mk.kx hC.out D1.kx GD s4V;have lD:=WD _ _ D2';have ld5:∀(K:AV->St->Option (AV×St)),ak c (.load (some 5)) [.ptr p3 0] sD K=K (.agg [V1,V2,V3,V4,V5]) sD:=λK=>by rw[tX,D1.h3];rfl
    have one5:aS [V1,V2,V3,V4,V5]=true:=by
        have a1:V1.one=true:=rD TD.out.cells.2;have a2:V2.one=true:=rD v2;have a3:V3.one=true:=rD v3;have a4:V4.one=true:=rD CD.cells.2;have a5:V5.one=true:=rD D1.out.cells.2;simp only[aS,a1,a2,a3,a4,a5,Zj4]
    have sto5:∀(K:AV->St->Option (AV×St)),ak c (.store 5) [.ptr p2 0,.agg [V1,V2,V3,V4,V5]] sD K=K .undef (cI sD p2 (.cells [V1,V2,V3,V4,V5] 0)):=λK=>by rw[dN c K _ 5 p2 0 (.agg [V1,V2,V3,V4,V5]) _ D2' rfl (by simp) one5];rfl
    have kE:KX p2 sD (cI sD p2 (.cells [V1,V2,V3,V4,V5] 0)):=(KX.refl WD).store lD _;have GE:=uT hw GD (show st.next.toNat<=p2.toNat by omega) lD (.cells [V1,V2,V3,V4,V5] 0);obtain⟨ij,t1,t2⟩:=PS.afz (p:=ni xt xg xy xr) (TD.kx kE GE (sT1.le (by omega))) (GSD.kx kE GE (sG2.le (by omega))) (Mk.kx YD kE GE λb hb=>by have:=s3V b hb;omega) (Mk.kx CD kE GE λb hb=>by have:=s4V b hb;omega) (Mk.kx D1.out kE GE λb hb=>by have:=s5V b hb;omega);have hfin:Q (some (.agg [V1,V2,V3,V4,V5],cI sD p2 (.cells [V1,V2,V3,V4,V5] 0))):=(by rw[hQ];exact⟨_,_,rfl,ij,t1,t2⟩);rw[aG,aG,aG,cN,aC,e3',aG,aG,cN,ld5,sto5,TE,dF];exact hfin
  . intro j hj;rw[c9,ld2,GZ,bS (by omega) (by omega),ady];by_cases h4:0<xy.length % 4
    .   rw[H5 (show(0:Int)<(xy.length:Int) % 4 by omega),jV,aC,e2',aG,aG,aG,cN];refine hj sC1 V41 ?_;have:mz xt xg xy=yR xg (kL xt xg).length:=(by unfold mz;rw[Za6 h4]);rw[this];exact C1
    .   rw[Za1 (show ¬(0:Int)<(xy.length:Int) % 4 by omega),lf];refine hj sB .ah ?_;have:mz xt xg xy=[]:=(by unfold mz;rw[Za3 h4]);rw[this];exact C0
 obtain⟨Vs,s',k1,ij,k2,k3⟩:=key;refine⟨Vs,ij,?_,k3⟩;rw[Fe hc 400 (r:=(.agg Vs,s')) k1,k2]
end
end Go.Proofs.YtlkadmkojjceiaaGreatDoor
