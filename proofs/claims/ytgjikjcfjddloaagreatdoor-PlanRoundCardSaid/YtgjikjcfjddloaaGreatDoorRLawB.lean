/- Functions of the program, plainly, and what they answer. -/
import Derived.Test.YtgjikjcfjddloaaGreatDoorRLawA
set_option linter.all false
set_option maxRecDepth 100000
set_option maxHeartbeats 4000000
namespace Go.Proofs.YtgjikjcfjddloaaGreatDoor
section
open Go Go.Ai Go.Proofs
variable{c:ai}
theorem xV{R:Type}(P:(List AV->St->Option R)->Prop){A:(List AV->St->Option R)->Option R}{T:List AV->St->Option R}{r:Option R}(hT:P T)(hA:∀j,P j->A j=r):gX A T=r:=hA T hT
theorem JG{R:Type}(c:ai)(K:AV->St->Option R)(st:St)(es:Nat)(z:Bool)(rs:List (List AV))(k k':IntKind)(i j:Nat)(h:i<j)(h2:j<=rs.length):
  aj c (.sliceL es true true false) [ro es z rs,.int k (i:Int),.int k' (j:Int)] st K=K (ro es false ((rs.take j).drop i)) st:=by
 have:∀H n,av.run H n (.sliceL es true true false) [ro es z rs,.int k (i:Int),.int k' (j:Int)]=some (.val (ro es false ((rs.take j).drop i))):=λH n=>by
  rw[Z9 (by intro e;subst e;simp at h2;omega)];have h3:i<=j:=by omega
  simp[av.run,lS,bounds,eI,cI,cX,h3,h2,ro]
 exact aH c K this st
theorem UO(ts:List aK):∀(m k:Nat),(ic ts m k).2=0->∀i,k<=i->i<k+m->∀h:i<ts.length,nE ts[i]=0
 |0,k,_,i,h1,h2,_=>by omega
 |m +   1,k,h,i,h1,h2,hi=>by
  have hk:k<ts.length:=by omega
  rw[ic,H4 hk]at h;simp only at h;by_cases h3:nE ts[k]=0
  . rw[Za3 (by simp[h3])]at h;by_cases h4:0<=scan (nN ts ts[k].name) k 0
    .   rw[Za9 h4]at h;simp at h
    .   rw[Za3 h4]at h;by_cases e:i=k
        .subst e;exact h3
        .exact UO ts m (k+1) h i (by omega) (by omega) hi
  .rw[Za9 h3]at h;exact absurd h h3
theorem FV{ts:List aK}(h:(bI ts).2=0)(i:Nat)(hi:i<ts.length):nE ts[i]=0:=by
 unfold bI at h;split at h
 .simp at h
 .exact UO ts ts.length 0 h i (by omega) (by omega) hi
theorem FW{t:aK}(h:nE t=0):(bI [t]).2=0:=by
 simp[bI,ic,h,scan]
def gi(p:bX)(s:List Nat):Int:=scan (fY p.gs s) p.gs.length 0
def ti(p:bX)(s:List Nat):Int:=scan (nN p.ts s) p.ts.length 0
def vL(p:bX)(i:Int):Int:=match p.ts[i.toNat]? with
 |some t=>bH t
 |none=>0
def zq(k:Kd)(r:Rl)(m:Int):Int:=if k.n=true/\(r.n<k.lo\/m<r.n)then 42 else 0
def RX(k:Kd)(p:bX)(r:Rl):Int:=
 if(k.t=116/\ti p r.t<0)\/(k.t=101/\r.t≠[]/\ti p r.t<0)then 6
 else zq k r (if k.AY=true then vL p (ti p r.t) - 1 else 24)
def Yz(k:Kd)(p:bX)(r:Rl):Int:=
 if k.a=100/\fI r.a=false then 4 else if k.b=true/\r.a=r.b then 5 else RX k p r
def P0(k:Kd)(p:bX)(r:Rl):Int:=
 if k.w=[]then 40 else if r.wt<0\/1000<r.wt then 41 else if HX k r=false then 43
 else if(k.a=103/\gi p r.a<0)\/(k.a=101/\r.a≠[]/\gi p r.a<0)\/(k.b=true/\gi p r.b<0)then 6
 else Yz k p r
theorem adI (hc : Sem c)(k:Kd)(hk:k.AY=true->k.t=116)(p:bX)(hp:p.HW)(hv:(bI p.ts).2=0)(r:Rl)(st:St)(hw:Wf st):
   c 85 [.agg k.cells,.agg p.cells,.agg r.cells] st=some (.int .i64 (P0 k p r),st):=by
 have dm:Wf (af st (.cells k.cells 0)):=bU hw;have jy:=bU (b:= .cells p.cells 0) dm;have hg3:=Grew.af jy (.cells r.cells 0);have BA:=Grew.af dm (.cells p.cells 0);have hg:=((Grew.af hw (.cells k.cells 0)).trans BA).trans hg3;have YA:=hg.wf;have p1:=hg3.get (BA.get (aE st (.cells k.cells 0)));have p2:=hg3.get (aE (af st (.cells k.cells 0)) (.cells p.cells 0));have p3:=aE (af (af st (.cells k.cells 0)) (.cells p.cells 0)) (.cells r.cells 0);have A:=λs=>aip hc p hp s _ YA
 have B:=afV hc k r _ YA;have D:=aax hc p.tz p.ts hp.ok (by have:=hp.ts;unfold pG;omega) r.t _ YA;have N:=Yd hc r.a (af (af (af st (.cells k.cells 0)) (.cells p.cells 0)) (.cells r.cells 0));rw[KH hc 1 (r:=(.int .i64 (P0 k p r),af (af (af st (.cells k.cells 0)) (.cells p.cells 0)) (.cells r.cells 0))),aD (Plain.int _ _) hg.keeps];rw[NK];simp only[ff,ak,AV.cells];generalize af (af (af st (.cells k.cells 0)) (.cells p.cells 0)) (.cells r.cells 0)=s at*
 generalize (af (af st (.cells k.cells 0)) (.cells p.cells 0)).next=q3 at*
 generalize (af st (.cells k.cells 0)).next=q2 at*
 generalize st.next=q1 at*
 refine xV (P:=λj=>j [.ptr q1 0,.ptr q2 0,.ptr q3 0] s=some (.int .i64 (RX k p r),s)) ?_ ?_
 . have D2  : c 128 [tabs p.tz p.ts,.str r.t] s=some (.tuple [.int .i64 (if 0<=ti p r.t then ti p r.t else 0),.bool (decide (0<=ti p r.t))],s):=(by simp only[hv,Zm5]at D;exact D);have TZ:=AU (P:=nN p.ts r.t) p.ts.length 0;clear D A B N hg BA hg3 hw dm jy;unfold RX;by_cases ht:0<=ti p r.t
   . have MK  : ¬ ti p r.t<0:=(by omega);obtain⟨i,hi⟩:∃i:Nat,ti p r.t=(i:Int):=⟨(ti p r.t).toNat,by omega⟩
     have iT:i<p.ts.length:=(by have:=(TZ ht).2.1;unfold ti at hi;rw[hi]at this;simpa using this);simp only[ht,Zh0,Zg2]at D2;by_cases h1:k.t=116
     .  simp[ p1,p2,p3,D2,h1,MK];refine xV (P:=λj=>∀m,j [.ptr q1 0,.ptr q3 0,.int .i64 m] s=some (.int .i64 (zq k r m),s)) ?_ ?_
        . intro m;unfold zq;cases hn:k.n with
          |false=>simp[p1,hn]
          | true=>
            by_cases e1:r.n<k.lo
            .simp[p1,p3,hn,e1]
            . by_cases e2:m<r.n
              .simp[p1,p3,hn,e1,e2]
              .simp[p1,p3,hn,e1,e2]
        . intro j hj;cases hs:k.AY with
          |false=>simp[p1,hs,hj]
          | true=>
            have w:au .i64 ((i:Int)+1)=(i:Int)+1:=(by have:=hp.ts;exact wrap64 (by omega) (by omega));have cnt:=AW hc false [p.ts[i]] (λt ht=>by simp only[Zd7]at ht;subst ht;exact hp.ok _ (Zc0 iT)) s YA;rw[Za9 (FW (FV hv i iT)),show aY [p.ts[i]]=bH p.ts[i]by simp[aY]]at cnt;have b:=Er p.ts[i];have w2:au .i64 (bH p.ts[i] - 1)=bH p.ts[i] - 1:=wrap64 (by omega) (by omega);have hcut:∀K:AV->St->Option (AV×St),aj c (.sliceL 7 true true false) [tabs p.tz p.ts,.int .i64 (i:Int),.int .i64 ((i:Int)+1)] s K=K (tabs false [p.ts[i]]) s:=λK=>by
              (unfold tabs;have:=JG c K s 7 p.tz (p.ts.map aK.cells) .i64 .i64 i (i+1) (by omega) (by rw[Zb3];omega);rw[show((i:Int)+1)=((i+1:Nat):Int)by omega,this];have e:((p.ts.map aK.cells).take (i+1)).drop i=[p.ts[i]].map aK.cells:=by rw[Ze0 (by simpa using iT),Zh5 (by simp;omega)];simp);rw[e]
            have e3:vL p (i:Int)=bH p.ts[i]:=(by simp[vL,iT]);simp[p1,p2,hs,hi,e3,w,hcut,cnt,hj,w2]
     .  by_cases h2 :k.t=101
        . by_cases h3:r.t=[]
          . simp only[h3]at D2 MK hi;simp[p1,p2,p3,D2,h1,h2,h3,MK];refine xV (P:=λj=>∀m,j [.ptr q1 0,.ptr q3 0,.int .i64 m] s=some (.int .i64 (zq k r m),s)) ?_ ?_
            . intro m;unfold zq;cases hn:k.n with
              |false=>simp[p1,hn]
              | true=>
                by_cases e1:r.n<k.lo
                .simp[p1,p3,hn,e1]
                . by_cases e2:m<r.n
                  .simp[p1,p3,hn,e1,e2]
                  .simp[p1,p3,hn,e1,e2]
            . intro j hj;cases hs:k.AY with
              |false=>simp[p1,hs,hj]
              | true=>
                have w:au .i64 ((i:Int)+1)=(i:Int)+1:=(by have:=hp.ts;exact wrap64 (by omega) (by omega));have cnt:=AW hc false [p.ts[i]] (λt ht=>by simp only[Zd7]at ht;subst ht;exact hp.ok _ (Zc0 iT)) s YA;rw[Za9 (FW (FV hv i iT)),show aY [p.ts[i]]=bH p.ts[i]by simp[aY]]at cnt;have b:=Er p.ts[i];have w2:au .i64 (bH p.ts[i] - 1)=bH p.ts[i] - 1:=wrap64 (by omega) (by omega);have hcut:∀K:AV->St->Option (AV×St),aj c (.sliceL 7 true true false) [tabs p.tz p.ts,.int .i64 (i:Int),.int .i64 ((i:Int)+1)] s K=K (tabs false [p.ts[i]]) s:=λK=>by
                  (unfold tabs;have:=JG c K s 7 p.tz (p.ts.map aK.cells) .i64 .i64 i (i+1) (by omega) (by rw[Zb3];omega);rw[show((i:Int)+1)=((i+1:Nat):Int)by omega,this];have e:((p.ts.map aK.cells).take (i+1)).drop i=[p.ts[i]].map aK.cells:=by rw[Ze0 (by simpa using iT),Zh5 (by simp;omega)];simp);rw[e]
                have e3:vL p (i:Int)=bH p.ts[i]:=(by simp[vL,iT]);simp[p1,p2,hs,hi,e3,w,hcut,cnt,hj,w2]
          . simp[ p1,p2,p3,D2,h1,h2,h3,MK];refine xV (P:=λj=>∀m,j [.ptr q1 0,.ptr q3 0,.int .i64 m] s=some (.int .i64 (zq k r m),s)) ?_ ?_
            . intro m;unfold zq;cases hn:k.n with
              |false=>simp[p1,hn]
              | true=>
                by_cases e1:r.n<k.lo
                .simp[p1,p3,hn,e1]
                . by_cases e2:m<r.n
                  .simp[p1,p3,hn,e1,e2]
                  .simp[p1,p3,hn,e1,e2]
            . intro j hj;cases hs:k.AY with
              |false=>simp[p1,hs,hj]
              | true=>
                have w:au .i64 ((i:Int)+1)=(i:Int)+1:=(by have:=hp.ts;exact wrap64 (by omega) (by omega));have cnt:=AW hc false [p.ts[i]] (λt ht=>by simp only[Zd7]at ht;subst ht;exact hp.ok _ (Zc0 iT)) s YA;rw[Za9 (FW (FV hv i iT)),show aY [p.ts[i]]=bH p.ts[i]by simp[aY]]at cnt;have b:=Er p.ts[i];have w2:au .i64 (bH p.ts[i] - 1)=bH p.ts[i] - 1:=wrap64 (by omega) (by omega);have hcut:∀K:AV->St->Option (AV×St),aj c (.sliceL 7 true true false) [tabs p.tz p.ts,.int .i64 (i:Int),.int .i64 ((i:Int)+1)] s K=K (tabs false [p.ts[i]]) s:=λK=>by
                  (unfold tabs;have:=JG c K s 7 p.tz (p.ts.map aK.cells) .i64 .i64 i (i+1) (by omega) (by rw[Zb3];omega);rw[show((i:Int)+1)=((i+1:Nat):Int)by omega,this];have e:((p.ts.map aK.cells).take (i+1)).drop i=[p.ts[i]].map aK.cells:=by rw[Ze0 (by simpa using iT),Zh5 (by simp;omega)];simp);rw[e]
                have e3:vL p (i:Int)=bH p.ts[i]:=(by simp[vL,iT]);simp[p1,p2,hs,hi,e3,w,hcut,cnt,hj,w2]
        . simp[ p1,p2,p3,D2,h1,h2,MK];refine xV (P:=λj=>∀m,j [.ptr q1 0,.ptr q3 0,.int .i64 m] s=some (.int .i64 (zq k r m),s)) ?_ ?_
          . intro m;unfold zq;cases hn:k.n with
            |false=>simp[p1,hn]
            | true=>
              by_cases e1:r.n<k.lo
              .simp[p1,p3,hn,e1]
              . by_cases e2:m<r.n
                .simp[p1,p3,hn,e1,e2]
                .simp[p1,p3,hn,e1,e2]
          . intro j hj;cases hs:k.AY with
            |false=>simp[p1,hs,hj]
            | true=>
              have w:au .i64 ((i:Int)+1)=(i:Int)+1:=(by have:=hp.ts;exact wrap64 (by omega) (by omega));have cnt:=AW hc false [p.ts[i]] (λt ht=>by simp only[Zd7]at ht;subst ht;exact hp.ok _ (Zc0 iT)) s YA;rw[Za9 (FW (FV hv i iT)),show aY [p.ts[i]]=bH p.ts[i]by simp[aY]]at cnt;have b:=Er p.ts[i];have w2:au .i64 (bH p.ts[i] - 1)=bH p.ts[i] - 1:=wrap64 (by omega) (by omega);have hcut:∀K:AV->St->Option (AV×St),aj c (.sliceL 7 true true false) [tabs p.tz p.ts,.int .i64 (i:Int),.int .i64 ((i:Int)+1)] s K=K (tabs false [p.ts[i]]) s:=λK=>by
                (unfold tabs;have:=JG c K s 7 p.tz (p.ts.map aK.cells) .i64 .i64 i (i+1) (by omega) (by rw[Zb3];omega);rw[show((i:Int)+1)=((i+1:Nat):Int)by omega,this];have e:((p.ts.map aK.cells).take (i+1)).drop i=[p.ts[i]].map aK.cells:=by rw[Ze0 (by simpa using iT),Zh5 (by simp;omega)];simp);rw[e]
              have e3:vL p (i:Int)=bH p.ts[i]:=(by simp[vL,iT]);simp[p1,p2,hs,hi,e3,w,hcut,cnt,hj,w2]
   . have MK  : ti p r.t<0:=(by omega);simp only[ht,Zf9,decide_false]at D2;by_cases h1:k.t=116
     .  simp[p1,p2,p3,D2,h1,MK]
     .  by_cases h2:k.t=101
        . by_cases h3:r.t=[]
          . simp only[h3]at D2 MK;simp[p1,p2,p3,D2,h1,h2,h3,MK];refine xV (P:=λj=>∀m,j [.ptr q1 0,.ptr q3 0,.int .i64 m] s=some (.int .i64 (zq k r m),s)) ?_ ?_
            . intro m;unfold zq;cases hn:k.n with
              |false=>simp[p1,hn]
              | true=>
                by_cases e1:r.n<k.lo
                .simp[p1,p3,hn,e1]
                . by_cases e2:m<r.n
                  .simp[p1,p3,hn,e1,e2]
                  .simp[p1,p3,hn,e1,e2]
            . intro j hj;have hs:k.AY=false:=by
                cases h:k.AY with
                |false=>rfl
                |true=>exact absurd (hk h) h1
              simp[p1,hs,hj]
          .simp[p1,p2,p3,D2,h1,h2,h3,MK]
        . simp[ p1,p2,p3,D2,h1,h2,MK];refine xV (P:=λj=>∀m,j [.ptr q1 0,.ptr q3 0,.int .i64 m] s=some (.int .i64 (zq k r m),s)) ?_ ?_
          . intro m;unfold zq;cases hn:k.n with
            |false=>simp[p1,hn]
            | true=>
              by_cases e1:r.n<k.lo
              .simp[p1,p3,hn,e1]
              . by_cases e2:m<r.n
                .simp[p1,p3,hn,e1,e2]
                .simp[p1,p3,hn,e1,e2]
          . intro j hj;have hs:k.AY=false:=by
              cases h:k.AY with
              |false=>rfl
              |true=>exact absurd (hk h) h1
            simp[p1,hs,hj]
 . intro  j hj;have A2:∀nm,c 150 [.agg p.cells,.str nm] s=some (.int .i64 (gi p nm),s):=A;have cc:cut r.cells 0 6=some r.cells:=bY rfl;clear A D hg BA hg3 hw dm jy;unfold P0;by_cases h0:k.w=[]
   .simp[p1,h0]
   by_cases h1:r.wt<0
   .simp[p1,p3,h0,h1]
   by_cases h2:1000<r.wt
   .simp[p1,p3,h0,h1,h2]
   cases h3:HX k r with
   |false=>simp[p1,p3,h0,h1,h2,B,h3]
   |true=>
   simp[p1,p3,h0,h1,h2,B,h3];refine xV (P:=λj'=>∀b:Bool,j' [.ptr q1 0,.ptr q2 0,.ptr q3 0,.bool b] s=some (.int .i64 (if b=true then 6 else Yz k p r),s)) ?_ ?_
   . intro  b;cases b with
     |true=>simp
     |  false =>
        unfold Yz;by_cases a1:k.a=100
        . cases a2:fI r.a with
          |false=>simp[p1,p3,a1,a2,N]
          | true=>
            cases b1:k.b with
            |false=>simp[p1,p3,a1,a2,N,b1,hj]
            | true=>
              by_cases b2:r.a=r.b
              .rw[b2]at a2 N;simp[p1,p3,a1,a2,N,b1,b2]
              .simp[p1,p3,a1,a2,N,b1,b2,hj]
        . cases b1:k.b with
          |false=>simp[p1,p3,a1,b1,hj]
          | true=>
            by_cases b2:r.a=r.b
            .simp[p1,p3,a1,b1,b2]
            .simp[p1,p3,a1,b1,b2,hj]
   . intro  j' Bn;have K6:=Bn true;have K0:=Bn false;simp only[Zh0,Ze5,Zf9]at K6 K0;clear Bn hj;by_cases a1:k.a=103
     .  by_cases g1:gi p r.a<0
        .simp[p1,p2,p3,a1,A2,g1,K6]
        . cases b1:k.b with
          |false=>simp[p1,p2,p3,a1,A2,g1,b1,K0]
          | true=>
            by_cases g2:gi p r.b<0
            .simp[p1,p2,p3,a1,A2,g1,g2,b1,K6]
            .simp[p1,p2,p3,a1,A2,g1,g2,b1,K0]
     .  by_cases a2:k.a=101
        . by_cases e:r.a=[]
          . cases b1:k.b with
            |false=>simp[p1,p2,p3,a1,a2,e,A2,b1,K0]
            | true=>
              by_cases g2:gi p r.b<0
              .simp[p1,p2,p3,a1,a2,e,A2,g2,b1,K6]
              .simp[p1,p2,p3,a1,a2,e,A2,g2,b1,K0]
          . by_cases g1:gi p r.a<0
            .simp[p1,p2,p3,a1,a2,e,A2,g1,K6]
            . cases b1:k.b with
              |false=>simp[p1,p2,p3,a1,a2,e,A2,g1,b1,K0]
              | true=>
                by_cases g2:gi p r.b<0
                .simp[p1,p2,p3,a1,a2,e,A2,g1,g2,b1,K6]
                .simp[p1,p2,p3,a1,a2,e,A2,g1,g2,b1,K0]
        . cases b1:k.b with
          |false=>simp[p1,p2,p3,a1,a2,A2,b1,K0]
          | true=>
            by_cases g2:gi p r.b<0
            .simp[p1,p2,p3,a1,a2,A2,g2,b1,K6]
            .simp[p1,p2,p3,a1,a2,A2,g2,b1,K0]
def kd:Nat->Kd
 |1=>⟨[97,112,97,114,116],103,true,0,true,0,false,.func 131 [] []⟩
 |2=>⟨[98,101,115,105,100,101],103,true,0,false,0,false,.func 132 [] []⟩
 |3=>⟨[97,99,114,111,115,115],103,true,0,false,0,false,.func 133 [] []⟩
 |4=>⟨[110,101,97,114],103,true,0,true,1,false,.func 134 [] []⟩
 |5=>⟨[116,111,103,101,116,104,101,114],103,true,0,false,0,false,.func 135 [] []⟩
 |6=>⟨[97,116],103,false,116,false,0,false,.func 136 [] []⟩
 |7=>⟨[115,101,97,116],103,false,116,true,0,true,.func 137 [] []⟩
 |8=>⟨[97,108,116,101,114,110,97,116,101],0,false,101,false,0,false,.func 138 [] []⟩
 |9=>⟨[104,111,115,116],0,false,101,false,0,false,.func 139 [] []⟩
 |10=>⟨[114,101,97,99,104],101,false,0,false,0,false,.func 140 [] []⟩
 |11=>⟨[115,112,101,97,107],0,false,101,false,0,false,.func 141 [] []⟩
 |12=>⟨[112,101,97,99,101],0,false,101,false,0,false,.func 142 [] []⟩
 |13=>⟨[99,111,109,112,97,110,121],0,false,101,false,0,false,.func 143 [] []⟩
 |14=>⟨[104,111,110,111,117,114],0,false,101,false,0,false,.func 144 [] []⟩
 |15=>⟨[102,105,108,108],0,false,101,true,0,false,.func 145 [] []⟩
 |16=>⟨[108,105,109,105,116],0,false,101,true,0,false,.func 146 [] []⟩
 |17=>⟨[107,105,116,99,104,101,110],100,false,116,false,0,false,.func 147 [] []⟩
 |18=>⟨[109,105,120],0,false,101,false,0,false,.func 148 [] []⟩
 |_=>⟨[],0,false,0,false,0,false,.jV⟩
def UP:List (AV×AV×Nat):=[(.int .u8 1,.agg (kd 1).cells,0),(.int .u8 2,.agg (kd 2).cells,1),(.int .u8 3,.agg (kd 3).cells,2),(.int .u8 4,.agg (kd 4).cells,3),(.int .u8 5,.agg (kd 5).cells,4),(.int .u8 6,.agg (kd 6).cells,5),(.int .u8 7,.agg (kd 7).cells,6),(.int .u8 8,.agg (kd 8).cells,7),(.int .u8 9,.agg (kd 9).cells,8),(.int .u8 10,.agg (kd 10).cells,9),(.int .u8 11,.agg (kd 11).cells,10),(.int .u8 12,.agg (kd 12).cells,11),(.int .u8 13,.agg (kd 13).cells,12),(.int .u8 14,.agg (kd 14).cells,13),(.int .u8 15,.agg (kd 15).cells,14),(.int .u8 16,.agg (kd 16).cells,15),(.int .u8 17,.agg (kd 17).cells,16),(.int .u8 18,.agg (kd 18).cells,17)]
theorem VC(p:Pos):¬Plain (.map p):=λh=>by have:=h (λ_=>(⟨0,0,0⟩:Go.Ai.Loc)) (λ_=>⟨1,0,0⟩) (p.toNat+1) (p.toNat+1) (λ_=>none) _ (.map p (Nat.lt_succ_self _));cases this
theorem afW(st:St)(p:Pos)(s':St):tidy st (.map p,s')=(.map p,s'):=by unfold tidy;rw[Za3];exact λe=>VC p e.1
theorem dR{R:Type}(c:ai)(K:AV->St->Option R)(st:St)(z:List AV)(ps:List (Nat×Nat))(xs l:List AV)(h:cW z ps xs=some l):aj c (.build z ps) xs st K=K (.agg l) st:=by rw[jC,h];rfl
theorem dS{R:Type}(c:ai)(K:AV->St->Option R)(st:St)(es:List (AV×AV×Nat))(cl:Nat)(k:IntKind)(x:Int)(v:AV)(hf:jY .i (.int k x) es 0=some none):
  aj c (.mapSet .i) [.map st.next,.int k x,v] (af st (.map es cl)) K=K .undef (af st (.map (es++[(.int k x,v,cl)]) (cl+1))):=by
 have:av.run (λb=>(af st (.map es cl)).heap.get b) (af st (.map es cl)).next (.mapSet .i) [.map st.next,.int k x,v]=some (.aG .undef none (some (st.next,.map (es++[(.int k x,v,cl)]) (cl+1))) none):=by
  simp[av.run,xC,hf,aaQ]
 unfold aj bP;rw[this];show K .undef (cj (af st (.map es cl)) st.next _)=_;rw[Du]
theorem afX(hc:Sem c)(s:St):c 84 [] s=some (.map s.next,af s (.map UP 18)):=by
 rw[Ta hc 1 (r:=(.map s.next,af s (.map UP 18))),afW];rw[XY];rw[ak,adb];rw[dR (l:=(kd 1).cells) (h:=rfl),dS (hf:=rfl)];rw[dR (l:=(kd 2).cells) (h:=rfl),dS (hf:=rfl)];rw[dR (l:=(kd 3).cells) (h:=rfl),dS (hf:=rfl)];rw[dR (l:=(kd 4).cells) (h:=rfl),dS (hf:=rfl)];rw[dR (l:=(kd 5).cells) (h:=rfl),dS (hf:=rfl)];rw[dR (l:=(kd 6).cells) (h:=rfl),dS (hf:=rfl)];rw[dR (l:=(kd 7).cells) (h:=rfl),dS (hf:=rfl)];rw[dR (l:=(kd 8).cells) (h:=rfl),dS (hf:=rfl)];rw[dR (l:=(kd 9).cells) (h:=rfl),dS (hf:=rfl)];rw[dR (l:=(kd 10).cells) (h:=rfl),dS (hf:=rfl)];rw[dR (l:=(kd 11).cells) (h:=rfl),dS (hf:=rfl)];rw[dR (l:=(kd 12).cells) (h:=rfl),dS (hf:=rfl)];rw[dR (l:=(kd 13).cells) (h:=rfl),dS (hf:=rfl)];rw[dR (l:=(kd 14).cells) (h:=rfl),dS (hf:=rfl)];rw[dR (l:=(kd 15).cells) (h:=rfl),dS (hf:=rfl)];rw[dR (l:=(kd 16).cells) (h:=rfl),dS (hf:=rfl)];rw[dR (l:=(kd 17).cells) (h:=rfl),dS (hf:=rfl)];rw[dR (l:=(kd 18).cells) (h:=rfl),dS (hf:=rfl)];rw[ak,ak]
 .rfl
theorem ahC{R:Type}(c:ai)(K:AV->St->Option R)(st:St)(m:Pos)(cl:Nat)(h:st.heap.get m=some (.map UP cl))(n:Nat):
   aj c (.lookup .i (.agg [.str [],.int .u8 0,.bool false,.int .u8 0,.bool false,.int .i64 0,.bool false,.jV]) false) [.map m,.int .u8 (n:Int)] st K=K (.agg (kd n).cells) st:=by
 have e:jY .i (.int .u8 (n:Int)) UP 0=some (if 1<=n/\n<=18 then some (n - 1,.agg (kd n).cells)else none):=by
   by_cases h:n<=18
   .have:n=0\/n=1\/n=2\/n=3\/n=4\/n=5\/n=6\/n=7\/n=8\/n=9\/n=10\/n=11\/n=12\/n=13\/n=14\/n=15\/n=16\/n=17\/n=18:=(by omega);rcases this with rfl|rfl|rfl|rfl|rfl|rfl|rfl|rfl|rfl|rfl|rfl|rfl|rfl|rfl|rfl|rfl|rfl|rfl|rfl<;>rfl
   . have UI:∀j:Int,j<=18->wM (n:Int) j=false:=λj hj=>by rw[lC];simp;omega
     rw[Za3 (by omega)];simp[UP,jY,Ay,UI,cU]
 have:∀z:AV,av.run (λb=>st.heap.get b) st.next (.lookup .i z false) [.map m,.int .u8 (n:Int)]=some (.val (if 1<=n/\n<=18 then .agg (kd n).cells else z)):=λz=>by
   simp only[av.run,xB,h,e];by_cases h1:1<=n/\n<=18
   .rw[Za9 h1,Za9 h1]
   .rw[Za3 h1,Za3 h1]
 unfold aj bP;rw[this];by_cases h1:1<=n/\n<=18
 .rw[Za9 h1]
 .rw[Za3 h1];have:kd n=⟨[],0,false,0,false,0,false,.jV⟩:=(by unfold kd;split<;>first|rfl|omega);rw[this];rfl
theorem ahD(n:Nat):(kd n).AY=true->(kd n).t=116:=by unfold kd;split<;>simp
def Rl.Ok(r:Rl):Prop:=0<=r.k/\r.k<256
def u5(p:bX)(r:Rl):Int:=P0 (kd r.k.toNat) p r
def kY(p:bX):Nat->Nat->Int×Int
 |0,_=>(0,0)
 |  m+1,i=>match p.rs[i]? with
    |none=>(0,0)
    |some r=>if u5 p r≠0 then((i:Int),u5 p r)else if i=64 then((i:Int),7)else kY p m (i+1)
theorem OW(p:bX):∀(m i:Nat),(kY p m i).2=0->(kY p m i).1=0
 |0,_,_=>rfl
 |m+    1,i,h=>by
  rw[kY]at h ⊢;cases h0:p.rs[i]? with
  |none=>rfl
  |some r=>
   rw[h0]at h;simp only at h ⊢;by_cases h1:u5 p r=0
   .    rw[Za3 (by simp[h1])]at h ⊢;by_cases h2:i=64
        .rw[Za9 h2]at h;simp at h
        .rw[Za3 h2]at h ⊢; exact OW p m (i+1) h
   .    rw[Za9 h1]at h;exact absurd h h1
def fK(p:bX):Int×Int:=if(jG p).2≠0 then jG p else kY p 100 0
theorem abM(hc:Sem c)(p:bX)(hp:p.HW)(hr:∀r∈p.rs,r.Ok)(hv:(bI p.ts).2=0)(q1 mp:Pos)(cl:Nat)(F:Nat)(k1 k2):∀(m k:Nat)(st:St),Wf st->st.heap.get q1=some (.cells p.cells 0)->st.heap.get mp=some (.map UP cl)->p.rs.length<=k+m->k<=p.rs.length->
  ∃st',Grew st st'/\rU c F k1 k2 (m+1) [.ptr q1 0,.map mp,HV p.rz p.rs,.int .i64 (p.rs.length:Int),.int .i64 (k:Int)] st=if(kY p m k).2=0 then k2 [] st' else k1 [.int .i64 (kY p m k).1,.int .i64 (kY p m k).2] st':=by
 have hl:=hp.rs;intro m;induction m with
 |zero=>
  intro k st hw h1 h2 h3 h4;obtain rfl:k=p.rs.length:=by omega
  refine⟨st,Grew.refl hw,?_⟩;rw[yT];simp[kY]
 |succ m ih=>
  intro k st hw hq hm h3 h4;by_cases h:k<p.rs.length
  . have w:au .i64 ((k:Int)+1)=((k+1:Nat):Int):=wrap64 (by omega) (by omega);have dm:Wf (af st (.cells p.rs[k].cells 0)):=bU hw;have hg:=Grew.af hw (.cells p.rs[k].cells 0);have hq1:=hg.get hq;have kg:=hg.get hm;have hn:=aE st (.cells p.rs[k].cells 0);obtain⟨n,hk⟩:∃n:Nat,p.rs[k].k=(n:Int):=⟨p.rs[k].k.toNat,by have:=(hr _ (Zc0 h)).1;omega⟩
    have ZV:=adI hc (kd n) (ahD n) p hp hv p.rs[k] _ dm;have hS:u5 p p.rs[k]=P0 (kd n) p p.rs[k]:=(by unfold u5;rw[hk];rfl);have I1:=λ(K:AV->St->Option (AV×St))=>ahC c K _ mp cl kg n
    have jP:=λ(K:AV->St->Option (AV×St))=>eG c K st 6 (.agg p.rs[k].cells) [.int .u8 0,.int .i64 0,.str [],.str [],.str [],.int .i64 0] rfl rfl (Rl.one _)
    rw[show(AV.agg p.rs[k].cells).cells=p.rs[k].cells from rfl]at jP;rw[<-hS]at ZV;rw[<-hk]at I1;obtain⟨st',g1,g2⟩:=ih (k+1) _ dm hq1 kg (by omega) (by omega);rw[yT,kY,H4 h];simp only;by_cases h5:u5 p p.rs[k]=0
    .   rw[Za3 (by simp[h5])];by_cases h6:k=64
        .refine⟨_,hg,?_⟩;rw[Za9 h6];have h6i:decide ((k:Int)=64)=true:=(by simp only[Ze2];omega);simp[-eG,jP,HV,h,hq1,kg,I1,ZV,h5,h6i]
        .refine⟨st',hg.trans g1,?_⟩;rw[Za3 h6, <-g2];have h6i:¬(k:Int)=64:=(by omega);simp[-eG,jP,HV,h,hq1,kg,I1,ZV,h5,h6i,w]
    .   refine⟨_,hg,?_⟩;rw[Za9 h5];simp[-eG,jP,HV,h,hq1,kg,I1,ZV,h5]
  .obtain rfl:k=p.rs.length:=(by omega);refine⟨st,Grew.refl hw,?_⟩;rw[yT];simp[kY]
theorem ZD{p:bX}(h:(jG p).2=0):(bI p.ts).2=0:=by
 unfold jG at h;by_cases h1:(bI p.ts).2=0
 .exact h1
 .rw[Za9 h1]at h;exact absurd h h1
theorem VD(hc:Sem c)(p:bX)(hp:p.HW)(hR:Yx c p)(hr:∀r∈p.rs,r.Ok)(st:St)(hw:Wf st):c 45 [.agg p.cells] st=some (.tuple [.int .i64 (fK p).1,.int .i64 (fK p).2],st):=by
 have pR:Plain (.tuple [.int .i64 (fK p).1,.int .i64 (fK p).2]):=Plain.tuple (by simp[Plain.int]);have dm:Wf (af st (.cells p.cells 0)):=bU hw;have OV:=Grew.af hw (.cells p.cells 0);have fc:(af st (.cells p.cells 0)).heap.get st.next=some (.cells p.cells 0):=aE _ _;have B:=afS hc p hp hR _ dm;by_cases h:(jG p).2=0
 . have hv:=ZD h;have K:=afX hc (af st (.cells p.cells 0));have jy:Wf (af (af st (.cells p.cells 0)) (.map UP 18)):=bU dm;have BA:=Grew.af dm (.map UP 18);obtain⟨st',g1,g2⟩:=abM hc p hp hr hv st.next (af st (.cells p.cells 0)).next 18 101 (λvs s50=>iR vs λx2 vs=>iR vs λx3 vs=>om vs (
   some (.tuple [x2,x3],s50))) (λvs s51=>om vs (
   aj c .move [(.int .i64 0)] s51 λx2 s52=>
 aj c .move [(.int .i64 0)] s52 λx3 s53=>
 some (.tuple [x2,x3],s53))) 100 0 _ jy (BA.get fc) (aE _ _) (by have:=hp.rs;omega) (by omega)
   have e:fK p=kY p 100 0:=(by unfold fK;rw[Za3 (by simp[h])]);have e0:=ZC h;rw[HO hc 101 (r:=(.tuple [.int .i64 (fK p).1,.int .i64 (fK p).2],st')),aD pR ((OV.trans BA).trans g1).keeps];rw[L6,e];simp at g2;simp[fc,B,h,K,g2];by_cases h2:(kY p 100 0).2=0
   .have:=OW p 100 0 h2;simp[h2,this]
   .simp[h2]
 .have e:fK p=jG p:=(by unfold fK;rw[Za9 h]);rw[HO hc 101 (r:=(.tuple [.int .i64 (fK p).1,.int .i64 (fK p).2],af st (.cells p.cells 0))),aD pR OV.keeps];rw[L6,e];simp[fc,B,h]
end
section
open Go Go.Ai Go.Proofs
variable{c:ai}
end
section
open Go Go.Ai Go.Proofs
variable{c:ai}
theorem AZ{α β:Type}{P:α->α->Prop}{l l':List α}(hl:l'.length=l.length)(hs:∀(i:Nat)(t t':α),l[i]? =some t->l'[i]? =some t'->P t t')(f:α->β)(hf:∀t t',P t t'->f t'=f t)(i:Nat):l'[i]?.map f=l[i]?.map f:=by
 by_cases h:i<l.length
 .have h':i<l'.length:=(by omega);rw[H4 h,H4 h'];simp only[Zf1,H0];exact hf _ _ (hs i _ _ (H4 h) (H4 h'))
 .rw[Zb5 (by omega),Zb5 (by omega)]
theorem YE{t t':aK}(h:t.gH t'):nE t'=nE t:=by obtain⟨z,rfl⟩:=h;rfl
theorem HY{t t':aK}(h:t.gH t'):bH t'=bH t:=by obtain⟨z,rfl⟩:=h;rfl
theorem adJ{t t':aL}(h:t.gH t'):fH t'=fH t:=by obtain⟨z,rfl⟩:=h;rfl
variable{p p':bX}
theorem bX.gH.nm(h:p.gH p')(s:List Nat):nN p'.ts s=nN p.ts s:=funext λi=>by
 unfold nN;rw[AZ h.tl h.ts aK.name (λt t' k=>by obtain⟨z,rfl⟩:=k;rfl)]
theorem bX.gH.gm(h:p.gH p')(s:List Nat):fY p'.gs s=fY p.gs s:=funext λi=>by
 unfold fY;rw[AZ h.gl h.gs aL.name (λt t' k=>by obtain⟨z,rfl⟩:=k;rfl)]
theorem bX.gH.at(h:p.gH p'):∀(m k:Nat),ic p'.ts m k=ic p.ts m k
 |0,_=>rfl
 |m +1,k=>by
  have ih:=h.at m (k+1);unfold ic;by_cases hk:k<p.ts.length
  .have lW:k<p'.ts.length:=(by rw[h.tl];exact hk);have hs:=h.ts k _ _ (H4 hk) (H4 lW);have hn:p'.ts[k].name=p.ts[k].name:=(by obtain⟨z,e⟩:=hs;rw[e]);rw[H4 hk,H4 lW];simp only[YE hs,hn,h.nm,ih]
  .have lW:¬k<p'.ts.length:=(by rw[h.tl];exact hk);rw[Zb5 (by omega),Zb5 (by omega)]
theorem bX.gH.wu(h:p.gH p'):bI p'.ts=bI p.ts:=by unfold bI;rw[h.tl,h.at]
theorem bX.gH.gsAt(h:p.gH p'):∀(m k:Nat),ij p'.gs m k=ij p.gs m k
 |0,_=>rfl
 |m +1,k=>by
  have ih:=h.gsAt m (k+1);unfold ij;by_cases hk:k<p.gs.length
  .have lW:k<p'.gs.length:=(by rw[h.gl];exact hk);have hs:=h.gs k _ _ (H4 hk) (H4 lW);have hn:p'.gs[k].name=p.gs[k].name:=(by obtain⟨z,e⟩:=hs;rw[e]);rw[H4 hk,H4 lW];simp only[adJ hs,hn,h.gm,ih]
  .have lW:¬k<p'.gs.length:=(by rw[h.gl];exact hk);rw[Zb5 (by omega),Zb5 (by omega)]
theorem bX.gH.unk(h:p.gH p')(t:Ty):jM p'.gs t=jM p.gs t:=by unfold jM;rw[h.gm,h.gm,h.gl]
theorem bX.gH.tyAt(h:p.gH p')(ts:List Ty):∀(m k:Nat),fq p'.gs ts m k=fq p.gs ts m k
 |0,_=>rfl
 |m+1,k=>by
  have ih:=h.tyAt ts m (k+1);unfold fq;cases ts[k]? with
  |none=>rfl
  |some t=>simp only[h.gl,h.unk,ih]
theorem bX.gH.roll(h:p.gH p'):bQ p'.gs p'.ys=bQ p.gs p.ys:=by unfold bQ;rw[h.ys,h.gsAt,h.tyAt]
theorem bX.gH.sum(h:p.gH p'):aY p'.ts=aY p.ts:=by
 unfold aY;congr 1;refine Zf3 λi=> ?_
 rw[Zb6,Zb6];exact AZ h.tl h.ts bH (λt t' k=>HY k) i
theorem bX.gH.basis(h:p.gH p'):jG p'=jG p:=by unfold jG;rw[h.wu,h.roll,h.cs,h.gl,h.sum]
theorem bX.gH.gi(h:p.gH p')(s:List Nat):Go.Proofs.YtgjikjcfjddloaaGreatDoor.gi p' s=Go.Proofs.YtgjikjcfjddloaaGreatDoor.gi p s:=by unfold Go.Proofs.YtgjikjcfjddloaaGreatDoor.gi;rw[h.gm,h.gl]
theorem bX.gH.ti(h:p.gH p')(s:List Nat):Go.Proofs.YtgjikjcfjddloaaGreatDoor.ti p' s=Go.Proofs.YtgjikjcfjddloaaGreatDoor.ti p s:=by unfold Go.Proofs.YtgjikjcfjddloaaGreatDoor.ti;rw[h.nm,h.tl]
theorem bX.gH.vL(h:p.gH p')(i:Int):Go.Proofs.YtgjikjcfjddloaaGreatDoor.vL p' i=Go.Proofs.YtgjikjcfjddloaaGreatDoor.vL p i:=by
 unfold Go.Proofs.YtgjikjcfjddloaaGreatDoor.vL;have:=AZ h.tl h.ts bH (λt t' k=>HY k) i.toNat;cases h1:p.ts[i.toNat]? with
 |none=>rw[h1]at this;cases h2:p'.ts[i.toNat]? with
  |none=>rfl
  |some t=>rw[h2]at this;cases this
 |some t=>rw[h1]at this;cases h2:p'.ts[i.toNat]? with
  |none=>rw[h2]at this;cases this
  |some t'=>rw[h2]at this;simp only[Zf1,H0]at this;simp only[this]
theorem bX.gH.rule(h:p.gH p')(r:Rl):u5 p' r=u5 p r:=by
 unfold u5 P0 Yz RX;simp only[h.gi,h.ti,h.vL]
theorem bX.gH.HV(h:p.gH p'):∀(m k:Nat),kY p' m k=kY p m k
 |0,_=>rfl
 |m+1,k=>by
  have ih:=h.HV m (k+1);unfold kY;rw[h.rs];cases p.rs[k]? with
  |none=>rfl
  |some r=>simp only[h.rule,ih]
theorem bX.gH.check(h:p.gH p'):fK p'=fK p:=by unfold fK;rw[h.basis,h.HV]
end
section
open Go Go.Ai Go.Proofs
theorem BB{Q:List AV->Prop}{Qs:List (List AV->Prop)}{ps:List (List AV)}(h:Je (Q::Qs) ps):∃p qs,ps=p::qs/\Q p/\Je Qs qs:=by
 cases ps with
 |nil=>exact h.elim
 |cons p qs=>exact⟨p,qs,rfl,h⟩
theorem XA{ps:List (List AV)}(h:Je [] ps):ps=[]:=by
 cases ps with
 |nil=>rfl
 |cons p qs=>exact h.elim
section
variable{H:Type}{enc:TypeId×Value->H}{w:World}{base:Nat}{spare:Nat->Bool}{held:Bool}
end
variable{c:ai}
section
variable{p p':bX}
theorem bX.gH.tab(h:p.gH p'){t':aK}(ht:t'∈p'.ts):∃t∈p.ts,t.gH t':=by
 obtain⟨i,hi,rfl⟩:=Zm6.1 ht;have Qp:i<p.ts.length:=by rw[<-h.tl];exact hi
 exact⟨p.ts[i],Zc0 Qp,h.ts i _ _ (H4 Qp) (H4 hi)⟩
theorem bX.gH.Al(h:p.gH p')(hp:p.HW):p'.HW where
 ts:=by rw[h.tl];exact hp.ts
 gs:=by rw[h.gl];exact hp.gs
 ys:=by rw[h.ys];exact hp.ys
 cs:=by rw[h.cs];exact hp.cs
 rs:=by rw[h.rs];exact hp.rs
 ok t ht:=by obtain⟨u,hu,z,rfl⟩:=h.tab ht;have:=hp.ok u hu;exact⟨this.1,this.2⟩
end
section
variable{s s1:St}
end
theorem abN(hc:Sem c)(z z2:Bool)(gs:List aL)(ts:List Ty)(hl:gs.length<=100)(p:Pos)(st:St)(hw:Wf st)(hp:st.heap.get p=some (.cells [cS z gs,fJ z2 ts] 0))(F:Nat)(k1 k2):∀(m k:Nat),gs.length<=k+m->k<=gs.length->
  g9 c F k1 k2 (m+1) [.ptr p 0,.int .i64 (k:Int)] st=if(ij gs m k).2=0 then k2 [.ptr p 0] st else k1 [.int .i64 (ij gs m k).1,.int .i64 (ij gs m k).2] st:=by
 intro m;induction m with
 |zero=>
  intro k h1 h2;obtain rfl:k=gs.length:=by omega
  rw[qq];simp[ij,hp]
 |succ m ih=>
  intro k h1 h2;rw[qq];by_cases h:k<gs.length
  . have w:au .i64 ((k:Int)+1)=((k+1:Nat):Int):=wrap64 (by omega) (by omega);have hch:=Yn hc gs[k] st hw;have kF:k<=gs.length:=(by omega);have hm:min k gs.length=k:=(by omega);have OG:=abE hc (z&&gs.isEmpty) (gs.take k) gs[k].name (by unfold pG;simp;omega) st;rw[show(gs.take k).length=k by simp;omega,Yo kF]at OG;simp only[cS,Zk3]at OG;rw[ij,H4 h];simp only;by_cases h3:fH gs[k]=0
    .   have e3:¬fH gs[k]≠0:=(by rw[h3];simp);by_cases h4:0<=scan (fY gs gs[k].name) k 0
        .simp only[e3,h4,Zf9,Zh0];simp[cS,hp,h,kF,hch,h3,h4,OG]
        . by_cases h5:64<=k
          .have h6:(64:Int)<=k:=(by omega);simp only[e3,h4,h5,Zf9,Zh0];simp[cS,hp,h,kF,hch,h3,h4,h6,OG]
          .have h6:¬(64:Int)<=k:=(by omega);simp only[e3,h4,h5,Zf9];rw[<-ih (k+1) (by omega) (by omega)];simp[cS,hp,h,kF,hch,h3,h4,h6,OG,w]
    .   simp[cS,hp,h,hch,h3]
  .obtain rfl:k=gs.length:=(by omega);simp[ij,hp]
theorem abO (hc : Sem c)(z z2:Bool)(gs:List aL)(ts:List Ty)(hl:gs.length<=100)(nK:ts.length<=100)(p:Pos)(F:Nat)(k1 k4):∀(m k:Nat)(st:St),Wf st->st.heap.get p=some (.cells [cS z gs,fJ z2 ts] 0)->ts.length<=k+m->k<=ts.length->
  ∃st',Grew st st'/\gZ c F k1 k4 (m+1) [.ptr p 0,.int .i64 (k:Int)] st=if(fq gs ts m k).2=0 then k4 [] st' else k1 [.int .i64 (fq gs ts m k).1,.int .i64 (fq gs ts m k).2] st':=by
 intro m;induction m with
 |zero=>
  intro k st hw hp h1 h2;obtain rfl:k=ts.length:=by omega
  refine⟨st,Grew.refl hw,?_⟩;rw[lY];simp[fq,hp]
 |succ m ih   =>
  intro k st hw hp h1 h2;by_cases h:k<ts.length
  . have w:au     .i64 ((k:Int)+1)=((k+1:Nat):Int):=wrap64 (by omega) (by omega);have wg:au .i64 ((gs.length:Int)+(k:Int))=(gs.length:Int)+k:=wrap64 (by omega) (by omega);have dm:Wf (af st (.cells ts[k].cells 0)):=bU hw;have hg:=Grew.af hw (.cells ts[k].cells 0);have fc:(af st (.cells ts[k].cells 0)).heap.get p=some (.cells [cS z gs,fJ z2 ts] 0):=hg.get hp;have ha:=abE hc z gs ts[k].a (by unfold pG;omega) (af st (.cells ts[k].cells 0));have hb:=abE hc z gs ts[k].b (by unfold pG;omega) (af st (.cells ts[k].cells 0));have Tq:¬256<=k:=(by omega);have JH:¬(256:Int)<=k:=(by omega);obtain⟨st',g1,g2⟩:=ih (k+1) _ dm fc (by omega) (by omega);have UN:CX ts[k]=true->(ts[k].k=1\/(¬ts[k].k=1/\ts[k].k=2)):=λq=>by
        simp only[CX,Zi2,Ze2]at q;by_cases e:ts[k].k=1
        .exact .inl e
        .exact .inr ⟨e,q.resolve_left e⟩
    have hkf:CX ts[k]=false->(¬ts[k].k=1/\¬ts[k].k=2):=λq=>by simpa [CX]using q
    rw[lY,fq,H4 h];simp only;by_cases h0:k=0
    .   have hk :¬0<k:=(by omega);have ep:kf ts k=none:=(by simp[kf,h0]);rw[ep];clear h0 ih;simp only[NH,ov,Bool.or_false,Ze5,Zf9,Tq];cases q1:CX ts[k]
        .obtain⟨f1,f2⟩:=hkf q1;refine⟨_,hg,?_⟩;simp[fJ,hp,fc,h,wg,f1,f2]
        . have f:=UN q1;cases q2:aC ts[k].a ts[k].b
          .refine⟨_,hg,?_⟩;rcases f with f|⟨f,f2⟩<;>simp[fJ,hp,fc,h,wg,q2, *]
          . cases q3:jM gs ts[k]
            .have q4:=q3;simp only[jM,Zm8,decide_eq_false_iff_not]at q4;obtain⟨n1,n2⟩:=q4;refine⟨st',hg.trans g1,?_⟩;simp only[q1,q2,Ze1,Bool.or_false,Ze5,Zf9];rw[<-g2];rcases f with f|⟨f,f2⟩<;>simp[fJ,hp,fc,h,wg,q2,ha,hb,n1,n2,hk,JH,w, *]
            . refine⟨_,hg,?_⟩;by_cases n1:scan (fY gs ts[k].a) gs.length 0<0
              .rcases f with f|⟨f,f2⟩<;>simp[fJ,hp,fc,h,wg,q2,ha,hb,n1,hk,JH,w, *]
              .have n2:scan (fY gs ts[k].b) gs.length 0<0:=(by simpa [jM,n1]using q3);rcases f with f|⟨f,f2⟩<;>simp[fJ,hp,fc,h,wg,q2,ha,hb,n1,n2,hk,JH,w, *]
    .   have hk : 0<k:=(by omega);have mR:k - 1<ts.length:=(by omega);have wk:au .i64 ((k:Int) - 1)=((k - 1:Nat):Int):=(by rw[wrap64 (by omega) (by omega)];omega);have ep:kf ts k=some ts[k - 1]:=(by rw[kf,Za3 h0,H4 mR]);have b1:=UJ hc ts[k] ts[k - 1] (af st (.cells ts[k].cells 0)) dm;have b2:=UJ hc ts[k - 1] ts[k] (af st (.cells ts[k].cells 0)) dm;rw[ep];clear ih;simp only[NH,ov,Tq,Zf9];cases q1:CX ts[k]
        .obtain⟨f1,f2⟩:=hkf q1;refine⟨_,hg,?_⟩;simp[fJ,hp,fc,h,wg,f1,f2]
        . have f:=UN q1;cases q2:aC ts[k].a ts[k].b
          .refine⟨_,hg,?_⟩;rcases f with f|⟨f,f2⟩<;>simp[fJ,hp,fc,h,wg,q2, *]
          . cases q5:eJ ts[k] ts[k - 1]
            . cases q3:jM gs ts[k]
              . have q4:=q3;simp only[jM,Zm8,decide_eq_false_iff_not]at q4;obtain⟨n1,n2⟩:=q4;cases q6:eJ ts[k - 1] ts[k]
                .refine⟨_,hg,?_⟩;rcases f with f|⟨f,f2⟩<;>simp[fJ,hp,fc,h,wg,q2,ha,hb,n1,n2,hk,mR,wk,b1,b2,JH,w, *]
                .refine⟨st',hg.trans g1,?_⟩;simp only[q1,q2,q5,Ze1,Ze5,Zf9,Bool.or_false];rw[<-g2];rcases f with f|⟨f,f2⟩<;>simp[fJ,hp,fc,h,wg,q2,ha,hb,n1,n2,hk,mR,wk,b1,b2,JH,w, *]
              . refine⟨_,hg,?_⟩;by_cases n1:scan (fY gs ts[k].a) gs.length 0<0
                .rcases f with f|⟨f,f2⟩<;>simp[fJ,hp,fc,h,wg,q2,ha,hb,n1,hk,mR,wk,b1,b2,JH,w, *]
                .have n2:scan (fY gs ts[k].b) gs.length 0<0:=(by simpa [jM,n1]using q3);rcases f with f|⟨f,f2⟩<;>simp[fJ,hp,fc,h,wg,q2,ha,hb,n1,n2,hk,mR,wk,b1,b2,JH,w, *]
            .refine⟨_,hg,?_⟩;rcases f with f|⟨f,f2⟩<;>simp[fJ,hp,fc,h,wg,q2,hk,mR,wk,b1,b2, *]
  .obtain rfl:k=ts.length:=(by omega);refine⟨st,Grew.refl hw,?_⟩;rw[lY];simp[fq,hp]
theorem abP(hc:Sem c)(z z2:Bool)(gs:List aL)(ts:List Ty)(hl:gs.length<=100)(nK:ts.length<=100)(st:St)(hw:Wf st):c 233 [.agg [cS z gs,fJ z2 ts]] st=some (.tuple [.int .i64 (bQ gs ts).1,.int .i64 (bQ gs ts).2],st):=by
 have pR:Plain (.tuple [.int .i64 (bQ gs ts).1,.int .i64 (bQ gs ts).2]):=Plain.tuple (by simp[Plain.int]);have dm:Wf (af st (.cells [cS z gs,fJ z2 ts] 0)):=bU hw;have OV:=Grew.af hw (.cells [cS z gs,fJ z2 ts] 0);have fc:(af st (.cells [cS z gs,fJ z2 ts] 0)).heap.get st.next=some (.cells [cS z gs,fJ z2 ts] 0):=aE _ _;have L0:=λk1 k2=>abN hc z z2 gs ts hl st.next _ dm fc 102 k1 k2 101 0 (by omega) (by omega)
 by_cases h:(ij gs 101 0).2=0
 . have e:bQ gs ts=fq gs ts 101 0:=(by rw[bQ,Za3 (by simp[h])]);obtain⟨st',g1,g2⟩:=abO hc z z2 gs ts hl nK st.next 102 (λvs s142=>iR vs λx2 vs=>iR vs λx3 vs=>om vs (some (.tuple [x2,x3],s142))) (λvs s143=>om vs (
     aj c .move [(.int .i64 0)] s143 λx2 s144=>aj c .move [(.int .i64 0)] s144 λx3 s145=>some (.tuple [x2,x3],s145))) 101 0 _ dm fc (by omega) (by omega)
   rw[rW hc 102 (r:=(.tuple [.int .i64 (bQ gs ts).1,.int .i64 (bQ gs ts).2],st')),aD pR (OV.trans g1).keeps];rw[uq,e];simp[h]at L0 g2 ⊢;rw[L0];simp[g2];by_cases h2:(fq gs ts 101 0).2=0
   .have:=JB gs ts 101 0 h2;simp[h2,this]
   .simp[h2]
 .have e:bQ gs ts=ij gs 101 0:=(by rw[bQ,Za9 h]);rw[rW hc 102 (r:=(.tuple [.int .i64 (bQ gs ts).1,.int .i64 (bQ gs ts).2],af st (.cells [cS z gs,fJ z2 ts] 0))),aD pR OV.keeps];rw[uq,e];simp[h]at L0 ⊢;rw[L0];simp
theorem YF(hc:Sem c)(z z2:Bool)(gs:List aL)(ts:List Ty)(hl:gs.length<=100)(nK:ts.length<=100)(s:St)(hw:Wf s):c 130 [.agg [cS z gs,fJ z2 ts]] s=some (.tuple [.int .i64 (bQ gs ts).1,.int .i64 (bQ gs ts).2],s):=by
 have BK:Wf (af s (.cells [cS z gs,fJ z2 ts] 0)):=bU hw;obtain⟨v,s',h1,h2,_⟩:=Tr hc z z2 gs ts hl nK _ BK;have Wx:cut [cS z gs,fJ z2 ts] 0 2=some [cS z gs,fJ z2 ts]:=bY rfl;rw[KI hc 1 (r:=(.tuple [.int .i64 (bQ gs ts).1,.int .i64 (bQ gs ts).2],s')),aD (Plain.tuple (by simp[Plain.int])) ((cN hw).trans h2)];rw[NL];simp[Wx,h1]
theorem ahE(hc:Sem c){p:bX}(hp:p.HW):Yx c p:=⟨λst hw=>YF hc p.gz p.yz p.gs p.ys hp.gs hp.ys st hw,λst hw=>abP hc p.gz p.yz p.gs p.ys hp.gs hp.ys st hw⟩
end
end Go.Proofs.YtgjikjcfjddloaaGreatDoor
section
end
namespace Go.Proofs.YtgjikjcfjddloaaGreatDoor
section
set_option linter.unusedSimpArgs false
open Go Go.Ai Go.Proofs
variable{c:ai}
def dl(cs:List AV)(n i:Nat):List AV:=aJ (aJ cs i ((cs.drop (i+1)).take (n - 1 - i))) (n - 1) [.int .i64 0]
section
variable{s:St}{b:Pos}{cs:List AV}{n i cp:Nat}
end
end
noncomputable section
open Go Go.Ai Go.Proofs
def lZ(f:FuncId):List AV->St->Option (AV×St):=LO (run ym gg) f 4
def E8:fh:=yl [(329,KZ),(18,Nu),(45,lZ 45),(59,lZ 59),(49,lZ 49),(96,lZ 96),(88,lZ 88),(69,lZ 69),(72,lZ 72),(76,lZ 76),(103,lZ 103),(105,lZ 105),(114,lZ 114),(112,lZ 112),(111,lZ 111),(164,Iu),(65,lZ 65),(128,lZ 128),(292,idxS),(296,Wb)]
def bE(c:ai):Prop:=c=run E8 gg
theorem bE.o0{c:ai}(hc:bE c)(F:Nat){f:FuncId}{args:List AV}{st:St}{r:AV×St}(s:Sh)(hk:(vg (E8 f)&& !vg (gg.get (key f))&&(fe (gA f).code s).isEmpty)=true)
  {k:O2} (hd:B4 c F (VQ []) (gA f) s args st=k) (h:k=some r):c f args st=some (tidy st r):=by
 subst hc;exact aaq s hk hd h
theorem bE.o1{c:ai}(hc:bE c)(F:Nat){f:FuncId}{args:List AV}{st:St}{r:AV×St}(Ls:Un->List Q2->Nat->Q2)(s:Sh)(hk:(vg (E8 f)&& !vg (gg.get (key f))&&Nat.beq (fe (gA f).code s).length 1)=true)
  (hs:(SB (gj (gA f) s 0).2&&Nat.beq (lpJ (gj (gA f) s 0).2) 0)=true) (h0:∀K' vs st,oP Ls (gA f) s 0 K' 0 vs st=none)
  (h1:∀K' n vs st,oP Ls (gA f) s 0 K' (n+1) vs st=Hy (den c F (oP Ls (gA f) s) (gj (gA f) s 0).1 (lpB (gj (gA f) s 0).2)) (lpI (gj (gA f) s 0).2) (lpO (gj (gA f) s 0).2) K' (oP Ls (gA f) s 0 K' n) vs st)
  {k:O2} (hd:B4 c F (oP Ls (gA f) s) (gA f) s args st=k) (h:k=some r):c f args st=some (tidy st r):=by
 subst hc;exact aar Ls s hk hs h0 h1 hd h
theorem bE.oL{c:ai}(hc:bE c)(F:Nat){f:FuncId}{args:List AV}{st:St}{r:AV×St}(Ls:Un->List Q2->Nat->Q2)(s:Sh)(n:Nat)(hk:(vg (E8 f)&& !vg (gg.get (key f))&&Nat.beq (fe (gA f).code s).length n)=true)
  (hL:∀i,i<n->yH c F (oP Ls (gA f) s) (gj (gA f) s i).1 (gj (gA f) s i).2) {k:O2} (hd:B4 c F (oP Ls (gA f) s) (gA f) s args st=k) (h:k=some r):c f args st=some (tidy st r):=by
 subst hc;exact SN Ls s n hk hL hd h
theorem bE.at{c:ai}(hc:bE c){f:FuncId}{s:List AV->St->Option (AV×St)}{args:List AV}{st:St}{r:AV×St}(ho:E8 f=some s)(h:s args st=some r):c f args st=some r:=by subst hc;exact Q9 ho h
section
variable{c:ai}{s0 s:St}{Vs:List AV}{p:bX}
theorem ahF(hc:bE c)(v:AV)(s:St):c 164 [v] s=some (v,s):=hc.at (s:=Iu) rfl rfl
theorem ahG(hc:bE c)(args:List AV)(s:St)(r:AV×St)(h:lZ 65 args s=some r):c 65 args s=some r:=hc.at (s:=lZ 65) rfl h
theorem aaE(hc:bE c)(args:List AV)(s:St)(r:AV×St)(h:lZ 128 args s=some r):c 128 args s=some r:=hc.at (s:=lZ 128) rfl h
theorem ahH(hc:bE c)(a:List Nat)(b:Int)(s:St):c 292 [.str a,.int .u8 b] s=some (.int .i64 (Lib.indexByte (a.map UInt8.ofNat) b.toNat.toUInt8),s):=hc.at (s:=idxS) rfl rfl
theorem ahI(hc:bE c)(a:List Nat)(b:Int)(s:St):c 296 [.str a,.int .u8 b] s=some (.int .i64 (Lib.countByte (a.map UInt8.ofNat) b.toNat.toUInt8),s):=hc.at (s:=Wb) rfl rfl
theorem adK(hc:bE c)(s:St):c 18 [] s=some (.bool true,s):=hc.at (s:=Nu) rfl rfl
theorem UQ(hc:bE c)(h:PS s0 s Vs p)(hp:p.HW)(hr:∀r∈p.rs,r.Ok):c 45 [.agg Vs] s=some (.tuple [.int .i64 (fK p).1,.int .i64 (fK p).2],s):=by
 obtain⟨p',e,S⟩:=h.dZ 1;refine hc.at (s:=lZ 45) rfl (qU ?_ (iK.tuple (by intro v hv;simp at hv;rcases hv with rfl|rfl<;>exact iK.int _ _)));rw[Zb8,Zf8,e, <-S.check];exact VD rfl p' (S.Al hp) (ahE rfl (S.Al hp)) (by rw[S.rs];exact hr) (emptyAt s) (qR s)
theorem PS.tabs(h:PS s0 s Vs p):∃V1 z p',Vs[0]? =some V1/\Go.Ai.dZ s 4 V1=Go.Proofs.YtgjikjcfjddloaaGreatDoor.tabs z p'.ts/\p.gH p':=by
 obtain⟨V1,V2,V3,V4,V5,r1,r2,rfl,h1,h2,h3,h4,h5⟩:=h.all;obtain⟨z,wz,e,l,k⟩:=h1.dZ 2;exact⟨V1,z,{ p with ts:=wz },rfl,e,⟨l,k,rfl,λi t t' a b=>by rw[a]at b;cases b;exact⟨t.tz,rfl⟩,rfl,rfl,rfl⟩⟩
theorem adL(hc:bE c)(h:PS s0 s Vs p)(dP:∀t∈p.ts,t.Ok)(hv:(bI p.ts).2=0){V1:AV}(e1:Vs[0]? =some V1):c 59 [V1] s=some (.int .i64 (aY p.ts),s):=by
 obtain⟨V,z,p',e,ez,S⟩:=h.tabs;rw[e1]at e;cases e;refine hc.at (s:=lZ 59) rfl (qU ?_ (iK.int _ _));rw[Zb8,Zf8,ez];have:=AW (c:=run ym gg) rfl z p'.ts (λt ht=>by obtain⟨u,hu,z,rfl⟩:=S.tab ht;have:=dP u hu;exact⟨this.1,this.2⟩) (emptyAt s) (qR s);rw[this,S.wu,Za9 hv,S.sum]
theorem adM(hc:bE c)(h:PS s0 s Vs p)(dP:∀t∈p.ts,t.Ok)(hv:(bI p.ts).2=0){V1:AV}(e1:Vs[0]? =some V1){k:Nat}(hk:k<p.ts.length):c 49 [V1,.int .i64 (k:Int)] s=some (.int .i64 (aY (p.ts.take k)),s):=by
 obtain⟨V,z,p',e,ez,S⟩:=h.tabs;rw[e1]at e;cases e;refine hc.at (s:=lZ 49) rfl (qU ?_ (iK.int _ _));rw[Zb8,Zb8,Zf8,ez,xU];have:=Yj (c:=run ym gg) rfl z p'.ts (λt ht=>by obtain⟨u,hu,z,rfl⟩:=S.tab ht;have:=dP u hu;exact⟨this.1,this.2⟩) k (emptyAt s) (qR s);rw[this];unfold wR;rw[S.tl,S.wu,Za3 (by omega)];have e:∀l:List aK,aY l=(l.map bH).sum:=λ_=>rfl
 rw[e,e,Zk3,Zk3,Zi0];have:p'.ts.map bH=p.ts.map bH:=Zf3 λi=>by rw[Zb6,Zb6];exact AZ S.tl S.ts bH (λt t' h=>HY h) i
 rw[this]
theorem aaF{t:aK}{v:AV}(hM:Mk 1 s0 s v (t.ou.map dO)):∃t':aK,dZ s 4 (.agg (t.ax v))= .agg t'.cells/\t.gH t':=by
 obtain⟨z,hz⟩:=PY hM 2;refine⟨{ t with oz:=z },?_,⟨z,rfl⟩⟩;rw[SI];simp only[aK.ax,aK.cells,Zb8,Zf8,AX,xU,hz]
theorem abQ(hc:bE c){t:aK}{v:AV}(hM:Mk 1 s0 s v (t.ou.map dO))(dP:t.Ok):c 96 [.agg (t.ax v)] s=some (.int .i64 (nE t),s):=by
 obtain⟨t',e,S⟩:=aaF hM;refine hc.at (s:=lZ 96) rfl (qU ?_ (iK.int _ _));rw[Zb8,Zf8,e,Yg (c:=run ym gg) rfl t' (by obtain⟨z,rfl⟩:=S;exact⟨dP.1,dP.2⟩) (emptyAt s) (qR s),YE S]
theorem adN(hc:bE c){t:aK}{v:AV}(hM:Mk 1 s0 s v (t.ou.map dO)):c 88 [.agg (t.ax v)] s=some (.int .i64 (bH t),s):=by
 obtain⟨t',e,S⟩:=aaF hM;refine hc.at (s:=lZ 88) rfl (qU ?_ (iK.int _ _));rw[Zb8,Zf8,e,HS (c:=run ym gg) rfl t' (emptyAt s) (qR s),HY S]
end
end
noncomputable section
open Go Go.Ai Go.Proofs
attribute [local go_sem ↓] bD mj ev LP ve getLT qV B6 HC pL pM AP v7 v8 v9 sk su sv sw sx sy we wj sF sH sI sJ sK Be Bf Bg
attribute [local go_sem] bD mj ev
section
variable(c:ai)(F:Nat)(x0 x1 x2 x3 x4 x5 x6 x7 x8 x9 yR yS:AV)(s:St)
def kZ:Sh:=(sq sl (sq sl (sq sl (sq (sq sl (sb (sp 0 [1,2,3,4,5] [(2,[1,2,3,4])] (sq (sq sl (sc sl sl)) (sq (sb (sq sl (sq sl (sq sl sl)))) sl))))) (sq sl (sq sl (sj [1,2,3] (sq sl (sc (sq sl (sb (sp 1 [1,2,3,9] [(4,[1,2,3])] (sq (sq sl (sc sl sl)) (sq (sb (sq sl sl)) sl))))) sl)) (sq (sq sl (sb (sp 2 [1,2,3,11] [(6,[2,3])] (sq (sq sl (sc sl sl)) (sj [1,2,3,11] (sb (sq sl (sq sl (sc (sq sl sl) sl)))) sl))))) (sq sl sl)))))))))
def Am:PX 7 kZ:=⟨_,by conv=>lhs;reduce⟩
def zu:PL 7 kZ 2:=⟨_,by conv=>lhs;reduce⟩
def iM(k6:Q2):Nat->Q2
 |0,_,_=>none
 |n+1,vs,s=>gY c F bM (iM k6 n) [k6] zu.1 vs s
def oU(k6:Q2)(n:Nat)(vs:List AV)(s:St):=(by dsimp only[iM,zu,go_sem,Int.reduceOfNat]:iM c F k6 (n+1) vs s=_)
def zw:PL 7 kZ 1:=⟨_,by conv=>lhs;reduce⟩
def iN(k4:Q2):Nat->Q2
 |0,_,_=>none
 |n+1,vs,s=>gY c F bM (iN k4 n) [k4] zw.1 vs s
def wA(k4:Q2)(n:Nat)(vs:List AV)(s:St):=(by dsimp only[iN,zw,go_sem,Int.reduceOfNat]:iN c F k4 (n+1) vs s=_)
def zx:PL 7 kZ 0:=⟨_,by conv=>lhs;reduce⟩
def fu(k2:Q2):Nat->Q2
 |0,_,_=>none
 |n+1,vs,s=>gY c F bM (fu k2 n) [k2] zx.1 vs s
def wB(k2:Q2)(n:Nat)(vs:List AV)(s:St):=(by dsimp only[fu,zx,go_sem,Int.reduceOfNat]:fu c F k2 (n+1) vs s=_)
def sV:Un->List Q2->Nat->Q2
 |.z,[k2]=>fu c F k2
 |(.s .z),[k4]=>iN c F k4
 |(.s (.s .z)),[k6]=>iM c F k6
 |_,_=>λ_=>jr
def kD:O2:=bD c F (sV c F) Am.1 [x0] s
def KR:=(by dsimp only[kD,Am, ↓sV,go_sem,Int.reduceOfNat]:kD c F x0 s=_)
def qd:Sh:=(sq sl (sq sl (sq sl (sq sl (sq (sq sl (sb (sp 0 [1,2,5,6,7,8] [(2,[7])] (sq (sq sl (sc sl sl)) (sj [1,2,5,6,7,8] (sb (sq sl (sj [1,2,5,6,7,8,9] (sq sl (sc sl sl)) (sq sl (sc sl sl))))) sl))))) (sq sl sl))))))
def xW:PX 8 qd:=⟨_,by conv=>lhs;reduce⟩
def wC:PL 8 qd 0:=⟨_,by conv=>lhs;reduce⟩
def eD(k2:Q2):Nat->Q2
 |0,_,_=>none
 |n+1,vs,s=>gY c F bM (eD k2 n) [k2] wC.1 vs s
def ki(k2:Q2)(n:Nat)(vs:List AV)(s:St):=(by dsimp only[eD,wC,go_sem,Int.reduceOfNat,Int.reduceNegSucc]:eD c F k2 (n+1) vs s=_)
def qe:Un->List Q2->Nat->Q2
 |.z,[k2]=>eD c F k2
 |_,_=>λ_=>jr
def sW:O2:=bD c F (qe c F) xW.1 [x0,x1] s
def HZ:=(by dsimp only[sW,xW, ↓qe,go_sem,Int.reduceOfNat,Int.reduceNegSucc]:sW c F x0 x1 s=_)
def oV:Sh:=(sq sl (sq (sq sl (sc (sq sl sl) sl)) (sq (sq sl (sb (sp 0 [0,1,12,13] [(1,[4]),(2,[])] (sq sl (sq (sc sl sl) (sq (sb (sq sl (sq sl (sc (sq sl sl) sl)))) sl)))))) (sq sl sl))))
def wD:PX 16 oV:=⟨_,by conv=>lhs;reduce⟩
def vq:PL 16 oV 0:=⟨_,by conv=>lhs;reduce⟩
def iU(k1 k2:Q2):Nat->Q2
 |0,_,_=>none
 |n+1,vs,s=>gY c F bM (iU k1 k2 n) [k1,k2] vq.1 vs s
def mJ(k1 k2:Q2)(n:Nat)(vs:List AV)(s:St):=(by dsimp only[iU,vq,go_sem,Int.reduceOfNat]:iU c F k1 k2 (n+1) vs s=_)
def oW:Un->List Q2->Nat->Q2
 |.z,[k1,k2]=>iU c F k1 k2
 |_,_=>λ_=>jr
def ri:O2:=bD c F (oW c F) wD.1 [x0,x1] s
def GN:=(by dsimp only[ri,wD, ↓oW,go_sem,Int.reduceOfNat]:ri c F x0 x1 s=_)
def Ev:Sh:=(sq sl (sq sl sl))
def Ew:PX 22 Ev:=⟨_,by conv=>lhs;reduce⟩
def A0:O2:=bD c F bM Ew.1 [x0,x1] s
def P1:=(by dsimp only[A0,Ew,go_sem,Int.reduceOfNat]:A0 c F x0 x1 s=_)
def rj:Sh:=(sq sl (sq sl (sq (sq sl (sb (sp 0 [1,5,8,9,10] [(2,[5])] (sq sl (sq (sc sl sl) (sj [1,5,8,9,10] (sb (sq sl (sq sl (sc sl sl)))) sl)))))) (sq sl sl))))
def zz:PX 36 rj:=⟨_,by conv=>lhs;reduce⟩
def xX:PL 36 rj 0:=⟨_,by conv=>lhs;reduce⟩
def jH(k2:Q2):Nat->Q2
 |0,_,_=>none
 |n+1,vs,s=>gY c F bM (jH k2 n) [k2] xX.1 vs s
def nR(k2:Q2)(n:Nat)(vs:List AV)(s:St):=(by dsimp only[jH,xX,go_sem,Int.reduceOfNat]:jH c F k2 (n+1) vs s=_)
def rq:Un->List Q2->Nat->Q2
 |.z,[k2]=>jH c F k2
 |_,_=>λ_=>jr
def uA:O2:=bD c F (rq c F) zz.1 [x0,x1] s
def JI:=(by dsimp only[uA,zz, ↓rq,go_sem,Int.reduceOfNat]:uA c F x0 x1 s=_)
def ry:Sh:=(sq sl (sq sl (sq sl (sj [1,4,5] (sq sl (sb (sq sl (sc sl (sq sl (sc sl (sq sl (sc sl (sq sl (sc (sq sl sl) sl)))))))))) (sq (sq sl (sb (sp 0 [1,4,5,7] [(3,[4,5])] (sq (sq sl (sc sl sl)) (sj [1,4,5,7] (sb (sq sl (sc (sq sl sl) sl))) sl))))) (sq sl sl))))))
def zA:PX 38 ry:=⟨_,by conv=>lhs;reduce⟩
def xY:PL 38 ry 0:=⟨_,by conv=>lhs;reduce⟩
def iB(k3:Q2):Nat->Q2
 |0,_,_=>none
 |n+1,vs,s=>gY c F bM (iB k3 n) [k3] xY.1 vs s
def kL(k3:Q2)(n:Nat)(vs:List AV)(s:St):=(by dsimp only[iB,xY,go_sem,Int.reduceOfNat]:iB c F k3 (n+1) vs s=_)
def rA:Un->List Q2->Nat->Q2
 |.z,[k3]=>iB c F k3
 |_,_=>λ_=>jr
def uB:O2:=bD c F (rA c F) zA.1 [x0,x1] s
def JJ:=(by dsimp only[uB,zA, ↓rA,go_sem,Int.reduceOfNat]:uB c F x0 x1 s=_)
def An:Sh:=(sq sl (sq (sq sl (sb (sq sl (sc (sq sl sl) (sq sl (sc (sq sl sl) sl)))))) (sq sl sl)))
def Ao:PX 39 An:=⟨_,by conv=>lhs;reduce⟩
def vM:O2:=bD c F bM Ao.1 [x0] s
def KS:=(by dsimp only[vM,Ao,go_sem,Int.reduceOfNat]:vM c F x0 s=_)
def jk:Sh:=(sq sl (sq sl (sq (sq sl (sb (sp 0 [0,1,4,5,6] [(2,[1,4,5])] (sq (sq sl (sc sl sl)) (sj [0,1,4,5,6] (sb (sq sl (sq sl (sj [0,1,4,5,6,7,8] (sq sl (sc sl sl)) (sj [0,1,4,5,6,7,8] (sq sl (sc sl sl)) (sj [0,1,4,5,6,7,8] (sq sl (sc sl sl)) (sq (sq sl (sb (sp 1 [0,1,4,5,6,7,8,9] [(4,[0,1,4,5,6,8])] (sq (sq sl (sc sl sl)) (sj [0,1,4,5,6,7,8,9] (sb (sq sl (sc (sq sl sl) sl))) sl))))) (sq sl sl)))))))) sl))))) (sq sl (sq (sq sl (sb (sp 2 [1,4,5,12,13] [(6,[4,5])] (sq (sq sl (sc sl sl)) (sq (sb (sq sl (sb (sp 3 [1,4,5,12,13,14] [(8,[1,4,5,12,13])] (sq (sq sl (sc sl sl)) (sj [1,4,5,12,13,14] (sb (sq (sq sl (sc sl sl)) (sq (sq sl (sc sl sl)) (sj [1,4,5,12,13,14] (sq sl (sc (sq sl sl) sl)) sl)))) sl)))))) sl))))) (sq sl sl))))))
def Ap:PX 40 jk:=⟨_,by conv=>lhs;reduce⟩
def zB:PL 40 jk 3:=⟨_,by conv=>lhs;reduce⟩
def iO(k8:Q2):Nat->Q2
 |0,_,_=>none
 |n+1,vs,s=>gY c F bM (iO k8 n) [k8] zB.1 vs s
def gL(k8:Q2)(n:Nat)(vs:List AV)(s:St):=(by dsimp only[iO,zB,go_sem,Int.reduceOfNat]:iO c F k8 (n+1) vs s=_)
def zC:Un->List Q2->Nat->Q2
 |(.s (.s (.s .z))),[k8]=>iO c F k8
 |_,_=>λ_=>jr
def zD:PL 40 jk 2:=⟨_,by conv=>lhs;reduce⟩
def iP(k6:Q2):Nat->Q2
 |0,_,_=>none
 |n+1,vs,s=>gY c F (zC c F) (iP k6 n) [k6] zD.1 vs s
def wE(k6:Q2)(n:Nat)(vs:List AV)(s:St):=(by dsimp only[iP,zD, ↓zC,go_sem,Int.reduceOfNat]:iP c F k6 (n+1) vs s=_)
def zE:PL 40 jk 1:=⟨_,by conv=>lhs;reduce⟩
def gw(k4:Q2):Nat->Q2
 |0,_,_=>none
 |n+1,vs,s=>gY c F bM (gw k4 n) [k4] zE.1 vs s
def oX(k4:Q2)(n:Nat)(vs:List AV)(s:St):=(by dsimp only[gw,zE,go_sem,Int.reduceOfNat]:gw c F k4 (n+1) vs s=_)
def zF:Un->List Q2->Nat->Q2
 |(.s .z),[k4]=>gw c F k4
 |_,_=>λ_=>jr
def zH:PL 40 jk 0:=⟨_,by conv=>lhs;reduce⟩
def fy(k2:Q2):Nat->Q2
 |0,_,_=>none
 |n+1,vs,s=>gY c F (zF c F) (fy k2 n) [k2] zH.1 vs s
def wF(k2:Q2)(n:Nat)(vs:List AV)(s:St):=(by dsimp only[fy,zH, ↓zF,go_sem,Int.reduceOfNat]:fy c F k2 (n+1) vs s=_)
def sY:Un->List Q2->Nat->Q2
 |.z,[k2]=>fy c F k2
 |(.s .z),[k4]=>gw c F k4
 |(.s (.s .z)),[k6]=>iP c F k6
 |(.s (.s (.s .z))),[k8]=>iO c F k8
 |_,_=>λ_=>jr
def vN:O2:=bD c F (sY c F) Ap.1 [x0,x1] s
def KT:=(by dsimp only[vN,Ap, ↓sY,go_sem,Int.reduceOfNat]:vN c F x0 x1 s=_)
def zI:Sh:=(sq sl (sq sl (sq sl (sj [1,2,4,6] (sq sl (sc sl sl)) (sq sl (sq sl (sq (sq sl (sc (sq sl sl) sl)) (sq sl (sq sl (sj [1,2,4,6,11] (sq sl (sb (sj [1,2,4,6,9,10,11,12,58,59] (sq sl (sc sl (sq sl (sc sl (sq sl (sc sl (sq sl (sc sl sl)))))))) (sc (sq sl (sj [4,6,9,10] (sq sl (sc sl sl)) (sj [4,6,9,10] (sq sl (sc sl sl)) (sq sl sl)))) (sj [1,2,4,6,9,11,12,58,100] (sq sl (sc sl sl)) (sc (sq sl (sj [4,6] (sq sl (sc sl sl)) (sq sl sl))) (sq sl (sc (sj [4,6] (sq sl (sc sl sl)) (sq sl sl)) (sq sl (sc (sq sl (sq sl sl)) (sj [1,2,4,6,11,12,164] (sq sl (sc sl sl)) (sc sl sl)))))))))))) (sj [4,6] (sq sl (sc sl sl)) (sq sl sl))))))))))))
def zJ:PX 41 zI:=⟨_,by conv=>lhs;reduce⟩
def jI:O2:=bD c F bM zJ.1 [x0,x1] s
def JK:=(by dsimp only[jI,zJ,go_sem,Int.reduceOfNat]:jI c F x0 x1 s=_)
def oY:Sh:=(sq sl (sq sl (sq (sq sl (sb (sp 0 [1,3,4] [(2,[3])] (sq (sq sl (sc sl sl)) (sq (sb sl) sl))))) (sq sl sl))))
def wG:PX 42 oY:=⟨_,by conv=>lhs;reduce⟩
def vr:PL 42 oY 0:=⟨_,by conv=>lhs;reduce⟩
def iV(k2:Q2):Nat->Q2
 |0,_,_=>none
 |n+1,vs,s=>gY c F bM (iV k2 n) [k2] vr.1 vs s
def tL(k2:Q2)(n:Nat)(vs:List AV)(s:St):=(by dsimp only[iV,vr,go_sem,Int.reduceOfNat]:iV c F k2 (n+1) vs s=_)
def oZ:Un->List Q2->Nat->Q2
 |.z,[k2]=>iV c F k2
 |_,_=>λ_=>jr
def rC:O2:=bD c F (oZ c F) wG.1 [x0] s
def GO:=(by dsimp only[rC,wG, ↓oZ,go_sem,Int.reduceOfNat]:rC c F x0 s=_)
def CZ:Sh:=(sq sl (sq sl (sj [5] (sq sl (sc sl sl)) (sq sl sl))))
def C2:PX 43 CZ:=⟨_,by conv=>lhs;reduce⟩
def zK:O2:=bD c F bM C2.1 [x0,x1] s
def NX:=(by dsimp only[zK,C2,go_sem,Int.reduceOfNat]:zK c F x0 x1 s=_)
def rD:Sh:=(sq sl (sq (sq sl (sb (sp 0 [0,1,5] [(1,[4]),(2,[])] (sq (sq sl (sc sl sl)) (sq (sb (sq sl (sq sl (sc (sq sl (sq sl sl)) sl)))) sl))))) (sq sl sl)))
def zL:PX 44 rD:=⟨_,by conv=>lhs;reduce⟩
def xZ:PL 44 rD 0:=⟨_,by conv=>lhs;reduce⟩
def jJ(k1 k2:Q2):Nat->Q2
 |0,_,_=>none
 |n+1,vs,s=>gY c F bM (jJ k1 k2 n) [k1,k2] xZ.1 vs s
def nS(k1 k2:Q2)(n:Nat)(vs:List AV)(s:St):=(by dsimp only[jJ,xZ,go_sem,Int.reduceOfNat,Int.reduceNegSucc]:jJ c F k1 k2 (n+1) vs s=_)
def rE:Un->List Q2->Nat->Q2
 |.z,[k1,k2]=>jJ c F k1 k2
 |_,_=>λ_=>jr
def uC:O2:=bD c F (rE c F) zL.1 [x0,x1] s
def zM:=(by dsimp only[uC,zL, ↓rE,go_sem,Int.reduceOfNat,Int.reduceNegSucc]:uC c F x0 x1 s=_)
def ML:Sh:=(sq sl (sq sl (sq sl sl)))
def MM:PX 53 ML:=⟨_,by conv=>lhs;reduce⟩
def JL:O2:=bD c F bM MM.1 [x0,x1] s
def YG:=(by dsimp only[JL,MM,go_sem,Int.reduceOfNat]:JL c F x0 x1 s=_)
def H6:Sh:=(sq sl (sq (sq sl (sq sl (sc (sq sl sl) sl))) (sq sl sl)))
def H7:PX 57 H6:=⟨_,by conv=>lhs;reduce⟩
def Ex:O2:=bD c F bM H7.1 [x0,x1,x2] s
def Ts:=(by dsimp only[Ex,H7,go_sem,Int.reduceOfNat]:Ex c F x0 x1 x2 s=_)
def tM:Sh:=(sq sl (sq sl sl))
def tO:PX 60 tM:=⟨_,by conv=>lhs;reduce⟩
def nU:O2:=bD c F bM tO.1 [x0,x1] s
def Dj:=(by dsimp only[nU,tO,go_sem,Int.reduceOfNat]:nU c F x0 x1 s=_)
def o7:Sh:=(sq sl (sq (sq sl (sb (sp 0 [0,1,7,8] [(1,[4]),(2,[])] (sq sl (sq (sc sl sl) (sq (sb (sq sl (sq sl (sc (sq sl sl) sl)))) sl)))))) (sq sl sl)))
def wH:PX 62 o7:=⟨_,by conv=>lhs;reduce⟩
def vt:PL 62 o7 0:=⟨_,by conv=>lhs;reduce⟩
def iW(k1 k2:Q2):Nat->Q2
 |0,_,_=>none
 |n+1,vs,s=>gY c F bM (iW k1 k2 n) [k1,k2] vt.1 vs s
def mK(k1 k2:Q2)(n:Nat)(vs:List AV)(s:St):=(by dsimp only[iW,vt,go_sem,Int.reduceOfNat,Int.reduceNegSucc]:iW c F k1 k2 (n+1) vs s=_)
def o8:Un->List Q2->Nat->Q2
 |.z,[k1,k2]=>iW c F k1 k2
 |_,_=>λ_=>jr
def rF:O2:=bD c F (o8 c F) wH.1 [x0,x1] s
def GP:=(by dsimp only[rF,wH, ↓o8,go_sem,Int.reduceOfNat,Int.reduceNegSucc]:rF c F x0 x1 s=_)
def MN:Sh:=(sq sl (sq (sq sl (sc (sq sl sl) sl)) (sq sl sl)))
def MO:PX 64 MN:=⟨_,by conv=>lhs;reduce⟩
def JM:O2:=bD c F bM MO.1 [x0] s
def YH:=(by dsimp only[JM,MO,go_sem,Int.reduceOfNat]:JM c F x0 s=_)
def Aq:Sh:=(sq sl (sq sl sl))
def Ar:PX 80 Aq:=⟨_,by conv=>lhs;reduce⟩
def vO:O2:=bD c F bM Ar.1 [x0] s
def KU:=(by dsimp only[vO,Ar,go_sem,Int.reduceOfNat]:vO c F x0 s=_)
def ya:Sh:=(sq sl (sq sl sl))
def yb:PX 81 ya:=⟨_,by conv=>lhs;reduce⟩
def sZ:O2:=bD c F bM yb.1 [x0] s
def H8:=(by dsimp only[sZ,yb,go_sem,Int.reduceOfNat]:sZ c F x0 s=_)
def rG:Sh:=(sq sl (sq (sq sl (sb (sp 0 [1,2,5] [(1,[4]),(2,[])] (sq (sq sl (sc sl sl)) (sq (sb (sq sl (sc (sq sl sl) sl))) sl))))) (sq sl sl)))
def zN:PX 82 rG:=⟨_,by conv=>lhs;reduce⟩
def yc:PL 82 rG 0:=⟨_,by conv=>lhs;reduce⟩
def jK(k1 k2:Q2):Nat->Q2
 |0,_,_=>none
 |n+1,vs,s=>gY c F bM (jK k1 k2 n) [k1,k2] yc.1 vs s
def nW(k1 k2:Q2)(n:Nat)(vs:List AV)(s:St):=(by dsimp only[jK,yc,go_sem,Int.reduceOfNat]:jK c F k1 k2 (n+1) vs s=_)
def rH:Un->List Q2->Nat->Q2
 |.z,[k1,k2]=>jK c F k1 k2
 |_,_=>λ_=>jr
def uD:O2:=bD c F (rH c F) zN.1 [x0,x1] s
def JN:=(by dsimp only[uD,zN, ↓rH,go_sem,Int.reduceOfNat]:uD c F x0 x1 s=_)
def Ey:Sh:=(sq sl (sq (sq sl (sc (sq sl sl) sl)) (sq sl (sq sl (sq (sq sl (sb (sp 0 [2,8,9,23,24,25] [(1,[6,7]),(2,[])] (sq sl (sq (sc sl sl) (sj [2,8,9,23,24,25] (sb (sq sl (sq (sb (sq sl (sc (sq sl sl) (sq sl (sc (sq sl sl) (sq sl (sc (sq sl sl) sl))))))) (sq sl (sc sl sl))))) sl)))))) (sq sl sl))))))
def MP:PX 93 Ey:=⟨_,by conv=>lhs;reduce⟩
def Kw:PL 93 Ey 0:=⟨_,by conv=>lhs;reduce⟩
def rX(k1 k2:Q2):Nat->Q2
 |0,_,_=>none
 |n+1,vs,s=>gY c F bM (rX k1 k2 n) [k1,k2] Kw.1 vs s
def zO(k1 k2:Q2)(n:Nat)(vs:List AV)(s:St):=(by dsimp only[rX,Kw,go_sem,Int.reduceOfNat,Int.reduceNegSucc]:rX c F k1 k2 (n+1) vs s=_)
def Ez:Un->List Q2->Nat->Q2
 |.z,[k1,k2]=>rX c F k1 k2
 |_,_=>λ_=>jr
def JO:O2:=bD c F (Ez c F) MP.1 [x0,x1,x2] s
def YI:=(by dsimp only[JO,MP, ↓Ez,go_sem,Int.reduceOfNat,Int.reduceNegSucc]:JO c F x0 x1 x2 s=_)
end
section
variable{c:ai}(hc:bE c)(F:Nat){x0 x1 x2 x3 x4 x5 x6 x7 x8 x9 yR yS:AV}{s:St}{r:AV×St}
include hc
theorem H9(h:kD c F x0 s=some r):c 7 [x0] s=some (tidy s r):=hc.oL F (sV c F) kZ 3 (by kernel_rfl) (λi hi=>match i,hi with|0,_=>j5 0 (by kernel_rfl) (λ_ _ _=>by kernel_rfl) (λ_ _ _ _=>by kernel_rfl)|1,_=>j5 1 (by kernel_rfl) (λ_ _ _=>by kernel_rfl) (λ_ _ _ _=>by kernel_rfl)|2,_=>j5 2 (by kernel_rfl) (λ_ _ _=>by kernel_rfl) (λ_ _ _ _=>by kernel_rfl)|n+3,h=>absurd h (by omega)) (by kernel_rfl) h
theorem EY(h:sW c F x0 x1 s=some r):c 8 [x0,x1] s=some (tidy s r):=hc.o1 F (qe c F) qd (by kernel_rfl) (by kernel_rfl) (λ_ _ _=>by kernel_rfl) (λ_ _ _ _=>by kernel_rfl) (by kernel_rfl) h
theorem EA(h:ri c F x0 x1 s=some r):c 16 [x0,x1] s=some (tidy s r):=hc.o1 F (oW c F) oV (by kernel_rfl) (by kernel_rfl) (λ_ _ _=>by kernel_rfl) (λ_ _ _ _=>by kernel_rfl) (by kernel_rfl) h
theorem MQ(h:A0 c F x0 x1 s=some r):c 22 [x0,x1] s=some (tidy s r):=hc.o0 F Ev (by kernel_rfl) (by kernel_rfl) h
theorem GQ(h:uA c F x0 x1 s=some r):c 36 [x0,x1] s=some (tidy s r):=hc.o1 F (rq c F) rj (by kernel_rfl) (by kernel_rfl) (λ_ _ _=>by kernel_rfl) (λ_ _ _ _=>by kernel_rfl) (by kernel_rfl) h
theorem GU(h:uB c F x0 x1 s=some r):c 38 [x0,x1] s=some (tidy s r):=hc.o1 F (rA c F) ry (by kernel_rfl) (by kernel_rfl) (λ_ _ _=>by kernel_rfl) (λ_ _ _ _=>by kernel_rfl) (by kernel_rfl) h
theorem Ia(h:vM c F x0 s=some r):c 39 [x0] s=some (tidy s r):=hc.o0 F An (by kernel_rfl) (by kernel_rfl) h
theorem Ib(h:vN c F x0 x1 s=some r):c 40 [x0,x1] s=some (tidy s r):=hc.oL F (sY c F) jk 4 (by kernel_rfl) (λi hi=>match i,hi with|0,_=>j5 0 (by kernel_rfl) (λ_ _ _=>by kernel_rfl) (λ_ _ _ _=>by kernel_rfl)|1,_=>j5 1 (by kernel_rfl) (λ_ _ _=>by kernel_rfl) (λ_ _ _ _=>by kernel_rfl)|2,_=>j5 2 (by kernel_rfl) (λ_ _ _=>by kernel_rfl) (λ_ _ _ _=>by kernel_rfl)|3,_=>j5 3 (by kernel_rfl) (λ_ _ _=>by kernel_rfl) (λ_ _ _ _=>by kernel_rfl)|n+4,h=>absurd h (by omega)) (by kernel_rfl) h
theorem GV(h:jI c F x0 x1 s=some r):c 41 [x0,x1] s=some (tidy s r):=hc.o0 F zI (by kernel_rfl) (by kernel_rfl) h
theorem EB(h:rC c F x0 s=some r):c 42 [x0] s=some (tidy s r):=hc.o1 F (oZ c F) oY (by kernel_rfl) (by kernel_rfl) (λ_ _ _=>by kernel_rfl) (λ_ _ _ _=>by kernel_rfl) (by kernel_rfl) h
theorem KV(h:zK c F x0 x1 s=some r):c 43 [x0,x1] s=some (tidy s r):=hc.o0 F CZ (by kernel_rfl) (by kernel_rfl) h
theorem wJ(h:uC c F x0 x1 s=some r):c 44 [x0,x1] s=some (tidy s r):=hc.o1 F (rE c F) rD (by kernel_rfl) (by kernel_rfl) (λ_ _ _=>by kernel_rfl) (λ_ _ _ _=>by kernel_rfl) (by kernel_rfl) h
theorem Tt(h:JL c F x0 x1 s=some r):c 53 [x0,x1] s=some (tidy s r):=hc.o0 F ML (by kernel_rfl) (by kernel_rfl) h
theorem P2(h:Ex c F x0 x1 x2 s=some r):c 57 [x0,x1,x2] s=some (tidy s r):=hc.o0 F H6 (by kernel_rfl) (by kernel_rfl) h
theorem BL(h:nU c F x0 x1 s=some r):c 60 [x0,x1] s=some (tidy s r):=hc.o0 F tM (by kernel_rfl) (by kernel_rfl) h
theorem EC(h:rF c F x0 x1 s=some r):c 62 [x0,x1] s=some (tidy s r):=hc.o1 F (o8 c F) o7 (by kernel_rfl) (by kernel_rfl) (λ_ _ _=>by kernel_rfl) (λ_ _ _ _=>by kernel_rfl) (by kernel_rfl) h
theorem Tu(h:JM c F x0 s=some r):c 64 [x0] s=some (tidy s r):=hc.o0 F MN (by kernel_rfl) (by kernel_rfl) h
theorem Ic(h:vO c F x0 s=some r):c 80 [x0] s=some (tidy s r):=hc.o0 F Aq (by kernel_rfl) (by kernel_rfl) h
theorem EZ(h:sZ c F x0 s=some r):c 81 [x0] s=some (tidy s r):=hc.o0 F ya (by kernel_rfl) (by kernel_rfl) h
theorem GW(h:uD c F x0 x1 s=some r):c 82 [x0,x1] s=some (tidy s r):=hc.o1 F (rH c F) rG (by kernel_rfl) (by kernel_rfl) (λ_ _ _=>by kernel_rfl) (λ_ _ _ _=>by kernel_rfl) (by kernel_rfl) h
theorem Tv(h:JO c F x0 x1 x2 s=some r):c 93 [x0,x1,x2] s=some (tidy s r):=hc.o1 F (Ez c F) Ey (by kernel_rfl) (by kernel_rfl) (λ_ _ _=>by kernel_rfl) (λ_ _ _ _=>by kernel_rfl) (by kernel_rfl) h
end
end
section
open Go Go.Ai Go.Proofs
variable{c:ai}
def dx(i:Nat):List Nat:=[116,97+i % 26]
def bt(i:Nat):List Nat:=[97+i / 26 % 26,97+i % 26]
theorem afY(hc:bE c)(i:Nat)(hi:i<1000000)(st:St)(hw:Wf st):c 80 [.int .i64 (i:Int)] st=some (.str (dx i),st):=by
 have hg:=Grew.af hw (.cells [.int .u8 116,.int .u8 (97+(i:Int) % 26)] 0);rw[Ic hc 1 (r:=(.str (dx i),af st (.cells [.int .u8 116,.int .u8 (97+(i:Int) % 26)] 0))),aD (Plain.str _) hg.keeps];rw[KU];have w1:au .i64 (97+(i:Int) % 26)=97+(i:Int) % 26:=wrap64 (by omega) (by omega);have w2:au .u8 (97+(i:Int) % 26)=97+(i:Int) % 26:=Bc (by omega) (by omega);have r1:=λ(s:St)(K:AV->St->Option (AV×St))=>cg (c:=c) (k:= .i64) (a:=(i:Int)) (b:=26) (by omega) (by omega) s K
 have two:=λ(s:St)(K:AV->St->Option (AV×St))=>Xz (c:=c) (x:=116) (y:=97+(i:Int) % 26) 116 (97+i % 26) rfl (by omega) (by omega) (by omega) s K
 simp[-aX,r1,xL,w1,w2,two,dx]
theorem u6(hc:bE c)(i:Nat)(hi:i<1000000)(st:St)(hw:Wf st):c 81 [.int .i64 (i:Int)] st=some (.str (bt i),st):=by
 have hg:=Grew.af hw (.cells [.int .u8 (97+(i:Int) / 26 % 26),.int .u8 (97+(i:Int) % 26)] 0);rw[EZ hc 1 (r:=(.str (bt i),af st (.cells [.int .u8 (97+(i:Int) / 26 % 26),.int .u8 (97+(i:Int) % 26)] 0))),aD (Plain.str _) hg.keeps];rw[H8];have w1:au .i64 (97+(i:Int) % 26)=97+(i:Int) % 26:=wrap64 (by omega) (by omega);have w2:au .u8 (97+(i:Int) % 26)=97+(i:Int) % 26:=Bc (by omega) (by omega);have w3:au .i64 (97+(i:Int) / 26 % 26)=97+(i:Int) / 26 % 26:=wrap64 (by omega) (by omega);have w4:au .u8 (97+(i:Int) / 26 % 26)=97+(i:Int) / 26 % 26:=Bc (by omega) (by omega);have r1:=λ(s:St)(K:AV->St->Option (AV×St))=>cg (c:=c) (k:= .i64) (a:=(i:Int)) (b:=26) (by omega) (by omega) s K
 have r2:=λ(s:St)(K:AV->St->Option (AV×St))=>gq (c:=c) (a:=(i:Int)) (b:=26) (by omega) (by omega) (by omega) s K
 have r3:=λ(s:St)(K:AV->St->Option (AV×St))=>cg (c:=c) (k:= .i64) (a:=(i:Int) / 26) (b:=26) (by omega) (by omega) s K
 have two:=λ(s:St)(K:AV->St->Option (AV×St))=>Xz (c:=c) (x:=97+(i:Int) / 26 % 26) (y:=97+(i:Int) % 26) (97+i / 26 % 26) (97+i % 26) (by omega) (by omega) (by omega) (by omega) s K
 simp[-aX,r1,r2,r3,xL,w1,w2,w3,w4,two,bt]
def kN(sh a b:Int):Int:=if sh=2 then 2*a+b else if sh=3 then a+2*b else a
theorem ED(hc:bE c){l:List AV}{sh a b:Int}(h1:l[1]? =some (.int .u8 sh))(h2:l[2]? =some (.int .i64 a))(h3:l[3]? =some (.int .i64 b))(ha:0<=a/\a<=1000000)(hb:0<=b/\b<=1000000)(st:St)(hw:Wf st):
   c 39 [.agg l] st=some (.int .i64 (kN sh a b),st):=by
 have hg:=Grew.af hw (.cells l 0);have p1:=aE st (.cells l 0);rw[Ia hc 1 (r:=(.int .i64 (kN sh a b),af st (.cells l 0))),aD (Plain.int _ _) hg.keeps];rw[KS];have w1:au .i64 (2*a)=2*a:=wrap64 (by omega) (by omega);have w2:au .i64 (2*b)=2*b:=wrap64 (by omega) (by omega);have w3:au .i64 (2*a+b)=2*a+b:=wrap64 (by omega) (by omega);have w4:au .i64 (a+2*b)=a+2*b:=wrap64 (by omega) (by omega);unfold kN;by_cases e2:sh=2
 .subst e2;simp[p1,h1,h2,h3,w1,w3]
 . by_cases e3:sh=3
   .subst e3;simp[p1,h1,h2,h3,w2,w4]
   .have d2:decide (sh=2)=false:=Za0 e2;have d3:decide (sh=3)=false:=Za0 e3;simp[p1,h1,h2,h3,e2,e3,d2,d3]
def Tw(i:Nat):List AV:=[.int .i64 (i:Int)]
def qf:List AV:=[.str [],.int .u8 0,.int .i64 0,.int .i64 0,.ah,.int .i64 0,.int .i64 0]
def fT(nm:List Nat)(sh a b:Int)(x:Nat)(v:AV):List AV:=[.str nm,.int .u8 sh,.int .i64 a,.int .i64 b,v,.int .i64 (x:Int),.int .i64 (255 - (x:Int))]
def P5(x i:Nat):Bool:=decide (x / 2 ^ i % 2=1)&&decide (0<x % 3)
theorem ahJ(x i:Nat):P5 x i=(decide (x / 2 ^ i % 2=1)&&decide (0<x % 3)):=by rw[P5]
def zP(x k:Nat):List Nat:=(List.range k).filter (P5 x)
theorem UR(x k:Nat):zP x (k+1)=zP x k++(if P5 x k=true then [k]else []):=by
 unfold zP;rw[Zk1,List.filter_append];congr 1;cases h:P5 x k with
 |true=>simp[h]
 |false=>simp[h]
theorem YJ(x k:Nat):(zP x k).length<=k:=by have:=List.length_filter_le (P5 x) (List.range k);rw[Zq3]at this;exact this
structure TI(st s:St)(p4 p5:Pos)(nm:List Nat)(sh a b:Int)(x k:Nat)(v:AV):Prop where
 out:Mk 1 st s v ((zP x k).map Tw)
 h4:s.heap.get p4=some (.cells qf 0)
 h5:s.heap.get p5=some (.cells (fT nm sh a b x v) 0)
 n4:br v≠some p4
 n5:br v≠some p5
theorem abR(hc:bE c){nm:List Nat}{sh a b:Int}{x n:Nat}(ha:0<=a/\a<=1000000)(hb:0<=b/\b<=1000000)(hx:x<1000000)(hn:kN sh a b=(n:Int))(hn64:n<=64){st:St}{p4 p5:Pos}(h4:st.next.toNat<=p4.toNat)(h5:st.next.toNat<=p5.toNat)(Ie:p4≠p5)
  (F:Nat) (k3):∀(m k:Nat)(s:St)(v:AV),TI st s p4 p5 nm sh a b x k v->n<=k+m->k<=n->
  ∃s' v',TI st s' p4 p5 nm sh a b x n v'/\iB c F k3 (m+1) [.int .i64 (x:Int),.ptr p4 0,.ptr p5 0,.int .i64 (k:Int)] s=k3 [.ptr p4 0,.ptr p5 0] s':=by
 intro m;induction m with
 |zero=>
  intro k s v hT h1 h2;obtain rfl:k=n:=by omega
  refine⟨s,v,hT,?_⟩;have S:=ED hc (l:=fT nm sh a b x v) rfl rfl rfl ha hb s hT.out.aF.wf;have cu:cut (fT nm sh a b x v) 0 7=some (fT nm sh a b x v):=bY rfl;rw[hn]at S;rw[kL];simp[hT.h5,cu,S]
 |succ m ih=>
  intro k s v hT h1 h2;have hw:=hT.out.aF.wf;have S:=ED hc (l:=fT nm sh a b x v) rfl rfl rfl ha hb s hw;have cu:cut (fT nm sh a b x v) 0 7=some (fT nm sh a b x v):=bY rfl;rw[hn]at S;clear hn;by_cases h:k<n
  . have vh:(0:Int)<=(x:Int):=Int.natCast_nonneg x;have w:au .i64 ((k:Int)+1)=((k+1:Nat):Int):=wrap64 (by omega) (by omega);have sr:=λ(s:St)(K:AV->St->Option (AV×St))=>Xy (c:=c) (a:=(x:Int)) (i:=k) (Zd4 h2 hn64) s K
    have p0:(0:Int)<=(x:Int) / 2 ^ k:=Zr1 vh (Int.le_of_lt (Int.pow_pos (by omega)));have r1:=λ(s:St)(K:AV->St->Option (AV×St))=>cg (c:=c) (k:= .i64) (a:=(x:Int) / 2 ^ k) (b:=2) p0 (by decide) s K
    have r2:=λ(s:St)(K:AV->St->Option (AV×St))=>cg (c:=c) (k:= .i64) (a:=(x:Int)) (b:=3) vh (by decide) s K
    have d1:decide ((x:Int) / 2 ^ k % 2=1)=decide (x / 2 ^ k % 2=1):=(by have:((x:Int) / 2 ^ k % 2=1)↔(x / 2 ^ k % 2=1):=(by rw[show((x:Int) / 2 ^ k % 2)=((x / 2 ^ k % 2:Nat):Int)by simp];omega);exact decide_eq_decide.2 this);have d2:decide (0<(x:Int) % 3)=decide (0<x % 3):=decide_eq_decide.2 (by omega);have c4:(fT nm sh a b x v)[4]? =some v:=rfl;have hl:decide ((k:Int)<(n:Int))=true:=H5 (Int.ofNat_lt.2 h);have fin:=ahJ x k;cases hq:P5 x k with
    |   true=>
        have UE:((zP x k).map Tw).length<=64:=(by rw[Zb3];have:=YJ x k;omega);obtain⟨s5,v5,a1,a2,a3,a4⟩:=hT.out.push (c:=c) (R:=AV×St) (bytes:=8) (z:=[.int .i64 0]) (x:= .int .i64 (k:Int)) rfl rfl rfl (by decide) (by omega) (by omega);have e:(zP x (k+1)).map Tw=(zP x k).map Tw++[(.int .i64 (k:Int):AV).cells]:=(by rw[UR,Za9 hq,Ze4];rfl);rw[<-e]at a2;have y4:=a3 p4 _ hT.n4 hT.h4;have y5:=a3 p5 _ hT.n5 hT.h5;have l4:=hw p4 _ hT.h4;have l5:=hw p5 _ hT.h5;have b4:br v5≠some p4:=λe=>by have:=a4 _ e;omega
        have b5:br v5≠some p5:=λe=>by have:=a4 _ e;omega
        have hw5:=a2.aF.wf;have l5':=hw5 p5 _ y5;have M:=a2.store (p:=p5) (b:= .cells (fT nm sh a b x v5) 0) h5 l5' b5;obtain⟨vc,v1⟩:=a2.cells;have aQ:∀(K:AV->St->Option (AV×St)),aj c (.store 1) [.ptr p5 4,v5] s5 K=K .undef (cj s5 p5 (.cells (fT nm sh a b x v5) 0)):=λK=>by rw[eV c K s5 1 p5 4 v5 (fT nm sh a b x v) y5 (by rw[vc];rfl) (by simp[fT]) (by rw[vc];exact v1),vc];rfl
        have T5:TI st (cj s5 p5 (.cells (fT nm sh a b x v5) 0)) p4 p5 nm sh a b x (k+1) v5:=⟨M,by rw[bC (λe=>Ie e.symm)];exact y4,dB _ _ _,b4,b5⟩
        obtain⟨s',v',b1,b2⟩:=ih (k+1) _ v5 T5 (by omega) (by omega);refine⟨s',v',b1,?_⟩;rw[<-b2,kL];rw[fin,Zb0]at hq;simp[-aX,hT.h5,cu,S,h,gX,sr,r1,r2,d1,d2,hq.1,hq.2,c4,a1,aQ,w]
    |   false=>
        have e:(zP x (k+1))=(zP x k):=(by rw[UR,Za3 (by rw[hq];decide),Zf7]);obtain⟨s',v',b1,b2⟩:=ih (k+1) s v ⟨by rw[e];exact hT.out,hT.h4,hT.h5,hT.n4,hT.n5⟩ (by omega) (by omega);refine⟨s',v',b1,?_⟩;rw[<-b2,kL];rw[fin]at hq;cases g1:decide (x / 2 ^ k % 2=1)with
        |false=>simp[-aX,hT.h5,cu,S,h,gX,sr,r1,r2,d1,d2,g1,c4,w]
        |true=>
         rw[g1,Zg0]at hq;simp[-aX,hT.h5,cu,S,h,gX,sr,r1,r2,d1,d2,g1,hq,c4,w]
  .obtain rfl:k=n:=(by omega);refine⟨s,v,hT,?_⟩;rw[kL];simp[hT.h5,cu,S]
theorem jU(s:St)(cs:List AV)(o:Nat)(v:AV)(ho:o<cs.length)(h1:v.cells=[v])(h2:v.one=true)(K:AV->St->Option (AV×St)):aj c (.store 1) [.ptr s.next o,v] (af s (.cells cs 0)) K=K .undef (af s (.cells (cs.set o v) 0)):=by
 rw[eV c K (af s (.cells cs 0)) 1 s.next o v cs (aE _ _) (by rw[h1];rfl) (by omega) (by rw[h1];simp[aR,h2]),h1,uX _ _ ho,Du]
def mo(x:Nat):Nat:=1+x % 4
def tA(x:Nat):Nat:=if x % 4=0 then 1+x / 4 % 6 else if x % 4=1 then 1+x / 4 % 3 else if x % 4=2 then 1+x / 4 % 2 else 1+x / 4 % 5
def tB(x:Nat):Nat:=if x % 4=0 then 0 else if x % 4=1 then x / 4 / 3 % 3 else if x % 4=2 then 1+x / 4 / 2 % 2 else min (1+x / 4 % 5) (x / 4 / 5 % 4)
def tN(x:Nat):Nat:=if x % 4=1 then 2*tA x+tB x else if x % 4=2 then tA x+2*tB x else tA x
theorem VX(x:Nat):tA x<=6:=by unfold tA;split<;>(try split)<;>(try split)<;>omega
theorem VY(x:Nat):tB x<=3:=by unfold tB;split<;>(try split)<;>(try split)<;>omega
theorem NI(x:Nat):tN x<=16:=by have:=VX x;have:=VY x;unfold tN;split<;>(try split)<;>omega
theorem NJ(x:Nat):kN ((mo x:Nat):Int) ((tA x:Nat):Int) ((tB x:Nat):Int)=((tN x:Nat):Int):=by
 unfold kN tN mo;by_cases h1:x % 4=1
 .rw[Za9 (by omega),Za9 h1];omega
 . by_cases h2:x % 4=2
   .rw[Za3 (by omega),Za9 (by omega),Za3 h1,Za9 h2];omega
   .rw[Za3 (by omega),Za3 (by omega),Za3 h1,Za3 h2]
theorem afZ(hc:bE c)(i x:Nat)(hi:i<1000000)(hx:x<256)(st:St)(hw:Wf st):∃v s',c 38 [.int .i64 (i:Int),.int .i64 (x:Int)] st=some (.agg (fT (dx i) (mo x:Nat) (tA x:Nat) (tB x:Nat) x v),s')/\Mk 1 st s' v ((zP x (tN x)).map Tw):=by
 have dm:Wf (af st (.cells qf 0)):=bU hw;have g1:=Grew.af hw (.cells qf 0);have W:=afY hc i hi (af st (.cells qf 0)) dm;have hA:=VX x;have hB:=VY x;have hN:=NI x;have g2:=Grew.af dm (.cells (fT (dx i) (mo x:Nat) (tA x:Nat) (tB x:Nat) x .ah) 0);have x1:(af (af st (.cells qf 0)) (.cells (fT (dx i) (mo x:Nat) (tA x:Nat) (tB x:Nat) x .ah) 0)).heap.get st.next=some (.cells qf 0):=g2.get (aE _ _);have x2:(af (af st (.cells qf 0)) (.cells (fT (dx i) (mo x:Nat) (tA x:Nat) (tB x:Nat) x .ah) 0)).heap.get (af st (.cells qf 0)).next=some (.cells (fT (dx i) (mo x:Nat) (tA x:Nat) (tB x:Nat) x .ah) 0):=aE _ _;have n12:st.next≠(af st (.cells qf 0)).next:=by rw[dM];exact Pos.SE _
 have T0:TI st (af (af st (.cells qf 0)) (.cells (fT (dx i) (mo x:Nat) (tA x:Nat) (tB x:Nat) x .ah) 0)) st.next (af st (.cells qf 0)).next (dx i) (mo x:Nat) (tA x:Nat) (tB x:Nat) x 0 .ah:=
   ⟨Mk.start hw (g1.trans g2),x1,x2,λe=>(nomatch e),λe=>(nomatch e)⟩
 obtain⟨s',v,hT,L⟩:=abR hc (n:=tN x) (by omega) (by omega) (by omega) (NJ x) (by omega) (p4:=st.next) (p5:=(af st (.cells qf 0)).next) (Za5 _) (by rw[dM,Pos.aB];omega) n12 (tN x+1)
   (λvs s96=>iR vs λx4 vs=>iR vs λx5 vs=>om vs (aj c (.load (some 7)) [x5] s96 λx86 s97=>aj c (.store 7) [x4,x86] s97 λ_ s98=>Z8 (some 7) x4 s98 λv99=>some (v99,s98))) (tN x) 0 (af (af st (.cells qf 0)) (.cells (fT (dx i) (mo x:Nat) (tA x:Nat) (tB x:Nat) x .ah) 0)) .ah T0 (by omega) (by omega)
 have M:=hT.out;obtain⟨vc,v1⟩:=M.cells;have one:aR (fT (dx i) (mo x:Nat) (tA x:Nat) (tB x:Nat) x v)=true:=by
   simp only[aR]at v1;unfold fT;simp only[aR,AV.one,v1,Zl1,Zn1]at*
 have hcut:cut (fT (dx i) (mo x:Nat) (tA x:Nat) (tB x:Nat) x v) 0 7=some (fT (dx i) (mo x:Nat) (tA x:Nat) (tB x:Nat) x v):=bY rfl;have kP:∀(K:AV->St->Option (AV×St)),aj c (.store 7) [.ptr st.next 0,.agg (fT (dx i) (mo x:Nat) (tA x:Nat) (tB x:Nat) x v)] s' K=K .undef (cj s' st.next (.cells (fT (dx i) (mo x:Nat) (tA x:Nat) (tB x:Nat) x v) 0)):=λK=>by rw[eV c K s' 7 st.next 0 (.agg (fT (dx i) (mo x:Nat) (tA x:Nat) (tB x:Nat) x v)) _ hT.h4 rfl (by simp[qf]) one];rfl
 have M2:=M.store (p:=st.next) (b:= .cells (fT (dx i) (mo x:Nat) (tA x:Nat) (tB x:Nat) x v) 0) (Za5 _) (M.aF.wf _ _ hT.h4) hT.n4;have mem:v∈fT (dx i) (mo x:Nat) (tA x:Nat) (tB x:Nat) x v:=by simp[fT]
 have low:∀y∈dx i,y<256:=by intro y hy;simp[dx]at hy;omega
 obtain⟨iy,t1,_,t3⟩:=M2.Jf mem (λu hu=>by simp only[fT,Zb2,Ze9,Zj8]at hu;rcases hu with rfl|rfl|rfl|rfl|rfl|rfl|rfl<;>first|exact je.str low|exact je.int _ _|exact M.inst);refine⟨v,iy,?_,t3⟩;rw[GU hc (tN x+1) (r:=(.agg (fT (dx i) (mo x:Nat) (tA x:Nat) (tB x:Nat) x v),cj s' st.next (.cells (fT (dx i) (mo x:Nat) (tA x:Nat) (tB x:Nat) x v) 0))),t1];have L2:iB c (tN x+1) (λvs s96=>iR vs λx4 vs=>iR vs λx5 vs=>om vs (aj c (.load (some 7)) [x5] s96 λx86 s97=>aj c (.store 7) [x4,x86] s97 λ_ s98=>Z8 (some 7) x4 s98 λv99=>some (v99,s98))) (tN x+1) [.int .i64 (x:Int),.ptr st.next 0,.ptr (af st (.cells qf 0)).next 0,.int .i64 0] (af (af st (.cells qf 0)) (.cells (fT (dx i) (mo x:Nat) (tA x:Nat) (tB x:Nat) x .ah) 0))=some (.agg (fT (dx i) (mo x:Nat) (tA x:Nat) (tB x:Nat) x v),cj s' st.next (.cells (fT (dx i) (mo x:Nat) (tA x:Nat) (tB x:Nat) x v) 0)):=by
   rw[show(0:Int)=((0:Nat):Int)from rfl,L];simp[hT.h5,hcut,kP]
 generalize hF:tN x+1=F at L2 ⊢;clear hF L hT M2 kP T0 x1 x2 g2;have q1:=λ(s:St)(K:AV->St->Option (AV×St))=>cg (c:=c) (k:= .i64) (a:=(x:Int)) (b:=4) (by omega) (by omega) s K
 have q2:=λ(s:St)(K:AV->St->Option (AV×St))=>gq (c:=c) (a:=(x:Int)) (b:=4) (by omega) (by omega) (by omega) s K
 have q3:=λ(n:Int)(hn:0<n)(s:St)(K:AV->St->Option (AV×St))=>cg (c:=c) (k:= .i64) (a:=(x:Int) / 4) (b:=n) (by omega) hn s K
 have w1:au .i64 (1+(x:Int) % 4)=1+(x:Int) % 4:=wrap64 (by omega) (by omega);have w2:au .u8 (1+(x:Int) % 4)=1+(x:Int) % 4:=Bc (by omega) (by omega);have w3:au .i64 (255 - (x:Int))=255 - (x:Int):=wrap64 (by omega) (by omega);have al:∀(s:St)(K:AV->St->Option (AV×St)),aj c (.alloc [.str [],.int .u8 0,.int .i64 0,.int .i64 0,.ah,.int .i64 0,.int .i64 0]) [] s K=K (.ptr s.next 0) (af s (.cells qf 0)):=λs K=>rfl
 have OX:∀(nm:List Nat)(sh u y:Int)(s:St)(K:AV->St->Option (AV×St)),aj c (.build [.str [],.int .u8 0,.int .i64 0,.int .i64 0,.ah,.int .i64 0,.int .i64 0] [(0,1),(1,1),(5,1),(6,1)]) [.str nm,.int .u8 sh,.int .i64 u,.int .i64 y] s K=K (.agg [.str nm,.int .u8 sh,.int .i64 0,.int .i64 0,.ah,.int .i64 u,.int .i64 y]) s:=λnm sh u y s K=>rfl
 have rY:∀(nm:List Nat)(sh u y:Int)(s:St)(K:AV->St->Option (AV×St)),aj c (.store 7) [.ptr s.next 0,.agg [.str nm,.int .u8 sh,.int .i64 0,.int .i64 0,.ah,.int .i64 u,.int .i64 y]] (af s (.cells qf 0)) K=K .undef (af s (.cells [.str nm,.int .u8 sh,.int .i64 0,.int .i64 0,.ah,.int .i64 u,.int .i64 y] 0)):=λnm sh u y s K=>eG c K s 7 (.agg [.str nm,.int .u8 sh,.int .i64 0,.int .i64 0,.ah,.int .i64 u,.int .i64 y]) qf rfl rfl rfl
 have abS:∀(nm:List Nat)(sh p q u y z:Int)(s:St)(K:AV->St->Option (AV×St)),aj c (.store 1) [.ptr s.next 2,.int .i64 z] (af s (.cells [.str nm,.int .u8 sh,.int .i64 p,.int .i64 q,.ah,.int .i64 u,.int .i64 y] 0)) K=K .undef (af s (.cells [.str nm,.int .u8 sh,.int .i64 z,.int .i64 q,.ah,.int .i64 u,.int .i64 y] 0)):=λnm sh p q u y z s K=>jU s _ 2 (.int .i64 z) (by simp) rfl rfl K
 have abT:∀(nm:List Nat)(sh p q u y z:Int)(s:St)(K:AV->St->Option (AV×St)),aj c (.store 1) [.ptr s.next 3,.int .i64 z] (af s (.cells [.str nm,.int .u8 sh,.int .i64 p,.int .i64 q,.ah,.int .i64 u,.int .i64 y] 0)) K=K .undef (af s (.cells [.str nm,.int .u8 sh,.int .i64 p,.int .i64 z,.ah,.int .i64 u,.int .i64 y] 0)):=λnm sh p q u y z s K=>jU s _ 3 (.int .i64 z) (by simp) rfl rfl K
 rw[JJ];simp only[al];generalize (af st (.cells qf 0))=s1 at W dm L2 n12;have a1:au .i64 1=1:=rfl;have h4:x % 4=0\/x % 4=1\/x % 4=2\/x % 4=3:=by omega
 rcases h4 with h|h|h|h
 .have e4:(x:Int) % 4=0:=(by omega);have eS:((mo x:Nat):Int)=1:=(by unfold mo;omega);have eA:((tA x:Nat):Int)=1+(x:Int) / 4 % 6:=(by unfold tA;rw[Za9 h];omega);have eB:((tB x:Nat):Int)=0:=(by unfold tB;rw[Za9 h];rfl);simp only[fT,eS,eA,eB]at L2 ⊢;simp (disch:=omega) [-aX,-jC,-lH,-fS,OX,rY,abS,abT,W,cg,gq,e4,xL,wrap64,Bc,gX,Za8,L2]
 .have e4:(x:Int) % 4=1:=(by omega);have eS:((mo x:Nat):Int)=2:=(by unfold mo;omega);have eA:((tA x:Nat):Int)=1+(x:Int) / 4 % 3:=(by unfold tA;rw[Za3 (by omega),Za9 h];omega);have eB:((tB x:Nat):Int)=(x:Int) / 4 / 3 % 3:=(by unfold tB;rw[Za3 (by omega),Za9 h];omega);simp only[fT,eS,eA,eB]at L2 ⊢;simp (disch:=omega) [-aX,-jC,-lH,-fS,OX,rY,abS,abT,W,cg,gq,e4,xL,wrap64,Bc,gX,Za8,L2]
 .have e4:(x:Int) % 4=2:=(by omega);have eS:((mo x:Nat):Int)=3:=(by unfold mo;omega);have eA:((tA x:Nat):Int)=1+(x:Int) / 4 % 2:=(by unfold tA;rw[Za3 (by omega),Za3 (by omega),Za9 h];omega);have eB:((tB x:Nat):Int)=1+(x:Int) / 4 / 2 % 2:=(by unfold tB;rw[Za3 (by omega),Za3 (by omega),Za9 h];omega);simp only[fT,eS,eA,eB]at L2 ⊢;simp (disch:=omega) [-aX,-jC,-lH,-fS,OX,rY,abS,abT,W,cg,gq,e4,xL,wrap64,Bc,gX,Za8,L2]
 . have e4:(x:Int) % 4=3:=(by omega);have eS:((mo x:Nat):Int)=4:=(by unfold mo;omega);have eA:((tA x:Nat):Int)=1+(x:Int) / 4 % 5:=(by unfold tA;rw[Za3 (by omega),Za3 (by omega),Za3 (by omega)];omega);obtain⟨mb,hmb⟩:∃mb:Int,mb=min (1+(x:Int) / 4 % 5) ((x:Int) / 4 / 5 % 4):=⟨_,rfl⟩
   have aba:∀(s:St)(K:AV->St->Option (AV×St)),aj c .minB [.int .i64 (1+(x:Int) / 4 % 5),.int .i64 ((x:Int) / 4 / 5 % 4)] s K=K (.int .i64 mb) s:=λs K=>by rw[hmb];exact SJ c K s _ _ _ _
   have eB:((tB x:Nat):Int)=mb:=(by rw[hmb];unfold tB;rw[Za3 (by omega),Za3 (by omega),Za3 (by omega)];omega);clear hmb;simp only[fT,eS,eA,eB]at L2 ⊢;simp (disch:=omega) [-aX,-jC,-lH,-fS,-SJ,aba,OX,rY,abS,abT,W,cg,gq,e4,xL,wrap64,Bc,gX,Za8,L2]
theorem FX{R:Type}(K:AV->Option R){b:Pos}{off len es es':Nat}{cap:Option Nat}{k:IntKind}{i:Nat}(h:i<len):dK (.idxA es none) [.slice b off len cap es',.int k (i:Int)] K=K (.ptr b (off+i*es)):=
 b7 K (λH n=>by
  simp only[av.run,mS,eI];have:Nat.blt i len=true:=by rw[Zo7];exact h
  rw[this])
theorem YK{es:Nat}{s:St}{v:AV}{rows:List (List AV)}(h:QS es s v rows)(hr:∀r∈rows,r.length=es){i:Nat}(hi:i<rows.length):
   ∃b off cap cs,v= .slice b off rows.length cap es/\s.heap.get b=some (.cells cs 0)/\∀j u,rows[i][j]? =some u->cs[off+i*es+j]? =some u:=by
 rcases h with⟨rfl,rfl⟩|⟨b,off,cap,cs,rfl,g1,g2,g3,g4⟩|⟨b,off,rfl,rfl⟩
 .simp at hi
 rotate_left
 .simp at hi
 . (refine⟨b,off,cap,cs,rfl,g1,λj u hj=> ?_⟩;have hj2:j<es:=(by rw[<-hr _ (Zc0 hi)];exact(Za1.1 hj).1);have:=Go.Ai.AO hr i j rows[i] u (H4 hi) hj;rw[<-g3]at this;have aO:i*es+j<rows.length*es:=by have:(i+1)*es<=rows.length*es:=Zh4 _ hi;rw[Zi4]at this;omega);rw[Zc4,Za9 aO,Zd2]at this;rw[<-this];congr 1;omega
theorem abU(hc:bE c){s:St}{V W:AV}{rows:List (List AV)}(h:QS 9 s V rows)(hr:∀r∈rows,r.length=9){names:List (List Nat)}(hlen:names.length=rows.length)(hn:∀(i:Nat)(h1:i<rows.length)(h2:i<names.length),rows[i][0]? =some (.str names[i]))(agT:rows.length<=1000)
  {q:Pos} (hq:s.heap.get q=some (.cells [V,W] 0)) (x:Nat) (hx:x<1000000) (hw:Wf s) (F:Nat) (k1 k2):∀(m k f:Nat),m<f->k+m=rows.length->bt x∉names.take k->
  jK c F k1 k2 f [.int .i64 (x:Int),.ptr q 0,.int .i64 (k:Int)] s=if bt x∈names then k1 [.bool true] s else k2 [] s:=by
 intro m;have N:=u6 hc x hx s hw;have cu:∀j:Nat,(cellsOf (s.heap.get q)).bind (λcs=>cs[0]?)=some V:=λ_=>by rw[hq];rfl
 induction m with
 |zero=>
  intro k f hf h1 mE;obtain⟨f,rfl⟩:∃g,f=g+1:=⟨f - 1,by omega⟩
  obtain rfl:k=rows.length:=by omega
  rw[<-hlen,Zi9]at mE;rw[Za3 mE,nW];have lI:=λ(K:AV->St->Option (AV×St))=>h.lenB (c:=c) K s
  simp[hq,lI]
 |succ m ih=>
  intro k f hf h1 mE;obtain⟨f,rfl⟩:∃g,f=g+1:=⟨f - 1,by omega⟩
  have hk:k<rows.length:=by omega
  have kF:k<names.length:=by omega
  have lI:=λ(K:AV->St->Option (AV×St))=>h.lenB (c:=c) K s
  have w:au .i64 ((k:Int)+1)=((k+1:Nat):Int):=wrap64 (by omega) (by omega);obtain⟨b,off,cap,cs,e,g1,g2⟩:=YK h hr hk;have nm:=g2 0 _ (hn k hk kF);have hb:=h.beq;have r1:=λ(K:AV->Option (AV×St))=>AN K (o:=0) (v:=V) (h:=s.heap) (h2:=s.heap) (p:=q) (by rw[hq];rfl) (by rw[hq];rfl) hb
  have r2:=λ(K:AV->Option (AV×St))=>AN K (o:=off+k*9) (v:= .str names[k]) (h:=s.heap) (h2:=s.heap) (p:=b) (by rw[g1];exact nm) (by rw[g1];exact nm) (by simp[fE,lu,gK,j3.2 rfl])
  have ix:=λ(K:AV->Option (AV×St))=>FX K (b:=b) (off:=off) (es:=9) (es':=9) (cap:=cap) (k:= .i64) hk
  rw[<-e]at ix;by_cases heq:names[k]=bt x
  .have mem:bt x∈names:=(by rw[<-heq];exact Zc0 kF);rw[Za9 mem,nW];simp[hq,lI,hk,N,r1,r2,ix,heq]
  . have hno2:bt x∉names.take (k+1):=by
        rw[Ze0 kF,Zd5,Zd7];rintro(h|h)
        .exact mE h
        .exact heq h.symm
    rw[<-ih (k+1) f (by omega) (by omega) hno2,nW];have d:decide (names[k]=bt x)=false:=Za0 heq;simp[hq,lI,hk,N,r1,r2,ix,heq,d,w]
theorem af0(hc:bE c){s:St}{V W:AV}{rows:List (List AV)}(h:QS 9 s V rows)(hr:∀r∈rows,r.length=9){names:List (List Nat)}(hlen:names.length=rows.length)(hn:∀(i:Nat)(h1:i<rows.length)(h2:i<names.length),rows[i][0]? =some (.str names[i]))(agT:rows.length<=1000)
   (x:Nat) (hx:x<1000000) (hw:Wf s):c 82 [.agg [V,W],.int .i64 (x:Int)] s=some (.bool (decide (bt x∈names)),s):=by
 have hg:=Grew.af hw (.cells [V,W] 0);have h2:QS 9 (af s (.cells [V,W] 0)) V rows:=h.mono λb y _ hy=>hg.get hy
 have L:=abU hc h2 hr hlen hn agT (aE s (.cells [V,W] 0)) x hx (bU hw) (rows.length+1) (λvs s13=>iR vs λx4 vs=>om vs (some (x4,s13))) (λvs s14=>om vs (aj c .move [.bool false] s14 λx4 s15=>some (x4,s15))) rows.length 0 (rows.length+1) (by omega) (by omega) (by simp);rw[GW hc (rows.length+1) (r:=(.bool (decide (bt x∈names)),af s (.cells [V,W] 0))),aD (Plain.bool _) hg.keeps];rw[JN];by_cases hm:bt x∈names
 .rw[Za9 hm]at L;simp at L;simp[L,hm]
 .rw[Za3 hm]at L;simp at L;simp[L,hm]
end
section
open Go Go.Ai Go.Proofs
def l6(gs:List aL)(i:Nat):List Nat:=match gs[i]? with|some g=>g.name|none=>[]
def BM(gs:List aL)(i:Nat):List Nat:=match gs[i]? with|some g=>g.mI|none=>[]
def uE(ts:List aK)(i:Nat):List Nat:=match ts[i]? with|some t=>t.name|none=>[]
def yd(ts:List aK)(i:Nat):Int:=match ts[i]? with|some t=>kN t.sh t.a t.b|none=>0
def JP(ts:List aK)(gs:List aL)(k wt a b t n z:Nat):Rl×Bool:=
 if k=1\/k=2\/k=3\/k=4\/k=5 then(⟨k,wt,l6 gs a,l6 gs b,[],if k=4 then((n+1:Nat):Int)else if k=1 then(n:Int)else 0⟩,decide (a≠b))
 else if k=6\/k=7 then(⟨k,wt,l6 gs a,[],uE ts t,if k=7 then((z / 13:Nat):Int) % yd ts t else 0⟩,true)
 else if k=10 then(⟨k,wt,if z % 3=0 then l6 gs a else [],[],[],0⟩,true)
 else if k=17 then(⟨k,wt,BM gs a,[],uE ts t,0⟩,decide (BM gs a≠[]))
 else(⟨k,wt,[],[],if 0<z % 3 then uE ts t else [],if k=15\/k=16 then(n:Int)else 0⟩,true)
def MR(y:Nat):Nat:=if 1<y % 5 then 1+y % 7 else 0
def fW(ts:List aK)(gs:List aL)(x:Nat):Rl×Bool:=
 if gs.length=0\/ts.length=0 then(⟨((1+x % 18:Nat):Int),(MR (x / 18):Int),[],[],[],0⟩,false)
 else JP ts gs (1+x % 18) (MR (x / 18)) (x / 18 / 5 % gs.length) (x / 18 / 5 / gs.length % gs.length) (x / 18 / 5 / 7 % ts.length) (x / 18 / 5 / 11 % 4) (x / 18 / 5)
theorem Tz(i:Nat):fI (bt i)=true:=by unfold fI bt;have h1:i / 26 % 26<26:=Zi7 _ (by omega);have h2:i % 26<26:=Zi7 _ (by omega);simp;omega
variable{c:ai}
theorem US{cs row:List AV}{o n:Nat}(hl:row.length=n)(h0:0<n)(h:∀(j:Nat)(u:AV),row[j]? =some u->cs[o+j]? =some u):cut cs o n=some row:=by
 have h1:=h (n - 1) row[n - 1] (H4 (by omega));have h2:=(Za1.1 h1).1;unfold cut;have:Nat.ble (o+n) cs.length=true:=by rw[Nat.ble_eq];omega
 rw[this];simp only;congr 1;refine Zf3 λi=> ?_
 rw[Zc4];split
 .rename_i hi;rw[Zd2,h i _ (H4 (by omega)),H4 (by omega)]
 .rw[Zb5 (by omega)]
theorem TS.row{s0 s:St}{V:AV}{ts:List aK}{rows:List (List AV)}(h:TS s0 s V ts rows){i:Nat}(hi:i<ts.length):
   ∃b off cap cs v,V= .slice b off rows.length cap 7/\s.heap.get b=some (.cells cs 0)/\cut cs (off+i*7) 7=some (ts[i].ax v)/\cs[off+i*7]? =some (.str ts[i].name):=by
 have hr:i<rows.length:=by rw[h.len];exact hi
 obtain⟨b,off,cap,cs,e,g1,g2⟩:=YK h.out.own h.out.row hr;obtain⟨v,e1,_,_⟩:=h.tK i ts[i] rows[i] (H4 hi) (H4 hr);refine⟨b,off,cap,cs,v,e,g1,?_,?_⟩
 .rw[<-e1];exact US (h.out.row _ (Zc0 hr)) (by omega) g2
 . have:=g2 0 (.str ts[i].name) (by rw[e1];rfl)
   rwa [Zg7]at this
theorem GS.row{s0 s:St}{V:AV}{gs:List aL}{rows:List (List AV)}(h:GS s0 s V gs rows){i:Nat}(hi:i<gs.length):
   ∃b off cap cs v,V= .slice b off rows.length cap 9/\s.heap.get b=some (.cells cs 0)/\cut cs (off+i*9) 9=some (gs[i].ax v)/\cs[off+i*9]? =some (.str gs[i].name)/\cs[off+i*9+5]? =some (.str gs[i].mI):=by
 have hr:i<rows.length:=by rw[h.len];exact hi
 obtain⟨b,off,cap,cs,e,g1,g2⟩:=YK h.out.own h.out.row hr;obtain⟨v,e1,_,_⟩:=h.tK i gs[i] rows[i] (H4 hi) (H4 hr);refine⟨b,off,cap,cs,v,e,g1,?_,?_,?_⟩
 .rw[<-e1];exact US (h.out.row _ (Zc0 hr)) (by omega) g2
 . have:=g2 0 (.str gs[i].name) (by rw[e1];rfl)
   rwa [Zg7]at this
 .exact g2 5 (.str gs[i].mI) (by rw[e1];rfl)
theorem QS.agU{R:Type}{es:Nat}{s:St}{v:AV}{rows:List (List AV)}(h:QS es s v rows)(K:AV->Option R):dK (.lenB .l) [v] K=K (.int .i64 (rows.length:Int)):=by
 rcases h with⟨rfl,rfl⟩|⟨b,off,cap,cs,rfl,_⟩|⟨b,off,rfl,rfl⟩<;>exact b7 K (λH n=>rfl)
abbrev fA(k w:Int)(a b t:List Nat)(n:Int):List AV:=[.int .u8 k,.int .i64 w,.str a,.str b,.str t,.int .i64 n]
theorem ahK(k w n w':Int)(a b t:List Nat)(s:St)(K:AV->St->Option (AV×St)):aj c (.store 1) [.ptr s.next 1,.int .i64 w'] (af s (.cells (fA k w a b t n) 0)) K=K .undef (af s (.cells (fA k w' a b t n) 0)):=jU s _ 1 (.int .i64 w') (by simp) rfl rfl K
theorem aaG(k w n:Int)(a b t u:List Nat)(s:St)(K:AV->St->Option (AV×St)):aj c (.store 1) [.ptr s.next 2,.str u] (af s (.cells (fA k w a b t n) 0)) K=K .undef (af s (.cells (fA k w u b t n) 0)):=jU s _ 2 (.str u) (by simp) rfl rfl K
theorem ahL(k w n:Int)(a b t u:List Nat)(s:St)(K:AV->St->Option (AV×St)):aj c (.store 1) [.ptr s.next 3,.str u] (af s (.cells (fA k w a b t n) 0)) K=K .undef (af s (.cells (fA k w a u t n) 0)):=jU s _ 3 (.str u) (by simp) rfl rfl K
theorem aaH(k w n:Int)(a b t u:List Nat)(s:St)(K:AV->St->Option (AV×St)):aj c (.store 1) [.ptr s.next 4,.str u] (af s (.cells (fA k w a b t n) 0)) K=K .undef (af s (.cells (fA k w a b u n) 0)):=jU s _ 4 (.str u) (by simp) rfl rfl K
theorem Dw(k w n n':Int)(a b t:List Nat)(s:St)(K:AV->St->Option (AV×St)):aj c (.store 1) [.ptr s.next 5,.int .i64 n'] (af s (.cells (fA k w a b t n) 0)) K=K .undef (af s (.cells (fA k w a b t n') 0)):=jU s _ 5 (.int .i64 n') (by simp) rfl rfl K
theorem aiq{ts:List aK}(h:∀t∈ts,0<kN t.sh t.a t.b/\kN t.sh t.a t.b<=1000){t:Nat}(ht:t<ts.length):yd ts t=kN ts[t].sh ts[t].a ts[t].b/\0<yd ts t/\yd ts t<=1000:=by
 have e:yd ts t=kN ts[t].sh ts[t].a ts[t].b:=by unfold yd;rw[H4 ht]
 rw[e];exact⟨rfl,h _ (Zc0 ht)⟩
theorem af1 (hc : bE c){s0 s:St}{V1 V2 V3 V4 V5:AV}{ts:List aK}{gs:List aL}{r1 r2:List (List AV)}(hT:TS s0 s V1 ts r1)(hG:GS s0 s V2 gs r2)(lt:ts.length<=1000)(lg:gs.length<=1000)
   (hz:∀t∈ts,0<kN t.sh t.a t.b/\kN t.sh t.a t.b<=1000) (ha:∀t∈ts,(0<=t.a/\t.a<=1000000)/\0<=t.b/\t.b<=1000000) (x:Nat) (hx:x<4294967296):
   c 41 [.agg [V1,V2,V3,V4,V5],.int .i64 (x:Int)] s=some (.tuple [.agg (fW ts gs x).1.cells,.bool (fW ts gs x).2],s):=by
 have hw:=hT.out.aF.wf;have plain:∀(r:Rl)(b:Bool),Plain (.tuple [.agg r.cells,.bool b]):=λr b=>Plain.tuple λv hv=>by
   simp only[Zb2,Ze9,Zj8]at hv;rcases hv with rfl|rfl
   .exact Plain.agg λv hv=>by simp only[Rl.cells,Zb2,Ze9,Zj8]at hv;rcases hv with rfl|rfl|rfl|rfl|rfl|rfl<;>first|exact Plain.int _ _|exact Plain.str _
   .exact Plain.bool _
 suffices key:∃s',jI c 1 (.agg [V1,V2,V3,V4,V5]) (.int .i64 (x:Int)) s=some (.tuple [.agg (fW ts gs x).1.cells,.bool (fW ts gs x).2],s')/\aT s s' by
   obtain⟨s',k1,k2⟩:=key;rw[GV hc 1 (r:=(.tuple [.agg (fW ts gs x).1.cells,.bool (fW ts gs x).2],s')) k1,aD (plain _ _) k2]
 have dm:Wf (af s (.cells [V1,V2,V3,V4,V5] 0)):=bU hw;have g1:=Grew.af hw (.cells [V1,V2,V3,V4,V5] 0);have jy:Wf (af (af s (.cells [V1,V2,V3,V4,V5] 0)) (.cells (fA 0 0 [] [] [] 0) 0)):=bU dm;have g2:=Grew.af dm (.cells (fA 0 0 [] [] [] 0) 0);have g12:=g1.trans g2;obtain⟨s2,Bz⟩:∃s2,s2=af (af s (.cells [V1,V2,V3,V4,V5] 0)) (.cells (fA 0 0 [] [] [] 0) 0):=⟨_,rfl⟩
 obtain⟨p4,hp4⟩:∃p4,p4=(af s (.cells [V1,V2,V3,V4,V5] 0)).next:=⟨_,rfl⟩
 have af2:Wf s2:=by rw[Bz];exact jy
 have abV:Grew s s2:=by rw[Bz];exact g12
 have b2:s2.heap.get s.next=some (.cells [V1,V2,V3,V4,V5] 0):=by rw[Bz];exact g2.get (aE _ _)
 have b4:s2.heap.get p4=some (.cells (fA 0 0 [] [] [] 0) 0):=by rw[Bz,hp4];exact aE _ _
 have n4:s.next.toNat<p4.toNat:=by rw[hp4,dM,Pos.aB];omega
 have n6:p4.toNat<s2.next.toNat:=af2 _ _ b4;have gS:∀b:AB,Grew s2 (af s2 b):=λb=>Grew.af af2 b
 have hP:∀b:AB,(af s2 b).heap.get s.next=some (.cells [V1,V2,V3,V4,V5] 0):=λb=>(gS b).get b2
 have hX:∀b:AB,(af s2 b).heap.get p4=some (.cells (fA 0 0 [] [] [] 0) 0):=λb=>(gS b).get b4
 have fin:∀(k w n:Int)(a b t:List Nat)(K:AV->St->Option (AV×St)),aj c (.store 6) [.ptr p4 0,.agg (fA k w a b t n)] (af s2 (.cells (fA k w a b t n) 0)) K=K .undef (cj (af s2 (.cells (fA k w a b t n) 0)) p4 (.cells (fA k w a b t n) 0)):=λk w n a b t K=>by rw[eV c K _ 6 p4 0 (.agg (fA k w a b t n)) _ (hX _) rfl (by simp) rfl];rfl
 have kp:∀(k w n:Int)(a b t:List Nat),aT s (cj (af s2 (.cells (fA k w a b t n) 0)) p4 (.cells (fA k w a b t n) 0)):=λk w n a b t q y hq=>by have:=hw _ _ hq;rw[bC (λe=>by subst e;omega)];exact(abV.trans (gS _)).get hq
 have cu:∀(k w n:Int)(a b t:List Nat),cut (fA k w a b t n) 0 6=some (fA k w a b t n):=λk w n a b t=>bY rfl
 obtain⟨Q,hQ⟩:∃Q:Option (AV×St)->Prop,Q=λo=>∃s',o=some (.tuple [.agg (fW ts gs x).1.cells,.bool (fW ts gs x).2],s')/\aT s s':=⟨_,rfl⟩
 have A3:∀(k w n:Int)(a b t:List Nat)(bb:Bool),(⟨k,w,a,b,t,n⟩:Rl)=(fW ts gs x).1->bb=(fW ts gs x).2->Q (some (.tuple [.agg (fA k w a b t n),.bool bb],cj (af s2 (.cells (fA k w a b t n) 0)) p4 (.cells (fA k w a b t n) 0))):=λk w n a b t bb h1 h2=>by
   rw[hQ];exact⟨_,by rw[<-h1, <-h2];rfl,kp _ _ _ _ _ _⟩
 have RY:Q (jI c 1 (.agg [V1,V2,V3,V4,V5]) (.int .i64 (x:Int)) s)->∃s',jI c 1 (.agg [V1,V2,V3,V4,V5]) (.int .i64 (x:Int)) s=some (.tuple [.agg (fW ts gs x).1.cells,.bool (fW ts gs x).2],s')/\aT s s':=λh=>by rw[hQ]at h;exact h
 apply RY;clear RY;obtain⟨r,hr⟩:∃r:Nat,r=x % 18:=⟨_,rfl⟩
 obtain⟨k,hk⟩:∃k:Nat,k=1+x % 18:=⟨_,rfl⟩
 obtain⟨y,hy⟩:∃y:Nat,y=x / 18:=⟨_,rfl⟩
 obtain⟨y5,hy5⟩:∃y5:Nat,y5=y % 5:=⟨_,rfl⟩
 obtain⟨y7,hy7⟩:∃y7:Nat,y7=y % 7:=⟨_,rfl⟩
 obtain⟨z,hz5⟩:∃z:Nat,z=y / 5:=⟨_,rfl⟩
 obtain⟨w,hwt⟩:∃w:Nat,w=MR y:=⟨_,rfl⟩
 have E1:(x:Int) % 18=(r:Int):=by omega
 have W1:au .i64 (1+(r:Int))=(k:Int):=(wrap64 (by omega) (by omega)).trans (by omega);have W8:au .u8 (k:Int)=(k:Int):=Bc (by omega) (by omega);have E2:(x:Int) / 18=(y:Int):=by omega
 have E3:(y:Int) % 5=(y5:Int):=by omega
 have E4:(y:Int) % 7=(y7:Int):=by omega
 have W2:au .i64 (1+(y7:Int))=1+(y7:Int):=wrap64 (by omega) (by omega);have E5:(y:Int) / 5=(z:Int):=by omega
 obtain⟨g,hg⟩:∃g,g=gs.length:=⟨_,rfl⟩
 obtain⟨T,hTl⟩:∃T,T=ts.length:=⟨_,rfl⟩
 have pl2:∀(K:AV->Option (AV×St)),dK (.lenB .l) [V2] K=K (.int .i64 (g:Int)):=λK=>by rw[hg, <-hG.len];exact QS.agU hG.out.own K
 have pl1:∀(K:AV->Option (AV×St)),dK (.lenB .l) [V1] K=K (.int .i64 (T:Int)):=λK=>by rw[hTl, <-hT.len];exact QS.agU hT.out.own K
 have Ki:∀(l:List AV)(K:AV->Option (AV×St)),jB (.load none) [.ptr s.next (0+1)] (af s2 (.cells l 0)).heap (λ_=>true) K=K V2:=λl K=>by rw[iJ,hP];rfl
 have rd0:∀(l:List AV)(K:AV->Option (AV×St)),jB (.load none) [.ptr s.next (0+0)] (af s2 (.cells l 0)).heap (λ_=>true) K=K V1:=λl K=>by rw[iJ,hP];rfl
 have OX:∀(k':Int)(s':St)(K:AV->St->Option (AV×St)),aj c (.build [.int .u8 0,.int .i64 0,.str [],.str [],.str [],.int .i64 0] [(0,1)]) [.int .u8 k'] s' K=K (.agg (fA k' 0 [] [] [] 0)) s':=λk' s' K=>rfl
 have sto0:∀(k':Int)(K:AV->St->Option (AV×St)),aj c (.store 6) [.ptr s2.next 0,.agg (fA k' 0 [] [] [] 0)] (af s2 (.cells (fA 0 0 [] [] [] 0) 0)) K=K .undef (af s2 (.cells (fA k' 0 [] [] [] 0) 0)):=λk' K=>eG c K s2 6 (.agg (fA k' 0 [] [] [] 0)) (fA 0 0 [] [] [] 0) rfl rfl rfl
 rw[JK];rw[ff,jD,show AV.cells (.agg [V1,V2,V3,V4,V5])=[V1,V2,V3,V4,V5]from rfl, <-Bz, <-hp4,ak,ak,cg (by omega) (by omega),E1,fG,W1,w6,W8,OX,jD,sto0,ak,gq (by omega) (by omega) (by omega),E2,ak];refine uh (P:=λj=>Q (j [.int .i64 (y:Int),.ptr s.next 0,.ptr p4 0,.ptr s2.next 0] (af s2 (.cells (fA k w [] [] [] 0) 0)))) ?_ ?_
 . rw[  aA, aA, aA, aA,bf,ak,gq (by omega) (by omega) (by omega),E5,ak,aV,Ki,pl2,aV,rd0,pl1,cJ,cJ,ak,cM,ak];by_cases Rr:g=0
   . rw[H5 (show(g:Int)=0 by omega),Bw,Bw,j6,bR];have hR:fW ts gs x=(⟨(k:Int),(w:Int),[],[],[],0⟩,false):=by
        unfold fW;rw[Za9 (.inl (by omega)), <-hk, <-hy, <-hwt]
     have:=A3 k w 0 [] [] [] false (by rw[hR]) (by rw[hR]);simp[cu,fin];exact this
   rw[Za0 (show ¬(g:Int)=0 by omega),dJ,ak,dJ,cM,dF];by_cases hT0:T=0
   . rw[H5 (show(T:Int)=0 by omega),bR];have hR:fW ts gs x=(⟨(k:Int),(w:Int),[],[],[],0⟩,false):=by
        unfold fW;rw[Za9 (.inr (by omega)), <-hk, <-hy, <-hwt]
     have:=A3 k w 0 [] [] [] false (by rw[hR]) (by rw[hR]);simp[cu,fin];exact this
   rw[Za0 (show ¬(T:Int)=0 by omega),cG];obtain⟨a,ea⟩:∃a:Nat,a=z % g:=⟨_,rfl⟩
   obtain⟨zg,ezg⟩:∃zg:Nat,zg=z / g:=⟨_,rfl⟩
   obtain⟨b,eb⟩:∃b:Nat,b=zg % g:=⟨_,rfl⟩
   obtain⟨z7,ez7⟩:∃z7:Nat,z7=z / 7:=⟨_,rfl⟩
   obtain⟨t,et⟩:∃t:Nat,t=z7 % T:=⟨_,rfl⟩
   obtain⟨z11,ez11⟩:∃z11:Nat,z11=z / 11:=⟨_,rfl⟩
   obtain⟨n,en⟩:∃n:Nat,n=z11 % 4:=⟨_,rfl⟩
   have hR:fW ts gs x=JP ts gs k w a b t n z:=by
     unfold fW;rw[Za3 (by omega), <-hk, <-hy, <-hwt, <-hz5, <-hg, <-hTl, <-ea, <-ezg, <-eb, <-ez7, <-et, <-ez11, <-en]
   have Ea:(z:Int) % (g:Int)=(a:Int):=(by rw[ea];exact(Zo8 _ _).symm);have Ezg:(z:Int) / (g:Int)=(zg:Int):=(by rw[ezg];exact(Int.natCast_ediv _ _).symm);have Eb:(zg:Int) % (g:Int)=(b:Int):=(by rw[eb];exact(Zo8 _ _).symm);have Ez7:(z:Int) / 7=(z7:Int):=(by omega);have Et:(z7:Int) % (T:Int)=(t:Int):=(by rw[et];exact(Zo8 _ _).symm);have Ez11:(z:Int) / 11=(z11:Int):=(by omega);have En:(z11:Int) % 4=(n:Int):=(by omega);have za:a<g:=(by rw[ea];exact Zi7 _ (by omega));have zb:b<g:=(by rw[eb];exact Zi7 _ (by omega));have zt:t<T:=(by rw[et];exact Zi7 _ (by omega));have gp:0<(g:Int):=(by omega);have Tp:0<(T:Int):=(by omega);rw[cJ,cJ,Jg (by omega) gp,Ea,cJ,cJ,Xx (by omega) (by omega) gp,Ezg,cJ,Jg (by omega) gp,Eb,cJ,Xx (by omega) (by omega) (by omega),Ez7,cJ,Jg (by omega) Tp,Et,cJ,cJ,cJ,
     ak,gq (by omega) (by omega) (by omega),Ez11,cg (by omega) (by omega),En,ak]
   (clear Ea Ezg Eb Ez7 Et Ez11 En ea ezg eb ez7 et ez11;have mR:1<=k:=(by omega);have kF:k<=18:=(by omega);obtain⟨bA,oA,aa0,csA,vA,eA,hA,_,nA,dA⟩:=hG.row (i:=a) (by omega);obtain⟨bB,oB,capB,csB,vB,eB,hB,_,nB,_⟩:=hG.row (i:=b) (by omega);obtain⟨bT,oT,capT,csT,vT,eT,hTb,cT,nT⟩:=hT.row (i:=t) (by omega);have gA:gs[a].name=l6 gs a/\gs[a].mI=BM gs a:=(by unfold l6 BM;rw[H4 (by omega)];exact⟨rfl,rfl⟩);have gB:gs[b].name=l6 gs b:=(by unfold l6;rw[H4 (by omega)]);have gT:ts[t].name=uE ts t:=(by unfold uE;rw[H4 (by omega)]);rw[gA.1]at nA;rw[gA.2]at dA;rw[gB]at nB;rw[gT]at nT;have abW:∀l:List AV,(af s2 (.cells l 0)).heap.get bA=some (.cells csA 0):=λl=>(gS _).get (abV.get hA));have agV:∀l:List AV,(af s2 (.cells l 0)).heap.get bB=some (.cells csB 0):=λl=>(gS _).get (abV.get hB)
   have heapT:∀l:List AV,(af s2 (.cells l 0)).heap.get bT=some (.cells csT 0):=λl=>(gS _).get (abV.get hTb)
   have ixA:∀(K:AV->Option (AV×St)),dK (.idxA 9 none) [V2,.int .i64 (a:Int)] K=K (.ptr bA (oA+a*9)):=λK=>by rw[eA];exact FX K (by rw[hG.len];omega)
   have Ig:∀(K:AV->Option (AV×St)),dK (.idxA 9 none) [V2,.int .i64 (b:Int)] K=K (.ptr bB (oB+b*9)):=λK=>by rw[eB];exact FX K (by rw[hG.len];omega)
   have ixT:∀(K:AV->Option (AV×St)),dK (.idxA 7 none) [V1,.int .i64 (t:Int)] K=K (.ptr bT (oT+t*7)):=λK=>by rw[eT];exact FX K (by rw[hT.len];omega)
   have sxA:∀(K:AV->St->Option (AV×St))(s':St),aj c (.idxA 9 none) [V2,.int .i64 (a:Int)] s' K=K (.ptr bA (oA+a*9)) s':=λK s'=>by rw[eA];exact qQ c K s' (by rw[hG.len];omega)
   have sxT:∀(K:AV->St->Option (AV×St))(s':St),aj c (.idxA 7 none) [V1,.int .i64 (t:Int)] s' K=K (.ptr bT (oT+t*7)) s':=λK s'=>by rw[eT];exact qQ c K s' (by rw[hT.len];omega)
   have cA:=λ(l l':List AV)(K:AV->Option (AV×St))=>pV K (o:=1) (v:=V2) (h:=(af s2 (.cells l 0)).heap) (h2:=(af s2 (.cells l' 0)).heap) (p:=s.next) (by rw[hP];rfl) (by rw[hP];rfl) hG.out.own.beq
   have cP:=λ(l l':List AV)(K:AV->Option (AV×St))=>pV K (o:=0) (v:=V1) (h:=(af s2 (.cells l 0)).heap) (h2:=(af s2 (.cells l' 0)).heap) (p:=s.next) (by rw[hP];rfl) (by rw[hP];rfl) hT.out.own.beq
   have sb:∀u:List Nat,fE (.str u) (.str u)=true:=λu=>by simp[fE,lu,gK,j3.2 rfl]
   clear eA eB eT;generalize oA+a*9=qA at*
   generalize oB+b*9=qB at*
   generalize oT+t*7=qT at*
   have cB:=λ(l l':List AV)(K:AV->Option (AV×St))=>pV K (o:=qB+0) (v:= .str (l6 gs b)) (h:=(af s2 (.cells l 0)).heap) (h2:=(af s2 (.cells l' 0)).heap) (p:=bB) (by rw[agV];exact nB) (by rw[agV];exact nB) (sb _)
   have cTn:=λ(l l':List AV)(K:AV->Option (AV×St))=>pV K (o:=qT+0) (v:= .str (uE ts t)) (h:=(af s2 (.cells l 0)).heap) (h2:=(af s2 (.cells l' 0)).heap) (p:=bT) (by rw[heapT];exact nT) (by rw[heapT];exact nT) (sb _)
   have rdA:∀(l:List AV)(K:AV->Option (AV×St)),jB (.load none) [.ptr bA (qA+0)] (af s2 (.cells l 0)).heap (λ_=>true) K=K (.str (l6 gs a)):=λl K=>by rw[iJ,abW,Zg7,show(cellsOf (some (.cells csA 0))).bind (λcs=>cs[qA]?)=some (.str (l6 gs a))from nA];rfl
   have su2:∀(k w n:Int)(a b t u:List Nat)(K:AV->St->Option (AV×St)),aj c (.store 1) [.ptr s2.next (0+2),.str u] (af s2 (.cells (fA k w a b t n) 0)) K=K .undef (af s2 (.cells (fA k w u b t n) 0)):=λk w n a b t u K=>aaG k w n a b t u s2 K
   have su3:∀(k w n:Int)(a b t u:List Nat)(K:AV->St->Option (AV×St)),aj c (.store 1) [.ptr s2.next (0+3),.str u] (af s2 (.cells (fA k w a b t n) 0)) K=K .undef (af s2 (.cells (fA k w a u t n) 0)):=λk w n a b t u K=>ahL k w n a b t u s2 K
   have su4:∀(k w n:Int)(a b t u:List Nat)(K:AV->St->Option (AV×St)),aj c (.store 1) [.ptr s2.next (0+4),.str u] (af s2 (.cells (fA k w a b t n) 0)) K=K .undef (af s2 (.cells (fA k w a b u n) 0)):=λk w n a b t u K=>aaH k w n a b t u s2 K
   have UT:∀(k w n:Int)(a b t:List Nat)(K:AV->St->Option (AV×St)),aj c (.load none) [.ptr s2.next (0+0)] (af s2 (.cells (fA k w a b t n) 0)) K=K (.int .u8 k) (af s2 (.cells (fA k w a b t n) 0)):=λk w n a b t K=>by rw[dG,aE];rfl
   refine uh (P:=λj=>¬(k=1\/k=2\/k=3\/k=4\/k=5\/k=6\/k=7\/k=10\/k=17)->Q (j [.int .i64 (z:Int),.ptr s.next 0,.ptr p4 0,.ptr s2.next 0,.int .i64 (t:Int)] (af s2 (.cells (fA k w [] [] [] (if k=15\/k=16 then(n:Int)else 0)) 0)))) ?_ ?_
   . intro hns;obtain⟨z3,e3⟩:∃z3:Nat,z3=z % 3:=⟨_,rfl⟩
     have E6:(z:Int) % 3=(z3:Int):=(by omega);have hf:=hR;unfold JP at hf;rw[Za3 (by omega),Za3 (by omega),Za3 (by omega),Za3 (by omega), <-e3]at hf;obtain⟨n',QX⟩:∃n':Int,n'=(if k=15\/k=16 then(n:Int)else 0):=⟨_,rfl⟩
     rw[<-QX]at hf ⊢;by_cases h3:0<z3
     .  have hd:decide (0<z3)=true:=H5 h3;rw[Za9 h3]at hf;have:=A3 k w n' [] [] (uE ts t) true (by rw[hf]) (by rw[hf]);simp (disch:=omega) [-fS,gX,Za8,cg,E6,hd,hP,sxT,heapT,nT,aaH,cu,fin,dB];exact this
     .  have hd:decide (0<z3)=false:=Za0 h3;rw[Za3 h3]at hf;have:=A3 k w n' [] [] [] true (by rw[hf]) (by rw[hf]);simp (disch:=omega) [-fS,gX,cg,E6,hd,cu,fin,dB];exact this
   . intro  j40 YM;rw[bN,UT];refine uh (P:=λj=>Q (j [.int .i64 (z:Int),.ptr s.next 0,.ptr p4 0,.ptr s2.next 0,.int .i64 (a:Int),.int .i64 (b:Int),.int .i64 (t:Int),.int .i64 (n:Int),.int .u8 (k:Int),.bool (decide (k=1\/k=2\/k=3\/k=4\/k=5))] (af s2 (.cells (fA k w [] [] [] 0) 0)))) ?_ ?_
     .  rw[ aA, aA, aA,aA,aA,aA,aA,aA,aA,aA,bf];by_cases h5:k=1\/k=2\/k=3\/k=4\/k=5
        . rw[ H5 h5,bR];have hf:=hR;unfold JP at hf;rw[Za9 h5]at hf;have fF:Q (some (.tuple [.agg (fA k w (l6 gs a) (l6 gs b) [] (if k=4 then(n:Int)+1 else if k=1 then(n:Int)else 0)),.bool (!decide ((a:Int)=(b:Int)))],cj (af s2 (.cells (fA k w (l6 gs a) (l6 gs b) [] (if k=4 then(n:Int)+1 else if k=1 then(n:Int)else 0)) 0)) p4 (.cells (fA k w (l6 gs a) (l6 gs b) [] (if k=4 then(n:Int)+1 else if k=1 then(n:Int)else 0)) 0))):=
            A3 k w _ (l6 gs a) (l6 gs b) [] _ (by rw[hf];rfl) (by rw[hf];simp;omega)
          have wn:au .i64 ((n:Int)+1)=(n:Int)+1:=wrap64 (by omega) (by omega);clear A3 YM;rw[aV,Ki,cJ,ixA,aV,rdA,aV,su2,aV,cA,cJ,Ig,aV,cB,aV,su3];refine uh (P:=λj=>Q (j [.ptr p4 0,.ptr s2.next 0,.int .i64 (a:Int),.int .i64 (b:Int)] (af s2 (.cells (fA k w (l6 gs a) (l6 gs b) [] (if k=1\/k=4 then(n:Int)else 0)) 0)))) ?_ ?_
          . rw[ aA,aA,aA,aA,bf];refine uh (P:=λj=>Q (j [.ptr p4 0,.ptr s2.next 0,.int .i64 (a:Int),.int .i64 (b:Int)] (af s2 (.cells (fA k w (l6 gs a) (l6 gs b) [] (if k=4 then(n:Int)+1 else if k=1 then(n:Int)else 0)) 0)))) ?_ ?_
            . generalize (if k=4 then(n:Int)+1 else if k=1 then(n:Int)else 0)=n6 at*
              simp[cu,fin,dB];exact fF
            . intro j hj;by_cases h4:k=4
              .have hd:decide ((k:Int)=4)=true:=H5 (by omega);rw[Za9 h4]at hj;rw[Za9 (.inr h4),bN,UT,cM,hd,bR];simp[wn,Dw];exact hj
              .have hd:decide ((k:Int)=4)=false:=Za0 (by omega);rw[Za3 h4]at hj;rw[show(if k=1\/k=4 then(n:Int)else 0)=(if k=1 then(n:Int)else 0)by by_cases h1:k=1<;>simp[h1,h4],bN,UT,cM,hd,cG];exact hj
          . intro j hj;rw[bN,UT,cM,ak];by_cases h1:k=1
            .rw[Za9 (.inl h1)]at hj;rw[H5 (show(k:Int)=1 by omega)];simp[Dw];exact hj
            . rw[Za0 (show ¬(k:Int)=1 by omega)];by_cases h4:k=4
              .rw[Za9 (.inr h4)]at hj;have hd:decide ((k:Int)=4)=true:=H5 (by omega);rw[dJ,bN,dJ,UT,dJ,cM,hd];simp[Dw];exact hj
              .rw[Za3 (by omega)]at hj;have hd:decide ((k:Int)=4)=false:=Za0 (by omega);rw[dJ,bN,dJ,UT,dJ,cM,hd];simp;exact hj
        . rw[ Za0 h5, cG];refine uh (P:=λj=>Q (j [.int .i64 (z:Int),.ptr s.next 0,.ptr p4 0,.ptr s2.next 0,.int .i64 (a:Int),.int .i64 (t:Int),.int .i64 (n:Int),.int .u8 (k:Int),.bool (decide (k=6\/k=7))] (af s2 (.cells (fA k w [] [] [] 0) 0)))) ?_ ?_
          . rw[ aA, aA,aA,aA,aA,aA,aA,aA,aA,bf];by_cases h67:k=6\/k=7
            . rw[ H5 h67,bR];have hf:=hR;unfold JP at hf;rw[Za3 h5,Za9 h67]at hf;obtain⟨sz1,sz2,sz3⟩:=aiq hz (t:=t) (by omega);obtain⟨ha1,ha2⟩:=ha _ (Zc0 (show t<ts.length by omega));obtain⟨RZ,e13⟩:∃RZ:Nat,RZ=z / 13:=⟨_,rfl⟩
              have E13:(z:Int) / 13=(RZ:Int):=(by omega);rw[<-e13]at hf;have SZ:∀l:List AV,c 39 [.agg (ts[t].ax vT)] (af s2 (.cells l 0))=some (.int .i64 (yd ts t),af s2 (.cells l 0)):=λl=>by rw[sz1];exact ED hc rfl rfl rfl ha1 ha2 _ (bU af2)
              have fF:Q (some (.tuple [.agg (fA k w (l6 gs a) [] (uE ts t) (if k=7 then(RZ:Int) % yd ts t else 0)),.bool true],cj (af s2 (.cells (fA k w (l6 gs a) [] (uE ts t) (if k=7 then(RZ:Int) % yd ts t else 0)) 0)) p4 (.cells (fA k w (l6 gs a) [] (uE ts t) (if k=7 then(RZ:Int) % yd ts t else 0)) 0))):=
                A3 k w _ (l6 gs a) [] (uE ts t) _ (by rw[hf]) (by rw[hf])
              clear A3 YM;rw[aV,Ki,cJ,ixA,aV,rdA,aV,su2,aV,cP,cJ,ixT,aV,cTn,aV,su4];refine uh (P:=λj=>Q (j [.ptr p4 0,.ptr s2.next 0] (af s2 (.cells (fA k w (l6 gs a) [] (uE ts t) (if k=7 then(RZ:Int) % yd ts t else 0)) 0)))) ?_ ?_
              . generalize (if k=7 then(RZ:Int) % yd ts t else 0)=n6 at*
                simp[cu,fin,dB];exact fF
              . intro j hj;by_cases h7:k=7
                . have hd:decide ((k:Int)=7)=true:=H5 (by omega);rw[Za9 h7]at hj;have q:=λ(K:AV->St->Option (AV×St))(s':St)=>cg (c:=c) (k:= .i64) (a:=(RZ:Int)) (b:=yd ts t) (by omega) sz2 s' K
                  generalize yd ts t=Z at*
                  rw[bN,UT,cM,hd,bR,ak,gq (by omega) (by omega) (by omega),E13];simp[-fS,q,hP,sxT,heapT,cT,SZ,Dw];exact hj
                .have hd:decide ((k:Int)=7)=false:=Za0 (by omega);rw[Za3 h7]at hj;rw[bN,UT,cM,hd,cG];exact hj
            . rw[ Za0 h67,cG,cM,ak];by_cases h10:k=10
              . have hf:=hR;unfold JP at hf;rw[Za3 h5,Za3 h67,Za9 h10]at hf;obtain⟨z3,e3⟩:∃z3:Nat,z3=z % 3:=⟨_,rfl⟩
                have E6:(z:Int) % 3=(z3:Int):=(by omega);rw[<-e3]at hf;rw[H5 (show(k:Int)=10 by omega),bR];by_cases h3:z3=0
                .have hd:decide ((z3:Int)=0)=true:=H5 (by omega);rw[Za9 h3]at hf;have fF:=A3 k w 0 (l6 gs a) [] [] true (by rw[hf]) (by rw[hf]);rw[uf,ak,cg (by omega) (by omega),E6,cM,hd,bR];simp[hP,sxA,abW,nA,aaG,cu,fin,dB];exact fF
                .have hd:decide ((z3:Int)=0)=false:=Za0 (by omega);rw[Za3 h3]at hf;have fF:=A3 k w 0 [] [] [] true (by rw[hf]) (by rw[hf]);rw[uf,ak,cg (by omega) (by omega),E6,cM,hd,cG];simp[cu,fin,dB];exact fF
              . rw[ Za0 (show ¬(k:Int)=10 by omega),cG,cM,ak];by_cases h17:k=17
                . have hf:=hR;unfold JP at hf;rw[Za3 h5,Za3 h67,Za3 h10,Za9 h17]at hf;rw[H5 (show(k:Int)=17 by omega),bR];have fF:=A3 k w 0 (BM gs a) [] (uE ts t) (!decide (BM gs a=[])) (by rw[hf]) (by rw[hf];simp);have n46:p4≠s2.next:=λe=>by subst e;omega
                  have cD:=λ(K:AV->Option (AV×St))=>pV K (o:=0+2) (v:= .str (BM gs a)) (h:=(cj (af s2 (.cells (fA k w (BM gs a) [] (uE ts t) 0) 0)) p4 (.cells (fA k w (BM gs a) [] (uE ts t) 0) 0)).heap) (h2:=(af s2 (.cells (fA k w (BM gs a) [] (uE ts t) 0) 0)).heap) (p:=s2.next) (by rw[bC n46,aE];rfl) (by rw[aE];rfl) (sb _)
                  have rdD:∀(l:List AV)(K:AV->Option (AV×St)),jB (.load none) [.ptr bA (qA+5)] (af s2 (.cells l 0)).heap (λ_=>true) K=K (.str (BM gs a)):=λl K=>by rw[iJ,abW,show(cellsOf (some (.cells csA 0))).bind (λcs=>cs[qA+5]?)=some (.str (BM gs a))from dA];rfl
                  have rdR:∀(K:AV->Option (AV×St)),jB (.load (some 6)) [.ptr s2.next 0] (af s2 (.cells (fA k w (BM gs a) [] (uE ts t) 0) 0)).heap (λ_=>true) K=K (.agg (fA k w (BM gs a) [] (uE ts t) 0)):=λK=>by rw[Gt,aE];rfl
                  rw[aV,Ki,cJ,ixA,aV,rdD,aV,su2,aV,cP,cJ,ixT,aV,cTn,aV,su4,rdR,fin,aV,cD,ae9,cJ,Xo,dB];exact fF
                . rw[ Za0 (show ¬(k:Int)=17 by omega),cG];have hj:=YM (by omega);clear YM A3;by_cases h15:k=15
                  .have hd:decide ((k:Int)=15)=true:=H5 (by omega);rw[Za9 (.inl h15)]at hj;rw[uf,cM,ak,hd,bR];simp[Dw];exact hj
                  . have hd:decide ((k:Int)=15)=false:=Za0 (by omega);by_cases h16:k=16
                    .have QJ:decide ((k:Int)=16)=true:=H5 (by omega);rw[Za9 (.inr h16)]at hj;rw[uf,cM,ak,hd,cG,cM,ak,QJ];simp[Dw];exact hj
                    .have QJ:decide ((k:Int)=16)=false:=Za0 (by omega);rw[Za3 (by omega)]at hj;rw[uf,cM,ak,hd,cG,cM,ak,QJ];simp;exact hj
          . intro j hj;by_cases h6:k=6
            .rw[H5 (.inl h6)]at hj;rw[cM,ak,H5 (show(k:Int)=6 by omega),bR];exact hj
            .rw[cM,ak,Za0 (show ¬(k:Int)=6 by omega),cG,cM,ak];rw[show decide ((k:Int)=7)=decide (k=6\/k=7)by rw[decide_eq_decide];omega];exact hj
     .  intro j hj;clear A3 YM hR;rcases aas mR kF with rfl|rfl|rfl|rfl|rfl|rfl|rfl|rfl|rfl|rfl|rfl|rfl|rfl|rfl|rfl|rfl|rfl|rfl
        all_goals
          simp at hj ⊢;exact hj
 . intro j hj;by_cases h1:1<y5
   .have e:((w:Nat):Int)=1+(y7:Int):=(by rw[hwt];unfold MR;rw[Za9 (by omega)];omega);rw[e]at hj;have hd:decide ((1:Int)<(y5:Int))=true:=H5 (by omega);simp (disch:=omega) [-fS,cg,E3,E4,hd,W2,ahK];exact hj
   .have e:((w:Nat):Int)=0:=(by rw[hwt];unfold MR;rw[Za3 (by omega)];rfl);rw[e]at hj;have hd:decide ((1:Int)<(y5:Int))=false:=Za0 (by omega);simp (disch:=omega) [-fS,cg,E3,hd];exact hj
structure KX(p:Pos)(sA s:St):Prop where
 wf:Wf s
 next:sA.next.toNat<=s.next.toNat
 keep:∀(b:Pos)(x:AB),b≠p->sA.heap.get b=some x->s.heap.get b=some x
theorem KX.refl{p:Pos}{s:St}(hw:Wf s):KX p s s:=⟨hw,Za5 _,λ_ _ _ h=>h⟩
theorem KX.trans{p:Pos}{a b d:St}(h:KX p a b)(g:KX p b d):KX p a d:=⟨g.wf,Zd4 h.next g.next,λq x hq hx=>g.keep q x hq (h.keep q x hq hx)⟩
theorem KX.aF{p:Pos}{a b d:St}(h:KX p a b)(g:Grew b d):KX p a d:=⟨g.wf,Zd4 h.next g.next,λq x hq hx=>g.get (h.keep q x hq hx)⟩
theorem KX.store{p:Pos}{a b:St}(h:KX p a b)(hp:p.toNat<b.next.toNat)(x:AB):KX p a (cj b p x):=
 ⟨HB h.wf hp,h.next,λq y hq hy=>by rw[bC (λe=>hq e.symm)];exact h.keep q y hq hy⟩
def TS.ow(n:Nat)(V:AV)(rows:List (List AV)):Prop:=(∀b,br V=some b->n<=b.toNat)/\∀(i:Nat)(r:List AV)(v:AV)(b:Pos),rows[i]? =some r->r[4]? =some v->br v=some b->n<=b.toNat
def GS.ow(n:Nat)(V:AV)(rows:List (List AV)):Prop:=(∀b,br V=some b->n<=b.toNat)/\∀(i:Nat)(r:List AV)(v:AV)(b:Pos),rows[i]? =some r->r[8]? =some v->br v=some b->n<=b.toNat
theorem A4{st s:St}{p:Pos}(h0:Wf st)(h:Grew st s)(hp:st.next.toNat<=p.toNat)(Af:p.toNat<s.next.toNat)(b:AB):Grew st (cj s p b):=
 ⟨HB h.wf Af,λq x hq=>by have:=h0 _ _ hq;rw[bC (λe=>by rw[e]at hp;omega)];exact h.get hq,by rw[AM];exact h.next⟩
theorem TS.kx{st sA s:St}{p:Pos}{V:AV}{ts:List aK}{rows:List (List AV)}(h:TS st sA V ts rows)(k:KX p sA s)(g:Grew st s)(hs:TS.ow (p.toNat+1) V rows):TS st s V ts rows:=
 h.wQ g λb x _ hb hx=>k.keep b x (λe=>by
  subst e;rcases hb with hb|⟨i,r,v,h1,h2,h3⟩
  .have:=hs.1 _ hb;omega
  .have:=hs.2 i r v _ h1 h2 h3;omega) hx
theorem GS.kx{st sA s:St}{p:Pos}{V:AV}{ts:List aL}{rows:List (List AV)}(h:GS st sA V ts rows)(k:KX p sA s)(g:Grew st s)(hs:GS.ow (p.toNat+1) V rows):GS st s V ts rows:=
 h.wQ g λb x _ hb hx=>k.keep b x (λe=>by
  subst e;rcases hb with hb|⟨i,r,v,h1,h2,h3⟩
  .have:=hs.1 _ hb;omega
  .have:=hs.2 i r v _ h1 h2 h3;omega) hx
theorem Mk.kx{es:Nat}{st sA s:St}{p:Pos}{V:AV}{rows:List (List AV)}(h:Mk es st sA V rows)(k:KX p sA s)(g:Grew st s)(hs:∀b,br V=some b->p.toNat+1<=b.toNat):Mk es st s V rows:=
 Mk.wQ h g λb x hb hx=>k.keep b x (λe=>by subst e;have:=hs _ hb;omega) hx
theorem TS.push{st s:St}{V:AV}{ts:List aK}{rows:List (List AV)}(h:TS st s V ts rows){t:aK}{v:AV}(M:Mk 1 st s v (t.ou.map dO))(hv:∀b,br v=some b->br V≠some b)(hlen:ts.length<=1000):
   ∃s5 V5,(∀(K:AV->St->Option (AV×St)),aj c (.buildSlice 7 1 [.str [],.int .u8 0,.int .i64 0,.int .i64 0,.ah,.int .i64 0,.int .i64 0] [0]) [.agg (t.ax v)] s (λy q=>aj c (.append 7 80) [V,y] q K)=K V5 s5)/\
    TS st s5 V5 (ts++[t]) (rows++[t.ax v])/\(∀(p:Pos)(b:AB),br V≠some p->s.heap.get p=some b->s5.heap.get p=some b)/\∀b,br V5=some b->s.next.toNat<=b.toNat:=by
 have hl:=h.len;have hw:=h.out.aF.wf;obtain⟨s5,V5,a1,a2,a3,a4⟩:=h.out.push (c:=c) (R:=AV×St) (bytes:=80) (z:=[.str [],.int .u8 0,.int .i64 0,.int .i64 0,.ah,.int .i64 0,.int .i64 0]) (x:= .agg (t.ax v)) rfl rfl (t.Tn M.cells.2) (by decide) (by omega) (by omega);have small:∀(u:AV)(rw:List (List AV)),Mk 1 st s u rw->(∀b,br u=some b->br V≠some b)->Mk 1 st s5 u rw/\∀b,br u=some b->br V5≠some b:=λu rw hu cL=>
   ⟨Mk.wQ hu a2.aF λb y hb hy=>a3 b y (cL b hb) hy,λb hb e=>by have p1:=a4 b e;have p2:=hu.own.lt hw hb;omega⟩
 refine⟨s5,V5,a1,⟨a2,by simp[hl],λi t' r hi hr=> ?_⟩,a3,a4⟩;by_cases Fk:i<ts.length
 .rw[Zc6 (by rw[hl];exact Fk)]at hr;rw[Zc6 Fk]at hi;obtain⟨u,e1,e2,e3⟩:=h.tK i t' r hi hr;obtain⟨f1,f2⟩:=small u _ e2 e3;exact⟨u,e1,f1,f2⟩
 .have iT:=(Za1.1 hi).1;simp at iT;obtain rfl:i=ts.length:=(by omega);rw[Zc8 (by rw[hl];exact Za5 _)]at hr;rw[Zc8 (Za5 _)]at hi;simp[hl]at hr hi;subst hi;subst hr;obtain⟨f1,f2⟩:=small v _ M hv;exact⟨v,rfl,f1,f2⟩
def MS(s:List Nat):List AV:=[.str s]
def EE(x k:Nat):Bool:=decide (x / 2 ^ (6+2*k) % 4=1)
theorem air(x k:Nat):EE x k=decide (x / 2 ^ (6+2*k) % 4=1):=by rw[EE]
def At(x k:Nat):List (List Nat):=((List.range k).filter (EE x)).map bt
theorem YN(x k:Nat):At x (k+1)=At x k++(if EE x k=true then [bt k]else []):=by
 unfold At;rw[Zk1,List.filter_append,Ze4];congr 1;cases h:EE x k with
 |true=>simp[h]
 |false=>simp[h]
theorem ahM(x k:Nat):(At x k).length<=k:=by have:=List.length_filter_le (EE x) (List.range k);rw[Zq3]at this;unfold At;rw[Zb3];exact this
structure GI(s0 s:St)(p8:Pos)(g:aL)(x k:Nat)(v:AV):Prop where
 out:Mk 1 s0 s v ((At x k).map MS)
 h8:s.heap.get p8=some (.cells (g.ax v) 0)
 n8:br v≠some p8
theorem ZE(hc:bE c){g:aL}{x:Nat}(hx:x<1000000){s0:St}{p8:Pos}(h8:s0.next.toNat<=p8.toNat)(x0 x1 x4 x5 x6:AV)
  :∀(m k:Nat)(s:St)(v:AV),GI s0 s p8 g x k v->k+m=4->
  ∃s' v',GI s0 s' p8 g x 4 v'/\∀(F:Nat)(k4:List AV->St->Option (AV×St))(f:Nat),m<f->gw c F k4 f [x0,x1,x4,x5,x6,.int .i64 (x:Int),.ptr p8 0,.int .i64 (k:Int)] s=k4 [x0,x1,x4,x5,x6,.ptr p8 0] s':=by
 intro m;induction m with
 |zero=>
  intro k s v hT h1;obtain rfl:k=4:=by omega
  refine⟨s,v,hT,λF k4 f hf=> ?_⟩;obtain⟨f,rfl⟩:∃g,f=g+1:=⟨f - 1,by omega⟩
  rw[oX];simp
 |succ m ih=>
  intro k s v hT h1;have hw:=hT.out.aF.wf;have h:k<4:=by omega
  . have vh:(0:Int)<=(x:Int):=Int.natCast_nonneg x;have w:au .i64 ((k:Int)+1)=((k+1:Nat):Int):=wrap64 (by omega) (by omega);have w1:au .i64 (2*(k:Int))=2*(k:Int):=wrap64 (by omega) (by omega);have w2:au .i64 (6+2*(k:Int))=6+2*(k:Int):=wrap64 (by omega) (by omega);have e2:6+2*(k:Int)=((6+2*k:Nat):Int):=(by omega);have hk64:6+2*k<=64:=(by omega);have sr:∀(s:St)(K:AV->St->Option (AV×St)),aj c (.bin .shr .num) [.int .i64 (x:Int),.int .i64 (6+2*(k:Int))] s K=K (.int .i64 ((x:Int) / 2 ^ (6+2*k))) s:=λs K=>by rw[e2];exact Xy hk64 s K
    have p0:(0:Int)<=(x:Int) / 2 ^ (6+2*k):=Zr1 vh (Int.le_of_lt (Int.pow_pos (by decide)));have r1:=λ(s:St)(K:AV->St->Option (AV×St))=>cg (c:=c) (k:= .i64) (a:=(x:Int) / 2 ^ (6+2*k)) (b:=4) p0 (by decide) s K
    have d1:decide ((x:Int) / 2 ^ (6+2*k) % 4=1)=decide (x / 2 ^ (6+2*k) % 4=1):=(by have:((x:Int) / 2 ^ (6+2*k) % 4=1)↔(x / 2 ^ (6+2*k) % 4=1):=(by rw[show((x:Int) / 2 ^ (6+2*k) % 4)=((x / 2 ^ (6+2*k) % 4:Nat):Int)by simp];omega);exact decide_eq_decide.2 this);have c8:(g.ax v)[8]? =some v:=rfl;have fin:=air x k;have N:=u6 hc k (by omega) s hw;have hd:decide ((k:Int)<4)=true:=H5 (by omega);cases hq:EE x k with
    |   true=>
        have UE:((At x k).map MS).length<=4:=(by rw[Zb3];have:=ahM x k;omega);obtain⟨s5,v5,a1,a2,a3,a4⟩:=hT.out.push (c:=c) (R:=AV×St) (bytes:=16) (z:=[.str []]) (x:= .str (bt k)) rfl rfl rfl (by decide) (by omega) (by omega);have e:(At x (k+1)).map MS=(At x k).map MS++[(.str (bt k):AV).cells]:=(by rw[YN,Za9 hq,Ze4];rfl);rw[<-e]at a2;have y8:=a3 p8 _ hT.n8 hT.h8;have l8:=hw p8 _ hT.h8;have b8:br v5≠some p8:=λe=>by have:=a4 _ e;omega
        have hw5:=a2.aF.wf;have l8':=hw5 p8 _ y8;have M:=a2.store (p:=p8) (b:= .cells (g.ax v5) 0) h8 l8' b8;obtain⟨vc,v1⟩:=a2.cells;have aQ:∀(K:AV->St->Option (AV×St)),aj c (.store 1) [.ptr p8 8,v5] s5 K=K .undef (cj s5 p8 (.cells (g.ax v5) 0)):=λK=>by rw[eV c K s5 1 p8 8 v5 (g.ax v) y8 (by rw[vc];rfl) (by simp[aL.ax]) (by rw[vc];exact v1),vc];rfl
        obtain⟨s',v',b1,b2⟩:=ih (k+1) _ v5 ⟨M,dB _ _ _,b8⟩ (by omega);refine⟨s',v',b1,λF k4 f hf=> ?_⟩;obtain⟨f,rfl⟩:∃g,f=g+1:=⟨f - 1,by omega⟩
        rw[<-b2 F k4 f (by omega),oX];rw[fin]at hq;simp[-aX,hT.h8,hd,gX,sr,r1,d1,hq,c8,N,a1,aQ,w,w1,w2]
    |   false=>
        have e:(At x (k+1))=(At x k):=(by rw[YN,Za3 (by rw[hq];decide),Zf7]);obtain⟨s',v',b1,b2⟩:=ih (k+1) s v ⟨by rw[e];exact hT.out,hT.h8,hT.n8⟩ (by omega);refine⟨s',v',b1,λF k4 f hf=> ?_⟩;obtain⟨f,rfl⟩:∃g,f=g+1:=⟨f - 1,by omega⟩
        rw[<-b2 F k4 f (by omega),oX];rw[fin]at hq;simp[-aX,hd,gX,sr,r1,d1,hq,w,w1,w2]
def uF(i:Nat):Nat:=25*i % 312+i / 12
def vP(i x:Nat):aL:=⟨bt (uF i),if x % 2=1 then bt (x % 3)else [],if 4<x % 8 then bt (x % 8)else [],((x % 4*500:Nat):Int),((x % 3:Nat):Int),if x % 3=2 then bt (x % 5)else [],decide (x % 5=0),decide (x % 7=0),true,At x 4⟩
theorem YO{es:Nat}{s0 s s':St}{v:AV}{rows:List (List AV)}(h:Mk es s0 s v rows)(hg:Grew s0 s')(hk:∀b x,br v=some b->s.heap.get b=some x->s'.heap.get b=some x):Mk es s0 s' v rows:=
 ⟨h.rS,hg,h.own.mono hk,h.new,h.row,h.cap,λb hb=>hk b _ hb (h.tight b hb)⟩
structure GL(st s:St)(p4 p5:Pos)(V W:AV)(gs:List aL)(rows:List (List AV)):Prop where
 out:Mk 9 st s V rows
 len:rows.length=gs.length
 tK:∀(i:Nat)(g:aL)(r:List AV),gs[i]? =some g->rows[i]? =some r->∃v,r=g.ax v/\Mk 1 st s v (g.tg.map MS)/\∀b,br v=some b->br V≠some b/\b≠p4/\b≠p5
 h4:s.heap.get p4=some (.cells [.ah,.ah] 0)
 h5:s.heap.get p5=some (.cells [V,W] 0)
 n4:br V≠some p4
 n5:br V≠some p5
theorem ahN(g:aL){v:AV}(h:aR [v]=true):aR (g.ax v)=true:=by
 simp only[aR]at h;unfold aL.ax;simp only[aR,AV.one,h,Zl1,Zn1]at*
theorem GL.push{st s s1:St}{p4 p5:Pos}{V W:AV}{gs:List aL}{rows:List (List AV)}(h:GL st s p4 p5 V W gs rows)(Ie:p4≠p5)(FY:st.next.toNat<=p5.toNat){g:aL}{v:AV}(M:Mk 1 s s1 v (g.tg.map MS))(hlen:rows.length<=1000):
   ∃ s5 s6 V5,(∀(K:AV->St->Option (AV×St)),aj c (.buildSlice 9 1 [.str [],.str [],.str [],.int .i64 0,.int .i64 0,.str [],.bool false,.bool false,.ah] [0]) [.agg (g.ax v)] s1 (λy t=>aj c (.append 9 112) [V,y] t K)=K V5 s5)/\
     (∀(K:AV->St->Option (AV×St)),aj c (.store 1) [.ptr p5 0,V5] s5 K=K .undef s6)/\s1.heap.get p5=some (.cells [V,W] 0)/\GL st s6 p4 p5 V5 W (gs++[g]) (rows++[g.ax v]):=by
 have hw:=h.out.aF.wf;have O1:=h.out.grow M.aF;obtain⟨s5,V5,a1,a2,a3,a4⟩:=O1.push (c:=c) (R:=AV×St) (bytes:=112) (z:=[.str [],.str [],.str [],.int .i64 0,.int .i64 0,.str [],.bool false,.bool false,.ah]) (x:= .agg (g.ax v)) rfl rfl (ahN g M.cells.2) (by decide) (by omega) (by omega);have y4:=a3 p4 _ h.n4 (M.aF.get h.h4);have y5:=a3 p5 _ h.n5 (M.aF.get h.h5);have l4:=hw p4 _ h.h4;have l5:=hw p5 _ h.h5;have nx:=M.aF.next;have b4:br V5≠some p4:=λe=>by have:=a4 _ e;omega
 have b5:br V5≠some p5:=λe=>by have:=a4 _ e;omega
 have l5':=a2.aF.wf p5 _ y5;obtain⟨vc,v1⟩:=a2.cells;have aQ:∀(K:AV->St->Option (AV×St)),aj c (.store 1) [.ptr p5 0,V5] s5 K=K .undef (cj s5 p5 (.cells [V5,W] 0)):=λK=>by rw[eV c K s5 1 p5 0 V5 [V,W] y5 (by rw[vc];rfl) (by simp) (by rw[vc];exact v1),vc];rfl
 have M6:=a2.store (p:=p5) (b:= .cells [V5,W] 0) FY l5' b5;have Mv:=M.back h.out.rS h.out.aF;have vV:∀b,br v=some b->br V≠some b/\b≠p4/\b≠p5:=λb hb=>by
   have p1:=M.new b hb;refine⟨λe=> ?_,λe=> ?_,λe=> ?_⟩
   .have:=h.out.own.lt hw e;omega
   .subst e;omega
   .subst e;omega
 have small:∀(u:AV)(rw:List (List AV)),Mk 1 st s1 u rw->(∀b,br u=some b->br V≠some b/\b≠p4/\b≠p5)->Mk 1 st (cj s5 p5 (.cells [V5,W] 0)) u rw/\∀b,br u=some b->br V5≠some b/\b≠p4/\b≠p5:=λu rw hu cL=>by
   refine⟨YO hu M6.aF λb y hb hy=> ?_,λb hb=>⟨λe=> ?_,(cL b hb).2⟩⟩
   .rw[bC (λe=>(cL b hb).2.2 e.symm)];exact a3 b y (cL b hb).1 hy
   .have p1:=a4 b e;have p2:=hu.own.lt hu.aF.wf hb;omega
 refine⟨s5,_,V5,a1,aQ,M.aF.get h.h5,⟨M6,by simp[h.len],λi t r hi YP=> ?_,by rw[bC (λe=>Ie e.symm)];exact y4,dB _ _ _,b4,b5⟩⟩;by_cases Fk:i<gs.length
 .rw[Zc6 (by rw[h.len];exact Fk)]at YP;rw[Zc6 Fk]at hi;obtain⟨u,e1,e2,e3⟩:=h.tK i t r hi YP;obtain⟨f1,f2⟩:=small u _ (e2.grow M.aF) e3;exact⟨u,e1,f1,f2⟩
 .have iT:=(Za1.1 hi).1;simp at iT;obtain rfl:i=gs.length:=(by omega);rw[Zc8 (by rw[h.len];exact Za5 _)]at YP;rw[Zc8 (Za5 _)]at hi;simp[h.len]at YP hi;subst hi;subst YP;obtain⟨f1,f2⟩:=small v _ Mv vV;exact⟨v,rfl,f1,f2⟩
def dW(k:IntKind)(z:Bool)(l:List Nat):AV:=ro 1 z (l.map λ(i:Nat)=>[.int k (i:Int)])
def zQ(xs:List Nat)(k:Nat):List aL:=(List.range k).map λi=>vP i (xs.getD i 0)
theorem adO(xs:List Nat)(k:Nat)(h:k<xs.length):zQ xs (k+1)=zQ xs k++[vP k xs[k]]:=by
 unfold zQ;rw[Zk1,Ze4];simp[Za7,h]
theorem JQ(xs:List Nat)(k:Nat):(zQ xs k).length=k:=by simp[zQ]
def zG:List AV:=[.str [],.str [],.str [],.int .i64 0,.int .i64 0,.str [],.bool false,.bool false,.ah]
theorem oC(s:St)(K:AV->St->Option (AV×St)):aj c (.alloc [.str [],.str [],.str [],.int .i64 0,.int .i64 0,.str [],.bool false,.bool false,.ah]) [] s K=K (.ptr s.next 0) (af s (.cells zG 0)):=rfl
theorem oD(nm:List Nat)(u y:Int)(b d:Bool)(s:St)(K:AV->St->Option (AV×St)):aj c (.build [.str [],.str [],.str [],.int .i64 0,.int .i64 0,.str [],.bool false,.bool false,.ah] [(0,1),(3,1),(4,1),(6,1),(7,1)]) [.str nm,.int .i64 u,.int .i64 y,.bool b,.bool d] s K=K (.agg [.str nm,.str [],.str [],.int .i64 u,.int .i64 y,.str [],.bool b,.bool d,.ah]) s:=rfl
theorem oE(nm:List Nat)(u y:Int)(b d:Bool)(s:St)(K:AV->St->Option (AV×St)):aj c (.store 9) [.ptr s.next 0,.agg [.str nm,.str [],.str [],.int .i64 u,.int .i64 y,.str [],.bool b,.bool d,.ah]] (af s (.cells zG 0)) K=K .undef (af s (.cells [.str nm,.str [],.str [],.int .i64 u,.int .i64 y,.str [],.bool b,.bool d,.ah] 0)):=
 eG c K s 9 (.agg [.str nm,.str [],.str [],.int .i64 u,.int .i64 y,.str [],.bool b,.bool d,.ah]) zG rfl rfl rfl
theorem qt(nm r ct dt z:List Nat)(u y:Int)(b d:Bool)(s:St)(K:AV->St->Option (AV×St)):aj c (.store 1) [.ptr s.next 1,.str z] (af s (.cells [.str nm,.str r,.str ct,.int .i64 u,.int .i64 y,.str dt,.bool b,.bool d,.ah] 0)) K=K .undef (af s (.cells [.str nm,.str z,.str ct,.int .i64 u,.int .i64 y,.str dt,.bool b,.bool d,.ah] 0)):=jU s _ 1 (.str z) (by simp) rfl rfl K
theorem qu(nm r ct dt z:List Nat)(u y:Int)(b d:Bool)(s:St)(K:AV->St->Option (AV×St)):aj c (.store 1) [.ptr s.next 2,.str z] (af s (.cells [.str nm,.str r,.str ct,.int .i64 u,.int .i64 y,.str dt,.bool b,.bool d,.ah] 0)) K=K .undef (af s (.cells [.str nm,.str r,.str z,.int .i64 u,.int .i64 y,.str dt,.bool b,.bool d,.ah] 0)):=jU s _ 2 (.str z) (by simp) rfl rfl K
theorem qv(nm r ct dt z:List Nat)(u y:Int)(b d:Bool)(s:St)(K:AV->St->Option (AV×St)):aj c (.store 1) [.ptr s.next 5,.str z] (af s (.cells [.str nm,.str r,.str ct,.int .i64 u,.int .i64 y,.str dt,.bool b,.bool d,.ah] 0)) K=K .undef (af s (.cells [.str nm,.str r,.str ct,.int .i64 u,.int .i64 y,.str z,.bool b,.bool d,.ah] 0)):=jU s _ 5 (.str z) (by simp) rfl rfl K
theorem UU(i x:Nat)(v:AV):(vP i x).ax v=[.str (bt (uF i)),.str (if x % 2=1 then bt (x % 3)else []),.str (if 4<x % 8 then bt (x % 8)else []),.int .i64 ((x % 4*500:Nat):Int),.int .i64 ((x % 3:Nat):Int),.str (if x % 3=2 then bt (x % 5)else []),.bool (decide (x % 5=0)),.bool (decide (x % 7=0)),v]:=rfl
theorem ZF(hc:bE c){xs:List Nat}(hx:∀x∈xs,x<65536)(z:Bool)(x1:AV){st s:St}{p4 p5:Pos}(Ie:p4≠p5)(FY:st.next.toNat<=p5.toNat){V W:AV}{rows:List (List AV)}{k:Nat}(hk:k<xs.length)(hk12:k<12)
   (h:GL st s p4 p5 V W (zQ xs k) rows):∃s' V' JR,GL st s' p4 p5 V' W (zQ xs (k+1)) JR/\∀(F:Nat)(_:5<=F)(k2:List AV->St->Option (AV×St))(f:Nat),
     fy c F k2 (f+1) [dW .u16 z xs,x1,.ptr p4 0,.ptr p5 0,.int .i64 (k:Int)] s=fy c F k2 f [dW .u16 z xs,x1,.ptr p4 0,.ptr p5 0,.int .i64 ((k+1:Nat):Int)] s':=by
 have hw:=h.out.aF.wf;have ZQ:=hx _ (Zc0 hk);generalize EF:xs[k]=x at ZQ;have M0:Mk 1 s (af s (.cells ((vP k x).ax .ah) 0)) .ah []:=Mk.start hw (Grew.af hw _);obtain⟨s1,v1,hG,L⟩:=ZE hc (g:=vP k x) (x:=x) (by omega) (s0:=s) (p8:=s.next) (Za5 _) (dW .u16 z xs) x1 (.ptr p4 0) (.ptr p5 0) (.int .i64 (k:Int)) 4 0 _ .ah ⟨M0,aE _ _,λe=>(nomatch e)⟩ rfl;have M:Mk 1 s s1 v1 ((vP k x).tg.map MS):=hG.out;obtain⟨s5,s6,V5,a1,a2,a3,a4⟩:=h.push (c:=c) Ie FY M (by rw[h.len,JQ];omega);have e:zQ xs k++[vP k x]=zQ xs (k+1):=by rw[adO xs k hk,EF]
 rw[e]at a4;refine⟨s6,V5,_,a4,λF hF k2 f=> ?_⟩;have L':∀k4:List AV->St->Option (AV×St),gw c F k4 F [dW .u16 z xs,x1,.ptr p4 0,.ptr p5 0,.int .i64 (k:Int),.int .i64 (x:Int),.ptr s.next 0,.int .i64 0] (af s (.cells ((vP k x).ax .ah) 0))=k4 [dW .u16 z xs,x1,.ptr p4 0,.ptr p5 0,.int .i64 (k:Int),.ptr s.next 0] s1:=λk4=>L F k4 F (by omega)
 clear a4 M M0 L;have lI:∀(K:AV->St->Option (AV×St))(s:St),aj c (.lenB .l) [dW .u16 z xs] s K=K (.int .i64 (xs.length:Int)) s:=λK s=>by unfold dW;rw[lF];simp
 have ix:∀(K:AV->St->Option (AV×St))(s:St),aj c (.idxA 1 none) [dW .u16 z xs,.int .i64 (k:Int)] s K=K (.fp (xs.map λ(i:Nat)=>[.int .u16 (i:Int)]) k 0) s:=λK s=>by unfold dW;rw[Xn];simp[hk]
 have ld:((xs.map λ(i:Nat)=>[AV.int .u16 (i:Int)])[k]?.bind λcs=>cs[0]?)=some (.int .u16 (x:Int)):=by simp[hk,EF]
 have w0:au .i64 (x:Int)=(x:Int):=wrap64 (by omega) (by omega);have N1:=u6 hc (uF k) (by unfold uF;omega) s hw;have Au:cut ((vP k x).ax v1) 0 9=some ((vP k x).ax v1):=bY rfl;have N2:∀(b:AB)(j:Nat)(i:Int),i=(j:Int)->j<1000000->c 81 [.int .i64 i] (af s b)=some (.str (bt j),af s b):=λb j i e hj=>by rw[e];exact u6 hc j hj _ (bU hw)
 have N3:=λb=>N2 b (x % 3) ((x:Int) % 3) (by omega) (by omega)
 have N8:=λb=>N2 b (x % 8) ((x:Int) % 8) (by omega) (by omega)
 have N5:=λb=>N2 b (x % 5) ((x:Int) % 5) (by omega) (by omega)
 have eg:25*(k:Int) % 312+(k:Int) / 12=((uF k:Nat):Int):=by unfold uF;omega
 rw[<-eg]at N1;have MT:decide ((k:Int)<12)=true:=H5 (by omega);have d5:decide ((x:Int) % 5=0)=decide (x % 5=0):=decide_eq_decide.2 (by omega);have d7:decide ((x:Int) % 7=0)=decide (x % 7=0):=decide_eq_decide.2 (by omega);have u4:((x % 4*500:Nat):Int)=(x:Int) % 4*500:=by omega
 have u3:((x % 3:Nat):Int)=(x:Int) % 3:=by omega
 simp only[UU]at a1 L' hG Au;clear N2;have h8:=hG.h8;rw[UU]at h8;rw[u4,u3]at L' h8 a1 Au;rw[wF];by_cases c1:x % 2=1
 . by_cases c2:4<x % 8
   . by_cases c3:x % 3=2
     .  have e1:decide ((x:Int) % 2=1)=true:=H5 (by omega);have e2:decide (4<(x:Int) % 8)=true:=H5 (by omega);have e3:decide ((x:Int) % 3=2)=true:=H5 (by omega);simp only[Za9 c1,Za9 c2,Za9 c3]at L' h8 a1 Au;simp (maxSteps:=2000000) (disch:=omega) [-aX,-jC,-jD,-fS,-lH,oC,oD,oE,qt,qu,qv,lI,ix,ld,hk,EF,Za8,MT,oq,w0,cg,gq,wrap64,N1,N3,N8,N5,d5,d7,e1,e2,e3,gX,L',a1,a2,a3,h8,Au]
     .  have e1:decide ((x:Int) % 2=1)=true:=H5 (by omega);have e2:decide (4<(x:Int) % 8)=true:=H5 (by omega);have e3:decide ((x:Int) % 3=2)=false:=Za0 (by omega);simp only[Za9 c1,Za9 c2,Za3 c3]at L' h8 a1 Au;simp (maxSteps:=2000000) (disch:=omega) [-aX,-jC,-jD,-fS,-lH,oC,oD,oE,qt,qu,qv,lI,ix,ld,hk,EF,Za8,MT,oq,w0,cg,gq,wrap64,N1,N3,N8,N5,d5,d7,e1,e2,e3,gX,L',a1,a2,a3,h8,Au]
   . by_cases c3:x % 3=2
     .  have e1:decide ((x:Int) % 2=1)=true:=H5 (by omega);have e2:decide (4<(x:Int) % 8)=false:=Za0 (by omega);have e3:decide ((x:Int) % 3=2)=true:=H5 (by omega);simp only[Za9 c1,Za3 c2,Za9 c3]at L' h8 a1 Au;simp (maxSteps:=2000000) (disch:=omega) [-aX,-jC,-jD,-fS,-lH,oC,oD,oE,qt,qu,qv,lI,ix,ld,hk,EF,Za8,MT,oq,w0,cg,gq,wrap64,N1,N3,N8,N5,d5,d7,e1,e2,e3,gX,L',a1,a2,a3,h8,Au]
     .  have e1:decide ((x:Int) % 2=1)=true:=H5 (by omega);have e2:decide (4<(x:Int) % 8)=false:=Za0 (by omega);have e3:decide ((x:Int) % 3=2)=false:=Za0 (by omega);simp only[Za9 c1,Za3 c2,Za3 c3]at L' h8 a1 Au;simp (maxSteps:=2000000) (disch:=omega) [-aX,-jC,-jD,-fS,-lH,oC,oD,oE,qt,qu,qv,lI,ix,ld,hk,EF,Za8,MT,oq,w0,cg,gq,wrap64,N1,N3,N8,N5,d5,d7,e1,e2,e3,gX,L',a1,a2,a3,h8,Au]
 . by_cases c2:4<x % 8
   . by_cases c3:x % 3=2
     .  have e1:decide ((x:Int) % 2=1)=false:=Za0 (by omega);have e2:decide (4<(x:Int) % 8)=true:=H5 (by omega);have e3:decide ((x:Int) % 3=2)=true:=H5 (by omega);simp only[Za3 c1,Za9 c2,Za9 c3]at L' h8 a1 Au;simp (maxSteps:=2000000) (disch:=omega) [-aX,-jC,-jD,-fS,-lH,oC,oD,oE,qt,qu,qv,lI,ix,ld,hk,EF,Za8,MT,oq,w0,cg,gq,wrap64,N1,N3,N8,N5,d5,d7,e1,e2,e3,gX,L',a1,a2,a3,h8,Au]
     .  have e1:decide ((x:Int) % 2=1)=false:=Za0 (by omega);have e2:decide (4<(x:Int) % 8)=true:=H5 (by omega);have e3:decide ((x:Int) % 3=2)=false:=Za0 (by omega);simp only[Za3 c1,Za9 c2,Za3 c3]at L' h8 a1 Au;simp (maxSteps:=2000000) (disch:=omega) [-aX,-jC,-jD,-fS,-lH,oC,oD,oE,qt,qu,qv,lI,ix,ld,hk,EF,Za8,MT,oq,w0,cg,gq,wrap64,N1,N3,N8,N5,d5,d7,e1,e2,e3,gX,L',a1,a2,a3,h8,Au]
   . by_cases c3:x % 3=2
     .  have e1:decide ((x:Int) % 2=1)=false:=Za0 (by omega);have e2:decide (4<(x:Int) % 8)=false:=Za0 (by omega);have e3:decide ((x:Int) % 3=2)=true:=H5 (by omega);simp only[Za3 c1,Za3 c2,Za9 c3]at L' h8 a1 Au;simp (maxSteps:=2000000) (disch:=omega) [-aX,-jC,-jD,-fS,-lH,oC,oD,oE,qt,qu,qv,lI,ix,ld,hk,EF,Za8,MT,oq,w0,cg,gq,wrap64,N1,N3,N8,N5,d5,d7,e1,e2,e3,gX,L',a1,a2,a3,h8,Au]
     .  have e1:decide ((x:Int) % 2=1)=false:=Za0 (by omega);have e2:decide (4<(x:Int) % 8)=false:=Za0 (by omega);have e3:decide ((x:Int) % 3=2)=false:=Za0 (by omega);simp only[Za3 c1,Za3 c2,Za3 c3]at L' h8 a1 Au;simp (maxSteps:=2000000) (disch:=omega) [-aX,-jC,-jD,-fS,-lH,oC,oD,oE,qt,qu,qv,lI,ix,ld,hk,EF,Za8,MT,oq,w0,cg,gq,wrap64,N1,N3,N8,N5,d5,d7,e1,e2,e3,gX,L',a1,a2,a3,h8,Au]
def iQ(i x:Nat):aK:=⟨dx i,((mo x:Nat):Int),((tA x:Nat):Int),((tB x:Nat):Int),true,(zP x (tN x)).map λ(k:Nat)=>(k:Int),((x:Nat):Int),255 - ((x:Nat):Int)⟩
def o9(xs:List Nat)(k:Nat):List aK:=(List.range k).map λi=>iQ i (xs.getD i 0)
theorem adP(xs:List Nat)(k:Nat)(h:k<xs.length):o9 xs (k+1)=o9 xs k++[iQ k xs[k]]:=by
 unfold o9;rw[Zk1,Ze4];simp[Za7,h]
theorem JS(xs:List Nat)(k:Nat):(o9 xs k).length=k:=by simp[o9]
def iX(xs:List Nat):Nat->Nat
 |0=>0
 |k+1=>iX xs k+tN (xs.getD k 0)
theorem UW(xs:List Nat):∀k,iX xs k<=k*16
 |0=>Za5 _
 |k+1=>by have:=UW xs k;have:=NI (xs.getD k 0);unfold iX;omega
theorem abX(i x:Nat)(v:AV):(iQ i x).ax v=fT (dx i) (mo x:Nat) (tA x:Nat) (tB x:Nat) x v:=rfl
theorem af3(i x:Nat):(iQ i x).ou.map dO=(zP x (tN x)).map Tw:=by unfold iQ;rw[Zh1];rfl
theorem QS.owner{es:Nat}{s:St}{v:AV}{rows:List (List AV)}(h:QS es s v rows)(h0:rows≠[]):∃b,br v=some b:=by
 rcases h with⟨_,e⟩|⟨b,off,cap,cs,rfl,_⟩|⟨b,off,_,e⟩
 .exact absurd e h0
 . (refine⟨b,?_⟩;have:rows.length≠0:=λe=>h0 (Zb1 e));simp only[br];rw[Za3 (λe=>this e.2)]
 .exact absurd e h0
structure LL(st sA s:St)(p3:Pos)(es:Nat)(V:AV)(rows:List (List AV))(W:AV->List AV):Prop where
 out:Mk es st s V rows
 kx:KX p3 sA s
 h3:s.heap.get p3=some (.cells (W V) 0)
 since:∀b,br V=some b->sA.next.toNat<=b.toNat
theorem LL.aF{st sA s s':St}{p3:Pos}{es:Nat}{V:AV}{rows:List (List AV)}{W:AV->List AV}(h:LL st sA s p3 es V rows W)(g:Grew s s'):LL st sA s' p3 es V rows W:=
 ⟨h.out.grow g,h.kx.aF g,g.get h.h3,h.since⟩
theorem LL.push{st sA s:St}{p3:Pos}{es bytes i:Nat}{V:AV}{rows:List (List AV)}{W:AV->List AV}(h:LL st sA s p3 es V rows W)(hA:Wf sA)(OY:p3.toNat<sA.next.toNat)(jP:st.next.toNat<=p3.toNat)(hi:∀A B,(W A).set i B=W B)(iT:∀A,i<(W A).length)
   {z:List AV} {x:AV} (hz:z.length=es) (hx:x.cells.length=es) (h1:aR x.cells=true) (ee:es≠0) (hb:(2*(rows.length+1)+768)*bytes<=281474976710656) (hn:rows.length<=4000000):
   ∃s5 s6 V5,(∀(K:AV->St->Option (AV×St)),aj c (.buildSlice es 1 z [0]) [x] s (λy q=>aj c (.append es bytes) [V,y] q K)=K V5 s5)/\(∀(K:AV->St->Option (AV×St)),aj c (.store 1) [.ptr p3 i,V5] s5 K=K .undef s6)/\
    LL st sA s6 p3 es V5 (rows++[x.cells]) W/\(∀(p:Pos)(b:AB),p≠p3->br V≠some p->s.heap.get p=some b->s6.heap.get p=some b)/\(∀b,br V5=some b->s.next.toNat<=b.toNat)/\s.next.toNat<=s6.next.toNat/\s5.heap.get p3=some (.cells (W V) 0):=by
 have hw:=h.out.aF.wf;obtain⟨s5,V5,a1,a2,a3,a4⟩:=h.out.push (c:=c) (R:=AV×St) (bytes:=bytes) hz hx h1 ee hb hn;have nV:br V≠some p3:=λe=>by have:=h.since _ e;omega
 have y3:=a3 p3 _ nV h.h3;have n5:br V5≠some p3:=λe=>by have:=a4 _ e;have:=hw _ _ h.h3;omega
 have l3:=a2.aF.wf p3 _ y3;obtain⟨vc,v1⟩:=a2.cells;obtain⟨b,hbo⟩:=QS.owner a2.own (by simp);have nx:s.next.toNat<=s5.next.toNat:=by have:=a4 b hbo;have:=a2.own.lt a2.aF.wf hbo;omega
 refine⟨s5,cj s5 p3 (.cells (W V5) 0),V5,a1,λK=> ?_,⟨a2.store jP l3 n5,?_,dB _ _ _,λb hb=> ?_⟩,λp b hp hv hg=> ?_,a4,nx,y3⟩
 .rw[eV c K s5 1 p3 i V5 (W V) y3 (by rw[vc];rfl) (by have:=iT V;omega) (by rw[vc];exact v1),vc];rw[uX _ _ (iT V),hi]
 .refine KX.store ⟨a2.aF.wf,Zd4 h.kx.next nx,λq y hq hy=> ?_⟩ l3 _;refine a3 q y (λe=> ?_) (h.kx.keep q y hq hy);have:=h.since _ e;have:=hA _ _ hy;omega
 .have:=a4 b hb;have:=h.kx.next;omega
 .rw[bC (λe=>hp e.symm)];exact a3 p b hv hg
structure TL(st sA s:St)(p3:Pos)(V:AV)(ts:List aK)(rows:List (List AV))(W:AV->List AV):Prop where
 tab:TS st s V ts rows
 kx:KX p3 sA s
 h3:s.heap.get p3=some (.cells (W V) 0)
 since:TS.ow sA.next.toNat V rows
theorem TL.push{st sA s:St}{p3:Pos}{i:Nat}{V:AV}{ts:List aK}{rows:List (List AV)}{W:AV->List AV}(h:TL st sA s p3 V ts rows W)(hA:Wf sA)(OY:p3.toNat<sA.next.toNat)(jP:st.next.toNat<=p3.toNat)(hi:∀A B,(W A).set i B=W B)(iT:∀A,i<(W A).length)
   {t:aK} {v:AV} (M:Mk 1 st s v (t.ou.map dO)) (hv:∀b,br v=some b->br V≠some b) (Hi:∀b,br v=some b->sA.next.toNat<=b.toNat) (hlen:ts.length<=1000):
   ∃ s5 s6 V5,(∀(K:AV->St->Option (AV×St)),aj c (.buildSlice 7 1 [.str [],.int .u8 0,.int .i64 0,.int .i64 0,.ah,.int .i64 0,.int .i64 0] [0]) [.agg (t.ax v)] s (λy q=>aj c (.append 7 80) [V,y] q K)=K V5 s5)/\
     (∀(K:AV->St->Option (AV×St)),aj c (.store 1) [.ptr p3 i,V5] s5 K=K .undef s6)/\TL st sA s6 p3 V5 (ts++[t]) (rows++[t.ax v]) W/\(∀(p:Pos)(b:AB),p≠p3->br V≠some p->s.heap.get p=some b->s6.heap.get p=some b)/\s5.heap.get p3=some (.cells (W V) 0):=by
 have hw:=h.tab.out.aF.wf;obtain⟨s5,V5,a1,a2,a3,a4⟩:=h.tab.push (c:=c) M hv hlen;have nV:br V≠some p3:=λe=>by have:=h.since.1 _ e;omega
 have y3:=a3 p3 _ nV h.h3;have l3:=a2.out.aF.wf p3 _ y3;obtain⟨vc,v1⟩:=a2.out.cells;obtain⟨b,hbo⟩:=QS.owner a2.out.own (by simp);have nx:s.next.toNat<=s5.next.toNat:=by have:=a4 b hbo;have:=a2.out.own.lt a2.out.aF.wf hbo;omega
 have sn:TS.ow sA.next.toNat V5 (rows++[t.ax v]):=by
   refine⟨λb hb=>by have:=a4 b hb;have:=h.kx.next;omega,λj r u b hr h4 hb=> ?_⟩;by_cases hj:j<rows.length
   .rw[Zc6 hj]at hr;exact h.since.2 j r u b hr h4 hb
   .have Oe:=(Za1.1 hr).1;simp at Oe;obtain rfl:j=rows.length:=(by omega);rw[Zc8 (Za5 _)]at hr;simp at hr;subst hr;have:v=u:=(by simpa [aK.ax]using h4);subst this;exact Hi b hb
 have k5:KX p3 sA s5:=⟨a2.out.aF.wf,Zd4 h.kx.next nx,λq y hq hy=>a3 q y (λe=>by
   have:=h.since.1 _ e;have:=hA _ _ hy;omega) (h.kx.keep q y hq hy)⟩
 have kS:KX p3 s5 (cj s5 p3 (.cells (W V5) 0)):=(KX.refl a2.out.aF.wf).store l3 _;have sn3:TS.ow (p3.toNat+1) V5 (rows++[t.ax v]):=⟨λb hb=>by have:=sn.1 b hb;omega,λj r u b h1 h2 h3=>by have:=sn.2 j r u b h1 h2 h3;omega⟩
 refine⟨s5,cj s5 p3 (.cells (W V5) 0),V5,a1,λK=> ?_,⟨a2.kx kS (A4 h.tab.out.rS a2.out.aF jP l3 _) sn3,k5.store l3 _,dB _ _ _,sn⟩,λp b hp hv hg=> ?_,y3⟩
 .rw[eV c K s5 1 p3 i V5 (W V) y3 (by rw[vc];rfl) (by have:=iT V;omega) (by rw[vc];exact v1),vc];rw[uX _ _ (iT V),hi]
 .rw[bC (λe=>hp e.symm)];exact a3 p b hv hg
def kj(zt zg zy zr:Bool)(xt xg xy xr:List Nat):List AV:=[dW .u8 zt xt,dW .u16 zg xg,dW .u8 zy xy,dW .u32 zr xr]
theorem JT{R:Type}(k:IntKind)(z:Bool)(l:List Nat)(K:AV->St->Option R)(s:St):aj c (.lenB .l) [dW k z l] s K=K (.int .i64 (l.length:Int)) s:=by unfold dW;rw[lF];simp
theorem aaI{R:Type}(k k':IntKind)(z:Bool)(l:List Nat){i:Nat}(h:i<l.length)(K:AV->St->Option R)(s:St):aj c (.idxA 1 none) [dW k z l,.int k' (i:Int)] s (λv s'=>aj c (.load none) [v] s' K)=K (.int k (l[i]:Int)) s:=by
 unfold dW;simp[h]
theorem ajk{a b d:Nat}(h:d=a+b)(hl:a+b<=1000000):au .i64 ((a:Int)+(b:Int))=(d:Int):=(wrap64 (by omega) (by omega)).trans (by omega)
theorem adQ(hc:bE c){xt:List Nat}(hx:∀x∈xt,x<256){zt zg zy zr:Bool}{xg xy xr:List Nat}{st sA s:St}{p1 p3:Pos}{V x2:AV}{rows:List (List AV)}(hA:Wf sA)(R3:sA.heap.get p1=some (.cells (kj zt zg zy zr xt xg xy xr) 0))(R4:p1≠p3)(OY:p3.toNat<sA.next.toNat)(jP:st.next.toNat<=p3.toNat)
  {k:Nat} (hk:k<xt.length) (hk3:k<3) (h:TL st sA s p3 V (o9 xt k) rows (λV=>[V,.ah,.ah,.ah,.ah])):
  ∃s' V' JR,TL st sA s' p3 V' (o9 xt (k+1)) JR (λV=>[V,.ah,.ah,.ah,.ah])/\∀(F:Nat)(k2:List AV->St->Option (AV×St))(f:Nat),
   fu c F k2 (f+1) [.ptr p1 0,x2,.ptr p3 0,.int .i64 (iX xt k:Int),.int .i64 (k:Int)] s=fu c F k2 f [.ptr p1 0,x2,.ptr p3 0,.int .i64 (iX xt (k+1):Int),.int .i64 ((k+1:Nat):Int)] s':=by
 have EF:=hx _ (Zc0 hk);have d1:decide ((k:Int)<(xt.length:Int))=true:=H5 (by omega);have d2:decide ((k:Int)<3)=true:=H5 (by omega);have w2:au .i64 ((k:Int)+1)=((k+1:Nat):Int):=wrap64 (by omega) (by omega);have w3:au .i64 (xt[k]:Int)=(xt[k]:Int):=wrap64 (by omega) (by omega);have hw:=h.tab.out.aF.wf;have h1:=h.kx.keep p1 _ R4 R3;obtain⟨v,s1,C,M⟩:=afZ hc k xt[k] (by omega) EF s hw;have g1:=M.aF;have gn:=Grew.af g1.wf (.cells ((iQ k xt[k]).ax v) 0);have hM:Mk 1 st (af s1 (.cells ((iQ k xt[k]).ax v) 0)) v ((iQ k xt[k]).ou.map dO):=by rw[af3];exact(M.back h.tab.out.rS h.tab.out.aF).grow gn
 have T1:TL st sA (af s1 (.cells ((iQ k xt[k]).ax v) 0)) p3 V (o9 xt k) rows (λV=>[V,.ah,.ah,.ah,.ah]):=
  ⟨h.tab.wQ (h.tab.out.aF.trans (g1.trans gn)) λb x _ _ hb=>gn.get (g1.get hb),h.kx.aF (g1.trans gn),gn.get (g1.get h.h3),h.since⟩
 obtain⟨s5,s6,V5,a1,a2,a3,a4,a5⟩:=T1.push (c:=c) (i:=0) hA OY jP (λA B=>rfl) (λA=>by simp) hM (λb hb e=>by
  have p1:=M.new b hb;have p2:=h.tab.out.own.lt hw e;omega) (λb hb=>by have:=M.new b hb;have:=h.kx.next;omega) (by rw[JS];omega)
 have p6:s6.heap.get s1.next=some (.cells ((iQ k xt[k]).ax v) 0):=a4 s1.next _ (λe=>by have:=h.kx.next;have:=g1.next;rw[<-e]at OY;omega) (λe=>by
  have p2:=h.tab.out.own.lt hw e;have:=g1.next;omega) (aE _ _)
 have e:=adP xt k hk;rw[<-e]at a3;refine⟨s6,V5,_,a3,λF k2 f=> ?_⟩;have hs:=ED hc (l:=(iQ k xt[k]).ax v) (sh:=((mo xt[k]:Nat):Int)) (a:=((tA xt[k]:Nat):Int)) (b:=((tB xt[k]:Nat):Int)) rfl rfl rfl (by have:=VX xt[k];omega) (by have:=VY xt[k];omega) s6 a3.tab.out.aF.wf;rw[NJ]at hs;have hS:iX xt (k+1)=iX xt k+tN xt[k]:=by
  rw[iX];simp[Za7,hk]
 have w1:au .i64 ((iX xt k:Int)+(tN xt[k]:Int))=((iX xt (k+1):Nat):Int):=ajk hS (by have:=UW xt k;have:=NI xt[k];exact Zd4 (Nat.add_le_add ‹_› ‹_›) (by omega));have lI:=λ(K:AV->St->Option (AV×St))(s:St)=>JT (c:=c) .u8 zt xt K s
 have aI:=λ(K:AV->St->Option (AV×St))(s:St)=>aaI (c:=c) .u8 .i64 zt xt hk K s
 have c0:(kj zt zg zy zr xt xg xy xr)[0]? =some (dW .u8 zt xt):=rfl;have cu:cut ((iQ k xt[k]).ax v) 0 7=some ((iQ k xt[k]).ax v):=bY rfl;rw[<-abX]at C;have rY:∀(K:AV->St->Option (AV×St)),aj c (.store 7) [.ptr s1.next 0,.agg ((iQ k xt[k]).ax v)] (af s1 (.cells [.str [],.int .u8 0,.int .i64 0,.int .i64 0,.ah,.int .i64 0,.int .i64 0] 0)) K=K .undef (af s1 (.cells ((iQ k xt[k]).ax v) 0)):=λK=>eG c K s1 7 (.agg ((iQ k xt[k]).ax v)) [.str [],.int .u8 0,.int .i64 0,.int .i64 0,.ah,.int .i64 0,.int .i64 0] rfl rfl ((iQ k xt[k]).Tn M.cells.2)
 have h3n:=T1.h3;have g6:=aE s1 (.cells ((iQ k xt[k]).ax v) 0);generalize (iQ k xt[k]).ax v=tc at*
 generalize iX xt (k+1)=S1 at*
 clear hS e T1 a3 a4 hM M h;rw[wB];simp (disch:=omega) [-aX,Za8,h1,lI,aI,c0,hk,hk3,d1,d2,w3,C,rY,h3n,g6,cu,a1,a2,a5,p6,hs,w1,w2]
theorem adR(hc:bE c){xt:List Nat}(hx:∀x∈xt,x<256)(hl:xt.length<=9223372036854775807){zt zg zy zr:Bool}{xg xy xr:List Nat}{st sA:St}{p1 p3:Pos}{x2:AV}(hA:Wf sA)(R3:sA.heap.get p1=some (.cells (kj zt zg zy zr xt xg xy xr) 0))(R4:p1≠p3)(OY:p3.toNat<sA.next.toNat)(jP:st.next.toNat<=p3.toNat):
  ∀(m k:Nat)(s:St)(V:AV)(rows:List (List AV)),k+m=min xt.length 3->TL st sA s p3 V (o9 xt k) rows (λV=>[V,.ah,.ah,.ah,.ah])->
  ∃ s' V' JR,TL st sA s' p3 V' (o9 xt (min xt.length 3)) JR (λV=>[V,.ah,.ah,.ah,.ah])/\∀(F:Nat)(k2:List AV->St->Option (AV×St))(f:Nat),m<f->
    fu c F k2 f [.ptr p1 0,x2,.ptr p3 0,.int .i64 (iX xt k:Int),.int .i64 (k:Int)] s=k2 [.ptr p1 0,x2,.ptr p3 0,.int .i64 (iX xt (min xt.length 3):Int)] s':=by
 intro m;induction m with
 |zero=>
  intro k s V rows hk h;obtain rfl:k=min xt.length 3:=by omega
  refine⟨s,V,rows,h,λF k2 f hf=> ?_⟩;obtain⟨f,rfl⟩:∃g,f=g+1:=⟨f - 1,by omega⟩
  have h1:=h.kx.keep p1 _ R4 R3;have c0:(kj zt zg zy zr xt xg xy xr)[0]? =some (dW .u8 zt xt):=rfl;have lI:=λ(K:AV->St->Option (AV×St))(s:St)=>JT (c:=c) .u8 zt xt K s
  generalize iX xt (min xt.length 3)=S at*
  rw[wB];by_cases h3:xt.length<=3
  .have e:min xt.length 3=xt.length:=(by omega);rw[e];simp[h1,c0,lI]
  .have e:min xt.length 3=3:=(by omega);have hd:decide ((3:Int)<(xt.length:Int))=true:=H5 (by omega);rw[e];simp[h1,c0,lI,hd]
 |succ m ih=>
  intro k s V rows hk h;obtain⟨s1,V1,r1,h1,e1⟩:=adQ (x2:=x2) hc hx hA R3 R4 OY jP (k:=k) (by omega) (by omega) h;obtain⟨s2,V2,r2,h2,e2⟩:=ih (k+1) s1 V1 r1 (by omega) h1;refine⟨s2,V2,r2,h2,λF k2 f hf=> ?_⟩;obtain⟨f,rfl⟩:∃g,f=g+1:=⟨f - 1,by omega⟩
  rw[e1 F k2 f,e2 F k2 f (by omega)]
theorem YQ{k:Nat}(h:k<=1000000):au .i64 ((k:Int)+1)=((k+1:Nat):Int):=wrap64 (by omega) (by omega)
theorem abY{x:Nat}(h:x<=4294967296):au .i64 (x:Int)=(x:Int):=wrap64 (by omega) (by omega)
def A5(xg:List Nat)(k:Nat):List Int:=(List.range k).map λi=>((xg.getD i 0 / 3 % 4:Nat):Int)
theorem adS(xg:List Nat)(k:Nat)(h:k<xg.length):A5 xg (k+1)=A5 xg k++[((xg[k] / 3 % 4:Nat):Int)]:=by
 unfold A5;rw[Zk1,Ze4];simp[Za7,h]
theorem JU(xg:List Nat)(k:Nat):(A5 xg k).length=k:=by simp[A5]
theorem abZ{xg:List Nat}(hx:∀x∈xg,x<65536){zt zg zy zr:Bool}{xt xy xr:List Nat}{st sA:St}{p1 p3:Pos}{x2 V1 V2 V3:AV}{n:Nat}(hn:n<=xg.length)(UI:n<=1000)(hA:Wf sA)(R3:sA.heap.get p1=some (.cells (kj zt zg zy zr xt xg xy xr) 0))(R4:p1≠p3)(OY:p3.toNat<sA.next.toNat)(jP:st.next.toNat<=p3.toNat)
  (l2:∀(K:AV->St->Option (AV×St))(s':St),aj c (.lenB .l) [V2] s' K=K (.int .i64 (n:Int)) s'):
  ∀(m k:Nat)(s:St)(V:AV),k+m=n->LL st sA s p3 1 V ((A5 xg k).map dO) (λA=>[V1,V2,V3,A,.ah])->
  ∃s' V',LL st sA s' p3 1 V' ((A5 xg n).map dO) (λA=>[V1,V2,V3,A,.ah])/\∀(F:Nat)(k4:List AV->St->Option (AV×St))(f:Nat),m<f->
   iN c F k4 f [.ptr p1 0,x2,.ptr p3 0,.int .i64 (k:Int)] s=k4 [.ptr p1 0,x2,.ptr p3 0] s':=by
 intro m;induction m with
 |zero=>
  intro k s V hk h;obtain rfl:k=n:=by omega
  refine⟨s,V,h,λF k4 f hf=> ?_⟩;obtain⟨f,rfl⟩:∃g,f=g+1:=⟨f - 1,by omega⟩
  rw[wA];simp[h.h3,l2]
 |succ m ih=>
  intro k s V hk h;have WZ:k<n:=by omega
  have EG:k<xg.length:=by omega
  have EF:=hx _ (Zc0 EG);obtain⟨v,hv⟩:∃v:Nat,v=xg[k] / 3 % 4:=⟨_,rfl⟩
  have E:(xg[k]:Int) / 3 % 4=(v:Int):=by omega
  have h1:=h.kx.keep p1 _ R4 R3;obtain⟨s5,s6,V5,a1,a2,a3,a4,a5,a6,a7⟩:=h.push (c:=c) (bytes:=8) (i:=3) (z:=[.int .i64 0]) (x:= .int .i64 (v:Int)) hA OY jP (λA B=>rfl) (λA=>by simp) rfl rfl rfl (by decide) (by rw[Zb3,JU];omega) (by rw[Zb3,JU];omega);have e:(A5 xg k).map dO++[(.int .i64 (v:Int):AV).cells]=(A5 xg (k+1)).map dO:=by rw[adS xg k EG,Ze4,hv];rfl
  rw[e]at a3;obtain⟨s7,V7,b1,b2⟩:=ih (k+1) s6 V5 (by omega) a3;refine⟨s7,V7,b1,λF k4 f hf=> ?_⟩;obtain⟨f,rfl⟩:∃g,f=g+1:=⟨f - 1,by omega⟩
  have b3:=b2 F k4 f (by omega);have aI:=λ(K:AV->St->Option (AV×St))(s:St)=>aaI (c:=c) .u16 .i64 zg xg EG K s
  have c1:(kj zt zg zy zr xt xg xy xr)[1]? =some (dW .u16 zg xg):=rfl;have h3n:=h.h3;clear b2 ih a3 a4 a5 a6 e hv;have k6:k<=1000000:=by omega
  have x6:xg[k]<=4294967296:=by omega
  have w2:=YQ k6;have w3:=abY x6;rw[<-b3,wA];simp (disch:=omega) [-aX,-fS,-lH,cg,gq,Za8,Zb7,h1,h3n,l2,aI,c1,WZ,w3,E,a1,a2,a7,w2]
def xw(ts:List aK)(gs:List aL)(xr:List Nat):Nat->List Rl
 |0=>[]
 |k+1=>xw ts gs xr k++(if(fW ts gs (xr.getD k 0)).2=true then [(fW ts gs (xr.getD k 0)).1]else [])
theorem JV(ts:List aK)(gs:List aL)(xr:List Nat):∀k,(xw ts gs xr k).length<=k
 |0=>Za5 _
 |k+1=>by have:=JV ts gs xr k;unfold xw;rw[Zc1];split<;>simp<;>omega
theorem af4{R:Type}(k k':IntKind)(z:Bool)(l:List Nat){i:Nat}(h:i<l.length)(K:AV->Option R)(t:T AB):dK (.idxA 1 none) [dW k z l,.int k' (i:Int)] (λv=>jB (.load none) [v] t (λ_=>true) K)=K (.int k (l[i]:Int)):=by
 unfold dW;simp[h]
theorem af5{R:Type}(s:St)(K:AV->AB->Option R):Lx (.alloc [.int .u8 0,.int .i64 0,.str [],.str [],.str [],.int .i64 0]) [] s K=K (.ptr s.next 0) (.cells [.int .u8 0,.int .i64 0,.str [],.str [],.str [],.int .i64 0] 0):=rfl
theorem ab0(hc:bE c){xr:List Nat}(hx:∀x∈xr,x<4294967296)(hl:xr.length<=9223372036854775807){zt zg zy zr:Bool}{xt xg xy:List Nat}{st sA:St}{p1 p3:Pos}{x2 V1 V2 V3 V4:AV}(hA:Wf sA)(R3:sA.heap.get p1=some (.cells (kj zt zg zy zr xt xg xy xr) 0))(R4:p1≠p3)(OY:p3.toNat<sA.next.toNat)(jP:st.next.toNat<=p3.toNat)
  {ts:List aK} {gs:List aL} {r1 r2:List (List AV)} (hT:TS st sA V1 ts r1) (sT:TS.ow (p3.toNat+1) V1 r1) (hG:GS st sA V2 gs r2) (sG:GS.ow (p3.toNat+1) V2 r2) (lt:ts.length<=1000) (lg:gs.length<=1000)
  (hz:∀t∈ts,0<kN t.sh t.a t.b/\kN t.sh t.a t.b<=1000) (ha:∀t∈ts,(0<=t.a/\t.a<=1000000)/\0<=t.b/\t.b<=1000000):
  ∀(m k:Nat)(s:St)(V:AV),k+m=min xr.length 12->LL st sA s p3 6 V ((xw ts gs xr k).map Rl.cells) (λA=>[V1,V2,V3,V4,A])->
  ∃ s' V',LL st sA s' p3 6 V' ((xw ts gs xr (min xr.length 12)).map Rl.cells) (λA=>[V1,V2,V3,V4,A])/\∀(F:Nat)(k6:List AV->St->Option (AV×St))(f:Nat),m<f->
    iM c F k6 f [.ptr p1 0,x2,.ptr p3 0,.int .i64 (k:Int)] s=k6 [x2,.ptr p3 0] s':=by
 have c3:(kj zt zg zy zr xt xg xy xr)[3]? =some (dW .u32 zr xr):=rfl;have lI:=λ(K:AV->St->Option (AV×St))(s:St)=>JT (c:=c) .u32 zr xr K s
 intro m;induction m with
 |zero=>
  intro k s V hk h;obtain rfl:k=min xr.length 12:=by omega
  refine⟨s,V,h,λF k6 f hf=> ?_⟩;obtain⟨f,rfl⟩:∃g,f=g+1:=⟨f - 1,by omega⟩
  have h1:=h.kx.keep p1 _ R4 R3;rw[oU];by_cases h3:xr.length<=12
  .have e:min xr.length 12=xr.length:=(by omega);rw[e];simp[h1,c3,lI]
  .have e:min xr.length 12=12:=(by omega);have hd:decide ((12:Int)<(xr.length:Int))=true:=H5 (by omega);rw[e];simp[h1,c3,lI,hd]
 |succ m ih=>
  intro k s V hk h;have EG:k<xr.length:=by omega
  have hk12:k<12:=by omega
  have EF:=hx _ (Zc0 EG);have kM:k<=1000000:=by omega
  have d12:decide ((k:Int)<12)=true:=H5 (by omega);have nw:=λ(K:AV->AB->Option (AV×St))=>af5 s K
  have xM:xr[k]<=4294967296:=by omega
  have h1:=h.kx.keep p1 _ R4 R3;have gr:=h.out.aF;have A:=af1 hc (V3:=V3) (V4:=V4) (V5:=V) (hT.kx h.kx gr sT) (hG.kx h.kx gr sG) lt lg hz ha xr[k] EF;have gn:=Grew.af gr.wf (.cells (fW ts gs xr[k]).1.cells 0);have hS:xw ts gs xr (k+1)=xw ts gs xr k++(if(fW ts gs xr[k]).2=true then [(fW ts gs xr[k]).1]else []):=by
    rw[xw];simp[Za7,EG]
  have rY:∀(K:AV->St->Option (AV×St)),aj c (.store 6) [.ptr s.next 0,.agg (fW ts gs xr[k]).1.cells] (af s (.cells [.int .u8 0,.int .i64 0,.str [],.str [],.str [],.int .i64 0] 0)) K=K .undef (af s (.cells (fW ts gs xr[k]).1.cells 0)):=λK=>eG c K s 6 (.agg (fW ts gs xr[k]).1.cells) [.int .u8 0,.int .i64 0,.str [],.str [],.str [],.int .i64 0] rfl rfl rfl
  have aP:=λ(K:AV->Option (AV×St))(t:T AB)=>af4 .u32 .i64 zr xr EG K t
  have hg:=h.aF gn;have h3n:=h.h3;have h3g:=hg.h3;have ll:=JV ts gs xr k;have cu5:∀A B D E G:AV,cut [A,B,D,E,G] 0 5=some [A,B,D,E,G]:=λA B D E G=>bY rfl
  have gx:=aE s (.cells (fW ts gs xr[k]).1.cells 0);by_cases hb:(fW ts gs xr[k]).2=true
  . rw[hb]at A;rw[Za9 hb]at hS;obtain⟨s5,s6,V5,a1,a2,a3,a4,a5,a6,a7⟩:=hg.push (c:=c) (bytes:=72) (i:=4) (z:=[.int .u8 0,.int .i64 0,.str [],.str [],.str [],.int .i64 0]) (x:= .agg (fW ts gs xr[k]).1.cells) hA OY jP (λA B=>rfl) (λA=>by simp) rfl rfl rfl (by decide) (by rw[Zb3];omega) (by rw[Zb3];omega);have e:(xw ts gs xr k).map Rl.cells++[(.agg (fW ts gs xr[k]).1.cells:AV).cells]=(xw ts gs xr (k+1)).map Rl.cells:=(by rw[hS,Ze4];rfl);rw[e]at a3;obtain⟨s7,V7,b1,b2⟩:=ih (k+1) s6 V5 (by omega) a3;refine⟨s7,V7,b1,λF k6 f hf=> ?_⟩;obtain⟨f,rfl⟩:∃g,f=g+1:=⟨f - 1,by omega⟩
    have b3:=b2 F k6 f (by omega);generalize (fW ts gs xr[k]).1=R at*
    clear b2 ih a3 a4 a5 a6 e hS hb ll hg h;have w2:=YQ kM;have w3:=abY xM;rw[<-b3,oU];simp (disch:=omega) [-aX,gX,Za8,Zb7,h1,h3n,h3g,lI,aP,c3,EG,d12,nw,w3,A,rY,cu5,gx,a1,a2,a7,w2]
  . have jO:(fW ts gs xr[k]).2=false:=(by simpa using hb);rw[jO]at A;rw[Za3 hb,Zf7]at hS;rw[<-hS]at hg;obtain⟨s7,V7,b1,b2⟩:=ih (k+1) _ V (by omega) hg;refine⟨s7,V7,b1,λF k6 f hf=> ?_⟩;obtain⟨f,rfl⟩:∃g,f=g+1:=⟨f - 1,by omega⟩
    have b3:=b2 F k6 f (by omega);generalize (fW ts gs xr[k]).1=R at*
    clear b2 ih hS hb jO ll hg h;have w2:=YQ kM;have w3:=abY xM;rw[<-b3,oU];simp (disch:=omega) [-aX,gX,Za8,Zb7,h1,h3n,h3g,lI,aP,c3,EG,d12,nw,w3,A,rY,cu5,gx,w2]
theorem ZG(hc:bE c){xs:List Nat}(hx:∀x∈xs,x<65536)(hl:xs.length<=9223372036854775807)(z:Bool)(x1:AV){st:St}{p4 p5:Pos}(Ie:p4≠p5)(FY:st.next.toNat<=p5.toNat){W:AV}:∀(m k:Nat)(s:St)(V:AV)(rows:List (List AV)),k+m=min xs.length 12->
  GL st s p4 p5 V W (zQ xs k) rows->∃s' V' JR,GL st s' p4 p5 V' W (zQ xs (min xs.length 12)) JR/\∀(F:Nat)(_:5<=F)(k2:List AV->St->Option (AV×St))(f:Nat),m<f->
    fy c F k2 f [dW .u16 z xs,x1,.ptr p4 0,.ptr p5 0,.int .i64 (k:Int)] s=k2 [x1,.ptr p4 0,.ptr p5 0] s':=by
 intro m;induction m with
 |zero=>
  intro k s V rows hk h;obtain rfl:k=min xs.length 12:=by omega
  refine⟨s,V,rows,h,λF _ k2 f hf=> ?_⟩;obtain⟨f,rfl⟩:∃g,f=g+1:=⟨f - 1,by omega⟩
  have lI:∀(K:AV->St->Option (AV×St))(s:St),aj c (.lenB .l) [dW .u16 z xs] s K=K (.int .i64 (xs.length:Int)) s:=λK s=>by unfold dW;rw[lF];simp
  rw[wF];by_cases WW:xs.length<=12
  .have e:min xs.length 12=xs.length:=(by omega);rw[e];simp[lI]
  .have e:min xs.length 12=12:=(by omega);rw[e];have hd:decide (12<xs.length)=true:=H5 (by omega);have QJ:(12:Nat)<xs.length:=(by omega);have hd3:decide ((12:Int)<(xs.length:Int))=true:=H5 (by omega);simp[lI,hd3]
 |succ m ih=>
  intro k s V rows hk h;obtain⟨s1,V1,r1,h1,e1⟩:=ZF hc hx z x1 Ie FY (k:=k) (by omega) (by omega) h;obtain⟨s2,V2,r2,h2,e2⟩:=ih (k+1) s1 V1 r1 (by omega) h1;refine⟨s2,V2,r2,h2,λF hF k2 f hf=> ?_⟩;obtain⟨f,rfl⟩:∃g,f=g+1:=⟨f - 1,by omega⟩
  rw[e1 F hF k2 f,e2 F hF k2 f (by omega)]
structure YL(st s:St)(p4 p5:Pos)(V W:AV)(gs:List aL)(rows:List (List AV))(ys:List Ty):Prop where
 gl:GL st s p4 p5 V W gs rows
 ty:Mk 3 st s W (ys.map Ty.cells)
 w4:br W≠some p4
 w5:br W≠some p5
 wV:∀b,br W=some b->br V≠some b
 wI:∀(i:Nat)(r:List AV)(v:AV)(b:Pos),rows[i]? =some r->r[8]? =some v->br v=some b->br W≠some b
theorem YL.start{st s:St}{p4 p5:Pos}{V:AV}{gs:List aL}{rows:List (List AV)}(h:GL st s p4 p5 V .ah gs rows):YL st s p4 p5 V .ah gs rows []:=
 ⟨h,Mk.start h.out.rS h.out.aF,λe=>(nomatch e),λe=>(nomatch e),λ_ e=>(nomatch e),λ_ _ _ _ _ _ _ e=>(nomatch e)⟩
theorem YL.push{st s:St}{p4 p5:Pos}{V W:AV}{gs:List aL}{rows:List (List AV)}{ys:List Ty}(h:YL st s p4 p5 V W gs rows ys)(Ie:p4≠p5)(FY:st.next.toNat<=p5.toNat)(t:Ty)(hlen:ys.length<=1000000):
   ∃s5 s6 W5,(∀(K:AV->St->Option (AV×St)),aj c (.buildSlice 3 1 [.str [],.str [],.int .u8 0] [0]) [.agg t.cells] s (λy q=>aj c (.append 3 40) [W,y] q K)=K W5 s5)/\
    (∀(K:AV->St->Option (AV×St)),aj c (.store 1) [.ptr p5 1,W5] s5 K=K .undef s6)/\YL st s6 p4 p5 V W5 gs rows (ys++[t]):=by
 have hw:=h.gl.out.aF.wf;obtain⟨s5,W5,a1,a2,a3,a4⟩:=h.ty.push (c:=c) (R:=AV×St) (bytes:=40) (z:=[.str [],.str [],.int .u8 0]) (x:= .agg t.cells) rfl rfl rfl (by decide) (by rw[Zb3];omega) (by rw[Zb3];omega);have e:(ys++[t]).map Ty.cells=ys.map Ty.cells++[(.agg t.cells:AV).cells]:=by rw[Ze4];rfl
 rw[<-e]at a2;have y4:=a3 p4 _ h.w4 h.gl.h4;have y5:=a3 p5 _ h.w5 h.gl.h5;have l4:=hw p4 _ h.gl.h4;have l5:=hw p5 _ h.gl.h5;have b4:br W5≠some p4:=λe=>by have:=a4 _ e;omega
 have b5:br W5≠some p5:=λe=>by have:=a4 _ e;omega
 have l5':=a2.aF.wf p5 _ y5;obtain⟨vc,v1⟩:=a2.cells;have aQ:∀(K:AV->St->Option (AV×St)),aj c (.store 1) [.ptr p5 1,W5] s5 K=K .undef (cj s5 p5 (.cells [V,W5] 0)):=λK=>by rw[eV c K s5 1 p5 1 W5 [V,W] y5 (by rw[vc];rfl) (by simp) (by rw[vc];exact v1),vc];rfl
 have M6:=a2.store (p:=p5) (b:= .cells [V,W5] 0) FY l5' b5;have keep:∀(u:AV)(n:Nat)(rw:List (List AV)),Mk n st s u rw->(∀b,br u=some b->br W≠some b/\b≠p5)->Mk n st (cj s5 p5 (.cells [V,W5] 0)) u rw:=λu n rw hu cL=>
   YO hu M6.aF λb y hb hy=>by rw[bC (λe=>(cL b hb).2 e.symm)];exact a3 b y (cL b hb).1 hy
 have newW:∀b,br W5=some b->s.next.toNat<=b.toNat:=a4;refine⟨s5,_,W5,a1,aQ,⟨⟨keep V 9 rows h.gl.out λb hb=>⟨λe=>h.wV b e hb,λe=>h.gl.n5 (by rw[hb,e])⟩,h.gl.len,λi g r hi hr=> ?_,by rw[bC (λe=>Ie e.symm)];exact y4,dB _ _ _,h.gl.n4,h.gl.n5⟩,M6,b4,b5,λb hb e=> ?_,λi r v b hr h8 hv e=> ?_⟩⟩
 .obtain⟨v,e1,e2,e3⟩:=h.gl.tK i g r hi hr;have h8:r[8]? =some v:=(by rw[e1];rfl);exact⟨v,e1,keep v 1 _ e2 λb hb=>⟨h.wI i r v b hr h8 hb,(e3 b hb).2.2⟩,e3⟩
 .have:=newW b hb;have:=h.gl.out.own.lt hw e;omega
 .have p1:=newW b e;have hi:i<gs.length:=(by rw[<-h.gl.len];exact(Za1.1 hr).1);obtain⟨u,e1,e2,_⟩:=h.gl.tK i gs[i] r (H4 hi) hr;have:u=v:=(by rw[e1]at h8;exact Zg4 h8);subst this;have:=e2.own.lt hw hv;omega
def kq(gs:List aL):List (List Nat):=gs.map λg=>g.name
def TA(bu:List Nat)(i k n:Nat):Ty:=⟨bt i,bt k,1+((bu.getD n 0 % 4:Nat):Int)⟩
def YS(bu:List Nat)(n:Nat):Bool:=decide (n<bu.length)&&decide (bu.getD n 0 % 4<2)
def A6(bu:List Nat)(i k n:Nat)(ys:List Ty):List Ty:=if YS bu n=true then ys++[TA bu i k n]else ys
theorem YT(bu:List Nat)(i k n:Nat)(ys:List Ty):(A6 bu i k n ys).length<=ys.length+1:=by unfold A6;split<;>simp
def ku(names:List (List Nat))(bu:List Nat)(i:Nat):Nat->Nat->Nat->List Ty->Nat×List Ty
 |0,_,n,ys=>(n,ys)
 |m+1,k,n,ys=>if bt i∈names then(if bt k∈names then ku names bu i m (k+1) (n+1) (A6 bu i k n ys)else ku names bu i m (k+1) n ys)else(n,ys)
theorem GL.there(hc:bE c){st s:St}{p4 p5:Pos}{V W:AV}{gs:List aL}{rows:List (List AV)}(h:GL st s p4 p5 V W gs rows)(hl:gs.length<=1000)(x:Nat)(hx:x<1000000):
  c 82 [.agg [V,W],.int .i64 (x:Int)] s=some (.bool (decide (bt x∈kq gs)),s):=
 af0 hc h.out.own h.out.row (names:=kq gs) (by rw[kq,Zb3,h.len]) (λi h1 h2=>by
  have h3:i<gs.length:=by rw[<-h.len];exact h1
  obtain⟨v,e,_⟩:=h.tK i gs[i] rows[i] (H4 h3) (H4 h1);rw[e];simp[kq,aL.ax]) (by rw[h.len];exact hl) x hx h.out.aF.wf
theorem ZH{R:Type}(h:T AB)(ok:AV->Bool)(xs:List (List AV))(i j:Nat)(K1:AV->Option R):jB (.load none) [.fp xs i j] h ok K1=nr (xs[i]?.bind λcs=>cs[j]?) K1:=by unfold jB;rw[yJ,yJ];cases hx:(xs[i]?.bind λcs=>cs[j]?)<;>rfl
theorem adT{R:Type}(a b:List Nat)(k:Int)(s:St)(K:AV->AB->Option R):Lx (.buildSlice 3 1 [.str [],.str [],.int .u8 0] [0]) [.agg [.str a,.str b,.int .u8 k]] s K=K (.slice s.next 0 1 (some 1) 3) (.cells [.str a,.str b,.int .u8 k] 0):=rfl
theorem ab1(a b:List Nat)(k:Int)(K:AV->Option (AV×St)):dK (.build [.str [],.str [],.int .u8 0] [(0,1),(1,1),(2,1)]) [.str a,.str b,.int .u8 k] K=K (.agg [.str a,.str b,.int .u8 k]):=rfl
theorem ais (hc:bE c){bu:List Nat}(ht:∀x∈bu,x<256)(z:Bool){st:St}{p4 p5:Pos}(Ie:p4≠p5)(FY:st.next.toNat<=p5.toNat){V:AV}{gs:List aL}(UC:gs.length<=1000){rows:List (List AV)}{i:Nat}(hi:i<1000):
  ∀(m k n:Nat)(s:St)(W:AV)(ys:List Ty),k+m=312->ys.length<=n->n+m<=1000000->YL st s p4 p5 V W gs rows ys->
  ∃ s' W',YL st s' p4 p5 V W' gs rows (ku (kq gs) bu i m k n ys).2/\∀(F:Nat)(k8:List AV->St->Option (AV×St))(f:Nat),m<f->
    iO c F k8 f [dW .u8 z bu,.ptr p4 0,.ptr p5 0,.int .i64 (n:Int),.int .i64 (i:Int),.int .i64 (k:Int)] s=k8 [dW .u8 z bu,.ptr p4 0,.ptr p5 0,.int .i64 ((ku (kq gs) bu i m k n ys).1:Int),.int .i64 (i:Int)] s':=by
 intro m;induction m with
 |zero=>
  intro k n s W ys hk hy hn h;obtain rfl:k=312:=by omega
  refine⟨s,W,h,λF k8 f hf=> ?_⟩;obtain⟨f,rfl⟩:∃g,f=g+1:=⟨f - 1,by omega⟩
  rw[gL];simp[ku]
 |succ m ih  =>
  intro k n s W ys hk hy hn h;have T1:=h.gl.there hc UC i (by omega);have T2:=h.gl.there hc UC k (by omega);have hd:decide ((k:Int)<312)=true:=H5 (by omega);have w:au .i64 ((k:Int)+1)=((k+1:Nat):Int):=wrap64 (by omega) (by omega);have w2:au .i64 ((n:Int)+1)=((n+1:Nat):Int):=wrap64 (by omega) (by omega);have h5:=h.gl.h5;have cu:cut [V,W] 0 2=some [V,W]:=rfl;have lI:∀(K:AV->St->Option (AV×St))(s:St),aj c (.lenB .l) [dW .u8 z bu] s K=K (.int .i64 (bu.length:Int)) s:=λK s=>by unfold dW;rw[lF];simp
  by_cases UX:bt i∈kq gs
  . by_cases mR:bt k∈kq gs
    .   have eT:ku (kq gs) bu i (m+1) k n ys=ku (kq gs) bu i m (k+1) (n+1) (A6 bu i k n ys):=(by rw[ku,Za9 UX,Za9 mR]);rw[eT];have hl:=YT bu i k n ys;by_cases mF:n<bu.length
        . have ix:∀(K:AV->St->Option (AV×St))(s:St),aj c (.idxA 1 none) [dW .u8 z bu,.int .i64 (n:Int)] s K=K (.fp (bu.map λ(i:Nat)=>[.int .u8 (i:Int)]) n 0) s:=λK s=>by unfold dW;rw[Xn];simp[mF]
          have pix:∀(K:AV->Option (AV×St)),dK (.idxA 1 none) [dW .u8 z bu,.int .i64 (n:Int)] K=K (.fp (bu.map λ(i:Nat)=>[.int .u8 (i:Int)]) n 0):=λK=>by unfold dW;rw[afc];simp[mF]
          obtain⟨x,hx⟩:∃x,bu[n]=x:=⟨_,rfl⟩
          have hx8:x<256:=(by rw[<-hx];exact ht _ (Zc0 mF));have gd:bu.getD n 0=x:=(by simp[Za7,mF,hx]);have r1:=λ(s:St)(K:AV->St->Option (AV×St))=>cg (c:=c) (k:= .u8) (a:=(x:Int)) (b:=4) (by omega) (by omega) s K
          have r2:=λ(K:AV->Option (AV×St))=>Jg (k:= .u8) (a:=(x:Int)) (b:=4) (by omega) (by omega) K
          have w8:au .u8 (1+(x:Int) % 4)=1+(x:Int) % 4:=Bc (by omega) (by omega);have eC:YS bu n=decide (x % 4<2):=(by unfold YS;rw[gd,H5 mF,Zg0]);have d2:decide ((x:Int) % 4<2)=decide (x % 4<2):=decide_eq_decide.2 (by omega);by_cases hx4:x % 4<2
          . have eY:A6 bu i k n ys=ys++[TA bu i k n]:=(by unfold A6;rw[eC,Za9 (H5 hx4)]);rw[eY]at hl ⊢;obtain⟨s5,s6,W5,a1,a2,a3⟩:=h.push (c:=c) Ie FY (TA bu i k n) (by omega);have eU:(TA bu i k n).cells=[.str (bt i),.str (bt k),.int .u8 (1+(x:Int) % 4)]:=(by unfold TA Ty.cells;rw[gd];simp);have a1':∀K,aj c (.append 3 40) [W,.slice s.next 0 1 (some 1) 3] (af s (.cells [.str (bt i),.str (bt k),.int .u8 (1+(x:Int) % 4)] 0)) K=K W5 s5:=λK=>by have h1:=a1 K;rw[aao (es:=3) (z:=[.str [],.str [],.int .u8 0]) (x:= .agg (TA bu i k n).cells) rfl rfl]at h1;rw[<-eU];exact h1
            have N1:=u6 hc i (by omega) s h.gl.out.aF.wf;have N2:=u6 hc k (by omega) s h.gl.out.aF.wf;obtain⟨s',W',b1,b2⟩:=ih (k+1) (n+1) s6 W5 _ (by omega) (by omega) (by omega) a3;refine⟨s',W',b1,λF k8 f hf=> ?_⟩;obtain⟨f,rfl⟩:∃g,f=g+1:=⟨f - 1,by omega⟩
            rw[<-b2 F k8 f (by omega),gL];simp[-aX,-yL,-By,h5,cu,T1,T2,UX,mR,hd,gX,lI,mF,ix,pix,hx,r1,r2,d2,hx4,w8,N1,N2,ZH,adT,ab1,a1',a2,w,w2]
          . have eY:A6 bu i k n ys=ys:=(by unfold A6;rw[eC,Za3 (by simp;omega)]);rw[eY];obtain⟨s',W',b1,b2⟩:=ih (k+1) (n+1) s W ys (by omega) (by omega) (by omega) h;refine⟨s',W',b1,λF k8 f hf=> ?_⟩;obtain⟨f,rfl⟩:∃g,f=g+1:=⟨f - 1,by omega⟩
            have d2':decide ((x:Int) % 4<2)=false:=Za0 (by omega);rw[<-b2 F k8 f (by omega),gL];simp[-aX,-yL,-By,h5,cu,T1,T2,UX,mR,hd,gX,lI,mF,ix,hx,r1,d2',w,w2]
        . have eY:A6 bu i k n ys=ys:=(by unfold A6 YS;rw[Za0 mF,Zn9,Za3 (by decide)]);rw[eY];obtain⟨s',W',b1,b2⟩:=ih (k+1) (n+1) s W ys (by omega) (by omega) (by omega) h;refine⟨s',W',b1,λF k8 f hf=> ?_⟩;obtain⟨f,rfl⟩:∃g,f=g+1:=⟨f - 1,by omega⟩
          rw[<-b2 F k8 f (by omega),gL];simp[-aX,-yL,-By,h5,cu,T1,T2,UX,mR,hd,gX,lI,mF,w,w2]
    .   have eT:ku (kq gs) bu i (m+1) k n ys=ku (kq gs) bu i m (k+1) n ys:=(by rw[ku,Za9 UX,Za3 mR]);rw[eT];obtain⟨s',W',b1,b2⟩:=ih (k+1) n s W ys (by omega) (by omega) (by omega) h;refine⟨s',W',b1,λF k8 f hf=> ?_⟩;obtain⟨f,rfl⟩:∃g,f=g+1:=⟨f - 1,by omega⟩
        rw[<-b2 F k8 f (by omega),gL];simp[-aX,-yL,-By,h5,cu,T1,T2,UX,mR,hd,gX,w]
  . have eT:ku (kq gs) bu i (m+1) k n ys=(n,ys):=(by rw[ku,Za3 UX]);rw[eT];refine⟨s,W,h,λF k8 f hf=> ?_⟩;obtain⟨f,rfl⟩:∃g,f=g+1:=⟨f - 1,by omega⟩
    rw[gL];simp[-aX,-yL,-By,h5,cu,T1,UX,hd,gX]
theorem MU(names:List (List Nat))(bu:List Nat)(i:Nat):∀(m k n:Nat)(ys:List Ty),ys.length<=n->(ku names bu i m k n ys).2.length<=(ku names bu i m k n ys).1/\(ku names bu i m k n ys).1<=n+m
 |0,k,n,ys,h=>by unfold ku;exact⟨h,by omega⟩
 |m +   1,k,n,ys,h=>by
  unfold ku;split
  . split
    .   have hl:=YT bu i k n ys;have:=MU names bu i m (k+1) (n+1) (A6 bu i k n ys) (by omega);omega
    .   have:=MU names bu i m (k+1) n ys h;omega
  .exact⟨h,by omega⟩
def MV(names:List (List Nat))(bu:List Nat):Nat->Nat->Nat->List Ty->List Ty
 |0,_,_,ys=>ys
 |m+1,i,n,ys=>MV names bu m (i+1) (ku names bu i m (i+1) n ys).1 (ku names bu i m (i+1) n ys).2
theorem ahO(hc:bE c){bu:List Nat}(ht:∀x∈bu,x<256)(z:Bool){st:St}{p4 p5:Pos}(Ie:p4≠p5)(FY:st.next.toNat<=p5.toNat){V:AV}{gs:List aL}(UC:gs.length<=1000){rows:List (List AV)}:
  ∀(m i n:Nat)(s:St)(W:AV)(ys:List Ty),i+m=312->ys.length<=n->n+m*312<=1000000->YL st s p4 p5 V W gs rows ys->
  ∃s' W',YL st s' p4 p5 V W' gs rows (MV (kq gs) bu m i n ys)/\∀(F:Nat)(_:400<=F)(k6:List AV->St->Option (AV×St))(f:Nat),m<f->
   iP c F k6 f [dW .u8 z bu,.ptr p4 0,.ptr p5 0,.int .i64 (n:Int),.int .i64 (i:Int)] s=k6 [.ptr p4 0,.ptr p5 0] s':=by
 intro m;induction m with
 |zero=>
  intro i n s W ys hk hy hn h;obtain rfl:i=312:=by omega
  refine⟨s,W,h,λF _ k6 f hf=> ?_⟩;obtain⟨f,rfl⟩:∃g,f=g+1:=⟨f - 1,by omega⟩
  rw[wE];simp
 |succ m ih=>
  intro i n s W ys hk hy hn h;have hd:decide ((i:Int)<312)=true:=H5 (by omega);have b1: -9223372036854775808<=(i:Int)+1:=by omega
  have b2:(i:Int)+1<=9223372036854775807:=by omega
  have e3:((i+1:Nat):Int)=(i:Int)+1:=by omega
  obtain⟨s1,W1,h1,e1⟩:=ais hc ht z Ie FY UC (i:=i) (by omega) m (i+1) n s W ys (by omega) hy (by omega) h;have hl:=MU (kq gs) bu i m (i+1) n ys hy;obtain⟨s2,W2,h2,e2⟩:=ih (i+1) _ s1 W1 _ (by omega) hl.1 (by omega) h1;refine⟨s2,W2,h2,λF hF k6 f hf=> ?_⟩;obtain⟨f,rfl⟩:∃g,f=g+1:=⟨f - 1,by omega⟩
  have UY:=λk8=>e1 F k8 F (by omega)
  rw[<-e2 F hF k6 f (by omega),wE];clear e1 e2 hl;have w:au .i64 ((i:Int)+1)=(i:Int)+1:=wrap64 b1 b2;rw[e3]at UY ⊢;simp[hd,w,UY]
structure RS(st s:St)(V W:AV)(gs:List aL)(rows:List (List AV))(ys:List Ty):Prop where
 aF:Grew st s
 out:Mk 9 st s V rows
 len:rows.length=gs.length
 tK:∀(i:Nat)(g:aL)(r:List AV),gs[i]? =some g->rows[i]? =some r->∃v,r=g.ax v/\Mk 1 st s v (g.tg.map MS)/\∀b,br v=some b->br V≠some b/\br W≠some b
 ty:Mk 3 st s W (ys.map Ty.cells)
 wV:∀b,br W=some b->br V≠some b
def fN(xs:List Nat):List aL:=zQ xs (min xs.length 12)
def zR(xs bu:List Nat):List Ty:=MV (kq (fN xs)) bu 312 0 0 []
theorem BN(xs:List Nat):(fN xs).length<=12:=by unfold fN;rw[JQ];omega
theorem ahP(hc:bE c){xs bu:List Nat}(hx:∀x∈xs,x<65536)(hl:xs.length<=9223372036854775807)(ht:∀x∈bu,x<256)(z z2:Bool)(st:St)(hw:Wf st):
   ∃V W s' rows,c 40 [dW .u16 z xs,dW .u8 z2 bu] st=some (.agg [V,W],s')/\RS st s' V W (fN xs) rows (zR xs bu):=by
 have dm:Wf (af st (.cells [.ah,.ah] 0)):=bU hw;have g1:=Grew.af hw (.cells [.ah,.ah] 0);have g2:=Grew.af dm (.cells [.ah,.ah] 0);have n12:st.next≠(af st (.cells [.ah,.ah] 0)).next:=by rw[dM];exact Pos.SE _
 have FY:st.next.toNat<=(af st (.cells [.ah,.ah] 0)).next.toNat:=by rw[dM,Pos.aB];omega
 have G0:GL st (af (af st (.cells [.ah,.ah] 0)) (.cells [.ah,.ah] 0)) st.next (af st (.cells [.ah,.ah] 0)).next .ah .ah (zQ xs 0) []:=
   ⟨Mk.start hw (g1.trans g2),rfl,λi g r hi _=>by simp[zQ]at hi,g2.get (aE _ _),aE _ _,λe=>(nomatch e),λe=>(nomatch e)⟩
 obtain⟨s1,V,rows,h1,e1⟩:=ZG hc hx hl z (dW .u8 z2 bu) n12 FY (min xs.length 12) 0 _ .ah [] (by omega) G0;obtain⟨s2,W,h2,e2⟩:=ahO hc ht z2 n12 FY (gs:=fN xs) (by have:=BN xs;omega) 312 0 0 s1 .ah [] (by omega) (by simp) (by omega) (YL.start h1);have UY:∀k2:List AV->St->Option (AV×St),fy c 400 k2 400 [dW .u16 z xs,dW .u8 z2 bu,.ptr st.next 0,.ptr (af st (.cells [.ah,.ah] 0)).next 0,.int .i64 0] (af (af st (.cells [.ah,.ah] 0)) (.cells [.ah,.ah] 0))=k2 [dW .u8 z2 bu,.ptr st.next 0,.ptr (af st (.cells [.ah,.ah] 0)).next 0] s1:=λk2=>e1 400 (by omega) k2 400 (by omega)
 have e2':∀k6:List AV->St->Option (AV×St),iP c 400 k6 400 [dW .u8 z2 bu,.ptr st.next 0,.ptr (af st (.cells [.ah,.ah] 0)).next 0,.int .i64 0,.int .i64 0] s1=k6 [.ptr st.next 0,.ptr (af st (.cells [.ah,.ah] 0)).next 0] s2:=λk6=>e2 400 (by omega) k6 400 (by omega)
 have h5:=h2.gl.h5;have h4:=h2.gl.h4;have l4:=h2.gl.out.aF.wf _ _ h4;obtain⟨vc,v1⟩:=h2.gl.out.cells;obtain⟨wc,w1⟩:=h2.ty.cells;have one:aR [V,W]=true:=by
   have v2:V.one=true:=ug v1;have w2:W.one=true:=ug w1;simp only[aR,v2,w2]
 have cu:cut [V,W] 0 2=some [V,W]:=rfl;have rY:∀(K:AV->St->Option (AV×St)),aj c (.store 2) [.ptr st.next 0,.agg [V,W]] s2 K=K .undef (cj s2 st.next (.cells [V,W] 0)):=λK=>by rw[eV c K s2 2 st.next 0 (.agg [V,W]) [.ah,.ah] h4 rfl (by simp) one];rfl
 have A:=h2.gl.out.store (p:=st.next) (b:= .cells [V,W] 0) (Za5 _) l4 h2.gl.n4;have B:=h2.ty.store (p:=st.next) (b:= .cells [V,W] 0) (Za5 _) l4 h2.w4;have ins:∀u∈[V,W],je u:=λu hu=>by
   simp only[Zb2,Ze9,Zj8]at hu;rcases hu with rfl|rfl
   .exact A.inst
   .exact B.inst
 obtain⟨sa,t1,ta,tA⟩:=A.Jf (l:=[V,W]) (by simp) ins;obtain⟨sb,t2,tb,tB⟩:=B.Jf (l:=[V,W]) (by simp) ins;have R5:sb=sa:=by rw[t1]at t2;exact(Prod.mk.inj t2).2.symm
 subst R5;refine⟨V,W,sb,rows,?_,⟨tA.aF,tA,h2.gl.len,λi g r hi hr=> ?_,tB,h2.wV⟩⟩
 .rw[Ib hc 400 (r:=(.agg [V,W],cj s2 st.next (.cells [V,W] 0))),t1];rw[KT];simp[UY,e2',h5,cu,rY]
 . obtain⟨v,q1,q2,q3⟩:=h2.gl.tK i g r hi hr;have h8:r[8]? =some v:=(by rw[q1];rfl);refine⟨v,q1,?_,λb hb=>⟨(q3 b hb).1,h2.wI i r v b hr h8 hb⟩⟩;rcases ta with rfl|rfl
   .exact q2.store (p:=st.next) (b:= .cells [V,W] 0) (Za5 _) l4 (λe=>(q3 _ e).2.1 rfl)
   . (exfalso;have cL:rows≠[]:=λe=>by rw[e]at hr;simp at hr);rcases tA.loose with⟨b,off,n,rfl⟩|⟨_,e⟩
     .  have p1:=tA.new b (qp _ _ _ _);have p2:=tA.own.lt hw (qp _ _ _ _);omega
     .  exact cL e
def gI(xt:List Nat):List aK:=o9 xt (min xt.length 3)
def wK(xt xg:List Nat):List Nat:=xg.take (min xg.length (iX xt (min xt.length 3)))
def l7(xt xg:List Nat):List aL:=fN (wK xt xg)
def adU(xt xg xy:List Nat):List Ty:=zR (wK xt xg) xy
def nF(xt xg xy:List Nat):List Int:=if 0<xy.length % 4 then A5 xg (l7 xt xg).length else []
def ait(xt xg xr:List Nat):List Rl:=xw (gI xt) (l7 xt xg) xr (min xr.length 12)
def cK(xt xg xy xr:List Nat):bX:=⟨true,gI xt,true,l7 xt xg,true,adU xt xg xy,true,nF xt xg xy,true,ait xt xg xr⟩
theorem adV(x:Nat):0<tN x:=by
 have:0<tA x:=by unfold tA;split<;>(try split)<;>(try split)<;>omega
 unfold tN;split<;>(try split)<;>omega
theorem P8{xs:List Nat}{k:Nat}{t:aK}(h:t∈o9 xs k):∃i x,t=iQ i x:=by
 unfold o9 at h;simp only[Ze3]at h;obtain⟨i,_,rfl⟩:=h;exact⟨_,_,rfl⟩
theorem adW{xs:List Nat}{k:Nat}:∀t∈o9 xs k,0<kN t.sh t.a t.b/\kN t.sh t.a t.b<=1000:=λt h=>by obtain⟨i,x,rfl⟩:=P8 h;have e:kN (iQ i x).sh (iQ i x).a (iQ i x).b=((tN x:Nat):Int):=NJ x;have h1:=adV x;have h2:=NI x;rw[e];omega
theorem YU{xs:List Nat}{k:Nat}:∀t∈o9 xs k,(0<=t.a/\t.a<=1000000)/\0<=t.b/\t.b<=1000000:=λt h=>by obtain⟨i,x,rfl⟩:=P8 h;have h1:=VX x;have h2:=VY x;show(0<=((tA x:Nat):Int)/\((tA x:Nat):Int)<=1000000)/\0<=((tB x:Nat):Int)/\((tB x:Nat):Int)<=1000000;omega
theorem RS.gs{st sL sR:St}{V W:AV}{gs:List aL}{rows:List (List AV)}{ys:List Ty}(h:RS sL sR V W gs rows ys)(h0:Wf st)(g:Grew st sL):GS st sR V gs rows/\GS.ow sL.next.toNat V rows:=
 ⟨⟨h.out.back h0 g,h.len,λi t r hi hr=>by
   obtain⟨v,e1,e2,e3⟩:=h.tK i t r hi hr;exact⟨v,e1,e2.back h0 g,λb hb=>(e3 b hb).1⟩⟩,h.out.new,λi r v b hr h8 hb=>by
   have hi:i<gs.length:=(by rw[<-h.len];exact(Za1.1 hr).1);obtain⟨u,e1,e2,_⟩:=h.tK i gs[i] r (H4 hi) hr;have:u=v:=(by rw[e1]at h8;exact Zg4 h8);subst this;exact e2.new b hb⟩
theorem TS.ow.le{n m:Nat}{V:AV}{rows:List (List AV)}(h:TS.ow n V rows)(hm:m<=n):TS.ow m V rows:=⟨λb hb=>Zd4 hm (h.1 b hb),λi r v b h1 h2 h3=>Zd4 hm (h.2 i r v b h1 h2 h3)⟩
theorem GS.ow.le{n m:Nat}{V:AV}{rows:List (List AV)}(h:GS.ow n V rows)(hm:m<=n):GS.ow m V rows:=⟨λb hb=>Zd4 hm (h.1 b hb),λi r v b h1 h2 h3=>Zd4 hm (h.2 i r v b h1 h2 h3)⟩
theorem PS.ajl{s s':St}{V1 V2 V3 V4 V5:AV}{p:bX}{r1 r2:List (List AV)}(h1:TS s s' V1 p.ts r1)(h2:GS s s' V2 p.gs r2)(h3:Mk 3 s s' V3 (p.ys.map Ty.cells))(h4:Mk 1 s s' V4 (p.cs.map dO))(h5:Mk 6 s s' V5 (p.rs.map Rl.cells)):
   ∃iy,Go.Ai.tidy s (.agg [V1,V2,V3,V4,V5],s')=(.agg [V1,V2,V3,V4,V5],iy)/\PS s iy [V1,V2,V3,V4,V5] p:=by
 obtain⟨iy,e,g,k⟩:=Mk.afm (s:=s) (s':=s') (l:=[V1,V2,V3,V4,V5]) (λu hu=>by
   simp only[Zb2,Ze9,Zj8]at hu;rcases hu with rfl|rfl|rfl|rfl|rfl
   .exact h1.out.inst
   .exact h2.out.inst
   .exact h3.inst
   .exact h4.inst
   .exact h5.inst) h1.out.rS h1.out.aF
 obtain⟨a1,b1⟩:=k 7 V1 r1 (by simp) h1.out;obtain⟨a2,b2⟩:=k 9 V2 r2 (by simp) h2.out;obtain⟨a3,_⟩:=k 3 V3 _ (by simp) h3;obtain⟨a4,_⟩:=k 1 V4 _ (by simp) h4;obtain⟨a5,_⟩:=k 6 V5 _ (by simp) h5;refine⟨iy,e,g,V1,V2,V3,V4,V5,r1,r2,rfl,⟨a1,h1.len,λi t r hi hr=> ?_⟩,⟨a2,h2.len,λi t r hi hr=> ?_⟩,a3,a4,a5⟩
 . rcases b1 with rfl|rfl
   .exact h1.tK i t r hi hr
   .simp at hr
 . rcases b2 with rfl|rfl
   .exact h2.tK i t r hi hr
   .simp at hr
theorem adX{R:Type}(k k':IntKind)(z:Bool)(l:List Nat){i:Nat}(h:i<=l.length)(K:AV->Option R):dK (.sliceL 1 false true false) [dW k z l,.int k' (i:Int)] K=K (dW k (z&&l.isEmpty) (l.take i)):=by unfold dW;rw[ac7,Zb3,Za9 h];simp only[Zq8,Zk3];rfl
theorem adY{R:Type}(k:IntKind)(z:Bool)(l:List Nat)(K:AV->Option R):dK (.lenB .l) [dW k z l] K=K (.int .i64 (l.length:Int)):=by unfold dW;rw[Xj];simp
theorem af6{R:Type}(s:St)(K:AV->AB->Option R):Lx (.alloc [.ah,.ah]) [] s K=K (.ptr s.next 0) (.cells [.ah,.ah] 0):=rfl
theorem ahQ (hc:bE c) {xt xg xy xr:List Nat}(ht:∀x∈xt,x<256)(hg:∀x∈xg,x<65536)(hy:∀x∈xy,x<256)(hr:∀x∈xr,x<4294967296)(lt:xt.length<=9223372036854775807)(lg:xg.length<=9223372036854775807)(lr:xr.length<=9223372036854775807)(ly:xy.length<=9223372036854775807)
  (zt zg zy zr:Bool) (st:St) (hw:Wf st):∃Vs s',c 7 [.agg (kj zt zg zy zr xt xg xy xr)] st=some (.agg Vs,s')/\PS st s' Vs (cK xt xg xy xr):=by
 have w1:Wf (af st (.cells (kj zt zg zy zr xt xg xy xr) 0)):=bU hw;have w2:Wf (af (af st (.cells (kj zt zg zy zr xt xg xy xr) 0)) (.cells [.ah,.ah,.ah,.ah,.ah] 0)):=bU w1;have g1:=Grew.af hw (.cells (kj zt zg zy zr xt xg xy xr) 0);have g2:=Grew.af w1 (.cells [.ah,.ah,.ah,.ah,.ah] 0);have g3:=Grew.af w2 (.cells [.ah,.ah,.ah,.ah,.ah] 0);obtain⟨p1,fc⟩:∃p1,p1=st.next:=⟨_,rfl⟩
 obtain⟨p2,Af⟩:∃p2,p2=(af st (.cells (kj zt zg zy zr xt xg xy xr) 0)).next:=⟨_,rfl⟩
 obtain⟨p3,hp3⟩:∃p3,p3=(af (af st (.cells (kj zt zg zy zr xt xg xy xr) 0)) (.cells [.ah,.ah,.ah,.ah,.ah] 0)).next:=⟨_,rfl⟩
 obtain⟨s3,FF⟩:∃s3,s3=af (af (af st (.cells (kj zt zg zy zr xt xg xy xr) 0)) (.cells [.ah,.ah,.ah,.ah,.ah] 0)) (.cells [.ah,.ah,.ah,.ah,.ah] 0):=⟨_,rfl⟩
 have n1:st.next.toNat=p1.toNat:=by rw[fc]
 have n2:p2.toNat=p1.toNat+1:=by rw[Af,dM,Pos.aB,fc]
 have n3:p3.toNat=p2.toNat+1:=by rw[hp3,dM,Pos.aB,Af]
 have n4:s3.next.toNat=p3.toNat+1:=by rw[FF,dM,Pos.aB,hp3]
 have G3:Grew st s3:=by rw[FF];exact(g1.trans g2).trans g3
 have H1:s3.heap.get p1=some (.cells (kj zt zg zy zr xt xg xy xr) 0):=by rw[FF,fc];exact g3.get (g2.get (aE _ _))
 have H2:s3.heap.get p2=some (.cells [.ah,.ah,.ah,.ah,.ah] 0):=by rw[FF,Af];exact g3.get (aE _ _)
 have H3:s3.heap.get p3=some (.cells [.ah,.ah,.ah,.ah,.ah] 0):=by rw[FF,hp3];exact aE _ _
 have d13:p1≠p3:=λe=>by subst e;omega
 have d23:p2≠p3:=λe=>by subst e;omega
 have W3:=G3.wf
 obtain⟨sL,V1,r1,T1,e1⟩:=adR (c:=c) (x2:= .ptr p2 0) hc ht lt (zt:=zt) (zg:=zg) (zy:=zy) (zr:=zr) (xg:=xg) (xy:=xy) (xr:=xr) W3 H1 d13 (by omega) (by omega) (st:=st) (min xt.length 3) 0 s3 .ah [] (by omega)
  ⟨⟨Mk.start hw G3,rfl,λi t r hi _=>by simp[o9]at hi⟩,KX.refl W3,H3,⟨λb e=>(nomatch e),λi r v b hr _ _=>by simp at hr⟩⟩
 have GL:=T1.tab.out.aF;have WL:=GL.wf;have lN:=T1.kx.next;have L1:=T1.kx.keep p1 _ d13 H1;have L2:=T1.kx.keep p2 _ d23 H2;have L3:=T1.h3;have mlen:(gI xt).length<=3:=by unfold gI;rw[JS];omega
 obtain⟨m,hm⟩:∃m:Nat,m=min xg.length (iX xt (min xt.length 3)):=⟨_,rfl⟩
 have hmx:xg.take m=wK xt xg:=by rw[hm];rfl
 obtain⟨V2,V3,sR,r2,cR,R⟩:=ahP hc (xs:=wK xt xg) (bu:=xy) (λx hx=>hg x (List.mem_of_mem_take hx)) (by have:=List.length_take_le m xg;rw[hmx]at this;omega) hy (zg&&xg.isEmpty) zy sL WL;have GR:=GL.trans R.aF;have WR:=GR.wf;obtain⟨GSR,SR⟩:=R.gs hw GL;have rN:=R.aF.next;have gx:=Grew.af WR (.cells [V2,V3] 0);obtain⟨sX,hsX⟩:∃sX,sX=af sR (.cells [V2,V3] 0):=⟨_,rfl⟩
 have WX:Wf sX:=by rw[hsX];exact gx.wf
 have GX:Grew sR sX:=by rw[hsX];exact gx
 have X1:=GX.get (R.aF.get L1);have X2:=GX.get (R.aF.get L2);have X3:=GX.get (R.aF.get L3);have X8:sX.heap.get sR.next=some (.cells [V2,V3] 0):=by rw[hsX];exact aE _ _
 have n8:sR.next≠p3:=fun e=>by have:sR.next.toNat=p3.toNat:=by rw[e]
                               omega
 have lX:=WX _ _ X3;obtain⟨vc2,v2⟩:=R.out.cells;obtain⟨vc3,v3⟩:=R.ty.cells;have kP:∀(K:AV->St->Option (AV×St)),aj c (.store 1) [.ptr p3 (0+1),V2] sX K=K .undef (cj sX p3 (.cells [V1,V2,.ah,.ah,.ah] 0)):=λK=>by rw[eV c K sX 1 p3 (0+1) V2 [V1,.ah,.ah,.ah,.ah] X3 (by rw[vc2];rfl) (by simp) (by rw[vc2];exact v2),vc2];rfl
 have HF:∀(K:AV->St->Option (AV×St)),aj c (.store 1) [.ptr p3 (0+2),V3] (cj sX p3 (.cells [V1,V2,.ah,.ah,.ah] 0)) K=K .undef (cj sX p3 (.cells [V1,V2,V3,.ah,.ah] 0)):=λK=>by rw[eV c K _ 1 p3 (0+2) V3 [V1,V2,.ah,.ah,.ah] (dB _ _ _) (by rw[vc3];rfl) (by simp) (by rw[vc3];exact v3),vc3,SD];rfl
 obtain⟨sB,hsB⟩:∃sB,sB=cj sX p3 (.cells [V1,V2,V3,.ah,.ah] 0):=⟨_,rfl⟩
 have kXB:KX p3 sX sB:=by rw[hsB];exact(KX.refl WX).store lX _
 have WB:=kXB.wf;have GB:Grew st sB:=by rw[hsB];exact A4 hw (GR.trans GX) (by omega) lX _
 have kRB:KX p3 sR sB:=((KX.refl WR).aF GX).trans kXB;have kLB:KX p3 sL sB:=((KX.refl WL).aF R.aF).trans kRB;have B1:=kXB.keep p1 _ d13 X1;have B2:=kXB.keep p2 _ d23 X2;have B3:sB.heap.get p3=some (.cells [V1,V2,V3,.ah,.ah] 0):=by rw[hsB];exact dB _ _ _
 have lB:=WB _ _ B3;have sT1:TS.ow (p3.toNat+1) V1 r1:=T1.since.le (by omega);have sG2:GS.ow (p3.toNat+1) V2 r2:=SR.le (by omega);have TB:=T1.tab.kx kLB GB sT1;have GSB:=GSR.kx kRB GB sG2;have s3V:∀b,br V3=some b->p3.toNat+1<=b.toNat:=λb hb=>by have:=R.ty.new b hb;omega
 have YB:=Mk.kx (R.ty.back hw GL) kRB GB s3V;have UC:(l7 xt xg).length<=12:=BN _;have hgn:(l7 xt xg).length<=xg.length:=by unfold l7 fN;rw[JQ, <-hmx,Zj7];omega
 have l2:∀(K:AV->St->Option (AV×St))(s':St),aj c (.lenB .l) [V2] s' K=K (.int .i64 ((l7 xt xg).length:Int)) s':=λK s'=>by rw[QS.lenB R.out.own,R.len];rfl
 have C0:LL st sB sB p3 1 .ah ((A5 xg 0).map dO) (λA=>[V1,V2,V3,A,.ah]):=⟨Mk.start hw GB,KX.refl WB,B3,λb e=>(nomatch e)⟩
 obtain⟨sC1,V41,C1,e2⟩:=abZ (c:=c) (x2:= .ptr p2 0) hg (zt:=zt) (zg:=zg) (zy:=zy) (zr:=zr) (xt:=xt) (xy:=xy) (xr:=xr) (st:=st) (V1:=V1) (V3:=V3) hgn (by omega) WB B1 d13 lB (by omega) l2 (l7 xt xg).length 0 sB .ah (by omega) C0;have ld2:∀(K:AV->St->Option (AV×St)),aj c (.load none) [.ptr p1 (0+2)] sB K=K (dW .u8 zy xy) sB:=λK=>by rw[dG,B1];rfl
 have key:∃Vs s',kD c 400 (.agg (kj zt zg zy zr xt xg xy xr)) st=some (.agg Vs,s')/\∃iy,Go.Ai.tidy st (.agg Vs,s')=(.agg Vs,iy)/\PS st iy Vs (cK xt xg xy xr):=by
  obtain⟨Q,hQ⟩:∃Q:Option (AV×St)->Prop,Q=λo=>∃Vs s',o=some (.agg Vs,s')/\∃iy,Go.Ai.tidy st (.agg Vs,s')=(.agg Vs,iy)/\PS st iy Vs (cK xt xg xy xr):=⟨_,rfl⟩
  have RY:Q (kD c 400 (.agg (kj zt zg zy zr xt xg xy xr)) st)->∃Vs s',kD c 400 (.agg (kj zt zg zy zr xt xg xy xr)) st=some (.agg Vs,s')/\∃iy,Go.Ai.tidy st (.agg Vs,s')=(.agg Vs,iy)/\PS st iy Vs (cK xt xg xy xr):=λh=>by rw[hQ]at h;exact h
  apply RY;clear RY;have UY:∀(k2:List AV->St->Option (AV×St)),fu c 400 k2 400 [.ptr p1 0,.ptr p2 0,.ptr p3 0,.int .i64 0,.int .i64 0] s3=k2 [.ptr p1 0,.ptr p2 0,.ptr p3 0,.int .i64 (iX xt (min xt.length 3):Int)] sL:=λk2=>e1 400 k2 400 (by omega)
  have e2':∀(k4:List AV->St->Option (AV×St)),iN c 400 k4 400 [.ptr p1 0,.ptr p2 0,.ptr p3 0,.int .i64 0] sB=k4 [.ptr p1 0,.ptr p2 0,.ptr p3 0] sC1:=λk4=>e2 400 k4 400 (by omega)
  have ra1:∀(K:AV->Option (AV×St)),jB (.load none) [.ptr p1 (0+1)] sL.heap (λ_=>true) K=K (dW .u16 zg xg):=λK=>by rw[iJ,L1];rfl
  have ra2:∀(K:AV->Option (AV×St)),jB (.load none) [.ptr p1 (0+2)] sL.heap (λ_=>true) K=K (dW .u8 zy xy):=λK=>by rw[iJ,L1];rfl
  have rb0:∀(K:AV->Option (AV×St)),jB (.load none) [.ptr sR.next (0+0)] sX.heap (λ_=>true) K=K V2:=λK=>by rw[iJ,X8];rfl
  have rb1:=λ(K:AV->Option (AV×St))=>pV K (p:=sR.next) (o:=0+1) (h:=(cj sX p3 (.cells [V1,V2,.ah,.ah,.ah] 0)).heap) (h2:=sX.heap) (v:=V3) (by rw[bC (λe=>n8 e.symm),X8];rfl) (by rw[X8];rfl) R.ty.own.beq
  have pm:∀(K:AV->Option (AV×St)),dK .minB [.int .i64 (xg.length:Int),.int .i64 (iX xt (min xt.length 3):Int)] K=K (.int .i64 (m:Int)):=λK=>by rw[b7 K (λH n=>aam H n _ _ _ _),hm];congr 2;generalize iX xt (min xt.length 3)=a;omega
  have rY:∀(K:AV->St->Option (AV×St)),aj c (.store 2) [.ptr sR.next 0,.agg [V2,V3]] (af sR (.cells [.ah,.ah] 0)) K=K .undef sX:=λK=>by
    rw[hsX];exact eG c K sR 2 (.agg [V2,V3]) [.ah,.ah] rfl rfl (by
        have a2:V2.one=true:=ug v2;have a3:V3.one=true:=ug v3;show aR [V2,V3]=true;simp only[aR,a2,a3])
  rw[KR,ff,show AV.cells (.agg (kj zt zg zy zr xt xg xy xr))=kj zt zg zy zr xt xg xy xr from rfl,jD,jD, <-FF, <-hp3, <-Af, <-fc,ak,ak,UY,
    aA,aA,aA,aA,bf,aV,ra1,aV,ra1,adY,cJ,pm,adX _ _ _ _ (by omega),aV,ra2,hmx,bg,cR,aW,af6,rY,aV,rb0,aV,kP,aV,rb1,aV,HF, <-hsB]
  refine uh (P:=λj=>∀sC V4,LL st sB sC p3 1 V4 ((nF xt xg xy).map dO) (λA=>[V1,V2,V3,A,.ah])->Q (j [.ptr p1 0,.ptr p2 0,.ptr p3 0] sC)) ?_ ?_
  . intro sC V4 hC;have GC:=hC.out.aF;have WC:=GC.wf;have nC:=hC.kx.next;have C1':=hC.kx.keep p1 _ d13 B1;have C2':=hC.kx.keep p2 _ d23 B2;have TC:=TB.kx hC.kx GC sT1;have GSC:=GSB.kx hC.kx GC sG2;have YC:=Mk.kx YB hC.kx GC s3V
    obtain⟨sD,V5,D1,e3⟩:=ab0 (c:=c) (x2:= .ptr p2 0) hc hr lr (zt:=zt) (zg:=zg) (zy:=zy) (zr:=zr) (xt:=xt) (xg:=xg) (xy:=xy) (V3:=V3) (V4:=V4) WC C1' d13 (by omega) (by omega) TC sT1 GSC sG2 (show(gI xt).length<=1000 by omega) (show(l7 xt xg).length<=1000 by omega) adW YU (min xr.length 12) 0 sC .ah (by omega)
        ⟨Mk.start hw GC,KX.refl WC,hC.h3,λb e=>(nomatch e)⟩
    have e3':∀(k6:List AV->St->Option (AV×St)),iM c 400 k6 400 [.ptr p1 0,.ptr p2 0,.ptr p3 0,.int .i64 0] sC=k6 [.ptr p2 0,.ptr p3 0] sD:=λk6=>e3 400 k6 400 (by omega)
    have GD:=D1.out.aF;have WD:=GD.wf;have D2':=D1.kx.keep p2 _ d23 C2';have s4V:∀b,br V4=some b->p3.toNat+1<=b.toNat:=λb hb=>by have:=hC.since b hb;omega
    have s5V:∀b,br V5=some b->p3.toNat+1<=b.toNat:=λb hb=>by have:=D1.since b hb;omega
    have TD:=TC.kx D1.kx GD sT1;have GSD:=GSC.kx D1.kx GD sG2;have YD:=Mk.kx YC D1.kx GD s3V;have CD:=Mk.kx hC.out D1.kx GD s4V;have lD:=WD _ _ D2';have ld5:∀(K:AV->St->Option (AV×St)),aj c (.load (some 5)) [.ptr p3 0] sD K=K (.agg [V1,V2,V3,V4,V5]) sD:=λK=>by rw[vZ,D1.h3];rfl
    have one5:aR [V1,V2,V3,V4,V5]=true:=by
        have a1:V1.one=true:=ug TD.out.cells.2;have a2:V2.one=true:=ug v2;have a3:V3.one=true:=ug v3;have a4:V4.one=true:=ug CD.cells.2;have a5:V5.one=true:=ug D1.out.cells.2;simp only[aR,a1,a2,a3,a4,a5,Zl1]
    have sto5:∀(K:AV->St->Option (AV×St)),aj c (.store 5) [.ptr p2 0,.agg [V1,V2,V3,V4,V5]] sD K=K .undef (cj sD p2 (.cells [V1,V2,V3,V4,V5] 0)):=λK=>by rw[eV c K _ 5 p2 0 (.agg [V1,V2,V3,V4,V5]) _ D2' rfl (by simp) one5];rfl
    have kE:KX p2 sD (cj sD p2 (.cells [V1,V2,V3,V4,V5] 0)):=(KX.refl WD).store lD _;have GE:=A4 hw GD (show st.next.toNat<=p2.toNat by omega) lD (.cells [V1,V2,V3,V4,V5] 0);obtain⟨iy,t1,t2⟩:=PS.ajl (p:=cK xt xg xy xr) (TD.kx kE GE (sT1.le (by omega))) (GSD.kx kE GE (sG2.le (by omega))) (Mk.kx YD kE GE λb hb=>by have:=s3V b hb;omega) (Mk.kx CD kE GE λb hb=>by have:=s4V b hb;omega) (Mk.kx D1.out kE GE λb hb=>by have:=s5V b hb;omega);have ab2:Q (some (.agg [V1,V2,V3,V4,V5],cj sD p2 (.cells [V1,V2,V3,V4,V5] 0))):=(by rw[hQ];exact⟨_,_,rfl,iy,t1,t2⟩);rw[aA,aA,aA,bf,ak,e3',aA,aA,bf,ld5,sto5,Xo,dB];exact ab2
  . intro j hj;rw[bN,ld2,JT,cg (by omega) (by omega),pU];by_cases h4:0<xy.length % 4
    .   rw[H5 (show(0:Int)<(xy.length:Int) % 4 by omega),bR,ak,e2',aA,aA,aA,bf];refine hj sC1 V41 ?_;have:nF xt xg xy=A5 xg (l7 xt xg).length:=(by unfold nF;rw[Za9 h4]);rw[this];exact C1
    .   rw[Za0 (show ¬(0:Int)<(xy.length:Int) % 4 by omega),cG];refine hj sB .ah ?_;have:nF xt xg xy=[]:=(by unfold nF;rw[Za3 h4]);rw[this];exact C0
 obtain⟨Vs,s',k1,iy,k2,k3⟩:=key;refine⟨Vs,iy,?_,k3⟩;rw[H9 hc 400 (r:=(.agg Vs,s')) k1,k2]
end
end Go.Proofs.YtgjikjcfjddloaaGreatDoor
