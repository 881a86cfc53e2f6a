/- Functions of the program, plainly, and what they answer. -/
import Derived.Test.YtgjikjcfjddloaaGreatDoorRLawC
import Derived.Deep.DeepHandedRow
set_option linter.all false
set_option maxRecDepth 100000
set_option maxHeartbeats 4000000
namespace Go.Proofs.YtgjikjcfjddloaaGreatDoor
section
set_option linter.unusedSimpArgs false
open Go Go.Ai Go.Proofs
variable{c:ai}
def NS(p:bX):Nat:=(aY p.ts).toNat
section
variable{sB s:St}{P:AV}{q:List Int}{N n:Nat}
end
section
variable{s0 s:St}{Vs:List AV}{p:bX}{P:AV}{q:List Int}
end
set_option linter.unusedSimpArgs false
open Go Go.Ai Go.Proofs Go.Ai.Ro Go.Ai.Mvs
theorem agx {gn tn:List (List Nat)}{zs:List Int}{q:List Int}{w:List Nat}(hz:∀j,0<=(zs.take j).sum)(hq:∀x∈q,-1<=x):∀x∈(sN gn tn zs q w).2,-1<=x:=by
 unfold sN;split
 . split
   .exact hq
   . split
     .  exact hq
     .  split
        .exact hq
        . split
          .exact hq
          . split
            .exact hq
            . split
              .exact hq
              . split
                .exact hq
                . rename_i j _ _ _ _;intro x hx;rcases List.mem_or_eq_of_mem_set hx with h|h
                  .exact hq x h
                  .have:=hz j;omega
 .exact hq
theorem agy{u:AV}{k1 k2:IntKind}{i1 i2:Int}(h:Plain (.tuple [u,.int k1 i1,.int k2 i2])):Plain u:=λρ ρ' n n' C x hx=>by
 obtain⟨y,hy⟩:∃y,aq ρ n C (.int k1 i1) y:=⟨_,.int k1 i1⟩
 obtain⟨z,hz⟩:∃y,aq ρ n C (.int k2 i2) y:=⟨_,.int k2 i2⟩
 have:=h ρ ρ' n n' C _ (.tuple _ #[x,y,z] rfl (λi v v' hv nh=>by
  match i with
  |0=>simp at hv nh;subst hv nh;exact hx
  |1=>simp at hv nh;subst hv nh;exact hy
  |2=>simp at hv nh;subst hv nh;exact hz
  |i+3=>simp at hv))
 cases this with
 |tuple _ _ _ h=>exact h 0 _ x rfl rfl
section
variable{s0 s sA:St}{Vs:List AV}{p:bX}{P V1 V2:AV}{q:List Int}
abbrev rK(p:bX):=SQ (p.gs.map (·.name)) (p.ts.map (·.name)) (p.ts.map bH)
abbrev Cs(p:bX):=sN (p.gs.map (·.name)) (p.ts.map (·.name)) (p.ts.map bH)
theorem ahX(ts:List aK)(j:Nat):0<=((ts.map bH).take j).sum:=by rw[<-Zk3];exact(oR (ts.take j)).1
theorem HU(a b d:AV)(K:AV->St->Option (AV×St))(s:St):aj c (.extract 0) [.tuple [a,b,d]] s K=K a s:=aH c K (λH n=>rfl) s
theorem MH(a b d:AV)(K:AV->St->Option (AV×St))(s:St):aj c (.extract 1) [.tuple [a,b,d]] s K=K b s:=aH c K (λH n=>rfl) s
theorem MI(a b d:AV)(K:AV->St->Option (AV×St))(s:St):aj c (.extract 2) [.tuple [a,b,d]] s K=K d s:=aH c K (λH n=>rfl) s
theorem agz{b:Nat}{u v:List Nat}(h:b∉u):∃y ys,cZ b [] v=y::ys/\cZ b [] (u++b::v)=u::y::ys:=by
 obtain⟨y,ys,e⟩:∃y ys,cZ b [] v=y::ys:=by
  cases hv:cZ b [] v with
  |nil=>exact absurd hv (Rv v [])
  |cons y ys=>exact⟨y,ys,rfl⟩
 exact⟨y,ys,e,by rw[xe u v h,e]⟩
theorem agA{N:Nat}(hc:bE c)(h:PS s0 sA Vs p)(ok:O3 p N)(hk:∀t∈p.ts,nE t=0)(EI:p.gs.length<=1000){pb:Pos}(hpb:sA.heap.get pb=some (.cells Vs 0))(F:Nat):
  ∀(m:Nat)(w:List Nat)(k f:Nat)(s:St)(q:List Int),w.length<=m->m<f->k+m<=70000->Mr sA s P q->q.length=p.gs.length->(∀x∈q,-1<=x)->(∀x∈w,x<256)->w.length<=1000000->
  ∃ s' q',(rK p (cZ 10 [] w) k q).1=(if(rK p (cZ 10 [] w) k q).2.2=0 then q' else [])/\Mr sA s' P q'/\∀k1 k2:Q2,rZ c F k1 k2 f [.str w,.ptr pb 0,P,.int .i64 (k:Int)] s=
    if(rK p (cZ 10 [] w) k q).2.2=0 then k2 [P] s' else k1 [.ah,.int .i64 ((rK p (cZ 10 [] w) k q).2.1:Int),.int .i64 (rK p (cZ 10 [] w) k q).2.2] s':=by
 intro m;induction m with
 |zero=>
  intro w k f s q hw hf hkm M Y4 hqr jy Vc;obtain⟨f,rfl⟩:∃g,f=g+1:=⟨f - 1,by omega⟩
  obtain rfl:w=[]:=Zb1 (by omega);refine⟨s,q,rfl,M,λk1 k2=> ?_⟩;rw[oH];simp only[aA,bf,ak,iF,Zg2,Ze1,cG];rfl
 |succ m ih=>
  intro w k f s q hw hf hkm M Y4 hqr jy Vc;obtain⟨f,rfl⟩:∃g,f=g+1:=⟨f - 1,by omega⟩
  by_cases h0:w=[]
  .subst h0;refine⟨s,q,rfl,M,λk1 k2=> ?_⟩;rw[oH];simp only[aA,bf,ak,iF,Zg2,Ze1,cG];rfl
  have d0:decide (w=[])=false:=Za0 h0;have G:=M.aF;have hpb2:=G.get hpb;have ld:∀(K:AV->St->Option (AV×St)),aj c (.load (some 5)) [.ptr pb 0] s K=K (.agg Vs) s:=λK=>by
    have hcut:cut Vs 0 5=some Vs:=bY h.cells.1;simp[hpb2,bF,hcut]
  rcases Ru (c:=10) w with hn|⟨u,v,hu,rfl⟩
  .have ct:=agj hc (b:=10) (by omega) jy hn s;have e:cZ 10 [] w=[w]:=HD w hn;have ep:rK p [w] k q=([],k,3):=(by unfold rK SQ;rw[Za3 h0]);rw[e,ep];refine⟨s,q,by simp,M,λk1 k2=> ?_⟩;rw[oH];simp only[aA,bf,ak,iF,d0,Zh6,bR,gX,bg,ct,aW,HU,MH,MI,cG,ji,show decide ((3:Int)=0)=false from rfl];rfl
  . have hu2:∀x∈u,x<256:=λx hx=>jy x (Zg9 _ hx)
    have Hi:∀x∈v,x<256:=λx hx=>jy x (Zh8 _ (Za4 _ hx))
    have hl:u.length+v.length+1<=m+1:=(by simpa [Zh3]using hw);have nK:u.length+v.length+1<=1000000:=(by simpa [Zh3]using Vc);have ct:=agk hc (b:=10) (v:=v) (by omega) hu2 hu (by omega) s;obtain⟨s1,pt,M1⟩:=aiF hc h ok hk EI M Y4 hqr hu2 (by omega);obtain⟨y,ys,ey,es⟩:=agz (v:=v) hu;rw[es];have ep:rK p (u::y::ys) k q=if(Cs p q u).1=0 then rK p (y::ys) (k+1) (Cs p q u).2 else([],k,(Cs p q u).1):=rfl
    by_cases hz:(Cs p q u).1=0
    .   (rw[ep,Za9 hz, <-ey];obtain⟨s',q',z1,z2,z3⟩:=ih v (k+1) f s1 (Cs p q u).2 (by omega) (by omega) (by omega) M1 (by rw[afq];exact Y4) (agx (ahX p.ts) hqr) Hi (by omega);refine⟨s',q',z1,z2,λk1 k2=> ?_⟩;have wr:Unit->au .i64 ((k:Int)+1)=((k+1:Nat):Int):=λ_=>wrap64 (by omega) (by omega));have dz:decide ((Cs p q u).1=0)=true:=H5 hz;rw[<-z3 k1 k2,oH];simp only[aA,bf,ak,iF,d0,Zh6,bR,gX,bg,ct,aW,HU,MH,MI,ld,pt,ji,dz,Ze1,cG,fG,wr ()]
    .   rw[ep,Za3 hz];have dz:decide ((Cs p q u).1=0)=false:=Za0 hz;refine⟨s1,(Cs p q u).2,by rw[Za3 hz],M1,λk1 k2=> ?_⟩;rw[oH,Za3 hz];simp only[aA,bf,ak,iF,d0,Zh6,bR,gX,bg,ct,aW,HU,MH,MI,ld,pt,ji,dz]
theorem agB:∀(l:List (List Nat))(k:Nat)(q:List Int),(rK p l k q).2.2=0->(rK p l k q).2.1=0:=by
 intro l;induction l with
 |nil=>intro k q _;rfl
 |cons x l ih=>
  intro k q h;cases l with
  |nil=>
   unfold rK SQ at h ⊢;by_cases hx:x=[]
   .rw[Za9 hx]
   .rw[Za3 hx]at h;simp at h
  |cons y l=>
   have e1:rK p (x::y::l) k q=if(Cs p q x).1=0 then rK p (y::l) (k+1) (Cs p q x).2 else([],k,(Cs p q x).1):=rfl
   rw[e1]at h ⊢;by_cases hz:(Cs p q x).1=0
   .rw[Za9 hz]at h ⊢; exact ih _ _ h
   .rw[Za3 hz]at h;exact absurd h hz
def A9(p:bX)(w:List Nat):List Int×Nat×Int:=if(fK p).2≠0 then([],0,(fK p).2)else if 65536<w.length then([],0,7)else rK p (cZ 10 [] w) 0 (List.replicate p.gs.length (-1))
theorem Zf(hc:bE c)(h:PS s0 s Vs p)(hp:p.HW)(hr:∀r∈p.rs,r.Ok)(hk:(fK p).2=0->O3 p (NS p)/\∀t∈p.ts,nE t=0)(EI:p.gs.length<=1000){w:List Nat}(jy:∀x∈w,x<256):
   ∃v s',c 37 [.agg Vs,.str w] s=some (.tuple [v,.int .i64 ((A9 p w).2.1:Int),.int .i64 (A9 p w).2.2],s')/\Grew s s'/\QS 1 s' v ((A9 p w).1.map dO):=by
 have hwf:=h.aF.wf;have gN:=Grew.af hwf (.cells Vs 0);have h1:=h.rI gN;have hcut:cut Vs 0 5=some Vs:=bY h.cells.1;have ck:=UQ hc h1 hp hr;have ld:∀(K:AV->St->Option (AV×St)),aj c (.load (some 5)) [.ptr s.next 0] (af s (.cells Vs 0)) K=K (.agg Vs) (af s (.cells Vs 0)):=λK=>by simp[aE,bF,hcut]
 have bad:∀(i:Nat)(e:Int),A9 p w=([],i,e)->(∃s2,Grew s s2/\zU c (w.length+1) (.agg Vs) (.str w) s=some (.tuple [.ah,.int .i64 (i:Int),.int .i64 e],s2))->∃v s',c 37 [.agg Vs,.str w] s=some (.tuple [v,.int .i64 ((A9 p w).2.1:Int),.int .i64 (A9 p w).2.2],s')/\Grew s s'/\QS 1 s' v ((A9 p w).1.map dO):=λi e he hr=>by
   obtain⟨s2,g2,hr⟩:=hr;refine⟨.ah,s,?_,Grew.refl hwf,by rw[he];exact QS.nil⟩;rw[Ik hc (w.length+1) (r:=(.tuple [.ah,.int .i64 (i:Int),.int .i64 e],s2)) hr,aD (Plain.tuple (by simp[Plain.int,Plain.ah])) g2.keeps,he]
 by_cases yA:(fK p).2=0;rotate_left
 .have dk:decide ((fK p).2=0)=false:=Za0 yA;refine bad 0 (fK p).2 (by unfold A9;rw[Za9 yA]) ⟨_,gN,?_⟩;rw[EM];simp only[ff,show ∀l,AV.cells (.agg l)=l from λl=>rfl,ak,ld,bg,ck,aW,eX,Za8,Zb7,ew,ji,dk,Zh6,bR];rfl
 have dk:decide ((fK p).2=0)=true:=H5 yA;by_cases Vc:65536<w.length
 .have dl:decide ((65536:Int)<(w.length:Int))=true:=H5 (by omega);refine bad 0 7 (by unfold A9;rw[Za3 (λh=>h yA),Za9 Vc]) ⟨_,gN,?_⟩;rw[EM];simp only[ff,show ∀l,AV.cells (.agg l)=l from λl=>rfl,ak,ld,bg,ck,aW,eX,Za8,Zb7,ew,ji,dk,Ze1,cG,jd,pU,dl,bR];rfl
 have dl:decide ((65536:Int)<(w.length:Int))=false:=Za0 (by omega);obtain⟨ok,UN⟩:=hk yA;have et:A9 p w=rK p (cZ 10 [] w) 0 (List.replicate p.gs.length (-1)):=by unfold A9;rw[Za3 (λh=>h yA),Za3 Vc]
 have gM:=Grew.af gN.wf (.cells [.int .i64 (-1)] 0);obtain⟨s2,gb,rp,g2,n2,hgb⟩:=aed hc (N:=p.gs.length) (v:= .int .i64 (-1)) (by omega) rfl (af (af s (.cells Vs 0)) (.cells [.int .i64 (-1)] 0)) gM.wf (aE _ _);have gA:=gN.trans gM;have hA:=h.rI gA;have hpb:(af (af s (.cells Vs 0)) (.cells [.int .i64 (-1)] 0)).heap.get s.next=some (.cells Vs 0):=gM.get (aE _ _);have efl:((List.replicate p.gs.length (-1:Int)).map dO).flatten=List.replicate p.gs.length (.int .i64 (-1)):=by
   rw[List.map_replicate];generalize p.gs.length=n;induction n with
   |zero=>rfl
   |succ n ih=>rw[Zn0,Ze8,ih];rfl
 have M0:Mr (af (af s (.cells Vs 0)) (.cells [.int .i64 (-1)] 0)) s2 (.slice gb 0 p.gs.length (some p.gs.length) 1) (List.replicate p.gs.length (-1)):=by
   rcases hgb with h0|hgb
   . refine⟨gM.wf,g2,.inr (.inr ⟨gb,0,by rw[h0],by rw[h0];rfl⟩),λb hb=> ?_,λb hb=> ?_⟩
     .  rw[h0,jf]at hb;cases hb
     .  rw[h0,jf]at hb;cases hb
   . refine⟨gM.wf,g2,.inr (.inl ⟨gb,0,some p.gs.length,_,by simp,hgb,by simp,by rw[efl];simp,.inr (by simp)⟩),λb hb=> ?_,λb hb=> ?_⟩
     .  rw[<-FD hb];exact n2
     .  rw[<-FD hb,efl];exact hgb
 obtain⟨V1,V2,r1,r2,q1,q2,T,T2,q5⟩:=h1.rT;obtain⟨s',q',z1,z2,L⟩:=agA (F:=w.length+1) hc hA ok UN EI hpb w.length w 0 (w.length+1) s2 _ (Za5 _) (by omega) (by omega) M0 (by simp) (λx hx=>by rw[List.eq_of_mem_replicate hx];omega) jy (by omega);simp only[show((0:Nat):Int)=0 from rfl]at L;have f1:∀(K:AV->St->Option (AV×St)),aj c (.load none) [.ptr s.next (0+1)] (af (af s (.cells Vs 0)) (.cells [.int .i64 (-1)] 0)) K=K V2 (af (af s (.cells Vs 0)) (.cells [.int .i64 (-1)] 0)):=λK=>by rw[dG,hpb];show nr (Vs[1]?) _=_;rw[q2];rfl
 have ln:=λ(K:AV->St->Option (AV×St))(s1:St)=>T2.out.own.lenB (c:=c) K s1
 rw[T2.len]at ln;have bs:∀(K:AV->St->Option (AV×St)),aj c (.buildSlice 1 1 [.int .i64 0] [0]) [.int .i64 (-1)] (af s (.cells Vs 0)) K=K (.slice (af s (.cells Vs 0)).next 0 1 (some 1) 1) (af (af s (.cells Vs 0)) (.cells [.int .i64 (-1)] 0)):=λK=>by simp only[aX];rfl
 have run:∀e,(rK p (cZ 10 [] w) 0 (List.replicate p.gs.length (-1))).2.2=e->zU c (w.length+1) (.agg Vs) (.str w) s=if e=0 then some (.tuple [.slice gb 0 p.gs.length (some p.gs.length) 1,.int .i64 0,.int .i64 0],s')else some (.tuple [.ah,.int .i64 ((rK p (cZ 10 [] w) 0 (List.replicate p.gs.length (-1))).2.1:Int),.int .i64 e],s'):=λe he=>by
   rw[EM];simp only[ff,show ∀l,AV.cells (.agg l)=l from λl=>rfl,ak,ld,bg,ck,aW,eX,Za8,Zb7,ew,ji,dk,Ze1,cG,jd,pU,dl,bs,bN,f1,ln,rp];rw[L,he];by_cases h:e=0
   .rw[Za9 h,Za9 h];simp only[aA,bf]
   .rw[Za3 h,Za3 h];simp only[aA,bf]
 have gs':Grew s s':=gA.trans z2.aF;by_cases he:(rK p (cZ 10 [] w) 0 (List.replicate p.gs.length (-1))).2.2=0
 . have r:=run _ he;rw[Za9 rfl]at r;have ajr:=agB _ _ _ he;rw[Za9 he]at z1;rw[et,he,ajr,z1];have fin:∃iy,tidy s (.tuple [.slice gb 0 p.gs.length (some p.gs.length) 1,.int .i64 0,.int .i64 0],s')=(.tuple [.slice gb 0 p.gs.length (some p.gs.length) 1,.int .i64 0,.int .i64 0],iy)/\Grew s iy/\QS 1 iy (.slice gb 0 p.gs.length (some p.gs.length) 1) (q'.map dO):=by
     unfold tidy;split
     .  rename_i pR;by_cases h0:p.gs.length=0
        .have hq0:q'=[]:=(by have:=z2.own.len;simp only[dD,h0,H0,Zb3]at this;exact Zb1 this.symm);exact⟨s,rfl,Grew.refl hwf,.inr (.inr ⟨gb,0,by rw[h0],by rw[hq0];rfl⟩)⟩
        .exact(xj h0 (agy pR.1)).elim
     .  exact⟨s',rfl,gs',z2.own⟩
   obtain⟨iy,e1,e2,e3⟩:=fin;refine⟨.slice gb 0 p.gs.length (some p.gs.length) 1,iy,?_,e2,e3⟩;rw[Ik hc (w.length+1) (r:=(.tuple [.slice gb 0 p.gs.length (some p.gs.length) 1,.int .i64 0,.int .i64 0],s')) r,e1];rfl
 .have r:=run _ rfl;rw[Za3 he]at r;exact bad _ _ (by rw[et];exact Prod.ext (by rw[z1,Za3 he]) rfl) ⟨s',gs',r⟩
end
end
noncomputable section
open Go Go.Ai Go.Proofs
attribute [local go_sem ↓] bD mj ev LP ve getLT qV B6 HC pL pM AP v7 v8 v9 sk su sv sw sx sy we wj sF sH sI sJ sK Be Bf Bg
attribute [local go_sem] bD mj ev
section
variable(c:ai)(F:Nat)(x0 x1 x2 x3 x4 x5 x6 x7 x8 x9 yR yS:AV)(s:St)
def kA:Sh:=(sq sl (sq sl (sq sl (sq sl (sq sl (sq (sq sl (sb (sp 0 [2,7,8,9,10,11] [(1,[6]),(2,[2,7,8,9,10])] (sq (sq sl (sc sl sl)) (sb (sq sl (sq (sq sl (sc (sq sl sl) sl)) (sq sl sl)))))))) (sq (sq sl (sc (sq sl sl) sl)) (sq sl (sq (sq sl (sb (sp 1 [2,7,8,9,10,13,56,57] [(4,[7,8,9,13])] (sq sl (sq (sc sl sl) (sq (sb (sq sl sl)) sl)))))) (sq sl (sq sl (sq sl sl))))))))))))
def uN:PX 6 kA:=⟨_,by conv=>lhs;reduce⟩
def tR:PL 6 kA 1:=⟨_,by conv=>lhs;reduce⟩
def iq(k4:Q2):Nat->Q2
 |0,_,_=>none
 |n+1,vs,s=>gY c F bM (iq k4 n) [k4] tR.1 vs s
def qz(k4:Q2)(n:Nat)(vs:List AV)(s:St):=(by dsimp only[iq,tR,go_sem,Int.reduceOfNat,Int.reduceNegSucc]:iq c F k4 (n+1) vs s=_)
def tS:PL 6 kA 0:=⟨_,by conv=>lhs;reduce⟩
def ir(k1 k2:Q2):Nat->Q2
 |0,_,_=>none
 |n+1,vs,s=>gY c F bM (ir k1 k2 n) [k1,k2] tS.1 vs s
def qC(k1 k2:Q2)(n:Nat)(vs:List AV)(s:St):=(by dsimp only[ir,tS,go_sem,Int.reduceOfNat,Int.reduceNegSucc]:ir c F k1 k2 (n+1) vs s=_)
def nG:Un->List Q2->Nat->Q2
 |.z,[k1,k2]=>ir c F k1 k2
 |(.s .z),[k4]=>iq c F k4
 |_,_=>λ_=>jr
def pz:O2:=bD c F (nG c F) uN.1 [x0,x1,x2] s
def EU:=(by dsimp only[pz,uN, ↓nG,go_sem,Int.reduceOfNat,Int.reduceNegSucc]:pz c F x0 x1 x2 s=_)
def nH:Sh:=(sq sl (sq (sq sl (sb (sp 0 [0,1,7,8] [(1,[4]),(2,[])] (sq sl (sq (sc sl sl) (sq (sb (sq sl (sq sl (sc (sq sl sl) sl)))) sl)))))) (sq sl sl)))
def uO:PX 35 nH:=⟨_,by conv=>lhs;reduce⟩
def tT:PL 35 nH 0:=⟨_,by conv=>lhs;reduce⟩
def iu(k1 k2:Q2):Nat->Q2
 |0,_,_=>none
 |n+1,vs,s=>gY c F bM (iu k1 k2 n) [k1,k2] tT.1 vs s
def qD(k1 k2:Q2)(n:Nat)(vs:List AV)(s:St):=(by dsimp only[iu,tT,go_sem,Int.reduceOfNat,Int.reduceNegSucc]:iu c F k1 k2 (n+1) vs s=_)
def nI:Un->List Q2->Nat->Q2
 |.z,[k1,k2]=>iu c F k1 k2
 |_,_=>λ_=>jr
def pE:O2:=bD c F (nI c F) uO.1 [x0,x1] s
def EV:=(by dsimp only[pE,uO, ↓nI,go_sem,Int.reduceOfNat,Int.reduceNegSucc]:pE c F x0 x1 s=_)
end
section
variable{c:ai}(hc:bE c)(F:Nat){x0 x1 x2 x3 x4 x5 x6 x7 x8 x9 yR yS:AV}{s:St}{r:AV×St}
include hc
theorem Ct(h:pz c F x0 x1 x2 s=some r):c 6 [x0,x1,x2] s=some (tidy s r):=hc.oL F (nG c F) kA 2 (by kernel_rfl) (λi hi=>match i,hi with|0,_=>j5 0 (by kernel_rfl) (λ_ _ _=>by kernel_rfl) (λ_ _ _ _=>by kernel_rfl)|1,_=>j5 1 (by kernel_rfl) (λ_ _ _=>by kernel_rfl) (λ_ _ _ _=>by kernel_rfl)|n+2,h=>absurd h (by omega)) (by kernel_rfl) h
theorem Cu(h:pE c F x0 x1 s=some r):c 35 [x0,x1] s=some (tidy s r):=hc.o1 F (nI c F) nH (by kernel_rfl) (by kernel_rfl) (λ_ _ _=>by kernel_rfl) (λ_ _ _ _=>by kernel_rfl) (by kernel_rfl) h
end
end
section
set_option linter.unusedSimpArgs false
open Go Go.Ai Go.Proofs
variable{c:ai}
section
variable{s0 s sB:St}{Vs:List AV}{p:bX}{P:AV}{q:List Int}{N:Nat}
end
set_option linter.unusedSimpArgs false
open Go Go.Ai Go.Proofs Go.Ai.Ro Go.Ai.Mvs
def z8(w:List Nat):List AV:=w.map λc=>.int .u8 (.ofNat c)
theorem aeo{R:Type}(w:List Nat)(s:St)(K:AV->St->Option R):aj c (.conv .bytes) [.str w] s K=K (.slice s.next 0 w.length none 1) (af s (.cells (z8 w) 0)):=rfl
theorem aep{b:Pos}{u v:List Nat}{x:Nat}{s:St}(hb:s.heap.get b=some (.cells (z8 (u++x::v)) 0))(hx:x∉u)(hl:u.length+v.length<=1000000)(F:Nat):∀(m k f:Nat),k+m=u.length->m<f->
  ∀k1 k2:Q2,iu c F k1 k2 f [.slice b 0 (u++x::v).length none 1,.int .u8 (x:Int),.int .i64 ((u++x::v).length:Int),.int .i64 (k:Int)] s=k1 [.int .i64 (u.length:Int)] s:=by
 have hlen:(u++x::v).length=u.length+v.length+1:=by simp[Zh3]
 have at':∀k,k<=u.length->∀(y:Nat),(u++x::v)[k]? =some y->(∀(K:AV->St->Option (AV×St))(s1:St),aj c (.idxA 1 none) [.slice b 0 (u++x::v).length none 1,.int .i64 (k:Int)] s1 K=K (.ptr b (0+k*1)) s1)/\∀(K:AV->St->Option (AV×St)),aj c (.load none) [.ptr b (0+k*1)] s K=K (.int .u8 (y:Int)) s:=λk hk y hy=>by refine⟨λK s1=>qQ c K s1 (by omega),λK=> ?_⟩;rw[dG,hb];show nr ((z8 (u++x::v))[0+k*1]?) _=_;rw[Zd1,Zk4];unfold z8;rw[Zb6,hy];rfl
 intro m;induction m with
 |zero=>
  intro k f hk hf k1 k2;obtain⟨f,rfl⟩:∃g,f=g+1:=⟨f - 1,by omega⟩
  obtain rfl:k=u.length:=by omega
  obtain⟨a1,a2⟩:=at' u.length (Za5 _) x (by simp);have d:decide ((u.length:Int)<((u++x::v).length:Int))=true:=H5 (by omega);rw[qD];simp only[aA,bf,b9,d,bR,ak,a1,a2,cM,Zg2]
 |succ m ih=>
  intro k f hk hf k1 k2;obtain⟨f,rfl⟩:∃g,f=g+1:=⟨f - 1,by omega⟩
  have gQ:k<u.length:=by omega
  obtain⟨a1,a2⟩:=at' k (by omega) u[k] (by rw[Zc6 gQ,H4 gQ]);have cL:x≠u[k]:=λe=>hx (by rw[e];exact Zc0 gQ)
  have d:decide ((k:Int)<((u++x::v).length:Int))=true:=H5 (by omega);have d2:decide ((x:Int)=(u[k]:Int))=false:=Za0 (by omega);have wr:Unit->au .i64 ((k:Int)+1)=((k+1:Nat):Int):=λ_=>wrap64 (by omega) (by omega)
  rw[qD];simp only[aA,bf,b9,d,bR,ak,a1,a2,cM,d2,cG,fG,wr (),ih (k+1) f (by omega) (by omega)]
theorem aeq(hc:bE c){b:Pos}{u v:List Nat}{x:Nat}{s:St}(hb:s.heap.get b=some (.cells (z8 (u++x::v)) 0))(hx:x∉u)(hl:u.length+v.length<=1000000):c 35 [.slice b 0 (u++x::v).length none 1,.int .u8 (x:Int)] s=some (.int .i64 (u.length:Int),s):=by
 rw[Cu hc (u.length+1) (r:=(.int .i64 (u.length:Int),s)),aD (Plain.int _ _) (aT.refl s)];rw[EV];have L:=aep (c:=c) hb hx hl (u.length+1) u.length 0 (u.length+1) (by omega) (by omega);simp only[show((0:Nat):Int)=0 from rfl]at L;have ln:∀(K:AV->St->Option (AV×St)),aj c (.lenB .l) [.slice b 0 (u++x::v).length none 1] s K=K (.int .i64 ((u++x::v).length:Int)) s:=λK=>lJ c K s _ _ _ _ _
 simp only[ak,ln];rw[L];simp only[aA,bf]
abbrev lf(w:List Nat):List Nat:=w++[10]
theorem Qh:∀(ls:List (List Nat)),(∀w∈ls,w.length<=100)->(ls.map lf).flatten.length<=101*ls.length
 |[],_=>by simp
 |w::ls,h=>by
  have:=Qh ls λx hx=>h x (Za4 _ hx)
  have h2:=h w (by simp);simp only[Zb8,Ze8,Zc1,Zc5,Zg5];omega
section
variable{s0 s sA:St}{x2 x7 x8 x9:AV}
theorem Zg(hc:bE c)(F:Nat):∀(ls:List (List Nat))(ds:List (List Nat))(f:Nat)(s:St)(V:AV),ls.length<f->Mk 1 sA s V (ds.map MJ)->(∀w∈ls,10∉w/\w.length<=100)->ds.length+ls.length<=1000->
  ∃s' V',Mk 1 sA s' V' ((ds++ls.map lf).map MJ)/\∀k1 k2:Q2,ir c F k1 k2 f [x2,x7,x8,x9,V,.str (ls.map lf).flatten] s=k2 [x2,x7,x8,x9,V'] s'
 |[],ds,f,s,V,hf,M,hw,hl=>by
  obtain⟨f,rfl⟩:∃g,f=g+1:=⟨f - 1,by omega⟩
  refine⟨s,V,by simpa using M,λk1 k2=> ?_⟩;rw[qC];simp only[aA,bf,ak,iF,Zf8,Zq7,Zg2,Ze1,cG]
 |w::ls,ds,f,s,V,hf,M,hw,hl=>by
  obtain⟨f,rfl⟩:∃g,f=g+1:=⟨f - 1,by omega⟩
  simp only[Zc5]at hf hl;obtain⟨w1,w2⟩:=hw w (by simp);have hw':∀x∈ls,10∉x/\x.length<=100:=λx hx=>hw x (Za4 _ hx)
  obtain⟨v,hv⟩:∃v,v=(ls.map lf).flatten:=⟨_,rfl⟩
  have hvl:v.length<=101*ls.length:=by rw[hv];exact Qh ls λx hx=>(hw' x hx).2
  have et:((w::ls).map lf).flatten=w++10::v:=by rw[hv];simp[lf]
  have gB:=Grew.af M.aF.wf (.cells (z8 (w++10::v)) 0);have M1:=M.grow gB;have ix:c 35 [.slice s.next 0 (w++10::v).length none 1,.int .u8 10] (af s (.cells (z8 (w++10::v)) 0))=some (.int .i64 (w.length:Int),af s (.cells (z8 (w++10::v)) 0)):=aeq hc (b:=s.next) (u:=w) (v:=v) (x:=10) (s:=af s (.cells (z8 (w++10::v)) 0)) (aE _ _) w1 (by omega);obtain⟨s5,V5,p1,p2,_⟩:=Mk.push (R:=AV×St) (c:=c) (bytes:=16) M1 (z:=[.str []]) (x:= .str (lf w)) rfl rfl rfl (by decide) (by rw[Zb3];omega) (by rw[Zb3];omega);have es:ds.map MJ++[(AV.str (lf w)).cells]=(ds++[lf w]).map MJ:=by rw[Ze4];rfl
  rw[es]at p2;obtain⟨s',V',q1,q2⟩:=Zg hc F ls (ds++[lf w]) f s5 V5 (by omega) p2 hw' (by simp;omega);refine⟨s',V',by simpa using q1,λk1 k2=> ?_⟩;have d0:decide (w++10::v=[])=false:=Za0 (by simp);have w3:Unit->au .i64 ((w.length:Int)+1)=((w.length+1:Nat):Int):=λ_=>wrap64 (by omega) (by omega)
  have d1:decide (((w.length+1:Nat):Int)=0)=false:=Za0 (by omega);have l1:(w++10::v).take (w.length+1)=lf w:=by rw[show w++10::v=lf w++v by simp[lf],show w.length+1=(lf w).length by simp[lf]];exact Zk9 rfl
  have l2:(w++10::v).drop (w.length+1)=v:=by rw[show w++10::v=lf w++v by simp[lf],show w.length+1=(lf w).length by simp[lf]];exact List.drop_left' rfl
  have hle:w.length+1<=(w++10::v).length:=by simp
  rw[<-q2 k1 k2,et, <-hv,qC];simp only[aA,bf,ak,iF,d0,Zh6,bR,aeo,bg,ix,aW,fG,w3 (),cM,d1,cG,U8 hle,l1,p1,U9 hle,l2]
theorem agC(ls:List (List Nat)){V:AV}(pq:QS 1 s V (ls.map MJ))(hl:ls.length<=1000)(hw:∀w∈ls,w.length<=1000){k:Nat}(hk:k<256)(F:Nat):∀(m i f:Nat)(acc:List Nat),i+m=ls.length->m<f->acc.length<=1000*i->
  ∀k4:Q2,iq c F k4 f [.int .u8 (k:Int),x7,x8,x9,V,.str acc,.int .i64 (ls.length:Int),.int .i64 (i:Int)] s=k4 [x7,x8,x9,.str (acc++((List.range' i m).map λi=>ls.getD ((i+k) % ls.length) []).flatten)] s:=by
 intro m;induction m with
 |zero=>
  intro i f acc hi hf ha k4;obtain⟨f,rfl⟩:∃g,f=g+1:=⟨f - 1,by omega⟩
  obtain rfl:i=ls.length:=by omega
  have d:decide ((ls.length:Int)<(ls.length:Int))=false:=Za0 (by omega);rw[qz];simp only[aA,bf,b9,d,cG,List.range'_zero,Zf8,Zq7,Zf7]
 |succ m ih=>
  intro i f acc hi hf ha k4;obtain⟨f,rfl⟩:∃g,f=g+1:=⟨f - 1,by omega⟩
  have hp:0<ls.length:=by omega
  have hj:(i+k) % ls.length<ls.length:=Zi7 _ hp;obtain⟨w,BK⟩:∃w,ls[(i+k) % ls.length]? =some w:=⟨_,H4 hj⟩
  have Vc:=hw w (Zb4 BK);have hg:ls.getD ((i+k) % ls.length) []=w:=by rw[Za7,BK];rfl
  obtain⟨b,o,rd⟩:=pq.rd (λr hr=>by obtain⟨y,_,rfl⟩:=Ze3.1 hr;rfl) (r:=MJ w) (i:=(i+k) % ls.length) (by rw[Zb6,BK];rfl);have p1:=λ{R}=>@rd.st R
  have p2:∀(K:AV->St->Option (AV×St)),aj c (.load none) [.ptr b o] s K=K (.str w) s:=λK=>by have:=rd.at' 0 _ rfl;rw[Zg7]at this;rw[dG,this];rfl
  have d:decide ((i:Int)<(ls.length:Int))=true:=H5 (by omega);have ln:∀(K:AV->St->Option (AV×St)),aj c (.lenB .l) [V] s K=K (.int .i64 (ls.length:Int)) s:=λK=>by
   have:=pq.lenB (c:=c) K s
   rwa [Zb3]at this
  have wk:Unit->au .i64 (k:Int)=(k:Int):=λ_=>wrap64 (by omega) (by omega)
  have w1:Unit->au .i64 ((i:Int)+(k:Int))=((i+k:Nat):Int):=λ_=>by rw[wrap64 (by omega) (by omega)];omega
  have w2:Unit->au .i64 ((i:Int)+1)=((i+1:Nat):Int):=λ_=>wrap64 (by omega) (by omega)
  have rm:∀(K:AV->St->Option (AV×St)),aj c (.bin .rem .num) [.int .i64 ((i+k:Nat):Int),.int .i64 (ls.length:Int)] s K=K (.int .i64 (((i+k) % ls.length:Nat):Int)) s:=λK=>by rw[cg (by omega) (by omega)];rfl
  have sa:∀(K:AV->St->Option (AV×St)),aj c (.bin .add .num) [.str acc,.str w] s K=K (.str (acc++w)) s:=λK=>aH c K (λH n=>by
   have hle:acc.length+w.length<=9223372036854775807:=(by omega);simp only[av.run,fQ,jX,cI,H5 hle]) s
  have:=ih (i+1) f (acc++w) (by omega) (by omega) (by rw[Zc1];omega) k4;rw[Zl2,Zb8,Ze8,hg, <-Zg6, <-this,qz];simp only[aA,bf,b9,d,bR,ak,w6,wk (),fG,w1 (),ln,rm,p1,p2,sa,w2 ()]
end
theorem aer{gn tn:List (List Nat)}{zs:List Int}(hg:∀w∈gn,w.length<=12)(ht:∀w∈tn,w.length<=12)(g:Nat)(x:Int):(tE gn tn zs g x).length<=100:=by
 have gd:∀(l:List (List Nat))(i:Nat),(∀w∈l,w.length<=12)->(l.getD i []).length<=12:=λl i h=>by
   rw[Za7];cases e:l[i]? with
   |none=>simp
   |some w=>exact h w (Zb4 e)
 have dl:∀k,(LS k).length<=2:=λk=>by unfold LS;split<;>simp
 unfold tE;split
 .rename_i j y _;have h1:=gd gn g hg;have h2:=gd tn j ht;have h3:=dl y.toNat;simp only[Zc1,Zc5,Zg5];omega
 .simp
theorem agD{gn tn:List (List Nat)}{zs:List Int}(hg:∀w∈gn,∀x∈w,x<256)(ht:∀w∈tn,∀x∈w,x<256)(hz:∀z∈zs,z<=100)(g:Nat){x:Int}(hx:0<=x):∀b∈tE gn tn zs g x,b<256:=by
 have gd:∀(l:List (List Nat))(i:Nat),(∀w∈l,∀x∈w,x<256)->∀x∈l.getD i [],x<256:=λl i h=>by
   rw[Za7];cases e:l[i]? with
   |none=>simp
   |some w=>exact h w (Zb4 e)
 unfold tE;split
 . rename_i j y hw;obtain⟨_,y0,⟨z,hzj,aO⟩,_⟩:=Rq hx hw;have LU:=hz z (Zb4 hzj);have h1:=gd gn g hg;have h2:=gd tn j ht;intro b hb;simp only[Zd5,Zb2,Ze9,Zj8]at hb;rcases hb with(hb|hb|hb|hb)|hb|hb|hb|hb|hb
   .omega
   .omega
   .omega
   .omega
   .omega
   .exact h1 b hb
   .omega
   .exact h2 b hb
   . rcases hb with hb|hb
     .  omega
     .  unfold LS at hb;split at hb<;>simp at hb<;>omega
 .intro b hb;cases hb
section
variable{xt xg xy xr:List Nat}
theorem Vd:∀w∈(cK xt xg xy xr).gs.map (·.name),w.length<=12/\∀x∈w,x<256:=λw hw=>by
 obtain⟨g,hg,rfl⟩:=Ze3.1 hw;obtain⟨i,hi⟩:=Zc7.1 hg;obtain⟨_,rfl⟩:=yf hi;exact⟨by show(bt (uF i)).length<=12;unfold bt;simp,(Qf (uF i)).2.2.2.2⟩
theorem Ve:∀w∈(cK xt xg xy xr).ts.map (·.name),w.length<=12/\∀x∈w,x<256:=λw hw=>by
 obtain⟨g,hg,rfl⟩:=Ze3.1 hw;obtain⟨i,hi⟩:=Zc7.1 hg;obtain⟨_,rfl⟩:=oG hi;exact⟨by show(dx i).length<=12;unfold dx;simp,(Qg i).2.2.2.2⟩
end
def It(p:bX)(q:List Int):List (List Nat):=((List.range q.length).filter λi=>decide (0<=q.getD i (-1))).map λg=>tE (p.gs.map (·.name)) (p.ts.map (·.name)) (p.ts.map bH) g (q.getD g (-1))
theorem Wd(hc:bE c){xt xg xy xr:List Nat}(ht:∀x∈xt,x<256)(hg:∀x∈xg,x<65536)(hy:∀x∈xy,x<256)(hr:∀x∈xr,x<4294967296)(lt:xt.length<=9223372036854775807)(lg:xg.length<=9223372036854775807)(lr:xr.length<=9223372036854775807)(ly:xy.length<=9223372036854775807)
  (zt zg zy zr z:Bool) (xs:List Int) (hx:xs.length<=9223372036854775807) {k:Nat} (hk:k<256) (st:St) (hw:Wf st):
  c 6 [.agg (kj zt zg zy zr xt xg xy xr),ints z xs,.int .u8 (k:Int)] st=some (.bool true,st):=by
 have Qz:=aiB hc;have g1:=Grew.af hw (.cells (kj zt zg zy zr xt xg xy xr) 0);obtain⟨Vs,s2,M,P⟩:=ahQ hc ht hg hy hr lt lg lr ly zt zg zy zr _ g1.wf;obtain⟨vl,vo⟩:=P.cells;have gB:=Grew.af P.aF.wf (.cells Vs 0);have st5:∀(K:AV->St->Option (AV×St)),aj c (.store 5) [.ptr s2.next 0,.agg Vs] (af s2 (.cells [.ah,.ah,.ah,.ah,.ah] 0)) K=K .undef (af s2 (.cells Vs 0)):=λK=>eG c K s2 5 (.agg Vs) _ vl rfl vo
 have P3:=P.rI gB;have ok:=age (xg:=xg) (xy:=xy) (xr:=xr) ht;obtain⟨s4,v,Se,Mq⟩:=ad8 hc P3 (aea ht) ok.Al.ts ok.Al.gs ok.sum z xs hx;have hq:=aeb (EJ xt) (cK xt xg xy xr).gs.length xs;generalize gu (List.replicate (EJ xt) false) (BQ (Ky (EJ xt) xs) (cK xt xg xy xr).gs.length 0)=q at*
 have EI:=ok.Al.gs;have Y4:q.length<=100:=by rw[hq.len];exact EI
 have P4:=P3.rI Mq.aF;have G4:=(g1.trans P.aF).trans (gB.trans Mq.aF);have x5q:=Mq.aF.get (aE s2 (.cells Vs 0));have LU:∀t∈(cK xt xg xy xr).ts,bH t<=100:=ahV ht;have F:=aei hc Qz P4 ok LU ahT ahU Mq.own hq;have XE:(((cK xt xg xy xr).ts.map bH).sum:Int)=(EJ xt:Int):=ok.sum.symm;have hqm:∀x∈q,-1<=x/\x<((cK xt xg xy xr).ts.map bH).sum:=λx hx=>by rw[XE];exact hq.rng x hx
 have acs:∀z∈(cK xt xg xy xr).ts.map bH,z<=100:=λz hz=>by obtain⟨t,h,rfl⟩:=Ze3.1 hz;exact LU t h
 have hlr:∀w∈It (cK xt xg xy xr) q,10∉w/\w.length<=100/\∀x∈w,x<256:=λw hw=>by
  unfold It at hw;obtain⟨g,Kh,rfl⟩:=Ze3.1 hw;rw[Zm0,Zj2,Zp9]at Kh;have e:q.getD g (-1)=q[g]:=by rw[Za7,H4 Kh.1];rfl
  have hm:=hqm q[g] (Zc0 Kh.1);refine⟨?_,aer (λw h=>(Vd w h).1) (λw h=>(Ve w h).1) _ _,agD (λw h=>(Vd w h).2) (λw h=>(Ve w h).2) acs _ Kh.2⟩;exact(Rt aaM aaN acs (by simp) (by rw[Zb3, <-hq.len];exact Kh.1) Kh.2 (by rw[e];exact hm.2)).2
 have ajs:fmtQ (cK xt xg xy xr) q 0=((It (cK xt xg xy xr) q).map lf).flatten:=by have:=Vb (p:=cK xt xg xy xr) (q:=q) ok.tabs (λx hx=>(hqm x hx).2) q.length 0 (by omega);rw[Zc9, <-Zk0]at this;exact this
 have agW:∀k d,Rs ((cK xt xg xy xr).gs.map (·.name)) ((cK xt xg xy xr).ts.map (·.name)) ((cK xt xg xy xr).ts.map bH) (AQ (It (cK xt xg xy xr) q) k d) (List.replicate (cK xt xg xy xr).gs.length (-1))=some q:=λk d=>by
  have:=abq (gn:=(cK xt xg xy xr).gs.map (·.name)) (tn:=(cK xt xg xy xr).ts.map (·.name)) (zs:=(cK xt xg xy xr).ts.map bH) aaM aaN acs (by simp) (q:=q) (by rw[Zb3,hq.len]) (λi j x hi hj h0=>by
    rcases Zo2 i j with h|h|h
    .have:=hq.ap i j x h hi hj;omega
    .exact h
    .have:=hq.ap j i x h hj hi;omega) hqm k d
  rw[Zb3, <-hq.len]at this;rw[<-hq.len];exact this
 have hcnt:=adr (q:=q) (λx hx=>(hqm x hx).1);generalize hL:It (cK xt xg xy xr) q=L at*
 have hLl:L.length+q.count (-1)=q.length:=by rw[<-hL];unfold It;rw[Zb3];exact hcnt
 rw[ajs]at F;have t0:AQ L 0 []=L:=by
  by_cases h:L=[]
  .rw[h];rfl
  .rw[Nz L 0 [] h];simp
 have prs:∀T:List (List Nat),T.Perm L->Rs ((cK xt xg xy xr).gs.map (·.name)) ((cK xt xg xy xr).ts.map (·.name)) ((cK xt xg xy xr).ts.map bH) T (List.replicate (cK xt xg xy xr).gs.length (-1))=some q->
    A9 (cK xt xg xy xr) (T.map lf).flatten=(q,0,0)/\∀x∈(T.map lf).flatten,x<256:=λT hT hrd=>by
  have hTm:∀w∈T,10∉w/\w.length<=100/\∀x∈w,x<256:=λw hw=>hlr w (hT.mem_iff.1 hw)
  have hTl:T.length<=100:=by rw[hT.length_eq];omega
  have T6:=Qh T λw hw=>(hTm w hw).2.1
  refine⟨?_,λx hx=> ?_⟩
  .unfold A9;rw[Za3 (λh=>h ok.wu),Za3 (by omega)];rw[show(T.map lf).flatten=(T.map λw=>w++[10]).flatten from rfl,UB T λw hw=>(hTm w hw).1];exact UD T 0 _ q hrd
  . obtain⟨l,hl,hxl⟩:=List.mem_flatten.1 hx;obtain⟨w,hw,rfl⟩:=Ze3.1 hl;rcases Zd5.1 hxl with h|h
    .exact(hTm w hw).2.2 x h
    .rw[Zd7.1 h];omega
 have p0:=prs L (List.Perm.refl _) (by have:=agW 0 [];rwa [t0]at this);have p1:=prs (AQ L k []) (LR L k []) (agW k []);obtain⟨s6,V6,M6,L0⟩:=Zg (x2:= .int .u8 (k:Int)) (x7:= .ptr s2.next 0) (x8:=v) (x9:= .str (L.map lf).flatten) hc (L.length+2) L [] (L.length+2) s4 .ah (by omega) (Mk.start P4.aF.wf (Grew.refl P4.aF.wf)) (λw hw=>⟨(hlr w hw).1,(hlr w hw).2.1⟩) (by simp;omega);rw[Zf0]at M6;have P6:=P4.rI M6.aF;have q6:=Mq.own.aF M6.aF;have cn:=agv hc q6 (by omega) (-1);have lnV:∀(K:AV->St->Option (AV×St)),aj c (.lenB .l) [V6] s6 K=K (.int .i64 (L.length:Int)) s6:=λK=>by
  have:=M6.own.lenB (c:=c) K s6
  rwa [Zb3,Zb3]at this
 have lnq:∀(K:AV->St->Option (AV×St)),aj c (.lenB .l) [v] s6 K=K (.int .i64 (q.length:Int)) s6:=λK=>by
  have:=q6.lenB (c:=c) K s6
  rwa [Zb3]at this
 have L1:=agC (c:=c) (x7:= .ptr s2.next 0) (x8:=v) (x9:= .str (L.map lf).flatten) (L.map lf) M6.own (by rw[Zb3];omega) (λw hw=>by obtain⟨u,hu,rfl⟩:=Ze3.1 hw;have:=(hlr u hu).2.1;simp[lf];omega) hk (L.length+2) (L.map lf).length 0 (L.length+2) [] (by omega) (by rw[Zb3];omega) (by simp);have e1:((List.range' 0 (L.map lf).length).map λi=>(L.map lf).getD ((i+k) % (L.map lf).length) []).flatten=((AQ L k []).map lf).flatten:=by rw[<-Zk0, <-XF lf L k [] []];rfl
 rw[Zf0,e1,Zb3]at L1;simp only[show((0:Nat):Int)=0 from rfl]at L1;have kF:(fK (cK xt xg xy xr)).2=0->O3 (cK xt xg xy xr) (NS (cK xt xg xy xr))/\∀t∈(cK xt xg xy xr).ts,nE t=0:=λ_=>by
  have e:NS (cK xt xg xy xr)=EJ xt:=by unfold NS;have:=ok.sum;omega
  rw[e];exact⟨ok,agt ht⟩
 obtain⟨u1,s7,R1,G7,Q1⟩:=Zf hc P6 ok.Al ok.rs kF (by omega) p0.2;rw[p0.1]at R1 Q1;dsimp only at R1 Q1;have P7:=P6.rI G7;obtain⟨u2,s8,R2,G8,Q2⟩:=Zf hc P7 ok.Al ok.rs kF (by omega) p1.2;rw[p1.1]at R2 Q2;dsimp only at R2 Q2;have q8:=(q6.aF G7).aF G8;have E1:=R6 hc (Q1.aF G8) q8 (by omega);have E2:=R6 hc Q2 q8 (by omega);rw[H5 rfl]at E1 E2;have GA:=G4.trans (M6.aF.trans (G7.trans G8));have ld4:∀(K:AV->St->Option (AV×St)),aj c (.load (some 4)) [.ptr st.next 0] (af st (.cells (kj zt zg zy zr xt xg xy xr) 0)) K=K (.agg (kj zt zg zy zr xt xg xy xr)) (af st (.cells (kj zt zg zy zr xt xg xy xr) 0)):=λK=>by rw[vZ,aE];rfl
 have al:∀(K:AV->St->Option (AV×St)),aj c (.alloc [.ah,.ah,.ah,.ah,.ah]) [] s2 K=K (.ptr s2.next 0) (af s2 (.cells [.ah,.ah,.ah,.ah,.ah] 0)):=λK=>by simp
 have bx:∀(K:AV->St->Option (AV×St)),aj c .box [.agg (kj zt zg zy zr xt xg xy xr)] st K=K (.ptr st.next 0) (af st (.cells (kj zt zg zy zr xt xg xy xr) 0)):=λK=>by simp[AV.cells]
 have l5:∀(K:AV->St->Option (AV×St)),aj c (.load (some 5)) [.ptr s2.next 0] (af s2 (.cells Vs 0)) K=K (.agg Vs) (af s2 (.cells Vs 0)):=λK=>FZ (aE _ _) vl K
 have l5q:∀(K:AV->St->Option (AV×St)),aj c (.load (some 5)) [.ptr s2.next 0] s4 K=K (.agg Vs) s4:=λK=>FZ x5q vl K
 have l56:∀(K:AV->St->Option (AV×St)),aj c (.load (some 5)) [.ptr s2.next 0] s6 K=K (.agg Vs) s6:=λK=>FZ (M6.aF.get x5q) vl K
 have l57:∀(K:AV->St->Option (AV×St)),aj c (.load (some 5)) [.ptr s2.next 0] s7 K=K (.agg Vs) s7:=λK=>FZ (G7.get (M6.aF.get x5q)) vl K
 have ws:Unit->au .i64 ((q.length:Int) - ((q.count (-1):Nat):Int))=(L.length:Int):=λ_=>by rw[wrap64 (by omega) (by omega)];omega
 rw[Ct hc (L.length+2) (r:=(.bool true,s8)),aD (Plain.bool _) GA.keeps];rw[EU];rw[bx,ak,ld4,bg,M,aW,al,st5,l5,ak,bg,Se,aW,ak,l5q,ak,bg,F,aW,ak,ak,ak,ak,L0];simp only[aA,bf,ak,lnV,lnq,bg,cn,aW,SC,ws (),ji,Zg2,Ze1,cG,L1,l56,R1,HU,MH,MI,l57,R2,cM,show((0:Nat):Int)=0 from rfl,Zg2,dJ,j6,E1,E2,adK hc]
end
end Go.Proofs.YtgjikjcfjddloaaGreatDoor
namespace Go.Proofs.YtgjikjcfjddloaaGreatDoor.Bj
section
open Go
theorem k1:(Rows.planRoundRow.inPlace==Tryz.pinned.checked.prog.inPlace 6)=true:=by kernel_rfl
theorem k2:(Rows.planRoundRow.unfollowed==Tryz.pinned.checked.prog.unfollowed 6)=true:=by kernel_rfl
theorem k3:(Rows.planRoundRow.recurses==Tryz.pinned.checked.prog.recurses 6)=true:=by kernel_rfl
theorem k4:(Rows.planRoundRow.named==Tryz.pinned.checked.prog.varsNamed 6)=true:=by kernel_rfl
theorem k5:laidOutB Tryz.pinned.checked.prog=true:=by kernel_rfl
theorem k6:mapsRowed Tryz.pinned.checked.prog=true:=by kernel_rfl
theorem k7:(Rows.planRoundRow.plainKeys==Tryz.pinned.checked.prog.plainKeys)=true:=by kernel_rfl
theorem closed:joinedFacts Tryz.pinned.checked.prog 6 Tryz.f6 (OpenSpec.ofChange Rows.planRoundSpec).bare Rows.planRoundRow=true:=by
 unfold joinedFacts;rw[k1,k2,k3,k4,k5,k6,k7]
 kernel_rfl
end
end Go.Proofs.YtgjikjcfjddloaaGreatDoor.Bj
