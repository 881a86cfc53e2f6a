/- The law. -/
import Derived.Test.YtngcejgciomphaaGreatDoorNPins
import Derived.Shelf.Sort.Plain
import Derived.Shelf.Slices.CompactI
import Derived.Shelf.Slices.In.SortNone
import Derived.Test.YtngcejgciomphaaGreatDoorRows
import Derived.Deep.DeepHandedRow
set_option linter.all false
set_option maxRecDepth 100000
set_option maxHeartbeats 4000000
namespace Go.Proofs.YtngcejgciomphaaGreatDoor
noncomputable section
open Go Go.Ai Go.Proofs
attribute [local go_sem ↓] bl su ev XB Bv getLT y8 Lv Sa wS wT It E6 E7 E8 Bw Bx By Bz BA BB E9 Fa BC BD BE BF BG Ku Kv Kw
attribute [local go_sem] bl su ev
section
variable(c:aq)(F:Nat)(x0 x1 x2 x3 x4 x5 x6 x7 x8 x9 Fb Fc:AV)(s:St)
def dU:Sh:=(sq sl (sq (sq sl (sc (sq sl sl) sl)) (sq (sq sl (sc (sq sl sl) sl)) (sq sl (sq sl (sq (sq sl (sc (sq sl sl) sl)) (sq (sq sl (sb (sp 0 [2,5,6,7] [(1,[4]),(2,[2,5,6])] (sq (sq sl (sc sl sl)) (sq (sb (sq sl (sc (sq sl sl) sl))) sl))))) (sq (sq sl (sb (sp 1 [2,5,6,8] [(1,[4]),(4,[2,5,6])] (sq (sq sl (sc sl sl)) (sq (sb (sq sl (sc (sq sl sl) sl))) sl))))) (sq (sq sl (sb (sp 2 [2,5,6,9] [(6,[2,5,6])] (sq (sq sl (sc sl sl)) (sq (sb (sq sl (sq sl (sb (sp 3 [2,5,6,9,10] [(8,[2,5,6,9])] (sq (sq sl (sc sl sl)) (sq (sb sl) sl))))))) sl))))) (sq (sq sl (sb (sp 4 [2,5,6,11] [(10,[2,5])] (sq (sq sl (sc sl sl)) (sq (sb (sq (sq sl (sb (sp 5 [2,5,6,11,12] [(12,[2,5,6,11])] (sq (sq sl (sc sl sl)) (sq (sb sl) sl))))) sl)) sl))))) (sq sl sl)))))))))))
def xZ:PX 3 dU:=⟨_,by conv=>lhs;reduce⟩
def wV:PL 3 dU 5:=⟨_,by conv=>lhs;reduce⟩
def fR(Ky:Q2):Nat->Q2
 |0,_,_=>none
 |n+1,vs,s=>cS c F bn (fR Ky n) [Ky] wV.1 vs s
def ua(Ky:Q2)(n:Nat)(vs:List AV)(s:St):=(by dsimp only[fR,wV,go_sem,Int.reduceOfNat,Int.reduceNegSucc]:fR c F Ky (n+1) vs s=_)
def wW:Un->List Q2->Nat->Q2
 |(.s (.s (.s (.s (.s .z))))),[Ky]=>fR c F Ky
 |_,_=>λ_=>dQ
def wX:PL 3 dU 4:=⟨_,by conv=>lhs;reduce⟩
def iL(wY:Q2):Nat->Q2
 |0,_,_=>none
 |n+1,vs,s=>cS c F (wW c F) (iL wY n) [wY] wX.1 vs s
def ud(wY:Q2)(n:Nat)(vs:List AV)(s:St):=(by dsimp only[iL,wX, ↓wW,go_sem,Int.reduceOfNat,Int.reduceNegSucc]:iL c F wY (n+1) vs s=_)
def wZ:PL 3 dU 3:=⟨_,by conv=>lhs;reduce⟩
def fS(k8:Q2):Nat->Q2
 |0,_,_=>none
 |n+1,vs,s=>cS c F bn (fS k8 n) [k8] wZ.1 vs s
def ue(k8:Q2)(n:Nat)(vs:List AV)(s:St):=(by dsimp only[fS,wZ,go_sem,Int.reduceOfNat,Int.reduceNegSucc]:fS c F k8 (n+1) vs s=_)
def w8:Un->List Q2->Nat->Q2
 |(.s (.s (.s .z))),[k8]=>fS c F k8
 |_,_=>λ_=>dQ
def w9:PL 3 dU 2:=⟨_,by conv=>lhs;reduce⟩
def iM(k6:Q2):Nat->Q2
 |0,_,_=>none
 |n+1,vs,s=>cS c F (w8 c F) (iM k6 n) [k6] w9.1 vs s
def uf(k6:Q2)(n:Nat)(vs:List AV)(s:St):=(by dsimp only[iM,w9, ↓w8,go_sem,Int.reduceOfNat,Int.reduceNegSucc]:iM c F k6 (n+1) vs s=_)
def xe:PL 3 dU 1:=⟨_,by conv=>lhs;reduce⟩
def iN(k1 k4:Q2):Nat->Q2
 |0,_,_=>none
 |n+1,vs,s=>cS c F bn (iN k1 k4 n) [k1,k4] xe.1 vs s
def ug(k1 k4:Q2)(n:Nat)(vs:List AV)(s:St):=(by dsimp only[iN,xe,go_sem,Int.reduceOfNat,Int.reduceNegSucc]:iN c F k1 k4 (n+1) vs s=_)
def xj:PL 3 dU 0:=⟨_,by conv=>lhs;reduce⟩
def iO(k1 k2:Q2):Nat->Q2
 |0,_,_=>none
 |n+1,vs,s=>cS c F bn (iO k1 k2 n) [k1,k2] xj.1 vs s
def uh(k1 k2:Q2)(n:Nat)(vs:List AV)(s:St):=(by dsimp only[iO,xj,go_sem,Int.reduceOfNat,Int.reduceNegSucc]:iO c F k1 k2 (n+1) vs s=_)
def pL:Un->List Q2->Nat->Q2
 |.z,[k1,k2]=>iO c F k1 k2
 |(.s .z),[k1,k4]=>iN c F k1 k4
 |(.s (.s .z)),[k6]=>iM c F k6
 |(.s (.s (.s .z))),[k8]=>fS c F k8
 |(.s (.s (.s (.s .z)))),[wY]=>iL c F wY
 |(.s (.s (.s (.s (.s .z))))),[Ky]=>fR c F Ky
 |_,_=>λ_=>dQ
def ry:O2:=bl c F (pL c F) xZ.1 [x0,x1] s
def pM:=(by dsimp only[ry,xZ, ↓pL,go_sem,Int.reduceOfNat,Int.reduceNegSucc]:ry c F x0 x1 s=_)
end
section
variable{c:aq}(hc:jq c)(F:Nat){x0 x1 x2 x3 x4 x5 x6 x7 x8 x9 Fb Fc:AV}{s:St}{r:AV×St}
include hc
theorem nV(h:ry c F x0 x1 s=some r):c 3 [x0,x1] s=some (tidy s r):=hc.oL F (pL c F) dU 6 (by kernel_rfl) (λi hi=>match i,hi with|0,_=>cq 0 (by kernel_rfl) (λ_ _ _=>by kernel_rfl) (λ_ _ _ _=>by kernel_rfl)|1,_=>cq 1 (by kernel_rfl) (λ_ _ _=>by kernel_rfl) (λ_ _ _ _=>by kernel_rfl)|2,_=>cq 2 (by kernel_rfl) (λ_ _ _=>by kernel_rfl) (λ_ _ _ _=>by kernel_rfl)|3,_=>cq 3 (by kernel_rfl) (λ_ _ _=>by kernel_rfl) (λ_ _ _ _=>by kernel_rfl)|4,_=>cq 4 (by kernel_rfl) (λ_ _ _=>by kernel_rfl) (λ_ _ _ _=>by kernel_rfl)|5,_=>cq 5 (by kernel_rfl) (λ_ _ _=>by kernel_rfl) (λ_ _ _ _=>by kernel_rfl)|n+6,h=>absurd h (by omega)) (by kernel_rfl) h
end
end
section
open Go Go.Ai Go.Proofs
variable{c:aq}
structure OV(V:AV)(b:Pos)(es n:Nat):Prop where
 len:∀(c:aq)(K:AV->St->Option (AV×St))(s:St),aj c (.lenB .l) [V] s K=K (.int .i64 (n:Int)) s
 idx:∀(c:aq)(i:Nat),i<n->∀(K:AV->St->Option (AV×St))(s:St),aj c (.idxA es none) [V,.int .i64 (i:Int)] s K=K (.ptr b (i*es)) s
theorem BH{es:Nat}:∀(rows:List (List AV)),(∀r∈rows,r.length=es)->rows.flatten.length=rows.length*es
 |[],_=>by simp
 |r::rows,h=>by
  rw[Ze9,Zc9,BH rows λq hq=>h q (Za8 _ hq),h r (by simp),Zc2,Zj0,Zm7,Zq9]
theorem HP{es:Nat}:∀(rows:List (List AV)),(∀r∈rows,r.length=es)->∀(i o:Nat)(r:List AV),rows[i]? =some r->o<es->rows.flatten[i*es+o]? =r[o]?
 |[],_,i,o,r,hr,_=>by simp at hr
 |a::rows,h,0,o,r,hr,ho=>by
  simp only[Zb0,H0]at hr;subst hr;rw[Ze9,Zn2,Za5,Zd9 (by rw[h a (by simp)];exact ho)]
 |a::rows,h,i+1,o,r,hr,ho=>by rw[Zb3]at hr;have ha:=h a (by simp);rw[Ze9,Zd6 (by rw[ha,Zj0];omega),ha,show(i+1)*es+o - es=i*es+o by rw[Zj0];omega];exact HP rows (λq hq=>h q (Za8 _ hq)) i o r hr ho
theorem OV.of{es:Nat}{s s':St}{V:AV}{rows:List (List AV)}(M:Mk es s s' V rows):∃b,OV V b es rows.length/\(0<rows.length->s.next.toNat<=b.toNat/\b.toNat<s'.next.toNat/\bN V=some b/\s'.heap.get b=some (.cells rows.flatten 0)):=by
 have ln:=λ(c:aq)(K:AV->St->Option (AV×St))(s:St)=>M.own.lenB (c:=c) K s
 rcases M.own with⟨rfl,e⟩|⟨b,off,cap,cs,rfl,g1,g2,g3,g4⟩|⟨b,off,rfl,e⟩
 .have h0:rows.length=0:=(by rw[e];rfl);exact⟨.h,⟨ln,λc i h=>by omega⟩,λh=>by omega⟩
 . by_cases h0:rows.length=0
   .exact⟨b,⟨ln,λc i h=>by omega⟩,λh=>by omega⟩
   . have VK:cap=none:=by
        rcases M.cap _ _ _ _ _ rfl with h|⟨h,_⟩
        .exact h
        .exact absurd h h0
     subst VK;have ho:=iE b off rows.length es;have tb:=M.tight b ho;rw[g1]at tb;simp only[H0,AB.cells.injEq,Zm4]at tb;have hf:=BH rows M.row;have o0:off=0:=(by rw[tb,hf]at g2;omega);subst o0;refine⟨b,⟨ln,λc i hi K s=> ?_⟩,λ_=>⟨M.new b ho,M.aA.wf _ _ g1,ho,M.tight b ho⟩⟩;have:=xX c K s (b:=b) (off:=0) (len:=rows.length) (es:=es) (es':=es) (cap:=none) (k:= .i64) (i:=i) hi
     rwa [Za5]at this
 .have h0:rows.length=0:=(by rw[e];rfl);exact⟨b,⟨ln,λc i h=>by omega⟩,λh=>by omega⟩
section
variable{sB:St}{q6 bg bt:Pos}{Us:List AV}{ng nt:Nat}
def U7(sB t:St)(q6 bg bt:Pos)(ng nt:Nat)(v:AV):Prop:=∃b n,OV v b 1 n/\n<=1000/\(0<n->sB.next.toNat<=b.toNat/\b≠q6/\(0<ng->b≠bg)/\(0<nt->b≠bt)/\∃cs,t.heap.get b=some (.cells cs 0)/\cs.length=n)
structure OI(sB t:St)(q6:Pos)(Us:List AV)(bg bt:Pos)(ng nt:Nat):Prop where
 gr:Grew sB t
 c6:t.heap.get q6=some (.cells Us 0)
 g:0<ng->sB.next.toNat<=bg.toNat/\bg≠q6/\∃cs,t.heap.get bg=some (.cells cs 0)/\cs.length=ng*9/\∀i,i<ng->∃v,cs[i*9+8]? =some v/\U7 sB t q6 bg bt ng nt v
 t:0<nt->sB.next.toNat<=bt.toNat/\bt≠q6/\∃cs,t.heap.get bt=some (.cells cs 0)/\cs.length=nt*7/\∀i,i<nt->∃v,cs[i*7+4]? =some v/\U7 sB t q6 bg bt ng nt v
 ne:0<ng->0<nt->bg≠bt
theorem U7.put{t:St}{v:AV}(h:U7 sB t q6 bg bt ng nt v){b:Pos}{cs cs':List AV}(hb:t.heap.get b=some (.cells cs 0))(hl:cs'.length=cs.length):U7 sB (bI t b (.cells cs' 0)) q6 bg bt ng nt v:=by
 obtain⟨b1,n,h1,h2,h3⟩:=h;refine⟨b1,n,h1,h2,λhn=> ?_⟩;obtain⟨a1,a2,a3,a4,ds,a5,a6⟩:=h3 hn;by_cases e:b=b1
 .subst e;rw[hb]at a5;simp only[H0,AB.cells.injEq,Zm4]at a5;subst a5;exact⟨a1,a2,a3,a4,cs',cW _ _ _,hl.trans a6⟩
 .exact⟨a1,a2,a3,a4,ds,by rw[aO e];exact a5,a6⟩
theorem OI.put{t:St}(w0:Wf sB)(I:OI sB t q6 Us bg bt ng nt){b:Pos}{cs cs':List AV}(hb:t.heap.get b=some (.cells cs 0))(hl:cs'.length=cs.length)(hs:sB.next.toNat<=b.toNat)(h6:b≠q6)
   (hg:b=bg->0<ng->∀i,i<ng->cs'[i*9+8]? =cs[i*9+8]?) (ht:b=bt->0<nt->∀i,i<nt->cs'[i*7+4]? =cs[i*7+4]?):OI sB (bI t b (.cells cs' 0)) q6 Us bg bt ng nt where
 gr:=⟨jI I.gr.wf (I.gr.wf _ _ hb),λq x hq=>by have:=w0 _ _ hq;rw[aO (λe=>by rw[e]at hs;omega)];exact I.gr.get hq,by rw[eB];exact I.gr.next⟩
 c6:=by rw[aO h6];exact I.c6
 g h :=by
   obtain⟨a1,a2,ds,a3,a4,a5⟩:=I.g h;by_cases e:b=bg
   .subst e;rw[hb]at a3;simp only[H0,AB.cells.injEq,Zm4]at a3;subst a3;refine⟨a1,a2,cs',cW _ _ _,hl.trans a4,λi hi=> ?_⟩;obtain⟨v,b1,b2⟩:=a5 i hi;exact⟨v,(hg rfl h i hi).trans b1,b2.put hb hl⟩
   .refine⟨a1,a2,ds,by rw[aO e];exact a3,a4,λi hi=> ?_⟩;obtain⟨v,b1,b2⟩:=a5 i hi;exact⟨v,b1,b2.put hb hl⟩
 t h :=by
   obtain⟨a1,a2,ds,a3,a4,a5⟩:=I.t h;by_cases e:b=bt
   .subst e;rw[hb]at a3;simp only[H0,AB.cells.injEq,Zm4]at a3;subst a3;refine⟨a1,a2,cs',cW _ _ _,hl.trans a4,λi hi=> ?_⟩;obtain⟨v,b1,b2⟩:=a5 i hi;exact⟨v,(ht rfl h i hi).trans b1,b2.put hb hl⟩
   .refine⟨a1,a2,ds,by rw[aO e];exact a3,a4,λi hi=> ?_⟩;obtain⟨v,b1,b2⟩:=a5 i hi;exact⟨v,b1,b2.put hb hl⟩
 ne:=I.ne
theorem XE{t:St}{b:Pos}{cs:List AV}(hb:t.heap.get b=some (.cells cs 0)){o:Nat}(ho:o<cs.length){v:AV}(h1:v.cells=[v])(h2:AV.one v=true)(K:AV->St->Option (AV×St)):aj c (.store 1) [.ptr b o,v] t K=K .undef (bI t b (.cells (cs.set o v) 0)):=Ex (c:=c) K hb ho h1 h2
theorem alb(w0:Wf sB){V1:AV}(hU:Us[1]? =some V1)(hV:OV V1 bg 9 ng){i:Nat}(hi:i<ng){cs:List AV}{v:AV}{b:Pos}{n:Nat}(hcv:cs[i*9+8]? =some v)(hv:OV v b 1 n)(hn:n<=1000)(hb:0<n->sB.next.toNat<=b.toNat/\b≠q6/\b≠bg/\(0<nt->b≠bt))(x2 x5:AV)(F:Nat):
  ∀(m k f:Nat)(t:St),k+m=n->m<f->OI sB t q6 Us bg bt ng nt->t.heap.get bg=some (.cells cs 0)->(0<n->∃ds,t.heap.get b=some (.cells ds 0)/\ds.length=n)->∃t',OI sB t' q6 Us bg bt ng nt/\
   ∀k8:Q2,fS c F k8 f [x2,x5,.ptr q6 0,.int .i64 (i:Int),.int .i64 (k:Int)] t=k8 [x2,x5,.ptr q6 0,.int .i64 (i:Int)] t':=by
 intro m;induction m with
 |zero=>
  intro k f t hk hf I hc hd;obtain⟨f,rfl⟩:∃g,f=g+1:=⟨f - 1,by omega⟩
  obtain rfl:k=n:=by omega
  have c6:=I.c6;refine⟨t,I,λk8=> ?_⟩;rw[ue];simp only[au,ay,ai,aG,Za5,aN,c6,hc,ak,Za2,hU,aD,hV.idx c i hi,hcv,hv.len c,aE,Zg1,Zf6,aX]
 |succ m ih=>
  intro k f t hk hf I hc hd;obtain⟨f,rfl⟩:∃g,f=g+1:=⟨f - 1,by omega⟩
  have hkn:k<n:=by omega
  obtain⟨b1,b2,b3,b4⟩:=hb (by omega);obtain⟨ds,d1,d2⟩:=hd (by omega);have c6:=I.c6;have aW:decide ((k:Int)<(n:Int))=true:=Za1 (by omega);have wr:Unit->az .i64 ((k:Int)+1)=((k+1:Nat):Int):=λ_=>by rw[wrap64 (by omega) (by omega)];omega
  have st:=λ(K:AV->St->Option (AV×St))=>XE (c:=c) d1 (o:=k*1) (by omega) (v:= .str [120]) rfl rfl K
  have I1:=I.put w0 d1 (cs':=ds.set (k*1) (.str [120])) (Zf9 ..) b1 b2 (λe=>absurd e b3) (λe h=>absurd e (b4 h));obtain⟨t',z1,z2⟩:=ih (k+1) f _ (by omega) (by omega) I1 (by rw[aO b3];exact hc) (λ_=>⟨_,cW _ _ _,by rw[Zf9];exact d2⟩);refine⟨t',z1,λk8=> ?_⟩;rw[<-z2 k8,ue];simp only[au,ay,ai,aG,Za5,aN,c6,hc,ak,Za2,hU,aD,hV.idx c i hi,hcv,hv.len c,aE,aW,bk,hv.idx c k hkn,st,bw,wr ()]
theorem alc(w0:Wf sB){V1:AV}(hU:Us[1]? =some V1)(hV:OV V1 bg 9 ng)(hng:ng<=1000)(x2 x5:AV)(F:Nat)(hF:1001<F):
  ∀(m i f:Nat)(t:St),i+m=ng->m<f->OI sB t q6 Us bg bt ng nt->∃t',OI sB t' q6 Us bg bt ng nt/\
   ∀k6:Q2,iM c F k6 f [x2,x5,.ptr q6 0,.int .i64 (i:Int)] t=k6 [x2,x5,.ptr q6 0] t':=by
 intro m;induction m with
 |zero=>
  intro i f t hi hf I;obtain⟨f,rfl⟩:∃g,f=g+1:=⟨f - 1,by omega⟩
  obtain rfl:i=ng:=by omega
  have c6:=I.c6;refine⟨t,I,λk6=> ?_⟩;rw[uf];simp only[au,ay,ai,aG,Za5,aN,c6,ak,Za2,hU,aD,hV.len c,aE,Zg1,Zf6,aX]
 |succ m ih=>
  intro i f t hi hf I;obtain⟨f,rfl⟩:∃g,f=g+1:=⟨f - 1,by omega⟩
  have rV:i<ng:=by omega
  have c6:=I.c6;have aW:decide ((i:Int)<(ng:Int))=true:=Za1 (by omega);have wr:Unit->az .i64 ((i:Int)+1)=((i+1:Nat):Int):=λ_=>by rw[wrap64 (by omega) (by omega)];omega
  obtain⟨a1,a2,cs,a3,a4,a5⟩:=I.g (by omega);have st:=λ(K:AV->St->Option (AV×St))=>XE (c:=c) a3 (o:=i*9) (by omega) (v:= .str [120]) rfl rfl K
  have I1:=I.put w0 a3 (cs':=cs.set (i*9) (.str [120])) (Zf9 ..) a1 a2 (λ_ _ j hj=>Zg2 (by omega)) (λe h=>absurd e (I.ne (by omega) h));obtain⟨b1,b2,cs1,b3,b4,b5⟩:=I1.g (by omega);obtain⟨v,v1,b,n,v2,v3,v4⟩:=b5 i rV;obtain⟨t1,I2,y⟩:=alb (c:=c) w0 hU hV rV v1 v2 v3 (λh=>⟨(v4 h).1,(v4 h).2.1,(v4 h).2.2.1 (by omega),(v4 h).2.2.2.1⟩) x2 x5 F n 0 F _ (Za5 _) (by omega) I1 b3 (λh=>(v4 h).2.2.2.2);simp only[show((0:Nat):Int)=0 from rfl]at y;obtain⟨t',z1,z2⟩:=ih (i+1) f t1 (by omega) (by omega) I2;refine⟨t',z1,λk6=> ?_⟩;rw[<-z2 k6,uf];simp only[au,ay,ai,aG,Za5,Zl0,aN,c6,ak,Za2,hU,aD,hV.len c,aE,aW,bk,hV.idx c i rV,st,y,bw,wr ()]
theorem ald(w0:Wf sB){V0:AV}(hU:Us[0]? =some V0)(hV:OV V0 bt 7 nt){i:Nat}(hi:i<nt){cs:List AV}{v:AV}{b:Pos}{n:Nat}(hcv:cs[i*7+4]? =some v)(hv:OV v b 1 n)(hn:n<=1000)(hb:0<n->sB.next.toNat<=b.toNat/\b≠q6/\(0<ng->b≠bg)/\b≠bt)(x2 x5:AV)(F:Nat):
  ∀(m k f:Nat)(t:St),k+m=n->m<f->OI sB t q6 Us bg bt ng nt->t.heap.get bt=some (.cells cs 0)->(0<n->∃ds,t.heap.get b=some (.cells ds 0)/\ds.length=n)->∃t',OI sB t' q6 Us bg bt ng nt/\t'.heap.get bt=some (.cells cs 0)/\
   ∀Ky:Q2,fR c F Ky f [x2,x5,.ptr q6 0,.int .i64 (i:Int),.int .i64 (k:Int)] t=Ky [x2,x5,.ptr q6 0,.int .i64 (i:Int)] t':=by
 intro m;induction m with
 |zero=>
  intro k f t hk hf I hc hd;obtain⟨f,rfl⟩:∃g,f=g+1:=⟨f - 1,by omega⟩
  obtain rfl:k=n:=by omega
  have c6:=I.c6;refine⟨t,I,hc,λKy=> ?_⟩;rw[ua];simp only[au,ay,ai,aG,Za5,aN,c6,hc,ak,Za2,hU,aD,hV.idx c i hi,hcv,hv.len c,aE,Zg1,Zf6,aX]
 |succ m ih=>
  intro k f t hk hf I hc hd;obtain⟨f,rfl⟩:∃g,f=g+1:=⟨f - 1,by omega⟩
  have hkn:k<n:=by omega
  obtain⟨b1,b2,b3,b4⟩:=hb (by omega);obtain⟨ds,d1,d2⟩:=hd (by omega);have c6:=I.c6;have aW:decide ((k:Int)<(n:Int))=true:=Za1 (by omega);have wr:Unit->az .i64 ((k:Int)+1)=((k+1:Nat):Int):=λ_=>by rw[wrap64 (by omega) (by omega)];omega
  have st:=λ(K:AV->St->Option (AV×St))=>XE (c:=c) d1 (o:=k*1) (by omega) (v:= .int .i64 (-1)) rfl rfl K
  have I1:=I.put w0 d1 (cs':=ds.set (k*1) (.int .i64 (-1))) (Zf9 ..) b1 b2 (λe h=>absurd e (b3 h)) (λe=>absurd e b4);obtain⟨t',z1,z0,z2⟩:=ih (k+1) f _ (by omega) (by omega) I1 (by rw[aO b4];exact hc) (λ_=>⟨_,cW _ _ _,by rw[Zf9];exact d2⟩);refine⟨t',z1,z0,λKy=> ?_⟩;rw[<-z2 Ky,ua];simp only[au,ay,ai,aG,Za5,aN,c6,hc,ak,Za2,hU,aD,hV.idx c i hi,hcv,hv.len c,aE,aW,bk,hv.idx c k hkn,st,bw,wr ()]
theorem ale(w0:Wf sB){V0:AV}(hU:Us[0]? =some V0)(hV:OV V0 bt 7 nt)(hnt:nt<=1000)(x2 x5:AV)(F:Nat)(hF:1001<F):
  ∀(m i f:Nat)(t:St),i+m=nt->m<f->OI sB t q6 Us bg bt ng nt->∃t',OI sB t' q6 Us bg bt ng nt/\
   ∀wY:Q2,iL c F wY f [x2,x5,.ptr q6 0,.int .i64 (i:Int)] t=wY [x2,x5] t':=by
 intro m;induction m with
 |zero=>
  intro i f t hi hf I;obtain⟨f,rfl⟩:∃g,f=g+1:=⟨f - 1,by omega⟩
  obtain rfl:i=nt:=by omega
  have c6:=I.c6;refine⟨t,I,λwY=> ?_⟩;rw[ud];simp only[au,ay,ai,aG,Za5,aN,c6,ak,Za2,hU,aD,hV.len c,aE,Zg1,Zf6,aX]
 |succ m ih=>
  intro i f t hi hf I;obtain⟨f,rfl⟩:∃g,f=g+1:=⟨f - 1,by omega⟩
  have rV:i<nt:=by omega
  have c6:=I.c6;have aW:decide ((i:Int)<(nt:Int))=true:=Za1 (by omega);have wr:Unit->az .i64 ((i:Int)+1)=((i+1:Nat):Int):=λ_=>by rw[wrap64 (by omega) (by omega)];omega
  obtain⟨a1,a2,cs,a3,a4,a5⟩:=I.t (by omega);obtain⟨v,v1,b,n,v2,v3,v4⟩:=a5 i rV;obtain⟨t1,I1,hc1,y⟩:=ald (c:=c) w0 hU hV rV v1 v2 v3 (λh=>⟨(v4 h).1,(v4 h).2.1,(v4 h).2.2.1,(v4 h).2.2.2.1 (by omega)⟩) x2 x5 F n 0 F _ (Za5 _) (by omega) I a3 (λh=>(v4 h).2.2.2.2);simp only[show((0:Nat):Int)=0 from rfl]at y;have d6:=I1.c6;have st:=λ(K:AV->St->Option (AV×St))=>XE (c:=c) hc1 (o:=i*7) (by omega) (v:= .str [120]) rfl rfl K
  have I2:=I1.put w0 hc1 (cs':=cs.set (i*7) (.str [120])) (Zf9 ..) a1 a2 (λe h=>absurd e (I.ne h (by omega)).symm) (λ_ _ j hj=>Zg2 (by omega));obtain⟨t',z1,z2⟩:=ih (i+1) f _ (by omega) (by omega) I2;refine⟨t',z1,λwY=> ?_⟩;rw[<-z2 wY,ud];simp only[au,ay,ai,aG,Za5,Zl0,aN,c6,d6,ak,Za2,hU,aD,hV.len c,aE,aW,bk,y,hV.idx c i rV,st,bw,wr ()]
end
theorem ai6(l:List (List Nat)):∀x∈(l.map sN).flatten,∃w,x= .str w:=λx hx=>by
 obtain⟨r,hr,hx⟩:=Zq8.1 hx;obtain⟨w,_,rfl⟩:=Zd0.1 hr;exact⟨w,Zf1.1 hx⟩
theorem ai7(l:List Int):∀x∈(l.map dK).flatten,∃w,x= .int .i64 w:=λx hx=>by
 obtain⟨r,hr,hx⟩:=Zq8.1 hx;obtain⟨w,_,rfl⟩:=Zd0.1 hr;exact⟨w,Zf1.1 hx⟩
theorem OQ{t:St}{b b':Pos}{x y:List AV}(h:t.heap.get b=some (.cells x 0))(h':t.heap.get b'=some (.cells y 0))(e:b=b'):x=y:=by subst e;rw[h]at h';simpa using h'
theorem PS.grow{s0 s s':St}{Vs:List AV}{p:aP}(w0:Wf s0)(h:PS s0 s Vs p)(g:Grew s s'):PS s0 s' Vs p:=h.kZ w0 (Grew.refl w0) (h.aA.trans g) λ_ _ _ hx=>g.get hx
theorem OI.of{s s':St}{Us:List AV}{q:aP}(P:PS s s' Us q)(htg:∀g∈q.gs,g.tg.length<=1000)(hop:∀t∈q.ts,t.cD.length<=1000):
   ∃V0 V1 bg bt,Us[0]? =some V0/\Us[1]? =some V1/\OV V0 bt 7 q.ts.length/\OV V1 bg 9 q.gs.length/\OI s (ah s' (.cells Us 0)) s'.next Us bg bt q.gs.length q.ts.length:=by
 obtain⟨V0,V1,V2,V3,V4,r1,r2,rfl,h1,h2,h3,h4,h5⟩:=P.all;have G:=Grew.ah P.aA.wf (.cells [V0,V1,V2,V3,V4] 0);obtain⟨bt,ot,kt⟩:=OV.of h1.out;obtain⟨bg,og,kg⟩:=OV.of h2.out;rw[h1.len]at ot kt;rw[h2.len]at og kg;have tab:∀(i:Nat),i<q.ts.length->∃v t,t∈q.ts/\r1[i]? =some (t.aM v)/\Mk 1 s s' v (t.cD.map dK)/\∀b,bN v=some b->bN V0≠some b:=λi hi=>by
   have Ge:i<r1.length:=(by rw[h1.len];exact hi);obtain⟨v,e,M,n⟩:=h1.Aa i _ _ (Za0 hi) (Za0 Ge);exact⟨v,_,Zc0 hi,by rw[Za0 Ge,e],M,n⟩
 have bT:∀(i:Nat),i<q.gs.length->∃v g,g∈q.gs/\r2[i]? =some (g.aM v)/\Mk 1 s s' v (g.tg.map sN)/\∀b,bN v=some b->bN V1≠some b:=λi hi=>by
   have Ge:i<r2.length:=(by rw[h2.len];exact hi);obtain⟨v,e,M,n⟩:=h2.Aa i _ _ (Za0 hi) (Za0 Ge);exact⟨v,_,Zc0 hi,by rw[Za0 Ge,e],M,n⟩
 have t1:0<q.ts.length->∃z,r1.flatten[1]? =some (.int .u8 z):=λh=>by
   obtain⟨v,t,_,e,_⟩:=tab 0 h;have:=HP r1 h1.out.row 0 1 _ e (by decide);exact⟨t.sh,this⟩
 have g0:0<q.gs.length->∃z,r2.flatten[0]? =some (.str z):=λh=>by
   obtain⟨v,t,_,e,_⟩:=bT 0 h;have:=HP r2 h2.out.row 0 0 _ e (by decide);exact⟨t.name,this⟩
 have g1:0<q.gs.length->∃z,r2.flatten[1]? =some (.str z):=λh=>by
   obtain⟨v,t,_,e,_⟩:=bT 0 h;have:=HP r2 h2.out.row 0 1 _ e (by decide);exact⟨t.oQ,this⟩
 have inT:∀(t:aH)(v:AV),t∈q.ts->Mk 1 s s' v (t.cD.map dK)->(∀b,bN v=some b->bN V0≠some b)->U7 s (ah s' (.cells [V0,V1,V2,V3,V4] 0)) s'.next bg bt q.gs.length q.ts.length v:=λt v ht M cA=>by
   obtain⟨b,ov,kb⟩:=OV.of M;rw[Zb9]at ov kb;refine⟨b,_,ov,hop t ht,λh0=> ?_⟩;obtain⟨a1,a2,a3,a4⟩:=kb h0;refine⟨a1,λe=>by rw[e]at a2;omega,λhg e=> ?_,λht e=> ?_,_,G.get a4,by rw[BH (es:=1) _ (λr hr=>by obtain⟨x,_,rfl⟩:=Zd0.1 hr;rfl),Zb9,Zp0]⟩
   .have ec:=OQ a4 (kg hg).2.2.2 e;obtain⟨z,hz⟩:=g0 hg;rw[<-ec]at hz;obtain⟨w,hw⟩:=ai7 _ _ (Zf2 hz);cases hw
   .have:=(kt ht).2.2.1;exact cA b a3 (by rw[this,e])
 have inG:∀(g:aS)(v:AV),g∈q.gs->Mk 1 s s' v (g.tg.map sN)->(∀b,bN v=some b->bN V1≠some b)->U7 s (ah s' (.cells [V0,V1,V2,V3,V4] 0)) s'.next bg bt q.gs.length q.ts.length v:=λg v hg M cA=>by
   obtain⟨b,ov,kb⟩:=OV.of M;rw[Zb9]at ov kb;refine⟨b,_,ov,htg g hg,λh0=> ?_⟩;obtain⟨a1,a2,a3,a4⟩:=kb h0;refine⟨a1,λe=>by rw[e]at a2;omega,λhg e=> ?_,λht e=> ?_,_,G.get a4,by rw[BH (es:=1) _ (λr hr=>by obtain⟨x,_,rfl⟩:=Zd0.1 hr;rfl),Zb9,Zp0]⟩
   .have:=(kg hg).2.2.1;exact cA b a3 (by rw[this,e])
   .have ec:=OQ a4 (kt ht).2.2.2 e;obtain⟨z,hz⟩:=t1 ht;rw[<-ec]at hz;obtain⟨w,hw⟩:=ai6 _ _ (Zf2 hz);cases hw
 refine⟨V0,V1,bg,bt,rfl,rfl,ot,og,P.aA.trans G,aF _ _,λh=> ?_,λh=> ?_,λh h' e=> ?_⟩
 .obtain⟨a1,a2,a3,a4⟩:=kg h;refine⟨a1,λe=>by rw[e]at a2;omega,_,G.get a4,by rw[BH r2 h2.out.row,h2.len],λi hi=> ?_⟩;obtain⟨v,g,b1,b2,b3,b4⟩:=bT i hi;exact⟨v,HP r2 h2.out.row i 8 _ b2 (by decide),inG g v b1 b3 b4⟩
 .obtain⟨a1,a2,a3,a4⟩:=kt h;refine⟨a1,λe=>by rw[e]at a2;omega,_,G.get a4,by rw[BH r1 h1.out.row,h1.len],λi hi=> ?_⟩;obtain⟨v,g,b1,b2,b3,b4⟩:=tab i hi;exact⟨v,HP r1 h1.out.row i 4 _ b2 (by decide),inT g v b1 b3 b4⟩
 .have ec:=OQ (kg h).2.2.2 (kt h').2.2.2 e;obtain⟨z,hz⟩:=g1 h;obtain⟨w,hw⟩:=t1 h';rw[ec,hw]at hz;cases hz
theorem U7.grow{sB t t':St}{q6 bg bt:Pos}{ng nt:Nat}{v:AV}(h:U7 sB t q6 bg bt ng nt v)(G:Grew t t'):U7 sB t' q6 bg bt ng nt v:=by
 obtain⟨b1,n,h1,h2,h3⟩:=h;refine⟨b1,n,h1,h2,λhn=> ?_⟩;obtain⟨a1,a2,a3,a4,ds,a5,a6⟩:=h3 hn;exact⟨a1,a2,a3,a4,ds,G.get a5,a6⟩
theorem OI.grow{sB t t':St}{q6 bg bt:Pos}{Us:List AV}{ng nt:Nat}(I:OI sB t q6 Us bg bt ng nt)(G:Grew t t'):OI sB t' q6 Us bg bt ng nt where
 gr:=I.gr.trans G
 c6:=G.get I.c6
 g h:=by
   obtain⟨a1,a2,ds,a3,a4,a5⟩:=I.g h;exact⟨a1,a2,ds,G.get a3,a4,λi hi=>by obtain⟨v,b1,b2⟩:=a5 i hi;exact⟨v,b1,b2.grow G⟩⟩
 t h:=by
   obtain⟨a1,a2,ds,a3,a4,a5⟩:=I.t h;exact⟨a1,a2,ds,G.get a3,a4,λi hi=>by obtain⟨v,b1,b2⟩:=a5 i hi;exact⟨v,b1,b2.grow G⟩⟩
 ne:=I.ne
theorem alf{R:Type}{m:Nat}{p:Pos}{o:Nat}{h:T AB}{l:List AV}(hv:((cellsOf (h.get p)).bind λcs=>cut cs o m)=some l)(ok:AV->Bool)(cR:ok (.agg l)=true)(K:AV->Option R):kB (.load (some m)) [.ptr p o] h ok K=K (.agg l):=by
 unfold kB;have e:aJ.run (λ_=>none) .h (.load (some m)) [.ptr p o]=none:=rfl;rw[e];simp only;rw[o6,hv];simp only[Zd8];rw[cR]
theorem ag9{m:Nat}{p:Pos}{o:Nat}{h:T AB}{l:List AV}(hv:((cellsOf (h.get p)).bind λcs=>cut cs o m)=some l)(hb:dO (.agg l) (.agg l)=true):jA (.load (some m)) [.ptr p o] (.agg l) (jU [] h)=true:=by unfold jA;show(match aJ.run (λb=>h.get b) .h (.load (some m)) [.ptr p o]with|some (.val u)=>dO u (.agg l)|_=>false)=true;rw[o6,hv];exact hb
theorem afG(z:Bool)(l:List Ty):cU 3 (cj z l):=cU.ro λr hr v hv=>by simp only[Zd0]at hr;obtain⟨g,_,rfl⟩:=hr;simp only[Ty.cells,Zb4,Zc8,Zg9]at hv;rcases hv with rfl|rfl|rfl<;>first|exact cU.str _|exact cU.int _ _
theorem pN(p:aP):dO (.agg p.cells) (.agg p.cells)=true:=FI λv hv=>by
 simp only[aP.cells,Zb4,Zc8,Zg9]at hv;rcases hv with rfl|rfl|rfl|rfl|rfl
 .exact XF _ _
 .exact Hi _ _
 .exact afG _ _
 .exact CO _ _
 .exact Kz _ _
structure BI(q:Pos)(l:List AV)(t:St):Prop where
 rd:∀(ok:AV->Bool)(K:AV->Option (AV×St)),ok (.agg l)=true->kB (.load (some 5)) [.ptr q 0] t.heap ok K=K (.agg l)
 av:jA (.load (some 5)) [.ptr q 0] (.agg l) (jU [] t.heap)=true
theorem BI.of{q:Pos}{l:List AV}{t:St}(hl:l.length=5)(hb:dO (.agg l) (.agg l)=true)(h:t.heap.get q=some (.cells l 0)):BI q l t:=by
 have hv:((cellsOf (t.heap.get q)).bind λcs=>cut cs 0 5)=some l:=by rw[h];exact bP hl
 exact⟨λok K cR=>alf hv ok cR K,ag9 hv hb⟩
section
variable{p:aP}{sA:St}{q2 q5:Pos}{Vs:List AV}
theorem ai8(h:(aU p).2=0)(hp:p.ew){r:Rl}{m:Nat}(R:RV p r m):qR (KA p r) p.gs 0=qR (ya p r) p.gs 0:=Sb rfl λi g g' h1 h2=>by
 rw[h1]at h2;cases h2;exact ano h hp R (Zf2 h1)
theorem ai9(hc:jq c)(hp:p.ew)(hk:(aU p).2=0)(hr:∀r∈p.rs,r.Ok)(wA:Wf sA)(hb:dO (.agg Vs) (.agg Vs)=true)(x6:AV)(F:Nat):
  ∀(m i f:Nat)(t:St),i+m=p.rs.length->m<f->PS sA t Vs p->t.heap.get q2=some (.cells p.cells 0)->t.heap.get q5=some (.cells Vs 0)->∃t',Grew t t'/\
   ∀k1 k2:Q2,iO c F k1 k2 f [.ptr q2 0,.ptr q5 0,x6,.int .i64 (i:Int)] t=k2 [.ptr q2 0,.ptr q5 0,x6] t':=by
 have afH:=hp.rs;have gs100:=hp.gs;intro m;induction m with
 |zero=>
  intro i f t hi hf P e2 e5;obtain⟨f,rfl⟩:∃g,f=g+1:=⟨f - 1,by omega⟩
  obtain rfl:i=p.rs.length:=by omega
  refine⟨t,Grew.refl P.aA.wf,λk1 k2=> ?_⟩;rw[uh];simp only[au,ay,ai,aG,Za5,aN,e2,ak,Za2,aP.c4,aD,j7,aE,Zg1,Zf6,aX]
 |succ m ih=>
  intro i f t hi hf P e2 e5;obtain⟨f,rfl⟩:∃g,f=g+1:=⟨f - 1,by omega⟩
  have fN:i<p.rs.length:=by omega
  have aW:decide ((i:Int)<(p.rs.length:Int))=true:=Za1 (by omega);have wr:Unit->az .i64 ((i:Int)+1)=((i+1:Nat):Int):=λ_=>by rw[wrap64 (by omega) (by omega)];omega
  obtain⟨mm,R⟩:=v_rl hk afH (Zc0 fN) (hr _ (Zc0 fN));obtain⟨v,t1,n1,M1⟩:=aha hc P hp hr hk (Za0 fN) R.k R.m1 R.m2;obtain⟨w,t2,n2,M2⟩:=afI hc p hp (Za0 fN) R.k R.m1 R.m2 t1 M1.aA.wf;rw[ai8 hk hp R]at M2;have Q1:=(M1.grow M2.aA).own;have nl:(qR (ya p p.rs[i]) p.gs 0).length<cC:=by have:=TX (ya p p.rs[i]) p.gs 0;unfold cC;omega
  have sm:=KB hc nl Q1 M2.own;have G:=M1.aA.trans M2.aA;have A5:=BI.of P.cells.1 hb e5;have A2:=BI.of (l:=p.cells) rfl (pN p) (M1.aA.get e2);have B2:=(BI.of (l:=p.cells) rfl (pN p) e2).av;obtain⟨t',z1,z2⟩:=ih (i+1) f t2 (by omega) (by omega) (P.grow wA G) (G.get e2) (G.get e5);refine⟨t',G.trans z1,λk1 k2=> ?_⟩;rw[<-z2 k1 k2,uh];simp only[au,ay,ai,aG,Za5,aN,e2,ak,Za2,aP.c4,aD,j7,aE,aW,bk];rw[A5.rd _ _ rfl];simp only[bH,aT,n1,aR];rw[A2.rd _ _ (by simp only[B2,Zg8])];simp only[bH,aT,n2,sm,aR,Et,Zf8,aX,ai,bw,wr ()]
theorem alg(hc:jq c)(hp:p.ew)(hk:(aU p).2=0)(hr:∀r∈p.rs,r.Ok)(wA:Wf sA)(hb:dO (.agg Vs) (.agg Vs)=true)(x6:AV)(F:Nat):
  ∀(m i f:Nat)(t:St),i+m=p.ts.length->m<f->PS sA t Vs p->t.heap.get q2=some (.cells p.cells 0)->t.heap.get q5=some (.cells Vs 0)->∃t',Grew t t'/\
   ∀k1 k4:Q2,iN c F k1 k4 f [.ptr q2 0,.ptr q5 0,x6,.int .i64 (i:Int)] t=k4 [.ptr q2 0,.ptr q5 0,x6] t':=by
 have ts100:=hp.ts;have tln:∀(K:AV->St->Option (AV×St))(s1:St),aj c (.lenB .l) [tabs p.tz p.ts] s1 K=K (.int .i64 (p.ts.length:Int)) s1:=λK s1=>by unfold tabs;simp
 intro m;induction m with
 |zero=>
  intro i f t hi hf P e2 e5;obtain⟨f,rfl⟩:∃g,f=g+1:=⟨f - 1,by omega⟩
  obtain rfl:i=p.ts.length:=by omega
  refine⟨t,Grew.refl P.aA.wf,λk1 k2=> ?_⟩;rw[ug];simp only[au,ay,ai,aG,Za5,aN,e2,ak,Za2,aP.c0,aD,tln,aE,Zg1,Zf6,aX]
 |succ m ih=>
  intro i f t hi hf P e2 e5;obtain⟨f,rfl⟩:∃g,f=g+1:=⟨f - 1,by omega⟩
  have fN:i<p.ts.length:=by omega
  have aW:decide ((i:Int)<(p.ts.length:Int))=true:=Za1 (by omega);have wr:Unit->az .i64 ((i:Int)+1)=((i+1:Nat):Int):=λ_=>by rw[wrap64 (by omega) (by omega)];omega
  obtain⟨v,t1,n1,M1⟩:=afJ hc P hp hr hk (Za0 fN);obtain⟨w,t2,n2,M2⟩:=adN hc p hp (MP hk) (Za0 fN) t1 M1.gr.wf;have Q1:QS 1 t2 v ((zK p.ts[i] (ey p.ts (i:Int)) p.rs (aY p.ts[i]).toNat).map dK):=M1.qs.mono λb x _ hx=>M2.aA.get hx
  have nl:(zK p.ts[i] (ey p.ts (i:Int)) p.rs (aY p.ts[i]).toNat).length<cC:=by have:=acm p.ts[i] (ey p.ts (i:Int)) p.rs (aY p.ts[i]).toNat;have:=jJ p.ts[i];unfold cC;omega
  have sm:=KB hc nl Q1 M2.own;have G:=M1.gr.trans M2.aA;have A5:=BI.of P.cells.1 hb e5;have A2:=BI.of (l:=p.cells) rfl (pN p) (M1.gr.get e2);have B2:=(BI.of (l:=p.cells) rfl (pN p) e2).av;obtain⟨t',z1,z2⟩:=ih (i+1) f t2 (by omega) (by omega) (P.grow wA G) (G.get e2) (G.get e5);refine⟨t',G.trans z1,λk1 k2=> ?_⟩;rw[<-z2 k1 k2,ug];simp only[au,ay,ai,aG,Za5,aN,e2,ak,Za2,aP.c0,aD,tln,aE,aW,bk];rw[A5.rd _ _ rfl];simp only[bH,aT,n1,aR];rw[A2.rd _ _ (by simp only[B2,Zg8])];simp only[bH,aT,n2,sm,aR,Et,Zf8,aX,ai,bw,wr ()]
end
theorem cl{f:FuncId}{args:List AV}{s s':St}{v:AV}(h:c f args s=some (v,s'))(K:AV->St->Option (AV×St)):aj c (.callF f) args s K=K v s':=by rw[aT,h];rfl
theorem ld5{q:Pos}{l:List AV}{t:St}(hl:l.length=5)(h:t.heap.get q=some (.cells l 0))(K:AV->St->Option (AV×St)):aj c (.load (some 5)) [.ptr q 0] t K=K (.agg l) t:=by
 have e:cut l 0 5=some l:=bP hl;rw[cY,h];simp only[ak,Za2,e,cT]
theorem abk(s:St)(K:AV->St->Option (AV×St)):aj c (.un .not) [.bool true] s K=K (.bool false) s:=by rw[Es];rfl
theorem akA(s:St)(K:AV->St->Option (AV×St)):aj c (.un .not) [.bool false] s K=K (.bool true) s:=by rw[Es];rfl
theorem acn(K:AV->Option (AV×St)):gU (.un .not) [.bool true] K=K (.bool false):=by rw[Et];rfl
theorem KC(K:AV->Option (AV×St)):gU (.lenB .l) [.af] K=K (.int .i64 0):=dJ K λH n=>rfl
theorem MQ(K:AV->Option (AV×St)):gU (.bin .add .num) [.int .i64 0,.int .i64 0] K=K (.int .i64 0):=by rw[TQ];rfl
theorem akB(K:AV->Option (AV×St)):gU (.bin .eql .num) [.int .i64 0,.int .i64 0] K=K (.bool true):=by rw[j6];rfl
theorem pbld(K:AV->Option (AV×St)):gU (.build [.af,.af,.af,.af,.af] []) [] K=K (.agg [.af,.af,.af,.af,.af]):=dJ K λH n=>rfl
section
variable{p:aP}
theorem Z8(hc:jq c)(cR:∀t∈p.ts,t.Ok)(hr:∀r∈p.rs,r.Ok)(z:Bool)(l:List Int)(h:CP p 16=false\/100<l.length)(s:St)(hw:Wf s):c 3 [.agg p.cells,ints z l] s=some (.bool true,s):=by
 have gA:=Grew.ah hw (.cells p.cells 0);have x2:=aF s (.cells p.cells 0);have bx:∀(K:AV->St->Option (AV×St)),aj c .box [.agg p.cells] s K=K (.ptr s.next 0) (ah s (.cells p.cells 0)):=λK=>by rw[dw];rfl
 obtain⟨sA,Fe⟩:∃sA,sA=ah s (.cells p.cells 0):=⟨_,rfl⟩
 rw[<-Fe]at gA x2 bx;have l2:=λ(K:AV->St->Option (AV×St))=>ld5 (c:=c) (l:=p.cells) rfl x2 K
 have F:∀(K:AV->St->Option (AV×St)),aj c (.callF 4) [.agg p.cells,.int .i64 16] sA K=K (.bool (CP p 16)) sA:=λK=>cl (YR hc p 16 sA) K
 have A:=λ(K:AV->St->Option (AV×St))=>cl (Sc hc sA) K
 have ln:∀(K:AV->St->Option (AV×St)),aj c (.lenB .l) [ints z l] sA K=K (.int .i64 (l.length:Int)) sA:=λK=>by unfold ints;simp
 rw[nV hc 1 (r:=(.bool true,sA)),aB (Plain.bool _) gA.keeps];rw[pM];cases hf:CP p 16 with
 |false=>
  rw[hf]at F;rw[bx,ai,l2,F,akA,ai,z8,z8,z8,fc,bk,A,ai]
 |true=>
  have hl:100<l.length:=h.resolve_left (by rw[hf];simp);rw[hf]at F;have d:decide ((100:Int)<(l.length:Int))=true:=Za1 (by omega);rw[bx,ai,l2,F,abk,ai,dI,ai,dI,ln,dI,nK,d,eM,bk,A,ai]
theorem ahb(hc:jq c)(hp:p.ew)(hr:∀r∈p.rs,r.Ok)(z:Bool)(l:List Int)(hf:CP p 16=true)(hl:l.length<=100)(hk:(aU p).2≠0)(s:St)(hw:Wf s):c 3 [.agg p.cells,ints z l] s=some (.bool true,s):=by
 have gA:=Grew.ah hw (.cells p.cells 0);have x2:=aF s (.cells p.cells 0);have bx:∀(K:AV->St->Option (AV×St)),aj c .box [.agg p.cells] s K=K (.ptr s.next 0) (ah s (.cells p.cells 0)):=λK=>by rw[dw];rfl
 obtain⟨sA,Fe⟩:∃sA,sA=ah s (.cells p.cells 0):=⟨_,rfl⟩
 rw[<-Fe]at gA x2 bx;have l2:=λ(K:AV->St->Option (AV×St))=>ld5 (c:=c) (l:=p.cells) rfl x2 K
 have F:∀(K:AV->St->Option (AV×St)),aj c (.callF 4) [.agg p.cells,.int .i64 16] sA K=K (.bool (CP p 16)) sA:=λK=>cl (YR hc p 16 sA) K
 rw[hf]at F;have E:=λ(K:AV->St->Option (AV×St))=>cl (aco hc hp hr sA) K
 rw[Za3 hk]at E;have A:=λ(K:AV->St->Option (AV×St))=>cl (Sc hc sA) K
 have C7:=λ(K:AV->St->Option (AV×St))=>cl (ahc hc hp hr (x:=0) (.inl hk) sA) K
 have C8:=λ(K:AV->St->Option (AV×St))=>cl (aja hc hp hr hk sA) K
 have C9:=λ(K:AV->St->Option (AV×St))=>cl (adO hc hp hr hk sA) K
 have C10:=λ(K:AV->St->Option (AV×St))=>cl (afK hc hp hr (x:=0) (.inl hk) sA) K
 have C12:=λ(K:AV->St->Option (AV×St))=>cl (ajb hc hp hr hk (ints z l) sA) K
 have C11:=λ(K:AV->St->Option (AV×St))=>cl (ajc hc sA) K
 have ln:∀(K:AV->St->Option (AV×St)),aj c (.lenB .l) [ints z l] sA K=K (.int .i64 (l.length:Int)) sA:=λK=>by unfold ints;simp
 have d:decide ((100:Int)<(l.length:Int))=false:=Za3 (by omega);have R:=BI.of (l:=p.cells) rfl (pN p) x2;have av:=R.av;rw[nV hc 1 (r:=(.bool true,sA)),aB (Plain.bool _) gA.keeps];rw[pM];rw[bx,ai,l2,F,abk,ai,dI,ai,dI,ln,dI,nK,d,eM,aX,l2,E,akA,bk];rw[R.rd _ _ rfl,C7,R.rd _ _ (by simp only[av,Ze5]),C8,R.rd _ _ (by simp only[av,Ze5]),C9,R.rd _ _ (by simp only[av,Ze5]),C10];rw[KC,KC,MQ,KC,MQ,KC,MQ,akB,bH,fh,R.rd _ _ rfl,fQ,bH,gG,C12,fQ,pbld,gG,C11,dc,bH,gG,A,dc,bH]
end
theorem akC(z:Bool)(es:Nat)(rs:List (List AV))(K:AV->Option (AV×St)):gU (.lenB .l) [ro es z rs] K=K (.int .i64 (rs.length:Int)):=by simp
theorem rd1{q:Pos}{o:Nat}{l:List AV}{v:AV}{t:St}(h:t.heap.get q=some (.cells l 0))(hv:l[o]? =some v)(ok:AV->Bool)(cR:ok v=true)(K:AV->Option (AV×St)):kB (.load none) [.ptr q o] t.heap ok K=K v:=
 pO (by rw[h];exact hv) ok cR K
theorem av1{q:Pos}{o:Nat}{l:List AV}{v:AV}{t:St}(h:t.heap.get q=some (.cells l 0))(hv:l[o]? =some v)(hb:cU 3 v):jA (.load none) [.ptr q o] v (jU [] t.heap)=true:=
 jr (by rw[h];exact hv) (qQ hb)
section
variable{p:aP}
theorem ajd(hc:jq c)(hp:p.ew)(hr:∀r∈p.rs,r.Ok)(z:Bool)(l:List Int)(hf:CP p 16=true)(hl:l.length<=100)(hk:(aU p).2=0)(s:St)(hw:Wf s):c 3 [.agg p.cells,ints z l] s=some (.bool true,s):=by
 have hR:=ams hk hp;have Gf:=hp.ts;have hgs:=hp.gs;have xK:=hp.ys;have ZG:=hp.rs;have MR:l.length<cC:=by unfold cC;omega
 have gA:=Grew.ah hw (.cells p.cells 0);have x2:=aF s (.cells p.cells 0);have bx:∀(K:AV->St->Option (AV×St)),aj c .box [.agg p.cells] s K=K (.ptr s.next 0) (ah s (.cells p.cells 0)):=λK=>by rw[dw];rfl
 obtain⟨sA,Fe⟩:∃sA,sA=ah s (.cells p.cells 0):=⟨_,rfl⟩
 rw[<-Fe]at gA x2 bx;have wA:=gA.wf;have l2:=λ(K:AV->St->Option (AV×St))=>ld5 (c:=c) (l:=p.cells) rfl x2 K
 have F:∀(K:AV->St->Option (AV×St)),aj c (.callF 4) [.agg p.cells,.int .i64 16] sA K=K (.bool (CP p 16)) sA:=λK=>cl (YR hc p 16 sA) K
 rw[hf]at F;have E:=λ(K:AV->St->Option (AV×St))=>cl (aco hc hp hr sA) K
 rw[Za1 hk]at E;have ln:∀(K:AV->St->Option (AV×St)),aj c (.lenB .l) [ints z l] sA K=K (.int .i64 (l.length:Int)) sA:=λK=>by unfold ints;simp
 have d:decide ((100:Int)<(l.length:Int))=false:=Za3 (by omega);obtain⟨Vs,s1,e1,P1⟩:=aje hc p hR sA wA;obtain⟨vl,vo⟩:=P1.cells;have hbV:=P1.beq;have Sd:∀(K:AV->St->Option (AV×St)),aj c (.store 5) [.ptr s1.next 0,.agg Vs] (ah s1 (.cells [.af,.af,.af,.af,.af] 0)) K=K .undef (ah s1 (.cells Vs 0)):=λK=>cV c K s1 5 (.agg Vs) _ vl rfl vo
 have g2:=Grew.ah P1.aA.wf (.cells Vs 0);have x5:=aF s1 (.cells Vs 0);obtain⟨s2,wR⟩:∃s2,s2=ah s1 (.cells Vs 0):=⟨_,rfl⟩
 rw[<-wR]at g2 x5 Sd;have w2:=g2.wf;have P2:=P1.grow wA g2;have x22:=(P1.aA.trans g2).get x2;have l5:=λ(K:AV->St->Option (AV×St))=>ld5 (c:=c) vl x5 K
 obtain⟨Us,s3,p',e3,PO,SO⟩:=ajf hc P2 hp hR hr hk z MR;obtain⟨ul,uo⟩:=PO.cells;have hbU:=PO.beq;have KD:∀(K:AV->St->Option (AV×St)),aj c (.store 5) [.ptr s3.next 0,.agg Us] (ah s3 (.cells [.af,.af,.af,.af,.af] 0)) K=K .undef (ah s3 (.cells Us 0)):=λK=>cV c K s3 5 (.agg Us) _ ul rfl uo
 have g4:=Grew.ah PO.aA.wf (.cells Us 0);have x6:=aF s3 (.cells Us 0);obtain⟨V0,V1,bg,bt,hU0,hU1,oT,oG,I4⟩:=OI.of PO (λg hg=>by
  obtain⟨u,hu,zz,rfl⟩:=SO.bT hg;have:=v_tg hk hgs hu;show u.tg.length<=1000;omega) (λt ht=>by
  obtain⟨u,hu,zz,rfl⟩:=SO.tab ht;obtain⟨i,hi,rfl⟩:=Zf0.1 hu;have h1:=akD (afL hk (Za0 hi));have h2:=jJ p.ts[i];show p.ts[i].cD.length<=1000;omega)
 obtain⟨s4,XG⟩:∃s4,s4=ah s3 (.cells Us 0):=⟨_,rfl⟩
 rw[<-XG]at g4 x6 KD I4;have g24:=PO.aA.trans g4;have P4:=P2.grow wA g24;have Z9:=g24.get x5;have U8:=g24.get x22;have oG':OV V1 bg 9 p'.gs.length:=oG;have oT':OV V0 bt 7 p'.ts.length:=oT;have I4':OI s2 s4 s3.next Us bg bt p'.gs.length p'.ts.length:=I4;obtain⟨v1,s5,e5,M5⟩:=ajg hc P4 hp hr hk;obtain⟨w1,s6,e6,M6⟩:=acp hc p ZG true s5 M5.aA.wf;have i1:(pP (yb true) p.rs 0).length<cC:=by have:=Iu (yb true) p.rs 0;unfold cC;omega
 have sm1:=KB hc i1 (M5.grow M6.aA).own M6.own;have g46:=M5.aA.trans M6.aA;have P6:=P4.grow wA g46;obtain⟨v2,s7,e7,M7⟩:=adP hc P6 hp hr hk;obtain⟨w2',s8,e8,M8⟩:=acp hc p ZG false s7 M7.aA.wf;have i2:(pP (yb false) p.rs 0).length<cC:=by have:=Iu (yb false) p.rs 0;unfold cC;omega
 have sm2:=KB hc i2 (M7.grow M8.aA).own M8.own;have g68:=M7.aA.trans M8.aA;have g48:=g46.trans g68;obtain⟨Ws,s9,e9,PR⟩:=ahd hc p ZG hR z (show l.length<=1000000 by omega) s8 g68.wf;have g49:=g48.trans PR.aA;have PO9:=PO.grow w2 (g4.trans g49);have ll:=OR l p.rs 0;have sm3:=ahe hc PO9 PR (ahf SO.symm true (oR l p.rs 0)) (afM (SO.real hR) true (by omega)) (λt ht=>by obtain⟨u,hu,zz,rfl⟩:=SO.tab ht;have:=hp.ok u hu;exact⟨this.1,this.2⟩);have P9:=P4.grow wA g49;have x29:=g49.get U8;have XH:=g49.get Z9;have FF:∃F,F=2000:=⟨_,rfl⟩
 obtain⟨F0,hF0⟩:=FF;obtain⟨s10,G10,L0⟩:=ai9 (c:=c) hc hp hk hr wA hbV (.ptr s3.next 0) F0 p.rs.length 0 F0 s9 (Za5 _) (by omega) P9 x29 XH;have P10:=P9.grow wA G10;obtain⟨s11,G11,L1⟩:=alg (c:=c) hc hp hk hr wA hbV (.ptr s3.next 0) F0 p.ts.length 0 F0 s10 (Za5 _) (by omega) P10 (G10.get x29) (G10.get XH);have I11:=I4'.grow (g49.trans (G10.trans G11));have gl:=SO.gl;have tl:=SO.tl;obtain⟨s12,I12,L2⟩:=alc (c:=c) w2 hU1 oG' (by omega) (.ptr s.next 0) (.ptr s1.next 0) F0 (by omega) p'.gs.length 0 F0 s11 (Za5 _) (by omega) I11;obtain⟨DX,I13,L4⟩:=ale (c:=c) w2 hU0 oT' (by omega) (.ptr s.next 0) (.ptr s1.next 0) F0 (by omega) p'.ts.length 0 F0 s12 (Za5 _) (by omega) I12;simp only[show((0:Nat):Int)=0 from rfl]at L0 L1 L2 L4;have Qa:=I13.gr;have P13:=P2.grow wA Qa;have acq:=Qa.get x22;have x513:=Qa.get x5;have C7a:=λ(K:AV->St->Option (AV×St))=>cl (XI hc P13 hp hr (x:= -1) (.inl (by decide))) K
 have C7b:=λ(K:AV->St->Option (AV×St))=>cl (XI hc P13 hp hr (x:=(p.rs.length:Int)) (.inr (Zp1 _))) K
 have C10a:=λ(K:AV->St->Option (AV×St))=>cl (U9 hc P13 hp hr (x:= -1) (.inl (by decide))) K
 have C10b:=λ(K:AV->St->Option (AV×St))=>cl (U9 hc P13 hp hr (x:=(p.ts.length:Int)) (.inr (Zp1 _))) K
 have C11:=λ(K:AV->St->Option (AV×St))=>cl (ajh hc P13 (q:=p) ⟨rfl,λi t t' h1 h2=>⟨t.oz,by rw[h1]at h2;cases h2;rfl⟩,rfl,λi t t' h1 h2=>⟨t.tz,by rw[h1]at h2;cases h2;rfl⟩,rfl,rfl,rfl⟩ hR hp.ok) K
 have A:=λ(K:AV->St->Option (AV×St))=>cl (Sc hc DX) K
 have R54:=BI.of vl hbV Z9;have R25:=BI.of (l:=p.cells) rfl (pN p) (M5.aA.get U8);have a24:=(BI.of (l:=p.cells) rfl (pN p) U8).av;have R56:=BI.of vl hbV (g46.get Z9);have R26:=BI.of (l:=p.cells) rfl (pN p) (g46.get U8);have a26:=R26.av;have R27:=BI.of (l:=p.cells) rfl (pN p) (M7.aA.get (g46.get U8));have R28:=BI.of (l:=p.cells) rfl (pN p) (g48.get U8);have R69:=BI.of ul hbU (g49.get x6);have a68:=(BI.of ul hbU (g48.get x6)).av;have R5:=BI.of vl hbV x513;have a5:=R5.av;have R2:=BI.of (l:=p.cells) rfl (pN p) acq;have a4:=av1 acq (show p.cells[4]? =some (dm p.rz p.rs)from rfl) (Kz _ _);have a0:=av1 acq (show p.cells[0]? =some (tabs p.tz p.ts)from rfl) (XF _ _);have r4:=λ(ok:AV->Bool)(cR:ok (dm p.rz p.rs)=true)(K:AV->Option (AV×St))=>rd1 acq (show p.cells[4]? =some (dm p.rz p.rs)from rfl) ok cR K
 have r0:=λ(ok:AV->Bool)(cR:ok (tabs p.tz p.ts)=true)(K:AV->Option (AV×St))=>rd1 acq (show p.cells[0]? =some (tabs p.tz p.ts)from rfl) ok cR K
 have n4:∀(K:AV->Option (AV×St)),gU (.lenB .l) [dm p.rz p.rs] K=K (.int .i64 (p.rs.length:Int)):=λK=>by unfold dm;rw[akC,Zb9]
 have n0:∀(K:AV->Option (AV×St)),gU (.lenB .l) [tabs p.tz p.ts] K=K (.int .i64 (p.ts.length:Int)):=λK=>by unfold tabs;rw[akC,Zb9]
 have k1:=λ(K:AV->St->Option (AV×St))=>cl e1 K
 have k3:=λ(K:AV->St->Option (AV×St))=>cl e3 K
 have k5:=λ(K:AV->St->Option (AV×St))=>cl e5 K
 have k6:=λ(K:AV->St->Option (AV×St))=>cl e6 K
 have k7:=λ(K:AV->St->Option (AV×St))=>cl e7 K
 have k8:=λ(K:AV->St->Option (AV×St))=>cl e8 K
 have k9:=λ(K:AV->St->Option (AV×St))=>cl e9 K
 have q1:=λ(K:AV->St->Option (AV×St))=>cl sm1 K
 have q2:=λ(K:AV->St->Option (AV×St))=>cl sm2 K
 have q3:=λ(K:AV->St->Option (AV×St))=>cl sm3 K
 have Se:Grew s DX:=gA.trans (P1.aA.trans (g2.trans Qa));rw[nV hc F0 (r:=(.bool true,DX)),aB (Plain.bool _) Se.keeps];rw[pM];rw[bx,ai,l2,F,abk,ai,dI,ai,dI,ln,dI,nK,d,eM,aX,l2,E,abk,aX,l2,k1,bM,Sd,l5,ai,k3,bM,KD];rw[R54.rd _ _ rfl,k5,R25.rd _ _ (by simp only[a24,Ze5]),k6,q1,acn,bH,fh,R56.rd _ _ rfl,gG,k7,fh,R27.rd _ _ (by simp only[a26,Ze5]),gG,k8,gG,q2,fQ,acn,eN,bH,
  fh,R28.rd _ _ rfl,fQ,bH,gG,k9,fh,R69.rd _ _ (by simp only[a68,Ze5]),gG,q3,fQ,acn,eN,aX,ai,L0]
 rw[au,au,au,ay,ai,L1,au,au,au,ay,ai,L2,au,au,au,ay,ai,L4,au,au,ay];rw[R5.rd _ _ rfl,C7a,R5.rd _ _ (by simp only[a5,Ze5]),di,Za5,r4 _ (by simp only[a4,Ze5]),n4,C7b,R5.rd _ _ (by simp only[a5,Ze5]),C10a,R5.rd _ _ (by simp only[a5,Ze5]),di,Za5,r0 _ (by simp only[a0,Ze5]),n0,C10b];rw[KC,KC,MQ,KC,MQ,KC,MQ,akB,bH,fh,R5.rd _ _ rfl,fh,R2.rd _ _ rfl,gG,C11,dc,bH,gG,A,dc,bH]
end
theorem acr(hc:jq c)(p:aP)(cR:∀t∈p.ts,t.Ok)(hr:∀r∈p.rs,r.Ok)(z:Bool)(l:List Int)(s:St)(hw:Wf s):c 3 [.agg p.cells,ints z l] s=some (.bool true,s):=by
 by_cases hl:l.length<=100
 . cases hf:CP p 16 with
   |false=>exact Z8 hc cR hr z l (.inl hf) s hw
   |true=>
    have hp:=anp hf cR;by_cases hk:(aU p).2=0
    .exact ajd hc hp hr z l hf hl hk s hw
    .exact ahb hc hp hr z l hf hl hk s hw
 .exact Z8 hc cR hr z l (.inr (by omega)) s hw
end
section
open Go Go.Ai Go.Proofs Go.Sort
def Tryz.adQ:Go.Shelf.Ren:=⟨λ|189=>37|125=>83|257=>82|128=>168|129=>169|294=>159|295=>160|296=>161|297=>162|298=>163|299=>164|216=>165|300=>166|301=>167|328=>234|329=>235|330=>236|331=>237|332=>238|215=>239|343=>265|n=>n,λ|28=>25|3=>3|46=>132|0=>0|51=>198|53=>200|4=>4|183=>191|182=>190|131=>148|5=>5|9=>9|218=>230|222=>234|228=>244|229=>169|n=>n,λ|n=>n⟩
theorem Tryz.YS:Go.Proofs.Lays.n189 Tryz.prog Tryz.adQ:={
 mixed:=by kernel_rfl
 f125:=Tryz.func83.trans (congrArg some (by kernel_rfl))
 f128:=Tryz.func168.trans (congrArg some (by kernel_rfl))
 f129:=Tryz.func169.trans (congrArg some (by kernel_rfl))
 f189:=Tryz.func37.trans (congrArg some (by kernel_rfl))
 f215:=Tryz.func239.trans (congrArg some (by kernel_rfl))
 f216:=Tryz.func165.trans (congrArg some (by kernel_rfl))
 f257:=Tryz.func82.trans (congrArg some (by kernel_rfl))
 f294:=Tryz.func159.trans (congrArg some (by kernel_rfl))
 f295:=Tryz.func160.trans (congrArg some (by kernel_rfl))
 f296:=Tryz.func161.trans (congrArg some (by kernel_rfl))
 f297:=Tryz.func162.trans (congrArg some (by kernel_rfl))
 f298:=Tryz.func163.trans (congrArg some (by kernel_rfl))
 f299:=Tryz.func164.trans (congrArg some (by kernel_rfl))
 f300:=Tryz.func166.trans (congrArg some (by kernel_rfl))
 f301:=Tryz.func167.trans (congrArg some (by kernel_rfl))
 f328:=Tryz.func234.trans (congrArg some (by kernel_rfl))
 f329:=Tryz.func235.trans (congrArg some (by kernel_rfl))
 f330:=Tryz.func236.trans (congrArg some (by kernel_rfl))
 f331:=Tryz.func237.trans (congrArg some (by kernel_rfl))
 f332:=Tryz.func238.trans (congrArg some (by kernel_rfl))
 f343:=Tryz.func265.trans (congrArg some (by kernel_rfl))
 t0:=Tryz.underlying0
 a0:=Tryz.isAgg0
 z0:=Tryz.sizeOf0
 v0:=Tryz.zeroValue0
 t3:=Tryz.underlying3
 a3:=Tryz.isAgg3
 z3:=Tryz.sizeOf3
 v3:=Tryz.zeroValue3
 t4:=Tryz.underlying4
 a4:=Tryz.isAgg4
 z4:=Tryz.sizeOf4
 v4:=Tryz.zeroValue4
 t5:=Tryz.underlying5
 a5:=Tryz.isAgg5
 z5:=Tryz.sizeOf5
 v5:=Tryz.zeroValue5
 t9:=Tryz.underlying9
 a9:=Tryz.isAgg9
 z9:=Tryz.sizeOf9
 v9:=Tryz.zeroValue9
 t28:=Tryz.underlying25
 a28:=Tryz.isAgg25
 z28:=Tryz.sizeOf25
 v28:=Tryz.zeroValue25
 t46:=Tryz.underlying132
 a46:=Tryz.isAgg132
 z46:=Tryz.sizeOf132
 v46:=Tryz.zeroValue132
 t51:=Tryz.underlying198
 a51:=Tryz.isAgg198
 z51:=Tryz.sizeOf198
 v51:=Tryz.zeroValue198
 t53:=Tryz.underlying200
 a53:=Tryz.isAgg200
 z53:=Tryz.sizeOf200
 v53:=Tryz.zeroValue200
 t131:=Tryz.underlying148
 a131:=Tryz.isAgg148
 z131:=Tryz.sizeOf148
 v131:=Tryz.zeroValue148
 t182:=Tryz.underlying190
 a182:=Tryz.isAgg190
 z182:=Tryz.sizeOf190
 v182:=Tryz.zeroValue190
 t183:=Tryz.underlying191
 a183:=Tryz.isAgg191
 z183:=Tryz.sizeOf191
 v183:=Tryz.zeroValue191
 t218:=Tryz.underlying230
 a218:=Tryz.isAgg230
 z218:=Tryz.sizeOf230
 v218:=Tryz.zeroValue230
 t222:=Tryz.underlying234
 a222:=Tryz.isAgg234
 z222:=Tryz.sizeOf234
 v222:=Tryz.zeroValue234
 t228:=Tryz.underlying244
 a228:=Tryz.isAgg244
 z228:=Tryz.sizeOf244
 v228:=Tryz.zeroValue244
 t229:=Tryz.underlying169
 a229:=Tryz.isAgg169
 z229:=Tryz.sizeOf169
 v229:=Tryz.zeroValue169 }
def Tryz.adR:Go.Shelf.Ren:=⟨λ|20=>38|n=>n,λ|22=>25|3=>3|4=>4|0=>0|n=>n,λ|n=>n⟩
theorem Tryz.YT:Go.Proofs.Lays2.n20 Tryz.prog Tryz.adR:={
 mixed:=by kernel_rfl
 f20:=Tryz.func38.trans (congrArg some (by kernel_rfl))
 t0:=Tryz.underlying0
 a0:=Tryz.isAgg0
 z0:=Tryz.sizeOf0
 v0:=Tryz.zeroValue0
 t3:=Tryz.underlying3
 a3:=Tryz.isAgg3
 z3:=Tryz.sizeOf3
 v3:=Tryz.zeroValue3
 t4:=Tryz.underlying4
 a4:=Tryz.isAgg4
 z4:=Tryz.sizeOf4
 v4:=Tryz.zeroValue4
 t22:=Tryz.underlying25
 a22:=Tryz.isAgg25
 z22:=Tryz.sizeOf25
 v22:=Tryz.zeroValue25
 i3:=by kernel_rfl }
section
variable{P:Program}{C:Cells}{ρ:Pos->Go.Ai.Loc}{st:St}{w:World}
theorem acs{f:FuncId}{fn:Func}{c:Code}{s:List AV->St->Option (AV×St)}(hf:P.funcs[f]? =some fn)(mC:¬fn.name= "runtime.NumGoroutine")(hb:fn.body=some c)
  (hm:∀args st v st',s args st=some (v,st')->st.next.toNat<=st'.next.toNat)
  (h:∀(ρ:Pos->Go.Ai.Loc)(st:St)(w:World)(args:List AV)(v:AV)(st':St)(bV:List Value),s args st=some (v,st')->bS ρ C st w->aI ρ st.next.toNat C args bV->
   Calls P f bV.toArray w λe w'=>∃x,e= .returned x/\kE ρ C st w v st' x w'):oP P C f s where
 mono:=hm
 runs ρ st w args v st' bV hh hW hv:=by
  have dy:(callFunc f bV.toArray).run P w= .ok (.enter f bV.toArray) w:=by simp[callFunc,hf,mC,hb]
  rw[dy];refine Calls.mono (h ρ st w args v st' bV hh hW hv) λe w' he=> ?_
  obtain⟨x,rfl,hx⟩:=he;exact hx
theorem KE{v:AV}{x:Value}(hW:bS ρ C st w)(hv:aC ρ st.next.toNat C v x):kE ρ C st w v st x w:=⟨ρ,hv,λ_ _=>rfl,Za6 _,hW,nh.refl _ _ _⟩
theorem KF(os:Array Obj){k:Nat}(h:k<w.heap.size):(grow w os).heap[k]? =w.heap[k]? :=by simp[grow,Array.getElem?_append,h]
theorem Sf{w w':World}{a:Addr}(h:w'.heap[a.block]? =w.heap[a.block]?):w'.cell? a=w.cell? a:=by unfold World.cell?;rw[h]
theorem aeE{a:Addr}{v:Value}(h:w.cell? a=some v):a.block<w.heap.size:=by
 unfold World.cell? at h;split at h
 .rename_i hh;exact(Zc4.1 hh).1
 .cases h
theorem anq(h:bS ρ C st w)(os:Array Obj):bS ρ C st (Go.Sort.grow w os) where
 live b x hb:=by
  obtain⟨a1,a2,a3⟩:=h.live b x hb;exact⟨a1,by rw[size_grow];omega,a3.of_heap (KF os a2)⟩
 inj:=h.inj
 dH a v hc:=by
  obtain⟨a1,a2⟩:=h.dH a v hc;exact⟨(Sf (KF os (aeE a1))).trans a1,a2⟩
 whole a v hc o ho:=(Sf (a:=⟨a.block,o,none⟩) (KF os (show a.block<w.heap.size from aeE (h.dH a v hc).1))).trans (h.whole a v hc o ho)
theorem anr(ρ:Pos->Go.Ai.Loc)(st:St)(w:World)(os:Array Obj):nh ρ st w ρ st (Go.Sort.grow w os):=⟨rfl,rfl,rfl,by rw[size_grow];omega,λk hk _=>KF os hk,λb x hx=>.inl ⟨b,x,hx,rfl⟩⟩
theorem aaB(off:Nat)(zs:List Int)(c:Array Value)(h:off+zs.length<=c.size):(putCells (Value.int .i64) off zs.toArray c).toList=aZ c.toList off (zs.map (Value.int .i64)):=by
 apply Zj4;intro k;rw[Cu _ _ (by simpa using by omega),putCells,Zh9,Array.getElem?_mapIdx,Zh9,Zb9,Zc3];by_cases h1:k<off
 .rw[Zb5 h1,Zf3 (by omega),Zd8,Zb2 (by omega)]
 . rw[Zb2 h1];by_cases h2:k<off+zs.length
   .rw[Zb5 h2,Zf3 (by omega),Zd8,Zb5 ⟨by omega,by simpa using h2⟩,Za0 (by omega)];simp[getElem!_pos,show k - off<zs.length by omega]
   . rw[Zb2 h2];cases c[k]? with
     |none=>rfl
     |some y=>rw[Zd8,Zb2 (by simpa using λ_=>by omega)]
theorem ahg(hW:bS ρ C st w){b:Pos}{cs:List AV}(hb:st.heap.get b=some (.cells cs 0)){o:Nat}{zs:List Int}(hle:o+zs.length<=cs.length)(q:Nat)(os:Array Obj):
  bS ρ C (laid st b cs o zs) (Go.Sort.grow (putRow (Value.int .i64) (Go.Sort.ahead w q) (ρ b).aQ ((ρ b).base+o) zs.toArray) os)/\nh ρ st w ρ (laid st b cs o zs) (Go.Sort.grow (putRow (Value.int .i64) (Go.Sort.ahead w q) (ρ b).aQ ((ρ b).base+o) zs.toArray) os):=by
 obtain⟨_,Cq,c,e,fr,g1,g2,g3,g4,g5⟩:=hW.live b _ hb;have hlen:(aZ cs o (fO zs)).length=cs.length:=by simp[aZ];omega
 have fC:(putCells (Value.int .i64) ((ρ b).base+o) zs.toArray c).size=c.size:=by simp[putCells]
 have hz:aI ρ st.next.toNat C (fO zs) (zs.map (Value.int .i64)):=⟨by simp,λi v x hv hx=>by
  rw[Zc3]at hv hx;cases hh:zs[i]? with
  |none=>rw[hh]at hv;cases hv
  |some z=>rw[hh]at hv hx;cases hv;cases hx;exact .int _ _⟩
 obtain⟨h1,h2⟩:=abC (w':=putRow (Value.int .i64) (Go.Sort.ahead w q) (ρ b).aQ ((ρ b).base+o) zs.toArray) (x0:= .cells (aZ cs o (fO zs)) 0) hW hb rfl rfl rfl (by simp) (λk hk=>by
  simp only[putRow,mapBlock,Zj2,Zb2 (Ne.symm hk),heap_ahead]) ⟨putCells (Value.int .i64) ((ρ b).base+o) zs.toArray c,e,fr,by
   simp only[putRow,mapBlock,Zj2,Zg7,heap_ahead,g1,Zd8,onCells],by rw[fC];exact g2,by rw[hlen,fC];exact g3,by
   rw[hlen,aaB _ _ _ (by omega),Lj _ _ _ _ (by simp;omega),UJ _ _ _ _ (by simp;omega) (by simp;omega)];exact g4.aZ hz o,λi hi Ge=>g5 i hi (by rw[fC]at Ge;exact Ge)⟩
 exact⟨anq h1 os,h2.trans (anr ρ _ _ os)⟩
theorem XJ{n:Nat}:∀{vs:List AV}{xs:List Value}{zs:List Int},MS vs=some zs->aI ρ n C vs xs->xs=zs.map (Value.int .i64)
 |[],xs,zs,h,hv=>by cases h;exact hv.j5
 |v ::vs,xs,zs,h,hv=>by
  obtain⟨x,zY,rfl,h1,h2⟩:=hv.cons_inv;unfold MS at h;split at h
  .rename_i heq;cases heq
  . rename_i heq;cases heq;split at h
    .   rename_i hr;cases h;rw[h1.gX,XJ hr h2];rfl
    .   cases h
  .cases h
theorem aaa(hW:bS ρ C st w){b:Pos}{o n:Nat}{cs:List AV}{zs:List Int}(h:rowOf st b o n=some (cs,zs)):
   st.heap.get b=some (.cells cs 0)/\zs.length=n/\n<=1000000/\(0<n->o+n<=cs.length)/\(ρ b).aQ<w.heap.size/\Holds (Value.int .i64) w (ρ b).aQ ((ρ b).base+o) zs.toArray:=by
 unfold rowOf at h;split at h<;>first|(cases h;done)|skip
 rename_i cs' hb;split at h<;>first|(cases h;done)|skip
 rename_i zs' hz;split at h<;>first|(cases h;done)|skip
 rename_i hl;cases h;rw[Zb6]at hl;have Rz:=Za7 hl.1;have gx:=Za9 hl.2;obtain⟨_,Cq,c,e,fr,g1,g2,g3,g4,g5⟩:=hW.live b _ hb;have hx:=XJ hz ((g4.drop o).take n);have hn:0<n->o+n<=cs.length:=λh0=>by have:=congrArg List.length hx;simp only[Ze0,List.length_drop,Zb9,Zh7]at this;omega
 refine⟨hb,Rz,gx,hn,Cq,λj hj=> ?_⟩;have hj:j<n:=by simpa [Rz]using hj
 have hn:=hn (by omega);constructor
 .have:=congrArg (·[j]?) hx;simp only[Zd7,Zb5 hj,Zf5,Zc3]at this;rw[Zb5 (by omega),Za0 (show j<zs.length by omega)]at this;simp only[World.cell?,g1];rw[show(ρ b).base+o+j=(ρ b).base+(o+j)by omega];simpa [getElem!_pos,show j<zs.length by omega]using this
 .simp only[World.frozen?,g1];have:=g5 (o+j) (Zj1 _) (by omega);rw[show(ρ b).base+o+j=(ρ b).base+(o+j)by omega];simpa using this
end
theorem ahh{C:Cells}:oP Tryz.prog C 37 KG:=
 acs Tryz.func37 (by decide) rfl (λargs st v st' h=>by
  unfold KG at h
  repeat' split at h
  all_goals first|(cases h;done)|skip
  all_goals (injection h with h;injection h with h1 h2;rw[<-h2];exact Za6 _)) λρ st w args v st' bV h hW hv=>by
  unfold KG at h;split at h
  .  cases h;obtain⟨x,xs,rfl,h1,h2⟩:=hv.cons_inv;have:=h2.j5;subst this;rw[h1.gZ];exact(Any.slices_Sort_int_none Tryz.YS none 0 w).mono λe w' he=>by
        obtain⟨rfl,rfl⟩:=he;exact⟨_,rfl,KE hW (.pH (by simpa using aI.nil))⟩
  .  obtain⟨x,xs,rfl,h1,h2⟩:=hv.cons_inv;have:=h2.j5;subst this;obtain⟨a,bA,rfl,hle,hcp,ha⟩:=h1.ff;split at h
     .  cases h;exact(Any.slices_Sort_int_none Tryz.YS (some a) bA w).mono λe w' he=>by
         obtain⟨rfl,rfl⟩:=he;exact⟨_,rfl,KE hW (.pH (by simpa using aI.nil))⟩
     .  (split at h<;>first|(cases h;done)|skip);rename_i cs zs hr;cases h;obtain⟨hb,hl,gx,hn,Cq,hH⟩:=aaa hW hr;obtain⟨_,rfl,_⟩:=ha (by omega);rw[show Nat.succ _=zs.length from hl.symm];exact(Any.slices_Sort_int Tryz.YS _ _ bA zs w hH Cq (by omega)).mono λe w' he=>by
         obtain⟨rfl,n,os,rfl⟩:=he;obtain⟨k1,k2⟩:=ahg hW hb (o:=_) (zs:=AQ zs) (by rw[AQ,List.length_mergeSort,hl];exact hn (by omega)) n os;exact⟨_,rfl,ρ,.pH (by simpa using aI.nil),λ_ _=>rfl,Za6 _,k1,k2⟩
  .  cases h
theorem acu{C:Cells}:oP Tryz.prog C 38 yc:=
 acs Tryz.func38 (by decide) rfl (λargs st v st' h=>by
  unfold yc at h
  repeat' split at h
  all_goals first|(cases h;done)|skip
  all_goals (injection h with h;injection h with h1 h2;rw[<-h2];exact Za6 _)) λρ st w args v st' bV h hW hv=>by
  unfold yc at h;split at h
  .  cases h;obtain⟨x,xs,rfl,h1,h2⟩:=hv.cons_inv;have:=h2.j5;subst this;rw[h1.gZ];exact(Any.slices_Compact_int_empty Tryz.YT none 0 w).mono λe w' he=>by
        obtain⟨rfl,rfl⟩:=he;exact⟨_,rfl,KE hW .af⟩
  .  obtain⟨x,xs,rfl,h1,h2⟩:=hv.cons_inv;have:=h2.j5;subst this;obtain⟨a,bA,rfl,hle,hcp,ha⟩:=h1.ff;split at h
     .  cases h;exact(Any.slices_Compact_int_empty Tryz.YT (some a) bA w).mono λe w' he=>by
         obtain⟨rfl,rfl⟩:=he;exact⟨_,rfl,KE hW h1⟩
     .  (split at h<;>first|(cases h;done)|skip);rename_i cs zs hr;cases h;obtain⟨hb,hl,gx,hn,Cq,hH⟩:=aaa hW hr;have ait:=h1.Rr;obtain⟨hbn,rfl,hbd⟩:=ha (by omega);rw[show Nat.succ _=zs.length from hl.symm];have hle2:=hn (by omega);rw[<-hl]at hle2;have hcl:(Lib.compact zs).length<=zs.length:=Va zs;exact(Any.slices_Compact_int Tryz.YT _ _ bA zs w hH (by omega) (by omega)).mono λe w' he=>by
         obtain⟨rfl,n,rfl⟩:=he;obtain⟨k1,k2⟩:=ahg hW hb (o:=_) (zs:=Lib.compact zs++List.replicate (zs.length - (Lib.compact zs).length) 0) (Zb7 (Nat.add_le_add_left (Nat.le_of_eq (by rw[Zc9,Zk4];omega)) _) hle2) n #[];rw[grow_empty]at k1 k2;exact⟨_,rfl,ρ,.slice _ _ _ _ _ bA _ (by omega) hcp (λ_=>⟨hbn,rfl,hbd⟩) ait,λ_ _=>rfl,Za6 _,k1,k2⟩
  .  cases h
end
end Go.Proofs.YtngcejgciomphaaGreatDoor
namespace Go.Proofs.YtngcejgciomphaaGreatDoor.Ff
section
open Go
theorem k1:(Rows.ruleNamesRow.inPlace==Tryz.pinned.checked.prog.inPlace 3)=true:=by kernel_rfl
theorem k2:(Rows.ruleNamesRow.unfollowed==Tryz.pinned.checked.prog.unfollowed 3)=true:=by kernel_rfl
theorem k3:(Rows.ruleNamesRow.recurses==Tryz.pinned.checked.prog.recurses 3)=true:=by kernel_rfl
theorem k4:(Rows.ruleNamesRow.named==Tryz.pinned.checked.prog.varsNamed 3)=true:=by kernel_rfl
theorem k5:laidOutB Tryz.pinned.checked.prog=true:=by kernel_rfl
theorem k6:mapsRowed Tryz.pinned.checked.prog=true:=by kernel_rfl
theorem k7:(Rows.ruleNamesRow.plainKeys==Tryz.pinned.checked.prog.plainKeys)=true:=by kernel_rfl
theorem closed:joinedFacts Tryz.pinned.checked.prog 3 Tryz.f3 (OpenSpec.ofChange Rows.ruleNamesSpec).bare Rows.ruleNamesRow=true:=by
 unfold joinedFacts;rw[k1,k2,k3,k4,k5,k6,k7]
 kernel_rfl
end
end Go.Proofs.YtngcejgciomphaaGreatDoor.Ff
