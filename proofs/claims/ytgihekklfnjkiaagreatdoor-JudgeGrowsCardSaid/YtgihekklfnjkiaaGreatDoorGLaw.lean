/- The law. -/
import Derived.Test.YtgihekklfnjkiaaGreatDoorGJudgeB
import Derived.Test.YtgihekklfnjkiaaGreatDoorRows
import Derived.Deep.DeepHandedRow
set_option linter.all false
set_option linter.unusedSectionVars false
set_option linter.deprecated false
namespace Go.Proofs.YtgihekklfnjkiaaGreatDoor
noncomputable section
set_option linter.all false
set_option maxRecDepth 100000
set_option maxHeartbeats 4000000
open Go Go.Ai Go.Proofs
attribute [local go_sem ↓] bf Gk ev evX GH getLT Gj aaM kat C9 Da V9 Wc Wd We Pn Po Pp Pq Pr Pt Wg Wh Pu Pv Px Py Pz ab7 ab8 ab9
attribute [local go_sem] bf Gk ev
section
variable(c : aj)(F : Nat)(x0 x1 x2 x3 x4 x5 x6 x7 x8 x9 x10 x11 : AV)(s : St)
def gI:Sh:=(sq sl (sq sl (sq (sq sl (sc (sq sl sl) sl)) (sq sl (sq sl (sq (sq sl (sb (sp 0 [1,2,7,8,10,11,12] [(2,[1,2,7,8,10,11])] (sq (sq sl (sc sl sl)) (sq (sb sl) sl))))) (sq sl (sq sl (sq sl (sq (sq sl (sb (sp 1 [2,7,8,10,11,13,14,15,16] [(1,[6]),(4,[7,13])] (sq (sq sl (sc sl sl)) (sj [2,7,8,10,11,13,14,15,16] (sb (sq (sq sl (sb (sp 2 [2,7,8,10,11,13,14,15,16,17] [(1,[6]),(6,[2,7,8,10,11,13,14,15,16])] (sq (sq sl (sc sl sl)) (sq (sb (sq sl (sq (sq sl (sc (sq sl sl) sl)) sl))) sl))))) (sq sl (sq (sq sl (sc (sq sl sl) sl)) (sq sl (sq (sq sl (sc sl sl)) (sq sl (sj [2,7,8,10,11,13,14,15,16,20] (sq sl (sc sl sl)) (sq (sb (sp 3 [2,7,8,10,11,13,14,15,16,20] [(8,[2,7,8,10,11,13,14,15,16,20])] (sq (sq sl (sc sl sl)) (sb sl)))) sl))))))))) sl))))) (sq sl sl)))))))))))
def xV:PX 5 gI:=⟨_,by conv=>lhs;reduce⟩
def wF:PL 5 gI 3:=⟨_,by conv=>lhs;reduce⟩
def fQ(k8:Q2):Nat->Q2
 |0,_,_=>none
 |n+1,vs,s=>dR c F aY (fQ k8 n) [k8] wF.1 vs s
def FN(k8:Q2)(n:Nat)(vs:List AV)(s:St):=(by dsimp only[fQ,wF,go_sem,Int.reduceOfNat,Int.reduceNegSucc]:fQ c F k8 (n+1) vs s=_)
def wG:PL 5 gI 2:=⟨_,by conv=>lhs;reduce⟩
def fR(k1 k6:Q2):Nat->Q2
 |0,_,_=>none
 |n+1,vs,s=>dR c F aY (fR k1 k6 n) [k1,k6] wG.1 vs s
def uD(k1 k6:Q2)(n:Nat)(vs:List AV)(s:St):=(by dsimp only[fR,wG,go_sem,Int.reduceOfNat,Int.reduceNegSucc]:fR c F k1 k6 (n+1) vs s=_)
def wH:Un->List Q2->Nat->Q2
 |(.s (.s .z)),[k1,k6]=>fR c F k1 k6
 |(.s (.s (.s .z))),[k8]=>fQ c F k8
 |_,_=>λ_=>fD
def wJ:PL 5 gI 1:=⟨_,by conv=>lhs;reduce⟩
def iJ(k1 k4:Q2):Nat->Q2
 |0,_,_=>none
 |n+1,vs,s=>dR c F (wH c F) (iJ k1 k4 n) [k1,k4] wJ.1 vs s
def uE(k1 k4:Q2)(n:Nat)(vs:List AV)(s:St):=(by dsimp only[iJ,wJ, ↓wH,go_sem,Int.reduceOfNat,Int.reduceNegSucc]:iJ c F k1 k4 (n+1) vs s=_)
def wK:PL 5 gI 0:=⟨_,by conv=>lhs;reduce⟩
def iK(k2:Q2):Nat->Q2
 |0,_,_=>none
 |n+1,vs,s=>dR c F aY (iK k2 n) [k2] wK.1 vs s
def uF(k2:Q2)(n:Nat)(vs:List AV)(s:St):=(by dsimp only[iK,wK,go_sem,Int.reduceOfNat,Int.reduceNegSucc]:iK c F k2 (n+1) vs s=_)
def qi:Un->List Q2->Nat->Q2
 | .z,[k2]=>iK c F k2
 |(.s .z),[k1,k4]=>iJ c F k1 k4
 |(.s (.s .z)),[k1,k6]=>fR c F k1 k6
 |(.s (.s (.s .z))),[k8]=>fQ c F k8
 |_,_=>λ_=>fD
def rY:O2:=bf c F (qi c F) xV.1 [x0,x1,x2] s
def Km:=(by dsimp only[rY,xV, ↓qi,go_sem,Int.reduceOfNat,Int.reduceNegSucc]:rY c F x0 x1 x2 s=_)
end
section
variable{c : aj}(hc : bw c)(F : Nat){x0 x1 x2 x3 x4 x5 x6 x7 x8 x9 x10 x11 : AV}{s : St}{r : AV × St}
include hc
theorem GW(h:rY c F x0 x1 x2 s=some r):c 5 [x0,x1,x2] s=some (tidy s r):=hc.oL F (qi c F) gI 4 (by kernel_rfl) (λi hi=>match i,hi with|0,_=>cr 0 (by kernel_rfl) (λ_ _ _=>by kernel_rfl) (λ_ _ _ _=>by kernel_rfl)|1,_=>cr 1 (by kernel_rfl) (λ_ _ _=>by kernel_rfl) (λ_ _ _ _=>by kernel_rfl)|2,_=>cr 2 (by kernel_rfl) (λ_ _ _=>by kernel_rfl) (λ_ _ _ _=>by kernel_rfl)|3,_=>cr 3 (by kernel_rfl) (λ_ _ _=>by kernel_rfl) (λ_ _ _ _=>by kernel_rfl)|n+4,h=>absurd h (by omega)) (by kernel_rfl) h
end
end
section
set_option maxRecDepth 100000
open Go Go.Ai Go.Proofs
variable{c : aj}
structure Sub(q F:List Int):Prop where
 len:q.length=F.length
 sub:∀(i:Nat)(x:Int),q[i]? =some x->x= -1\/F[i]? =some x
theorem Sub.paO{J:Jt}{q F:List Int}(h:Sub q F)(hF:Cc J F):Cc J q:=ahE (by rw[h.len,hF.len])
 (λx hx=>by
  obtain⟨i,hi⟩:=Ze9.1 hx;rcases h.sub i x hi with rfl|h
  .  omega
  .  exact hF.ok x (Zb9 h))
 fun a b x WM ha hb=>by
  rcases h.sub a x ha with rfl|ha
  .  decide
  .  rcases h.sub b x hb with rfl|hb
     . decide
     . exact hF.apart a b x WM ha hb
theorem Sub.none(F:List Int):Sub (List.replicate F.length (-1)) F:=⟨by simp,λi x h=>by
 rw[Zi1]at h;split at h
 . exact .inl (Zg3 h).symm
 . cases h⟩
theorem Sub.set{q F:List Int}(h:Sub q F){i:Nat}{v:Int}(hi:F[i]? =some v):Sub (q.set i v) F:=⟨by rw[Zk6,h.len],λk x hx=>by
 by_cases e:i=k
 . subst e;rw[Ze2 (by rw[h.len];exact(Za2.1 hi).1)]at hx;rw[<-hx];exact .inr hi
 . rw[Zd7 e]at hx;exact h.sub k x hx⟩
theorem Sub.ext{q F:List Int}(h:Sub q F)(n:Nat):Ext n (qF q) (qF F):=λg _ h0=>by
 cases e:q[g]? with
 |none=>unfold qF at h0;rw[Zb1,e]at h0;simp at h0
 |some x=>
  rw[jt e]at h0 ⊢;rcases h.sub g x e with rfl|h
  . omega
  . exact jt h
theorem ass{q:List Int}{i:Nat}{x v:Int}(hq:q[i]? =some x)(hx:x<0)(n:Nat):Ext n (qF q) (qF (q.set i v)):=λg _ h0=>by
 by_cases e:i=g
 . subst e;rw[jt hq]at h0;omega
 . unfold qF;rw[Zb1,Zb1,Zd7 e]
def AG(q:List Int):List Bool:=q.map λx=>decide (0<=x)
theorem ast{q:List Int}{i:Nat}{v:Int}(hv:0<=v):AG (q.set i v)=(AG q).set i true:=by unfold AG;rw[Zm9,Za0 hv]
theorem ahI:∀n:Nat,mo (AG (List.replicate n (-1)))=n
 |0=>rfl
 |n+1=>by have:=ahI n;unfold AG mo at this ⊢; rw[Zl5];simpa using this
theorem Sub.full{q F:List Int}(h:Sub q F)(h0:mo (AG q)=0):q=F:=Zh7 λi=>by
 cases e:q[i]? with
 |none=>rw[eq_comm,List.getElem?_eq_none_iff, <-h.len, <-List.getElem?_eq_none_iff];exact e
 |some x=>
  rcases h.sub i x e with rfl|h
  . exfalso;have:(AG q)[i]? =some false:=(by unfold AG;rw[Zb7,e];rfl);have:=Nf this;omega
  . exact h.symm
theorem aeX{J:Jt}{F:List Int}(h:∀g,g<J.n->0<=qF F g)(r:Rl):lJ J F r=fJ J F r:=ak4 (J:=jT J) h _
abbrev iv(l:List Int):List AV:=l.map (AV.int .i64)
theorem ahJ(q:List Int)(i:Nat)(v:Int):(iv q).set i (.int .i64 v)=iv (q.set i v):=(Zm9).symm
theorem anz{q:List Int}{i:Nat}(h:i<q.length):(iv q)[i]? =some (.int .i64 q[i]):=by rw[Zb7,H0 h];rfl
theorem anA(n:Nat)(x:Int):List.replicate n (AV.int .i64 x)=iv (List.replicate n x):=Zq2.symm
theorem QS.vec{s:St}{b:Pos}{l:List Int}(h:s.heap.get b=some (.cells (iv l) 0)):QS 1 s (.slice b 0 l.length (some l.length) 1) (l.map bV):=by
 have e:(l.map bV).flatten=iv l:=by clear h;induction l with|nil=>rfl|cons x l ih=>simp[ih]
 refine .inr (.inl ⟨b,0,some l.length,iv l,by rw[Za4],h,by simp,?_,.inr (by rw[Za4])⟩);rw[e,Ze6,Za4,Zk4,Zf7 (by rw[Za4];exact Za3 _)]
structure WV(sB s:St)(pb wb:Pos)(fv:AV)(q W F:List Int):Prop where
 ai:Grew sB s
 part:s.heap.get pb=some (.cells (iv q) 0)
 was:s.heap.get wb=some (.cells (iv W) 0)
 full:QS 1 s fv (F.map bV)
 gep:sB.next.toNat<=pb.toNat
 gew:sB.next.toNat<=wb.toNat
 ne:pb≠wb
 own:∀b,aL fv=some b->b≠pb/\b≠wb
theorem WV.setP{sB s:St}{pb wb:Pos}{fv:AV}{q W F:List Int}(h:WV sB s pb wb fv q W F)(w0:Wf sB)(q':List Int):WV sB (bg s pb (.cells (iv q') 0)) pb wb fv q' W F:=
 ⟨qM w0 h.ai h.gep (h.ai.wf _ _ h.part) _,bG _ _ _,by rw[aJ h.ne];exact h.was,h.full.mono λb x hb hx=>by rw[aJ (Ne.symm (h.own b hb).1)];exact hx,h.gep,h.gew,h.ne,h.own⟩
theorem WV.setW{sB s:St}{pb wb:Pos}{fv:AV}{q W F:List Int}(h:WV sB s pb wb fv q W F)(w0:Wf sB)(W':List Int):WV sB (bg s wb (.cells (iv W') 0)) pb wb fv q W' F:=
 ⟨qM w0 h.ai h.gew (h.ai.wf _ _ h.was) _,by rw[aJ (Ne.symm h.ne)];exact h.part,bG _ _ _,h.full.mono λb x hb hx=>by rw[aJ (Ne.symm (h.own b hb).2)];exact hx,h.gep,h.gew,h.ne,h.own⟩
theorem ap1{pb:Pos}(x1 x2 x7 x8:AV){n:Nat}(hn:n<=1000000)(F:Nat):∀(m k f:Nat)(s:St)(q:List Int),k+m=n->m<f->q.length=n->(∀i,i<k->q[i]? =some (-1))->s.heap.get pb=some (.cells (iv q) 0)->∀k2:Q2,
  iK c F k2 f [x1,x2,x7,x8,.int .i64 (n:Int),.slice pb 0 n (some n) 1,.int .i64 (k:Int)] s=k2 [x1,x2,x7,x8,.int .i64 (n:Int),.slice pb 0 n (some n) 1] (bg s pb (.cells (iv (List.replicate n (-1))) 0)):=by
 intro m;induction m with
 |zero=>
  intro k f s q hk hf hl hq ht k2;obtain⟨f,rfl⟩:∃g,f=g+1:=⟨f - 1,by omega⟩
  obtain rfl:k=n:=by omega
  have e:q=List.replicate k (-1):=Zh7 λi=>by
   rw[Zi1];split
   . exact hq i (by assumption)
   . exact Zc1 (by omega)
  rw[<-e,acf ht,uF];simp
 |succ m ih=>
  intro k f s q hk hf hl hq ht k2;obtain⟨f,rfl⟩:∃g,f=g+1:=⟨f - 1,by omega⟩
  have hkn:k<n:=by omega
  have wr:av .i64 ((k:Int)+1)=((k+1:Nat):Int):=by rw[wrap64 (by omega) (by omega)];omega
  have aS:decide ((k:Int)<(n:Int))=true:=Za0 (by omega);have ix:=λ(K:AV->St->Option (AV×St))(s1:St)=>fG c K s1 (b:=pb) (off:=0) (len:=n) (es:=1) (es':=1) (cap:=some n) (k:= .i64) (i:=k) hkn
  simp only[Zb6,Zk4]at ix;have pt:=λ(K:AV->St->Option (AV×St))=>wU (c:=c) K ht (o:=k) (by rw[Za4];omega) (v:= .int .i64 (-1)) rfl rfl
  rw[ahJ]at pt;have z:=ih (k+1) f (bg s pb (.cells (iv (q.set k (-1))) 0)) (q.set k (-1)) (by omega) (by omega) (by simpa using hl) (λi hi=>by
   by_cases e:k=i
   . subst e;rw[Ze2 (by omega)]
   . rw[Zd7 e];exact hq i (by omega)) (bG _ _ _) k2
  rw[KC]at z;rw[<-z,uF];simp only[aH,bh,az,cY,aS,dG,ix,pt,eV,wr]
theorem ap2{pb:Pos}(x2 x7 x8 x13 x14 Li x16:AV){q:List Int}{g0:Nat}(hn:q.length<=1000000)(hg:g0<=1000000){s:St}(ht:s.heap.get pb=some (.cells (iv q) 0)){i:Nat}(F:Nat):∀(m k f:Nat),k+m=q.length->m<f->lf (AG q) g0 m k=some i->∀k8:Q2,
  fQ c F k8 f [x2,x7,x8,.int .i64 (q.length:Int),.slice pb 0 q.length (some q.length) 1,x13,x14,Li,x16,.int .i64 (((g0+k) % q.length:Nat):Int)] s=k8 [x2,x7,x8,.int .i64 (q.length:Int),.slice pb 0 q.length (some q.length) 1,x13,x14,Li,x16,.int .i64 (i:Int)] s:=by
 have hl:(AG q).length=q.length:=by unfold AG;rw[Za4]
 intro m;induction m with
 |zero=>intro k f _ _ h;cases h
 |succ m ih=>
  intro k f hk hf h k8;obtain⟨f,rfl⟩:∃g,f=g+1:=⟨f - 1,by omega⟩
  have hi:(g0+k) % q.length<q.length:=Zk0 _ (by omega);have wr:av .i64 (((g0+k) % q.length:Nat)+1:Int)=(((g0+k) % q.length+1:Nat):Int):=by rw[wrap64 (by omega) (by omega)];omega
  have rm:∀(K:AV->St->Option (AV×St))(s:St),aq c (.bin .rem .num) [.int .i64 (((g0+k) % q.length+1:Nat):Int),.int .i64 (q.length:Int)] s K=K (.int .i64 (((g0+(k+1)) % q.length:Nat):Int)) s:=λK s=>by
    rw[cO (by omega) (by omega), <-Zn0,Nat.mod_add_mod,Zj1]
  have z:=λh=>ih (k+1) f (by omega) (by omega) h k8
  unfold lf at h;rw[hl]at h;generalize (g0+k) % q.length=a at*
  have ix:=λ(K:AV->St->Option (AV×St))(s1:St)=>fG c K s1 (b:=pb) (off:=0) (len:=q.length) (es:=1) (es':=1) (cap:=some q.length) (k:= .i64) (i:=a) hi
  simp only[Zb6,Zk4]at ix;have ec:=anz hi;have eg:(AG q).getD a true=decide (0<=q[a]):=by unfold AG;rw[Zb1,Zb7,H0 hi];rfl
  rw[eg]at h;rw[FN];by_cases h0:0<=q[a]
  . rw[Za0 h0,Za7 (by decide)]at h;rw[<-z h];simp only[aH,bh,az,ix,aU,ht,aB,Za8,ec,aV,Yo,Za0 h0,dG,eV,wr,rm]
  . rw[Za1 h0,Zb3 rfl]at h;obtain rfl:=Zg3 h;simp only[aH,bh,az,ix,aU,ht,aB,Za8,ec,aV,Yo,Za1 h0,di]
section
variable{sB s : St}{pb wb jb b3 : Pos}{fv : AV}{q W L : List Int}{j : Jc}{J : Jt}{Vs : List AV}{V5 : AV}
theorem ahK(hc:bw c)(O:WA J)(jw:JW sB jb j J)(w0:Wf sB)(hq:Cc J q)(hL:Cc J L){k n:Nat}(hk:k=n->q=L)(AL:∀g,g<J.n->0<=qF L g)(hkn:k<=1000000)(hnn:n<=1000000)
  (hb:sB.heap.get b3=some (.cells Vs 0)) (h4:Vs[4]? =some V5) (hV:QS 6 sB V5 (J.p.rs.map Rl.cells)) (x2 Li:AV) (F:Nat):
  ∀ (m i f:Nat)(s:St)(W:List Int),i+m=J.p.rs.length->m<f->WV sB s pb wb fv q W L->W.length=J.p.rs.length->(∀(a:Nat)(r:Rl),J.p.rs[a]? =some r->qF W a<=(lJ J q r:Nat))->∃s' W',WV sB s' pb wb fv q W' L/\W'.length=J.p.rs.length/\(∀(a:Nat)(r:Rl),J.p.rs[a]? =some r->qF W' a<=(lJ J q r:Nat))/\
    ∀   k1 k6:Q2,fR c F k1 k6 f [x2,.ptr jb 0,.ptr b3 0,.int .i64 (n:Int),.slice pb 0 q.length (some q.length) 1,fv,.slice wb 0 J.p.rs.length (some J.p.rs.length) 1,Li,.int .i64 (k:Int),.int .i64 (i:Int)] s=
        k6 [x2,.ptr jb 0,.ptr b3 0,.int .i64 (n:Int),.slice pb 0 q.length (some q.length) 1,fv,.slice wb 0 J.p.rs.length (some J.p.rs.length) 1,Li,.int .i64 (k:Int)] s':=by
 have lm:=jw.xR.rs;intro m;induction m with
 |zero=>
  intro i f s W hi hf G hW hw;obtain⟨f,rfl⟩:∃g,f=g+1:=⟨f - 1,by omega⟩
  have ln:=λ(K:AV->St->Option (AV×St))=>(hV.ai G.ai).lenB (c:=c) K s
  rw[Za4]at ln;have b:=G.ai.get hb;have aS:decide ((i:Int)<(J.p.rs.length:Int))=false:=Za1 (by omega);refine⟨s,W,G,hW,hw,λk1 k6=> ?_⟩;rw[uD];simp only[aH,bh,az,aO,Zb6,aU,b,aB,Za8,h4,aV,ln,cY,aS,di]
 |succ m ih=>
  intro i f s W hi hf G hW hw;obtain⟨f,rfl⟩:∃g,f=g+1:=⟨f - 1,by omega⟩
  have ln:=λ(K:AV->St->Option (AV×St))=>(hV.ai G.ai).lenB (c:=c) K s
  rw[Za4]at ln;have b:=G.ai.get hb;have him:i<J.p.rs.length:=by omega
  have aS:decide ((i:Int)<(J.p.rs.length:Int))=true:=Za0 (by omega);have wr:av .i64 ((i:Int)+1)=((i+1:Nat):Int):=by rw[wrap64 (by omega) (by omega)];omega
  have hr:=H0 him;have hiW:i<W.length:=by omega
  have w1:=hw i _ hr;rw[jt (H0 hiW)]at w1;obtain⟨mm,R⟩:=O.rul _ (Zb8 him);have jw':=jw.ai G.ai;have ls:=apS hc O jw' G.ai.wf (QS.vec G.part) hq hr;have fs:=aeO hc O jw' G.ai.wf (QS.vec G.part) hq hr;have ff:=aeO hc O jw' G.ai.wf G.full hL hr;have c1:=arp J q J.p.rs[i];have d1:decide (((lJ J q J.p.rs[i]:Nat):Int)<W[i])=false:=Za1 (by omega);have d2:decide (((fJ J q J.p.rs[i]:Nat):Int)<((lJ J q J.p.rs[i]:Nat):Int))=false:=Za1 (by omega);have ix:=λ(K:AV->St->Option (AV×St))(s1:St)=>fG c K s1 (b:=wb) (off:=0) (len:=J.p.rs.length) (es:=1) (es':=1) (cap:=some J.p.rs.length) (k:= .i64) (i:=i) him
  simp only[Zb6,Zk4]at ix;have ec:=anz hiW;have was:=G.was;have pt:=λ(K:AV->St->Option (AV×St))=>wU (c:=c) K G.was (o:=i) (by rw[Za4];omega) (v:= .int .i64 ((lJ J q J.p.rs[i]:Nat):Int)) rfl rfl
  rw[ahJ]at pt;obtain⟨s',W',z1,z2,z3,z4⟩:=ih (i+1) f _ _ (by omega) (by omega) (G.setW w0 (W.set i ((lJ J q J.p.rs[i]:Nat):Int))) (by rw[Zk6];exact hW) (λa r ha=>by
    by_cases e:i=a
    .   subst e;rw[hr]at ha;obtain rfl:=Zg3 ha;rw[jt (Ze2 hiW)];exact Int.le_refl _
    .   have:=hw a r ha;unfold qF at this ⊢;rw[Zb1,Zd7 e, <-Zb1];exact this)
  refine⟨s',W',z1,z2,z3,λk1 k6=> ?_⟩;rw[<-z4 k1 k6,uD];by_cases e:k=n
  . have e2:=hk e;have full:lJ J q J.p.rs[i]=fJ J L J.p.rs[i]:=(by rw[e2];exact aeX AL _);have d3:decide ((k:Int)=(n:Int))=true:=Za0 (by omega);have d4:decide (((lJ J q J.p.rs[i]:Nat):Int)=((fJ J L J.p.rs[i]:Nat):Int))=true:=Za0 (by omega);simp only[aH,bh,az,aO,Zb6,aU,b,aB,Za8,h4,aV,ln,cY,aS,dG,cC,ls,bS,ix,was,ec,d1,gU,fs,oo,d2,ja,ez,d3,ff,Ph,d4,Zk3,CU,di,pt,eV,wr]
  . have d3:decide ((k:Int)=(n:Int))=false:=Za1 (by omega);simp only[aH,bh,az,aO,Zb6,aU,b,aB,Za8,h4,aV,ln,cY,aS,dG,cC,ls,bS,ix,was,ec,d1,gU,fs,oo,d2,ja,ez,d3,amQ,di,pt,eV,wr]
end
section
variable{sB : St}{pb wb jb b3 : Pos}{fv : AV}{L : List Int}{j : Jc}{J : Jt}{Vs : List AV}{V5 : AV}
theorem ap3(hc:bw c)(O:WA J)(jw:JW sB jb j J)(w0:Wf sB)(hL:Cc J L)(AL:∀g,g<J.n->0<=qF L g)
  (hb:sB.heap.get b3=some (.cells Vs 0)) (h4:Vs[4]? =some V5) (hV:QS 6 sB V5 (J.p.rs.map Rl.cells)) (z2:Bool) (ys:List Int) (F:Nat) (hF:L.length+1<F) (ZR:J.p.rs.length<F):
  ∀ (m k f:Nat)(s:St)(q W:List Int)(fl:Nat),k+m=L.length->m+1<f->WV sB s pb wb fv q W L->W.length=J.p.rs.length->(∀(a:Nat)(r:Rl),J.p.rs[a]? =some r->qF W a<=(lJ J q r:Nat))->Sub q L->mo (AG q)=m->fl<=iI (lJ J q) J.p.rs->∃s' q' W',WV sB s' pb wb fv q' W' L/\
    ∀   k1 k4:Q2,iJ c F k1 k4 f [ints z2 ys,.ptr jb 0,.ptr b3 0,.int .i64 (L.length:Int),.slice pb 0 L.length (some L.length) 1,fv,.slice wb 0 J.p.rs.length (some J.p.rs.length) 1,.int .i64 (fl:Int),.int .i64 (k:Int)] s=
        k4 [.ptr jb 0,fv] s':=by
 have ln0:L.length<=100:=by rw[hL.len];exact jw.xR.gs
 have arq:∀q,Sub q L->iI (lJ J q) J.p.rs<=iI (fJ J L) J.p.rs:=λq hs=>WU λr hr=>by
  obtain⟨mm,R⟩:=O.rul r hr;exact Zb2 (aj6 R (hs.ext _)) (arp J L r)
 intro m;induction m with
 |zero=>
  intro k f s q W fl hk hf G hW hw hs sO hfl;obtain⟨f,rfl⟩:∃g,f=g+1:=⟨f - 1,by omega⟩
  obtain rfl:k=L.length:=by omega
  obtain rfl:=hs.full sO;obtain⟨s1,W1,G1,hW1,cN,e1⟩:=ahK (c:=c) (F:=F) hc O jw w0 hL hL (k:=q.length) (n:=q.length) (λ_=>rfl) AL (by omega) (by omega) hb h4 hV (ints z2 ys) (.int .i64 (fl:Int)) J.p.rs.length 0 F s W (by omega) ZR G hW hw;simp only[show((0:Nat):Int)=0 from rfl]at e1;have hle:decide ((q.length:Int)<=(q.length:Int))=true:=Za0 (Int.le_refl _);have jw':=jw.ai G1.ai;have fo:=aa6 hc O jw' G1.ai.wf (QS.vec G1.part) hL;have co:=adL hc O jw' G1.ai.wf G1.full hL;have d1:decide (((iI (lJ J q) J.p.rs:Nat):Int)<(fl:Int))=false:=Za1 (by omega);have:=arq q hs;have d2:decide (((iI (fJ J q) J.p.rs:Nat):Int)<((iI (lJ J q) J.p.rs:Nat):Int))=false:=Za1 (by omega);refine⟨s1,q,W1,G1,λk1 k4=> ?_⟩;rw[uE];simp only[aH,bh,az,adu,hle,dG,iH,e1,cC,fo,bS,cY,d1,gU,co,oo,d2,ja,di,ez,Zg1,dG]
 |succ m ih=>
  intro k f s q W fl hk hf G hW hw hs sO hfl;obtain⟨f,rfl⟩:∃g,f=g+1:=⟨f - 1,by omega⟩
  have hq:=hs.paO hL;have jz:=hs.len;obtain⟨s1,W1,G1,hW1,cN,e1⟩:=ahK (c:=c) (F:=F) hc O jw w0 hq hL (k:=k) (n:=L.length) (λe=>by omega) AL (by omega) (by omega) hb h4 hV (ints z2 ys) (.int .i64 (fl:Int)) J.p.rs.length 0 F s W (by omega) ZR G hW hw;simp only[show((0:Nat):Int)=0 from rfl]at e1;have hle:decide ((k:Int)<=(L.length:Int))=true:=Za0 (by omega);have jw':=jw.ai G1.ai;have fo:=aa6 hc O jw' G1.ai.wf (QS.vec G1.part) hq;have co:=adL hc O jw' G1.ai.wf G1.full hL;have d1:decide (((iI (lJ J q) J.p.rs:Nat):Int)<(fl:Int))=false:=Za1 (by omega);have:=arq q hs;have d2:decide (((iI (fJ J L) J.p.rs:Nat):Int)<((iI (lJ J q) J.p.rs:Nat):Int))=false:=Za1 (by omega);have d3:decide ((k:Int)=(L.length:Int))=false:=Za1 (by omega);have wr:Unit->av .i64 ((k:Int)+1)=((k+1:Nat):Int):=λ_=>by rw[wrap64 (by omega) (by omega)];omega
  have hL1:0<L.length:=by omega
  obtain⟨g0,zF⟩:∃g0:Nat,g0=match ys[k]? with|some x=>ru x L.length|none=>0:=⟨_,rfl⟩
  have hg1:g0<L.length:=by
    rw[zF];split
    .   exact aa7 _ hL1
    .   exact hL1
  have hlT:(AG q).length=q.length:=by unfold AG;rw[Za4]
  obtain⟨i,hi⟩:∃i,lf (AG q) g0 q.length 0=some i:=by
    have:=Go.Ai.tT (AG q) g0;unfold mO at this;rw[hlT]at this;cases e:lf (AG q) g0 q.length 0 with
    |some i=>exact⟨i,rfl⟩
    |   none=>
        rw[e]at this;rcases this with⟨_,_,h⟩|⟨a,h,h2⟩
        . omega
        . simp only[Zc9]at h;have:=h.2;omega
  have Vp:=Bf hi;have l3:=λk8=>ap2 (c:=c) (pb:=pb) (ints z2 ys) (.ptr jb 0) (.ptr b3 0) fv (.slice wb 0 J.p.rs.length (some J.p.rs.length) 1) (.int .i64 ((iI (lJ J q) J.p.rs:Nat):Int)) (.int .i64 (k:Int)) (q:=q) (g0:=g0) (by omega) (by omega) G1.part (i:=i) F q.length 0 F (by omega) (by omega) hi k8
  rw[Zf8,Zj9 (by omega)]at l3;have hiq:i<q.length:=by rw[<-hlT];exact(Za2.1 Vp).1
  have hqi:q[i]<0:=by unfold AG at Vp;rw[Zb7,H0 hiq]at Vp;have:=Zl9 (Zg3 Vp);omega
  have hiL:i<L.length:=by omega
  have hLi:=H0 hiL;have hL0:0<=L[i]:=by have:=AL i (by rw[<-hL.len];exact hiL);rwa [jt hLi]at this
  have rI:=hs.set hLi;have hfr2:mo (AG (q.set i L[i]))=m:=by rw[ast hL0];have:=Nf Vp;omega
  have mono:∀r∈J.p.rs,lJ J q r<=lJ J (q.set i L[i]) r:=λr hr=>by
    obtain⟨mm,R⟩:=O.rul r hr;exact aj6 R (ass (H0 hiq) hqi _)
  obtain⟨rb,ro',p⟩:=qq G1.full hLi;have p1:=λ{R}=>@p.st R
  have p3:=p.one;have ix:=λ(K:AV->St->Option (AV×St))(s1:St)=>fG c K s1 (b:=pb) (off:=0) (len:=q.length) (es:=1) (es':=1) (cap:=some q.length) (k:= .i64) (i:=i) hiq
  simp only[Zb6,Zk4]at ix;have pt:=λ(K:AV->St->Option (AV×St))=>wU (c:=c) K G1.part (o:=i) (by rw[Za4];omega) (v:= .int .i64 L[i]) rfl rfl
  rw[ahJ]at pt;obtain⟨s',q',W',y1,y2⟩:=ih (k+1) f _ _ _ (iI (lJ J q) J.p.rs) (by omega) (by omega) (G1.setP w0 (q.set i L[i])) hW1 (λa r ha=>by
    have h1:=cN a r ha;have h2:=mono r (Zb9 ha);omega) rI hfr2 (WU mono)
  rw[jz]at e1 l3 ix fo;refine⟨s',q',W',y1,λk1 k4=> ?_⟩;rw[<-y2 k1 k4,uE];by_cases xU:k<ys.length
  . rw[H0 xU]at zF;have pk:=adM hc ys[k] (n:=L.length) (by omega) (by omega) s1;rw[show ru ys[k] L.length=g0 from zF.symm]at pk;have at':=So ys k xU;unfold ints at*
    have dH:decide ((k:Int)<(ys.length:Int))=true:=Za0 (by omega);simp only[aH,bh,az,adu,hle,dG,iH,e1,cC,fo,bS,cY,d1,gU,co,oo,d2,ja,di,ez,d3,iy,Za4,dH,RD,xU,Zh5,aV,ak0,at',pk,l3,p1,aU,p3,ix,pt,eV,wr ()]
  . rw[Zc1 (by omega)]at zF;have zF:g0=0:=zF;subst zF;have dH:decide ((k:Int)<(ys.length:Int))=false:=Za1 (by omega);simp only[show((0:Nat):Int)=0 from rfl]at l3;unfold ints at*
    simp only[aH,bh,az,adu,hle,dG,iH,e1,cC,fo,bS,cY,d1,gU,co,oo,d2,ja,di,ez,d3,iy,Za4,dH,l3,p1,aU,p3,ix,pt,aV,eV,wr ()]
end
set_option maxHeartbeats 1000000 in
theorem afv(hc:bw c){xt xg xy xr:List Nat}(ht:∀x∈xt,x<256)(hg:∀x∈xg,x<65536)(hy:∀x∈xy,x<256)(hr:∀x∈xr,x<4294967296)(lt:xt.length<=9223372036854775807)(lg:xg.length<=9223372036854775807)(lr:xr.length<=9223372036854775807)(ly:xy.length<=9223372036854775807)
  (zt zg zy zr z1 z2:Bool) (xs ys:List Int) (_lx:xs.length<=9223372036854775807) (_ly:ys.length<=9223372036854775807) (st:St) (hw:Wf st):c 5 [.agg (jG zt zg zy zr xt xg xy xr),ints z1 xs,ints z2 ys] st=some (.bool true,st):=by
 have g1:=Grew.ah hw (.cells (jG zt zg zy zr xt xg xy xr) 0);have ld4:∀(K:AV->St->Option (AV×St)),aq c (.load (some 4)) [.ptr st.next 0] (ah st (.cells (jG zt zg zy zr xt xg xy xr) 0)) K=K (.agg (jG zt zg zy zr xt xg xy xr)) (ah st (.cells (jG zt zg zy zr xt xg xy xr) 0)):=λK=>by rw[fj,aA];rfl
 obtain⟨Vs,s2,jb,j,J,s0,e2,g2,P2,Jg2⟩:=apZ hc ht hg hy hr lt lg lr ly zt zg zy zr _ g1.wf;obtain⟨vl,vo⟩:=P2.cells;have w2:=g2.wf;have st5:∀(K:AV->St->Option (AV×St)),aq c (.store 5) [.ptr s2.next 0,.agg Vs] (ah s2 (.cells [.af,.af,.af,.af,.af] 0)) K=K .undef (ah s2 (.cells Vs 0)):=λK=>cw c K s2 5 (.agg Vs) _ vl rfl vo
 have g3:=Grew.ah w2 (.cells Vs 0);have x3:=aA s2 (.cells Vs 0);obtain⟨s3,Gx⟩:∃s3,s3=ah s2 (.cells Vs 0):=⟨_,rfl⟩
 obtain⟨b3,hb3⟩:∃b3,b3=s2.next:=⟨_,rfl⟩
 rw[<-Gx]at st5 g3 x3;rw[<-hb3]at st5 x3;have w3:=g3.wf;have P3:=P2.RX g3;have TN:=Jg2.ai g3;have xR:=yL xt xg xy xr;have sz:=anw (xg:=xg) (xy:=xy) (xr:=xr) ht;have hN:=TN.sum;have hn:=TN.n;have O:=TN.ok;obtain⟨n,hnn⟩:∃n,n=J.n:=⟨_,rfl⟩
 have n100:n<=100:=by rw[hnn];exact TN.jw.xR.gs
 have m100:J.p.rs.length<=100:=TN.jw.xR.rs;obtain⟨V1,V2,V3,V4,V5,r1,r2,rfl,_,hG,_,_,h5⟩:=P3.all;have hGl:=hG.out.own.len;have lnG:=λ(K:AV->St->Option (AV×St))=>hG.out.own.lenB (c:=c) K s3
 rw[hG.len, <-hn, <-hnn]at lnG;have c1:([V1,V2,V3,V4,V5]:List AV)[1]? =some V2:=rfl;have c4:([V1,V2,V3,V4,V5]:List AV)[4]? =some V5:=rfl;have mk:=λ(K:AV->St->Option (AV×St))=>KE c K s3 (es:=1) (bytes:=8) (z:=[.int .i64 0]) (k:= .i64) (k':= .i64) (n:=n) (by omega) (by omega)
 rw[sZ,anA]at mk;have gA:=Grew.ah w3 (.cells (iv (List.replicate n (0:Int))) 0);obtain⟨s4,ZS⟩:∃s4,s4=bg (ah s3 (.cells (iv (List.replicate n (0:Int))) 0)) s3.next (.cells (iv (List.replicate n (-1))) 0):=⟨_,rfl⟩
 obtain⟨pb,Np⟩:∃pb,pb=s3.next:=⟨_,rfl⟩
 have l0:=λk2=>ap1 (c:=c) (pb:=s3.next) (ints z1 xs) (ints z2 ys) (.ptr jb 0) (.ptr b3 0) (n:=n) (by omega) (max (n+2) (J.p.rs.length+1)) n 0 (max (n+2) (J.p.rs.length+1)) _ (List.replicate n (0:Int)) (by omega) (by omega) (by simp) (λi hi=>by omega) (aA s3 _) k2
 have gX:Grew s3 s4:=by rw[ZS];exact qM w3 gA (Za3 _) (by rw[bM,Pos.aF];omega) _
 have x4:s4.heap.get pb=some (.cells (iv (List.replicate n (-1))) 0):=by rw[ZS,Np];exact bG _ _ _
 rw[<-ZS, <-Np]at l0;rw[<-Np]at mk;simp only[show((0:Nat):Int)=0 from rfl]at l0;have P4:=P3.RX gX;have Jg4:=TN.ai gX;have A:Cc J (List.replicate n (-1)):=ahE (by rw[Zl1,hnn]) (λx hx=>by obtain⟨_,rfl⟩:=Zq0.1 hx;omega) (λa b x _ ha _=>by
  rw[Zi1]at ha;split at ha
  . have:=Zg3 ha;omega
  . cases ha)
 have qv:=QS.vec x4;rw[Zl1]at qv;obtain⟨s5,v5,e5,M5⟩:=asn hc P4 sz xR.ts hN (q:=List.replicate n (-1)) (λh=>by rw[Zl1]at h;have:=TN.fit;omega) (by rw[Zl1];omega) A.ok qv z1 xs;obtain⟨B,EX,AL⟩:=asq A TN.fit xs;obtain⟨L,hLd⟩:∃L,L=dL (oK (List.replicate J.N false) (List.replicate n (-1))) (rJ (Cd J.N (List.replicate n (-1)) xs) (List.replicate n (-1:Int)).length 0):=⟨_,rfl⟩
 rw[<-hLd]at B EX AL M5;have g5:=M5.ai;have w5:=g5.wf;have hLl:L.length=n:=by rw[B.len,hnn]
 have h5':=h5.grow ((gX.trans g5));have rl5:=h5'.own;have srs:J.p.rs=(oM xt xg xy xr).rs:=TN.sim.rs;have hV5:QS 6 s5 V5 (J.p.rs.map Rl.cells):=by rw[srs];exact rl5
 have lnR:=λ(K:AV->St->Option (AV×St))=>hV5.lenB (c:=c) K s5
 rw[Za4]at lnR;have x35:=(gX.trans g5).get x3;have mk2:=λ(K:AV->St->Option (AV×St))=>KE c K s5 (es:=1) (bytes:=8) (z:=[.int .i64 0]) (k:= .i64) (k':= .i64) (n:=J.p.rs.length) (by omega) (by omega)
 rw[sZ,anA]at mk2;have g6:=Grew.ah w5 (.cells (iv (List.replicate J.p.rs.length (0:Int))) 0);have x45:=(g5.trans g6).get x4;have hp3:s3.next.toNat<=pb.toNat:=by rw[Np];exact Za3 _
 have ET:pb.toNat<s4.next.toNat:=gX.wf _ _ x4;have g5n:=g5.next;have gXn:=gX.next;have G:WV s3 (ah s5 (.cells (iv (List.replicate J.p.rs.length (0:Int))) 0)) pb s5.next v5 (List.replicate n (-1)) (List.replicate J.p.rs.length 0) L:=
  ⟨gX.trans (g5.trans g6),x45,aA _ _,M5.own.ai g6,hp3,by omega,λe=>by rw[e]at ET;omega,λb hb=>⟨λe=>by have:=M5.new b hb;rw[e]at this;omega,λe=>by have:=M5.own.lt w5 hb;rw[e]at this;omega⟩⟩
 have O:=TN.ok;have KU:List.replicate n (-1:Int)=List.replicate L.length (-1):=by rw[hLl]
 obtain⟨s7,q',W',G7,e7⟩:=ap3 (c:=c) (J:=J) (L:=L) hc O TN.jw w3 B AL x3 c4 (by rw[srs];exact h5.own) z2 ys (max (n+2) (J.p.rs.length+1)) (by omega) (by omega) n 0 (max (n+2) (J.p.rs.length+1)) _ (List.replicate n (-1)) (List.replicate J.p.rs.length 0) 0 (by omega) (by omega) G (by simp) (λa r _=>by
  have:qF (List.replicate J.p.rs.length (0:Int)) a<=0:=by unfold qF;rw[Zb1,Zi1];split<;>simp
  omega) (by rw[KU];exact Sub.none L) (ahI n) (Zi0 _)
 rw[hLl]at e7;simp only[show((0:Nat):Int)=0 from rfl]at e7;have jw7:=TN.jw.ai G7.ai;have fo:=aa6 hc O jw7 G7.ai.wf G7.full B;have co:=adL hc O jw7 G7.ai.wf G7.full B;have eLF:iI (lJ J L) J.p.rs=iI (fJ J L) J.p.rs:=by
  have:lJ J L=fJ J L:=funext λr=>aeX AL r
  rw[this]
 rw[eLF]at fo;have aw:=auH hc s7;have alp:=(g1.trans g2).trans (g3.trans G7.ai);have ld5:=aeW (c:=c) (R:=AV×St) (gX.get x3) rfl;rw[GW hc (max (n+2) (J.p.rs.length+1)) (r:=(.bool true,s7)),aE (Plain.bool _) alp.keeps];rw[Km];simp only[dm,show ∀l,AV.cells (.agg l)=l from λl=>rfl,az,ld4,cC,e2,bS,jM,Za5,Zc0,aV,dh, <-Gx, <-hb3,st5,FE,Zk3,di,aO,Zb6,aU,x3,aB,Za8,lnG,mk,l0,aH,bh,ld5,e5,x35,c1,c4,lnR,mk2,e7,fo,co,ez,Zg1,gU,aw,CU]
end
section
set_option maxRecDepth 100000
open Go Go.Ai Go.Proofs Go.RowKit
theorem aba{α:Type}{P:α->Prop}{cells:α->List AV}:∀(rs:List (List AV)),(∀r∈rs,∃t,r=cells t/\P t)->∃l:List α,rs=l.map cells/\∀t∈l,P t
 |[],_=>⟨[],rfl,by simp⟩
 |r::rs,h=>by
  obtain⟨t,rfl,ht⟩:=h r (by simp);obtain⟨l,rfl,hl⟩:=aba rs (λq hq=>h q (Za9 _ hq));refine⟨t::l,rfl,λu hu=> ?_⟩;rcases Zb0.1 hu with rfl|hu
  . exact ht
  . exact hl u hu
section
variable{H : Type}{enc : TypeId × Value -> H}{w : World}{base : Nat}{spare : Nat -> Bool}{held : Bool}
theorem wf_u8{i:Int}(h:(Lit.int .u8 i).wf=true):0<=i/\i<256:=by
 have e1:IntKind.min .u8=0:=by decide
 have e2:IntKind.max .u8=255:=by decide
 have h:(decide (IntKind.min _<=i)&&decide (i<=IntKind.max _))=true:=h;rw[e1,e2,Zb5,Ze4,Ze4]at h;omega
theorem wf_u16{i:Int}(h:(Lit.int .u16 i).wf=true):0<=i/\i<65536:=by
 have e1:IntKind.min .u16=0:=by decide
 have e2:IntKind.max .u16=65535:=by decide
 have h:(decide (IntKind.min _<=i)&&decide (i<=IntKind.max _))=true:=h;rw[e1,e2,Zb5,Ze4,Ze4]at h;omega
theorem wf_u32{i:Int}(h:(Lit.int .u32 i).wf=true):0<=i/\i<4294967296:=by
 have e1:IntKind.min .u32=0:=by decide
 have e2:IntKind.max .u32=4294967295:=by decide
 have h:(decide (IntKind.min _<=i)&&decide (i<=IntKind.max _))=true:=h;rw[e1,e2,Zb5,Ze4,Ze4]at h;omega
def GY(k:IntKind)(n:Nat)(vs:List AV):Prop:=∃(z:Bool) (l:List Nat),vs=[eJ k z l]/\(∀x∈l,x<n)/\l.length<=9223372036854775807
theorem Sx{t e:TypeId}{k:IntKind}{n:Nat}(ht:Tryz.prog.underlying t=some (.slice e))(he:Tryz.prog.underlying e=some (.int k))(hc:Tryz.prog.cellsOf e=1)(hk:∀i,(Lit.int k i).wf=true->0<=i/\i<(n:Int)):
  o8 enc Tryz.prog w base spare held t (GY k n):=by
 refine o8.mono (ZO (es:=1) ht hc (by omega) (λvs h=>by obtain⟨i,rfl,_⟩:=h;rfl) (aeC he)) λvs h=> ?_
 obtain⟨z,rs,rfl,h1,h2⟩:=h;obtain⟨l,rfl,hl⟩:=aba (P:=λx:Nat=>x<n) (cells:=λx:Nat=>[AV.int k (x:Int)]) rs λr hr=>by
  obtain⟨i,rfl,hi⟩:=h1 r hr;have:=hk i hi;exact⟨i.toNat,by rw[show((i.toNat:Nat):Int)=i by omega],by omega⟩
 refine⟨z,l,rfl,hl,?_⟩;rw[Za4]at h2;unfold Go.maxLen at h2;omega
def atH(vs:List AV):Prop:=∃(z:Bool) (l:List Int),vs=[ints z l]/\l.length<=9223372036854775807
theorem ahL:o8 enc Tryz.prog w base spare held 27 atH:=by
 refine o8.mono (ZO (es:=1) (e:=3) (by kernel_rfl) (by kernel_rfl) (by omega) (λvs h=>by obtain⟨i,rfl,_⟩:=h;rfl) (aeC (k:= .i64) (by kernel_rfl))) λvs h=> ?_
 obtain⟨z,rs,rfl,h1,h2⟩:=h;obtain⟨l,rfl,_⟩:=aba (P:=λ_:Int=>True) (cells:=λx:Int=>[AV.int .i64 x]) rs λr hr=>by
  obtain⟨i,rfl,hi⟩:=h1 r hr;exact⟨i,rfl,trivial⟩
 refine⟨z,l,rfl,?_⟩;rw[Za4]at h2;unfold Go.maxLen at h2;omega
theorem aeY:o8 enc Tryz.prog w base spare held 22 (GY .u8 256):=Sx (e:=5) (by kernel_rfl) (by kernel_rfl) (by kernel_rfl) λ_ h=>wf_u8 h
theorem alr:o8 enc Tryz.prog w base spare held 23 (GY .u16 65536):=Sx (e:=99) (by kernel_rfl) (by kernel_rfl) (by kernel_rfl) λ_ h=>wf_u16 h
theorem als:o8 enc Tryz.prog w base spare held 24 (GY .u32 4294967296):=Sx (e:=102) (by kernel_rfl) (by kernel_rfl) (by kernel_rfl) λ_ h=>wf_u32 h
structure auI(xt xg xy xr:List Nat):Prop where
 t:∀x∈xt,x<256
 g:∀x∈xg,x<65536
 y:∀x∈xy,x<256
 r:∀x∈xr,x<4294967296
 lt:xt.length<=9223372036854775807
 lg:xg.length<=9223372036854775807
 ly:xy.length<=9223372036854775807
 lr:xr.length<=9223372036854775807
theorem afw:o8 enc Tryz.prog w base spare held 26 λvs=>∃zt zg zy zr xt xg xy xr,vs=jG zt zg zy zr xt xg xy xr/\auI xt xg xy xr:=by
 refine o8.mono (ag9 [22,23,22,24] (Qs:=[GY .u8 256,GY .u16 65536,GY .u8 256,GY .u32 4294967296]) (by kernel_rfl) (by kernel_rfl) (by kernel_rfl) ⟨aeY,alr,aeY,als,trivial⟩) λvs h=> ?_
 obtain⟨ps,rfl,m0⟩:=h;obtain⟨p0,q0,rfl,⟨z1,l1,rfl,a1,b1⟩,m1⟩:=GG m0;obtain⟨p0,q0,rfl,⟨z2,l2,rfl,a2,b2⟩,m2⟩:=GG m1;obtain⟨p0,q0,rfl,⟨z3,l3,rfl,a3,b3⟩,m3⟩:=GG m2;obtain⟨p0,q0,rfl,⟨z4,l4,rfl,a4,b4⟩,m4⟩:=GG m3;obtain rfl:=ahi m4;exact⟨z1,z2,z3,z4,l1,l2,l3,l4,rfl,⟨a1,a2,a3,a4,b1,b2,b3,b4⟩⟩
end
end
end Go.Proofs.YtgihekklfnjkiaaGreatDoor
namespace Go.Proofs.YtgihekklfnjkiaaGreatDoor.Dh
section
set_option maxRecDepth 100000
open Go
theorem k1:(Rows.judgeGrowsRow.inPlace==Tryz.pinned.checked.prog.inPlace 5)=true:=by kernel_rfl
theorem k2:(Rows.judgeGrowsRow.unfollowed==Tryz.pinned.checked.prog.unfollowed 5)=true:=by kernel_rfl
theorem k3:(Rows.judgeGrowsRow.recurses==Tryz.pinned.checked.prog.recurses 5)=true:=by kernel_rfl
theorem k4:(Rows.judgeGrowsRow.named==Tryz.pinned.checked.prog.varsNamed 5)=true:=by kernel_rfl
theorem k5:laidOutB Tryz.pinned.checked.prog=true:=by kernel_rfl
theorem k6:mapsRowed Tryz.pinned.checked.prog=true:=by kernel_rfl
theorem k7:(Rows.judgeGrowsRow.plainKeys==Tryz.pinned.checked.prog.plainKeys)=true:=by kernel_rfl
theorem closed:joinedFacts Tryz.pinned.checked.prog 5 Tryz.f5 (OpenSpec.ofChange Rows.judgeGrowsSpec).bare Rows.judgeGrowsRow=true:=by
 unfold joinedFacts;rw[k1,k2,k3,k4,k5,k6,k7]
 kernel_rfl
end
end Go.Proofs.YtgihekklfnjkiaaGreatDoor.Dh
