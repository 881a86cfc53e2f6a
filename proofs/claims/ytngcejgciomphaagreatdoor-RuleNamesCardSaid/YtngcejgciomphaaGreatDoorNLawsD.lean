/- Copies and lists. -/
import Derived.Test.YtngcejgciomphaaGreatDoorNLawsB
set_option linter.all false
set_option maxRecDepth 100000
set_option maxHeartbeats 1000000
namespace Go.Proofs.YtngcejgciomphaaGreatDoor
section
open Go Go.Ai Go.Proofs
structure KX(p:Pos)(sA s:St):Prop where
 wf:Wf s
 next:sA.next.toNat<=s.next.toNat
 keep:∀(b:Pos)(x:AB),b≠p->sA.heap.get b=some x->s.heap.get b=some x
theorem KX.refl{p:Pos}{s:St}(hw:Wf s):KX p s s:=⟨hw,Za6 _,λ_ _ _ h=>h⟩
theorem KX.trans{p:Pos}{a b d:St}(h:KX p a b)(g:KX p b d):KX p a d:=⟨g.wf,Zb7 h.next g.next,λq x hq hx=>g.keep q x hq (h.keep q x hq hx)⟩
theorem KX.store{p:Pos}{a b:St}(h:KX p a b)(hp:p.toNat<b.next.toNat)(x:AB):KX p a (bI b p x):=
 ⟨jI h.wf hp,h.next,λq y hq hy=>by rw[aO (λe=>hq e.symm)];exact h.keep q y hq hy⟩
theorem ajR{st s:St}{p:Pos}(h0:Wf st)(h:Grew st s)(hp:st.next.toNat<=p.toNat)(My:p.toNat<s.next.toNat)(b:AB):Grew st (bI s p b):=
 ⟨jI h.wf My,λq x hq=>by have:=h0 _ _ hq;rw[aO (λe=>by rw[e]at hp;omega)];exact h.get hq,by rw[eB];exact h.next⟩
variable{c:aq}
def aH.dA(t t':aH):Prop:=∃z,t'={ t with oz:=z }
def aS.dA(g g':aS):Prop:=∃z,g'={ g with tz:=z }
theorem adb{α:Type}(f:α->AV)(s:St)(d:Nat)(l:List α)(hf:∀a∈l,dM s d (f a)=f a):(l.map λa=>[f a]).map (λr=>r.map (dM s d))=l.map λa=>[f a]:=by
 rw[Zi0];refine Zj5 λa ha=> ?_
 simp only[Function.comp,Zb1,Zd5,hf a ha]
theorem HS(s:St)(d:Nat)(k:IntKind)(i:Int):dM s d (.int k i)= .int k i:=by cases d<;>rfl
theorem Nj(s:St)(d:Nat)(l:List Nat):dM s d (.str l)= .str l:=by cases d<;>rfl
theorem ajS(s:St)(d:Nat)(b:Bool):dM s d (.bool b)= .bool b:=by cases d<;>rfl
theorem ade{s0 s:St}{v:AV}{l:List Int}(h:Mk 1 s0 s v (l.map dK))(d:Nat):∃z,dM s (d+1) v=ints z l:=by
 obtain⟨z,hz⟩:=h.own.dM (d:=d) h.row;refine⟨z,?_⟩;rw[hz];unfold ints;rw[adb (λi=>AV.int .i64 i) s d l λa _=>HS s d _ _]
theorem ajT{s0 s:St}{v:AV}{l:List (List Nat)}(h:Mk 1 s0 s v (l.map sN))(d:Nat):∃z,dM s (d+1) v=dY z l:=by
 obtain⟨z,hz⟩:=h.own.dM (d:=d) h.row;refine⟨z,?_⟩;rw[hz];unfold dY;rw[adb (λi=>AV.str i) s d l λa _=>Nj s d _]
theorem alF{s0 s:St}{v:AV}{l:List Ty}(h:Mk 3 s0 s v (l.map Ty.cells))(d:Nat):∃z,dM s (d+1) v=cj z l:=by
 obtain⟨z,hz⟩:=h.own.dM (d:=d) h.row;refine⟨z,?_⟩;rw[hz];unfold cj;rw[Zi0];congr 1;refine Zj5 λa _=> ?_
 simp only[Function.comp,Ty.cells,Zb1,Zd5,Nj,HS]
theorem alG{s0 s:St}{v:AV}{l:List Rl}(h:Mk 6 s0 s v (l.map Rl.cells))(d:Nat):∃z,dM s (d+1) v=dm z l:=by
 obtain⟨z,hz⟩:=h.own.dM (d:=d) h.row;refine⟨z,?_⟩;rw[hz];unfold dm;rw[Zi0];congr 1;refine Zj5 λa _=> ?_
 simp only[Function.comp,Rl.cells,Zb1,Zd5,Nj,HS]
theorem Wo{α:Type}(P:α->α->Prop)(cells:α->List AV)(g:List AV->List AV):∀(ts:List α)(rows:List (List AV)),rows.length=ts.length->(∀(i:Nat)(t:α)(r:List AV),ts[i]? =some t->rows[i]? =some r->∃t',P t t'/\g r=cells t')->
  ∃Da:List α,rows.map g=Da.map cells/\Da.length=ts.length/\∀(i:Nat)(t t':α),ts[i]? =some t->Da[i]? =some t'->P t t'
 |[],rows,hl,_=>⟨[],by rw[Zc1 hl];rfl,rfl,λi t t' h=>by simp at h⟩
 |t::ts,[],hl,_=>by simp at hl
 |t::ts,r::rows,hl,h=>by
  obtain⟨t',h1,h2⟩:=h 0 t r rfl rfl;obtain⟨Da,k1,k2,k3⟩:=Wo P cells g ts rows (by simpa using hl) (λi t r h3 h4=>h (i+1) t r (by simpa using h3) (by simpa using h4));refine⟨t'::Da,by simp[h2,k1],by simp[k2],λi u u' h3 h4=> ?_⟩;cases i with
  |zero=>simp at h3 h4;subst h3;subst h4;exact h1
  |succ i=>exact k3 i u u' (by simpa using h3) (by simpa using h4)
theorem TS.dM{s0 s:St}{V:AV}{ts:List aH}{rows:List (List AV)}(h:TS s0 s V ts rows)(d:Nat):∃z Da,Go.Ai.dM s (d+2) V=tabs z Da/\Da.length=ts.length/\∀(i:Nat)(t t':aH),ts[i]? =some t->Da[i]? =some t'->t.dA t':=by
 obtain⟨z,hz⟩:=h.out.own.dM (d:=d+1) h.out.row;obtain⟨Da,k1,k2,k3⟩:=Wo aH.dA aH.cells (λr=>r.map (Go.Ai.dM s (d+1))) ts rows h.len λi t r hi hr=>by
  obtain⟨v,rfl,hM,_⟩:=h.Aa i t r hi hr;obtain⟨z2,hz2⟩:=ade hM d;refine⟨{ t with oz:=z2 },⟨z2,rfl⟩,?_⟩;simp only[aH.aM,aH.cells,Zb1,Zd5,Nj,HS,hz2]
 refine⟨z,Da,?_,k2,k3⟩;rw[hz,k1];rfl
theorem GS.dM{s0 s:St}{V:AV}{ts:List aS}{rows:List (List AV)}(h:GS s0 s V ts rows)(d:Nat):∃z Da,Go.Ai.dM s (d+2) V=bD z Da/\Da.length=ts.length/\∀(i:Nat)(t t':aS),ts[i]? =some t->Da[i]? =some t'->t.dA t':=by
 obtain⟨z,hz⟩:=h.out.own.dM (d:=d+1) h.out.row;obtain⟨Da,k1,k2,k3⟩:=Wo aS.dA aS.cells (λr=>r.map (Go.Ai.dM s (d+1))) ts rows h.len λi t r hi hr=>by
  obtain⟨v,rfl,hM,_⟩:=h.Aa i t r hi hr;obtain⟨z2,hz2⟩:=ajT hM d;refine⟨{ t with tz:=z2 },⟨z2,rfl⟩,?_⟩;simp only[aS.aM,aS.cells,Zb1,Zd5,Nj,HS,ajS,hz2]
 refine⟨z,Da,?_,k2,k3⟩;rw[hz,k1];rfl
theorem amF(t:Ty)(H:Pos->Option AB)(n:Pos):aJ.run H n (.bin .neq (.struct [(0,.s),(1,.s),(2,.i)])) [.agg t.cells,.agg t.cells]=some (.val (.bool false)):=by
 simp[aJ.run,jg,pE,Le,eqFields,Ty.cells,nth,zG,cN,iy,fG]
theorem amG(t:Rl)(H:Pos->Option AB)(n:Pos):aJ.run H n (.bin .neq (.struct [(0,.i),(1,.i),(2,.s),(3,.s),(4,.s),(5,.i)])) [.agg t.cells,.agg t.cells]=some (.val (.bool false)):=by
 simp[aJ.run,jg,pE,Le,eqFields,Rl.cells,nth,zG,cN,iy,fG]
theorem alH(t:Ty)(K:AV->Option (AV×St)):gU (.bin .neq (.struct [(0,.s),(1,.s),(2,.i)])) [.agg t.cells,.agg t.cells] K=K (.bool false):=dJ K (amF t)
theorem alI(t:Rl)(K:AV->Option (AV×St)):gU (.bin .neq (.struct [(0,.i),(1,.i),(2,.s),(3,.s),(4,.s),(5,.i)])) [.agg t.cells,.agg t.cells] K=K (.bool false):=dJ K (amG t)
theorem aaZ(z z':Bool)(l:List (Int))(hl:l.length<cC)(F:Nat)(k1 k2)(s:St):∀(m k f:Nat),m<f->k+m=l.length->j9 c F k1 k2 f [ints z l,ints z' l,.int .i64 (k:Int)] s=k2 [] s:=by
 have lI:∀(z:Bool)(K:AV->St->Option (AV×St))(s:St),aj c (.lenB .l) [ints z l] s K=K (.int .i64 (l.length:Int)) s:=λz K s=>by unfold ints;rw[dh];simp
 intro m;induction m with
 |zero=>
  intro k f hf h1;obtain⟨f,rfl⟩:∃g,f=g+1:=⟨f - 1,by omega⟩
  obtain rfl:k=l.length:=by omega
  rw[yp];simp[lI]
 |succ m ih=>
  intro k f hf h1;obtain⟨f,rfl⟩:∃g,f=g+1:=⟨f - 1,by omega⟩
  have h:k<l.length:=by omega
  have w:az .i64 ((k:Int)+1)=((k+1:Nat):Int):=wrap64 (by omega) (by unfold cC at hl;omega);rw[<-ih (k+1) f (by omega) (by omega),yp];unfold ints at lI ⊢;simp[lI,h,w]
theorem LL(hc:Sem c)(z z':Bool)(l:List (Int))(hl:l.length<cC)(s:St):c 14 [ints z l,ints z' l] s=some (.bool true,s):=by
 have lI:∀(z:Bool)(K:AV->St->Option (AV×St))(s:St),aj c (.lenB .l) [ints z l] s K=K (.int .i64 (l.length:Int)) s:=λz K s=>by unfold ints;rw[dh];simp
 have L:=aaZ (c:=c) z z' l hl (l.length+1) (λvs Nh=>eP vs λx4 vs=>iD vs (some (x4,Nh))) (λvs Ni=>iD vs (aj c .move [.bool true] Ni λx4 tY=>some (x4,tY))) s l.length 0 (l.length+1) (by omega) (by omega);rw[JO hc (l.length+1) (r:=(.bool true,s)),aB (Plain.bool _) (bf.refl s)];rw[Nk];simp at L;simp[lI,L]
theorem Zm(z z':Bool)(l:List (List Nat))(hl:l.length<cC)(F:Nat)(k1 k2)(s:St):∀(m k f:Nat),m<f->k+m=l.length->jL c F k1 k2 f [dY z l,dY z' l,.int .i64 (k:Int)] s=k2 [] s:=by
 have lI:∀(z:Bool)(K:AV->St->Option (AV×St))(s:St),aj c (.lenB .l) [dY z l] s K=K (.int .i64 (l.length:Int)) s:=λz K s=>by unfold dY;rw[dh];simp
 intro m;induction m with
 |zero=>
  intro k f hf h1;obtain⟨f,rfl⟩:∃g,f=g+1:=⟨f - 1,by omega⟩
  obtain rfl:k=l.length:=by omega
  rw[xB];simp[lI]
 |succ m ih=>
  intro k f hf h1;obtain⟨f,rfl⟩:∃g,f=g+1:=⟨f - 1,by omega⟩
  have h:k<l.length:=by omega
  have w:az .i64 ((k:Int)+1)=((k+1:Nat):Int):=wrap64 (by omega) (by unfold cC at hl;omega);rw[<-ih (k+1) f (by omega) (by omega),xB];unfold dY at lI ⊢;simp[lI,h,w]
theorem adf(hc:Sem c)(z z':Bool)(l:List (List Nat))(hl:l.length<cC)(s:St):c 170 [dY z l,dY z' l] s=some (.bool true,s):=by
 have lI:∀(z:Bool)(K:AV->St->Option (AV×St))(s:St),aj c (.lenB .l) [dY z l] s K=K (.int .i64 (l.length:Int)) s:=λz K s=>by unfold dY;rw[dh];simp
 have L:=Zm (c:=c) z z' l hl (l.length+1) (λvs Nh=>eP vs λx4 vs=>iD vs (some (x4,Nh))) (λvs Ni=>iD vs (aj c .move [.bool true] Ni λx4 tY=>some (x4,tY))) s l.length 0 (l.length+1) (by omega) (by omega);rw[IM hc (l.length+1) (r:=(.bool true,s)),aB (Plain.bool _) (bf.refl s)];rw[LM];simp at L;simp[lI,L]
theorem aa0(z z':Bool)(l:List (Ty))(hl:l.length<cC)(F:Nat)(k1 k2)(s:St):∀(m k f:Nat),m<f->k+m=l.length->ke c F k1 k2 f [cj z l,cj z' l,.int .i64 (k:Int)] s=k2 [] s:=by
 have lI:∀(z:Bool)(K:AV->St->Option (AV×St))(s:St),aj c (.lenB .l) [cj z l] s K=K (.int .i64 (l.length:Int)) s:=λz K s=>by unfold cj;rw[dh];simp
 intro m;induction m with
 |zero=>
  intro k f hf h1;obtain⟨f,rfl⟩:∃g,f=g+1:=⟨f - 1,by omega⟩
  obtain rfl:k=l.length:=by omega
  rw[yq];simp[lI]
 |succ m ih=>
  intro k f hf h1;obtain⟨f,rfl⟩:∃g,f=g+1:=⟨f - 1,by omega⟩
  have h:k<l.length:=by omega
  have w:az .i64 ((k:Int)+1)=((k+1:Nat):Int):=wrap64 (by omega) (by unfold cC at hl;omega);rw[<-ih (k+1) f (by omega) (by omega),yq];unfold cj at lI ⊢;simp[lI,h,w,alH,Ty.len]
theorem ad6(hc:Sem c)(z z':Bool)(l:List (Ty))(hl:l.length<cC)(s:St):c 41 [cj z l,cj z' l] s=some (.bool true,s):=by
 have lI:∀(z:Bool)(K:AV->St->Option (AV×St))(s:St),aj c (.lenB .l) [cj z l] s K=K (.int .i64 (l.length:Int)) s:=λz K s=>by unfold cj;rw[dh];simp
 have L:=aa0 (c:=c) z z' l hl (l.length+1) (λvs Nh=>eP vs λx4 vs=>iD vs (some (x4,Nh))) (λvs Ni=>iD vs (aj c .move [.bool true] Ni λx4 tY=>some (x4,tY))) s l.length 0 (l.length+1) (by omega) (by omega);rw[JP hc (l.length+1) (r:=(.bool true,s)),aB (Plain.bool _) (bf.refl s)];rw[Nl];simp at L;simp[lI,L]
theorem Zn(z z':Bool)(l:List (Rl))(hl:l.length<cC)(F:Nat)(k1 k2)(s:St):∀(m k f:Nat),m<f->k+m=l.length->jM c F k1 k2 f [dm z l,dm z' l,.int .i64 (k:Int)] s=k2 [] s:=by
 have lI:∀(z:Bool)(K:AV->St->Option (AV×St))(s:St),aj c (.lenB .l) [dm z l] s K=K (.int .i64 (l.length:Int)) s:=λz K s=>by unfold dm;rw[dh];simp
 intro m;induction m with
 |zero=>
  intro k f hf h1;obtain⟨f,rfl⟩:∃g,f=g+1:=⟨f - 1,by omega⟩
  obtain rfl:k=l.length:=by omega
  rw[xC];simp[lI]
 |succ m ih=>
  intro k f hf h1;obtain⟨f,rfl⟩:∃g,f=g+1:=⟨f - 1,by omega⟩
  have h:k<l.length:=by omega
  have w:az .i64 ((k:Int)+1)=((k+1:Nat):Int):=wrap64 (by omega) (by unfold cC at hl;omega);rw[<-ih (k+1) f (by omega) (by omega),xC];unfold dm at lI ⊢;simp[lI,h,w,alI]
theorem adg(hc:Sem c)(z z':Bool)(l:List (Rl))(hl:l.length<cC)(s:St):c 28 [dm z l,dm z' l] s=some (.bool true,s):=by
 have lI:∀(z:Bool)(K:AV->St->Option (AV×St))(s:St),aj c (.lenB .l) [dm z l] s K=K (.int .i64 (l.length:Int)) s:=λz K s=>by unfold dm;rw[dh];simp
 have L:=Zn (c:=c) z z' l hl (l.length+1) (λvs Nh=>eP vs λx4 vs=>iD vs (some (x4,Nh))) (λvs Ni=>iD vs (aj c .move [.bool true] Ni λx4 tY=>some (x4,tY))) s l.length 0 (l.length+1) (by omega) (by omega);rw[IN hc (l.length+1) (r:=(.bool true,s)),aB (Plain.bool _) (bf.refl s)];rw[LN];simp at L;simp[lI,L]
theorem adh(hc:Sem c)(t t':aH)(h:t.dA t')(hl:t.cD.length<cC)(s:St)(hw:Wf s):c 84 [.agg t.cells,.agg t'.cells] s=some (.bool true,s):=by
 obtain⟨z,rfl⟩:=h;have bX:Wf (ah s (.cells t.cells 0)):=bL hw;have x1:=(Grew.ah bX (.cells ({ t with oz:=z }:aH).cells 0)).get (aF s (.cells t.cells 0));have x2:=aF (ah s (.cells t.cells 0)) (.cells ({ t with oz:=z }:aH).cells 0);have S:=LL hc t.oz z t.cD hl (ah (ah s (.cells t.cells 0)) (.cells ({ t with oz:=z }:aH).cells 0));rw[IP hc 1 (r:=(.bool true,ah (ah s (.cells t.cells 0)) (.cells ({ t with oz:=z }:aH).cells 0))),aB (Plain.bool _) ((bE hw).trans (bE bX))];rw[LO];have a0:t.cells[0]? =some (.str t.name):=rfl;have a1:t.cells[1]? =some (.int .u8 t.sh):=rfl;have a2:t.cells[2]? =some (.int .i64 t.a):=rfl;have a3:t.cells[3]? =some (.int .i64 t.b):=rfl;have a4:t.cells[4]? =some (ints t.oz t.cD):=rfl;have a5:t.cells[5]? =some (.int .i64 t.x):=rfl;have a6:t.cells[6]? =some (.int .i64 t.y):=rfl;have b0:({ t with oz:=z }:aH).cells[0]? =some (.str t.name):=rfl;have b1:({ t with oz:=z }:aH).cells[1]? =some (.int .u8 t.sh):=rfl;have b2:({ t with oz:=z }:aH).cells[2]? =some (.int .i64 t.a):=rfl;have b3:({ t with oz:=z }:aH).cells[3]? =some (.int .i64 t.b):=rfl;have b4:({ t with oz:=z }:aH).cells[4]? =some (ints z t.cD):=rfl;have b5:({ t with oz:=z }:aH).cells[5]? =some (.int .i64 t.x):=rfl;have b6:({ t with oz:=z }:aH).cells[6]? =some (.int .i64 t.y):=rfl;simp[x1,x2,a0,a1,a2,a3,a4,a5,a6,b0,b1,b2,b3,b4,b5,b6,S]
theorem adi(hc:Sem c)(t t':aS)(h:t.dA t')(hl:t.tg.length<cC)(s:St)(hw:Wf s):c 85 [.agg t.cells,.agg t'.cells] s=some (.bool true,s):=by
 obtain⟨z,rfl⟩:=h;have bX:Wf (ah s (.cells t.cells 0)):=bL hw;have x1:=(Grew.ah bX (.cells ({ t with tz:=z }:aS).cells 0)).get (aF s (.cells t.cells 0));have x2:=aF (ah s (.cells t.cells 0)) (.cells ({ t with tz:=z }:aS).cells 0);have S:=adf hc t.tz z t.tg hl (ah (ah s (.cells t.cells 0)) (.cells ({ t with tz:=z }:aS).cells 0));rw[IQ hc 1 (r:=(.bool true,ah (ah s (.cells t.cells 0)) (.cells ({ t with tz:=z }:aS).cells 0))),aB (Plain.bool _) ((bE hw).trans (bE bX))];rw[LP];have a0:t.cells[0]? =some (.str t.name):=rfl;have b0:({ t with tz:=z }:aS).cells[0]? =some (.str t.name):=rfl;have a1:t.cells[1]? =some (.str t.oQ):=rfl;have b1:({ t with tz:=z }:aS).cells[1]? =some (.str t.oQ):=rfl;have a2:t.cells[2]? =some (.str t.jW):=rfl;have b2:({ t with tz:=z }:aS).cells[2]? =some (.str t.jW):=rfl;have a3:t.cells[3]? =some (.int .i64 t.since):=rfl;have b3:({ t with tz:=z }:aS).cells[3]? =some (.int .i64 t.since):=rfl;have a4:t.cells[4]? =some (.int .i64 t.side):=rfl;have b4:({ t with tz:=z }:aS).cells[4]? =some (.int .i64 t.side):=rfl;have a5:t.cells[5]? =some (.str t.nv):=rfl;have b5:({ t with tz:=z }:aS).cells[5]? =some (.str t.nv):=rfl;have a6:t.cells[6]? =some (.bool t.host):=rfl;have b6:({ t with tz:=z }:aS).cells[6]? =some (.bool t.host):=rfl;have a7:t.cells[7]? =some (.bool t.access):=rfl;have b7:({ t with tz:=z }:aS).cells[7]? =some (.bool t.access):=rfl;have a8:t.cells[8]? =some (dY t.tz t.tg):=rfl;have b8:({ t with tz:=z }:aS).cells[8]? =some (dY z t.tg):=rfl;simp[x1,x2,a0,a1,a2,a3,a4,a5,a6,a7,a8,b0,b1,b2,b3,b4,b5,b6,b7,b8,S]
theorem X7(hc:Sem c)(z z':Bool)(l l':List (aH))(hl:l.length<cC)(Nn:l'.length=l.length)(hs:∀(i:Nat)(t t':aH),l[i]? =some t->l'[i]? =some t'->t.dA t')(hr:∀t∈l,t.cD.length<cC)(F:Nat)(k1 k2)(s:St)(hw:Wf s):∀(m k f:Nat),m<f->k+m=l.length->js c F k1 k2 f [tabs z l,tabs z' l',.int .i64 (k:Int)] s=k2 [] s:=by
 have lI:∀(z:Bool)(l:List (aH))(K:AV->St->Option (AV×St))(s:St),aj c (.lenB .l) [tabs z l] s K=K (.int .i64 (l.length:Int)) s:=λz l K s=>by unfold tabs;rw[dh];simp
 intro m;induction m with
 |zero=>
  intro k f hf h1;obtain⟨f,rfl⟩:∃g,f=g+1:=⟨f - 1,by omega⟩
  obtain rfl:k=l.length:=by omega
  rw[vF];simp[lI]
 |succ m ih=>
  intro k f hf h1;obtain⟨f,rfl⟩:∃g,f=g+1:=⟨f - 1,by omega⟩
  have h:k<l.length:=by omega
  have h':k<l'.length:=by omega
  have w:az .i64 ((k:Int)+1)=((k+1:Nat):Int):=wrap64 (by omega) (by unfold cC at hl;omega);have S:=adh hc l[k] l'[k] (hs k _ _ (Za0 h) (Za0 h')) (hr _ (Zc0 h)) s hw;rw[<-ih (k+1) f (by omega) (by omega),vF];unfold tabs at lI ⊢;simp[lI,h,h',w,S,aH.len]
theorem aa1(hc:Sem c)(z z':Bool)(l l':List (aH))(hl:l.length<cC)(Nn:l'.length=l.length)(hs:∀(i:Nat)(t t':aH),l[i]? =some t->l'[i]? =some t'->t.dA t')(hr:∀t∈l,t.cD.length<cC)(s:St)(hw:Wf s):c 39 [tabs z l,tabs z' l'] s=some (.bool true,s):=by
 have lI:∀(z:Bool)(l:List (aH))(K:AV->St->Option (AV×St))(s:St),aj c (.lenB .l) [tabs z l] s K=K (.int .i64 (l.length:Int)) s:=λz l K s=>by unfold tabs;rw[dh];simp
 have L:=X7 hc z z' l l' hl Nn hs hr (l.length+1) (λvs Nh=>eP vs λx4 vs=>iD vs (some (x4,Nh))) (λvs Ni=>iD vs (aj c .move [.bool true] Ni λx4 tY=>some (x4,tY))) s hw l.length 0 (l.length+1) (by omega) (by omega);rw[Ht hc (l.length+1) (r:=(.bool true,s)),aB (Plain.bool _) (bf.refl s)];rw[JQ];simp at L;simp[lI,Nn,L]
theorem X8(hc:Sem c)(z z':Bool)(l l':List (aS))(hl:l.length<cC)(Nn:l'.length=l.length)(hs:∀(i:Nat)(t t':aS),l[i]? =some t->l'[i]? =some t'->t.dA t')(hr:∀t∈l,t.tg.length<cC)(F:Nat)(k1 k2)(s:St)(hw:Wf s):∀(m k f:Nat),m<f->k+m=l.length->jt c F k1 k2 f [bD z l,bD z' l',.int .i64 (k:Int)] s=k2 [] s:=by
 have lI:∀(z:Bool)(l:List (aS))(K:AV->St->Option (AV×St))(s:St),aj c (.lenB .l) [bD z l] s K=K (.int .i64 (l.length:Int)) s:=λz l K s=>by unfold bD;rw[dh];simp
 intro m;induction m with
 |zero=>
  intro k f hf h1;obtain⟨f,rfl⟩:∃g,f=g+1:=⟨f - 1,by omega⟩
  obtain rfl:k=l.length:=by omega
  rw[vG];simp[lI]
 |succ m ih=>
  intro k f hf h1;obtain⟨f,rfl⟩:∃g,f=g+1:=⟨f - 1,by omega⟩
  have h:k<l.length:=by omega
  have h':k<l'.length:=by omega
  have w:az .i64 ((k:Int)+1)=((k+1:Nat):Int):=wrap64 (by omega) (by unfold cC at hl;omega);have S:=adi hc l[k] l'[k] (hs k _ _ (Za0 h) (Za0 h')) (hr _ (Zc0 h)) s hw;rw[<-ih (k+1) f (by omega) (by omega),vG];unfold bD at lI ⊢;simp[lI,h,h',w,S,aS.len]
theorem aa2(hc:Sem c)(z z':Bool)(l l':List (aS))(hl:l.length<cC)(Nn:l'.length=l.length)(hs:∀(i:Nat)(t t':aS),l[i]? =some t->l'[i]? =some t'->t.dA t')(hr:∀t∈l,t.tg.length<cC)(s:St)(hw:Wf s):c 40 [bD z l,bD z' l'] s=some (.bool true,s):=by
 have lI:∀(z:Bool)(l:List (aS))(K:AV->St->Option (AV×St))(s:St),aj c (.lenB .l) [bD z l] s K=K (.int .i64 (l.length:Int)) s:=λz l K s=>by unfold bD;rw[dh];simp
 have L:=X8 hc z z' l l' hl Nn hs hr (l.length+1) (λvs Nh=>eP vs λx4 vs=>iD vs (some (x4,Nh))) (λvs Ni=>iD vs (aj c .move [.bool true] Ni λx4 tY=>some (x4,tY))) s hw l.length 0 (l.length+1) (by omega) (by omega);rw[Hu hc (l.length+1) (r:=(.bool true,s)),aB (Plain.bool _) (bf.refl s)];rw[JR];simp at L;simp[lI,Nn,L]
structure aP.dA(p p':aP):Prop where
 tl:p'.ts.length=p.ts.length
 ts:∀(i:Nat)(t t':aH),p.ts[i]? =some t->p'.ts[i]? =some t'->t.dA t'
 gl:p'.gs.length=p.gs.length
 gs:∀(i:Nat)(t t':aS),p.gs[i]? =some t->p'.gs[i]? =some t'->t.dA t'
 ys:p'.ys=p.ys
 cs:p'.cs=p.cs
 rs:p'.rs=p.rs
theorem PS.dM{s0 s:St}{Vs:List AV}{p:aP}(h:PS s0 s Vs p)(d:Nat):∃p',Go.Ai.dM s (d+3) (.agg Vs)= .agg p'.cells/\p.dA p':=by obtain⟨V1,V2,V3,V4,V5,r1,r2,rfl,h1,h2,h3,h4,h5⟩:=h.all;obtain⟨z1,Da,e1,l1,k1⟩:=h1.dM d;obtain⟨z2,gs',e2,l2,k2⟩:=h2.dM d;obtain⟨z3,e3⟩:=alF h3 (d+1);obtain⟨z4,e4⟩:=ade h4 (d+1);obtain⟨z5,e5⟩:=alG h5 (d+1);refine⟨⟨z1,Da,z2,gs',z3,p.ys,z4,p.cs,z5,p.rs⟩,?_,⟨l1,k1,l2,k2,rfl,rfl,rfl⟩⟩;rw[YO];simp only[Zb1,Zd5,e1,e2,e3,e4,e5];rfl
structure aP.Big(p:aP):Prop where
 ts:p.ts.length<cC
 cD:∀t∈p.ts,t.cD.length<cC
 gs:p.gs.length<cC
 tg:∀t∈p.gs,t.tg.length<cC
 ys:p.ys.length<cC
 cs:p.cs.length<cC
 rs:p.rs.length<cC
theorem EA(hc:Sem c)(p p':aP)(h:p.dA p')(hb:p.Big)(s:St)(hw:Wf s):c 11 [.agg p.cells,.agg p'.cells] s=some (.bool true,s):=by
 have bX:Wf (ah s (.cells p.cells 0)):=bL hw;have gS:Wf (ah (ah s (.cells p.cells 0)) (.cells p'.cells 0)):=bL bX;have x1:=(Grew.ah bX (.cells p'.cells 0)).get (aF s (.cells p.cells 0));have x2:=aF (ah s (.cells p.cells 0)) (.cells p'.cells 0);have S1:=aa1 hc p.tz p'.tz p.ts p'.ts hb.ts h.tl h.ts hb.cD _ gS;have S2:=aa2 hc p.gz p'.gz p.gs p'.gs hb.gs h.gl h.gs hb.tg _ gS;have S3:=ad6 hc p.yz p'.yz p.ys hb.ys (ah (ah s (.cells p.cells 0)) (.cells p'.cells 0));have S4:=LL hc p.cz p'.cz p.cs hb.cs (ah (ah s (.cells p.cells 0)) (.cells p'.cells 0));have S5:=adg hc p.rz p'.rz p.rs hb.rs (ah (ah s (.cells p.cells 0)) (.cells p'.cells 0));rw[FM hc 1 (r:=(.bool true,ah (ah s (.cells p.cells 0)) (.cells p'.cells 0))),aB (Plain.bool _) ((bE hw).trans (bE bX))];rw[IU];have y3:p'.cells[2]? =some (cj p'.yz p.ys):=by rw[<-h.ys];rfl
 have y4:p'.cells[3]? =some (ints p'.cz p.cs):=by rw[<-h.cs];rfl
 have y5:p'.cells[4]? =some (dm p'.rz p.rs):=by rw[<-h.rs];rfl
 simp[-aP.c2,-aP.c3,-aP.c4,x1,x2,S1,S2,S3,S4,S5,y3,y4,y5,show p.cells[2]? =some (cj p.yz p.ys)from rfl,show p.cells[3]? =some (ints p.cz p.cs)from rfl,show p.cells[4]? =some (dm p.rz p.rs)from rfl]
theorem T8{α β:Type}{P:α->α->Prop}{l l':List α}(hl:l'.length=l.length)(hs:∀(i:Nat)(t t':α),l[i]? =some t->l'[i]? =some t'->P t t')(f:α->β)(hf:∀t t',P t t'->f t'=f t)(i:Nat):l'[i]?.map f=l[i]?.map f:=by
 by_cases h:i<l.length
 .have h':i<l'.length:=(by omega);rw[Za0 h,Za0 h'];simp only[Zd8,H0];exact hf _ _ (hs i _ _ (Za0 h) (Za0 h'))
 .rw[Zc6 (by omega),Zc6 (by omega)]
theorem ajU{t t':aH}(h:t.dA t'):mP t'=mP t:=by obtain⟨z,rfl⟩:=h;rfl
theorem aeO{t t':aH}(h:t.dA t'):aY t'=aY t:=by obtain⟨z,rfl⟩:=h;rfl
theorem ahD{t t':aS}(h:t.dA t'):fe t'=fe t:=by obtain⟨z,rfl⟩:=h;rfl
variable{p p':aP}
theorem aP.dA.nm(h:p.dA p')(s:List Nat):iP p'.ts s=iP p.ts s:=funext λi=>by
 unfold iP;rw[T8 h.tl h.ts aH.name (λt t' k=>by obtain⟨z,rfl⟩:=k;rfl)]
theorem aP.dA.gm(h:p.dA p')(s:List Nat):jX p'.gs s=jX p.gs s:=funext λi=>by
 unfold jX;rw[T8 h.gl h.gs aS.name (λt t' k=>by obtain⟨z,rfl⟩:=k;rfl)]
theorem aP.dA.at(h:p.dA p'):∀(m k:Nat),dW p'.ts m k=dW p.ts m k
 |0,_=>rfl
 |m +1,k=>by
  have ih:=h.at m (k+1);unfold dW;by_cases hk:k<p.ts.length
  .have qM:k<p'.ts.length:=(by rw[h.tl];exact hk);have hs:=h.ts k _ _ (Za0 hk) (Za0 qM);have hn:p'.ts[k].name=p.ts[k].name:=(by obtain⟨z,e⟩:=hs;rw[e]);rw[Za0 hk,Za0 qM];simp only[ajU hs,hn,h.nm,ih]
  .have qM:¬k<p'.ts.length:=(by rw[h.tl];exact hk);rw[Zc6 (by omega),Zc6 (by omega)]
theorem aP.dA.DZ(h:p.dA p'):bJ p'.ts=bJ p.ts:=by unfold bJ;rw[h.tl,h.at]
theorem aP.dA.gsAt(h:p.dA p'):∀(m k:Nat),iq p'.gs m k=iq p.gs m k
 |0,_=>rfl
 |m +1,k=>by
  have ih:=h.gsAt m (k+1);unfold iq;by_cases hk:k<p.gs.length
  .have qM:k<p'.gs.length:=(by rw[h.gl];exact hk);have hs:=h.gs k _ _ (Za0 hk) (Za0 qM);have hn:p'.gs[k].name=p.gs[k].name:=(by obtain⟨z,e⟩:=hs;rw[e]);rw[Za0 hk,Za0 qM];simp only[ahD hs,hn,h.gm,ih]
  .have qM:¬k<p'.gs.length:=(by rw[h.gl];exact hk);rw[Zc6 (by omega),Zc6 (by omega)]
theorem aP.dA.unk(h:p.dA p')(t:Ty):mD p'.gs t=mD p.gs t:=by unfold mD;rw[h.gm,h.gm,h.gl]
theorem aP.dA.tyAt(h:p.dA p')(ts:List Ty):∀(m k:Nat),fT p'.gs ts m k=fT p.gs ts m k
 |0,_=>rfl
 |m+1,k=>by
  have ih:=h.tyAt ts m (k+1);unfold fT;cases ts[k]? with
  |none=>rfl
  |some t=>simp only[h.gl,h.unk,ih]
theorem aP.dA.roll(h:p.dA p'):bW p'.gs p'.ys=bW p.gs p.ys:=by unfold bW;rw[h.ys,h.gsAt,h.tyAt]
theorem aP.dA.sum(h:p.dA p'):cm p'.ts=cm p.ts:=by
 unfold cm;congr 1;refine Zj4 λi=> ?_
 rw[Zc3,Zc3];exact T8 h.tl h.ts aY (λt t' k=>aeO k) i
theorem aP.dA.basis(h:p.dA p'):fU p'=fU p:=by unfold fU;rw[h.DZ,h.roll,h.cs,h.gl,h.sum]
theorem aP.dA.gi(h:p.dA p')(s:List Nat):Go.Proofs.YtngcejgciomphaaGreatDoor.gi p' s=Go.Proofs.YtngcejgciomphaaGreatDoor.gi p s:=by unfold Go.Proofs.YtngcejgciomphaaGreatDoor.gi;rw[h.gm,h.gl]
theorem aP.dA.ti(h:p.dA p')(s:List Nat):Go.Proofs.YtngcejgciomphaaGreatDoor.ti p' s=Go.Proofs.YtngcejgciomphaaGreatDoor.ti p s:=by unfold Go.Proofs.YtngcejgciomphaaGreatDoor.ti;rw[h.nm,h.tl]
theorem aP.dA.uK(h:p.dA p')(i:Int):Go.Proofs.YtngcejgciomphaaGreatDoor.uK p' i=Go.Proofs.YtngcejgciomphaaGreatDoor.uK p i:=by
 unfold Go.Proofs.YtngcejgciomphaaGreatDoor.uK;have:=T8 h.tl h.ts aY (λt t' k=>aeO k) i.toNat;cases h1:p.ts[i.toNat]? with
 |none=>rw[h1]at this;cases h2:p'.ts[i.toNat]? with
  |none=>rfl
  |some t=>rw[h2]at this;cases this
 |some t=>rw[h1]at this;cases h2:p'.ts[i.toNat]? with
  |none=>rw[h2]at this;cases this
  |some t'=>rw[h2]at this;simp only[Zd8,H0]at this;simp only[this]
theorem aP.dA.rule(h:p.dA p')(r:Rl):sx p' r=sx p r:=by
 unfold sx IE Wi T7;simp only[h.gi,h.ti,h.uK]
theorem aP.dA.dm(h:p.dA p'):∀(m k:Nat),fJ p' m k=fJ p m k
 |0,_=>rfl
 |m+1,k=>by
  have ih:=h.dm m (k+1);unfold fJ;rw[h.rs];cases p.rs[k]? with
  |none=>rfl
  |some r=>simp only[h.rule,ih]
theorem aP.dA.check(h:p.dA p'):aU p'=aU p:=by unfold aU;rw[h.basis,h.dm]
variable{c:aq}
theorem EB{es bytes:Nat}{z:List AV}(rows:List (List AV))(hr:∀r∈rows,r.length=es)(dB:es≠0)(hb:(2*rows.length+768)*bytes<=281474976710656)(hn:rows.length<=4000000)(s:St)(hw:Wf s):
  ∃v s',(∀(K:AV->St->Option (AV×St)),aj c (.buildSlice es 0 z []) [] s (λy t=>aj c (.append es bytes) [y,.fl rows es] t K)=K v s')/\Mk es s s' v rows:=
 Z5 hr dB hb hn s hw (.inl rfl)
theorem HT(c:aq)(K:AV->St->Option (AV×St))(s:St):aj c (.bin .eql .slice) [.af,.af] s K=K (.bool true) s:=bC c K (λH n=>rfl) s
theorem T9(c:aq)(K:AV->St->Option (AV×St))(s:St)(rows:List (List AV))(es:Nat):aj c (.bin .eql .slice) [.fl rows es,.af] s K=K (.bool false) s:=bC c K (λH n=>rfl) s
theorem aai(hc:Sem c)(z:Bool)(l:List (Int))(hl:l.length<=lim)(s:St)(hw:Wf s):∃v s',c 87 [ints z l] s=some (v,s')/\Mk 1 s s' v (l.map dK):=by
 have hl:l.length<=1048576:=hl;have hr:∀r∈l.map dK,r.length=1:=λr hr=>by simp only[Zd0]at hr;obtain⟨i,_,rfl⟩:=hr;rfl
 by_cases h:ints z l= .af
 . have h0:l=[]:=by
    cases l with
    |nil=>rfl
    |cons a l=>unfold ints at h;cases z<;>cases h
   subst h0;refine⟨.af,s,?_,Mk.start hw (Grew.refl hw)⟩;rw[h,yu hc 1 (r:=(.af,s)),aB Plain.af (bf.refl s)];rw[Ae];simp[HT]
 . have e:ints z l= .fl (l.map dK) 1:=by
    cases l with
    |nil=>unfold ints at h ⊢; cases z
          .rfl
          .exact absurd rfl h
    |cons a l=>unfold ints;cases z<;>rfl
   obtain⟨v,s',a1,a2⟩:=EB (c:=c) (bytes:=8) (z:=[.int .i64 0]) (l.map dK) hr (by decide) (by simp;omega) (by simp;omega) s hw;obtain⟨cP,t1,t2⟩:=a2.tidy;refine⟨v,cP,?_,t2⟩;rw[e,yu hc 1 (r:=(v,s')),t1];rw[Ae];simp only[ai,T9,aX];rw[a1]
theorem ahE(hc:Sem c)(z:Bool)(l:List (List Nat))(hl:l.length<=lim)(s:St)(hw:Wf s):∃v s',c 89 [dY z l] s=some (v,s')/\Mk 1 s s' v (l.map sN):=by
 have hl:l.length<=1048576:=hl;have hr:∀r∈l.map sN,r.length=1:=λr hr=>by simp only[Zd0]at hr;obtain⟨i,_,rfl⟩:=hr;rfl
 by_cases h:dY z l= .af
 . have h0:l=[]:=by
    cases l with
    |nil=>rfl
    |cons a l=>unfold dY at h;cases z<;>cases h
   subst h0;refine⟨.af,s,?_,Mk.start hw (Grew.refl hw)⟩;rw[h,iQ hc 1 (r:=(.af,s)),aB Plain.af (bf.refl s)];rw[jD];simp[HT]
 . have e:dY z l= .fl (l.map sN) 1:=by
    cases l with
    |nil=>unfold dY at h ⊢; cases z
          .rfl
          .exact absurd rfl h
    |cons a l=>unfold dY;cases z<;>rfl
   obtain⟨v,s',a1,a2⟩:=EB (c:=c) (bytes:=16) (z:=[.str []]) (l.map sN) hr (by decide) (by simp;omega) (by simp;omega) s hw;obtain⟨cP,t1,t2⟩:=a2.tidy;refine⟨v,cP,?_,t2⟩;rw[e,iQ hc 1 (r:=(v,s')),t1];rw[jD];simp only[ai,T9,aX];rw[a1]
theorem ahF(hc:Sem c)(z:Bool)(l:List (Ty))(hl:l.length<=lim)(s:St)(hw:Wf s):∃v s',c 90 [cj z l] s=some (v,s')/\Mk 3 s s' v (l.map Ty.cells):=by
 have hl:l.length<=1048576:=hl;have hr:∀r∈l.map Ty.cells,r.length=3:=λr hr=>by simp only[Zd0]at hr;obtain⟨i,_,rfl⟩:=hr;rfl
 by_cases h:cj z l= .af
 . have h0:l=[]:=by
    cases l with
    |nil=>rfl
    |cons a l=>unfold cj at h;cases z<;>cases h
   subst h0;refine⟨.af,s,?_,Mk.start hw (Grew.refl hw)⟩;rw[h,pR hc 1 (r:=(.af,s)),aB Plain.af (bf.refl s)];rw[qU];simp[HT]
 . have e:cj z l= .fl (l.map Ty.cells) 3:=by
    cases l with
    |nil=>unfold cj at h ⊢; cases z
          .rfl
          .exact absurd rfl h
    |cons a l=>unfold cj;cases z<;>rfl
   obtain⟨v,s',a1,a2⟩:=EB (c:=c) (bytes:=40) (z:=[.str [],.str [],.int .u8 0]) (l.map Ty.cells) hr (by decide) (by simp;omega) (by simp;omega) s hw;obtain⟨cP,t1,t2⟩:=a2.tidy;refine⟨v,cP,?_,t2⟩;rw[e,pR hc 1 (r:=(v,s')),t1];rw[qU];simp only[ai,T9,aX];rw[a1]
theorem ahG(hc:Sem c)(z:Bool)(l:List (Rl))(hl:l.length<=lim)(s:St)(hw:Wf s):∃v s',c 91 [dm z l] s=some (v,s')/\Mk 6 s s' v (l.map Rl.cells):=by
 have hl:l.length<=1048576:=hl;have hr:∀r∈l.map Rl.cells,r.length=6:=λr hr=>by simp only[Zd0]at hr;obtain⟨i,_,rfl⟩:=hr;rfl
 by_cases h:dm z l= .af
 . have h0:l=[]:=by
    cases l with
    |nil=>rfl
    |cons a l=>unfold dm at h;cases z<;>cases h
   subst h0;refine⟨.af,s,?_,Mk.start hw (Grew.refl hw)⟩;rw[h,oA hc 1 (r:=(.af,s)),aB Plain.af (bf.refl s)];rw[pS];simp[HT]
 . have e:dm z l= .fl (l.map Rl.cells) 6:=by
    cases l with
    |nil=>unfold dm at h ⊢; cases z
          .rfl
          .exact absurd rfl h
    |cons a l=>unfold dm;cases z<;>rfl
   obtain⟨v,s',a1,a2⟩:=EB (c:=c) (bytes:=72) (z:=[.int .u8 0,.int .i64 0,.str [],.str [],.str [],.int .i64 0]) (l.map Rl.cells) hr (by decide) (by simp;omega) (by simp;omega) s hw;obtain⟨cP,t1,t2⟩:=a2.tidy;refine⟨v,cP,?_,t2⟩;rw[e,oA hc 1 (r:=(v,s')),t1];rw[pS];simp only[ai,T9,aX];rw[a1]
theorem ahH(hc:Sem c)(z:Bool)(l:List (aH))(hl:l.length<=lim)(s:St)(hw:Wf s):∃v s',c 86 [tabs z l] s=some (v,s')/\Mk 7 s s' v (l.map aH.cells):=by
 have hl:l.length<=1048576:=hl;have hr:∀r∈l.map aH.cells,r.length=7:=λr hr=>by simp only[Zd0]at hr;obtain⟨i,_,rfl⟩:=hr;rfl
 by_cases h:tabs z l= .af
 . have h0:l=[]:=by
    cases l with
    |nil=>rfl
    |cons a l=>unfold tabs at h;cases z<;>cases h
   subst h0;refine⟨.af,s,?_,Mk.start hw (Grew.refl hw)⟩;rw[h,nC hc 1 (r:=(.af,s)),aB Plain.af (bf.refl s)];rw[oB];simp[HT]
 . have e:tabs z l= .fl (l.map aH.cells) 7:=by
    cases l with
    |nil=>unfold tabs at h ⊢; cases z
          .rfl
          .exact absurd rfl h
    |cons a l=>unfold tabs;cases z<;>rfl
   obtain⟨v,s',a1,a2⟩:=EB (c:=c) (bytes:=80) (z:=[.str [],.int .u8 0,.int .i64 0,.int .i64 0,.af,.int .i64 0,.int .i64 0]) (l.map aH.cells) hr (by decide) (by simp;omega) (by simp;omega) s hw;obtain⟨cP,t1,t2⟩:=a2.tidy;refine⟨v,cP,?_,t2⟩;rw[e,nC hc 1 (r:=(v,s')),t1];rw[oB];simp only[ai,T9,aX];rw[a1]
theorem ahI(hc:Sem c)(z:Bool)(l:List (aS))(hl:l.length<=lim)(s:St)(hw:Wf s):∃v s',c 88 [bD z l] s=some (v,s')/\Mk 9 s s' v (l.map aS.cells):=by
 have hl:l.length<=1048576:=hl;have hr:∀r∈l.map aS.cells,r.length=9:=λr hr=>by simp only[Zd0]at hr;obtain⟨i,_,rfl⟩:=hr;rfl
 by_cases h:bD z l= .af
 . have h0:l=[]:=by
    cases l with
    |nil=>rfl
    |cons a l=>unfold bD at h;cases z<;>cases h
   subst h0;refine⟨.af,s,?_,Mk.start hw (Grew.refl hw)⟩;rw[h,nD hc 1 (r:=(.af,s)),aB Plain.af (bf.refl s)];rw[oC];simp[HT]
 . have e:bD z l= .fl (l.map aS.cells) 9:=by
    cases l with
    |nil=>unfold bD at h ⊢; cases z
          .rfl
          .exact absurd rfl h
    |cons a l=>unfold bD;cases z<;>rfl
   obtain⟨v,s',a1,a2⟩:=EB (c:=c) (bytes:=112) (z:=[.str [],.str [],.str [],.int .i64 0,.int .i64 0,.str [],.bool false,.bool false,.af]) (l.map aS.cells) hr (by decide) (by simp;omega) (by simp;omega) s hw;obtain⟨cP,t1,t2⟩:=a2.tidy;refine⟨v,cP,?_,t2⟩;rw[e,nD hc 1 (r:=(v,s')),t1];rw[oC];simp only[ai,T9,aX];rw[a1]
variable{c:aq}
structure CT(n0:Nat)(s0 s:St)(q:Pos)(rest:List AV)(V:AV)(ts:List aH)(k:Nat)(rows:List (List AV)):Prop where
 out:Mk 7 s0 s V rows
 box:s.heap.get q=some (.cells (V::rest) 0)
 Pm:q.toNat<n0
 lo:n0<=s.next.toNat
 ne:∀b,bN V=some b->n0<=b.toNat
 len:rows.length=ts.length
 iA:∀(i:Nat)(t:aH)(r:List AV),k<=i->ts[i]? =some t->rows[i]? =some r->r=t.cells
 Aa:∀(i:Nat)(t:aH)(r:List AV),i<k->ts[i]? =some t->rows[i]? =some r->∃v,r=t.aM v/\Mk 1 s0 s v (t.cD.map dK)/\(∀b,bN v=some b->bN V≠some b)/\∀b,bN v=some b->n0<=b.toNat
theorem ahJ(hc:Sem c){n0:Nat}{s0:St}{q:Pos}{rest:List AV}(x2:AV)(ts:List aH)(hl:ts.length<=1000)(hr:∀t∈ts,t.Real)(F:Nat):∀(m k f:Nat)(s:St)(V:AV)(rows:List (List AV)),m<f->k+m=ts.length->CT n0 s0 s q rest V ts k rows->
  ∃s' uM,CT n0 s0 s' q rest V ts ts.length uM/\(∀p x,bN V≠some p->s.heap.get p=some x->s'.heap.get p=some x)/\∀k2,sU c F k2 f [.ptr q 0,x2,.int .i64 (ts.length:Int),.int .i64 (k:Int)] s=k2 [.ptr q 0,x2] s':=by
 intro m;induction m with
 |zero=>
  intro k f s V rows hf h1 hT;obtain⟨f,rfl⟩:∃g,f=g+1:=⟨f - 1,by omega⟩
  obtain rfl:k=ts.length:=by omega
  refine⟨s,rows,hT,λ_ _ _ h=>h,λk2=> ?_⟩;rw[IV];simp
 |succ m ih=>
  intro k f s V rows hf h1 hT;obtain⟨f,rfl⟩:∃g,f=g+1:=⟨f - 1,by omega⟩
  have h:k<ts.length:=by omega
  have hk:k<rows.length:=by rw[hT.len];exact h
  have w:az .i64 ((k:Int)+1)=((k+1:Nat):Int):=wrap64 (by omega) (by omega);have hw:=hT.out.aA.wf;obtain⟨b,o,cs,a1,a2,a3,a4,a5,a6,a7,a8⟩:=hT.out.own.set (c:=c) (R:=AV×St) hT.out.row (by decide) hk;have gy:rows[k]=ts[k].cells:=hT.iA k _ _ (Za6 _) (Za0 h) (Za0 hk);have c4:cs[o+4]? =some (ints ts[k].oz ts[k].cD):=a6 4 _ (by rw[gy];rfl);obtain⟨v,s1,C,M⟩:=aai hc ts[k].oz ts[k].cD (hr _ (Zc0 h)).cD s hw;have b4:=M.aA.get a4;have q4:=M.aA.get hT.box;obtain⟨vc,v1⟩:=M.cells;have hbq:b≠q:=λe=>by have:=hT.ne _ a3;have:=hT.Pm;subst e;omega
  have xM:=hT.out.new b a3;have WQ:=hw _ _ a4;have bQ:∀(K:AV->St->Option (AV×St)),aj c (.store 1) [.ptr b (o+4),v] s1 K=K .undef (bI s1 b (.cells (aZ cs (o+4) [v]) 0)):=λK=>by
   rw[dz c K s1 1 b (o+4) v cs b4 (by rw[vc];rfl) (by omega) (by rw[vc];exact v1),vc]
  have G2:Grew s0 (bI s1 b (.cells (aZ cs (o+4) [v]) 0)):=⟨jI M.aA.wf (by have:=M.aA.next;omega),λp x hp=>by have:=hT.out.tZ _ _ hp;rw[aO (λe=>by rw[e]at xM;omega)];exact(hT.out.aA.trans M.aA).get hp,by rw[eB];exact(hT.out.aA.trans M.aA).next⟩
  have sM:∀p x,p≠b->s1.heap.get p=some x->(bI s1 b (.cells (aZ cs (o+4) [v]) 0)).heap.get p=some x:=λp x hp hx=>by rw[aO (λe=>hp e.symm)];exact hx
  have T5:CT n0 s0 (bI s1 b (.cells (aZ cs (o+4) [v]) 0)) q rest V ts (k+1) (rows.set k (rows[k].set 4 v)):=by
   refine⟨⟨hT.out.tZ,G2,a7 4 v _ (by omega) (cW _ _ _),hT.out.new,λr Fl=> ?_,hT.out.cap,λp hp=>by rw[a3]at hp;cases hp;rw[cW];rw[a8 4 v (by omega) (AB.cells.inj (Zh2 (a4.symm.trans (hT.out.tight b a3)))).1]⟩,sM q _ (λe=>hbq e.symm) q4,hT.Pm,by rw[eB];exact Zb7 hT.lo M.aA.next,hT.ne,by rw[Zf9];exact hT.len,λi t r hi h3 h4=> ?_,λi t r hi h3 h4=> ?_⟩
   .    rcases Zk6 Fl with h5|h5
        .exact hT.out.row r h5
        .rw[h5,Zf9];exact hT.out.row _ (Zc0 hk)
   .    rw[Zg2 (by omega)]at h4;exact hT.iA i t r (by omega) h3 h4
   .    by_cases Ka:i=k
        . subst Ka;rw[Za0 h]at h3;cases h3;rw[Zn7 hk]at h4;cases h4;refine⟨v,by rw[gy];rfl,Mk.Hh (M.back hT.out.tZ hT.out.aA) G2 λp x hp hx=>sM p x (λe=>by subst e;have:=M.new _ hp;omega) hx,λp hp e=> ?_,λp hp=> ?_⟩
          .rw[a3]at e;cases e;have:=M.new _ hp;omega
          .have:=M.new _ hp;have:=hT.lo;omega
        .rw[Zg2 (by omega)]at h4;obtain⟨u,e1,e2,e3,e4⟩:=hT.Aa i t r (by omega) h3 h4;refine⟨u,e1,Mk.Hh (e2.grow M.aA) G2 λp x hp hx=>sM p x (λe=>by subst e;exact e3 _ hp a3) hx,e3,e4⟩
  obtain⟨s',uM,d1,d3,d2⟩:=ih (k+1) f _ V _ (by omega) (by omega) T5;refine⟨s',uM,d1,λp x hp hx=>d3 p x hp (sM p x (λe=>hp (by rw[a3,e])) (M.aA.get hx)),λk2=> ?_⟩;rw[<-d2 k2,IV];have L1:∀(ok:AV->Bool)(K:AV->Option (AV×St)),ok V=true->kB (.load none) [.ptr q 0] s.heap ok K=K V:=λok K h=>pO (by rw[hT.box];rfl) ok h K
  have L2:∀(ok:AV->Bool)(K:AV->Option (AV×St)),ok V=true->kB (.load none) [.ptr q 0] s1.heap ok K=K V:=λok K h=>pO (by rw[q4];rfl) ok h K
  have L3:∀(ok:AV->Bool)(K:AV->Option (AV×St)),ok (ints ts[k].oz ts[k].cD)=true->kB (.load none) [.ptr b (o+4)] s.heap ok K=K (ints ts[k].oz ts[k].cD):=λok K h=>pO (by rw[a4];exact c4) ok h K
  have q1:=jr (p:=q) (o:=0) (h:=s.heap) (v:=V) (by rw[hT.box];rfl) hT.out.beq;simp[h,hT.box,a4,c4,L2,a2,C,q1,bQ,w]
structure CG(n0:Nat)(s0 s:St)(q:Pos)(V1:AV)(rest:List AV)(V:AV)(ts:List aS)(k:Nat)(rows:List (List AV)):Prop where
 out:Mk 9 s0 s V rows
 box:s.heap.get q=some (.cells (V1::V::rest) 0)
 Pm:q.toNat<n0
 lo:n0<=s.next.toNat
 ne:∀b,bN V=some b->n0<=b.toNat
 len:rows.length=ts.length
 iA:∀(i:Nat)(t:aS)(r:List AV),k<=i->ts[i]? =some t->rows[i]? =some r->r=t.cells
 Aa:∀(i:Nat)(t:aS)(r:List AV),i<k->ts[i]? =some t->rows[i]? =some r->∃v,r=t.aM v/\Mk 1 s0 s v (t.tg.map sN)/\(∀b,bN v=some b->bN V≠some b)/\∀b,bN v=some b->n0<=b.toNat
theorem ahK(hc:Sem c){n0:Nat}{s0:St}{q:Pos}{V1:AV}{rest:List AV}(x2:AV)(ts:List aS)(hl:ts.length<=1000)(hr:∀t∈ts,t.Real)(F:Nat):∀(m k f:Nat)(s:St)(V:AV)(rows:List (List AV)),m<f->k+m=ts.length->CG n0 s0 s q V1 rest V ts k rows->
  ∃s' uM,CG n0 s0 s' q V1 rest V ts ts.length uM/\(∀p x,bN V≠some p->s.heap.get p=some x->s'.heap.get p=some x)/\∀k2,sV c F k2 f [.ptr q 0,x2,.int .i64 (ts.length:Int),.int .i64 (k:Int)] s=k2 [.ptr q 0,x2] s':=by
 intro m;induction m with
 |zero=>
  intro k f s V rows hf h1 hT;obtain⟨f,rfl⟩:∃g,f=g+1:=⟨f - 1,by omega⟩
  obtain rfl:k=ts.length:=by omega
  refine⟨s,rows,hT,λ_ _ _ h=>h,λk2=> ?_⟩;rw[IW];simp
 |succ m ih=>
  intro k f s V rows hf h1 hT;obtain⟨f,rfl⟩:∃g,f=g+1:=⟨f - 1,by omega⟩
  have h:k<ts.length:=by omega
  have hk:k<rows.length:=by rw[hT.len];exact h
  have w:az .i64 ((k:Int)+1)=((k+1:Nat):Int):=wrap64 (by omega) (by omega);have hw:=hT.out.aA.wf;obtain⟨b,o,cs,a1,a2,a3,a4,a5,a6,a7,a8⟩:=hT.out.own.set (c:=c) (R:=AV×St) hT.out.row (by decide) hk;have gy:rows[k]=ts[k].cells:=hT.iA k _ _ (Za6 _) (Za0 h) (Za0 hk);have c4:cs[o+8]? =some (dY ts[k].tz ts[k].tg):=a6 8 _ (by rw[gy];rfl);obtain⟨v,s1,C,M⟩:=ahE hc ts[k].tz ts[k].tg (hr _ (Zc0 h)).tg s hw;have b4:=M.aA.get a4;have q4:=M.aA.get hT.box;obtain⟨vc,v1⟩:=M.cells;have hbq:b≠q:=λe=>by have:=hT.ne _ a3;have:=hT.Pm;subst e;omega
  have xM:=hT.out.new b a3;have WQ:=hw _ _ a4;have bQ:∀(K:AV->St->Option (AV×St)),aj c (.store 1) [.ptr b (o+8),v] s1 K=K .undef (bI s1 b (.cells (aZ cs (o+8) [v]) 0)):=λK=>by
   rw[dz c K s1 1 b (o+8) v cs b4 (by rw[vc];rfl) (by omega) (by rw[vc];exact v1),vc]
  have G2:Grew s0 (bI s1 b (.cells (aZ cs (o+8) [v]) 0)):=⟨jI M.aA.wf (by have:=M.aA.next;omega),λp x hp=>by have:=hT.out.tZ _ _ hp;rw[aO (λe=>by rw[e]at xM;omega)];exact(hT.out.aA.trans M.aA).get hp,by rw[eB];exact(hT.out.aA.trans M.aA).next⟩
  have sM:∀p x,p≠b->s1.heap.get p=some x->(bI s1 b (.cells (aZ cs (o+8) [v]) 0)).heap.get p=some x:=λp x hp hx=>by rw[aO (λe=>hp e.symm)];exact hx
  have T5:CG n0 s0 (bI s1 b (.cells (aZ cs (o+8) [v]) 0)) q V1 rest V ts (k+1) (rows.set k (rows[k].set 8 v)):=by
   refine⟨⟨hT.out.tZ,G2,a7 8 v _ (by omega) (cW _ _ _),hT.out.new,λr Fl=> ?_,hT.out.cap,λp hp=>by rw[a3]at hp;cases hp;rw[cW];rw[a8 8 v (by omega) (AB.cells.inj (Zh2 (a4.symm.trans (hT.out.tight b a3)))).1]⟩,sM q _ (λe=>hbq e.symm) q4,hT.Pm,by rw[eB];exact Zb7 hT.lo M.aA.next,hT.ne,by rw[Zf9];exact hT.len,λi t r hi h3 h4=> ?_,λi t r hi h3 h4=> ?_⟩
   .    rcases Zk6 Fl with h5|h5
        .exact hT.out.row r h5
        .rw[h5,Zf9];exact hT.out.row _ (Zc0 hk)
   .    rw[Zg2 (by omega)]at h4;exact hT.iA i t r (by omega) h3 h4
   .    by_cases Ka:i=k
        . subst Ka;rw[Za0 h]at h3;cases h3;rw[Zn7 hk]at h4;cases h4;refine⟨v,by rw[gy];rfl,Mk.Hh (M.back hT.out.tZ hT.out.aA) G2 λp x hp hx=>sM p x (λe=>by subst e;have:=M.new _ hp;omega) hx,λp hp e=> ?_,λp hp=> ?_⟩
          .rw[a3]at e;cases e;have:=M.new _ hp;omega
          .have:=M.new _ hp;have:=hT.lo;omega
        .rw[Zg2 (by omega)]at h4;obtain⟨u,e1,e2,e3,e4⟩:=hT.Aa i t r (by omega) h3 h4;refine⟨u,e1,Mk.Hh (e2.grow M.aA) G2 λp x hp hx=>sM p x (λe=>by subst e;exact e3 _ hp a3) hx,e3,e4⟩
  obtain⟨s',uM,d1,d3,d2⟩:=ih (k+1) f _ V _ (by omega) (by omega) T5;refine⟨s',uM,d1,λp x hp hx=>d3 p x hp (sM p x (λe=>hp (by rw[a3,e])) (M.aA.get hx)),λk2=> ?_⟩;rw[<-d2 k2,IW];have L1:∀(ok:AV->Bool)(K:AV->Option (AV×St)),ok V=true->kB (.load none) [.ptr q 1] s.heap ok K=K V:=λok K h=>pO (by rw[hT.box];rfl) ok h K
  have L2:∀(ok:AV->Bool)(K:AV->Option (AV×St)),ok V=true->kB (.load none) [.ptr q 1] s1.heap ok K=K V:=λok K h=>pO (by rw[q4];rfl) ok h K
  have L3:∀(ok:AV->Bool)(K:AV->Option (AV×St)),ok (dY ts[k].tz ts[k].tg)=true->kB (.load none) [.ptr b (o+8)] s.heap ok K=K (dY ts[k].tz ts[k].tg):=λok K h=>pO (by rw[a4];exact c4) ok h K
  have q1:=jr (p:=q) (o:=1) (h:=s.heap) (v:=V) (by rw[hT.box];rfl) hT.out.beq;simp[h,hT.box,a4,c4,L2,a2,C,q1,bQ,w]
variable{c:aq}
theorem ld{p:Pos}{o:Nat}{t:St}{cs:List AV}{v:AV}(h:t.heap.get p=some (.cells cs 0))(hv:cs[o]? =some v):((cellsOf (t.heap.get p)).bind λcs=>cs[o]?)=some v:=by rw[h];exact hv
theorem agc(hc:Sem c)(p:aP)(hp:p.Real)(s:St)(hw:Wf s):∃Vs s',c 42 [.agg p.cells] s=some (.agg Vs,s')/\PS s s' Vs p:=by
 have bX:Wf (ah s (.cells p.cells 0)):=bL hw;have hwB:Wf (ah (ah s (.cells p.cells 0)) (.cells [.af,.af,.af,.af,.af] 0)):=bL bX;have gB:=(Grew.ah hw (.cells p.cells 0)).trans (Grew.ah bX (.cells [.af,.af,.af,.af,.af] 0));have qB:(ah (ah s (.cells p.cells 0)) (.cells [.af,.af,.af,.af,.af] 0)).heap.get s.next=some (.cells p.cells 0):=(Grew.ah bX _).get (aF _ _);have pB:=aF (ah s (.cells p.cells 0)) (.cells [.af,.af,.af,.af,.af] 0);have nl:s.next.toNat<(ah s (.cells p.cells 0)).next.toNat:=by rw[cO,Pos.aK];omega
 generalize hsB:ah (ah s (.cells p.cells 0)) (.cells [.af,.af,.af,.af,.af] 0)=sB at hwB gB qB pB;generalize My:(ah s (.cells p.cells 0)).next=p2 at pB nl;have lt2:=hwB _ _ pB;have ltq:=hwB _ _ qB;have nqp:s.next≠p2:=λe=>by rw[e]at nl;omega
 have hlT:p.ts.length<=lim:=Zb7 hp.ts (by decide);have hlG:p.gs.length<=lim:=Zb7 hp.gs (by decide);obtain⟨V1,s1,C1,M1⟩:=ahH hc p.tz p.ts hlT sB hwB;obtain⟨c1,o1⟩:=M1.cells;have q1:=M1.aA.get qB;have b1:p.cells=tabs p.tz p.ts::[bD p.gz p.gs,cj p.yz p.ys,ints p.cz p.cs,dm p.rz p.rs]:=rfl;have t1:∀(K:AV->St->Option (AV×St)),aj c (.store 1) [.ptr s.next 0,V1] s1 K=K .undef (bI s1 s.next (.cells (V1::[bD p.gz p.gs,cj p.yz p.ys,ints p.cz p.cs,dm p.rz p.rs]) 0)):=λK=>by rw[dz c K s1 1 s.next 0 V1 p.cells q1 (by rw[c1];rfl) (by rw[b1];simp) (by rw[c1];exact o1),c1];rfl
 have lq1:=M1.aA.wf _ _ q1;have G2:Grew s (bI s1 s.next (.cells (V1::[bD p.gz p.gs,cj p.yz p.ys,ints p.cz p.cs,dm p.rz p.rs]) 0)):=⟨jI M1.aA.wf lq1,λr x hr=>by have:=hw _ _ hr;rw[aO (λe=>by rw[e]at this;omega)];exact(gB.trans M1.aA).get hr,by rw[eB];exact(gB.trans M1.aA).next⟩
 have T2:CT sB.next.toNat s (bI s1 s.next (.cells (V1::[bD p.gz p.gs,cj p.yz p.ys,ints p.cz p.cs,dm p.rz p.rs]) 0)) s.next [bD p.gz p.gs,cj p.yz p.ys,ints p.cz p.cs,dm p.rz p.rs] V1 p.ts 0 (p.ts.map aH.cells):=by
  refine⟨⟨hw,G2,M1.own.mono λb x hb hx=> ?_,λb hb=>Zb7 gB.next (M1.new b hb),M1.row,M1.cap,λb hb=>by rw[aO (λe=>by have:=M1.new _ hb;rw[<-e]at this;omega)];exact M1.tight b hb⟩,cW _ _ _,ltq,by rw[eB];exact M1.aA.next,M1.new,by simp,λi t r _ h3 h4=> ?_,λi t r h=>by omega⟩
  .rw[aO (λe=>by have:=M1.new _ hb;rw[<-e]at this;omega)];exact hx
  .rw[Zc3,h3]at h4;simpa using h4.symm
 generalize wR:bI s1 s.next (.cells (V1::[bD p.gz p.gs,cj p.yz p.ys,ints p.cz p.cs,dm p.rz p.rs]) 0)=s2 at t1 G2 T2;have p2a:s2.heap.get p2=some (.cells [.af,.af,.af,.af,.af] 0):=by rw[<-wR,aO nqp];exact M1.aA.get pB
 have l1:∀(K:AV->St->Option (AV×St))(t:St),aj c (.lenB .l) [V1] t K=K (.int .i64 (p.ts.length:Int)) t:=λK t=>by rw[M1.own.lenB];simp
 obtain⟨s3,r1,D1,D2,D3⟩:=ahJ hc (.ptr p2 0) p.ts hp.ts hp.tab 2000 p.ts.length 0 2000 s2 V1 _ (by have:=hp.ts;omega) (by omega) T2;have p3:s3.heap.get p2=some (.cells [.af,.af,.af,.af,.af] 0):=D2 p2 _ (λe=>by have:=M1.new _ e;omega) p2a;have q3:=D1.box;obtain⟨V2,s4,C2,M2⟩:=ahI hc p.gz p.gs hlG s3 D1.out.aA.wf;obtain⟨c2,o2⟩:=M2.cells;have q4:=M2.aA.get q3;have t2:∀(K:AV->St->Option (AV×St)),aj c (.store 1) [.ptr s.next 1,V2] s4 K=K .undef (bI s4 s.next (.cells (V1::V2::[cj p.yz p.ys,ints p.cz p.cs,dm p.rz p.rs]) 0)):=λK=>by rw[dz c K s4 1 s.next 1 V2 _ q4 (by rw[c2];rfl) (by simp) (by rw[c2];exact o2),c2];rfl
 have lq4:=M2.aA.wf _ _ q4;have n3B:sB.next.toNat<=s3.next.toNat:=D1.lo;have G3:=D1.out.aA;have G5:Grew s (bI s4 s.next (.cells (V1::V2::[cj p.yz p.ys,ints p.cz p.cs,dm p.rz p.rs]) 0)):=⟨jI M2.aA.wf lq4,λr x hr=>by have:=hw _ _ hr;rw[aO (λe=>by rw[e]at this;omega)];exact(G3.trans M2.aA).get hr,by rw[eB];exact(G3.trans M2.aA).next⟩
 have T5:CG s3.next.toNat s (bI s4 s.next (.cells (V1::V2::[cj p.yz p.ys,ints p.cz p.cs,dm p.rz p.rs]) 0)) s.next V1 [cj p.yz p.ys,ints p.cz p.cs,dm p.rz p.rs] V2 p.gs 0 (p.gs.map aS.cells):=by
  refine⟨⟨hw,G5,M2.own.mono λb x hb hx=> ?_,λb hb=>Zb7 G3.next (M2.new b hb),M2.row,M2.cap,λb hb=>by rw[aO (λe=>by have:=M2.new _ hb;rw[<-e]at this;omega)];exact M2.tight b hb⟩,cW _ _ _,by omega,by rw[eB];exact M2.aA.next,M2.new,by simp,λi t r _ h3 h4=> ?_,λi t r h=>by omega⟩
  .rw[aO (λe=>by have:=M2.new _ hb;rw[<-e]at this;omega)];exact hx
  .rw[Zc3,h3]at h4;simpa using h4.symm
 have akH:∀r x,r≠s.next->s3.heap.get r=some x->(bI s4 s.next (.cells (V1::V2::[cj p.yz p.ys,ints p.cz p.cs,dm p.rz p.rs]) 0)).heap.get r=some x:=λr x hr hx=>by rw[aO (λe=>hr e.symm)];exact M2.aA.get hx
 generalize hs5:bI s4 s.next (.cells (V1::V2::[cj p.yz p.ys,ints p.cz p.cs,dm p.rz p.rs]) 0)=s5 at t2 G5 T5 akH;have l2:∀(K:AV->St->Option (AV×St))(t:St),aj c (.lenB .l) [V2] t K=K (.int .i64 (p.gs.length:Int)) t:=λK t=>by rw[M2.own.lenB];simp
 obtain⟨s6,r2,E1,E2,E3⟩:=ahK hc (.ptr p2 0) p.gs hp.gs hp.bT 2000 p.gs.length 0 2000 s5 V2 _ (by have:=hp.gs;omega) (by omega) T5;have q5:=T5.box;have q6:=E1.box;have agd:∀r x,r≠s.next->r.toNat<s3.next.toNat->s3.heap.get r=some x->s6.heap.get r=some x:=λr x hr hl hx=>E2 r x (λe=>by have:=T5.ne _ e;omega) (akH r x hr hx)
 obtain⟨V3,s7,C3,M3⟩:=ahF hc p.yz p.ys hp.ys s6 E1.out.aA.wf;obtain⟨V4,s8,C4,M4⟩:=aai hc p.cz p.cs hp.cs s7 M3.aA.wf;obtain⟨V5,s9,C5,M5⟩:=ahG hc p.rz p.rs hp.rs s8 M4.aA.wf;obtain⟨c3,o3⟩:=M3.cells;obtain⟨c4,o4⟩:=M4.cells;obtain⟨c5,o5⟩:=M5.cells;have G69:=M3.aA.trans (M4.aA.trans M5.aA);have q7:=M3.aA.get q6;have q8:=M4.aA.get q7;have q9:=M5.aA.get q8;have t3:∀(K:AV->St->Option (AV×St)),aj c (.store 1) [.ptr s.next 2,V3] s9 K=K .undef (bI s9 s.next (.cells [V1,V2,V3,ints p.cz p.cs,dm p.rz p.rs] 0)):=λK=>by rw[dz c K s9 1 s.next 2 V3 _ q9 (by rw[c3];rfl) (by simp) (by rw[c3];exact o3),c3];rfl
 have t4:∀(K:AV->St->Option (AV×St)),aj c (.store 1) [.ptr s.next 3,V4] (bI s9 s.next (.cells [V1,V2,V3,ints p.cz p.cs,dm p.rz p.rs] 0)) K=K .undef (bI s9 s.next (.cells [V1,V2,V3,V4,dm p.rz p.rs] 0)):=λK=>by rw[dz c K _ 1 s.next 3 V4 _ (cW _ _ _) (by rw[c4];rfl) (by simp) (by rw[c4];exact o4),c4,YN];rfl
 have t5:∀(K:AV->St->Option (AV×St)),aj c (.store 1) [.ptr s.next 4,V5] (bI s9 s.next (.cells [V1,V2,V3,V4,dm p.rz p.rs] 0)) K=K .undef (bI s9 s.next (.cells [V1,V2,V3,V4,V5] 0)):=λK=>by rw[dz c K _ 1 s.next 4 V5 _ (cW _ _ _) (by rw[c5];rfl) (by simp) (by rw[c5];exact o5),c5,YN];rfl
 have one:aV [V1,V2,V3,V4,V5]=true:=by
  simp only[aV,Zg8]at o1 o2 o3 o4 o5;simp only[aV,o1,o2,o3,o4,o5,Ze5]
 have p9:(bI s9 s.next (.cells [V1,V2,V3,V4,V5] 0)).heap.get p2=some (.cells [.af,.af,.af,.af,.af] 0):=by
  rw[aO nqp];exact G69.get (agd p2 _ (λe=>nqp e.symm) (by have:=D1.out.aA.wf _ _ p3;exact this) p3)
 have t6:∀(K:AV->St->Option (AV×St)),aj c (.store 5) [.ptr p2 0,.agg [V1,V2,V3,V4,V5]] (bI s9 s.next (.cells [V1,V2,V3,V4,V5] 0)) K=K .undef (bI (bI s9 s.next (.cells [V1,V2,V3,V4,V5] 0)) p2 (.cells [V1,V2,V3,V4,V5] 0)):=λK=>by rw[dz c K _ 5 p2 0 (.agg [V1,V2,V3,V4,V5]) _ p9 rfl (by simp) one];rfl
 have G6:=E1.out.aA;have G9:=G6.trans G69;have lq9:=G69.wf _ _ q9;have lp9:=G69.wf _ _ (G69.get (agd p2 _ (λe=>nqp e.symm) (D1.out.aA.wf _ _ p3) p3));have Qa:Grew s (bI (bI s9 s.next (.cells [V1,V2,V3,V4,V5] 0)) p2 (.cells [V1,V2,V3,V4,V5] 0)):=⟨jI (jI G69.wf lq9) lp9,λr x hr=>by have:=hw _ _ hr;rw[aO (λe=>by rw[<-e]at this;omega),aO (λe=>by rw[<-e]at this;omega)];exact G9.get hr,by rw[eB,eB];exact G9.next⟩
 have sM:∀r x,sB.next.toNat<=r.toNat->s9.heap.get r=some x->(bI (bI s9 s.next (.cells [V1,V2,V3,V4,V5] 0)) p2 (.cells [V1,V2,V3,V4,V5] 0)).heap.get r=some x:=λr x hr hx=>by rw[aO (λe=>by rw[<-e]at hr;omega),aO (λe=>by rw[<-e]at hr;omega)];exact hx
 have n36:s3.next.toNat<=s6.next.toNat:=E1.lo;generalize hs13:bI (bI s9 s.next (.cells [V1,V2,V3,V4,V5] 0)) p2 (.cells [V1,V2,V3,V4,V5] 0)=DX at t6 Qa sM;have F1:TS s DX V1 p.ts r1:=by
  have keep:∀(es:Nat)(u:AV)(rows:List (List AV)),Mk es s s3 u rows->(∀b,bN u=some b->sB.next.toNat<=b.toNat)->Mk es s DX u rows:=λes u rows hu hb=>Mk.Hh hu Qa λb x hbu hx=>sM b x (hb b hbu) (G69.get (agd b x (λe=>by have:=hb b hbu;rw[e]at this;omega) (hu.aA.wf _ _ hx) hx))
  refine⟨keep _ _ _ D1.out D1.ne,D1.len,λi t r hi hr=> ?_⟩;obtain⟨v,e1,e2,e3,e4⟩:=D1.Aa i t r (Za4.1 hi).1 hi hr;exact⟨v,e1,keep _ _ _ e2 e4,e3⟩
 have F2:GS s DX V2 p.gs r2:=by
  have keep:∀(es:Nat)(u:AV)(rows:List (List AV)),Mk es s s6 u rows->(∀b,bN u=some b->s3.next.toNat<=b.toNat)->Mk es s DX u rows:=λes u rows hu hb=>Mk.Hh hu Qa λb x hbu hx=>sM b x (Zb7 n3B (hb b hbu)) (G69.get hx)
  refine⟨keep _ _ _ E1.out E1.ne,E1.len,λi t r hi hr=> ?_⟩;obtain⟨v,e1,e2,e3,e4⟩:=E1.Aa i t r (Za4.1 hi).1 hi hr;exact⟨v,e1,keep _ _ _ e2 e4,e3⟩
 have F3:Mk 3 s DX V3 (p.ys.map Ty.cells):=M3.kZ hw G6 Qa λr x hr hx=>sM r x (by omega) ((M4.aA.trans M5.aA).get hx)
 have F4:Mk 1 s DX V4 (p.cs.map dK):=M4.kZ hw (G6.trans M3.aA) Qa λr x hr hx=>sM r x (by have:=M3.aA.next;omega) (M5.aA.get hx)
 have F5:Mk 6 s DX V5 (p.rs.map Rl.cells):=M5.kZ hw (G6.trans (M3.aA.trans M4.aA)) Qa λr x hr hx=>sM r x (by have:=M3.aA.next;have:=M4.aA.next;omega) hx
 have fin:∃cP,tidy s (.agg [V1,V2,V3,V4,V5],DX)=(.agg [V1,V2,V3,V4,V5],cP)/\PS s cP [V1,V2,V3,V4,V5] p:=by
  unfold tidy;by_cases hP:Plain (AV.agg [V1,V2,V3,V4,V5],DX).1/\bf s (AV.agg [V1,V2,V3,V4,V5],DX).2
  . rw[Zb5 hP];have inst:∀v∈[V1,V2,V3,V4,V5],gP v:=λv hv=>by
        simp only[Zb4,Zc8,Zg9]at hv;rcases hv with rfl|rfl|rfl|rfl|rfl
        .exact F1.out.inst
        .exact F2.out.inst
        .exact F3.inst
        .exact F4.inst
        .exact F5.inst
    have k1:=F1.out.loose.resolve_left λ⟨b,off,n,e⟩=>absurd hP.1 (dN inst (b:=b) (off:=off) (n:=n) (es:=7) (by rw[<-e];simp))
    have k2:=F2.out.loose.resolve_left λ⟨b,off,n,e⟩=>absurd hP.1 (dN inst (b:=b) (off:=off) (n:=n) (es:=9) (by rw[<-e];simp))
    have k3:=F3.loose.resolve_left λ⟨b,off,n,e⟩=>absurd hP.1 (dN inst (b:=b) (off:=off) (n:=n) (es:=3) (by rw[<-e];simp))
    have k4:=F4.loose.resolve_left λ⟨b,off,n,e⟩=>absurd hP.1 (dN inst (b:=b) (off:=off) (n:=n) (es:=1) (by rw[<-e];simp))
    have k5:=F5.loose.resolve_left λ⟨b,off,n,e⟩=>absurd hP.1 (dN inst (b:=b) (off:=off) (n:=n) (es:=6) (by rw[<-e];simp))
    exact⟨s,rfl,Grew.refl hw,V1,V2,V3,V4,V5,r1,r2,rfl,⟨k1.1 s hw,F1.len,λi t r _ h=>by rw[k1.2]at h;simp at h⟩,⟨k2.1 s hw,F2.len,λi t r _ h=>by rw[k2.2]at h;simp at h⟩,k3.1 s hw,k4.1 s hw,k5.1 s hw⟩
  .rw[Zb2 hP];exact⟨_,rfl,Qa,V1,V2,V3,V4,V5,r1,r2,rfl,F1,F2,F3,F4,F5⟩
 obtain⟨cP,u1,u2⟩:=fin;refine⟨_,cP,?_,u2⟩;rw[X9 hc 2000 (r:=(.agg [V1,V2,V3,V4,V5],DX)),u1];rw[aa3];have p13:DX.heap.get p2=some (.cells [V1,V2,V3,V4,V5] 0):=by rw[<-hs13];exact cW _ _ _
 have hcut:cut [V1,V2,V3,V4,V5] 0 5=some [V1,V2,V3,V4,V5]:=bP rfl;have L3:∀(ok:AV->Bool)(K:AV->Option (AV×St)),ok (ints p.cz p.cs)=true->kB (.load none) [.ptr s.next 3] s7.heap ok K=K (ints p.cz p.cs):=λok K h=>pO (ld q7 rfl) ok h K
 have L4:∀(ok:AV->Bool)(K:AV->Option (AV×St)),ok (dm p.rz p.rs)=true->kB (.load none) [.ptr s.next 4] s8.heap ok K=K (dm p.rz p.rs):=λok K h=>pO (ld q8 rfl) ok h K
 have b3:=qQ (CO (d:=2) p.cz p.cs);have b4:=qQ (Kz p.rz p.rs);have w36:=jr (p:=s.next) (o:=3) (h:=s6.heap) (v:=ints p.cz p.cs) (ld q6 rfl) b3;have w46:=jr (p:=s.next) (o:=4) (h:=s6.heap) (v:=dm p.rz p.rs) (ld q6 rfl) b4;have w47:=jr (p:=s.next) (o:=4) (h:=s7.heap) (v:=dm p.rz p.rs) (ld q7 rfl) b4;have q2:=T2.box;have D3':=λk2=>D3 k2
 have E3':=λk2=>E3 k2
 simp at D3' E3';simp[hsB,My,qB,C1,t1,q2,l1,D3',q3,C2,t2,q5,l2,E3',q6,C3,L3,w36,C4,L4,w46,w47,C5,t3,t4,t5,hcut,t6,hs13,p13]
variable{c:aq}
theorem PS.tidy{s s1:St}{Vs:List AV}{p:aP}(hw:Wf s)(h:PS s s1 Vs p):∃cP,Go.Ai.tidy s (.agg Vs,s1)=(.agg Vs,cP)/\PS s cP Vs p:=by
 obtain⟨G,V1,V2,V3,V4,V5,r1,r2,rfl,F1,F2,F3,F4,F5⟩:=h;unfold Go.Ai.tidy;by_cases hP:Plain (AV.agg [V1,V2,V3,V4,V5],s1).1/\bf s (AV.agg [V1,V2,V3,V4,V5],s1).2
 . rw[Zb5 hP];have inst:∀v∈[V1,V2,V3,V4,V5],gP v:=λv hv=>by
    simp only[Zb4,Zc8,Zg9]at hv;rcases hv with rfl|rfl|rfl|rfl|rfl
    .exact F1.out.inst
    .exact F2.out.inst
    .exact F3.inst
    .exact F4.inst
    .exact F5.inst
   have k1:=F1.out.loose.resolve_left λ⟨b,off,n,e⟩=>absurd hP.1 (dN inst (b:=b) (off:=off) (n:=n) (es:=7) (by rw[<-e];simp))
   have k2:=F2.out.loose.resolve_left λ⟨b,off,n,e⟩=>absurd hP.1 (dN inst (b:=b) (off:=off) (n:=n) (es:=9) (by rw[<-e];simp))
   have k3:=F3.loose.resolve_left λ⟨b,off,n,e⟩=>absurd hP.1 (dN inst (b:=b) (off:=off) (n:=n) (es:=3) (by rw[<-e];simp))
   have k4:=F4.loose.resolve_left λ⟨b,off,n,e⟩=>absurd hP.1 (dN inst (b:=b) (off:=off) (n:=n) (es:=1) (by rw[<-e];simp))
   have k5:=F5.loose.resolve_left λ⟨b,off,n,e⟩=>absurd hP.1 (dN inst (b:=b) (off:=off) (n:=n) (es:=6) (by rw[<-e];simp))
   exact⟨s,rfl,Grew.refl hw,V1,V2,V3,V4,V5,r1,r2,rfl,⟨k1.1 s hw,F1.len,λi t r _ h=>by rw[k1.2]at h;simp at h⟩,⟨k2.1 s hw,F2.len,λi t r _ h=>by rw[k2.2]at h;simp at h⟩,k3.1 s hw,k4.1 s hw,k5.1 s hw⟩
 .rw[Zb2 hP];exact⟨_,rfl,G,V1,V2,V3,V4,V5,r1,r2,rfl,F1,F2,F3,F4,F5⟩
theorem PS.kZ{s0 s1 s s':St}{Vs:List AV}{p:aP}(h:PS s1 s Vs p)(h0:Wf s0)(MO:Grew s0 s1)(hg:Grew s0 s')(hk:∀q b,s1.next.toNat<=q.toNat->s.heap.get q=some b->s'.heap.get q=some b):PS s0 s' Vs p:=by
 obtain⟨G,V1,V2,V3,V4,V5,r1,r2,rfl,F1,F2,F3,F4,F5⟩:=h;exact⟨hg,V1,V2,V3,V4,V5,r1,r2,rfl,F1.kZ h0 MO hg hk,F2.kZ h0 MO hg hk,F3.kZ h0 MO hg hk,F4.kZ h0 MO hg hk,F5.kZ h0 MO hg hk⟩
theorem PS.cells{s0 s:St}{Vs:List AV}{p:aP}(h:PS s0 s Vs p):Vs.length=5/\aV Vs=true:=by
 obtain⟨G,V1,V2,V3,V4,V5,r1,r2,rfl,F1,F2,F3,F4,F5⟩:=h;have o1:=F1.out.cells.2;have o2:=F2.out.cells.2;have o3:=F3.cells.2;have o4:=F4.cells.2;have o5:=F5.cells.2;simp only[aV,Zg8]at o1 o2 o3 o4 o5;exact⟨rfl,by simp only[aV,o1,o2,o3,o4,o5,Ze5]⟩
variable{c:aq}
variable{c:aq}
def cnt(n:Nat)(E:List (Int×Int)):Nat:=(List.range n).countP λ(i:Nat)=>(lkE E (i:Int)).isNone
variable{c:aq}
variable{c:aq}
variable{c:aq}
open Classical in
variable{c:aq}
variable{c:aq}
theorem aa4(z:Bool)(l:List (Int))(hl:l.length<=lim)(F:Nat)(k2){s0:St}:∀(m k:Nat)(s:St)(v:AV),Mk 1 s0 s v ((l.take k).map dK)->l.length<=k+m->k<=l.length->
  ∃s' v',Mk 1 s0 s' v' (l.map dK)/\kf c F k2 (m+1) [ints z l,v,.int .i64 (k:Int)] s=k2 [v'] s':=by
 have hl:l.length<=1048576:=hl;have lI:∀(K:AV->St->Option (AV×St))(s:St),aj c (.lenB .l) [ints z l] s K=K (.int .i64 (l.length:Int)) s:=λK s=>by unfold ints;rw[dh];simp
 intro m;induction m with
 |zero=>
  intro k s v hM h1 h2;obtain rfl:k=l.length:=by omega
  refine⟨s,v,by simpa using hM,?_⟩;rw[pT];simp[lI]
 |succ m ih=>
  intro k s v hM h1 h2;by_cases h:k<l.length
  .have w:az .i64 ((k:Int)+1)=((k+1:Nat):Int):=wrap64 (by omega) (by omega);have hlen:((l.take k).map dK).length=k:=(by simp;omega);obtain⟨s5,v5,a1,a2,a3,_⟩:=hM.push (c:=c) (R:=AV×St) (bytes:=8) (z:=[.int .i64 0]) (x:= .int .i64 l[k]) rfl rfl rfl (by decide) (by rw[hlen];omega) (by rw[hlen];omega);have e:(l.take (k+1)).map dK=(l.take k).map dK++[(.int .i64 l[k]:AV).cells]:=(by rw[Zb8 h,Ze2];rfl);rw[<-e]at a2;obtain⟨s',v',b1,b2⟩:=ih (k+1) s5 v5 a2 (by omega) (by omega);refine⟨s',v',b1,?_⟩;rw[<-b2,pT];simp[-eo,lI,ints,h,w,a1]
  .obtain rfl:k=l.length:=(by omega);refine⟨s,v,by simpa using hM,?_⟩;rw[pT];simp[lI]
theorem Vf(hc:Sem c)(z:Bool)(l:List (Int))(hl:l.length<=lim)(s:St)(hw:Wf s):∃v s',c 47 [ints z l] s=some (v,s')/\Mk 1 s s' v (l.map dK):=by
 obtain⟨s',v,hM,L⟩:=aa4 (c:=c) z l hl (l.length+1) (λvs tY=>eP vs λx3 vs=>iD vs (aj c .move [x3] tY λGk II=>aj c .move [Gk] II λx2 IJ=>some (x2,IJ))) (s0:=s) l.length 0 s .af (Mk.start hw (Grew.refl hw)) (by omega) (by omega);obtain⟨cP,t1,t2⟩:=hM.tidy;refine⟨v,cP,?_,t2⟩;rw[JS hc (l.length+1) (r:=(v,s')),t1];rw[Np];simp at L;simp[L]
theorem Zo(z:Bool)(l:List (List Nat))(hl:l.length<=lim)(F:Nat)(k2){s0:St}:∀(m k:Nat)(s:St)(v:AV),Mk 1 s0 s v ((l.take k).map sN)->l.length<=k+m->k<=l.length->
  ∃s' v',Mk 1 s0 s' v' (l.map sN)/\jN c F k2 (m+1) [dY z l,v,.int .i64 (k:Int)] s=k2 [v'] s':=by
 have hl:l.length<=1048576:=hl;have lI:∀(K:AV->St->Option (AV×St))(s:St),aj c (.lenB .l) [dY z l] s K=K (.int .i64 (l.length:Int)) s:=λK s=>by unfold dY;rw[dh];simp
 intro m;induction m with
 |zero=>
  intro k s v hM h1 h2;obtain rfl:k=l.length:=by omega
  refine⟨s,v,by simpa using hM,?_⟩;rw[oV];simp[lI]
 |succ m ih=>
  intro k s v hM h1 h2;by_cases h:k<l.length
  .have w:az .i64 ((k:Int)+1)=((k+1:Nat):Int):=wrap64 (by omega) (by omega);have hlen:((l.take k).map sN).length=k:=(by simp;omega);obtain⟨s5,v5,a1,a2,a3,_⟩:=hM.push (c:=c) (R:=AV×St) (bytes:=16) (z:=[.str []]) (x:= .str l[k]) rfl rfl rfl (by decide) (by rw[hlen];omega) (by rw[hlen];omega);have e:(l.take (k+1)).map sN=(l.take k).map sN++[(.str l[k]:AV).cells]:=(by rw[Zb8 h,Ze2];rfl);rw[<-e]at a2;obtain⟨s',v',b1,b2⟩:=ih (k+1) s5 v5 a2 (by omega) (by omega);refine⟨s',v',b1,?_⟩;rw[<-b2,oV];simp[-eo,lI,dY,h,w,a1]
  .obtain rfl:k=l.length:=(by omega);refine⟨s,v,by simpa using hM,?_⟩;rw[oV];simp[lI]
theorem adj(hc:Sem c)(z:Bool)(l:List (List Nat))(hl:l.length<=lim)(s:St)(hw:Wf s):∃v s',c 171 [dY z l] s=some (v,s')/\Mk 1 s s' v (l.map sN):=by
 obtain⟨s',v,hM,L⟩:=Zo (c:=c) z l hl (l.length+1) (λvs tY=>eP vs λx3 vs=>iD vs (aj c .move [x3] tY λGk II=>aj c .move [Gk] II λx2 IJ=>some (x2,IJ))) (s0:=s) l.length 0 s .af (Mk.start hw (Grew.refl hw)) (by omega) (by omega);obtain⟨cP,t1,t2⟩:=hM.tidy;refine⟨v,cP,?_,t2⟩;rw[IX hc (l.length+1) (r:=(v,s')),t1];rw[LQ];simp at L;simp[L]
theorem aa5(z:Bool)(l:List (Ty))(hl:l.length<=lim)(F:Nat)(k2){s0:St}:∀(m k:Nat)(s:St)(v:AV),Mk 3 s0 s v ((l.take k).map Ty.cells)->l.length<=k+m->k<=l.length->
  ∃s' v',Mk 3 s0 s' v' (l.map Ty.cells)/\ki c F k2 (m+1) [cj z l,v,.int .i64 (k:Int)] s=k2 [v'] s':=by
 have hl:l.length<=1048576:=hl;have lI:∀(K:AV->St->Option (AV×St))(s:St),aj c (.lenB .l) [cj z l] s K=K (.int .i64 (l.length:Int)) s:=λK s=>by unfold cj;rw[dh];simp
 intro m;induction m with
 |zero=>
  intro k s v hM h1 h2;obtain rfl:k=l.length:=by omega
  refine⟨s,v,by simpa using hM,?_⟩;rw[pU];simp[lI]
 |succ m ih=>
  intro k s v hM h1 h2;by_cases h:k<l.length
  .have w:az .i64 ((k:Int)+1)=((k+1:Nat):Int):=wrap64 (by omega) (by omega);have hlen:((l.take k).map Ty.cells).length=k:=(by simp;omega);obtain⟨s5,v5,a1,a2,a3,_⟩:=hM.push (c:=c) (R:=AV×St) (bytes:=40) (z:=[.str [],.str [],.int .u8 0]) (x:= .agg l[k].cells) rfl rfl (by simp) (by decide) (by rw[hlen];omega) (by rw[hlen];omega);have e:(l.take (k+1)).map Ty.cells=(l.take k).map Ty.cells++[(.agg l[k].cells:AV).cells]:=(by rw[Zb8 h,Ze2];rfl);rw[<-e]at a2;obtain⟨s',v',b1,b2⟩:=ih (k+1) s5 v5 a2 (by omega) (by omega);refine⟨s',v',b1,?_⟩;rw[<-b2,pU];simp[-eo,lI,cj,h,w,a1,Ty.len]
  .obtain rfl:k=l.length:=(by omega);refine⟨s,v,by simpa using hM,?_⟩;rw[pU];simp[lI]
theorem ad7(hc:Sem c)(z:Bool)(l:List (Ty))(hl:l.length<=lim)(s:St)(hw:Wf s):∃v s',c 46 [cj z l] s=some (v,s')/\Mk 3 s s' v (l.map Ty.cells):=by
 obtain⟨s',v,hM,L⟩:=aa5 (c:=c) z l hl (l.length+1) (λvs tY=>eP vs λx3 vs=>iD vs (aj c .move [x3] tY λGk II=>aj c .move [Gk] II λx2 IJ=>some (x2,IJ))) (s0:=s) l.length 0 s .af (Mk.start hw (Grew.refl hw)) (by omega) (by omega);obtain⟨cP,t1,t2⟩:=hM.tidy;refine⟨v,cP,?_,t2⟩;rw[JU hc (l.length+1) (r:=(v,s')),t1];rw[Nq];simp at L;simp[L]
theorem Zp(z:Bool)(l:List (Rl))(hl:l.length<=lim)(F:Nat)(k2){s0:St}:∀(m k:Nat)(s:St)(v:AV),Mk 6 s0 s v ((l.take k).map Rl.cells)->l.length<=k+m->k<=l.length->
  ∃s' v',Mk 6 s0 s' v' (l.map Rl.cells)/\jO c F k2 (m+1) [dm z l,v,.int .i64 (k:Int)] s=k2 [v'] s':=by
 have hl:l.length<=1048576:=hl;have lI:∀(K:AV->St->Option (AV×St))(s:St),aj c (.lenB .l) [dm z l] s K=K (.int .i64 (l.length:Int)) s:=λK s=>by unfold dm;rw[dh];simp
 intro m;induction m with
 |zero=>
  intro k s v hM h1 h2;obtain rfl:k=l.length:=by omega
  refine⟨s,v,by simpa using hM,?_⟩;rw[oW];simp[lI]
 |succ m ih=>
  intro k s v hM h1 h2;by_cases h:k<l.length
  .have w:az .i64 ((k:Int)+1)=((k+1:Nat):Int):=wrap64 (by omega) (by omega);have hlen:((l.take k).map Rl.cells).length=k:=(by simp;omega);obtain⟨s5,v5,a1,a2,a3,_⟩:=hM.push (c:=c) (R:=AV×St) (bytes:=72) (z:=[.int .u8 0,.int .i64 0,.str [],.str [],.str [],.int .i64 0]) (x:= .agg l[k].cells) rfl rfl (by simp) (by decide) (by rw[hlen];omega) (by rw[hlen];omega);have e:(l.take (k+1)).map Rl.cells=(l.take k).map Rl.cells++[(.agg l[k].cells:AV).cells]:=(by rw[Zb8 h,Ze2];rfl);rw[<-e]at a2;obtain⟨s',v',b1,b2⟩:=ih (k+1) s5 v5 a2 (by omega) (by omega);refine⟨s',v',b1,?_⟩;rw[<-b2,oW];simp[-eo,lI,dm,h,w,a1]
  .obtain rfl:k=l.length:=(by omega);refine⟨s,v,by simpa using hM,?_⟩;rw[oW];simp[lI]
theorem adk(hc:Sem c)(z:Bool)(l:List (Rl))(hl:l.length<=lim)(s:St)(hw:Wf s):∃v s',c 48 [dm z l] s=some (v,s')/\Mk 6 s s' v (l.map Rl.cells):=by
 obtain⟨s',v,hM,L⟩:=Zp (c:=c) z l hl (l.length+1) (λvs tY=>eP vs λx3 vs=>iD vs (aj c .move [x3] tY λGk II=>aj c .move [Gk] II λx2 IJ=>some (x2,IJ))) (s0:=s) l.length 0 s .af (Mk.start hw (Grew.refl hw)) (by omega) (by omega);obtain⟨cP,t1,t2⟩:=hM.tidy;refine⟨v,cP,?_,t2⟩;rw[IY hc (l.length+1) (r:=(v,s')),t1];rw[LR];simp at L;simp[L]
variable{c:aq}
theorem adl(hc:Sem c)(t:aH)(ht:t.Real)(s:St)(hw:Wf s):∃v s',c 93 [.agg t.cells] s=some (.agg (t.aM v),s')/\Mk 1 s s' v (t.cD.map dK):=by
 have bX:Wf (ah s (.cells t.cells 0)):=bL hw;have g1:=Grew.ah hw (.cells t.cells 0);have gS:Wf (ah (ah s (.cells t.cells 0)) (.cells [.str [],.int .u8 0,.int .i64 0,.int .i64 0,.af,.int .i64 0,.int .i64 0] 0)):=bL bX;have g2:=Grew.ah bX (.cells [.str [],.int .u8 0,.int .i64 0,.int .i64 0,.af,.int .i64 0,.int .i64 0] 0);have x1:(ah (ah s (.cells t.cells 0)) (.cells [.str [],.int .u8 0,.int .i64 0,.int .i64 0,.af,.int .i64 0,.int .i64 0] 0)).heap.get s.next=some (.cells t.cells 0):=g2.get (aF _ _);have x2:=aF (ah s (.cells t.cells 0)) (.cells [.str [],.int .u8 0,.int .i64 0,.int .i64 0,.af,.int .i64 0,.int .i64 0] 0);have n12:s.next≠(ah s (.cells t.cells 0)).next:=by rw[cO];exact Pos.TR _
 have iD:s.next.toNat<(ah s (.cells t.cells 0)).next.toNat:=by rw[cO,Pos.aK];omega
 have nl2:(ah s (.cells t.cells 0)).next.toNat<(ah (ah s (.cells t.cells 0)) (.cells [.str [],.int .u8 0,.int .i64 0,.int .i64 0,.af,.int .i64 0,.int .i64 0] 0)).next.toNat:=by rw[cO (ah s (.cells t.cells 0)),Pos.aK];omega
 have gg:=g1.trans g2;have c4:t.cells[4]? =some (ints t.oz t.cD):=rfl;generalize wR:ah (ah s (.cells t.cells 0)) (.cells [.str [],.int .u8 0,.int .i64 0,.int .i64 0,.af,.int .i64 0,.int .i64 0] 0)=s2 at gS g2 x1 x2 nl2 gg;generalize My:(ah s (.cells t.cells 0)).next=p2 at x2 n12 iD nl2;obtain⟨v,s3,C,M⟩:=Vf hc t.oz t.cD ht.cD s2 gS;obtain⟨vc,v1⟩:=M.cells;have y1:=M.aA.get x1;have y2:=M.aA.get x2;have ji:∀b,bN v=some b->s2.next.toNat<=b.toNat:=M.new;have bQ:∀(K:AV->St->Option (AV×St)),aj c (.store 1) [.ptr s.next 4,v] s3 K=K .undef (bI s3 s.next (.cells (t.aM v) 0)):=λK=>by rw[dz c K s3 1 s.next 4 v t.cells y1 (by rw[vc];rfl) (by rw[aH.len];omega) (by rw[vc];exact v1),vc];rfl
 have nx3:=M.aA.next;have M1:Mk 1 s s3 v (t.cD.map dK):=M.back hw gg;have M2:=M1.store (p:=s.next) (b:= .cells (t.aM v) 0) (Za6 _) (by omega) (λe=>by have:=ji _ e;omega);have z1:(bI s3 s.next (.cells (t.aM v) 0)).heap.get s.next=some (.cells (t.aM v) 0):=cW _ _ _;have z2:(bI s3 s.next (.cells (t.aM v) 0)).heap.get p2=some (.cells [.str [],.int .u8 0,.int .i64 0,.int .i64 0,.af,.int .i64 0,.int .i64 0] 0):=by rw[aO n12];exact y2
 have nz:(bI s3 s.next (.cells (t.aM v) 0)).next=s3.next:=rfl;generalize XG:bI s3 s.next (.cells (t.aM v) 0)=s4 at bQ M2 z1 z2 nz;have one:aV (t.aM v)=true:=by
  simp only[aV]at v1;unfold aH.aM;simp only[aV,AV.one,v1,Ze5,Zg8]at*
 have hcut:cut (t.aM v) 0 7=some (t.aM v):=bP rfl;have zZ:∀(K:AV->St->Option (AV×St)),aj c (.store 7) [.ptr p2 0,.agg (t.aM v)] s4 K=K .undef (bI s4 p2 (.cells (t.aM v) 0)):=λK=>by rw[dz c K s4 7 p2 0 (.agg (t.aM v)) _ z2 rfl (by simp) one];rfl
 have M3:=M2.store (p:=p2) (b:= .cells (t.aM v) 0) (by omega) (by rw[nz];omega) (λe=>by have:=ji _ e;omega);have mem:v∈t.aM v:=by simp[aH.aM]
 obtain⟨cP,t1,_,t3⟩:=M3.VZ mem (λu hu=>by simp only[aH.aM,Zb4,Zc8,Zg9]at hu;rcases hu with rfl|rfl|rfl|rfl|rfl|rfl|rfl<;>first|exact gP.str ht.name|exact gP.int _ _|exact M.inst);refine⟨v,cP,?_,t3⟩;rw[IZ hc 1 (r:=(.agg (t.aM v),bI s4 p2 (.cells (t.aM v) 0))),t1];rw[LS];simp[wR,My,x1,c4,C,bQ,z1,hcut,zZ]
theorem adm(hc:Sem c)(t:aS)(ht:t.Real)(s:St)(hw:Wf s):∃v s',c 94 [.agg t.cells] s=some (.agg (t.aM v),s')/\Mk 1 s s' v (t.tg.map sN):=by
 have bX:Wf (ah s (.cells t.cells 0)):=bL hw;have g1:=Grew.ah hw (.cells t.cells 0);have gS:Wf (ah (ah s (.cells t.cells 0)) (.cells [.str [],.str [],.str [],.int .i64 0,.int .i64 0,.str [],.bool false,.bool false,.af] 0)):=bL bX;have g2:=Grew.ah bX (.cells [.str [],.str [],.str [],.int .i64 0,.int .i64 0,.str [],.bool false,.bool false,.af] 0);have x1:(ah (ah s (.cells t.cells 0)) (.cells [.str [],.str [],.str [],.int .i64 0,.int .i64 0,.str [],.bool false,.bool false,.af] 0)).heap.get s.next=some (.cells t.cells 0):=g2.get (aF _ _);have x2:=aF (ah s (.cells t.cells 0)) (.cells [.str [],.str [],.str [],.int .i64 0,.int .i64 0,.str [],.bool false,.bool false,.af] 0);have n12:s.next≠(ah s (.cells t.cells 0)).next:=by rw[cO];exact Pos.TR _
 have iD:s.next.toNat<(ah s (.cells t.cells 0)).next.toNat:=by rw[cO,Pos.aK];omega
 have nl2:(ah s (.cells t.cells 0)).next.toNat<(ah (ah s (.cells t.cells 0)) (.cells [.str [],.str [],.str [],.int .i64 0,.int .i64 0,.str [],.bool false,.bool false,.af] 0)).next.toNat:=by rw[cO (ah s (.cells t.cells 0)),Pos.aK];omega
 have gg:=g1.trans g2;have c4:t.cells[8]? =some (dY t.tz t.tg):=rfl;generalize wR:ah (ah s (.cells t.cells 0)) (.cells [.str [],.str [],.str [],.int .i64 0,.int .i64 0,.str [],.bool false,.bool false,.af] 0)=s2 at gS g2 x1 x2 nl2 gg;generalize My:(ah s (.cells t.cells 0)).next=p2 at x2 n12 iD nl2;obtain⟨v,s3,C,M⟩:=adj hc t.tz t.tg ht.tg s2 gS;obtain⟨vc,v1⟩:=M.cells;have y1:=M.aA.get x1;have y2:=M.aA.get x2;have ji:∀b,bN v=some b->s2.next.toNat<=b.toNat:=M.new;have bQ:∀(K:AV->St->Option (AV×St)),aj c (.store 1) [.ptr s.next 8,v] s3 K=K .undef (bI s3 s.next (.cells (t.aM v) 0)):=λK=>by rw[dz c K s3 1 s.next 8 v t.cells y1 (by rw[vc];rfl) (by rw[aS.len];omega) (by rw[vc];exact v1),vc];rfl
 have nx3:=M.aA.next;have M1:Mk 1 s s3 v (t.tg.map sN):=M.back hw gg;have M2:=M1.store (p:=s.next) (b:= .cells (t.aM v) 0) (Za6 _) (by omega) (λe=>by have:=ji _ e;omega);have z1:(bI s3 s.next (.cells (t.aM v) 0)).heap.get s.next=some (.cells (t.aM v) 0):=cW _ _ _;have z2:(bI s3 s.next (.cells (t.aM v) 0)).heap.get p2=some (.cells [.str [],.str [],.str [],.int .i64 0,.int .i64 0,.str [],.bool false,.bool false,.af] 0):=by rw[aO n12];exact y2
 have nz:(bI s3 s.next (.cells (t.aM v) 0)).next=s3.next:=rfl;generalize XG:bI s3 s.next (.cells (t.aM v) 0)=s4 at bQ M2 z1 z2 nz;have one:aV (t.aM v)=true:=by
  simp only[aV]at v1;unfold aS.aM;simp only[aV,AV.one,v1,Ze5,Zg8]at*
 have hcut:cut (t.aM v) 0 9=some (t.aM v):=bP rfl;have zZ:∀(K:AV->St->Option (AV×St)),aj c (.store 9) [.ptr p2 0,.agg (t.aM v)] s4 K=K .undef (bI s4 p2 (.cells (t.aM v) 0)):=λK=>by rw[dz c K s4 9 p2 0 (.agg (t.aM v)) _ z2 rfl (by simp) one];rfl
 have M3:=M2.store (p:=p2) (b:= .cells (t.aM v) 0) (by omega) (by rw[nz];omega) (λe=>by have:=ji _ e;omega);have mem:v∈t.aM v:=by simp[aS.aM]
 obtain⟨cP,t1,_,t3⟩:=M3.VZ mem (λu hu=>by simp only[aS.aM,Zb4,Zc8,Zg9]at hu;rcases hu with rfl|rfl|rfl|rfl|rfl|rfl|rfl|rfl|rfl<;>first|exact gP.str ht.name|exact gP.str ht.oQ|exact gP.str ht.jW|exact gP.str ht.nv|exact gP.int _ _|exact gP.bool _|exact M.inst);refine⟨v,cP,?_,t3⟩;rw[I0 hc 1 (r:=(.agg (t.aM v),bI s4 p2 (.cells (t.aM v) 0))),t1];rw[LU];simp[wR,My,x1,c4,C,bQ,z1,hcut,zZ]
variable{c:aq}
theorem Ya(hc:Sem c)(z:Bool)(ts:List aH)(hl:ts.length<=1000)(hr:∀t∈ts,t.Real)(F:Nat)(k2){s0:St}:∀(m k f:Nat)(s:St)(V:AV)(rows:List (List AV)),m<f->k+m=ts.length->TS s0 s V (ts.take k) rows->
  ∃s' V' uM,TS s0 s' V' ts uM/\ju c F k2 f [tabs z ts,V,.int .i64 (k:Int)] s=k2 [V'] s':=by
 have lI:∀(K:AV->St->Option (AV×St))(s:St),aj c (.lenB .l) [tabs z ts] s K=K (.int .i64 (ts.length:Int)) s:=λK s=>by unfold tabs;rw[dh];simp
 intro m;induction m with
 |zero=>
  intro k f s V rows hf h1 hT;obtain⟨f,rfl⟩:∃g,f=g+1:=⟨f - 1,by omega⟩
  obtain rfl:k=ts.length:=by omega
  refine⟨s,V,rows,by simpa using hT,?_⟩;rw[vH];simp[lI]
 |succ m ih=>
  intro k f s V rows hf h1 hT;obtain⟨f,rfl⟩:∃g,f=g+1:=⟨f - 1,by omega⟩
  have h:k<ts.length:=by omega
  have w:az .i64 ((k:Int)+1)=((k+1:Nat):Int):=wrap64 (by omega) (by omega);have hw:=hT.out.aA.wf;obtain⟨v,s1,C,M⟩:=adl hc ts[k] (hr _ (Zc0 h)) s hw;have O1:=hT.out.grow M.aA;have rl:rows.length=k:=by rw[hT.len];simp;omega
  obtain⟨s5,V5,a1,a2,a3,a4⟩:=O1.push (c:=c) (R:=AV×St) (bytes:=80) (z:=[.str [],.int .u8 0,.int .i64 0,.int .i64 0,.af,.int .i64 0,.int .i64 0]) (x:= .agg (ts[k].aM v)) rfl rfl (aH.Y9 _ M.cells.2) (by decide) (by rw[rl];omega) (by rw[rl];omega);have Mv:=M.back hT.out.tZ hT.out.aA;have vV:∀b,bN v=some b->bN V≠some b:=λb hb e=>by have p1:=M.new b hb;have p2:=hT.out.own.lt hw e;omega
  have T5:TS s0 s5 V5 (ts.take (k+1)) (rows++[ts[k].aM v]):=by
   (refine⟨a2,by simp[rl];omega,λi t r hi Fl=> ?_⟩;have small:∀u:AV,∀(rw:List (List AV)),Mk 1 s0 s1 u rw->(∀b,bN u=some b->bN V≠some b)->Mk 1 s0 s5 u rw/\∀b,bN u=some b->bN V5≠some b:=λu rw hu cA=>by refine⟨Mk.Hh hu a2.aA λb x hb hx=>a3 b x (cA b hb) hx,λb hb e=> ?_⟩;have p1:=a4 b e;have p2:=hu.own.lt hu.aA.wf hb;omega);by_cases Ka:i<k
   .    (rw[Zd9 (by omega)]at Fl;have Iq:(ts.take k)[i]? =some t:=by rw[Zd7]at hi ⊢;rw[Zb5 (by omega)]at hi;rw[Zb5 Ka];exact hi);obtain⟨u,e1,e2,e3⟩:=hT.Aa i t r Iq Fl;obtain⟨f1,f2⟩:=small u _ (e2.grow M.aA) e3;exact⟨u,e1,f1,f2⟩
   .    have ajV:i=k:=(by have:=(Za4.1 hi).1;simp at this;omega);subst ajV;rw[Zd6 (by omega)]at Fl;simp[rl]at Fl;rw[Zd7,Zb5 (by omega),Za0 h]at hi;cases hi;obtain⟨f1,f2⟩:=small v _ Mv vV;exact⟨v,Fl.symm,f1,f2⟩
  obtain⟨s',V',uM,b1,b2⟩:=ih (k+1) f s5 V5 _ (by omega) (by omega) T5;refine⟨s',V',uM,b1,?_⟩;rw[<-b2,vH];unfold tabs at lI ⊢;simp[-eo,lI,h,w,aH.len,C,a1]
theorem aa6(hc:Sem c)(z:Bool)(ts:List aH)(hl:ts.length<=1000)(hr:∀t∈ts,t.Real)(s:St)(hw:Wf s):∃V s' rows,c 44 [tabs z ts] s=some (V,s')/\TS s s' V ts rows:=by
 obtain⟨s',V,rows,hT,L⟩:=Ya hc z ts hl hr (ts.length+1) (λvs tY=>eP vs λx3 vs=>iD vs (aj c .move [x3] tY λGk II=>aj c .move [Gk] II λx2 IJ=>some (x2,IJ))) ts.length 0 (ts.length+1) s .af [] (by omega) (by omega) ⟨Mk.start hw (Grew.refl hw),by simp,λi t r h=>by simp at h⟩;have fin:∃cP,tidy s (V,s')=(V,cP)/\TS s cP V ts rows:=by
  unfold tidy;by_cases hp:Plain (V,s').1/\bf s (V,s').2
  . rw[Zb5 hp];refine⟨s,rfl,?_⟩;rcases hT.out.loose with⟨b,off,n,e⟩|⟨gx,e⟩
    .   rw[e]at hp;exact(Go.Ai.nN hp.1).elim
    .   exact⟨gx s hw,hT.len,λi t r _ h=>by rw[e]at h;simp at h⟩
  .rw[Zb2 hp];exact⟨s',rfl,hT⟩
 obtain⟨cP,t1,t2⟩:=fin;refine⟨V,cP,rows,?_,t2⟩;rw[Hv hc (ts.length+1) (r:=(V,s')),t1];rw[JV];simp at L;simp[L]
theorem Yb(hc:Sem c)(z:Bool)(ts:List aS)(hl:ts.length<=1000)(hr:∀t∈ts,t.Real)(F:Nat)(k2){s0:St}:∀(m k f:Nat)(s:St)(V:AV)(rows:List (List AV)),m<f->k+m=ts.length->GS s0 s V (ts.take k) rows->
  ∃s' V' uM,GS s0 s' V' ts uM/\jv c F k2 f [bD z ts,V,.int .i64 (k:Int)] s=k2 [V'] s':=by
 have lI:∀(K:AV->St->Option (AV×St))(s:St),aj c (.lenB .l) [bD z ts] s K=K (.int .i64 (ts.length:Int)) s:=λK s=>by unfold bD;rw[dh];simp
 intro m;induction m with
 |zero=>
  intro k f s V rows hf h1 hT;obtain⟨f,rfl⟩:∃g,f=g+1:=⟨f - 1,by omega⟩
  obtain rfl:k=ts.length:=by omega
  refine⟨s,V,rows,by simpa using hT,?_⟩;rw[vI];simp[lI]
 |succ m ih=>
  intro k f s V rows hf h1 hT;obtain⟨f,rfl⟩:∃g,f=g+1:=⟨f - 1,by omega⟩
  have h:k<ts.length:=by omega
  have w:az .i64 ((k:Int)+1)=((k+1:Nat):Int):=wrap64 (by omega) (by omega);have hw:=hT.out.aA.wf;obtain⟨v,s1,C,M⟩:=adm hc ts[k] (hr _ (Zc0 h)) s hw;have O1:=hT.out.grow M.aA;have rl:rows.length=k:=by rw[hT.len];simp;omega
  obtain⟨s5,V5,a1,a2,a3,a4⟩:=O1.push (c:=c) (R:=AV×St) (bytes:=112) (z:=[.str [],.str [],.str [],.int .i64 0,.int .i64 0,.str [],.bool false,.bool false,.af]) (x:= .agg (ts[k].aM v)) rfl rfl (aS.Y9 _ M.cells.2) (by decide) (by rw[rl];omega) (by rw[rl];omega);have Mv:=M.back hT.out.tZ hT.out.aA;have vV:∀b,bN v=some b->bN V≠some b:=λb hb e=>by have p1:=M.new b hb;have p2:=hT.out.own.lt hw e;omega
  have T5:GS s0 s5 V5 (ts.take (k+1)) (rows++[ts[k].aM v]):=by
   (refine⟨a2,by simp[rl];omega,λi t r hi Fl=> ?_⟩;have small:∀u:AV,∀(rw:List (List AV)),Mk 1 s0 s1 u rw->(∀b,bN u=some b->bN V≠some b)->Mk 1 s0 s5 u rw/\∀b,bN u=some b->bN V5≠some b:=λu rw hu cA=>by refine⟨Mk.Hh hu a2.aA λb x hb hx=>a3 b x (cA b hb) hx,λb hb e=> ?_⟩;have p1:=a4 b e;have p2:=hu.own.lt hu.aA.wf hb;omega);by_cases Ka:i<k
   .    (rw[Zd9 (by omega)]at Fl;have Iq:(ts.take k)[i]? =some t:=by rw[Zd7]at hi ⊢;rw[Zb5 (by omega)]at hi;rw[Zb5 Ka];exact hi);obtain⟨u,e1,e2,e3⟩:=hT.Aa i t r Iq Fl;obtain⟨f1,f2⟩:=small u _ (e2.grow M.aA) e3;exact⟨u,e1,f1,f2⟩
   .    have ajV:i=k:=(by have:=(Za4.1 hi).1;simp at this;omega);subst ajV;rw[Zd6 (by omega)]at Fl;simp[rl]at Fl;rw[Zd7,Zb5 (by omega),Za0 h]at hi;cases hi;obtain⟨f1,f2⟩:=small v _ Mv vV;exact⟨v,Fl.symm,f1,f2⟩
  obtain⟨s',V',uM,b1,b2⟩:=ih (k+1) f s5 V5 _ (by omega) (by omega) T5;refine⟨s',V',uM,b1,?_⟩;rw[<-b2,vI];unfold bD at lI ⊢;simp[-eo,lI,h,w,aS.len,C,a1]
theorem aa7(hc:Sem c)(z:Bool)(ts:List aS)(hl:ts.length<=1000)(hr:∀t∈ts,t.Real)(s:St)(hw:Wf s):∃V s' rows,c 45 [bD z ts] s=some (V,s')/\GS s s' V ts rows:=by
 obtain⟨s',V,rows,hT,L⟩:=Yb hc z ts hl hr (ts.length+1) (λvs tY=>eP vs λx3 vs=>iD vs (aj c .move [x3] tY λGk II=>aj c .move [Gk] II λx2 IJ=>some (x2,IJ))) ts.length 0 (ts.length+1) s .af [] (by omega) (by omega) ⟨Mk.start hw (Grew.refl hw),by simp,λi t r h=>by simp at h⟩;have fin:∃cP,tidy s (V,s')=(V,cP)/\GS s cP V ts rows:=by
  unfold tidy;by_cases hp:Plain (V,s').1/\bf s (V,s').2
  . rw[Zb5 hp];refine⟨s,rfl,?_⟩;rcases hT.out.loose with⟨b,off,n,e⟩|⟨gx,e⟩
    .   rw[e]at hp;exact(Go.Ai.nN hp.1).elim
    .   exact⟨gx s hw,hT.len,λi t r _ h=>by rw[e]at h;simp at h⟩
  .rw[Zb2 hp];exact⟨s',rfl,hT⟩
 obtain⟨cP,t1,t2⟩:=fin;refine⟨V,cP,rows,?_,t2⟩;rw[Hw hc (ts.length+1) (r:=(V,s')),t1];rw[JW];simp at L;simp[L]
variable{c:aq}
theorem Nr(hc:Sem c)(p:aP)(hp:p.Real)(s:St)(hw:Wf s):∃Vs s',c 13 [.agg p.cells] s=some (.agg Vs,s')/\PS s s' Vs p:=by
 have bX:Wf (ah s (.cells p.cells 0)):=bL hw;have gS:Wf (ah (ah s (.cells p.cells 0)) (.cells [.af,.af,.af,.af,.af] 0)):=bL bX;have g2:=(Grew.ah hw (.cells p.cells 0)).trans (Grew.ah bX (.cells [.af,.af,.af,.af,.af] 0));have x1:(ah (ah s (.cells p.cells 0)) (.cells [.af,.af,.af,.af,.af] 0)).heap.get s.next=some (.cells p.cells 0):=(Grew.ah bX _).get (aF _ _);have x2:=aF (ah s (.cells p.cells 0)) (.cells [.af,.af,.af,.af,.af] 0);have nl:s.next.toNat<(ah s (.cells p.cells 0)).next.toNat:=by rw[cO,Pos.aK];omega
 generalize hs1:ah (ah s (.cells p.cells 0)) (.cells [.af,.af,.af,.af,.af] 0)=s1 at gS g2 x1 x2;generalize My:(ah s (.cells p.cells 0)).next=p2 at x2 nl;obtain⟨V1,s2,r1,C1,T1⟩:=aa6 hc p.tz p.ts hp.ts hp.tab s1 gS;obtain⟨V2,s3,r2,C2,T2⟩:=aa7 hc p.gz p.gs hp.gs hp.bT s2 T1.out.aA.wf;obtain⟨V3,s4,C3,T3⟩:=ad7 hc p.yz p.ys hp.ys s3 T2.out.aA.wf;obtain⟨V4,s5,C4,T4⟩:=Vf hc p.cz p.cs hp.cs s4 T3.aA.wf;obtain⟨V5,s6,C5,T5⟩:=adk hc p.rz p.rs hp.rs s5 T4.aA.wf;have SH:=T1.out.aA;have Vg:=T2.out.aA;have Yc:=T3.aA;have G45:=T4.aA;have G56:=T5.aA;have y2:=SH.get x1;have y3:=Vg.get y2;have y4:=Yc.get y3;have y5:=G45.get y4;have z6:=G56.get (G45.get (Yc.get (Vg.get (SH.get x2))));have lt2:=gS _ _ x2;have L0:∀(ok:AV->Bool)(K:AV->Option (AV×St)),ok (tabs p.tz p.ts)=true->kB (.load none) [.ptr s.next 0] s1.heap ok K=K (tabs p.tz p.ts):=λok K h=>pO (by rw[x1];rfl) ok h K
 have L1:∀(ok:AV->Bool)(K:AV->Option (AV×St)),ok (bD p.gz p.gs)=true->kB (.load none) [.ptr s.next 1] s2.heap ok K=K (bD p.gz p.gs):=λok K h=>pO (by rw[y2];rfl) ok h K
 have L2:∀(ok:AV->Bool)(K:AV->Option (AV×St)),ok (cj p.yz p.ys)=true->kB (.load none) [.ptr s.next 2] s3.heap ok K=K (cj p.yz p.ys):=λok K h=>pO (by rw[y3];rfl) ok h K
 have L3:∀(ok:AV->Bool)(K:AV->Option (AV×St)),ok (ints p.cz p.cs)=true->kB (.load none) [.ptr s.next 3] s4.heap ok K=K (ints p.cz p.cs):=λok K h=>pO (by rw[y4];rfl) ok h K
 have L4:∀(ok:AV->Bool)(K:AV->Option (AV×St)),ok (dm p.rz p.rs)=true->kB (.load none) [.ptr s.next 4] s5.heap ok K=K (dm p.rz p.rs):=λok K h=>pO (by rw[y5];rfl) ok h K
 have b1:=qQ (Hi p.gz p.gs);have b2:=qQ (af2 p.yz p.ys);have b3:=qQ (CO (d:=2) p.cz p.cs);have b4:=qQ (Kz p.rz p.rs);have q11:=jr (p:=s.next) (o:=1) (h:=s1.heap) (v:=bD p.gz p.gs) (by rw[x1];rfl) b1;have q21:=jr (p:=s.next) (o:=2) (h:=s1.heap) (v:=cj p.yz p.ys) (by rw[x1];rfl) b2;have q22:=jr (p:=s.next) (o:=2) (h:=s2.heap) (v:=cj p.yz p.ys) (by rw[y2];rfl) b2;have q31:=jr (p:=s.next) (o:=3) (h:=s1.heap) (v:=ints p.cz p.cs) (by rw[x1];rfl) b3;have q32:=jr (p:=s.next) (o:=3) (h:=s2.heap) (v:=ints p.cz p.cs) (by rw[y2];rfl) b3;have q33:=jr (p:=s.next) (o:=3) (h:=s3.heap) (v:=ints p.cz p.cs) (by rw[y3];rfl) b3;have q41:=jr (p:=s.next) (o:=4) (h:=s1.heap) (v:=dm p.rz p.rs) (by rw[x1];rfl) b4;have q42:=jr (p:=s.next) (o:=4) (h:=s2.heap) (v:=dm p.rz p.rs) (by rw[y2];rfl) b4;have q43:=jr (p:=s.next) (o:=4) (h:=s3.heap) (v:=dm p.rz p.rs) (by rw[y3];rfl) b4;have q44:=jr (p:=s.next) (o:=4) (h:=s4.heap) (v:=dm p.rz p.rs) (by rw[y4];rfl) b4;obtain⟨c1,o1⟩:=T1.out.cells;obtain⟨c2,o2⟩:=T2.out.cells;obtain⟨c3,o3⟩:=T3.cells;obtain⟨c4,o4⟩:=T4.cells;obtain⟨c5,o5⟩:=T5.cells;have Ct:cH [AV.af,.af,.af,.af,.af] [(0,1),(1,1),(2,1),(3,1),(4,1)] [V1,V2,V3,V4,V5]=some [V1,V2,V3,V4,V5]:=by
  simp[cH,eD,eZ,aZ,c1,c2,c3,c4,c5]
 have one:aV [V1,V2,V3,V4,V5]=true:=by
  simp only[aV,Zg8]at o1 o2 o3 o4 o5;simp only[aV,o1,o2,o3,o4,o5,Ze5]
 have nj:∀(K:AV->St->Option (AV×St)),aj c (.store 5) [.ptr p2 0,.agg [V1,V2,V3,V4,V5]] s6 K=K .undef (bI s6 p2 (.cells [V1,V2,V3,V4,V5] 0)):=λK=>by rw[dz c K s6 5 p2 0 (.agg [V1,V2,V3,V4,V5]) _ z6 rfl (by simp) one];rfl
 have G16:=SH.trans (Vg.trans (Yc.trans (G45.trans G56)));have G7:Grew s (bI s6 p2 (.cells [V1,V2,V3,V4,V5] 0)):=⟨jI G16.wf (by have:=G16.next;omega),λq b hq=>by have:=hw _ _ hq;rw[aO (λe=>by rw[e]at nl;omega)];exact(g2.trans G16).get hq,by rw[eB];exact(g2.trans G16).next⟩
 have sM:∀q b,s1.next.toNat<=q.toNat->s6.heap.get q=some b->(bI s6 p2 (.cells [V1,V2,V3,V4,V5] 0)).heap.get q=some b:=λq b hq h=>by rw[aO (λe=>by rw[e]at lt2;omega)];exact h
 have F1:=T1.kZ hw g2 G7 λq b hq h=>sM q b hq ((Vg.trans (Yc.trans (G45.trans G56))).get h)
 have F2:=T2.kZ hw (g2.trans SH) G7 λq b hq h=>sM q b (Zb7 SH.next hq) ((Yc.trans (G45.trans G56)).get h)
 have F3:=T3.kZ hw (g2.trans (SH.trans Vg)) G7 λq b hq h=>sM q b (Zb7 (SH.trans Vg).next hq) ((G45.trans G56).get h)
 have F4:=T4.kZ hw (g2.trans (SH.trans (Vg.trans Yc))) G7 λq b hq h=>sM q b (Zb7 (SH.trans (Vg.trans Yc)).next hq) (G56.get h)
 have F5:=T5.kZ hw (g2.trans (SH.trans (Vg.trans (Yc.trans G45)))) G7 λq b hq h=>sM q b (Zb7 (SH.trans (Vg.trans (Yc.trans G45))).next hq) h
 have fin:∃cP,tidy s (.agg [V1,V2,V3,V4,V5],bI s6 p2 (.cells [V1,V2,V3,V4,V5] 0))=(.agg [V1,V2,V3,V4,V5],cP)/\PS s cP [V1,V2,V3,V4,V5] p:=by
  unfold tidy;by_cases hP:Plain (AV.agg [V1,V2,V3,V4,V5],bI s6 p2 (.cells [V1,V2,V3,V4,V5] 0)).1/\bf s (AV.agg [V1,V2,V3,V4,V5],bI s6 p2 (.cells [V1,V2,V3,V4,V5] 0)).2
  . rw[Zb5 hP];have inst:∀v∈[V1,V2,V3,V4,V5],gP v:=λv hv=>by
        simp only[Zb4,Zc8,Zg9]at hv;rcases hv with rfl|rfl|rfl|rfl|rfl
        .exact F1.out.inst
        .exact F2.out.inst
        .exact F3.inst
        .exact F4.inst
        .exact F5.inst
    have k1:=F1.out.loose.resolve_left λ⟨b,off,n,e⟩=>absurd hP.1 (dN inst (b:=b) (off:=off) (n:=n) (es:=7) (by rw[<-e];simp))
    have k2:=F2.out.loose.resolve_left λ⟨b,off,n,e⟩=>absurd hP.1 (dN inst (b:=b) (off:=off) (n:=n) (es:=9) (by rw[<-e];simp))
    have k3:=F3.loose.resolve_left λ⟨b,off,n,e⟩=>absurd hP.1 (dN inst (b:=b) (off:=off) (n:=n) (es:=3) (by rw[<-e];simp))
    have k4:=F4.loose.resolve_left λ⟨b,off,n,e⟩=>absurd hP.1 (dN inst (b:=b) (off:=off) (n:=n) (es:=1) (by rw[<-e];simp))
    have k5:=F5.loose.resolve_left λ⟨b,off,n,e⟩=>absurd hP.1 (dN inst (b:=b) (off:=off) (n:=n) (es:=6) (by rw[<-e];simp))
    exact⟨s,rfl,Grew.refl hw,V1,V2,V3,V4,V5,r1,r2,rfl,⟨k1.1 s hw,F1.len,λi t r _ h=>by rw[k1.2]at h;simp at h⟩,⟨k2.1 s hw,F2.len,λi t r _ h=>by rw[k2.2]at h;simp at h⟩,k3.1 s hw,k4.1 s hw,k5.1 s hw⟩
  .rw[Zb2 hP];exact⟨_,rfl,G7,V1,V2,V3,V4,V5,r1,r2,rfl,F1,F2,F3,F4,F5⟩
 obtain⟨cP,t1,t2⟩:=fin;refine⟨_,cP,?_,t2⟩;rw[FN hc 1 (r:=(.agg [V1,V2,V3,V4,V5],bI s6 p2 (.cells [V1,V2,V3,V4,V5] 0))),t1];rw[I3];have hcut:cut [V1,V2,V3,V4,V5] 0 5=some [V1,V2,V3,V4,V5]:=bP rfl;simp[hs1,My,L0,L1,L2,L3,L4,q11,q21,q22,q31,q32,q33,q41,q42,q43,q44,C1,C2,C3,C4,C5,Ct,nj,hcut]
variable{c:aq}
section
variable{p p':aP}
theorem aP.dA.symm(h:p.dA p'):p'.dA p where
 tl:=h.tl.symm
 ts i t t' h1 h2:=by obtain⟨z,rfl⟩:=h.ts i t' t h2 h1;exact⟨t'.oz,rfl⟩
 gl:=h.gl.symm
 gs i t t' h1 h2:=by obtain⟨z,rfl⟩:=h.gs i t' t h2 h1;exact⟨t'.tz,rfl⟩
 ys:=h.ys.symm
 cs:=h.cs.symm
 rs:=h.rs.symm
theorem aP.dA.trans{q:aP}(h:p.dA p')(k:p'.dA q):p.dA q where
 tl:=k.tl.trans h.tl
 ts i t t' h1 h2:=by
  have hi:i<p'.ts.length:=by rw[h.tl];exact(Za4.1 h1).1
  have e:=Za0 hi;obtain⟨z,e1⟩:=h.ts i _ _ h1 e;obtain⟨z2,e2⟩:=k.ts i _ _ e h2;exact⟨z2,by rw[e2,e1]⟩
 gl:=k.gl.trans h.gl
 gs i t t' h1 h2:=by
  have hi:i<p'.gs.length:=by rw[h.gl];exact(Za4.1 h1).1
  have e:=Za0 hi;obtain⟨z,e1⟩:=h.gs i _ _ h1 e;obtain⟨z2,e2⟩:=k.gs i _ _ e h2;exact⟨z2,by rw[e2,e1]⟩
 ys:=k.ys.trans h.ys
 cs:=k.cs.trans h.cs
 rs:=k.rs.trans h.rs
theorem aP.dA.tab(h:p.dA p'){t':aH}(ht:t'∈p'.ts):∃t∈p.ts,t.dA t':=by
 obtain⟨i,hi,rfl⟩:=Zf0.1 ht;have Iq:i<p.ts.length:=by rw[<-h.tl];exact hi
 exact⟨p.ts[i],Zc0 Iq,h.ts i _ _ (Za0 Iq) (Za0 hi)⟩
theorem aP.dA.bT(h:p.dA p'){t':aS}(ht:t'∈p'.gs):∃t∈p.gs,t.dA t':=by
 obtain⟨i,hi,rfl⟩:=Zf0.1 ht;have Iq:i<p.gs.length:=by rw[<-h.gl];exact hi
 exact⟨p.gs[i],Zc0 Iq,h.gs i _ _ (Za0 Iq) (Za0 hi)⟩
theorem aP.dA.KS(h:p.dA p')(hp:p.ew):p'.ew where
 ts:=by rw[h.tl];exact hp.ts
 gs:=by rw[h.gl];exact hp.gs
 ys:=by rw[h.ys];exact hp.ys
 cs:=by rw[h.cs];exact hp.cs
 rs:=by rw[h.rs];exact hp.rs
 ok t ht:=by obtain⟨u,hu,z,rfl⟩:=h.tab ht;have:=hp.ok u hu;exact⟨this.1,this.2⟩
theorem aP.dA.real(h:p.dA p')(hp:p.Real):p'.Real where
 ts:=by rw[h.tl];exact hp.ts
 tab t ht:=by obtain⟨u,hu,z,rfl⟩:=h.tab ht;have:=hp.tab u hu;exact⟨this.1,this.2⟩
 gs:=by rw[h.gl];exact hp.gs
 bT t ht:=by obtain⟨u,hu,z,rfl⟩:=h.bT ht;have:=hp.bT u hu;exact⟨this.1,this.2,this.3,this.4,this.5⟩
 ys:=by rw[h.ys];exact hp.ys
 cs:=by rw[h.cs];exact hp.cs
 rs:=by rw[h.rs];exact hp.rs
theorem aP.Real.akI(hp:p.Real)(hk:∀t∈p.ts,t.Ok):p.Big where
 ts:=by have:=hp.ts;unfold cC;omega
 cD t ht:=(hk t ht).2
 gs:=by have:=hp.gs;unfold cC;omega
 tg t ht:=by have h:=(hp.bT t ht).tg;have h:t.tg.length<=1048576:=h;unfold cC;omega
 ys:=by have h:=hp.ys;have h:p.ys.length<=1048576:=h;unfold cC;omega
 cs:=by have h:=hp.cs;have h:p.cs.length<=1048576:=h;unfold cC;omega
 rs:=by have h:=hp.rs;have h:p.rs.length<=1048576:=h;unfold cC;omega
theorem ahL(s:St)(d es:Nat)(z:Bool)(l:List (List AV)):dM s d (ro es z l)=ro es z l:=by unfold ro;split<;>cases d<;>rfl
theorem nO(s:St)(d:Nat)(p:aP):dM s (d+1) (.agg p.cells)= .agg p.cells:=by
 rw[YO];simp only[aP.cells,tabs,bD,cj,ints,dm,Zb1,Zd5,ahL]
theorem ajW(t:aH){v:AV}(h:cL v):∀x∈t.aM v,cL x:=λx hx=>by simp only[aH.aM,Zb4,Zc8,Zg9]at hx;rcases hx with rfl|rfl|rfl|rfl|rfl|rfl|rfl<;>first|exact h|exact cL.str _|exact cL.int _ _
theorem ajX(t:aS){v:AV}(h:cL v):∀x∈t.aM v,cL x:=λx hx=>by simp only[aS.aM,Zb4,Zc8,Zg9]at hx;rcases hx with rfl|rfl|rfl|rfl|rfl|rfl|rfl|rfl|rfl<;>first|exact h|exact cL.str _|exact cL.int _ _|exact cL.bool _
theorem nE{α:Type}{f:α->List AV}(h:∀a,∀x∈f a,cL x)(l:List α):∀r∈l.map f,∀x∈r,cL x:=λr hr x hx=>by obtain⟨a,_,rfl⟩:=Zd0.1 hr;exact h a x hx
theorem uk(i:Int):∀x∈dK i,cL x:=λx hx=>by simp only[dK,Zb4,Zc8,Zg9]at hx;subst hx;exact cL.int _ _
theorem ahM(i:List Nat):∀x∈sN i,cL x:=λx hx=>by simp only[sN,Zb4,Zc8,Zg9]at hx;subst hx;exact cL.str _
theorem alJ(t:Ty):∀x∈t.cells,cL x:=λx hx=>by simp only[Ty.cells,Zb4,Zc8,Zg9]at hx;rcases hx with rfl|rfl|rfl<;>first|exact cL.str _|exact cL.int _ _
theorem alK(t:Rl):∀x∈t.cells,cL x:=λx hx=>by simp only[Rl.cells,Zb4,Zc8,Zg9]at hx;rcases hx with rfl|rfl|rfl|rfl|rfl|rfl<;>first|exact cL.str _|exact cL.int _ _
end
section
variable{s s1:St}
theorem TS.cK{V:AV}{ts:List aH}{rows:List (List AV)}(hw:Wf s)(h:TS (emptyAt s) s1 V ts rows):TS s (cK s s1) V ts rows where
 out:=Mk.cK hw h.out (λr hr x hx=>by
  obtain⟨i,hi,rfl⟩:=Zf0.1 hr;have ht:i<ts.length:=by rw[<-h.len];exact hi
  obtain⟨v,e,M,_⟩:=h.Aa i _ _ (Za0 ht) (Za0 hi);rw[e]at hx;exact ajW _ M.own.bare x hx)
 len:=h.len
 Aa i t r hi hr:=by
  obtain⟨v,e,M,n⟩:=h.Aa i t r hi hr;exact⟨v,e,Mk.cK hw M (nE uk _),n⟩
theorem GS.cK{V:AV}{ts:List aS}{rows:List (List AV)}(hw:Wf s)(h:GS (emptyAt s) s1 V ts rows):GS s (cK s s1) V ts rows where
 out:=Mk.cK hw h.out (λr hr x hx=>by
  obtain⟨i,hi,rfl⟩:=Zf0.1 hr;have ht:i<ts.length:=by rw[<-h.len];exact hi
  obtain⟨v,e,M,_⟩:=h.Aa i _ _ (Za0 ht) (Za0 hi);rw[e]at hx;exact ajX _ M.own.bare x hx)
 len:=h.len
 Aa i t r hi hr:=by
  obtain⟨v,e,M,n⟩:=h.Aa i t r hi hr;exact⟨v,e,Mk.cK hw M (nE ahM _),n⟩
theorem PS.cK{Vs:List AV}{p:aP}(hw:Wf s)(h:PS (emptyAt s) s1 Vs p):PS s (cK s s1) Vs p:=by
 obtain⟨V1,V2,V3,V4,V5,r1,r2,e,h1,h2,h3,h4,h5⟩:=h.all;exact⟨Lu hw h.aA.wf h.aA.next,V1,V2,V3,V4,V5,r1,r2,e,TS.cK hw h1,GS.cK hw h2,Mk.cK hw h3 (nE alJ _),Mk.cK hw h4 (nE uk _),Mk.cK hw h5 (nE alK _)⟩
theorem PS.bare{s0:St}{Vs:List AV}{p:aP}(h:PS s0 s Vs p):∀V∈Vs,cL V:=λV hV=>by
 obtain⟨V1,V2,V3,V4,V5,r1,r2,rfl,h1,h2,h3,h4,h5⟩:=h.all;simp only[Zb4,Zc8,Zg9]at hV;rcases hV with rfl|rfl|rfl|rfl|rfl
 .exact h1.out.own.bare
 .exact h2.out.own.bare
 .exact h3.own.bare
 .exact h4.own.bare
 .exact h5.own.bare
end
variable{c:aq}
theorem Db(z:Bool)(rs:List Rl){i:Nat}(hi:i<rs.length)(K:AV->St->Option (AV×St))(s:St):aj c (.idxA 6 none) [dm z rs,.int .i64 (i:Int)] s K=K (.fp (rs.map Rl.cells) i 0) s:=by
 unfold dm;rw[Io];simp[hi]
theorem Fm(rs:List Rl){i:Nat}(hi:i<rs.length)(K:AV->St->Option (AV×St))(s:St):aj c (.load (some 6)) [.fp (rs.map Rl.cells) i 0] s K=K (.agg (rs[i]).cells) s:=by
 rw[ER];simp[hi]
theorem Ua(r:Rl)(s:St)(K:AV->St->Option (AV×St)):aj c (.store 6) [.ptr s.next 0,.agg r.cells] (ah s (.cells [.int .u8 0,.int .i64 0,.str [],.str [],.str [],.int .i64 0] 0)) K=K .undef (ah s (.cells r.cells 0)):=cV c K s 6 (.agg r.cells) _ rfl rfl rfl
variable{c:aq}
theorem aeP(z:Bool)(gs:List aS){i:Nat}(hi:i<gs.length)(K:AV->St->Option (AV×St))(s:St):aj c (.idxA 9 none) [bD z gs,.int .i64 (i:Int)] s K=K (.fp (gs.map aS.cells) i 0) s:=by
 unfold bD;rw[Io];simp[hi]
theorem aeQ(gs:List aS){i:Nat}(hi:i<gs.length)(K:AV->St->Option (AV×St))(s:St):aj c (.load (some 9)) [.fp (gs.map aS.cells) i 0] s K=K (.agg (gs[i]).cells) s:=by
 rw[ER];simp[hi]
end
section
open Go Go.Ai Go.Proofs
def aP.Hx(p:aP)(z:Bool)(l:List Rl):aP:={ p with rz:=z,rs:=l }
end
section
open Go Go.Ai Go.Proofs
variable{c:aq}
theorem adn(w:List Int):(w.map dK).flatten=fO w:=by
 induction w with
 |nil=>rfl
 |cons a w ih=>rw[Zb1,Ze9,ih];rfl
theorem alL(w:List Int):aV (fO w)=true:=by
 induction w with
 |nil=>rfl
 |cons a w ih=>rw[fO,Zb1];unfold aV;exact ih
theorem aeR{a b:List Int}(h:fO a=fO b):a=b:=by
 induction a generalizing b with
 |nil=>cases b with|nil=>rfl|cons y b=>simp at h
 |cons x a ih=>
  cases b with
  |nil=>simp at h
  |cons y b=>
   simp only[Zb1,Zh1,AV.int.injEq,true_and]at h;rw[h.1,ih h.2]
def I6(s:St)(v:AV)(w:List Int):Prop:=(v= .af/\w=[])\/∃b,w≠[]/\v= .slice b 0 w.length none 1/\s.heap.get b=some (.cells (fO w) 0)
theorem I6.mono{s s':St}{v:AV}{w:List Int}(h:I6 s v w)(hk:∀b x,bN v=some b->s.heap.get b=some x->s'.heap.get b=some x):I6 s' v w:=by
 rcases h with h|⟨b,a1,rfl,hb⟩
 .exact .inl h
 .exact .inr ⟨b,a1,rfl,hk b _ (iE ..) hb⟩
theorem alM{s:St}{v W:AV}{w BK:List Int}(hw:Wf s)(h:I6 s v w)(hW:QS 1 s W (BK.map dK))(hB:w.length+BK.length<=1000000):
   ∃s5 v',(∀(K:AV->St->Option (AV×St)),aj c (.append 1 8) [v,W] s K=K v' s5)/\I6 s5 v' (w++BK)/\Wf s5/\s.next.toNat<=s5.next.toNat/\
    (∀p x,bN v≠some p->s.heap.get p=some x->s5.heap.get p=some x)/\∀b,bN v'=some b->bN v=some b\/s.next.toNat<=b.toNat:=by
 have hl:=hW.len;rw[Zb9]at hl;have fx:=hW.first (λr hr=>by obtain⟨x,_,rfl⟩:=Zd0.1 hr;rfl);rw[adn,Zb9]at fx;by_cases h0:BK=[]
 . subst h0;rw[Zd4];refine⟨s,v,λK=> ?_,h,hw,Za6 _,λp x _ hx=>hx,λb hb=>.inl hb⟩;have run:aJ.run (λb=>s.heap.get b) s.next (.append 1 8) [v,W]=some (.val v):=by
    rcases h with⟨rfl,rfl⟩|⟨b,cA,rfl,hb⟩
    .   simp only[aJ.run,gR];rw[show dX .af=some 0 from rfl,hl];rfl
    .   simp only[aJ.run,gR];have h1:(2*(w.length+0)+768)*8<=281474976710656:=(by simp at hB;omega);have h2:w.length+0<=9223372036854775807:=(by simp at hB;omega);rw[show dX (.slice b 0 w.length none 1)=some w.length from rfl,hl];simp only[Zi6,eZ,eD,Za1 h1,Za1 h2,Zh8]
   unfold aj cJ;rw[run]
 have hp:0<BK.length:=Zp8.2 h0;have hm:¬BK.length=0:=by omega
 rcases h with⟨rfl,rfl⟩|⟨b,cA,rfl,hb⟩
 . rw[Zg3];have h1:(2*(0+BK.length)+768)*8<=281474976710656:=(by simp at hB;omega);have h2:0+BK.length<=9223372036854775807:=(by simp at hB;omega);refine⟨ah s (.cells (fO BK) 0),.slice s.next 0 BK.length none 1,λK=> ?_,.inr ⟨s.next,h0,rfl,aF _ _⟩,bL hw,by rw[cO,Pos.aK];omega,λp x _ hx=>by rw[ru (hw _ _ hx)];exact hx,λb hb=>by rw[iE]at hb;cases hb;exact .inr (Za6 _)⟩;have run:aJ.run (λb=>s.heap.get b) s.next (.append 1 8) [.af,W]=some (.br (.slice s.next 0 BK.length none 1) none none (some (.cells (fO BK) 0))):=by
    simp only[aJ.run,gR];rw[show dX .af=some 0 from rfl,hl];simp only[eZ,eD,Za1 h1,Za1 h2,Za3 hm,fx]
   unfold aj cJ;rw[run];rfl
 . have h1:(2*(w.length+BK.length)+768)*8<=281474976710656:=(by omega);have h2:w.length+BK.length<=9223372036854775807:=(by omega);have hn:¬w.length*1=0:=(by have:=Zp8.2 cA;omega);have fw:cZ 1 w.length (λb=>s.heap.get b) (.slice b 0 w.length none 1)=some (fO w):=by
    simp only[cZ,eD,Za3 hn,hb];exact bP (by simp)
   refine⟨dst s b (.cells (fO (w++BK)) 0),.slice s.next 0 (w++BK).length none 1,λK=> ?_,.inr ⟨s.next,by simp[h0],rfl,TU _ _ _⟩,ace hw,by show _<=s.next.succ.toNat;rw[Pos.aK];omega,λp x hp hx=>by
    rw[OH (λe=>hp (by rw[e,iE])) (hw _ _ hx)];exact hx,λb hb=>by rw[iE]at hb;cases hb;exact .inr (Za6 _)⟩
   have run:aJ.run (λb=>s.heap.get b) s.next (.append 1 8) [.slice b 0 w.length none 1,W]=some (.br (.slice s.next 0 (w.length+BK.length) none 1) (some b) none (some (.cells (fO w++fO BK) 0))):=(by simp only[aJ.run,gR];rw[show dX (.slice b 0 w.length none 1)=some w.length from rfl,hl];simp only[eZ,eD,Za1 h1,Za1 h2,Za3 hm,hb,fw,fx,alL];simp);unfold aj cJ;have ea:fO (w++BK)=fO w++fO BK:=Ze2;rw[run,Zc9,ea];rfl
theorem age(w:List Int):MS (fO w)=some w:=by
 induction w with
 |nil=>rfl
 |cons a w ih=>rw[fO,Zb1];unfold MS;rw[show List.map (AV.int .i64) w=fO w from rfl,ih]
theorem aaj{s:St}{b:Pos}{w:List Int}(h:s.heap.get b=some (.cells (fO w) 0))(hl:w.length<=1000000):rowOf s b 0 w.length=some (fO w,w):=by
 unfold rowOf;rw[h];have e:((fO w).drop 0).take w.length=fO w:=by rw[Zf4];exact Zg0 (by simp)
 simp only[e,age,eD,eZ,Zh8,Za1 hl,Zg8]
theorem agf(l vs:List AV)(h:vs.length=l.length):aZ l 0 vs=vs:=by
 unfold aZ;rw[List.take_zero,Zg3,Za5,h,Zo4,Zd4]
theorem ado(s:St)(b:Pos){w z:List Int}(h:z.length=w.length):laid s b (fO w) 0 z=bI s b (.cells (fO z) 0):=by unfold laid;rw[agf _ _ (by simp[h])];rfl
theorem ajY{s:St}{v:AV}{w:List Int}(hw:Wf s)(h:I6 s v w)(hl:w.length<=1000000):
   ∃s',KG [v] s=some (.tuple [],s')/\I6 s' v (AQ w)/\Wf s'/\s'.next=s.next/\∀p,bN v≠some p->s'.heap.get p=s.heap.get p:=by
 rcases h with⟨rfl,rfl⟩|⟨b,cA,rfl,hb⟩
 .exact⟨s,rfl,.inl ⟨rfl,Zc1 (by rw[Fo];rfl)⟩,hw,rfl,λ_ _=>rfl⟩
 . have aW:=hw _ _ hb;have hr:=aaj hb hl;refine⟨bI s b (.cells (fO (AQ w)) 0),?_,.inr ⟨b,λe=> ?_,by rw[Fo],cW _ _ _⟩,jI hw aW,rfl,λp hp=>aO (λe=>hp (by rw[iE,e]))⟩
   . rw[<-ado s b (Fo w)];cases w with
     |nil=>exact absurd rfl cA
     |  cons a t=>
        simp only[KG,Zc2]at hr ⊢;rw[hr]
   .have:=Fo w;rw[e]at this;exact cA (Zc1 this.symm)
theorem ajZ{s:St}{v:AV}{w:List Int}(hw:Wf s)(h:I6 s v w)(x:Int)(hB:w.length+1<=1000000):
  ∃s5 v',(∀(K:AV->St->Option (AV×St)),aj c (.append 1 8) [v,.slice s.next 0 1 (some 1) 1] (ah s (.cells [.int .i64 x] 0)) K=K v' s5)/\I6 s5 v' (w++[x])/\Wf s5/\s.next.toNat<=s5.next.toNat/\
   (∀p y,bN v≠some p->s.heap.get p=some y->s5.heap.get p=some y)/\∀b,bN v'=some b->bN v=some b\/s.next.toNat<=b.toNat:=by
 have g:=Grew.ah hw (.cells [.int .i64 x] 0);have x1:=aF s (.cells [.int .i64 x] 0);have hW:QS 1 (ah s (.cells [.int .i64 x] 0)) (.slice s.next 0 1 (some 1) 1) ([x].map dK):= .inr (.inl ⟨s.next,0,some 1,[.int .i64 x],rfl,x1,by simp,rfl,.inr rfl⟩);obtain⟨s5,v',a1,a2,a3,a4,a5,a6⟩:=alM (c:=c) g.wf (h.mono λb y _ hy=>g.get hy) hW (by simpa using hB);exact⟨s5,v',a1,a2,a3,Zb7 g.next a4,λp y hp hy=>a5 p y hp (g.get hy),λb hb=>(a6 b hb).imp id λh=>Zb7 g.next h⟩
end
end Go.Proofs.YtngcejgciomphaaGreatDoor
