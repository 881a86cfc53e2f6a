/- What the plain functions answer: names and what is asked of a rule. -/
import Derived.Test.YtehbdakjkjkekaaGreatDoorPlainA
import Derived.Test.YtehbdakjkjkekaaGreatDoorEvalE
set_option linter.all false
set_option linter.unusedSectionVars false
set_option linter.deprecated false
section
set_option maxRecDepth 100000
namespace Go.Proofs.YtehbdakjkjkekaaGreatDoor
open Go Go.Ai Go.Proofs
variable {c : ak}
def ML (N0:Nat) (s:St) (X:Pos) (bs:List Nat):Prop:=
 X.toNat<N0/\N0<=s.next.toNat/\(∀x∈bs,x<256)/\ ∃p v,s.heap.get X=some (.typed 81 [p,v])/\(p= .bF\/p= .ptr X 0)/\
    ((v= .ai/\bs=[])\/ ∃Y,v= .slice Y 0 bs.length none 1/\s.heap.get Y=some (.typed 5 (q8 bs))/\N0<=Y.toNat/\bs≠[])
theorem Kj {st st':St} {X:Pos} {x y:AB} (h:st.heap.get X=some x) (h':st'.heap.get X=some y) (bO:x≠y): ¬dz st st':=fun k=>by
 have:=k X x h
 rw[h'] at this
 exact bO (Option.some.inj this).symm
theorem Gn {st st':St} {v:AV} (h: ¬dz st st'):tidy st (v,st')=(v,st'):=by
 unfold tidy;rw[if_neg]
 exact fun e=>h e.2
theorem Plain.tup0:Plain (.tuple []):=Plain.tuple (fun v h=>by cases h)
theorem MM (hc:Sem c) {s:St} {X:Pos} {p v:AV} (h:s.heap.get X=some (.typed 81 [p,v])) (hp:p= .bF\/p= .ptr X 0):
   ∃s',c 105 [.ptr X 0] s=some (.tuple [],s')/\s'.heap.get X=some (.typed 81 [.ptr X 0,v])/\(∀b,b≠X->s'.heap.get b=s.heap.get b)/\s'.next=s.next:=by
 rcases hp with rfl|rfl
 . refine ⟨ew s X (.typed 81 [.ptr X 0,v]),?_,eO _ _ _,fun b hb=>bV (fun e=>hb e.symm),rfl⟩
   rw[mL hc 1 (r:=(.tuple [],ew s X (.typed 81 [.ptr X 0,v]))),Gn (Kj h (eO _ _ _) (by simp))]
   rw[kz]
   have e1: ∀(K:AV->St->Option (AV×St)) (t:St),ag c (.bin .eql .ptr) [.bF,.bF] t K=K (.bool true) t:=fun K t=>rfl
   have e2: ∀(K:AV->St->Option (AV×St)),ag c .toU [.ptr X 0] s K=K (.ptr X 0) s:=fun K=>Zn h (by simp) K
   have e3: ∀(K:AV->St->Option (AV×St)),ag c (.fromU 81 2) [.ptr X 0] s K=K (.ptr X 0) s:=fun K=>SU h (by simp) K
   have e4: ∀(K:AV->St->Option (AV×St)),ag c (.store 1) [.ptr X 0,.ptr X 0] s K=K .undef (ew s X (.typed 81 [.ptr X 0,v])):=fun K=>Ip (m:=1) h rfl (by simp) rfl K
   have e5:=On hc (.ptr X 0) s
   simp[h,e1,e2,e3,e4,e5]
 . refine ⟨s,?_,h,fun _ _=>rfl,rfl⟩
   rw[mL hc 1 (r:=(.tuple [],s)),mY Plain.tup0 (dz.refl s)]
   rw[kz]
   have e1: ∀(K:AV->St->Option (AV×St)) (t:St),ag c (.bin .eql .ptr) [.ptr X 0,.bF] t K=K (.bool false) t:=fun K t=>rfl
   have e2: ∀(K:AV->St->Option (AV×St)) (t:St),ag c (.bin .neq .ptr) [.ptr X 0,.ptr X 0] t K=K (.bool false) t:=fun K t=>bQ c K (fun H n=>by simp[aB.run,gD,mz,yQ,Pos.beq_eq.2 rfl]) t
   simp[h,e1,e2]
theorem Jp (hc:Sem c) {N0:Nat} {s:St} {X:Pos} {bs u:List Nat} (hw:Wf s) (h:ML N0 s X bs) (hu:u≠[]) (hu2: ∀x∈u,x<256) (hl:bs.length+u.length<=140000000000000):
   ∃s',c 36 [.ptr X 0,.str u] s=some (.tuple [.int .i64 (u.length:Int),.lp],s')/\ML N0 s' X (bs++u)/\Wf s'/\(∀b,b≠X->b.toNat<N0->s'.heap.get b=s.heap.get b):=by
 obtain ⟨h1,h2,h3,p,v,hX,hp,hv⟩:=h
 obtain ⟨s1,c1,c2,c3,c4⟩:=MM hc hX hp
 have fK:Wf s1:=fun b x hb=>by
   rw[c4]
   by_cases e:b=X
   . subst e;exact hw _ _ hX
   . rw[c3 b e] at hb;exact hw _ _ hb
 have OU:u.length≠0:=fun e=>hu (List.eq_nil_of_length_eq_zero e)
 have zS: ∀x∈bs++u,x<256:=fun x hx=>(List.mem_append.1 hx).elim (h3 x) (hu2 x)
 have key: ∃s2,(∀(K:AV->St->Option (AV×St)),ag c (.appendT 5 1) [v,.str u] s1 K=K (.slice s1.next 0 (bs.length+u.length) none 1) s2)/\s2.heap.get X=some (.typed 81 [.ptr X 0,v])/\
     s2.heap.get s1.next=some (.typed 5 (q8 (bs++u)))/\Wf s2/\s2.next=s1.next.succ/\ ∀b,b.toNat<N0->s2.heap.get b=s1.heap.get b:=by
   have hXs:X.toNat<s1.next.toNat:=by rw[c4];omega
   rcases hv with ⟨rfl,rfl⟩|⟨Y,rfl,hY,hN,hb⟩
   . refine ⟨ay s1 (.typed 5 (q8 u)),fun K=>by simpa using SV (c:=c) (st:=s1) (e:=5) (bytes:=1) (u:=u) (by omega) (by omega) OU K,by rw[kD hXs];exact c2,bh _ _,fX fK,rfl,fun b hb=>kD (by rw[c4];omega)⟩
   . have hYX:Y≠X:=fun e=>by subst e;omega
     have hY1:s1.heap.get Y=some (.typed 5 (q8 bs)):=by rw[c3 Y hYX];exact hY
     have jR: ∀b,b≠Y->b≠s1.next->(s1.aE (some Y) none (some (.typed 5 (q8 (bs++u))))).heap.get b=s1.heap.get b:=fun b bR bC=>by
        show (T.put _ s1.next (T.put none Y s1.heap)).get b=_
        rw[T.bq _ (fun e=>bC e.symm),T.bq _ (fun e=>bR e.symm)]
     refine ⟨s1.aE (some Y) none (some (.typed 5 (q8 (bs++u)))),fun K=>VB hY1 (by omega) (by omega) OU K,by rw[jR X (fun e=>hYX e.symm) (fun e=>by rw[e] at hXs;omega)];exact c2,T.dZ _ _ _,fun b x hb=> ?_,rfl,fun b hb=>jR b (fun e=>by subst e;omega) (fun e=>by subst e;rw[c4] at hb;omega)⟩
     show b.toNat<s1.next.succ.toNat
     rw[Pos.az]
     by_cases e1:b=s1.next
     .  subst e1;omega
     .  by_cases e2:b=Y
        . subst e2;have:=fK _ _ hY1;omega
        . rw[jR b e2 e1] at hb;have:=fK _ _ hb;omega
 obtain ⟨s2,k1,k2,k3,k4,k5,k6⟩:=key
 have bO:bs++u≠[]:=by simp[hu]
 have hXn:X≠s1.next:=fun e=>by rw[c4] at e;subst e;omega
 have QF:(ew s2 X (.typed 81 [.ptr X 0,.slice s1.next 0 (bs.length+u.length) none 1])).heap.get X=some (.typed 81 [.ptr X 0,.slice s1.next 0 (bs.length+u.length) none 1]):=eO _ _ _
 refine ⟨ew s2 X (.typed 81 [.ptr X 0,.slice s1.next 0 (bs.length+u.length) none 1]),?_,⟨h1,by rw[tL,k5,Pos.az,c4];omega,zS,.ptr X 0,.slice s1.next 0 (bs.length+u.length) none 1,QF,.inr rfl,.inr ⟨s1.next,by rw[List.length_append],by rw[bV hXn];exact k3,by rw[c4];omega,bO⟩⟩,fun b x hb=> ?_,fun b bR bC=> ?_⟩
 . rw[rB hc 1 (r:=(.tuple [.int .i64 (u.length:Int),.lp],ew s2 X (.typed 81 [.ptr X 0,.slice s1.next 0 (bs.length+u.length) none 1]))),Gn (Kj hX QF (by
     rcases hv with ⟨rfl,rfl⟩|⟨Y,rfl,hY,hN,hb⟩
     .  simp
     .  simp;intros;omega))]
   rw[nN]
   have e4: ∀(K:AV->St->Option (AV×St)),ag c (.store 1) [.ptr X 1,.slice s1.next 0 (bs.length+u.length) none 1] s2 K=K .undef (ew s2 X (.typed 81 [.ptr X 0,.slice s1.next 0 (bs.length+u.length) none 1])):=fun K=>Ip (m:=1) k2 rfl (by simp) rfl K
   simp[c1,c2,k1,e4]
 . rw[tL]
   by_cases e:b=X
   . subst e;rw[k5,Pos.az,c4];omega
   . rw[bV (fun e'=>e e'.symm)] at hb;exact k4 _ _ hb
 . rw[bV (fun e=>bR e.symm),k6 b bC,c3 b bR]
theorem QG (hc:Sem c) {N0:Nat} {s:St} {X:Pos} {bs:List Nat} (h:ML N0 s X bs) (hl:bs.length<=140000000000000):
   ∃s',c 37 [.ptr X 0] s=some (.str bs,s')/\ ∀b,b.toNat<N0->s'.heap.get b=s.heap.get b:=by
 obtain ⟨h1,h2,h3,p,v,hX,hp,hv⟩:=h
 rcases hv with ⟨rfl,rfl⟩|⟨Y,rfl,hY,hN,hb⟩
 . refine ⟨s,?_,fun _ _=>rfl⟩
   rw[ow hc 1 (r:=(.str [],s)),mY (Plain.str _) (dz.refl s)]
   rw[mF]
   have e0: ∀(K:AV->Option (AV×St)),aJ (.lenB .l) [.ai] K=K (.int .i64 0):=fun K=>rfl
   simp[hX,e0,Jn,Jo]
 . have om:bs.length≠0:=fun e=>hb (List.eq_nil_of_length_eq_zero e)
   refine ⟨s.aE (some Y) none none,?_,fun b hb=>T.bq _ (fun e=>by subst e;omega) _⟩
   have afO:(s.aE (some Y) none none).heap.get Y=none:=T.dZ _ _ _
   rw[ow hc 1 (r:=(.str bs,s.aE (some Y) none none)),Gn (fun k=>by
    have:=k Y _ hY
    rw[afO] at this;cases this)]
   rw[mF]
   have e1: ∀(K:AV->Option (AV×St)),aJ .sliceData [.slice Y 0 bs.length none 1] K=K (.ptr Y 0):=fun K=>KW om K
   have e2: ∀(K:AV->St->Option (AV×St)),ag c (.unsafeStr 5) [.ptr Y 0,.int .i64 (bs.length:Int)] s K=K (.str bs) (s.aE (some Y) none none):=fun K=>KY hY om (by omega) h3 K
   have e0: ∀(K:AV->Option (AV×St)),aJ (.lenB .l) [.slice Y 0 bs.length none 1] K=K (.int .i64 (bs.length:Int)):=fun K=>rfl
   simp[hX,e0,e1,e2]
end Go.Proofs.YtehbdakjkjkekaaGreatDoor
end
section
set_option maxRecDepth 100000
namespace Go.Proofs.YtehbdakjkjkekaaGreatDoor
open Go Go.Ai Go.Proofs
variable {c : ak}
def jF (s:List Nat):Bool:=decide (1<=s.length)&&decide (s.length<=12)&&s.all fun c=>decide (97<=c/\c<=122)
end Go.Proofs.YtehbdakjkjkekaaGreatDoor
end
section
set_option maxRecDepth 100000
namespace Go.Proofs.YtehbdakjkjkekaaGreatDoor
open Go Go.Ai Go.Proofs
variable {c : ak}
structure dN where
 name:List Nat
 sh:Int
 a:Int
 b:Int
 oz:Bool
 Iq:List Int
 x:Int
 y:Int
def ints (z:Bool) (l:List Int):AV:=ro 1 z (l.map fun i=>[.int .i64 i])
def dN.cells (t:dN):List AV:=[.str t.name,.int .u8 t.sh,.int .i64 t.a,.int .i64 t.b,ints t.oz t.Iq,.int .i64 t.x,.int .i64 t.y]
@[simp] theorem VG (z:Bool) (l:List Int):(ints z l).one=true:=SK _ _ _
end Go.Proofs.YtehbdakjkjkekaaGreatDoor
end
section
set_option maxRecDepth 100000
namespace Go.Proofs.YtehbdakjkjkekaaGreatDoor
open Go Go.Ai Go.Proofs
variable {c : ak}
def big:Nat:=9223372036854775808
end Go.Proofs.YtehbdakjkjkekaaGreatDoor
end
section
set_option maxRecDepth 100000
namespace Go.Proofs.YtehbdakjkjkekaaGreatDoor
open Go Go.Ai Go.Proofs
variable {c : ak}
structure dN.Ok (t:dN):Prop where
 name:t.name.length<big
 Iq:t.Iq.length<big
end Go.Proofs.YtehbdakjkjkekaaGreatDoor
end
section
set_option maxRecDepth 100000
namespace Go.Proofs.YtehbdakjkjkekaaGreatDoor
open Go Go.Ai Go.Proofs
variable {c : ak}
def scan (P:Nat->Bool):Nat->Nat->Int
 |0,_=> -1
 |m+1,k=>if P k=true then (k:Int) else scan P m (k+1)
def tabs (z:Bool) (ts:List dN):AV:=ro 7 z (ts.map dN.cells)
@[simp] theorem dN.c0 (t:dN):t.cells[0]? =some (.str t.name):=id rfl
@[simp] theorem dN.c1 (t:dN):t.cells[1]? =some (.int .u8 t.sh):=id rfl
@[simp] theorem dN.c2 (t:dN):t.cells[2]? =some (.int .i64 t.a):=id rfl
@[simp] theorem dN.c3 (t:dN):t.cells[3]? =some (.int .i64 t.b):=id rfl
@[simp] theorem dN.c4 (t:dN):t.cells[4]? =some (ints t.oz t.Iq):=id rfl
@[simp] theorem dN.c5 (t:dN):t.cells[5]? =some (.int .i64 t.x):=id rfl
@[simp] theorem dN.c6 (t:dN):t.cells[6]? =some (.int .i64 t.y):=id rfl
@[simp] theorem dN.cc (t:dN):cut t.cells 0 7=some t.cells:=ig rfl
theorem dN.len (t:dN):t.cells.length=7:=id rfl
@[simp] theorem dN.one (t:dN):aX t.cells=true:=by
  unfold dN.cells;simp only[aX,VG];rfl
@[simp] theorem agw (l:List AV):(AV.agg l).cells=l:=id rfl
def nmP (ts:List dN) (s:List Nat) (i:Nat):Bool:=decide (ts[i]?.map dN.name=some s)
end Go.Proofs.YtehbdakjkjkekaaGreatDoor
end
section
set_option maxRecDepth 100000
namespace Go.Proofs.YtehbdakjkjkekaaGreatDoor
open Go Go.Ai Go.Proofs
variable {c : ak}
end Go.Proofs.YtehbdakjkjkekaaGreatDoor
end
section
set_option maxRecDepth 100000
namespace Go.Proofs.YtehbdakjkjkekaaGreatDoor
open Go Go.Ai Go.Proofs
variable {c : ak}
structure bX where
 name:List Nat
 MN:List Nat
 Ir:List Nat
 since:Int
 side:Int
 tP:List Nat
 host:Bool
 access:Bool
 tz:Bool
 tg:List (List Nat)
def VH (z:Bool) (l:List (List Nat)):AV:=ro 1 z (l.map fun s=>[.str s])
def bX.cells (g:bX):List AV:=[.str g.name,.str g.MN,.str g.Ir,.int .i64 g.since,.int .i64 g.side,.str g.tP,.bool g.host,.bool g.access,VH g.tz g.tg]
@[simp] theorem VI (z:Bool) (l:List (List Nat)):(VH z l).one=true:=SK _ _ _
@[simp] theorem bX.c0 (t:bX):t.cells[0]? =some (.str t.name):=id rfl
@[simp] theorem bX.c1 (t:bX):t.cells[1]? =some (.str t.MN):=id rfl
@[simp] theorem bX.c2 (t:bX):t.cells[2]? =some (.str t.Ir):=id rfl
@[simp] theorem bX.c3 (t:bX):t.cells[3]? =some (.int .i64 t.since):=id rfl
@[simp] theorem bX.c4 (t:bX):t.cells[4]? =some (.int .i64 t.side):=id rfl
@[simp] theorem bX.c5 (t:bX):t.cells[5]? =some (.str t.tP):=id rfl
@[simp] theorem bX.c6 (t:bX):t.cells[6]? =some (.bool t.host):=id rfl
@[simp] theorem bX.c7 (t:bX):t.cells[7]? =some (.bool t.access):=id rfl
@[simp] theorem bX.c8 (t:bX):t.cells[8]? =some (VH t.tz t.tg):=id rfl
@[simp] theorem bX.cc (t:bX):cut t.cells 0 9=some t.cells:=ig rfl
theorem bX.len (t:bX):t.cells.length=9:=id rfl
@[simp] theorem bX.one (t:bX):aX t.cells=true:=by
  unfold bX.cells;simp only[aX,VI];rfl
def gsts (z:Bool) (gs:List bX):AV:=ro 9 z (gs.map bX.cells)
def aft (last:Option (List Nat)) (s:List Nat):Bool:=match last with
 |none=>true
 |some p=>dY p s
@[simp] theorem agC (s:List Nat):aft none s=true:=id rfl
@[simp] theorem agD (p s:List Nat):aft (some p) s=dY p s:=id rfl
end Go.Proofs.YtehbdakjkjkekaaGreatDoor
end
section
set_option maxRecDepth 100000
namespace Go.Proofs.YtehbdakjkjkekaaGreatDoor
open Go Go.Ai Go.Proofs
variable {c : ak}
structure Ty where
 a:List Nat
 b:List Nat
 k:Int
def Ty.cells (t:Ty):List AV:=[.str t.a,.str t.b,.int .u8 t.k]
@[simp] theorem Ty.c0 (t:Ty):t.cells[0]? =some (.str t.a):=id rfl
@[simp] theorem Ty.c1 (t:Ty):t.cells[1]? =some (.str t.b):=id rfl
@[simp] theorem Ty.c2 (t:Ty):t.cells[2]? =some (.int .u8 t.k):=id rfl
@[simp] theorem Ty.cc (t:Ty):cut t.cells 0 3=some t.cells:=ig rfl
theorem Ty.len (t:Ty):t.cells.length=3:=id rfl
@[simp] theorem Ty.one (t:Ty):aX t.cells=true:=id rfl
def tys (z:Bool) (ts:List Ty):AV:=ro 3 z (ts.map Ty.cells)
end Go.Proofs.YtehbdakjkjkekaaGreatDoor
end
section
set_option maxRecDepth 100000
namespace Go.Proofs.YtehbdakjkjkekaaGreatDoor
open Go Go.Ai Go.Proofs
variable {c : ak}
end Go.Proofs.YtehbdakjkjkekaaGreatDoor
end
section
set_option maxRecDepth 100000
namespace Go.Proofs.YtehbdakjkjkekaaGreatDoor
open Go Go.Ai Go.Proofs
variable {c : ak}
abbrev wrow (s:List Nat):List AV:=[.str s]
def bX.bD (g:bX) (v:AV):List AV:=[.str g.name,.str g.MN,.str g.Ir,.int .i64 g.since,.int .i64 g.side,.str g.tP,.bool g.host,.bool g.access,v]
theorem bX.VJ (t:bX) {v:AV} (h:aX [v]=true):aX (t.bD v)=true:=by
 simp only[aX] at h
 unfold bX.bD
 simp only[aX,AV.one,h,Bool.and_self,Bool.and_true] at*
structure bX.Low (g:bX):Prop where
 name: ∀x∈g.name,x<256
 MN: ∀x∈g.MN,x<256
 Ir: ∀x∈g.Ir,x<256
 tP: ∀x∈g.tP,x<256
end Go.Proofs.YtehbdakjkjkekaaGreatDoor
end
section
set_option maxRecDepth 100000
namespace Go.Proofs.YtehbdakjkjkekaaGreatDoor
open Go Go.Ai Go.Proofs
variable {c : ak}
def slv (k:Option Pos) (n es:Nat):AV:=match k with
 |none=> .ai
 |some b=> .slice b 0 n none es
def QH (s0 s:St) (bp:Pos) (gk tk:Option Pos) (g:bX) (row:List AV):Prop:=g.Low/\g.tg.length<=4/\ ∃v,row=g.bD v/\v.cells=[v]/\v.one=true/\QS 1 s v (g.tg.map wrow)/\ ∀p,aF v=some p->p≠bp/\gk≠some p/\tk≠some p/\s0.heap.get p=none
theorem SX {es:Nat} {s:St} {v:AV} {rows:List (List AV)} (h:QS es s v rows) {b:Pos} (hb:aF v=some b): ∃cs,s.heap.get b=some (.cells cs 0):=by
 rcases h with ⟨rfl,rfl⟩|⟨b',off,cap,cs,rfl,h1,_⟩|⟨b',off,rfl,rfl⟩
 . cases hb
 . obtain rfl:=DQ hb;exact ⟨cs,h1⟩
 . rw[kF] at hb;cases hb
theorem QH.to {s0 s s':St} {bp:Pos} {gk tk gk' tk':Option Pos} {g:bX} {row:List AV} (h:QH s0 s bp gk tk g row)
   (hk: ∀p cs,p≠bp->gk≠some p->tk≠some p->s.heap.get p=some (.cells cs 0)->s'.heap.get p=some (.cells cs 0)/\gk'≠some p/\tk'≠some p):QH s0 s' bp gk' tk' g row:=by
 obtain ⟨h1,h2,v,h3,h4,h5,h6,h7⟩:=h
 refine ⟨h1,h2,v,h3,h4,h5,h6.mono fun b x hb hx=> ?_,fun p hp=> ?_⟩
 . obtain ⟨cs,h8⟩:=SX h6 hb
   rw[h8] at hx;cases hx
   obtain ⟨a1,a2,a3,_⟩:=h7 b hb
   exact (hk b cs a1 a2 a3 h8).1
 . obtain ⟨cs,h8⟩:=SX h6 hp
   obtain ⟨a1,a2,a3,a4⟩:=h7 p hp
   exact ⟨a1,(hk p cs a1 a2 a3 h8).2.1,(hk p cs a1 a2 a3 h8).2.2,a4⟩
structure qc (s0 s:St) (bp mp:Pos) (gs:List bX) (ts:List Ty) (gk tk:Option Pos):Prop where
 wf:Wf s
 keeps:dz s0 s
 next:s0.next.toNat<=s.next.toNat
 book:s.heap.get bp=some (.cells [slv gk gs.length 9,slv tk ts.length 3,.map mp] 0)
 DS: ∃es cl,s.heap.get mp=some (.map es cl)/\es.map (·.1)=gs.map fun g=> .str g.name
 It:(gk=none->gs=[])/\ ∀b,gk=some b-> ∃cs,s.heap.get b=some (.cells cs 0)/\cs.length=gs.length*9
 MO:(tk=none->ts=[])/\ ∀b,tk=some b->s.heap.get b=some (.cells (ts.flatMap Ty.cells) 0)
 dg:gk≠some bp
 dt:tk≠some bp
 SY: ∀b,gk=some b->tk≠some b
 fb:s0.heap.get bp=none
 fm:s0.heap.get mp=none
 fg: ∀b,gk=some b->s0.heap.get b=none
 ft: ∀b,tk=some b->s0.heap.get b=none
 MP: ∀es cl,s.heap.get mp=some (.map es cl)-> ∀e∈es,∃i:Nat,e.2.1= .int .i64 (i:Int)/\i<gs.length
 rows: ∀b cs,gk=some b->s.heap.get b=some (.cells cs 0)-> ∀(i:Nat) (g:bX),gs[i]? =some g->QH s0 s bp gk tk g ((cs.drop (i*9)).take 9)
theorem qc.lt {s0 s:St} {bp mp:Pos} {gs:List bX} {ts:List Ty} {gk tk:Option Pos} (h:qc s0 s bp mp gs ts gk tk):bp.toNat<s.next.toNat/\mp.toNat<s.next.toNat:=by
 obtain ⟨es,cl,h1,_⟩:=h.DS
 exact ⟨h.wf _ _ h.book,h.wf _ _ h1⟩
theorem qc.aS {s0 s s':St} {bp mp:Pos} {gs:List bX} {ts:List Ty} {gk tk:Option Pos} (h:qc s0 s bp mp gs ts gk tk) (g:Grew s s'):qc s0 s' bp mp gs ts gk tk where
 wf:=g.wf
 keeps:=h.keeps.trans g.keeps
 next:=Nat.le_trans h.next g.next
 book:=g.get h.book
 DS:=let ⟨es,cl,h1,h2⟩:=h.DS;⟨es,cl,g.get h1,h2⟩
 It:=⟨h.It.1,fun b hb=>let ⟨cs,h1,h2⟩:=h.It.2 b hb;⟨cs,g.get h1,h2⟩⟩
 MO:=⟨h.MO.1,fun b hb=>g.get (h.MO.2 b hb)⟩
 dg:=h.dg
 dt:=h.dt
 SY:=h.SY
 fb:=h.fb
 fm:=h.fm
 fg:=h.fg
 ft:=h.ft
 MP:=fun es cl hm=>by
  obtain ⟨es0,cl0,h1,h2⟩:=h.DS
  have:=g.get h1
  rw[hm] at this;cases this
  exact h.MP _ _ h1
 rows:=fun b cs hb hs i u hu=>by
  obtain ⟨cs0,h1,h2⟩:=h.It.2 b hb
  have:=g.get h1
  rw[hs] at this;cases this
  exact (h.rows b _ hb h1 i u hu).to fun p cs _ a2 a3 hx=>⟨g.get hx,a2,a3⟩
theorem ob {s0:St} {jb:Pos} {y:AB} (hj:s0.heap.get jb=some y) {q:Pos} (hq:s0.heap.get q=none):q≠jb:=fun e=>by rw[e,hj] at hq;cases hq
theorem qc.at {s0 s s':St} {bp mp:Pos} {gs:List bX} {ts:List Ty} {gk tk:Option Pos} (h:qc s0 s bp mp gs ts gk tk) {jb:Pos} {y:AB} (hj:s0.heap.get jb=some y) (hw:Wf s') (hk: ∀q x,q≠jb->s.heap.get q=some x->s'.heap.get q=some x):
  qc { heap:= .e,next:=s'.next } s' bp mp gs ts gk tk where
 wf:=hw
 keeps:=fun b x hb=>by rw[T.cG] at hb;cases hb
 next:=Nat.le_refl _
 book:=hk _ _ (ob hj h.fb) h.book
 DS:=let ⟨es,cl,h1,h2⟩:=h.DS;⟨es,cl,hk _ _ (ob hj h.fm) h1,h2⟩
 It:=⟨h.It.1,fun b hb=>let ⟨cs,h1,h2⟩:=h.It.2 b hb;⟨cs,hk _ _ (ob hj (h.fg b hb)) h1,h2⟩⟩
 MO:=⟨h.MO.1,fun b hb=>hk _ _ (ob hj (h.ft b hb)) (h.MO.2 b hb)⟩
 dg:=h.dg
 dt:=h.dt
 SY:=h.SY
 fb:=T.cG _
 fm:=T.cG _
 fg:=fun b _=>T.cG _
 ft:=fun b _=>T.cG _
 MP:=fun es cl hm=>by
  obtain ⟨es0,cl0,h1,h2⟩:=h.DS
  have:=hk _ _ (ob hj h.fm) h1
  rw[hm] at this;cases this
  exact h.MP _ _ h1
 rows:=fun b cs hb hs i u hu=>by
  obtain ⟨cs0,h1,h2⟩:=h.It.2 b hb
  have:=hk _ _ (ob hj (h.fg b hb)) h1
  rw[hs] at this;cases this
  obtain ⟨k1,k2,v,k3,k4,k5,k6,k7⟩:=h.rows b _ hb h1 i u hu
  exact ⟨k1,k2,v,k3,k4,k5,k6.mono fun b x hb hx=>hk b x (ob hj (k7 b hb).2.2.2) hx,fun p hp=>⟨(k7 p hp).1,(k7 p hp).2.1,(k7 p hp).2.2.1,T.cG _⟩⟩
theorem qc.start {s:St} (hw:Wf s):qc s (ay (ay s (.map [] 0)) (.cells [.ai,.ai,.map s.next] 0)) (ay s (.map [] 0)).next s.next [] [] none none where
 wf:=fX (fX hw)
 keeps:=(DM hw).trans (DM (fX hw))
 next:=by simp only[dx,Pos.az];omega
 book:=bh _ _
 DS:=⟨[],0,wM,rfl⟩
 It:=⟨fun _=>rfl,fun b h=>by cases h⟩
 MO:=⟨fun _=>rfl,fun b h=>by cases h⟩
 dg:=fun h=>by cases h
 dt:=fun h=>by cases h
 SY:=fun b h=>by cases h
 fb:=by
  cases h:s.heap.get (ay s (.map [] 0)).next with
  |none=>rfl
  |some x=>have:=hw _ _ h;rw[dx,Pos.az] at this;omega
 fm:=by
  cases h:s.heap.get s.next with
  |none=>rfl
  |some x=>have:=hw _ _ h;omega
 fg:=fun b h=>by cases h
 ft:=fun b h=>by cases h
 MP:=fun es cl hm e he=>by
  have:(ay (ay s (.map [] 0)) (.cells [.ai,.ai,.map s.next] 0)).heap.get s.next=some (.map [] 0):=wM
  rw[hm] at this;cases this;cases he
 rows:=fun b cs h=>by cases h
end Go.Proofs.YtehbdakjkjkekaaGreatDoor
end
section
set_option maxRecDepth 100000
namespace Go.Proofs.YtehbdakjkjkekaaGreatDoor
open Go Go.Ai Go.Proofs
variable {c : ak}
end Go.Proofs.YtehbdakjkjkekaaGreatDoor
end
section
set_option maxRecDepth 100000
namespace Go.Proofs.YtehbdakjkjkekaaGreatDoor
open Go Go.Ai Go.Proofs
variable {c : ak}
theorem BV (ts:List Ty) (i:Nat) (h:i<ts.length):cut (ts.flatMap Ty.cells) (i*3) 3=some ts[i].cells:=by
 induction ts generalizing i with
 |nil=>simp at h
 |cons t ts ih=>
  cases i with
  |zero=>rw[List.flatMap_cons];unfold cut;rw[iq,decide_eq_true (by simp[Ty.len])];simp[Ty.cells]
  |succ i=>
   have h':i<ts.length:=by simpa using h
   have:=ih i h'
   unfold cut at this ⊢
   rw[iq] at this ⊢
   split at this<;>first|(cases this;done)|skip
   rename_i hle
   simp only[decide_eq_true_eq] at hle
   rw[decide_eq_true (by rw[List.flatMap_cons,List.length_append,Ty.len];omega)]
   simp only[Option.some.injEq] at this ⊢
   rw[List.flatMap_cons,show (i+1)*3=i*3+1+1+1 by omega,List.getElem_cons_succ, <-this]
   rfl
end Go.Proofs.YtehbdakjkjkekaaGreatDoor
end
section
set_option maxRecDepth 100000
namespace Go.Proofs.YtehbdakjkjkekaaGreatDoor
open Go Go.Ai Go.Proofs
variable {c : ak}
theorem r5 (b:Pos) (off n es:Nat): ¬Plain (.slice b off n none es):=fun h=>by
 have:=h (fun _=>⟨0,0,off+n*es⟩) (fun _=>⟨0,0,0⟩) (b.toNat+1) 0 (fun _=>none) _ (.slice b off n none es n ⟨0,0+off,none⟩ (Nat.le_refl _) (fun c h=>by cases h) (fun _=>⟨by omega,rfl,by simp⟩) (fun _=>by omega))
 have:=this.JM rfl
 omega
end Go.Proofs.YtehbdakjkjkekaaGreatDoor
end
section
set_option maxRecDepth 100000
namespace Go.Proofs.YtehbdakjkjkekaaGreatDoor
open Go Go.Ai Go.Proofs
variable {c : ak}
end Go.Proofs.YtehbdakjkjkekaaGreatDoor
end
section
set_option maxRecDepth 100000
namespace Go.Proofs.YtehbdakjkjkekaaGreatDoor
open Go Go.Ai Go.Proofs
variable {c : ak}
end Go.Proofs.YtehbdakjkjkekaaGreatDoor
end
section
set_option maxRecDepth 100000
namespace Go.Proofs.YtehbdakjkjkekaaGreatDoor
open Go Go.Ai Go.Proofs
variable {c : ak}
structure Rl where
 k:Int
 wt:Int
 a:List Nat
 b:List Nat
 t:List Nat
 n:Int
def Rl.cells (r:Rl):List AV:=[.int .u8 r.k,.int .i64 r.wt,.str r.a,.str r.b,.str r.t,.int .i64 r.n]
@[simp] theorem Rl.c0 (t:Rl):t.cells[0]? =some (.int .u8 t.k):=id rfl
@[simp] theorem Rl.c1 (t:Rl):t.cells[1]? =some (.int .i64 t.wt):=id rfl
@[simp] theorem Rl.c2 (t:Rl):t.cells[2]? =some (.str t.a):=id rfl
@[simp] theorem Rl.c3 (t:Rl):t.cells[3]? =some (.str t.b):=id rfl
@[simp] theorem Rl.c4 (t:Rl):t.cells[4]? =some (.str t.t):=id rfl
@[simp] theorem Rl.c5 (t:Rl):t.cells[5]? =some (.int .i64 t.n):=id rfl
@[simp] theorem Rl.cc (t:Rl):cut t.cells 0 6=some t.cells:=ig rfl
@[simp] theorem Rl.one (t:Rl):aX t.cells=true:=id rfl
def rf (z:Bool) (rs:List Rl):AV:=ro 6 z (rs.map Rl.cells)
structure sO where
 tz:Bool
 ts:List dN
 gz:Bool
 gs:List bX
 yz:Bool
 ys:List Ty
 cz:Bool
 cs:List Int
 rz:Bool
 rs:List Rl
def sO.cells (p:sO):List AV:=[tabs p.tz p.ts,gsts p.gz p.gs,tys p.yz p.ys,ints p.cz p.cs,rf p.rz p.rs]
@[simp] theorem sO.c0 (p:sO):p.cells[0]? =some (tabs p.tz p.ts):=id rfl
@[simp] theorem sO.c1 (p:sO):p.cells[1]? =some (gsts p.gz p.gs):=id rfl
@[simp] theorem sO.c2 (p:sO):p.cells[2]? =some (tys p.yz p.ys):=id rfl
@[simp] theorem sO.c3 (p:sO):p.cells[3]? =some (ints p.cz p.cs):=id rfl
@[simp] theorem sO.c4 (p:sO):p.cells[4]? =some (rf p.rz p.rs):=id rfl
@[simp] theorem sO.cc (p:sO):cut p.cells 0 5=some p.cells:=ig rfl
end Go.Proofs.YtehbdakjkjkekaaGreatDoor
end
section
set_option maxRecDepth 100000
namespace Go.Proofs.YtehbdakjkjkekaaGreatDoor
open Go Go.Ai Go.Proofs
variable {c : ak}
structure Kd where
 w:List Nat
 a:Int
 b:Bool
 t:Int
 n:Bool
 lo:Int
 seat:Bool
 f:AV
def Kd.cells (k:Kd):List AV:=[.str k.w,.int .u8 k.a,.bool k.b,.int .u8 k.t,.bool k.n,.int .i64 k.lo,.bool k.seat,k.f]
@[simp] theorem Kd.c0 (t:Kd):t.cells[0]? =some (.str t.w):=id rfl
@[simp] theorem Kd.c1 (t:Kd):t.cells[1]? =some (.int .u8 t.a):=id rfl
@[simp] theorem Kd.c2 (t:Kd):t.cells[2]? =some (.bool t.b):=id rfl
@[simp] theorem Kd.c3 (t:Kd):t.cells[3]? =some (.int .u8 t.t):=id rfl
@[simp] theorem Kd.c4 (t:Kd):t.cells[4]? =some (.bool t.n):=id rfl
@[simp] theorem Kd.c5 (t:Kd):t.cells[5]? =some (.int .i64 t.lo):=id rfl
@[simp] theorem Kd.c6 (t:Kd):t.cells[6]? =some (.bool t.seat):=id rfl
@[simp] theorem Kd.cc (t:Kd):cut t.cells 0 8=some t.cells:=ig rfl
end Go.Proofs.YtehbdakjkjkekaaGreatDoor
end
section
set_option maxRecDepth 100000
namespace Go.Proofs.YtehbdakjkjkekaaGreatDoor
open Go Go.Ai Go.Proofs
variable {c : ak}
def ti (p:sO) (s:List Nat):Int:=scan (nmP p.ts s) p.ts.length 0
end Go.Proofs.YtehbdakjkjkekaaGreatDoor
end
section
set_option maxRecDepth 100000
namespace Go.Proofs.YtehbdakjkjkekaaGreatDoor
open Go Go.Ai Go.Proofs
abbrev tQ (i:Int):List AV:=[.int .i64 i]
abbrev rowS (s:List Nat):List AV:=[.str s]
def dN.bD (t:dN) (v:AV):List AV:=[.str t.name,.int .u8 t.sh,.int .i64 t.a,.int .i64 t.b,v,.int .i64 t.x,.int .i64 t.y]
theorem dN.VJ (t:dN) {v:AV} (h:aX [v]=true):aX (t.bD v)=true:=by
 simp only[aX] at h
 unfold dN.bD
 simp only[aX,AV.one,h,Bool.and_self,Bool.and_true] at*
theorem Mk.r7 {es:Nat} {s0 s s':St} {v:AV} {rows:List (List AV)} (h:Mk es s0 s v rows) (hg:Grew s0 s') (hk: ∀b x,aF v=some b->s.heap.get b=some x->s'.heap.get b=some x):Mk es s0 s' v rows:=
 ⟨h.lZ,hg,h.own.mono hk,h.new,h.row,h.cap,fun b hb=>hk b _ hb (h.tight b hb)⟩
structure TS (s0 s:St) (V:AV) (ts:List dN) (rows:List (List AV)):Prop where
 out:Mk 7 s0 s V rows
 len:rows.length=ts.length
 j5: ∀(i:Nat) (t:dN) (r:List AV),ts[i]? =some t->rows[i]? =some r-> ∃v,r=t.bD v/\Mk 1 s0 s v (t.Iq.map tQ)/\ ∀b,aF v=some b->aF V≠some b
structure GS (s0 s:St) (V:AV) (ts:List bX) (rows:List (List AV)):Prop where
 out:Mk 9 s0 s V rows
 len:rows.length=ts.length
 j5: ∀(i:Nat) (t:bX) (r:List AV),ts[i]? =some t->rows[i]? =some r-> ∃v,r=t.bD v/\Mk 1 s0 s v (t.tg.map rowS)/\ ∀b,aF v=some b->aF V≠some b
structure PS (s0 s:St) (Vs:List AV) (p:sO):Prop where
 aS:Grew s0 s
 all: ∃V1 V2 V3 V4 V5 r1 r2,Vs=[V1,V2,V3,V4,V5]/\TS s0 s V1 p.ts r1/\GS s0 s V2 p.gs r2/\Mk 3 s0 s V3 (p.ys.map Ty.cells)/\Mk 1 s0 s V4 (p.cs.map tQ)/\Mk 6 s0 s V5 (p.rs.map Rl.cells)
theorem TS.r7 {s0 s s':St} {V:AV} {ts:List dN} {rows:List (List AV)} (h:TS s0 s V ts rows) (hg:Grew s0 s') (hk: ∀b x,s0.next.toNat<=b.toNat->(aF V=some b\/ ∃(i:Nat) (r:List AV) (v:AV),rows[i]? =some r/\r[4]? =some v/\aF v=some b)->s.heap.get b=some x->s'.heap.get b=some x):TS s0 s' V ts rows:=
 ⟨Mk.r7 h.out hg fun b x hb hx=>hk b x (h.out.new b hb) (.inl hb) hx,h.len,fun i t r hi hr=>by
  obtain ⟨v,e1,e2,e3⟩:=h.j5 i t r hi hr
  exact ⟨v,e1,Mk.r7 e2 hg fun b x hb hx=>hk b x (e2.new b hb) (.inr ⟨i,r,v,hr,by rw[e1];rfl,hb⟩) hx,e3⟩⟩
theorem GS.r7 {s0 s s':St} {V:AV} {ts:List bX} {rows:List (List AV)} (h:GS s0 s V ts rows) (hg:Grew s0 s') (hk: ∀b x,s0.next.toNat<=b.toNat->(aF V=some b\/ ∃(i:Nat) (r:List AV) (v:AV),rows[i]? =some r/\r[8]? =some v/\aF v=some b)->s.heap.get b=some x->s'.heap.get b=some x):GS s0 s' V ts rows:=
 ⟨Mk.r7 h.out hg fun b x hb hx=>hk b x (h.out.new b hb) (.inl hb) hx,h.len,fun i t r hi hr=>by
  obtain ⟨v,e1,e2,e3⟩:=h.j5 i t r hi hr
  exact ⟨v,e1,Mk.r7 e2 hg fun b x hb hx=>hk b x (e2.new b hb) (.inr ⟨i,r,v,hr,by rw[e1];rfl,hb⟩) hx,e3⟩⟩
end Go.Proofs.YtehbdakjkjkekaaGreatDoor
end
