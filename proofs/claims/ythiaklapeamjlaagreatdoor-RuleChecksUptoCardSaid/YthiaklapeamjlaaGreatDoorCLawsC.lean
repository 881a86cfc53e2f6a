/- Seats beside and across one another, levels, steps; lists of seats. -/
import Derived.Test.YthiaklapeamjlaaGreatDoorCLawsA
import Derived.Test.YthiaklapeamjlaaGreatDoorCEvalE
import Derived.Test.YthiaklapeamjlaaGreatDoorCPlainB
set_option linter.all false
set_option linter.unusedSectionVars false
set_option linter.deprecated false
namespace Go.Proofs.YthiaklapeamjlaaGreatDoor
section
set_option maxRecDepth 100000
open Go Go.Ai Go.Proofs
abbrev jk:Nat:=1048576
abbrev eO (i:Int):List AV:=[.int .i64 i]
abbrev uz (s:List Nat):List AV:=[.str s]
def az.aq (t:az) (v:AV):List AV:=[.str t.name,.int .u8 t.sh,.int .i64 t.a,.int .i64 t.b,v,.int .i64 t.x,.int .i64 t.y]
theorem az.Ip (t:az) {v:AV} (h:aK [v]=true):aK (t.aq v)=true:=by
 simp only[aK] at h
 unfold az.aq
 simp only[aK,AV.one,h,Bool.and_self,Bool.and_true] at*
structure TS (s0 s:St) (V:AV) (ts:List az) (rows:List (List AV)):Prop where
 out:Mk 7 s0 s V rows
 len:rows.length=ts.length
 iq: ∀(i:Nat) (t:az) (r:List AV),ts[i]? =some t->rows[i]? =some r-> ∃v,r=t.aq v/\Mk 1 s0 s v (t.bZ.map eO)/\ ∀b,bf v=some b->bf V≠some b
structure GS (s0 s:St) (V:AV) (ts:List aJ) (rows:List (List AV)):Prop where
 out:Mk 9 s0 s V rows
 len:rows.length=ts.length
 iq: ∀(i:Nat) (t:aJ) (r:List AV),ts[i]? =some t->rows[i]? =some r-> ∃v,r=t.aq v/\Mk 1 s0 s v (t.tg.map uz)/\ ∀b,bf v=some b->bf V≠some b
structure PS (s0 s:St) (Vs:List AV) (p:aZ):Prop where
 aB:Grew s0 s
 all: ∃V1 V2 V3 V4 V5 r1 r2,Vs=[V1,V2,V3,V4,V5]/\TS s0 s V1 p.ts r1/\GS s0 s V2 p.gs r2/\Mk 3 s0 s V3 (p.ys.map Ty.cells)/\Mk 1 s0 s V4 (p.cs.map eO)/\Mk 6 s0 s V5 (p.rs.map Rl.cells)
structure az.Real (t:az):Prop where
 name: ∀x∈t.name,x<256
 bZ:t.bZ.length<=jk
structure aJ.Real (g:aJ):Prop where
 name: ∀x∈g.name,x<256
 mL: ∀x∈g.mL,x<256
 jy: ∀x∈g.jy,x<256
 mM: ∀x∈g.mM,x<256
 tg:g.tg.length<=jk
theorem TS.ja {s0 s1 s s':St} {V:AV} {ts:List az} {rows:List (List AV)} (h:TS s1 s V ts rows) (h0:Wf s0) (Jv:Grew s0 s1) (hg:Grew s0 s') (hk: ∀q b,s1.next.toNat<=q.toNat->s.heap.get q=some b->s'.heap.get q=some b):TS s0 s' V ts rows:=
 ⟨Mk.ja h.out h0 Jv hg hk,h.len,fun i t r hi hr=>by obtain ⟨v,e1,e2,e3⟩:=h.iq i t r hi hr;exact ⟨v,e1,Mk.ja e2 h0 Jv hg hk,e3⟩⟩
theorem GS.ja {s0 s1 s s':St} {V:AV} {ts:List aJ} {rows:List (List AV)} (h:GS s1 s V ts rows) (h0:Wf s0) (Jv:Grew s0 s1) (hg:Grew s0 s') (hk: ∀q b,s1.next.toNat<=q.toNat->s.heap.get q=some b->s'.heap.get q=some b):GS s0 s' V ts rows:=
 ⟨Mk.ja h.out h0 Jv hg hk,h.len,fun i t r hi hr=>by obtain ⟨v,e1,e2,e3⟩:=h.iq i t r hi hr;exact ⟨v,e1,Mk.ja e2 h0 Jv hg hk,e3⟩⟩
structure aZ.Real (p:aZ):Prop where
 ts:p.ts.length<=1000
 tab: ∀t∈p.ts,t.Real
 gs:p.gs.length<=1000
 bB: ∀t∈p.gs,t.Real
 ys:p.ys.length<=jk
 cs:p.cs.length<=jk
 rs:p.rs.length<=jk
theorem aec (z:Bool) (l:List Ty):cC 3 (bH z l):=cC.ro fun r hr v hv=>by
 simp only[List.mem_map] at hr
 obtain ⟨g,_,rfl⟩:=hr
 simp only[Ty.cells,List.mem_cons,List.not_mem_nil,or_false] at hv
 rcases hv with rfl|rfl|rfl<;>first|exact cC.str _|exact cC.int _ _
theorem pS {R:Type} {p:Pos} {o:Nat} {h:T AB} {v:AV} (hv:((cellsOf (h.get p)).bind fun cs=>cs[o]?)=some v) (ok:AV->Bool) (bu:ok v=true) (K:AV->Option R):jT (.load none) [.ptr p o] h ok K=K v:=by
 unfold jT
 have e:aC.run (fun _=>none) .h (.load none) [.ptr p o]=none:=rfl
 rw[e]
 simp only
 rw[oh,hv]
 simp only[Option.map_some]
 rw[bu]
theorem iJ {p:Pos} {o:Nat} {h:T AB} {v:AV} (hv:((cellsOf (h.get p)).bind fun cs=>cs[o]?)=some v) (hb:eC v v=true):kL (.load none) [.ptr p o] v (jN [] h)=true:=by
 unfold kL
 show (match aC.run (fun b=>h.get b) .h (.load none) [.ptr p o] with|some (.val u)=>eC u v|_=>false)=true
 rw[oh,hv];exact hb
end
section
set_option maxRecDepth 100000
open Go Go.Ai Go.Proofs
variable {c : ak}
abbrev Sm (v:Int):Prop:=0<=v/\v<=1000000
def aed (a x y:Int):Bool:=decide (y - x=1)||decide (y - x=a - 1)
def aee (a x y:Int):Bool:=decide (a.tmod 2=0)&&decide (y - x=a.tdiv 2)
def CC (a b:Int):Int:=a+min b 1
def aef (a b x y:Int):Bool:=
 bif decide (b=2)&&decide (y=2*a+1) then decide (x=0)||decide (x=y - 1)
 else bif decide (0<b)&&(decide (x=a)||decide (y=a)) then decide (y - x=1) else decide (y - x=1)&&(decide (y<a)||decide (CC a b<=x))
def aeg (a b x y:Int):Bool:=bif decide (b=2)&&decide (y=2*a+1) then decide (x=a) else decide (x<a)&&decide (x+y=CC a b+a - 1)
def aeh (x y:Int):Bool:=decide (y - x=1)
def aei (a b x y:Int):Bool:=decide (x<b)&&decide (x+y=a+2*b - 1)
def aej (b x y:Int):Bool:=decide (y - x=1)&&(decide (b=0)|| !decide (y.tmod b=0))
theorem Wx (hc:Sem c) (a b x y:Int) (ha:Sm a) (hx:Sm x) (hy:Sm y) (st:St):
  c 284 [.int .i64 a,.int .i64 b,.int .i64 x,.int .i64 y] st=some (.bool (aed a x y),st):=by
 have w1:ay .i64 (y - x)=y - x:=wrap64 (by omega) (by omega)
 have w2:ay .i64 (a - 1)=a - 1:=wrap64 (by omega) (by omega)
 rw[LP hc 1 (r:=(.bool (aed a x y),st)),au (Plain.bool _) (aM.refl st)]
 rw[OS]
 unfold aed
 cases h:decide (y - x=1)<;>simp[w1,w2,h]
theorem Wy (hc:Sem c) (a b x y:Int) (ha:Sm a) (hx:Sm x) (hy:Sm y) (st:St):
  c 285 [.int .i64 a,.int .i64 b,.int .i64 x,.int .i64 y] st=some (.bool (aee a x y),st):=by
 have w1:ay .i64 (y - x)=y - x:=wrap64 (by omega) (by omega)
 have hq:0<=a.tdiv 2/\a.tdiv 2<=1000000:=by rw[Int.tdiv_eq_ediv_of_nonneg ha.1];omega
 have w2:ay .i64 (a.tdiv 2)=a.tdiv 2:=wrap64 (by omega) (by omega)
 rw[LQ hc 1 (r:=(.bool (aee a x y),st)),au (Plain.bool _) (aM.refl st)]
 rw[OT]
 unfold aee
 cases h:decide (a.tmod 2=0)<;>simp[w1,w2,h]
theorem ac3 (hc:Sem c) (a b:Int) (ha:Sm a) (hb:Sm b) (st:St):c 320 [.int .i64 a,.int .i64 b] st=some (.int .i64 (CC a b),st):=by
 have w1:ay .i64 (a+min b 1)=a+min b 1:=wrap64 (by omega) (by omega)
 rw[aaZ hc 1 (r:=(.int .i64 (CC a b),st)),au (Plain.int _ _) (aM.refl st)]
 rw[aek]
 unfold CC
 simp[w1]
theorem Yr (hc:Sem c) (a b x y:Int) (ha:Sm a) (hb:Sm b) (hx:Sm x) (hy:Sm y) (st:St):
   c 289 [.int .i64 a,.int .i64 b,.int .i64 x,.int .i64 y] st=some (.bool (aef a b x y),st):=by
 have w1:ay .i64 (y - x)=y - x:=wrap64 (by omega) (by omega)
 have w2:ay .i64 (y - 1)=y - 1:=wrap64 (by omega) (by omega)
 have w3:ay .i64 (2*a)=2*a:=wrap64 (by omega) (by omega)
 have w4:ay .i64 (2*a+1)=2*a+1:=wrap64 (by omega) (by omega)
 have t:=ac3 hc a b ha hb st
 rw[NB hc 1 (r:=(.bool (aef a b x y),st)),au (Plain.bool _) (aM.refl st)]
 rw[Rh]
 unfold aef
 cases h1:decide (b=2)
 . cases  h4:decide (0<b)
   . cases h7:decide (y - x=1)
     .  simp[w1,w2,w3,w4,t,h1,h4,h7]
     .  cases h8:decide (y<a)<;>simp[w1,w2,w3,w4,t,h1,h4,h7,h8]
   . cases h5:decide (x=a)
     .  cases h6:decide (y=a)
        . cases h7:decide (y - x=1)
          . simp[w1,w2,w3,w4,t,h1,h4,h5,h6,h7]
          . cases h8:decide (y<a)<;>simp[w1,w2,w3,w4,t,h1,h4,h5,h6,h7,h8]
        . simp[w1,w2,w3,w4,t,h1,h4,h5,h6]
     .  simp[w1,w2,w3,w4,t,h1,h4,h5]
 . cases  h2:decide (y=2*a+1)
   . cases  h4:decide (0<b)
     .  simp at h1 h4;omega
     .  cases h5:decide (x=a)
        . cases h6:decide (y=a)
          . cases h7:decide (y - x=1)
            . simp[w1,w2,w3,w4,t,h1,h2,h4,h5,h6,h7]
            . cases h8:decide (y<a)<;>simp[w1,w2,w3,w4,t,h1,h2,h4,h5,h6,h7,h8]
          . simp[w1,w2,w3,w4,t,h1,h2,h4,h5,h6]
        . simp[w1,w2,w3,w4,t,h1,h2,h4,h5]
   . cases h3:decide (x=0)<;>simp[w1,w2,w3,w4,t,h1,h2,h3]
theorem Ys (hc:Sem c) (a b x y:Int) (ha:Sm a) (hb:Sm b) (hx:Sm x) (hy:Sm y) (st:St):
   c 290 [.int .i64 a,.int .i64 b,.int .i64 x,.int .i64 y] st=some (.bool (aeg a b x y),st):=by
 have w1:ay .i64 (x+y)=x+y:=wrap64 (by omega) (by omega)
 have w3:ay .i64 (2*a)=2*a:=wrap64 (by omega) (by omega)
 have w4:ay .i64 (2*a+1)=2*a+1:=wrap64 (by omega) (by omega)
 have hT:0<=CC a b/\CC a b<=1000001:=by unfold CC;omega
 have w5:ay .i64 (CC a b+a)=CC a b+a:=wrap64 (by omega) (by omega)
 have w6:ay .i64 (CC a b+a - 1)=CC a b+a - 1:=wrap64 (by omega) (by omega)
 have t:=ac3 hc a b ha hb st
 rw[NC hc 1 (r:=(.bool (aeg a b x y),st)),au (Plain.bool _) (aM.refl st)]
 rw[Ri]
 unfold aeg
 cases h1:decide (b=2)
 . cases h3:decide (x<a)<;>simp[w1,w3,w4,w5,w6,t,h1,h3]
 . cases h2:decide (y=2*a+1)
   . cases h3:decide (x<a)<;>simp[w1,w3,w4,w5,w6,t,h1,h2,h3]
   . simp[w1,w3,w4,t,h1,h2]
theorem Yt (hc:Sem c) (a b x y:Int) (hx:Sm x) (hy:Sm y) (st:St):
  c 294 [.int .i64 a,.int .i64 b,.int .i64 x,.int .i64 y] st=some (.bool (aeh x y),st):=by
 have w1:ay .i64 (y - x)=y - x:=wrap64 (by omega) (by omega)
 rw[ND hc 1 (r:=(.bool (aeh x y),st)),au (Plain.bool _) (aM.refl st)]
 rw[Rj]
 unfold aeh
 simp[w1]
theorem Yu (hc:Sem c) (a b x y:Int) (ha:Sm a) (hb:Sm b) (hx:Sm x) (hy:Sm y) (st:St):
  c 295 [.int .i64 a,.int .i64 b,.int .i64 x,.int .i64 y] st=some (.bool (aei a b x y),st):=by
 have w1:ay .i64 (x+y)=x+y:=wrap64 (by omega) (by omega)
 have w2:ay .i64 (2*b)=2*b:=wrap64 (by omega) (by omega)
 have w3:ay .i64 (a+2*b)=a+2*b:=wrap64 (by omega) (by omega)
 have w4:ay .i64 (a+2*b - 1)=a+2*b - 1:=wrap64 (by omega) (by omega)
 rw[NF hc 1 (r:=(.bool (aei a b x y),st)),au (Plain.bool _) (aM.refl st)]
 rw[Rk]
 unfold aei
 cases h:decide (x<b)<;>simp[w1,w2,w3,w4,h]
theorem aa0 (hc:Sem c) (a b x y:Int) (hx:Sm x) (hy:Sm y) (st:St):
   c 299 [.int .i64 a,.int .i64 b,.int .i64 x,.int .i64 y] st=some (.bool (aej b x y),st):=by
 have w1:ay .i64 (y - x)=y - x:=wrap64 (by omega) (by omega)
 rw[OU hc 1 (r:=(.bool (aej b x y),st)),au (Plain.bool _) (aM.refl st)]
 rw[Tt]
 unfold aej
 cases h:decide (y - x=1)
 . simp[w1,h]
 . cases h2:decide (b=0)
   . have hb:b≠0:=by simpa using h2
     simp[w1,h,h2,acT _ _ _ _ _ _ _ hb]
   . simp[w1,h,h2]
theorem ak5 (hc:Sem c) (a b x y:Int) (st:St):c 300 [.int .i64 a,.int .i64 b,.int .i64 x,.int .i64 y] st=some (.bool false,st):=by
 rw[NG hc 1 (r:=(.bool false,st)),au (Plain.bool _) (aM.refl st)]
 rw[Rm]
 simp
end
section
set_option maxRecDepth 100000
open Go Go.Ai Go.Proofs
variable {c : ak}
structure az.Fit (t:az):Prop where
 sh:1<=t.sh/\t.sh<=4
 a:0<=t.a/\t.a<=24
 b:0<=t.b/\t.b<=24
theorem U1 {t:az} (h:bl t≠0):t.Fit:=by
 unfold bl at h
 split at h
 . split at h
   . exact ⟨by omega,by omega,by omega⟩
   . exact absurd rfl h
 split at h
 . split at h
   . exact ⟨by omega,by omega,by omega⟩
   . exact absurd rfl h
 split at h
 . split at h
   . exact ⟨by omega,by omega,by omega⟩
   . exact absurd rfl h
 split at h
 . split at h
   . exact ⟨by omega,by omega,by omega⟩
   . exact absurd rfl h
 . exact absurd rfl h
def IA (t:az) (x y:Int):Bool:=
 !decide (x=y)&&(if t.sh=1 then aed t.a (min x y) (max x y) else if t.sh=2 then aef t.a t.b (min x y) (max x y) else if t.sh=3 then aeh (min x y) (max x y) else aej t.b (min x y) (max x y))
def LR (t:az) (x y:Int):Bool:=
 !decide (x=y)&&(if t.sh=1 then aee t.a (min x y) (max x y) else if t.sh=2 then aeg t.a t.b (min x y) (max x y) else if t.sh=3 then aei t.a t.b (min x y) (max x y) else false)
def vU (t:az) (x y:Int):Bool:=IA t x y||LR t x y
theorem XF (hc:Sem c) (t:az) (ht:t.Fit) (x y:Int) (hx:Sm x) (hy:Sm y) (st:St) (hw:Wf st):
   c 166 [.agg t.cells,.int .i64 x,.int .i64 y] st=some (.bool (IA t x y),st):=by
 have hm:Sm (min x y):=by omega
 have hM:Sm (max x y):=by omega
 obtain ⟨⟨s1,s2⟩,⟨a1,a2⟩,b1,b2⟩:=ht
 rw[U2 hc 1 (r:=(.bool (IA t x y),ai (ai st (.cells t.cells 0)) (.cells (fk t.sh) 0))),au (Plain.bool _) ((aU hw).trans (aU (aQ hw)))]
 rw[Yv]
 obtain ⟨name,sh,a,b,oz,bZ,tx,ty⟩:=t
 simp only at s1 s2 a1 a2 b1 b2
 have ha:Sm a:=by omega
 have hb:Sm b:=by omega
 have hS:sh=1\/sh=2\/sh=3\/sh=4:=by omega
 cases h:decide (x=y)
 . rcases hS with rfl|rfl|rfl|rfl
   . simp[az.cells,AV.cells,dZ hc,hw,IA,fk,aK,AV.one,h,Wx hc a b _ _ ha hm hM]
   . simp[az.cells,AV.cells,dZ hc,hw,IA,fk,aK,AV.one,h,Yr hc a b _ _ ha hb hm hM]
   . simp[az.cells,AV.cells,dZ hc,hw,IA,fk,aK,AV.one,h,Yt hc a b _ _ hm hM]
   . simp[az.cells,AV.cells,dZ hc,hw,IA,fk,aK,AV.one,h,aa0 hc a b _ _ hm hM]
 . rcases hS with rfl|rfl|rfl|rfl<;>simp[az.cells,AV.cells,dZ hc,hw,IA,fk,aK,AV.one,h]
theorem XG (hc:Sem c) (t:az) (ht:t.Fit) (x y:Int) (hx:Sm x) (hy:Sm y) (st:St) (hw:Wf st):
   c 167 [.agg t.cells,.int .i64 x,.int .i64 y] st=some (.bool (LR t x y),st):=by
 have hm:Sm (min x y):=by omega
 have hM:Sm (max x y):=by omega
 obtain ⟨⟨s1,s2⟩,⟨a1,a2⟩,b1,b2⟩:=ht
 rw[U3 hc 1 (r:=(.bool (LR t x y),ai (ai st (.cells t.cells 0)) (.cells (fk t.sh) 0))),au (Plain.bool _) ((aU hw).trans (aU (aQ hw)))]
 rw[Yw]
 obtain ⟨name,sh,a,b,oz,bZ,tx,ty⟩:=t
 simp only at s1 s2 a1 a2 b1 b2
 have ha:Sm a:=by omega
 have hb:Sm b:=by omega
 have hS:sh=1\/sh=2\/sh=3\/sh=4:=by omega
 cases h:decide (x=y)
 . rcases hS with rfl|rfl|rfl|rfl
   . simp[az.cells,AV.cells,dZ hc,hw,LR,fk,aK,AV.one,h,Wy hc a b _ _ ha hm hM]
   . simp[az.cells,AV.cells,dZ hc,hw,LR,fk,aK,AV.one,h,Ys hc a b _ _ ha hb hm hM]
   . simp[az.cells,AV.cells,dZ hc,hw,LR,fk,aK,AV.one,h,Yu hc a b _ _ ha hb hm hM]
   . simp[az.cells,AV.cells,dZ hc,hw,LR,fk,aK,AV.one,h,ak5 hc]
 . rcases hS with rfl|rfl|rfl|rfl<;>simp[az.cells,AV.cells,dZ hc,hw,LR,fk,aK,AV.one,h]
theorem ai4 (hc:Sem c) (t:az) (ht:t.Fit) (x y:Int) (hx:Sm x) (hy:Sm y) (st:St) (hw:Wf st):
  c 303 [.agg t.cells,.int .i64 x,.int .i64 y] st=some (.bool (vU t x y),st):=by
 have hp:=aH st (.cells t.cells 0)
 have B:=XF hc t ht x y hx hy _ (aQ (b:= .cells t.cells 0) hw)
 have A:=XG hc t ht x y hx hy _ (aQ (b:= .cells t.cells 0) hw)
 rw[Yx hc 1 (r:=(.bool (vU t x y),ai st (.cells t.cells 0))),au (Plain.bool _) (aU hw)]
 rw[ab5]
 unfold vU
 cases h:IA t x y<;>simp[hp,B,A,h,az.len]
def OV:List az->Int->Nat->Option (Nat×Int)
 |[],_,_=>none
 |t::ts,s,i=>if s<bl t then some (i,s) else OV ts (s - bl t) (i+1)
theorem aa1: ∀{ts:List az} {s:Int} {i:Nat} {k:Nat} {x:Int},0<=s->OV ts s i=some (k,x)->i<=k/\0<=x/\ ∃t,ts[k - i]? =some t/\x<bl t
 |[],_,_,_,_,_,h=>by cases h
 |t ::ts,s,i,k,x,hs,h=>by
  unfold OV at h
  split at h
  . simp only[Option.some.injEq,Prod.mk.injEq] at h
    obtain ⟨rfl,rfl⟩:=h
    exact ⟨Nat.le_refl _,hs,t,by simp,by assumption⟩
  . obtain ⟨h1,h2,t',h3,h4⟩:=aa1 (by omega) h
    refine ⟨by omega,h2,t',?_,h4⟩
    rw[show k - i=(k - (i+1))+1 by omega,List.getElem?_cons_succ];exact h3
def AP:Option (Nat×Int)->AV
 |some (i,x)=> .tuple [.int .i64 (i:Int),.int .i64 x,.bool true]
 |none=> .tuple [.int .i64 0,.int .i64 0,.bool false]
theorem XH (o:Option (Nat×Int)):Plain (AP o):=by
 cases o with
 |none=>exact Plain.tuple fun v hv=>by simp at hv;rcases hv with rfl|rfl|rfl<;>first|exact Plain.int _ _|exact Plain.bool _
 |some p=>exact Plain.tuple fun v hv=>by simp at hv;rcases hv with rfl|rfl|rfl<;>first|exact Plain.int _ _|exact Plain.bool _
def AQ (ts:List az) (s:Int):Option (Nat×Int):=if s<0\/(bh ts).2≠0 then none else OV ts s 0
theorem ael (hc:Sem c) (z:Bool) (ts:List az) (hl:ts.length<=16) (F:Nat) (k1 k2): ∀(m k:Nat) (s:Int) (st:St),Wf st->ts.length<=k+m->k<=ts.length->0<=s->s<=4611686018427387904->
  ∃ st',Grew st st'/\nV c F k1 k2 (m+1) [.int .i64 s,tabs z ts,.int .i64 (ts.length:Int),.int .i64 (k:Int)] st=
    (match OV (ts.drop k) s k with|some (i,x)=>k1 [.int .i64 (i:Int),.int .i64 x,.bool true] st'|none=>k2 [] st'):=by
 intro m
 induction m with
 |zero=>
  intro k s st hw h1 h2 h3 h4
  obtain rfl:k=ts.length:=by omega
  refine ⟨st,Grew.refl hw,?_⟩
  rw[tF]
  simp[OV]
 |succ m ih=>
  intro k s st hw h1 h2 h3 h4
  by_cases h:k<ts.length
  . have w:ay .i64 ((k:Int)+1)=((k+1:Nat):Int):=wrap64 (by omega) (by omega)
    have aX:Wf (ai st (.cells ts[k].cells 0)):=aQ hw
    have hg:=Grew.ai hw (.cells ts[k].cells 0)
    have hs:=Jz hc ts[k] _ aX
    have b2:=pP ts[k]
    have w2:ay .i64 (s - bl ts[k])=s - bl ts[k]:=wrap64 (by omega) (by omega)
    rw[List.drop_eq_getElem_cons h]
    unfold OV
    by_cases aP:s<bl ts[k]
    .   refine ⟨_,hg,?_⟩
        rw[tF]
        simp[tabs,h,hs,aP,az.len]
    .   obtain ⟨st',g1,g2⟩:=ih (k+1) (s - bl ts[k]) _ aX (by omega) (by omega) (by omega) (by omega)
        refine ⟨st',hg.trans g1,?_⟩
        simp only[aP,if_false]
        rw[<-g2,tF]
        simp[tabs,h,hs,w,w2,aP,az.len]
  . obtain rfl:k=ts.length:=by omega
    refine ⟨st,Grew.refl hw,?_⟩
    rw[tF]
    simp[OV]
theorem LS (hc:Sem c) (z:Bool) (ts:List az) (bu: ∀t∈ts,t.Ok) (s:Int) (hs:s<=4611686018427387904) (st:St) (hw:Wf st):
   c 163 [tabs z ts,.int .i64 s] st=some (AP (AQ ts s),st):=by
 have lT: ∀(K:AV->St->Option (AV×St)) (s:St),aj c (.lenB .l) [tabs z ts] s K=K (.int .i64 (ts.length:Int)) s:=fun K s=>by unfold tabs;rw[bV];simp
 have hv:=Lx hc z ts bu st hw
 by_cases h:s<0\/(bh ts).2≠0
 . have e:AQ ts s=none:=by rw[AQ,if_pos h]
   rw[JS hc 1 (r:=(AP (AQ ts s),st)),au (XH _) (aM.refl st)]
   rw[OW,e]
   by_cases h1:s<0
   . simp[h1,AP]
   . have h3:(bh ts).2≠0:=h.resolve_left h1
     simp[h1,h3,hv,AP]
 . have e:AQ ts s=OV ts s 0:=by rw[AQ,if_neg h]
   have h1: ¬s<0:=fun e=>h (.inl e)
   have h3:(bh ts).2=0:=Classical.byContradiction fun e=>h (.inr e)
   have hl:=Hj h3
   have hex:=fun k1 k2=>ael hc z ts hl 20 k1 k2 19 0 s st hw (by omega) (by omega) (by omega) hs
   obtain ⟨st',hg,L⟩:=hex (fun vs s40=>cQ vs fun x4 vs=>cQ vs fun x5 vs=>cQ vs fun x6 vs=>eT vs (some (.tuple [x4,x5,x6],s40)))
     (fun vs s41=>eT vs (aj c .move [.int .i64 0] s41 fun x4 s42=>aj c .move [.int .i64 0] s42 fun x5 s43=>aj c .move [.bool false] s43 fun x6 s44=>some (.tuple [x4,x5,x6],s44)))
   rw[JS hc 20 (r:=(AP (AQ ts s),st')),au (XH _) hg.keeps]
   rw[OW,e]
   have L':nV c 20 (fun vs s40=>cQ vs fun x4 vs=>cQ vs fun x5 vs=>cQ vs fun x6 vs=>eT vs (some (.tuple [x4,x5,x6],s40)))
     (fun vs s41=>eT vs (aj c .move [.int .i64 0] s41 fun x4 s42=>aj c .move [.int .i64 0] s42 fun x5 s43=>aj c .move [.bool false] s43 fun x6 s44=>some (.tuple [x4,x5,x6],s44))) 20
        [.int .i64 s,tabs z ts,.int .i64 (ts.length:Int),.int .i64 0] st=some (AP (OV ts s 0),st'):=by
     have:=L
     simp only[List.drop_zero] at this
     rw[show ((0:Nat):Int)=0 from rfl] at this
     rw[this]
     cases OV ts s 0 with
     |none=>simp[AP]
     |some p=>simp[AP]
   simp at L'
   simp[h1,h3,hv,lT,L']
def lY (ts:List az) (a b:Int):Option (az×Int×Int):=match AQ ts a,AQ ts b with
 |some (i,x),some (k,y)=>if i=k then (ts[i]?).map fun t=>(t,x,y) else none
 |_,_=>none
def zT:az:=⟨[],0,0,0,true,[],0,0⟩
def xA:Option (az×Int×Int)->AV
 |some (t,x,y)=> .tuple [.agg t.cells,.int .i64 x,.int .i64 y,.bool true]
 |none=> .tuple [.agg zT.cells,.int .i64 0,.int .i64 0,.bool false]
theorem Sd (ts:List az): ∀(m k:Nat),ts.length<=k+m->(dB ts m k).2=0-> ∀(i:Nat) (t:az),k<=i->ts[i]? =some t->mJ t=0
 |0,k,h1,_,i,t,h3,h4=>by rw[List.getElem?_eq_none (by omega)] at h4;cases h4
 |m +   1,k,h1,h2,i,t,h3,h4=>by
  have hk:k<ts.length:=by have:=(List.getElem?_eq_some_iff.1 h4).1;omega
  rw[dB,List.getElem?_eq_getElem hk] at h2
  simp only at h2
  by_cases h5:mJ ts[k]=0
  . rw[if_neg (by simpa using h5)] at h2
    split at h2
    .   simp at h2
    .   by_cases h6:i=k
        . subst h6;rw[List.getElem?_eq_getElem hk] at h4;cases h4;exact h5
        . exact Sd ts m (k+1) (by omega) h2 i t (by omega) h4
  . rw[if_pos h5] at h2;exact absurd h2 h5
theorem XI {ts:List az} (h:(bh ts).2=0) {i:Nat} {t:az} (ht:ts[i]? =some t):mJ t=0:=by
 unfold bh at h
 split at h
 . simp at h
 . exact Sd ts _ 0 (by omega) h i t (by omega) ht
theorem afw {t:az} (h:mJ t=0):bl t≠0:=by
 unfold mJ at h
 split at h
 . cases h
 . split at h
   . cases h
   . assumption
theorem Fb {ts:List az} {s:Int} {i:Nat} {x:Int} (h:AQ ts s=some (i,x)):(bh ts).2=0/\0<=x/\ ∃t,ts[i]? =some t/\x<bl t/\t.Fit:=by
 unfold AQ at h
 split at h
 . cases h
 . rename_i hn
   have h1: ¬s<0:=fun e=>hn (.inl e)
   have h3:(bh ts).2=0:=Classical.byContradiction fun e=>hn (.inr e)
   obtain ⟨_,q2,t,q3,q4⟩:=aa1 (by omega) h
   exact ⟨h3,q2,t,q3,q4,U1 (afw (XI h3 q3))⟩
theorem U4 {ts:List az} {a b:Int} {t:az} {x y:Int} (h:lY ts a b=some (t,x,y)):t.Fit/\Sm x/\Sm y:=by
 unfold lY at h
 split at h
 . rename_i i x' k y' h1 h2
   split at h
   . rename_i hk
     subst hk
     obtain ⟨_,p1,t1,p2,p3,p4⟩:=Fb h1
     obtain ⟨_,q1,t2,q2,q3,_⟩:=Fb h2
     rw[p2] at q2 h;cases q2
     simp only[Option.map_some,Option.some.injEq,Prod.mk.injEq] at h
     obtain ⟨rfl,rfl,rfl⟩:=h
     have:=pP t1
     exact ⟨p4,by omega,by omega⟩
   . cases h
 . cases h
theorem ab6 (o:Option (az×Int×Int)):Plain (xA o):=by
 cases o with
 |none=>exact Plain.tuple fun v hv=>by simp at hv;rcases hv with rfl|rfl|rfl|rfl<;>first|exact Plain.agg (by intro v hv;simp only[az.cells,List.mem_cons,List.not_mem_nil,or_false] at hv;rcases hv with rfl|rfl|rfl|rfl|rfl|rfl|rfl<;>first|exact Plain.str _|exact Plain.int _ _|exact UF _ _)|exact Plain.int _ _|exact Plain.bool _
 |some p=>exact Plain.tuple fun v hv=>by simp at hv;rcases hv with rfl|rfl|rfl|rfl<;>first|exact Plain.agg (by intro v hv;simp only[az.cells,List.mem_cons,List.not_mem_nil,or_false] at hv;rcases hv with rfl|rfl|rfl|rfl|rfl|rfl|rfl<;>first|exact Plain.str _|exact Plain.int _ _|exact UF _ _)|exact Plain.int _ _|exact Plain.bool _
def xB:Option (az×Int×Int)->List AV
 |some (t,_,_)=>t.cells
 |none=>zT.cells
theorem aa2 (hc:Sem c) (z:Bool) (ts:List az) (bu: ∀t∈ts,t.Ok) (a b:Int) (ha:a<=4611686018427387904) (hb:b<=4611686018427387904) (st:St) (hw:Wf st):
  c 165 [tabs z ts,.int .i64 a,.int .i64 b] st=some (xA (lY ts a b),st):=by
 have aX:Wf (ai st (.cells [.str [],.int .u8 0,.int .i64 0,.int .i64 0,.ah,.int .i64 0,.int .i64 0] 0)):=aQ hw
 have hcut:cut [AV.str [],.int .u8 0,.int .i64 0,.int .i64 0,.ah,.int .i64 0,.int .i64 0] 0 7=some [AV.str [],.int .u8 0,.int .i64 0,.int .i64 0,.ah,.int .i64 0,.int .i64 0]:=rfl
 have Wa:=LS hc z ts bu a ha _ aX
 have Wb:=LS hc z ts bu b hb _ aX
 rw[Yy hc 1 (r:=(xA (lY ts a b),ai st (.cells (xB (lY ts a b)) 0))),au (ab6 _) (aU hw)]
 rw[ab7]
 cases h1:AQ ts a with
 |none=>
  have e:lY ts a b=none:=by unfold lY;rw[h1]
  rw[h1] at Wa;rw[e]
  cases h2:AQ ts b with
  |none=>rw[h2] at Wb;simp[Wa,Wb,AP,xA,xB,zT,az.cells,AV.cells,ints,ro,aK,AV.one,bJ,hcut]
  |some q=>rw[h2] at Wb;simp[Wa,Wb,AP,xA,xB,zT,az.cells,AV.cells,ints,ro,aK,AV.one,bJ,hcut]
 |some p=>
  obtain ⟨i,x⟩:=p
  rw[h1] at Wa
  cases h2:AQ ts b with
  |none=>
   have e:lY ts a b=none:=by unfold lY;rw[h1,h2]
   rw[h2] at Wb;rw[e]
   simp[Wa,Wb,AP,xA,xB,zT,az.cells,AV.cells,ints,ro,aK,AV.one,bJ,hcut]
  |some q=>
   obtain ⟨k,y⟩:=q
   rw[h2] at Wb
   obtain ⟨_,p1,t1,p2,p3,p4⟩:=Fb h1
   by_cases hk:i=k
   .    subst hk
        have e:lY ts a b=some (t1,x,y):=by unfold lY;rw[h1,h2];simp[p2]
        obtain ⟨hi,hg⟩:=List.getElem?_eq_some_iff.1 p2
        rw[e]
        subst hg
        unfold tabs at Wa Wb ⊢
        simp[Wa,Wb,AP,xA,xB,hi,az.len]
   .    have e:lY ts a b=none:=by unfold lY;rw[h1,h2];simp[hk]
        have kM: ¬(i:Int)=(k:Int):=by omega
        rw[e]
        simp[Wa,Wb,AP,kM,xA,xB,zT,az.cells,AV.cells,ints,ro,aK,AV.one,bJ,hcut]
def OX (ts:List az) (a b:Int):Bool:=match lY ts a b with|some (t,x,y)=>IA t x y|none=>false
def OY (ts:List az) (a b:Int):Bool:=match lY ts a b with|some (t,x,y)=>LR t x y|none=>false
theorem afx (hc:Sem c) (z:Bool) (ts:List az) (bu: ∀t∈ts,t.Ok) (a b:Int) (ha:a<=4611686018427387904) (hb:b<=4611686018427387904) (st:St) (hw:Wf st):
  c 76 [tabs z ts,.int .i64 a,.int .i64 b] st=some (.bool (OX ts a b),st):=by
 have P:=aa2 hc z ts bu a b ha hb st hw
 rw[U5 hc 1 (r:=(.bool (OX ts a b),ai st (.cells (xB (lY ts a b)) 0))),au (Plain.bool _) (aU hw)]
 rw[Yz]
 unfold OX
 cases h:lY ts a b with
 |none=>rw[h] at P;simp[P,xA,xB,az.len]
 |some p=>
  obtain ⟨t,x,y⟩:=p
  obtain ⟨q1,q2,q3⟩:=U4 h
  have B:=XF hc t q1 x y q2 q3 (ai st (.cells t.cells 0)) (aQ hw)
  rw[h] at P;simp[P,xA,xB,az.len,B]
theorem afy (hc:Sem c) (z:Bool) (ts:List az) (bu: ∀t∈ts,t.Ok) (a b:Int) (ha:a<=4611686018427387904) (hb:b<=4611686018427387904) (st:St) (hw:Wf st):
  c 78 [tabs z ts,.int .i64 a,.int .i64 b] st=some (.bool (OY ts a b),st):=by
 have P:=aa2 hc z ts bu a b ha hb st hw
 rw[U6 hc 1 (r:=(.bool (OY ts a b),ai st (.cells (xB (lY ts a b)) 0))),au (Plain.bool _) (aU hw)]
 rw[YA]
 unfold OY
 cases h:lY ts a b with
 |none=>rw[h] at P;simp[P,xA,xB,az.len]
 |some p=>
  obtain ⟨t,x,y⟩:=p
  obtain ⟨q1,q2,q3⟩:=U4 h
  have B:=XG hc t q1 x y q2 q3 (ai st (.cells t.cells 0)) (aQ hw)
  rw[h] at P;simp[P,xA,xB,az.len,B]
def uA (x:Int):List Int->Nat->Int
 |[],_=> -1
 |y::l,i=>if x=y then (i:Int) else uA x l (i+1)
theorem ac4 {x:Int}: ∀(l:List Int) (i:Nat),(0<=uA x l i)↔x∈l
 |[],i=>by simp[uA]
 |y::l,i=>by
  unfold uA
  by_cases h:x=y
  . simp[h]
  . rw[if_neg h,ac4 l (i+1)];simp[h]
theorem afz (x:Int) (z:Bool) (l:List Int) (hl:l.length<cO) (F:Nat) (st:St) (k1 k2): ∀(m k:Nat),l.length<=k+m->k<=l.length->
  gQ c F k1 k2 (m+1) [ints z l,.int .i64 x,.int .i64 (l.length:Int),.int .i64 (k:Int)] st=
    if 0<=uA x (l.drop k) k then k1 [.int .i64 (uA x (l.drop k) k)] st else k2 [] st:=by
 intro m
 induction m with
 |zero=>
  intro k h1 h2
  obtain rfl:k=l.length:=by omega
  rw[tG]
  simp[uA]
 |succ m ih=>
  intro k h1 h2
  rw[tG]
  by_cases h:k<l.length
  . have w:ay .i64 ((k:Int)+1)=((k+1:Nat):Int):=wrap64 (by omega) (by unfold cO at hl;omega)
    rw[List.drop_eq_getElem_cons h,uA]
    by_cases h3:x=l[k]
    .   subst h3;simp[ints,h]
    .   have:=ih (k+1) (by omega) (by omega)
        simp only[h3,if_false]
        rw[<-this]
        simp[ints,h,h3,w]
  . obtain rfl:k=l.length:=by omega
    simp[uA]
theorem afA (hc:Sem c) (z:Bool) (l:List Int) (hl:l.length<cO) (x:Int) (st:St):c 194 [ints z l,.int .i64 x] st=some (.int .i64 (uA x l 0),st):=by
 have lI: ∀(K:AV->St->Option (AV×St)) (s:St),aj c (.lenB .l) [ints z l] s K=K (.int .i64 (l.length:Int)) s:=fun K s=>by unfold ints;rw[bV];simp
 have L:=fun k1 k2=>afz (c:=c) x z l hl (l.length+1) st k1 k2 l.length 0 (by omega) (by omega)
 simp only[List.drop_zero] at L
 rw[Fc hc (l.length+1) (r:=(.int .i64 (uA x l 0),st)),au (Plain.int _ _) (aM.refl st)]
 rw[IB]
 simp only[aY,lI]
 rw[show (0:Int)=((0:Nat):Int) from rfl,L]
 by_cases h:0<=uA x l 0
 . simp[h]
 . have:uA x l 0= -1:=by
    have: ∀(l:List Int) (i:Nat),0<=uA x l i\/uA x l i= -1:=by
        intro l
        induction l with
        |nil=>intro i;exact .inr rfl
        |cons y l ih=>intro i;unfold uA;split;exact .inl (by omega);exact ih _
    exact (this l 0).resolve_left h
   simp[h,this]
theorem aa3 (hc:Sem c) (z:Bool) (l:List Int) (hl:l.length<cO) (x:Int) (st:St):c 95 [ints z l,.int .i64 x] st=some (.bool (decide (x∈l)),st):=by
 rw[B9 hc 1 (r:=(.bool (decide (x∈l)),st)),au (Plain.bool _) (aM.refl st)]
 rw[Ec]
 have e:decide (0<=uA x l 0)=decide (x∈l):=by rw[decide_eq_decide];exact ac4 l 0
 simp[afA hc z l hl x st,e]
def aa4 (ts:List az) (a:Int):Bool:=match AQ ts a with|some (i,x)=>decide (x∈(ts[i]?.getD zT).bZ)|none=>false
theorem ai5 (hc:Sem c) (z:Bool) (ts:List az) (bu: ∀t∈ts,t.Ok) (a:Int) (ha:a<=4611686018427387904) (st:St) (hw:Wf st):
  c 73 [tabs z ts,.int .i64 a] st=some (.bool (aa4 ts a),st):=by
 have W:=LS hc z ts bu a ha st hw
 rw[YB hc 1 (r:=(.bool (aa4 ts a),st)),au (Plain.bool _) (aM.refl st)]
 rw[ab8]
 unfold aa4
 cases h:AQ ts a with
 |none=>rw[h] at W;simp[W,AP]
 |some p=>
  obtain ⟨i,x⟩:=p
  obtain ⟨_,p1,t1,p2,p3,p4⟩:=Fb h
  obtain ⟨hi,hg⟩:=List.getElem?_eq_some_iff.1 p2
  subst hg
  have c4:(ts[i]).cells[4]? =some (ints (ts[i]).oz (ts[i]).bZ):=rfl
  have C:=aa3 hc (ts[i]).oz (ts[i]).bZ (bu _ (List.getElem_mem hi)).bZ x st
  rw[h] at W
  unfold tabs at W ⊢
  simp[W,AP,hi,c4,C]
end
section
set_option maxRecDepth 100000
open Go Go.Ai Go.Proofs
variable {c : ak}
abbrev aa5 (m:Nat):List AV:=[.int .i64 (m:Int)]
abbrev cI (i:Int):AV:= .int .i64 i
def mO (nr:Nat->Bool) (k:Nat):List Nat->List Int->List Nat->List Int×List Nat
 |[],o,q=>(o,q)
 |m::ms,o,q=>if o.getD m 0<0/\nr m=true then mO nr k ms (o.set m (o.getD k 0+1)) (q++[m]) else mO nr k ms o q
def Y3 (nr:Nat->Nat->Bool) (n:Nat):Nat->List Int->List Nat->List Int
 |0,o,_=>o
 |_+1,o,[]=>o
 |f+1,o,k::q=>Y3 nr n f (mO (nr k) k (List.range n) o q).1 (mO (nr k) k (List.range n) o q).2
structure SI (s0 s:St) (pt po:Pos) (t:az) (n:Nat) (o:List Int) (qv:AV) (q:List Nat) (B:Int):Prop where
 jf:Wf s0
 aB:Grew s0 s
 tab:s.heap.get pt=some (.cells t.cells 0)
 out:s.heap.get po=some (.cells (o.map cI) 0)
 len:o.length=n
 Fe:QS 1 s qv (q.map aa5)
 ne1:bf qv≠some pt
 ne2:bf qv≠some po
 ne3:pt≠po
 ahy:s0.next.toNat<=pt.toNat
 aem:s0.next.toNat<=po.toNat
 Bs: ∀b,bf qv=some b->s0.next.toNat<=b.toNat
 small: ∀v∈o,-1<=v/\v<=B
 qlt: ∀m∈q,m<n
theorem Ed (o:List Int) (j:Nat) (h:j<o.length) (v:Int):aG (o.map cI) j [cI v]=(o.set j v).map cI:=by
 unfold aG
 rw[List.map_set,List.set_eq_take_append_cons_drop,if_pos (by simpa using h)]
 simp
theorem ai6 (hc:Sem c) {s0:St} {pt po:Pos} {t:az} (ht:t.Fit) {n:Nat} (hn:n<=1000) {k:Nat} (hk:k<n) {B:Int} (hB:B<=1000000) (F:Nat) (k6):
  ∀ (r j f:Nat) (s:St) (o:List Int) (qv:AV) (q:List Nat),r<f->j+r=n->SI s0 s pt po t n o qv q (B+1)->o.getD k 0<=B->0<=o.getD k 0->q.length<=4000+j->
    ∃   s' XJ,SI s0 s' pt po t n (mO (fun m=>vU t k m) k (List.range' j r) o q).1 XJ (mO (fun m=>vU t k m) k (List.range' j r) o q).2 (B+1)/\
        nW c F k6 f [.ptr pt 0,.slice po 0 n (some n) 1,qv,.int .i64 (k:Int),.slice po 0 n (some n) 1,.int .i64 (n:Int),.int .i64 (j:Int)] s=k6 [.ptr pt 0,.slice po 0 n (some n) 1,XJ] s':=by
 intro r
 induction r with
 |zero=>
  intro j f s o qv q hf h1 hI o9 Ca hq
  obtain ⟨g,rfl⟩: ∃g,f=g+1:=⟨f - 1,by omega⟩
  obtain rfl:j=n:=by omega
  refine ⟨s,qv,hI,?_⟩
  rw[tH]
  simp
 |succ r ih=>
  intro j f s o qv q hf h1 hI o9 Ca hq
  obtain ⟨g,rfl⟩: ∃g,f=g+1:=⟨f - 1,by omega⟩
  have hj:j<n:=by omega
  have hjo:j<o.length:=by rw[hI.len];exact hj
  have MF:k<o.length:=by rw[hI.len];exact hk
  have hw:=hI.aB.wf
  have w:ay .i64 ((j:Int)+1)=((j+1:Nat):Int):=wrap64 (by omega) (by omega)
  have N:=ai4 hc t ht k j ⟨by omega,by omega⟩ ⟨by omega,by omega⟩ s hw
  have ix: ∀(i:Nat),i<n-> ∀(K:AV->St->Option (AV×St)) (s1:St),aj c (.idxA 1 none) [.slice po 0 n (some n) 1,.int .i64 (i:Int)] s1 K=K (.ptr po i) s1:=fun i hi K s1=>by
    rw[mH c K s1 hi];simp
  have ixj:=ix j hj
  have ixk:=ix k hk
  have gj:(o.map cI)[j]? =some (.int .i64 o[j]):=by rw[List.getElem?_map,List.getElem?_eq_getElem hjo];rfl
  have gk:(o.map cI)[k]? =some (.int .i64 o[k]):=by rw[List.getElem?_map,List.getElem?_eq_getElem MF];rfl
  have ej:o.getD j 0=o[j]:=by simp[List.getD,List.getElem?_eq_getElem hjo]
  have ek:o.getD k 0=o[k]:=by simp[List.getD,List.getElem?_eq_getElem MF]
  have tb:=hI.tab
  have ou:=hI.out
  rw[List.range'_succ]
  by_cases hd:o[j]<0
  . cases   hb:vU t k j with
    |   true=>
        have e:mO (fun m=>vU t k m) k (j::List.range' (j+1) r) o q=mO (fun m=>vU t k m) k (List.range' (j+1) r) (o.set j (o[k]+1)) (q++[j]):=by
         rw[mO,if_pos ⟨by rw[ej];exact hd,hb⟩,ek]
        have w2:ay .i64 (o[k]+1)=o[k]+1:=wrap64 (by omega) (by omega)
        have OZ:=hw _ _ ou
        have lf: ∀(K:AV->St->Option (AV×St)),aj c (.store 1) [.ptr po j,.int .i64 (o[k]+1)] s K=K .undef (bt s po (.cells ((o.set j (o[k]+1)).map cI) 0)):=fun K=>by
         rw[cu c K s 1 po j (.int .i64 (o[k]+1)) (o.map cI) ou rfl (by simp;omega) rfl, <-Ed o j hjo];rfl
        have aX:Wf (bt s po (.cells ((o.set j (o[k]+1)).map cI) 0)):=ij hw OZ
        have q1:QS 1 (bt s po (.cells ((o.set j (o[k]+1)).map cI) 0)) qv (q.map aa5):=hI.Fe.mono fun b x hb hx=>by
         rw[aF (fun e=>hI.ne2 (by rw[hb,e]))];exact hx
        obtain ⟨s5,v5,a1,a2,a3,a4,a5,a6⟩:=q1.push (c:=c) (R:=AV×St) (bytes:=8) aX (fun r hr=>by simp only[List.mem_map] at hr;obtain ⟨m,_,rfl⟩:=hr;rfl) (z:=[.int .i64 0]) (x:= .int .i64 (j:Int)) rfl rfl rfl (by decide) (by simp;omega) (by simp;omega)
        have t5:s5.heap.get pt=some (.cells t.cells 0):=a5 pt _ hI.ne1 (by rw[aF (fun e=>hI.ne3 e.symm)];exact tb)
        have o5:s5.heap.get po=some (.cells ((o.set j (o[k]+1)).map cI) 0):=a5 po _ hI.ne2 (dM _ _ _)
        have g5:Grew s0 s5:=⟨a3,fun p b hg=>by
         have h0:=hI.jf _ _ hg
         refine a5 p b (fun e=> ?_) ?_
         .  have:=hI.Bs p e;omega
         .  rw[aF (fun e=>by have:=hI.aem;rw[e] at this;omega)];exact hI.aB.get hg,Nat.le_trans hI.aB.next (by rw[cg] at a4;exact a4)⟩
        have I5:SI s0 s5 pt po t n (o.set j (o[k]+1)) v5 (q++[j]) (B+1):=by
         refine ⟨hI.jf,g5,t5,o5,by simp[hI.len],by rw[List.map_append];exact a2,fun e=> ?_,fun e=> ?_,hI.ne3,hI.ahy,hI.aem,fun b e=> ?_,fun v hv=> ?_,fun m hm=> ?_⟩
         .  have:=a6 _ e;rw[cg] at this;have:=hw _ _ tb;omega
         .  have:=a6 _ e;rw[cg] at this;omega
         .  have:=a6 _ e;rw[cg] at this;have:=hI.aB.next;omega
         .  rcases List.mem_or_eq_of_mem_set hv with h|h
            . exact hI.small v h
            . subst h;omega
         .  rcases List.mem_append.1 hm with h|h
            . exact hI.qlt m h
            . simp at h;omega
        have hkj:j≠k:=fun e=>by subst e;omega
        have ek5:(o.set j (o[k]+1)).getD k 0=o[k]:=by simp[List.getD,List.getElem?_set_ne hkj,List.getElem?_eq_getElem MF]
        obtain ⟨s',XJ,b1,b2⟩:=ih (j+1) g s5 _ v5 (q++[j]) (by omega) (by omega) I5 (by rw[ek5];omega) (by rw[ek5];omega) (by simp;omega)
        rw[e]
        refine ⟨s',XJ,b1,?_⟩
        rw[<-b2,tH]
        rw[hb] at N
        simp[-cB,-List.map_set,cm,hj,ixj,ixk,tb,ou,gj,gk,hd,N,az.len,w2,lf,a1,w]
    |   false=>
        have e:mO (fun m=>vU t k m) k (j::List.range' (j+1) r) o q=mO (fun m=>vU t k m) k (List.range' (j+1) r) o q:=by
         rw[mO,if_neg (by rw[hb];simp)]
        obtain ⟨s',XJ,b1,b2⟩:=ih (j+1) g s _ qv q (by omega) (by omega) hI o9 Ca (by omega)
        rw[e]
        refine ⟨s',XJ,b1,?_⟩
        rw[<-b2,tH]
        rw[hb] at N
        simp[cm,hj,ixj,tb,ou,gj,hd,N,az.len,w]
  . have e:mO (fun m=>vU t k m) k (j::List.range' (j+1) r) o q=mO (fun m=>vU t k m) k (List.range' (j+1) r) o q:=by
        rw[mO,if_neg (by rw[ej];simp[hd])]
    obtain ⟨s',XJ,b1,b2⟩:=ih (j+1) g s _ qv q (by omega) (by omega) hI o9 Ca (by omega)
    rw[e]
    refine ⟨s',XJ,b1,?_⟩
    rw[<-b2,tH]
    simp[cm,hj,ixj,tb,ou,gj,hd,w]
end
section
set_option maxRecDepth 100000
open Go Go.Ai Go.Proofs
variable {c : ak}
def neg (o:List Int):Nat:=o.countP fun v=>decide (v<0)
theorem ai7 {o:List Int} {m:Nat} {v:Int} (h:m<o.length) (h1:o[m]<0) (h2:0<=v):neg (o.set m v)+1=neg o:=by
 unfold neg
 rw[List.countP_set h]
 have a:(decide (o[m]<0))=true:=by simpa using h1
 have b:(decide (v<0))=false:=by simp;omega
 simp only[a,b,if_true,Bool.false_eq_true,if_false]
 have:0<o.countP fun v=>decide (v<0):=List.countP_pos_iff.2 ⟨o[m],List.getElem_mem h,a⟩
 omega
theorem LU (nr:Nat->Bool) (k:Nat): ∀(ms:List Nat) (o:List Int) (q:List Nat),(∀m∈ms,m<o.length)->0<=o.getD k 0->(∀m∈q,0<=o.getD m 0)->
  2*neg (mO nr k ms o q).1+(mO nr k ms o q).2.length<=2*neg o+q.length/\(mO nr k ms o q).1.length=o.length/\(∀m∈(mO nr k ms o q).2,0<=(mO nr k ms o q).1.getD m 0)/\(∀m,0<=o.getD m 0->(mO nr k ms o q).1.getD m 0=o.getD m 0)
 |[],o,q,_,_,h=>⟨Nat.le_refl _,rfl,h,fun _ _=>rfl⟩
 |m ::ms,o,q,hm,hk,h=>by
  have hmo:=hm m (by simp)
  by_cases hc:o.getD m 0<0/\nr m=true
  . rw[mO,if_pos hc]
    have em:o.getD m 0=o[m]:=by simp[List.getD,List.getElem?_eq_getElem hmo]
    have bX: ∀i,0<=o.getD i 0->m≠i:=fun i hi e=>by subst e;omega
    have get: ∀i,m≠i->(o.set m (o.getD k 0+1)).getD i 0=o.getD i 0:=fun i hi=>by simp[List.getD,List.getElem?_set_ne hi]
    have gm:(o.set m (o.getD k 0+1)).getD m 0=o.getD k 0+1:=by simp[List.getD,hmo]
    obtain ⟨a1,a2,a3,a4⟩:=LU nr k ms (o.set m (o.getD k 0+1)) (q++[m]) (fun i hi=>by simpa using hm i (List.mem_cons_of_mem _ hi)) (by rw[get k (bX k hk)];exact hk) (fun i hi=>by
        rcases List.mem_append.1 hi with hi|hi
        . rw[get i (bX i (h i hi))];exact h i hi
        . simp at hi;subst hi;rw[gm];omega)
    have hs:=ai7 hmo (by rw[<-em];exact hc.1) (show 0<=o.getD k 0+1 by omega)
    refine ⟨by simp only[List.length_append,List.length_cons,List.length_nil] at a1;omega,by simpa using a2,a3,fun i hi=> ?_⟩
    rw[a4 i (by rw[get i (bX i hi)];exact hi),get i (bX i hi)]
  . rw[mO,if_neg hc]
    exact LU nr k ms o q (fun i hi=>hm i (List.mem_cons_of_mem _ hi)) hk h
theorem SI.le {s0 s:St} {pt po:Pos} {t:az} {n:Nat} {o:List Int} {qv:AV} {q:List Nat} {B B':Int} (h:SI s0 s pt po t n o qv q B) (hB:B<=B'):SI s0 s pt po t n o qv q B':=
 ⟨h.jf,h.aB,h.tab,h.out,h.len,h.Fe,h.ne1,h.ne2,h.ne3,h.ahy,h.aem,h.Bs,fun v hv=>⟨(h.small v hv).1,by have:=(h.small v hv).2;omega⟩,h.qlt⟩
theorem ahz (hc:Sem c) {s0:St} {pt po:Pos} {t:az} (ht:t.Fit) {n:Nat} (hn:n<=1000) (F:Nat) (hF:n<F) (k4):
  ∀(f:Nat) (g:Nat) (s:St) (o:List Int) (qv:AV) (q:List Nat) (B:Int),f<g->SI s0 s pt po t n o qv q B->2*neg o+q.length<=f->B+f<=1000000->0<=B->f<=3000->(∀m∈q,0<=o.getD m 0)->
   ∃    s',Grew s0 s'/\s'.heap.get po=some (.cells ((Y3 (fun k m=>vU t k m) n f o q).map cI) 0)/\(Y3 (fun k m=>vU t k m) n f o q).length=n/\
        kV c F k4 g [.ptr pt 0,.slice po 0 n (some n) 1,qv] s=k4 [.slice po 0 n (some n) 1] s':=by
 intro f
 induction f with
 |zero=>
  intro g s o qv q B hg hI h1 h2 h3 h4 h5
  obtain ⟨g,rfl⟩: ∃g',g=g'+1:=⟨g - 1,by omega⟩
  have hq:q=[]:=List.eq_nil_of_length_eq_zero (by omega)
  subst hq
  refine ⟨s,hI.aB,hI.out,hI.len,?_⟩
  have hl: ∀(K:AV->St->Option (AV×St)) (s1:St),aj c (.lenB .l) [qv] s1 K=K (.int .i64 0) s1:=fun K s1=>by rw[hI.Fe.lenB];simp
  rw[zJ]
  simp[hl]
 |succ f ih=>
  intro g s o qv q B hg hI h1 h2 h3 h4 h5
  obtain ⟨g,rfl⟩: ∃g',g=g'+1:=⟨g - 1,by omega⟩
  have hl: ∀(K:AV->St->Option (AV×St)) (s1:St),aj c (.lenB .l) [qv] s1 K=K (.int .i64 (q.length:Int)) s1:=fun K s1=>by rw[hI.Fe.lenB];simp
  cases q with
  |nil=>
   refine ⟨s,hI.aB,hI.out,hI.len,?_⟩
   rw[zJ]
   simp[hl]
  |cons k q=>
   have hr: ∀r∈(k::q).map aa5,r.length=1:=fun r hr=>by simp only[List.mem_map] at hr;obtain ⟨m,_,rfl⟩:=hr;rfl
   obtain ⟨b,ob,cs,a1,a2,a3,a4⟩:=hI.Fe.at (c:=c) (R:=AV×St) hr (by decide) (i:=0) (by simp)
   obtain ⟨v',t1,t2,t3⟩:=QS.tail (R:=AV×St) (c:=c) (r:=aa5 k) (rows:=q.map aa5) hI.Fe rfl
   have hk:k<n:=hI.qlt k (by simp)
   have MF:k<o.length:=by rw[hI.len];exact hk
   have gk:cs[ob]? =some (.int .i64 (k:Int)):=by simpa using a4 0 (.int .i64 (k:Int)) rfl
   have i0: ∀(K:AV->St->Option (AV×St)) (s1:St),aj c (.idxA 1 none) [qv,.int .i64 0] s1 K=K (.ptr b ob) s1:=fun K s1=>a1 K .i64 s1
   have lo: ∀(K:AV->St->Option (AV×St)) (s1:St),aj c (.lenB .l) [.slice po 0 n (some n) 1] s1 K=K (.int .i64 (n:Int)) s1:=fun K s1=>Bm c K s1 _ _ _ _ _
   have ek:o.getD k 0=o[k]:=by simp[List.getD,List.getElem?_eq_getElem MF]
   have sm:=hI.small o[k] (List.getElem_mem MF)
   have uh:=h5 k (by simp)
   have I1:SI s0 s pt po t n o v' q (B+1):=by
        have I2:=hI.le (B':=B+1) (by omega)
        exact ⟨I2.jf,I2.aB,I2.tab,I2.out,I2.len,t2,fun e=>I2.ne1 (t3 _ e),fun e=>I2.ne2 (t3 _ e),I2.ne3,I2.ahy,I2.aem,fun b hb=>I2.Bs b (t3 b hb),I2.small,fun m hm=>I2.qlt m (List.mem_cons_of_mem _ hm)⟩
   obtain ⟨s1,v1,b1,b2⟩:=ai6 hc ht hn hk (B:=B) (by omega) F (fun vs s71=>cQ vs fun x2 vs=>cQ vs fun x5 vs=>cQ vs fun x7 vs=>eT vs (kV c F k4 g [x2,x5,x7] s71)) n 0 F s o v' q hF (by omega) I1 (by rw[ek];omega) uh (by simp only[List.length_cons] at h1;omega)
   rw[<-List.range_eq_range'] at b1
   obtain ⟨p1,p2,p3,p4⟩:=LU (fun m=>vU t k m) k (List.range n) o q (fun m hm=>by rw[hI.len];exact List.mem_range.1 hm) uh (fun m hm=>h5 m (List.mem_cons_of_mem _ hm))
   obtain ⟨s',c1,c2,c3,c4⟩:=ih g s1 _ v1 _ (B+1) (by omega) b1 (by simp only[List.length_cons] at h1;omega) (by omega) (by omega) (by omega) p3
   refine ⟨s',c1,c2,c3,?_⟩
   rw[<-c4,zJ]
   simp at b2
   have N4:0<(q.length:Int)+1:=by omega
   simp[hl,i0,a3,gk,t1,lo,b2,N4]
end
section
set_option maxRecDepth 100000
open Go Go.Ai Go.Proofs
variable {c : ak}
def xR (n k:Nat):List Int:=List.replicate k (-1)++List.replicate (n - k) 0
theorem ai8 {n k:Nat} (h:k<n):(xR n k).set k (-1)=xR n (k+1):=by
 unfold xR
 rw[List.set_append_right _ _ (by simp)]
 simp only[List.length_replicate,Nat.sub_self]
 rw[show n - k=(n - (k+1))+1 by omega,List.replicate_succ,List.set_cons_zero,List.replicate_succ',List.append_assoc]
 rfl
theorem ai9 {n k:Nat} (h:k<=n):(xR n k).length=n:=by unfold xR;simp;omega
theorem afB {s0:St} {pt po:Pos} {t:az} {n:Nat} (hn:n<=1000) (bX:pt≠po) (OZ:s0.next.toNat<=po.toNat) (BX:Wf s0) (x1:AV) (F:Nat) (k2): ∀(m k f:Nat) (s:St),m<f->k+m=n->Grew s0 s->s.heap.get pt=some (.cells t.cells 0)->s.heap.get po=some (.cells ((xR n k).map cI) 0)->
  ∃s',Grew s0 s'/\s'.heap.get pt=some (.cells t.cells 0)/\s'.heap.get po=some (.cells ((xR n n).map cI) 0)/\
   nX c F k2 f [x1,.ptr pt 0,.slice po 0 n (some n) 1,.int .i64 (n:Int),.int .i64 (k:Int)] s=k2 [x1,.ptr pt 0,.slice po 0 n (some n) 1] s':=by
 intro m
 induction m with
 |zero=>
  intro k f s hf h1 hg ht ho
  obtain ⟨f,rfl⟩: ∃g,f=g+1:=⟨f - 1,by omega⟩
  obtain rfl:k=n:=by omega
  refine ⟨s,hg,ht,ho,?_⟩
  rw[Ht]
  simp
 |succ m ih=>
  intro k f s hf h1 hg ht ho
  obtain ⟨f,rfl⟩: ∃g,f=g+1:=⟨f - 1,by omega⟩
  have hk:k<n:=by omega
  have w:ay .i64 ((k:Int)+1)=((k+1:Nat):Int):=wrap64 (by omega) (by omega)
  have ix: ∀(K:AV->St->Option (AV×St)) (s1:St),aj c (.idxA 1 none) [.slice po 0 n (some n) 1,.int .i64 (k:Int)] s1 K=K (.ptr po k) s1:=fun K s1=>by rw[mH c K s1 hk];simp
  have hl:(xR n k).length=n:=ai9 (by omega)
  have aP:=hg.wf _ _ ho
  have lf: ∀(K:AV->St->Option (AV×St)),aj c (.store 1) [.ptr po k,.int .i64 (-1)] s K=K .undef (bt s po (.cells ((xR n (k+1)).map cI) 0)):=fun K=>by
   rw[cu c K s 1 po k (.int .i64 (-1)) ((xR n k).map cI) ho rfl (by simp[hl];omega) rfl, <-ai8 hk, <-Ed _ _ (by omega)];rfl
  have g1:Grew s0 (bt s po (.cells ((xR n (k+1)).map cI) 0)):=⟨ij hg.wf aP,fun p b hp=>by
   have:=BX _ _ hp
   rw[aF (fun e=>by rw[e] at OZ;omega)];exact hg.get hp,by rw[cg];exact hg.next⟩
  obtain ⟨s',a1,a2,a3,a4⟩:=ih (k+1) f _ (by omega) (by omega) g1 (by rw[aF (fun e=>bX e.symm)];exact ht) (dM _ _ _)
  refine ⟨s',a1,a2,a3,?_⟩
  rw[<-a4,Ht]
  simp[-List.map_set,hk,ix,lf,w]
def JT (t:az) (fr:Nat):List Int:=Y3 (fun k m=>vU t k m) (bl t).toNat (2*(bl t).toNat+1) ((List.replicate (bl t).toNat (-1)).set fr 0) [fr]
theorem Ff {b:Pos} {off n es:Nat} (hn:n≠0) (h:Plain (.slice b off n (some n) es)):False:=by
 have h1:av (fun _=>⟨0,0,off+n*es⟩) (b.toNat+1) (fun _=>none) (.slice b off n (some n) es) (.slice (some ⟨0,0+off,none⟩) n n):=
  .slice b off n (some n) es n _ (Nat.le_refl _) (fun c hc=>by cases hc;rfl) (fun _=>⟨by omega,rfl,by simp⟩) (fun h=>by cases h)
 have h2:=h _ (fun _=>⟨0,0,0⟩) _ 0 _ _ h1
 cases h2 with
 |slice _ _ _ _ _ _ _ _ _ ha _=>exact absurd (ha hn).1 (by omega)
theorem aa6 {s s':St} {v:AV} (h: ¬Plain v):tidy s (v,s')=(v,s'):=by
 unfold tidy;rw[if_neg (fun e=>h e.1)]
theorem ahA (hc:Sem c) (t:az) (hz:bl t≠0) (fr:Nat) (hf:(fr:Int)<bl t) (s:St) (hw:Wf s):
  ∃b s',c 247 [.agg t.cells,.int .i64 (fr:Int)] s=some (.slice b 0 (bl t).toNat (some (bl t).toNat) 1,s')/\Grew s s'/\s'.heap.get b=some (.cells ((JT t fr).map cI) 0)/\s.next.toNat<=b.toNat/\(JT t fr).length=(bl t).toNat:=by
 have ht:=U1 hz
 have hb:=pP t
 obtain ⟨n,hn⟩: ∃n:Nat,bl t=(n:Int):=⟨(bl t).toNat,by omega⟩
 have hn1:(bl t).toNat=n:=by omega
 have EL:n≠0:=by omega
 have MA:n<=1000:=by omega
 have kY:fr<n:=by omega
 unfold JT
 rw[hn1]
 have aX:Wf (ai s (.cells t.cells 0)):=aQ hw
 have g1:=Grew.ai hw (.cells t.cells 0)
 have sz:=Jz hc t (ai s (.cells t.cells 0)) aX
 rw[hn] at sz
 have mk:=fun (K:AV->St->Option (AV×St))=>aiP c K (ai s (.cells t.cells 0)) (es:=1) (bytes:=8) (z:=[.int .i64 0]) (k:= .i64) (k':= .i64) (n:=n) (by omega) (by omega)
 rw[Ln] at mk
 have eP:Wf (ai (ai s (.cells t.cells 0)) (.cells (List.replicate n (.int .i64 0)) 0)):=aQ aX
 have g2:=g1.trans (Grew.ai aX (.cells (List.replicate n (.int .i64 0)) 0))
 generalize CU:ai (ai s (.cells t.cells 0)) (.cells (List.replicate n (.int .i64 0)) 0)=s2 at mk eP g2
 have pt2:s2.heap.get s.next=some (.cells t.cells 0):=by rw[<-CU];exact (Grew.ai aX _).get (aH _ _)
 have po2:s2.heap.get (ai s (.cells t.cells 0)).next=some (.cells ((xR n 0).map cI) 0):=by rw[<-CU,aH];simp[xR]
 have RB:s.next≠(ai s (.cells t.cells 0)).next:=by rw[bG];exact Pos.QD _
 have OZ:s.next.toNat<=(ai s (.cells t.cells 0)).next.toNat:=by rw[bG,Pos.ax];omega
 generalize (ai s (.cells t.cells 0)).next=po at mk po2 RB OZ
 let k2:List AV->St->Option (AV×St):=fun vs rY=>cQ vs fun x1 vs=>cQ vs fun x2 vs=>cQ vs fun x5 vs=>eT vs (
  aj c .move [x5] rY fun x23 E7=>
  aj c .move [x1] E7 fun x24 E8=>
  aj c (.idxA 1 none) [x23,x24] E8 fun x25 s21=>
  aj c (.store 1) [x25,(.int .i64 0)] s21 fun _ s22=>
  aj c .move [x1] s22 fun x26 s23=>
  aj c (.buildSlice 1 1 [(.int .i64 0)] [0]) [x26] s23 fun x27 s24=>
  aj c .move [x27] s24 fun x7 s25=>
  kV c 4000 (fun vs s72=>cQ vs fun x5 vs=>eT vs (
     aj c .move [x5] s72 fun x64 s73=>
     aj c .move [x64] s73 fun x4 s74=>
     some (x4,s74))) 4000 [x2,x5,x7] s25)
 obtain ⟨s3,a1,a2,a3,a4⟩:=afB (c:=c) (s0:=s) (t:=t) MA RB OZ hw (.int .i64 (fr:Int)) 4000 k2 n 0 4000 s2 (by omega) (by omega) g2 pt2 po2
 have em:xR n n=List.replicate n (-1):=by simp[xR]
 rw[em] at a3
 have hl:(List.replicate n (-1:Int)).length=n:=by simp
 have aP:=a1.wf _ _ a3
 have ix: ∀(K:AV->St->Option (AV×St)) (s1:St),aj c (.idxA 1 none) [.slice po 0 n (some n) 1,.int .i64 (fr:Int)] s1 K=K (.ptr po fr) s1:=fun K s1=>by rw[mH c K s1 kY];simp
 have lf: ∀(K:AV->St->Option (AV×St)),aj c (.store 1) [.ptr po fr,.int .i64 0] s3 K=K .undef (bt s3 po (.cells (((List.replicate n (-1:Int)).set fr 0).map cI) 0)):=fun K=>by
  rw[cu c K s3 1 po fr (.int .i64 0) _ a3 rfl (by simp;omega) rfl, <-Ed _ _ (by omega)];rfl
 have g4:Grew s (bt s3 po (.cells (((List.replicate n (-1:Int)).set fr 0).map cI) 0)):=⟨ij a1.wf aP,fun p b hp=>by
  have:=hw _ _ hp
  rw[aF (fun e=>by rw[e] at OZ;omega)];exact a1.get hp,by rw[cg];exact a1.next⟩
 have pt4:(bt s3 po (.cells (((List.replicate n (-1:Int)).set fr 0).map cI) 0)).heap.get s.next=some (.cells t.cells 0):=by rw[aF (fun e=>RB e.symm)];exact a2
 have po4:(bt s3 po (.cells (((List.replicate n (-1:Int)).set fr 0).map cI) 0)).heap.get po=some (.cells (((List.replicate n (-1:Int)).set fr 0).map cI) 0):=dM _ _ _
 generalize hs4:bt s3 po (.cells (((List.replicate n (-1:Int)).set fr 0).map cI) 0)=s4 at lf g4 pt4 po4
 have row:=fun (K:AV->St->Option (AV×St))=>Ju (c:=c) (es:=1) (z:=[.int .i64 0]) (x:= .int .i64 (fr:Int)) rfl rfl s4 K
 have g5:=g4.trans (Grew.ai g4.wf (.cells (AV.cells (.int .i64 (fr:Int))) 0))
 have ail:=Grew.ai g4.wf (.cells (AV.cells (.int .i64 (fr:Int))) 0)
 have n4:s.next.toNat<s4.next.toNat:=g4.wf _ _ pt4
 have n4o:po.toNat<s4.next.toNat:=g4.wf _ _ po4
 have I:SI s (ai s4 (.cells (AV.cells (.int .i64 (fr:Int))) 0)) s.next po t n ((List.replicate n (-1:Int)).set fr 0) (.slice s4.next 0 1 (some 1) 1) [fr] 0:=by
  refine ⟨hw,g5,ail.get pt4,ail.get po4,by simp,.inr (.inl ⟨s4.next,0,some 1,[.int .i64 (fr:Int)],rfl,aH _ _,by simp,by simp,.inr rfl⟩),fun e=> ?_,fun e=> ?_,RB,Nat.le_refl _,OZ,fun b e=> ?_,fun v hv=> ?_,fun m hm=> ?_⟩
  .  have:=congrArg Pos.toNat (om e);omega
  .  have:=congrArg Pos.toNat (om e);omega
  .  have:=congrArg Pos.toNat (om e);omega
  .  rcases List.mem_or_eq_of_mem_set hv with h|h
     . rw[(List.mem_replicate.1 h).2];omega
     . subst h;omega
  .  simp at hm;omega
 have ad4:neg ((List.replicate n (-1:Int)).set fr 0)<=n:=by
  unfold neg
  refine Nat.le_trans List.countP_le_length ?_
  simp
 obtain ⟨s6,b1,b2,b3,b4⟩:=ahz hc ht MA 4000 (by omega) (fun vs s72=>cQ vs fun x5 vs=>eT vs (aj c .move [x5] s72 fun x64 s73=>aj c .move [x64] s73 fun x4 s74=>some (x4,s74))) (2*n+1) 4000 _ _ _ [fr] 0 (by omega) I (by simp;omega) (by omega) (by omega) (by omega) (fun m hm=>by
  simp at hm;subst hm
  simp[List.getD,kY])
 refine ⟨po,s6,?_,b1,b2,OZ,b3⟩
 have np: ¬Plain (.slice po 0 n (some n) 1):=Ff EL
 rw[Wz hc 4000 (r:=(.slice po 0 n (some n) 1,s6)),aa6 np]
 rw[aa7]
 have L:nX c 4000 k2 4000 [.int .i64 (fr:Int),.ptr s.next 0,.slice po 0 n (some n) 1,.int .i64 (n:Int),.int .i64 0] s2=some (.slice po 0 n (some n) 1,s6):=by
  rw[show (0:Int)=((0:Nat):Int) from rfl,a4]
  simp only[k2]
  simp at b4
  simp[-cB,ix,lf,row,b4]
 simp only[k2] at L
 simp[-cB,az.len,sz,mk,Bm]
 simp[-cB] at L
 exact L
end
section
set_option maxRecDepth 100000
open Go Go.Ai Go.Proofs
variable {c : ak}
def Fg (t:az):Int:=if t.sh=1 then 0 else if t.sh=2 then (if 0<t.b then t.a else t.a.tdiv 2) else if t.sh=3 then t.b+t.a.tdiv 2 else t.a.tdiv 2
theorem aja {t:az} (h:bl t≠0):0<=Fg t/\Fg t<bl t:=by
 have f:=U1 h
 unfold Fg
 rw[Int.tdiv_eq_ediv_of_nonneg f.a.1]
 revert h
 unfold bl
 intro h
 split
 . rename_i h1;rw[if_pos h1] at h;split at h
   . rename_i h2;rw[if_pos h2];omega
   . exact absurd rfl h
 rename_i h1
 rw[if_neg h1] at h
 split
 . rename_i h2;rw[if_pos h2] at h;split at h
   . rename_i h3;rw[if_pos h3];split<;>omega
   . exact absurd rfl h
 rename_i h2
 rw[if_neg h2] at h
 split
 . rename_i h3;rw[if_pos h3] at h;split at h
   . rename_i h4;rw[if_pos h4];omega
   . exact absurd rfl h
 rename_i h3
 rw[if_neg h3] at h
 split at h
 . rename_i h4;rw[if_pos h4];split at h
   . rename_i h5;rw[if_pos h5];omega
   . exact absurd rfl h
 . exact absurd rfl h
theorem ajb (hc:Sem c) (a b:Int) (st:St):c 286 [.int .i64 a,.int .i64 b] st=some (.int .i64 0,st):=by
 rw[NH hc 1 (r:=(.int .i64 0,st)),au (Plain.int _ _) (aM.refl st)]
 rw[Rn];simp
theorem ajc (hc:Sem c) (a b:Int) (ha:Sm a) (st:St):c 291 [.int .i64 a,.int .i64 b] st=some (.int .i64 (if 0<b then a else a.tdiv 2),st):=by
 have hq:0<=a.tdiv 2/\a.tdiv 2<=1000000:=by rw[Int.tdiv_eq_ediv_of_nonneg ha.1];omega
 have w2:ay .i64 (a.tdiv 2)=a.tdiv 2:=wrap64 (by omega) (by omega)
 rw[NI hc 1 (r:=(.int .i64 (if 0<b then a else a.tdiv 2),st)),au (Plain.int _ _) (aM.refl st)]
 rw[Ro]
 by_cases h:0<b<;>simp[h,w2]
theorem ajd (hc:Sem c) (a b:Int) (ha:Sm a) (hb:Sm b) (st:St):c 296 [.int .i64 a,.int .i64 b] st=some (.int .i64 (b+a.tdiv 2),st):=by
 have hq:0<=a.tdiv 2/\a.tdiv 2<=1000000:=by rw[Int.tdiv_eq_ediv_of_nonneg ha.1];omega
 have w2:ay .i64 (a.tdiv 2)=a.tdiv 2:=wrap64 (by omega) (by omega)
 have w3:ay .i64 (b+a.tdiv 2)=b+a.tdiv 2:=wrap64 (by omega) (by omega)
 rw[NJ hc 1 (r:=(.int .i64 (b+a.tdiv 2),st)),au (Plain.int _ _) (aM.refl st)]
 rw[Rp];simp[w2,w3]
theorem aje (hc:Sem c) (a b:Int) (ha:Sm a) (st:St):c 301 [.int .i64 a,.int .i64 b] st=some (.int .i64 (a.tdiv 2),st):=by
 have hq:0<=a.tdiv 2/\a.tdiv 2<=1000000:=by rw[Int.tdiv_eq_ediv_of_nonneg ha.1];omega
 have w2:ay .i64 (a.tdiv 2)=a.tdiv 2:=wrap64 (by omega) (by omega)
 rw[NK hc 1 (r:=(.int .i64 (a.tdiv 2),st)),au (Plain.int _ _) (aM.refl st)]
 rw[Rq];simp[w2]
def JU (n:Nat) (d:Int):Int:=if d<0 then (n:Int) else d
def Fh (t:az):List Int:=(JT t (Fg t).toNat).map (JU (bl t).toNat)
theorem ahB {s0:St} {po:Pos} {n:Nat} (hn:n<=1000) (OZ:s0.next.toNat<=po.toNat) (BX:Wf s0) (o:List Int) (ho0:o.length=n) (F:Nat) (k2): ∀(m k f:Nat) (s:St),m<f->k+m=n->Grew s0 s->s.heap.get po=some (.cells (((o.take k).map (JU n)++o.drop k).map cI) 0)->
  ∃ s',Grew s0 s'/\s'.heap.get po=some (.cells ((o.map (JU n)).map cI) 0)/\
    pT c F k2 f [.slice po 0 n (some n) 1,.slice po 0 n (some n) 1,.int .i64 (n:Int),.int .i64 (k:Int)] s=k2 [.slice po 0 n (some n) 1] s':=by
 intro m
 induction m with
 |zero=>
  intro k f s hf h1 hg ho
  obtain ⟨f,rfl⟩: ∃g,f=g+1:=⟨f - 1,by omega⟩
  obtain rfl:k=n:=by omega
  refine ⟨s,hg,?_,?_⟩
  . rw[ho,List.take_of_length_le (by omega),List.drop_of_length_le (by omega),List.append_nil]
  . rw[xS]
    simp
 |succ m ih=>
  intro k f s hf h1 hg ho
  obtain ⟨f,rfl⟩: ∃g,f=g+1:=⟨f - 1,by omega⟩
  have hk:k<n:=by omega
  have MF:k<o.length:=by omega
  have w:ay .i64 ((k:Int)+1)=((k+1:Nat):Int):=wrap64 (by omega) (by omega)
  have ix: ∀(K:AV->St->Option (AV×St)) (s1:St),aj c (.idxA 1 none) [.slice po 0 n (some n) 1,.int .i64 (k:Int)] s1 K=K (.ptr po k) s1:=fun K s1=>by rw[mH c K s1 hk];simp
  have lo: ∀(K:AV->St->Option (AV×St)) (s1:St),aj c (.lenB .l) [.slice po 0 n (some n) 1] s1 K=K (.int .i64 (n:Int)) s1:=fun K s1=>Bm c K s1 _ _ _ _ _
  generalize hL:(o.take k).map (JU n)++o.drop k=L at ho
  have hLl:L.length=n:=by rw[<-hL];simp;omega
  have hLk:L[k]? =some o[k]:=by
    rw[<-hL,List.getElem?_append_right (by simp;omega)]
    simp only[List.length_map,List.length_take,Nat.min_eq_left (Nat.le_of_lt MF),Nat.sub_self]
    rw[List.getElem?_drop,Nat.add_zero,List.getElem?_eq_getElem MF]
  have gk:(L.map cI)[k]? =some (.int .i64 o[k]):=by rw[List.getElem?_map,hLk];rfl
  have eL:L.set k (JU n o[k])=(o.take (k+1)).map (JU n)++o.drop (k+1):=by
    rw[<-hL,List.set_append_right _ _ (by simp;omega)]
    simp only[List.length_map,List.length_take,Nat.min_eq_left (Nat.le_of_lt MF),Nat.sub_self]
    rw[List.drop_eq_getElem_cons MF,List.set_cons_zero,List.take_succ_eq_append_getElem MF,List.map_append,List.append_assoc]
    rfl
  have aP:=hg.wf _ _ ho
  by_cases hd:o[k]<0
  . have el:JU n o[k]=(n:Int):=by unfold JU;rw[if_pos hd]
    rw[el] at eL
    have lf: ∀(K:AV->St->Option (AV×St)),aj c (.store 1) [.ptr po k,.int .i64 (n:Int)] s K=K .undef (bt s po (.cells (((o.take (k+1)).map (JU n)++o.drop (k+1)).map cI) 0)):=fun K=>by
        rw[cu c K s 1 po k (.int .i64 (n:Int)) _ ho rfl (by simp[hLl];omega) rfl, <-eL, <-Ed _ _ (by omega)];rfl
    have g1:Grew s0 (bt s po (.cells (((o.take (k+1)).map (JU n)++o.drop (k+1)).map cI) 0)):=⟨ij hg.wf aP,fun p b hp=>by
        have:=BX _ _ hp
        rw[aF (fun e=>by rw[e] at OZ;omega)];exact hg.get hp,by rw[cg];exact hg.next⟩
    obtain ⟨s',a1,a2,a3⟩:=ih (k+1) f _ (by omega) (by omega) g1 (dM _ _ _)
    refine ⟨s',a1,a2,?_⟩
    rw[<-a3,xS]
    simp[-List.map_append,-List.map_take,-List.map_drop,-List.map_map,cm,hk,ix,lo,ho,gk,hd,lf,w]
  . have el:JU n o[k]=o[k]:=by unfold JU;rw[if_neg hd]
    rw[el] at eL
    have e2:L.set k o[k]=L:=by
        refine List.ext_getElem? fun i=> ?_
        rw[List.getElem?_set]
        split
        . rename_i e;subst e;rw[if_pos (by omega),hLk]
        . rfl
    rw[e2] at eL
    obtain ⟨s',a1,a2,a3⟩:=ih (k+1) f s (by omega) (by omega) hg (by rw[<-eL];exact ho)
    refine ⟨s',a1,a2,?_⟩
    rw[<-a3,xS]
    simp[cm,hk,ix,ho,gk,hd,w]
theorem Tu (sh:Int):(fk sh).length=6:=by
 unfold fk
 repeat' split
 all_goals rfl
theorem ahC (sh:Int):aK (fk sh)=true:=by
 unfold fk
 repeat' split
 all_goals rfl
theorem aj6 (hc:Sem c) (t:az) (ht:t.Fit): ∃f:FuncId,(fk t.sh)[4]? =some (.func f [] [])/\ ∀st,c f [.int .i64 t.a,.int .i64 t.b] st=some (.int .i64 (Fg t),st):=by
 have hS:t.sh=1\/t.sh=2\/t.sh=3\/t.sh=4:=by have:=ht.sh;omega
 have ha:Sm t.a:=by have:=ht.a;omega
 have hb:Sm t.b:=by have:=ht.b;omega
 rcases hS with h|h|h|h
 . exact ⟨286,by rw[h];rfl,fun st=>by rw[ajb hc];simp[Fg,h]⟩
 . exact ⟨291,by rw[h];rfl,fun st=>by rw[ajc hc _ _ ha];simp[Fg,h]⟩
 . exact ⟨296,by rw[h];rfl,fun st=>by rw[ajd hc _ _ ha hb];simp[Fg,h]⟩
 . exact ⟨301,by rw[h];rfl,fun st=>by rw[aje hc _ _ ha];simp[Fg,h]⟩
theorem afC (hc:Sem c) (t:az) (hz:bl t≠0) (s:St) (hw:Wf s):
  ∃b s',c 164 [.agg t.cells] s=some (.slice b 0 (bl t).toNat (some (bl t).toNat) 1,s')/\Grew s s'/\s'.heap.get b=some (.cells ((Fh t).map cI) 0)/\s.next.toNat<=b.toNat/\(Fh t).length=(bl t).toNat:=by
 have ht:=U1 hz
 have hb:=pP t
 have hh:=aja hz
 have aX:Wf (ai s (.cells t.cells 0)):=aQ hw
 have eP:Wf (ai (ai s (.cells t.cells 0)) (.cells (fk t.sh) 0)):=aQ aX
 have g2:=(Grew.ai hw (.cells t.cells 0)).trans (Grew.ai aX (.cells (fk t.sh) 0))
 have gT:(ai (ai s (.cells t.cells 0)) (.cells (fk t.sh) 0)).heap.get s.next=some (.cells t.cells 0):=(Grew.ai aX _).get (aH _ _)
 obtain ⟨fr,GF⟩: ∃n:Nat,Fg t=(n:Int):=⟨(Fg t).toNat,by omega⟩
 obtain ⟨b,s1,S1,S2,S3,S4,S5⟩:=ahA hc t hz fr (by omega) _ eP
 have kz:s.next.toNat<=b.toNat:=Nat.le_trans g2.next S4
 have g1:=g2.trans S2
 have e1:Fh t=(JT t fr).map (JU (bl t).toNat):=by unfold Fh;rw[GF];rfl
 have vr:(Fh t).length=(bl t).toNat:=by rw[e1];simpa using S5
 obtain ⟨s2,a1,a2,a3⟩:=ahB (c:=c) (s0:=s) (po:=b) (n:=(bl t).toNat) (by omega) kz hw (JT t fr) S5 4000 (fun vs UO=>cQ vs fun x5 vs=>eT vs (
  aj c .move [x5] UO fun x38 UP=>aj c .move [x38] UP fun x2 s36=>some (x2,s36))) (bl t).toNat 0 4000 s1 (by omega) (by omega) g1 (by simpa using S3)
 rw[<-e1] at a2
 refine ⟨b,s2,?_,a1,a2,kz,vr⟩
 have np: ¬Plain (.slice b 0 (bl t).toNat (some (bl t).toNat) 1):=Ff (by omega)
 rw[U7 hc 4000 (r:=(.slice b 0 (bl t).toNat (some (bl t).toNat) 1,s2)),aa6 np]
 rw[YC]
 have hlay:=dZ hc t.sh (ai s (.cells t.cells 0)) aX
 rw[<-GF] at S1
 have rd:=fun (K:AV->Option (AV×St))=>aab K (m:=7) (p:=s.next) (o:=0) (l:=t.cells) (h:=(ai (ai s (.cells t.cells 0)) (.cells (fk t.sh) 0)).heap) (h2:=(ai (ai s (.cells t.cells 0)) (.cells (fk t.sh) 0)).heap) (by rw[gT];rfl) (by rw[gT];rfl) (Mw fun v hv=>by
  simp only[az.cells,List.mem_cons,List.not_mem_nil,or_false] at hv
  rcases hv with rfl|rfl|rfl|rfl|rfl|rfl|rfl<;>first|exact cC.str _|exact cC.int _ _|exact zG _ _)
 simp at a3
 have lo: ∀(K:AV->St->Option (AV×St)) (s1:St),aj c (.lenB .l) [.slice b 0 (bl t).toNat (some (bl t).toNat) 1] s1 K=K (.int .i64 ((bl t).toNat:Int)) s1:=fun K s1=>Bm c K s1 _ _ _ _ _
 obtain ⟨hf,yV,wm⟩:=aj6 hc t ht
 have hf3:(fk t.sh)[4]'(by rw[Tu];omega)= .func hf [] []:=by rw[List.getElem?_eq_getElem (by rw[Tu];omega)] at yV;exact Option.some.inj yV
 have c1:t.cells[1]? =some (.int .u8 t.sh):=rfl
 have c2:t.cells[2]? =some (.int .i64 t.a):=rfl
 have c3:t.cells[3]? =some (.int .i64 t.b):=rfl
 simp[hlay,c1,c2,c3,AV.cells,Tu,ahC,gT,yV,hf3,wm,S1,rd,lo,a3]
theorem afD {t:az} {k:Nat} (h:k<(Fh t).length):((Fh t).map cI)[k]? =some (.int .i64 (Fh t)[k]):=by rw[List.getElem?_map,List.getElem?_eq_getElem h];rfl
def O8 (ts:List az) (a:Int):Int:=match AQ ts a with|some (i,x)=>(Fh (ts[i]?.getD zT)).getD x.toNat 0|none=>0
theorem ahD (hc:Sem c) (z:Bool) (ts:List az) (bu: ∀t∈ts,t.Ok) (a:Int) (ha:a<=4611686018427387904) (st:St) (hw:Wf st):
  c 72 [tabs z ts,.int .i64 a] st=some (.int .i64 (O8 ts a),st):=by
 have W:=LS hc z ts bu a ha st hw
 cases h:AQ ts a with
 |none=>
  rw[JV hc 1 (r:=(.int .i64 (O8 ts a),st)),au (Plain.int _ _) (aM.refl st)]
  rw[O9]
  unfold O8
  rw[h] at W ⊢; simp[W,AP]
 |some p=>
  obtain ⟨i,x⟩:=p
  obtain ⟨hv,p1,t1,p2,p3,p4⟩:=Fb h
  have hz:=afw (XI hv p2)
  obtain ⟨hi,hg⟩:=List.getElem?_eq_some_iff.1 p2
  obtain ⟨b,s',L1,L2,L3,L4,L5⟩:=afC hc t1 hz st hw
  have hx:x.toNat<(Fh t1).length:=by omega
  have e:O8 ts a=(Fh t1)[x.toNat]:=by
   unfold O8;rw[h];simp only;rw[p2];simp[List.getD,List.getElem?_eq_getElem hx]
  obtain ⟨k,hk⟩: ∃k:Nat,x=(k:Int):=⟨x.toNat,by omega⟩
  subst hk
  simp only[Int.toNat_natCast] at hx e
  have ix: ∀(K:AV->St->Option (AV×St)) (s1:St),aj c (.idxA 1 none) [.slice b 0 (bl t1).toNat (some (bl t1).toNat) 1,.int .i64 (k:Int)] s1 K=K (.ptr b k) s1:=fun K s1=>by rw[mH c K s1 (by omega)];simp
  have gk:=afD hx
  rw[JV hc 1 (r:=(.int .i64 (O8 ts a),s')),au (Plain.int _ _) L2.keeps]
  rw[O9,e]
  rw[h] at W
  subst hg
  unfold tabs at W ⊢
  simp[W,AP,hi,az.len,L1,ix,L3,gk]
end
section
set_option maxRecDepth 100000
open Go Go.Ai Go.Proofs
variable {c : ak}
def iZ (first:Int) (n:Nat) (so:Int->Bool):List Int:=((List.range n).map fun (i:Nat)=>first+(i:Int)).filter so
theorem Se (first:Int) (n:Nat) (so:Int->Bool):iZ first (n+1) so=iZ first n so++if so (first+(n:Int))=true then [first+(n:Int)] else []:=by
 unfold iZ
 rw[List.range_succ,List.map_append,List.filter_append]
 congr 1
 simp only[List.map_cons,List.map_nil,List.filter_cons,List.filter_nil]
theorem U8 (first:Int) (n:Nat) (so:Int->Bool):(iZ first n so).length<=n:=by
 unfold iZ;exact Nat.le_trans (List.length_filter_le _ _) (by simp)
theorem aen {first:Int} (Zm:0<=first/\first<=1000000) {n:Nat} (hn:n<=1000000) {g:FuncId} {x y:List AV} {so:Int->Bool} {s0:St}
  (H: ∀(k:Int) (s:St),Grew s0 s->first<=k->k<first+(n:Int)->c g (x++([.int .i64 k]++y)) s=some (.bool (so k),s)) (F:Nat) (k2):
  ∀(m i f:Nat) (s:St) (v:AV),m<f->i+m=n->Mk 1 s0 s v ((iZ first i so).map eO)->
   ∃s' v',Mk 1 s0 s' v' ((iZ first n so).map eO)/\rZ c F k2 f [.int .i64 first,.int .i64 (n:Int),.func g x y,v,.int .i64 (first+(i:Int))] s=k2 [v'] s':=by
 have w0:ay .i64 (first+(n:Int))=first+(n:Int):=wrap64 (by omega) (by omega)
 intro m
 induction m with
 |zero=>
  intro i f s v hf h1 hM
  obtain ⟨f,rfl⟩: ∃g,f=g+1:=⟨f - 1,by omega⟩
  obtain rfl:i=n:=by omega
  refine ⟨s,v,hM,?_⟩
  rw[zK]
  simp[w0]
 |succ m ih=>
  intro i f s v hf h1 hM
  obtain ⟨f,rfl⟩: ∃g,f=g+1:=⟨f - 1,by omega⟩
  have hi:i<n:=by omega
  have aP:first+(i:Int)<first+(n:Int):=by omega
  have w:ay .i64 (first+(i:Int)+1)=first+((i+1:Nat):Int):=by rw[wrap64 (by omega) (by omega)];omega
  have A:=H (first+(i:Int)) s hM.aB (by omega) aP
  simp only[List.singleton_append] at A
  have hlen:=U8 first i so
  cases hs:so (first+(i:Int)) with
  |true=>
   obtain ⟨s5,v5,a1,a2,a3,_⟩:=hM.push (c:=c) (R:=AV×St) (bytes:=8) (z:=[.int .i64 0]) (x:= .int .i64 (first+(i:Int))) rfl rfl rfl (by decide) (by simp;omega) (by simp;omega)
   have e:(iZ first (i+1) so).map eO=(iZ first i so).map eO++[AV.cells (.int .i64 (first+(i:Int)))]:=by rw[Se,if_pos hs,List.map_append];rfl
   rw[<-e] at a2
   obtain ⟨s',v',b1,b2⟩:=ih (i+1) f s5 v5 (by omega) (by omega) a2
   refine ⟨s',v',b1,?_⟩
   rw[<-b2,zK]
   rw[hs] at A
   simp[-cB,cm,w0,aP,A,a1,w]
  |false=>
   have e:(iZ first (i+1) so).map eO=(iZ first i so).map eO:=by rw[Se,if_neg (by rw[hs];simp),List.append_nil]
   rw[<-e] at hM
   obtain ⟨s',v',b1,b2⟩:=ih (i+1) f s v (by omega) (by omega) hM
   refine ⟨s',v',b1,?_⟩
   rw[<-b2,zK]
   rw[hs] at A
   simp[cm,w0,aP,A,w]
theorem aa8 (hc:Sem c) {first:Int} (Zm:0<=first/\first<=1000000) {n:Nat} (hn:n<=1000000) {g:FuncId} {x y:List AV} {so:Int->Bool} {s:St} (hw:Wf s)
  (H: ∀(k:Int) (t:St),Grew s t->first<=k->k<first+(n:Int)->c g (x++([.int .i64 k]++y)) t=some (.bool (so k),t)):
  ∃v s',c 74 [.int .i64 first,.int .i64 (n:Int),.func g x y] s=some (v,s')/\Mk 1 s s' v ((iZ first n so).map eO):=by
 obtain ⟨s',v,hM,L⟩:=aen Zm hn H (n+1) (fun vs s22=>cQ vs fun x7 vs=>eT vs (aj c .move [x7] s22 fun x24 s23=>aj c .move [x24] s23 fun x6 s24=>some (x6,s24))) n 0 (n+1) s .ah (by omega) (by omega) (Mk.start hw (Grew.refl hw))
 obtain ⟨dK,t1,t2⟩:=hM.tidy
 refine ⟨v,dK,?_,t2⟩
 rw[WA hc (n+1) (r:=(v,s')),t1]
 rw[aa9]
 simp at L
 simp[L]
end
end Go.Proofs.YthiaklapeamjlaaGreatDoor
