/- Words and the head of rule.body. -/
import Derived.Test.YtehbdakjkjkekaaGreatDoorSWalkA
import Derived.Laws.EntriesVeiled
import Derived.WideLaws
set_option linter.all false
set_option linter.unusedSectionVars false
set_option linter.deprecated false
section
namespace Go.Proofs
open Go.RowKit Go.ag
structure ag.RR where
 k:Nat
 wt:Int
 a:ByteArray
 b:ByteArray
 t:ByteArray
 n:Int
def ag.RR.val (r:ag.RR):Value:= .agg #[.int .u8 r.k,.int .i64 r.wt,.string r.a,.string r.b,.string r.t,.int .i64 r.n]
def ag.bE:Value:= .agg #[.int .u8 0,.int .i64 0,.string ⟨#[]⟩,.string ⟨#[]⟩,.string ⟨#[]⟩,.int .i64 0]
def ag.valOf:Int ⊕ ag.RR->Value
 | .inl e=> .tuple #[ag.bE,.int .i64 e]
 | .inr r=> .tuple #[r.val,.int .i64 0]
def ag.bB (K:Nat) (a:Int) (b:Bool) (t:Int) (n:Bool) (u:Nat->ByteArray) (len:Nat) (wt:Int):Int ⊕ ag.RR:=
 let m:=(if a=0 then 0 else 1)+(if b then 1 else 0)+(if t=0 then 0 else 1)+(if n then 1 else 0)
 let it:=1+(if a=0 then 0 else 1)+(if b then 1 else 0)
 if K=0 then .inl 3
 else if len≠m+1 then .inl 3
 else if n=true/\jt (u m).data.toList=false then .inl 3
 else if wt<0\/1000<wt then .inl 41
 else if (a=0\/iG (u 1) (a==101)=true)/\(b=false\/iG (u 2) false=true)/\(t=0\/iG (u it) (t==101)=true) then
    .inr ⟨K,wt,if a=0 then ⟨#[]⟩ else oI (u 1) (a==101),if b then oI (u 2) false else ⟨#[]⟩,if t=0 then ⟨#[]⟩ else oI (u it) (t==101),if n then sx (u m).data.toList else 0⟩
 else .inl 4
def ag.qc (u:Nat->ByteArray) (len:Nat) (wt:Int):Int ⊕ ag.RR:=
 ag.bB (kindOf (u 0).data.toList) (mZ (kindOf (u 0).data.toList)) (nc (kindOf (u 0).data.toList)) (ng (kindOf (u 0).data.toList)) (nh (kindOf (u 0).data.toList)) u len wt
def ag.vp (u:Nat->ByteArray) (len:Nat) (wt:Int) (w:World) (e:Ending) (w':World):Prop:=e= .returned (ag.valOf (ag.qc u len wt))/\Below w.heap.size w w'
theorem ag.aK {u:Nat->ByteArray} {len:Nat} {wt:Int} {w w':World} {v:Value} {K:Nat} {a t:Int} {b n:Bool} (hK:K=kindOf (u 0).data.toList) (ha:mZ K=a) (hb:nc K=b) (ht:ng K=t) (hn:nh K=n)
  (hv:v=ag.valOf (ag.bB K a b t n u len wt)) (h:Below w.heap.size w w'):ag.vp u len wt w (.returned v) w':=by
 refine ⟨?_,h⟩
 rw[hv,ag.qc, <-hK,ha,hb,ht,hn]
theorem ag.shape: ∀K,K<=18->
   (K=0/\mZ K=0/\nc K=false/\ng K=0/\nh K=false)\/(K≠0/\mZ K=103/\nc K=true/\ng K=0/\nh K=true)\/(K≠0/\mZ K=103/\nc K=true/\ng K=0/\nh K=false)\/
   (K≠0/\mZ K=103/\nc K=false/\ng K=116/\nh K=false)\/(K≠0/\mZ K=103/\nc K=false/\ng K=116/\nh K=true)\/(K≠0/\mZ K=0/\nc K=false/\ng K=101/\nh K=false)\/
   (K≠0/\mZ K=101/\nc K=false/\ng K=0/\nh K=false)\/(K≠0/\mZ K=0/\nc K=false/\ng K=101/\nh K=true)\/(K≠0/\mZ K=100/\nc K=false/\ng K=116/\nh K=false):=by
 have h1: ∀K,K<19->K≠0->(mZ K,nc K,ng K,nh K)∈([(103,true,0,true),(103,true,0,false),(103,false,116,false),(103,false,116,true),(0,false,101,false),(101,false,0,false),(0,false,101,true),(100,false,116,false)]:List (Int×Bool×Int×Bool)):=by
   intro K
   match K with
   |0=>intro _ h;exact absurd rfl h
   |1=>intro _ _;decide
   |2=>intro _ _;decide
   |3=>intro _ _;decide
   |4=>intro _ _;decide
   |5=>intro _ _;decide
   |6=>intro _ _;decide
   |7=>intro _ _;decide
   |8=>intro _ _;decide
   |9=>intro _ _;decide
   |10=>intro _ _;decide
   |11=>intro _ _;decide
   |12=>intro _ _;decide
   |13=>intro _ _;decide
   |14=>intro _ _;decide
   |15=>intro _ _;decide
   |16=>intro _ _;decide
   |17=>intro _ _;decide
   |18=>intro _ _;decide
   |n+19=>intro h;omega
 intro K h
 by_cases h0:K=0
 . subst h0;exact .inl ⟨rfl,by decide,by decide,by decide,by decide⟩
 . have:=h1 K (by omega) h0
   simp only[List.mem_cons,Prod.mk.injEq,List.not_mem_nil,or_false] at this
   right
   rcases this with h|h|h|h|h|h|h|h
   . exact .inl ⟨h0,h⟩
   . exact .inr (.inl ⟨h0,h⟩)
   . exact .inr (.inr (.inl ⟨h0,h⟩))
   . exact .inr (.inr (.inr (.inl ⟨h0,h⟩)))
   . exact .inr (.inr (.inr (.inr (.inl ⟨h0,h⟩))))
   . exact .inr (.inr (.inr (.inr (.inr (.inl ⟨h0,h⟩)))))
   . exact .inr (.inr (.inr (.inr (.inr (.inr (.inl ⟨h0,h⟩))))))
   . exact .inr (.inr (.inr (.inr (.inr (.inr (.inr ⟨h0,h⟩))))))
theorem ag.vY: ∀K,K<=18->K≠0->vB K≠[]:=by
 have: ∀K,K<19->K≠0->vB K≠[]:=by decide
 intro K h;exact this K (by omega)
def ag.iB (K:Nat) (seen:Array Nat):Nat:=if K≠0/\seen.contains (K - 1)=true then K else 0
def ag.wG (w:World) (K:Nat) (wt:Int) (sl:Value) (b r:Nat) (wr:World):Prop:=
 ∃  (seen:Array Nat) (c0:Nat),wr.heap[b]? =some (.map bD 18)/\wr.heap[r]? =some (.mapIter (some b) 18 seen c0)/\18<=c0/\Below w.heap.size w wr/\r<wr.heap.size/\
    Is wr w.heap.size 46 #[.int .u8 (ag.iB K seen),.int .i64 wt,.string ⟨#[]⟩,.string ⟨#[]⟩,.string ⟨#[]⟩,.int .i64 0]/\Is wr (w.heap.size+1) 48 #[sl]/\
    Is wr (w.heap.size+1+1) 46 #[.int .u8 0,.int .i64 0,.string ⟨#[]⟩,.string ⟨#[]⟩,.string ⟨#[]⟩,.int .i64 0]/\
    Is wr (w.heap.size+1+1+1) 85 #[.string (cF (ag.iB K seen)),.int .u8 (mZ (ag.iB K seen)),.bool (nc (ag.iB K seen)),.int .u8 (ng (ag.iB K seen)),.bool (nh (ag.iB K seen)),.int .i64 (xO (ag.iB K seen)),.bool (IW (ag.iB K seen)),Bc (ag.iB K seen)]
theorem ag.ur: ∀x∈bD.toList,x.born<18:=by
 intro x hx
 simp only[bD,List.mem_map,List.mem_range] at hx
 obtain ⟨i,hi,rfl⟩:=hx
 exact hi
theorem ag.qT:(bD.toList.map (·.born)).Nodup:=by
 have:bD.toList.map (·.born)=List.range 18:=by
  simp[bD,List.map_map]
  have:(MapEntry.born∘nD)=id:=by funext i;rfl
  rw[this,List.map_id]
 rw[this];exact List.nodup_range
theorem ag.qU {seen:Array Nat} {e:MapEntry} (h0:e∈leftOf bD seen): ∃i,i<18/\e=nD i/\seen.contains i=false:=by
 have h:e∈(leftOf bD seen).toList:=by simpa using h0
 simp only[leftOf,Array.toList_filter,List.mem_filter,bD,List.mem_map,List.mem_range] at h
 obtain ⟨⟨i,hi,rfl⟩,h2⟩:=h
 exact ⟨i,hi,rfl,by simpa [nD] using h2⟩
theorem ag.Y6 {seen:Array Nat} (h0:leftOf bD seen= #[]) (i:Nat) (hi:i<18):seen.contains i=true:=by
 cases hc:seen.contains i
 . exfalso
   have:nD i∈(leftOf bD seen).toList:=by
    simp only[leftOf,Array.toList_filter,List.mem_filter,bD,List.mem_map,List.mem_range]
    exact ⟨⟨i,hi,rfl⟩,by simpa [nD] using hc⟩
   rw[h0] at this;simp at this
 . rfl
theorem ag.oY {seen:Array Nat} (h0:leftOf bD seen= #[]) (K:Nat) (hK:K<=18):ag.iB K seen=K:=by
 unfold ag.iB
 by_cases h:K=0
 . simp[h]
 . rw[if_pos ⟨h,ag.Y6 h0 (K - 1) (by omega)⟩]
theorem ag.eL (K:Nat):ag.iB K #[]=0:=by unfold ag.iB;simp
theorem ag.ju {wt:Int} (h1: ¬wt<0) (h2: ¬1000<wt): ¬(wt<0\/1000<wt):=fun h=>h.elim h1 h2
theorem ag.ij (b:Bool):b=true\/b=false:=by cases b<;>simp
theorem ag.OW {K i:Nat} {seen:Array Nat} (h:K≠i+1):ag.iB K (seen.push i)=ag.iB K seen:=by
 unfold ag.iB
 by_cases hK:K=0
 . simp[hK]
 . have:(seen.push i).contains (K - 1)=seen.contains (K - 1):=by
    have:K - 1≠i:=by omega
    simp[this]
   rw[this]
theorem ag.S8 {K i:Nat} {seen:Array Nat} (h:K=i+1):ag.iB K (seen.push i)=K:=by
 unfold ag.iB
 rw[if_pos ⟨by omega,by subst h;simp⟩]
theorem ag.qV {c:Nat} {s:ByteArray} (h1:1<=c) (h2:c<=18) (h:((cF c).toList==s.toList)=true):kindOf s.data.toList=c:=by
 have:(cF c).toList=s.toList:=by simpa using h
 rw[Lib.toList_data,Lib.toList_data] at this
 rw[<-this]
 exact OO c h1 h2
theorem ag.o4 {c:Nat} {s:ByteArray} (h1:1<=c) (h:((cF c).toList==s.toList)=false):kindOf s.data.toList≠c:=by
 intro e
 have en:(cF c).toList≠s.toList:=by simpa using h
 rw[Lib.toList_data,Lib.toList_data] at en
 apply en
 show (vB c)=_
 rw[<-e]
 exact TV _ (by omega)
theorem ag.nE {B r:Nat} {w w2 wr:World} (h:Below B w wr) (ho:w2.os=wr.os/\w2.tape=wr.tape/\w2.output=wr.output/\w2.heap.size=wr.heap.size) (hk: ∀k,¬k=r->w2.heap[k]? =wr.heap[k]?) (hr:B<=r):Below B w w2:=
 h.trans ⟨ho.1,ho.2.1,ho.2.2.1,Nat.le_of_eq ho.2.2.2.symm,fun k hkB=>hk k (by omega)⟩
theorem ag.below_drewN {B:Nat} {a w:World} (h:Below B a w) (k:Nat):Below B a (w.drewN k):=h.trans ⟨rfl,rfl,rfl,Nat.le_refl _,fun _ _=>rfl⟩
theorem ag.cZ {w:World} {b r since c:Nat} {seen:Array Nat} (hb:w.heap[b]? =some (.map bD 18)) (hr:w.heap[r]? =some (.mapIter (some b) since seen c)):w.rangeLeft b r=(leftOf bD seen).size:=by
 simp only[World.rangeLeft,hb,hr]
theorem ag.gZ {w w2:World} {K i b r nq:Nat} {wt:Int} {sl:Value} {seen:Array Nat} {X:Obj} {c:Nat} (hK:K=c) (hc:c=i+1) (hb:w2.heap[b]? =some (.map bD 18)) (hr:w2.heap[r]? =some (.mapIter (some b) 18 (seen.push i) 18))
   (hB:Below w.heap.size w w2) (h1:w.heap.size+1+1+1+1<=b) (h2:b<r) (hl:r<w2.heap.size)
   (i1:Is w2 w.heap.size 46 #[.int .u8 (ag.iB K seen),.int .i64 wt,.string ⟨#[]⟩,.string ⟨#[]⟩,.string ⟨#[]⟩,.int .i64 0]) (i2:Is w2 (w.heap.size+1) 48 #[sl])
   (i3:Is w2 (w.heap.size+1+1) 46 #[.int .u8 0,.int .i64 0,.string ⟨#[]⟩,.string ⟨#[]⟩,.string ⟨#[]⟩,.int .i64 0])
   (i4:Is w2 (w.heap.size+1+1+1) 85 #[.string (cF (ag.iB K seen)),.int .u8 (mZ (ag.iB K seen)),.bool (nc (ag.iB K seen)),.int .u8 (ng (ag.iB K seen)),.bool (nh (ag.iB K seen)),.int .i64 (xO (ag.iB K seen)),.bool (IW (ag.iB K seen)),Bc (ag.iB K seen)]):
   ag.wG w K wt sl b r ((((((((((w2.alloc X).drewN nq).setCell ⟨w.heap.size,0,none⟩ (.int .u8 c)).setCell ⟨w.heap.size+1+1+1,0,none⟩ (.string (cF c))).setCell ⟨w.heap.size+1+1+1,1,none⟩ (.int .u8 (mZ c))).setCell ⟨w.heap.size+1+1+1,2,none⟩ (.bool (nc c))).setCell
    ⟨w.heap.size+1+1+1,3,none⟩ (.int .u8 (ng c))).setCell ⟨w.heap.size+1+1+1,4,none⟩ (.bool (nh c))).setCell ⟨w.heap.size+1+1+1,5,none⟩ (.int .i64 (xO c))).setCell ⟨w.heap.size+1+1+1,6,none⟩ (.bool (IW c)) |>.setCell ⟨w.heap.size+1+1+1,7,none⟩ (.func (.func (80+c)) #[] #[]))/\
   World.rangeLeft ((((((((((w2.alloc X).drewN nq).setCell ⟨w.heap.size,0,none⟩ (.int .u8 c)).setCell ⟨w.heap.size+1+1+1,0,none⟩ (.string (cF c))).setCell ⟨w.heap.size+1+1+1,1,none⟩ (.int .u8 (mZ c))).setCell ⟨w.heap.size+1+1+1,2,none⟩ (.bool (nc c))).setCell
    ⟨w.heap.size+1+1+1,3,none⟩ (.int .u8 (ng c))).setCell ⟨w.heap.size+1+1+1,4,none⟩ (.bool (nh c))).setCell ⟨w.heap.size+1+1+1,5,none⟩ (.int .i64 (xO c))).setCell ⟨w.heap.size+1+1+1,6,none⟩ (.bool (IW c)) |>.setCell ⟨w.heap.size+1+1+1,7,none⟩ (.func (.func (80+c)) #[] #[])) b r=(leftOf bD (seen.push i)).size:=by
 have en: ∀{o:Nat} {v:Value} {W:World} {m k:Nat},k≠m->(W.setCell ⟨k,o,none⟩ v).heap[m]? =W.heap[m]? :=fun h=>Kk h _ _
 have g: ∀m,m<w2.heap.size->((w2.alloc X).drewN nq).heap[m]? =w2.heap[m]? :=fun m hm=>by
   show (w2.alloc X).heap[m]? =_
   exact heap_alloc _ _ hm
 have q1:(World.heap ((((((((((w2.alloc X).drewN nq).setCell ⟨w.heap.size,0,none⟩ (.int .u8 c)).setCell ⟨w.heap.size+1+1+1,0,none⟩ (.string (cF c))).setCell ⟨w.heap.size+1+1+1,1,none⟩ (.int .u8 (mZ c))).setCell ⟨w.heap.size+1+1+1,2,none⟩ (.bool (nc c))).setCell
    ⟨w.heap.size+1+1+1,3,none⟩ (.int .u8 (ng c))).setCell ⟨w.heap.size+1+1+1,4,none⟩ (.bool (nh c))).setCell ⟨w.heap.size+1+1+1,5,none⟩ (.int .i64 (xO c))).setCell ⟨w.heap.size+1+1+1,6,none⟩ (.bool (IW c)) |>.setCell ⟨w.heap.size+1+1+1,7,none⟩ (.func (.func (80+c)) #[] #[])))[b]? =some (.map bD 18):=by
   rw[en (by omega),en (by omega),en (by omega),en (by omega),en (by omega),en (by omega),en (by omega),en (by omega),en (by omega),g _ (by omega)];exact hb
 have q2:(World.heap ((((((((((w2.alloc X).drewN nq).setCell ⟨w.heap.size,0,none⟩ (.int .u8 c)).setCell ⟨w.heap.size+1+1+1,0,none⟩ (.string (cF c))).setCell ⟨w.heap.size+1+1+1,1,none⟩ (.int .u8 (mZ c))).setCell ⟨w.heap.size+1+1+1,2,none⟩ (.bool (nc c))).setCell
    ⟨w.heap.size+1+1+1,3,none⟩ (.int .u8 (ng c))).setCell ⟨w.heap.size+1+1+1,4,none⟩ (.bool (nh c))).setCell ⟨w.heap.size+1+1+1,5,none⟩ (.int .i64 (xO c))).setCell ⟨w.heap.size+1+1+1,6,none⟩ (.bool (IW c)) |>.setCell ⟨w.heap.size+1+1+1,7,none⟩ (.func (.func (80+c)) #[] #[])))[r]? =some (.mapIter (some b) 18 (seen.push i) 18):=by
   rw[en (by omega),en (by omega),en (by omega),en (by omega),en (by omega),en (by omega),en (by omega),en (by omega),en (by omega),g _ (by omega)];exact hr
 refine ⟨⟨seen.push i,18,q1,q2,Nat.le_refl _,?_,?_,?_,?_,?_,?_⟩,ag.cZ q1 q2⟩
 . exact ((((((((((ag.below_drewN (hB.alloc (by omega) X) nq).setCell (Nat.le_refl _) _).setCell (p:=⟨w.heap.size+1+1+1,0,none⟩) (by simp;omega) _).setCell (p:=⟨w.heap.size+1+1+1,1,none⟩) (by simp;omega) _).setCell (p:=⟨w.heap.size+1+1+1,2,none⟩) (by simp;omega) _).setCell (p:=⟨w.heap.size+1+1+1,3,none⟩) (by simp;omega) _).setCell
    (p:=⟨w.heap.size+1+1+1,4,none⟩) (by simp;omega) _).setCell (p:=⟨w.heap.size+1+1+1,5,none⟩) (by simp;omega) _).setCell (p:=⟨w.heap.size+1+1+1,6,none⟩) (by simp;omega) _).setCell (p:=⟨w.heap.size+1+1+1,7,none⟩) (by simp;omega) _)
 . simp;omega
 . refine ((((((((((i1.alloc X).drewN nq).set 0 _).other (by omega) _ _).other (by omega) _ _).other (by omega) _ _).other (by omega) _ _).other (by omega) _ _).other (by omega) _ _).other (by omega) _ _).other (by omega) _ _ |>.cast ?_
   rw[ag.S8 (hK.trans hc),hK];rfl
 . exact ((((((((((i2.alloc X).drewN nq).other (by omega) _ _).other (by omega) _ _).other (by omega) _ _).other (by omega) _ _).other (by omega) _ _).other (by omega) _ _).other (by omega) _ _).other (by omega) _ _).other (by omega) _ _
 . exact ((((((((((i3.alloc X).drewN nq).other (by omega) _ _).other (by omega) _ _).other (by omega) _ _).other (by omega) _ _).other (by omega) _ _).other (by omega) _ _).other (by omega) _ _).other (by omega) _ _).other (by omega) _ _
 . have q:=((((((((((i4.alloc X).drewN nq).other (m:=w.heap.size) (by omega) 0 (.int .u8 c)).set 0 (.string (cF c))).set 1 (.int .u8 (mZ c))).set 2 (.bool (nc c))).set 3 (.int .u8 (ng c))).set 4 (.bool (nh c))).set 5 (.int .i64 (xO c))).set 6 (.bool (IW c))).set 7 (.func (.func (80+c)) #[] #[])
   simp only[List.setIfInBounds_toArray,List.set_cons_zero,List.set_cons_succ] at q
   rw[ag.S8 (hK.trans hc),hK]
   have e:Bc c= .func (.func (80+c)) #[] #[]:=if_neg (by omega)
   rw[e];exact q
theorem ag.fI {w w2:World} {K i b r nq:Nat} {wt:Int} {sl:Value} {seen:Array Nat} {X:Obj} (hK:K≠i+1) (hb:w2.heap[b]? =some (.map bD 18)) (hr:w2.heap[r]? =some (.mapIter (some b) 18 (seen.push i) 18))
   (hB:Below w.heap.size w w2) (h1:w.heap.size+1+1+1+1<=b) (h2:b<r) (hl:r<w2.heap.size)
   (i1:Is w2 w.heap.size 46 #[.int .u8 (ag.iB K seen),.int .i64 wt,.string ⟨#[]⟩,.string ⟨#[]⟩,.string ⟨#[]⟩,.int .i64 0]) (i2:Is w2 (w.heap.size+1) 48 #[sl])
   (i3:Is w2 (w.heap.size+1+1) 46 #[.int .u8 0,.int .i64 0,.string ⟨#[]⟩,.string ⟨#[]⟩,.string ⟨#[]⟩,.int .i64 0])
   (i4:Is w2 (w.heap.size+1+1+1) 85 #[.string (cF (ag.iB K seen)),.int .u8 (mZ (ag.iB K seen)),.bool (nc (ag.iB K seen)),.int .u8 (ng (ag.iB K seen)),.bool (nh (ag.iB K seen)),.int .i64 (xO (ag.iB K seen)),.bool (IW (ag.iB K seen)),Bc (ag.iB K seen)]):
   ag.wG w K wt sl b r ((w2.alloc X).drewN nq)/\((w2.alloc X).drewN nq).rangeLeft b r=(leftOf bD (seen.push i)).size:=by
 have g: ∀m,m<w2.heap.size->((w2.alloc X).drewN nq).heap[m]? =w2.heap[m]? :=fun m hm=>by
   show (w2.alloc X).heap[m]? =_
   exact heap_alloc _ _ hm
 refine ⟨⟨seen.push i,18,(g _ (by omega)).trans hb,(g _ (by omega)).trans hr,Nat.le_refl _,ag.below_drewN (hB.alloc (by omega) X) nq,by simp;omega,?_,?_,?_,?_⟩,ag.cZ ((g _ (by omega)).trans hb) ((g _ (by omega)).trans hr)⟩
 . rw[ag.OW hK];exact (i1.alloc X).drewN nq
 . exact (i2.alloc X).drewN nq
 . exact (i3.alloc X).drewN nq
 . rw[ag.OW hK];exact (i4.alloc X).drewN nq
theorem ag.jA {seen:Array Nat} {i:Nat} (hi:i<18) (h:seen.contains i=false):(leftOf bD (seen.push i)).size<(leftOf bD seen).size:=
 left_shrinks bD seen (nD i) (by
  simp only[leftOf,Array.toList_filter,List.mem_filter,bD,List.mem_map,List.mem_range]
  exact ⟨⟨i,hi,rfl⟩,by simpa [nD] using h⟩)
end Go.Proofs
end
section
namespace Go.Proofs
open Go.RowKit Go.ag
set_option maxRecDepth 100000 in
set_option maxHeartbeats 4000000 in
theorem ag.ahU (u:Nat->ByteArray) (wt:Int) (B off len:Nat) (w:World) (hB:B<w.heap.size) (hc: ∀i,i<len->w.cell? ⟨B,off+i,none⟩=some (.string (u i))) (h1:1<=len) (h3:len<=maxLen) (hu: ∀i,i<len->(u i).size<=maxLen)
  (td: -1<=wt/\wt<=999999999) (hs:kindOf (u 0).data.toList=0/\mZ (kindOf (u 0).data.toList)=0/\nc (kindOf (u 0).data.toList)=false/\ng (kindOf (u 0).data.toList)=0/\nh (kindOf (u 0).data.toList)=false):
  Calls Tryz.prog 104 #[.agg #[.int .u8 0,.int .i64 wt,.string ⟨#[]⟩,.string ⟨#[]⟩,.string ⟨#[]⟩,.int .i64 0],.slice (some ⟨B,off,none⟩) len len] w (ag.vp u len wt w):=by
 have HU:=Lib.hid hu;clear hu
 have HS:=Lib.hid hs;clear hs
 unfold maxLen at h3
 go_enter Tryz.func104,Tryz.ntmps104
 go_wp2_with (first|(go_at_call 32;refine (ag.kinds _).mono ?_;rintro e w1 ⟨b,rfl,cW,cE,n6⟩;have eR:=Lib.hid n6;have qD:=Lib.hid cW;clear n6 cW)|(at_range;refine ig _ rfl _ _ rfl 44 85 Tryz.underlying58 b bD 18 rfl cE ?_))
 go_frame
 go_loopw [8] (fun _ wr=>ag.wG w (kindOf (u 0).data.toList) wt (.slice (some ⟨B,off,none⟩) len len) b w1.heap.size wr) (fun _ wr=>wr.rangeLeft b w1.heap.size)
 case atStart=>
  have q1:=(((((Is.new w 46 #[.int .u8 0,.int .i64 wt,.string ⟨#[]⟩,.string ⟨#[]⟩,.string ⟨#[]⟩,.int .i64 0]).alloc _).alloc _).alloc _).below eR.out (by simp;omega)).alloc (.mapIter (some b) 18 #[] 18)
  have q2:=((((Is.new (w.alloc (.cells #[.int .u8 0,.int .i64 wt,.string ⟨#[]⟩,.string ⟨#[]⟩,.string ⟨#[]⟩,.int .i64 0] 46)) 48 #[.slice (some ⟨B,off,none⟩) len len]).alloc _).alloc _).below eR.out (by simp)).alloc (.mapIter (some b) 18 #[] 18)
  have q3:=(((Is.new ((w.alloc (.cells #[.int .u8 0,.int .i64 wt,.string ⟨#[]⟩,.string ⟨#[]⟩,.string ⟨#[]⟩,.int .i64 0] 46)).alloc (.cells #[.slice (some ⟨B,off,none⟩) len len] 48)) 46 #[.int .u8 0,.int .i64 0,.string ⟨#[]⟩,.string ⟨#[]⟩,.string ⟨#[]⟩,.int .i64 0]).alloc _).below eR.out (by simp)).alloc (.mapIter (some b) 18 #[] 18)
  have q4:=((Is.new (((w.alloc (.cells #[.int .u8 0,.int .i64 wt,.string ⟨#[]⟩,.string ⟨#[]⟩,.string ⟨#[]⟩,.int .i64 0] 46)).alloc (.cells #[.slice (some ⟨B,off,none⟩) len len] 48)).alloc (.cells #[.int .u8 0,.int .i64 0,.string ⟨#[]⟩,.string ⟨#[]⟩,.string ⟨#[]⟩,.int .i64 0] 46)) 85
    #[.string ⟨#[]⟩,.int .u8 0,.bool false,.int .u8 0,.bool false,.int .i64 0,.bool false,.nilFunc]).below eR.out (by simp)).alloc (.mapIter (some b) 18 #[] 18)
  rw[World.size_alloc] at q2
  rw[World.size_alloc,World.size_alloc] at q3
  rw[World.size_alloc,World.size_alloc,World.size_alloc] at q4
  have kS:b<w1.heap.size:=(Array.getElem?_eq_some_iff.1 cE).1
  refine ⟨#[],18,(Go.ag.heap_alloc _ _ kS).trans cE,by show (w1.heap.push _)[w1.heap.size]? =_;simp,Nat.le_refl _,?_,by simp,?_,q2,q3,?_⟩
  . exact ((((((Below.refl _ w).alloc (Nat.le_refl _) _).alloc (by simp) _).alloc (by simp;omega) _).alloc (by simp;omega) _).trans (eR.out.mono (by simp;omega))).alloc (by have:=eR.out.size;simp at this;omega) _
  . exact q1.cast (by rw[ag.eL];rfl)
  . exact q4.cast (by rw[ag.eL];rfl)
 case round=>
  obtain ⟨seen,c0,m1,m2,m3,m4,m5,i1,i2,i3,i4⟩:=hrel
  have th:=qD.out
  simp at th
  have kS:b<w1.heap.size:=(Array.getElem?_eq_some_iff.1 cE).1
  obtain ⟨a0,a1,a2,a3,a4,a5⟩:=i1.mF
  have a6:=i2.one
  obtain ⟨d0,d1,d2,d3,d4,d5⟩:=i3.mF
  obtain ⟨e0,e1,e2,e3,e4,e5,e6,e7⟩:=i4.eight
  have f1:=i1.frozen
  have f2:=i2.frozen
  have f3:=i3.frozen
  have f4:=i4.frozen
  have M1:=Lib.hid m1
  have M2:=Lib.hid m2
  have M4:=Lib.hid m4
  have I1:=Lib.hid i1
  have I2:=Lib.hid i2
  have I3:=Lib.hid i3
  have I4:=Lib.hid i4
  clear m1 m2 i1 i2 i3 i4 m4
  go_wp2_with (first|(at_next;refine iW _ rfl _ rfl w1.heap.size b 18 c0 seen bD 18 rfl M2.out M1.out ag.ur m3 ag.qT ?_ ?_))
  . intro  hD
    have hK:=ag.oY hD (kindOf (u 0).data.toList) (eS _)
    rw[hK] at a0 e0 e1 e2 e3 e4 e5 e6 e7
    have HD:=Lib.hid hD;clear hD hK
    have hr: ∀i,i<len->wr.cell? ⟨B,off+i,none⟩=some (.string (u i)):=fun i hi=>(M4.out.cell (p:=⟨B,off+i,none⟩) hB).trans (hc i hi)
    have HR:=Lib.hid hr;clear hr
    have hl:=I4.out.lt
    have rH:w.heap.size<wr.heap.size:=by omega
    have oH:w.heap.size+1<wr.heap.size:=by omega
    have mb:w.heap.size+1+1<wr.heap.size:=by omega
    have zc:B<wr.heap.size:=by omega
    have HC:=Lib.hid hc;clear hc
    have ze:=Lib.hid cE;clear cE
    have rI:=eS (u 0).data.toList
    obtain ⟨K,hK⟩: ∃K,K=kindOf (u 0).data.toList:=⟨_,rfl⟩
    rw[<-hK] at a0 e0 e1 e2 e3 e4 e5 e6 e7 rI
    have hs:=HS.out
    rw[<-hK] at hs
    obtain ⟨h0,ha,hb,ht,hn⟩:=hs
    have HK:=Lib.hid hK;clear hK
    rw[ha] at e1;rw[hb] at e2;rw[ht] at e3;rw[hn] at e4
    have HA:=Lib.hid ha;have dQ:=Lib.hid hb;have HT:=Lib.hid ht;have HN:=Lib.hid hn;clear ha hb ht hn
    have hz:cF K=⟨#[]⟩:=by rw[h0];rfl
    rw[hz] at e0
    have H0:=Lib.hid h0
    clear h0 hz
    by_cases oZ:len=1
    .   subst oZ
        go_wp2
        go_loop [9,46] (fun m i=> ∃j:Nat,j<=4/\i= .int .i64 j/\m= .int .i64 (([false,false,false,false].take j).count true:Nat)) (fun _ i=>4 - (intOf i).toNat)
        case atStart=>exact ⟨0,Nat.zero_le _,rfl,rfl⟩
        case round=>
         obtain ⟨j,hj,rfl,rfl⟩:=hrel
         obtain rfl|rfl|rfl|rfl|rfl:j=0\/j=1\/j=2\/j=3\/j=4:=by omega
         . go_wp2;go_round;(case rel=>exact ⟨1,by omega,rfl,rfl⟩);(case measure=>simp[intOf])
         . go_wp2;go_round;(case rel=>exact ⟨2,by omega,rfl,rfl⟩);(case measure=>simp[intOf])
         . go_wp2;go_round;(case rel=>exact ⟨3,by omega,rfl,rfl⟩);(case measure=>simp[intOf])
         . go_wp2;go_round;(case rel=>exact ⟨4,by omega,rfl,rfl⟩);(case measure=>simp[intOf])
         . go_wp2
           refine bodyPost_ret (v:= .tuple #[.agg #[.int .u8 0,.int .i64 0,.string ⟨#[]⟩,.string ⟨#[]⟩,.string ⟨#[]⟩,.int .i64 0],.int .i64 3]) (by simp[results,Tryz.results104,go_sem, *]) rfl (ag.aK HK.out HA.out dQ.out HT.out HN.out (by simp[ag.bB,ag.valOf,ag.bE,H0.out]) ?_);(repeat (first|(with_reducible refine Below.setCell ?_ (by first|(simp;done)|(simp;omega)) _)|(with_reducible refine Below.alloc ?_ (by first|(simp;done)|(simp;omega)) _)|(with_reducible refine ag.below_drewN ?_ _)|(with_reducible exact M4.out)))
    .   skip
        go_wp2
        go_loop [9,46] (fun m i=> ∃j:Nat,j<=4/\i= .int .i64 j/\m= .int .i64 (([false,false,false,false].take j).count true:Nat)) (fun _ i=>4 - (intOf i).toNat)
        case atStart=>exact ⟨0,Nat.zero_le _,rfl,rfl⟩
        case round=>
         obtain ⟨j,hj,rfl,rfl⟩:=hrel
         obtain rfl|rfl|rfl|rfl|rfl:j=0\/j=1\/j=2\/j=3\/j=4:=by omega
         . go_wp2;go_round;(case rel=>exact ⟨1,by omega,rfl,rfl⟩);(case measure=>simp[intOf])
         . go_wp2;go_round;(case rel=>exact ⟨2,by omega,rfl,rfl⟩);(case measure=>simp[intOf])
         . go_wp2;go_round;(case rel=>exact ⟨3,by omega,rfl,rfl⟩);(case measure=>simp[intOf])
         . go_wp2;go_round;(case rel=>exact ⟨4,by omega,rfl,rfl⟩);(case measure=>simp[intOf])
         . go_wp2
           refine bodyPost_ret (v:= .tuple #[.agg #[.int .u8 0,.int .i64 0,.string ⟨#[]⟩,.string ⟨#[]⟩,.string ⟨#[]⟩,.int .i64 0],.int .i64 3]) (by simp[results,Tryz.results104,go_sem, *]) rfl (ag.aK HK.out HA.out dQ.out HT.out HN.out (by simp[ag.bB,ag.valOf,ag.bE,H0.out]) ?_);(repeat (first|(with_reducible refine Below.setCell ?_ (by first|(simp;done)|(simp;omega)) _)|(with_reducible refine Below.alloc ?_ (by first|(simp;done)|(simp;omega)) _)|(with_reducible refine ag.below_drewN ?_ _)|(with_reducible exact M4.out)))
  . intro  e he w2 q1 q2 q3 q4 q5 q6 q7
    obtain ⟨i,hi,rfl,qh⟩:=ag.qU he
    dsimp only[nD,vq] at q1 q7 ⊢
    obtain ⟨c,mg⟩: ∃c,c=i+1:=⟨_,rfl⟩
    rw[<-mg] at q7 ⊢
    have jM:Bc c= .func (.func (80+c)) #[] #[]:=if_neg (by omega)
    rw[jM] at q7 ⊢
    clear jM
    have eT:=Lib.hid mg;clear mg
    have Q1:Hid (w2.heap[w1.heap.size]? =some (.mapIter (some b) 18 (seen.push i) 18)):=Lib.hid q1
    have HI:=Lib.hid qh
    have HO:Hid (w2.os=wr.os/\w2.tape=wr.tape/\w2.output=wr.output/\w2.heap.size=wr.heap.size):=Lib.hid ⟨q2,q3,q4,q5⟩
    have Q6:=Lib.hid q6
    have D8:w1.heap.size<w2.heap.size:=by omega
    have j1:=I1.out.of_heap (q6 _ (by omega))
    have j2:=I2.out.of_heap (q6 _ (by omega))
    have j3:=I3.out.of_heap (q6 _ (by omega))
    have j4:=I4.out.of_heap (q6 _ (by omega))
    have Hl:=I4.out.lt
    have hl:w.heap.size+1+1+1<w2.heap.size:=by omega
    clear q1 q2 q3 q4 q5 q6 he qh a0 a1 a2 a3 a4 a5 a6 e0 e1 e2 e3 e4 e5 e6 e7
    obtain ⟨a0,a1,a2,a3,a4,a5⟩:=j1.mF
    have a6:=j2.one
    obtain ⟨e0,e1,e2,e3,e4,e5,e6,e7⟩:=j4.eight
    have f1:=j1.frozen
    have f4:=j4.frozen
    have J1:=Lib.hid j1
    have J2:=Lib.hid j2
    have J3:=Lib.hid j3
    have J4:=Lib.hid j4
    clear j1 j2 j3 j4
    have qE: ∀i,i<len->w2.cell? ⟨B,off+i,none⟩=some (.string (u i)):=fun i hi=>by
        rw[<-hc i hi, <-M4.out.cell (p:=⟨B,off+i,none⟩) hB]
        exact o3 (Q6.out B (by omega)) _
    have sL:=qE 0 (by omega)
    rw[Nat.add_zero] at sL
    clear qE
    have HC:=Lib.hid hc;clear hc
    have ze:=Lib.hid cE;clear cE
    have rH:w.heap.size<w2.heap.size:=by omega
    have oH:w.heap.size+1<w2.heap.size:=by omega
    have mb:w.heap.size+1+1<w2.heap.size:=by omega
    have zc:B<w2.heap.size:=by omega
    have jv:Hid (w2.heap[b]? =some (.map bD 18)):=Lib.hid (by rw[Q6.out b (by omega)];exact M1.out)
    have jw:Hid (Below w.heap.size w w2):=Lib.hid (ag.nE M4.out HO.out Q6.out (by omega))
    by_cases heq:((cF c).toList==(u 0).toList)=true
    .   have HQ:Hid (kindOf (u 0).data.toList=c):=Lib.hid (ag.qV (by have:=eT.out;omega) (by have:=eT.out;omega) heq)
        go_wp2
        go_quiet (fail)
        go_wp2
        go_region
        all_goals
         go_roundw
         case rel=>
           (repeat apply Exists.intro)
           exact ⟨(ag.gZ HQ.out eT.out jv.out Q1.out jw.out (by omega) (by omega) (by omega) J1.out J2.out J3.out J4.out).1,rfl⟩
         case measure=>
           rw[ag.cZ M1.out M2.out]
           exact Nat.lt_of_le_of_lt (Nat.le_of_eq (ag.gZ HQ.out eT.out jv.out Q1.out jw.out (by omega) (by omega) (by omega) J1.out J2.out J3.out J4.out).2) (ag.jA hi HI.out)
    .   have tj:((cF c).toList==(u 0).toList)=false:=by simpa using heq
        clear heq
        have HQ:Hid (kindOf (u 0).data.toList≠i+1):=Lib.hid (by rw[<-eT.out];exact ag.o4 (by have:=eT.out;omega) tj)
        go_wp2
        go_quiet (fail)
        go_wp2
        go_roundw
        case rel=>
         exact (ag.fI HQ.out jv.out Q1.out jw.out (by omega) (by omega) (by omega) J1.out J2.out J3.out J4.out).1
        case measure=>
         rw[ag.cZ M1.out M2.out]
         exact Nat.lt_of_le_of_lt (Nat.le_of_eq (ag.fI HQ.out jv.out Q1.out jw.out (by omega) (by omega) (by omega) J1.out J2.out J3.out J4.out).2) (ag.jA hi HI.out)
end Go.Proofs
end
section
namespace Go.Proofs
open Go.RowKit Go.ag
def ag.vX (s:ByteArray):ByteArray:=⟨(Lib.trimSuffix s.data.toList [10]).toArray⟩
def ag.DU (s:ByteArray):Bool:=Lib.hasSuffix s.data.toList [10]
theorem ag.aiV (s:ByteArray) (w:World) (hs:s.size<=2097152):
  Calls Tryz.prog 101 #[.string s,.string ⟨#[10]⟩] w fun e w'=>e= .returned (.tuple #[.string (ag.vX s),.bool (ag.DU s)])/\w'=w:=
 Tryz.JI s ⟨#[10]⟩ w (by omega)
theorem ag.Y7 (s:ByteArray):(ag.vX s).size<=s.size:=by
 show (Lib.trimSuffix s.data.toList [10]).toArray.size<=s.data.size
 have:(Lib.trimSuffix s.data.toList [10]).length<=s.data.toList.length:=by
  unfold Lib.trimSuffix
  split<;>simp
 simpa using this
def ag.jk (s:ByteArray):List ByteArray:=Lib.splitB ⟨#[32]⟩ 0 (Lib.countB s ⟨#[32]⟩) s
def ag.lD (s:ByteArray):Nat:=(ag.jk s).length
def ag.oA (s:ByteArray) (i:Nat):ByteArray:=(ag.jk s).getD i ByteArray.empty
theorem ag.Wp (s:ByteArray):1<=ag.lD s:=by
 have:=Lib.splitB_all ⟨#[32]⟩ (by decide) 0 _ s rfl
 unfold ag.lD ag.jk;omega
theorem ag.Y8 (s:ByteArray):ag.lD s<=s.size+1:=by
 have:=Lib.splitB_all ⟨#[32]⟩ (by decide) 0 _ s rfl
 have:=Lib.countB_le ⟨#[32]⟩ (by decide) s.size s (Nat.le_refl _)
 unfold ag.lD ag.jk;omega
theorem ag.Km (sep:ByteArray): ∀(k:Nat) (s:ByteArray),∀x∈Lib.splitB sep 0 k s,x.size<=s.size
 |0,s,x,h=>by simp[Lib.splitB] at h;rw[h];exact Nat.le_refl _
 |k +   1,s,x,h=>by
  unfold Lib.splitB at h
  split at h
  . simp at h;rw[h];exact Nat.le_refl _
  . rcases List.mem_cons.1 h with rfl|h
    .   simp;omega
    .   have:=ag.Km sep k _ x h
        simp at this;omega
theorem ag.TY (s:ByteArray) (i:Nat):(ag.oA s i).size<=s.size:=by
 unfold ag.oA
 rw[List.getD_eq_getElem?_getD]
 cases h:(ag.jk s)[i]? with
 |none=>exact Nat.zero_le _
 |some x=>exact ag.Km _ _ _ x (List.mem_of_getElem? h)
theorem ag.afo (s:ByteArray) (m:Int) (w:World) (hs:s.size<=2097152) (hm:w.cell? ⟨1,0,none⟩=some (.int .i64 m)):
  Calls Tryz.prog 102 #[.string s,.string ⟨#[32]⟩] w fun e w'=>
   e= .returned (.slice (some ⟨w.heap.size,0,none⟩) (ag.lD s) (ag.lD s))/\w'=w.alloc (.cells ((ag.jk s).map Value.string).toArray 9):=by
 refine (Tryz.strings_Split s ⟨#[32]⟩ m w (by omega) hm (by decide)).mono ?_
 rintro e w' ⟨rfl,rfl⟩
 have:=Lib.splitB_all ⟨#[32]⟩ (by decide) 0 _ s rfl
 refine ⟨?_,rfl⟩
 unfold ag.lD ag.jk
 rw[this]
theorem ag.Wq (s:ByteArray) (i:Nat) (h:i<ag.lD s):(((ag.jk s).map Value.string).toArray)[i]? =some (.string (ag.oA s i)):=by
 unfold ag.lD at h
 simp[ag.oA,h,List.getD_eq_getElem?_getD]
def ag.xE (ok:Bool) (u:Nat->ByteArray) (k:Nat):Bool:=ok&&(List.range k).all fun i=> !(u i).toList.isEmpty
theorem ag.OM (ok:Bool) (u:Nat->ByteArray):ag.xE ok u 0=ok:=by simp[ag.xE]
theorem ag.IM (ok:Bool) (u:Nat->ByteArray) (k:Nat):ag.xE ok u (k+1)=(ag.xE ok u k&& !(u k).toList.isEmpty):=by
 simp[ag.xE,List.range_succ,Bool.and_assoc]
theorem ag.aaN {ok:Bool} {u:Nat->ByteArray} {k:Nat} (h:ag.xE ok u k=true):ag.xE ok u (k+1)= !(u k).toList.isEmpty:=by rw[ag.IM,h];rfl
theorem ag.afp {ok:Bool} {u:Nat->ByteArray} {k:Nat} (h:ag.xE ok u k=false):ag.xE ok u (k+1)=false:=by rw[ag.IM,h];rfl
def ag.kZ (ok:Bool) (u:Nat->ByteArray) (len:Nat):Int ⊕ ag.RR:=
 if ag.xE ok u len=false then .inl 3
 else if (u 0).toList=[104,97,114,100]/\1<len then ag.qc (fun i=>u (i+1)) (len - 1) 0
 else if (u 0).toList=[119,101,105,103,104]/\2<len then
    (if jt (u 1).data.toList=false then .inl 3 else ag.qc (fun i=>u (i+2)) (len - 2) (if sx (u 1).data.toList=0 then -1 else sx (u 1).data.toList))
 else .inl 3
def ag.PR (s:ByteArray) (w:World) (e:Ending) (w':World):Prop:=e= .returned (ag.valOf (ag.kZ (ag.DU s) (ag.oA (ag.vX s)) (ag.lD (ag.vX s))))/\Below w.heap.size w w'
theorem ag.oC {s s1:ByteArray} {ok:Bool} {n:Nat} {u:Nat->ByteArray} {w w':World} {v:Value} (h1:s1=ag.vX s) (dr:ok=ag.DU s) (hn:n=ag.lD s1) (hu:u=ag.oA s1) (hv:v=ag.valOf (ag.kZ ok u n)) (hB:Below w.heap.size w w'):
  ag.PR s w (.returned v) w':=by
 subst h1 dr hn hu hv;exact ⟨rfl,hB⟩
theorem ag.ML (l:List UInt8):0<=sx l/\sx l<=999999999:=by
 unfold sx
 split
 . rename_i h
   simp only[jt,Bool.and_eq_true,decide_eq_true_eq] at h
   have h1:=Y3 l h.2
   have h2:(10:Nat) ^ l.length<=10 ^ 9:=Nat.pow_le_pow_right (by omega) h.1.1.2
   omega
 . omega
end Go.Proofs
end
