/- Words and the head of rule.body. -/
import Derived.Test.YthiaklapeamjlaaGreatDoorCWalkA
import Derived.Laws.EntriesVeiled
import Derived.WideLaws
set_option linter.all false
set_option linter.unusedSectionVars false
set_option linter.deprecated false
namespace Go.Proofs
section
open Go.RowKit Go.af
structure af.RR where
 k:Nat
 wt:Int
 a:ByteArray
 b:ByteArray
 t:ByteArray
 n:Int
def af.RR.val (r:af.RR):Value:= .agg #[.int .u8 r.k,.int .i64 r.wt,.string r.a,.string r.b,.string r.t,.int .i64 r.n]
def af.eM:Value:= .agg #[.int .u8 0,.int .i64 0,.string ⟨#[]⟩,.string ⟨#[]⟩,.string ⟨#[]⟩,.int .i64 0]
def af.valOf:Int ⊕ af.RR->Value
 | .inl e=> .tuple #[af.eM,.int .i64 e]
 | .inr r=> .tuple #[r.val,.int .i64 0]
def af.gu (K:Nat) (a:Int) (b:Bool) (t:Int) (n:Bool) (u:Nat->ByteArray) (len:Nat) (wt:Int):Int ⊕ af.RR:=
 let m:=(if a=0 then 0 else 1)+(if b then 1 else 0)+(if t=0 then 0 else 1)+(if n then 1 else 0)
 let it:=1+(if a=0 then 0 else 1)+(if b then 1 else 0)
 if K=0 then .inl 3
 else if len≠m+1 then .inl 3
 else if n=true/\j9 (u m).data.toList=false then .inl 3
 else if wt<0\/1000<wt then .inl 41
 else if (a=0\/tS (u 1) (a==101)=true)/\(b=false\/tS (u 2) false=true)/\(t=0\/tS (u it) (t==101)=true) then
    .inr ⟨K,wt,if a=0 then ⟨#[]⟩ else Ew (u 1) (a==101),if b then Ew (u 2) false else ⟨#[]⟩,if t=0 then ⟨#[]⟩ else Ew (u it) (t==101),if n then yW (u m).data.toList else 0⟩
 else .inl 4
def af.xF (u:Nat->ByteArray) (len:Nat) (wt:Int):Int ⊕ af.RR:=
 af.gu (kindOf (u 0).data.toList) (nY (kindOf (u 0).data.toList)) (nZ (kindOf (u 0).data.toList)) (n6 (kindOf (u 0).data.toList)) (n8 (kindOf (u 0).data.toList)) u len wt
def af.Kh (u:Nat->ByteArray) (len:Nat) (wt:Int) (w:World) (e:Ending) (w':World):Prop:=e= .returned (af.valOf (af.xF u len wt))/\Below w.heap.size w w'
theorem af.dw {u:Nat->ByteArray} {len:Nat} {wt:Int} {w w':World} {v:Value} {K:Nat} {a t:Int} {b n:Bool} (hK:K=kindOf (u 0).data.toList) (ha:nY K=a) (hb:nZ K=b) (ht:n6 K=t) (hn:n8 K=n)
  (hv:v=af.valOf (af.gu K a b t n u len wt)) (h:Below w.heap.size w w'):af.Kh u len wt w (.returned v) w':=by
 refine ⟨?_,h⟩
 rw[hv,af.xF, <-hK,ha,hb,ht,hn]
theorem af.shape: ∀K,K<=18->
   (K=0/\nY K=0/\nZ K=false/\n6 K=0/\n8 K=false)\/(K≠0/\nY K=103/\nZ K=true/\n6 K=0/\n8 K=true)\/(K≠0/\nY K=103/\nZ K=true/\n6 K=0/\n8 K=false)\/
   (K≠0/\nY K=103/\nZ K=false/\n6 K=116/\n8 K=false)\/(K≠0/\nY K=103/\nZ K=false/\n6 K=116/\n8 K=true)\/(K≠0/\nY K=0/\nZ K=false/\n6 K=101/\n8 K=false)\/
   (K≠0/\nY K=101/\nZ K=false/\n6 K=0/\n8 K=false)\/(K≠0/\nY K=0/\nZ K=false/\n6 K=101/\n8 K=true)\/(K≠0/\nY K=100/\nZ K=false/\n6 K=116/\n8 K=false):=by
 have h1: ∀K,K<19->K≠0->(nY K,nZ K,n6 K,n8 K)∈([(103,true,0,true),(103,true,0,false),(103,false,116,false),(103,false,116,true),(0,false,101,false),(101,false,0,false),(0,false,101,true),(100,false,116,false)]:List (Int×Bool×Int×Bool)):=by
   intro K
   match K with
   |0=>intro _ h;exact absurd rfl h
   |1=>intro _ _;decide
   |2=>intro _ _;decide
   |3=>intro _ _;decide
   |4=>intro _ _;decide
   |5=>intro _ _;decide
   |6=>intro _ _;decide
   |7=>intro _ _;decide
   |8=>intro _ _;decide
   |9=>intro _ _;decide
   |10=>intro _ _;decide
   |11=>intro _ _;decide
   |12=>intro _ _;decide
   |13=>intro _ _;decide
   |14=>intro _ _;decide
   |15=>intro _ _;decide
   |16=>intro _ _;decide
   |17=>intro _ _;decide
   |18=>intro _ _;decide
   |n+19=>intro h;omega
 intro K h
 by_cases h0:K=0
 . subst h0;exact .inl ⟨rfl,by decide,by decide,by decide,by decide⟩
 . have:=h1 K (by omega) h0
   simp only[List.mem_cons,Prod.mk.injEq,List.not_mem_nil,or_false] at this
   right
   rcases this with h|h|h|h|h|h|h|h
   . exact .inl ⟨h0,h⟩
   . exact .inr (.inl ⟨h0,h⟩)
   . exact .inr (.inr (.inl ⟨h0,h⟩))
   . exact .inr (.inr (.inr (.inl ⟨h0,h⟩)))
   . exact .inr (.inr (.inr (.inr (.inl ⟨h0,h⟩))))
   . exact .inr (.inr (.inr (.inr (.inr (.inl ⟨h0,h⟩)))))
   . exact .inr (.inr (.inr (.inr (.inr (.inr (.inl ⟨h0,h⟩))))))
   . exact .inr (.inr (.inr (.inr (.inr (.inr (.inr ⟨h0,h⟩))))))
theorem af.Vw: ∀K,K<=18->K≠0->Ek K≠[]:=by
 have: ∀K,K<19->K≠0->Ek K≠[]:=by decide
 intro K h;exact this K (by omega)
def af.fW (K:Nat) (seen:Array Nat):Nat:=if K≠0/\seen.contains (K - 1)=true then K else 0
def af.Ql (w:World) (K:Nat) (wt:Int) (sl:Value) (b r:Nat) (wr:World):Prop:=
 ∃  (seen:Array Nat) (c0:Nat),wr.heap[b]? =some (.map b9 18)/\wr.heap[r]? =some (.mapIter (some b) 18 seen c0)/\18<=c0/\Below w.heap.size w wr/\r<wr.heap.size/\
    Is wr w.heap.size 40 #[.int .u8 (af.fW K seen),.int .i64 wt,.string ⟨#[]⟩,.string ⟨#[]⟩,.string ⟨#[]⟩,.int .i64 0]/\Is wr (w.heap.size+1) 85 #[sl]/\
    Is wr (w.heap.size+1+1) 40 #[.int .u8 0,.int .i64 0,.string ⟨#[]⟩,.string ⟨#[]⟩,.string ⟨#[]⟩,.int .i64 0]/\
    Is wr (w.heap.size+1+1+1) 101 #[.string (fe (af.fW K seen)),.int .u8 (nY (af.fW K seen)),.bool (nZ (af.fW K seen)),.int .u8 (n6 (af.fW K seen)),.bool (n8 (af.fW K seen)),.int .i64 (AH (af.fW K seen)),.bool (Qc (af.fW K seen)),Rw (af.fW K seen)]
theorem af.Qm: ∀x∈b9.toList,x.born<18:=by
 intro x hx
 simp only[b9,List.mem_map,List.mem_range] at hx
 obtain ⟨i,hi,rfl⟩:=hx
 exact hi
theorem af.Ki:(b9.toList.map (·.born)).Nodup:=by
 have:b9.toList.map (·.born)=List.range 18:=by
  simp[b9,List.map_map]
  have:(MapEntry.born∘th)=id:=by funext i;rfl
  rw[this,List.map_id]
 rw[this];exact List.nodup_range
theorem af.Kk {seen:Array Nat} {e:MapEntry} (h0:e∈leftOf b9 seen): ∃i,i<18/\e=th i/\seen.contains i=false:=by
 have h:e∈(leftOf b9 seen).toList:=by simpa using h0
 simp only[leftOf,Array.toList_filter,List.mem_filter,b9,List.mem_map,List.mem_range] at h
 obtain ⟨⟨i,hi,rfl⟩,h2⟩:=h
 exact ⟨i,hi,rfl,by simpa [th] using h2⟩
theorem af.af7 {seen:Array Nat} (h0:leftOf b9 seen= #[]) (i:Nat) (hi:i<18):seen.contains i=true:=by
 cases hc:seen.contains i
 . exfalso
   have:th i∈(leftOf b9 seen).toList:=by
    simp only[leftOf,Array.toList_filter,List.mem_filter,b9,List.mem_map,List.mem_range]
    exact ⟨⟨i,hi,rfl⟩,by simpa [th] using hc⟩
   rw[h0] at this;simp at this
 . rfl
theorem af.Gu {seen:Array Nat} (h0:leftOf b9 seen= #[]) (K:Nat) (hK:K<=18):af.fW K seen=K:=by
 unfold af.fW
 by_cases h:K=0
 . simp[h]
 . rw[if_pos ⟨h,af.af7 h0 (K - 1) (by omega)⟩]
theorem af.n9 (K:Nat):af.fW K #[]=0:=by unfold af.fW;simp
theorem af.BB {wt:Int} (h1: ¬wt<0) (h2: ¬1000<wt): ¬(wt<0\/1000<wt):=fun h=>h.elim h1 h2
theorem af.tR (b:Bool):b=true\/b=false:=by cases b<;>simp
theorem af.XW {K i:Nat} {seen:Array Nat} (h:K≠i+1):af.fW K (seen.push i)=af.fW K seen:=by
 unfold af.fW
 by_cases hK:K=0
 . simp[hK]
 . have:(seen.push i).contains (K - 1)=seen.contains (K - 1):=by
    have:K - 1≠i:=by omega
    simp[this]
   rw[this]
theorem af.aby {K i:Nat} {seen:Array Nat} (h:K=i+1):af.fW K (seen.push i)=K:=by
 unfold af.fW
 rw[if_pos ⟨by omega,by subst h;simp⟩]
theorem af.Km {c:Nat} {s:ByteArray} (h1:1<=c) (h2:c<=18) (h:((fe c).toList==s.toList)=true):kindOf s.data.toList=c:=by
 have:(fe c).toList=s.toList:=by simpa using h
 rw[Lib.toList_data,Lib.toList_data] at this
 rw[<-this]
 exact af6 c h1 h2
theorem af.Gw {c:Nat} {s:ByteArray} (h1:1<=c) (h:((fe c).toList==s.toList)=false):kindOf s.data.toList≠c:=by
 intro e
 have bX:(fe c).toList≠s.toList:=by simpa using h
 rw[Lib.toList_data,Lib.toList_data] at bX
 apply bX
 show (Ek c)=_
 rw[<-e]
 exact acj _ (by omega)
theorem af.DS {B r:Nat} {w w2 wr:World} (h:Below B w wr) (ho:w2.os=wr.os/\w2.tape=wr.tape/\w2.output=wr.output/\w2.heap.size=wr.heap.size) (hk: ∀k,¬k=r->w2.heap[k]? =wr.heap[k]?) (hr:B<=r):Below B w w2:=
 h.trans ⟨ho.1,ho.2.1,ho.2.2.1,Nat.le_of_eq ho.2.2.2.symm,fun k hkB=>hk k (by omega)⟩
theorem af.below_drewN {B:Nat} {a w:World} (h:Below B a w) (k:Nat):Below B a (w.drewN k):=h.trans ⟨rfl,rfl,rfl,Nat.le_refl _,fun _ _=>rfl⟩
theorem af.ic {w:World} {b r since c:Nat} {seen:Array Nat} (hb:w.heap[b]? =some (.map b9 18)) (hr:w.heap[r]? =some (.mapIter (some b) since seen c)):w.rangeLeft b r=(leftOf b9 seen).size:=by
 simp only[World.rangeLeft,hb,hr]
theorem af.tT {w w2:World} {K i b r nq:Nat} {wt:Int} {sl:Value} {seen:Array Nat} {X:Obj} {c:Nat} (hK:K=c) (hc:c=i+1) (hb:w2.heap[b]? =some (.map b9 18)) (hr:w2.heap[r]? =some (.mapIter (some b) 18 (seen.push i) 18))
   (hB:Below w.heap.size w w2) (h1:w.heap.size+1+1+1+1<=b) (h2:b<r) (hl:r<w2.heap.size)
   (i1:Is w2 w.heap.size 40 #[.int .u8 (af.fW K seen),.int .i64 wt,.string ⟨#[]⟩,.string ⟨#[]⟩,.string ⟨#[]⟩,.int .i64 0]) (i2:Is w2 (w.heap.size+1) 85 #[sl])
   (i3:Is w2 (w.heap.size+1+1) 40 #[.int .u8 0,.int .i64 0,.string ⟨#[]⟩,.string ⟨#[]⟩,.string ⟨#[]⟩,.int .i64 0])
   (i4:Is w2 (w.heap.size+1+1+1) 101 #[.string (fe (af.fW K seen)),.int .u8 (nY (af.fW K seen)),.bool (nZ (af.fW K seen)),.int .u8 (n6 (af.fW K seen)),.bool (n8 (af.fW K seen)),.int .i64 (AH (af.fW K seen)),.bool (Qc (af.fW K seen)),Rw (af.fW K seen)]):
   af.Ql w K wt sl b r ((((((((((w2.alloc X).drewN nq).setCell ⟨w.heap.size,0,none⟩ (.int .u8 c)).setCell ⟨w.heap.size+1+1+1,0,none⟩ (.string (fe c))).setCell ⟨w.heap.size+1+1+1,1,none⟩ (.int .u8 (nY c))).setCell ⟨w.heap.size+1+1+1,2,none⟩ (.bool (nZ c))).setCell
    ⟨w.heap.size+1+1+1,3,none⟩ (.int .u8 (n6 c))).setCell ⟨w.heap.size+1+1+1,4,none⟩ (.bool (n8 c))).setCell ⟨w.heap.size+1+1+1,5,none⟩ (.int .i64 (AH c))).setCell ⟨w.heap.size+1+1+1,6,none⟩ (.bool (Qc c)) |>.setCell ⟨w.heap.size+1+1+1,7,none⟩ (.func (.func (131+c)) #[] #[]))/\
   World.rangeLeft ((((((((((w2.alloc X).drewN nq).setCell ⟨w.heap.size,0,none⟩ (.int .u8 c)).setCell ⟨w.heap.size+1+1+1,0,none⟩ (.string (fe c))).setCell ⟨w.heap.size+1+1+1,1,none⟩ (.int .u8 (nY c))).setCell ⟨w.heap.size+1+1+1,2,none⟩ (.bool (nZ c))).setCell
    ⟨w.heap.size+1+1+1,3,none⟩ (.int .u8 (n6 c))).setCell ⟨w.heap.size+1+1+1,4,none⟩ (.bool (n8 c))).setCell ⟨w.heap.size+1+1+1,5,none⟩ (.int .i64 (AH c))).setCell ⟨w.heap.size+1+1+1,6,none⟩ (.bool (Qc c)) |>.setCell ⟨w.heap.size+1+1+1,7,none⟩ (.func (.func (131+c)) #[] #[])) b r=(leftOf b9 (seen.push i)).size:=by
 have bX: ∀{o:Nat} {v:Value} {W:World} {m k:Nat},k≠m->(W.setCell ⟨k,o,none⟩ v).heap[m]? =W.heap[m]? :=fun h=>SJ h _ _
 have g: ∀m,m<w2.heap.size->((w2.alloc X).drewN nq).heap[m]? =w2.heap[m]? :=fun m hm=>by
   show (w2.alloc X).heap[m]? =_
   exact heap_alloc _ _ hm
 have q1:(World.heap ((((((((((w2.alloc X).drewN nq).setCell ⟨w.heap.size,0,none⟩ (.int .u8 c)).setCell ⟨w.heap.size+1+1+1,0,none⟩ (.string (fe c))).setCell ⟨w.heap.size+1+1+1,1,none⟩ (.int .u8 (nY c))).setCell ⟨w.heap.size+1+1+1,2,none⟩ (.bool (nZ c))).setCell
    ⟨w.heap.size+1+1+1,3,none⟩ (.int .u8 (n6 c))).setCell ⟨w.heap.size+1+1+1,4,none⟩ (.bool (n8 c))).setCell ⟨w.heap.size+1+1+1,5,none⟩ (.int .i64 (AH c))).setCell ⟨w.heap.size+1+1+1,6,none⟩ (.bool (Qc c)) |>.setCell ⟨w.heap.size+1+1+1,7,none⟩ (.func (.func (131+c)) #[] #[])))[b]? =some (.map b9 18):=by
   rw[bX (by omega),bX (by omega),bX (by omega),bX (by omega),bX (by omega),bX (by omega),bX (by omega),bX (by omega),bX (by omega),g _ (by omega)];exact hb
 have q2:(World.heap ((((((((((w2.alloc X).drewN nq).setCell ⟨w.heap.size,0,none⟩ (.int .u8 c)).setCell ⟨w.heap.size+1+1+1,0,none⟩ (.string (fe c))).setCell ⟨w.heap.size+1+1+1,1,none⟩ (.int .u8 (nY c))).setCell ⟨w.heap.size+1+1+1,2,none⟩ (.bool (nZ c))).setCell
    ⟨w.heap.size+1+1+1,3,none⟩ (.int .u8 (n6 c))).setCell ⟨w.heap.size+1+1+1,4,none⟩ (.bool (n8 c))).setCell ⟨w.heap.size+1+1+1,5,none⟩ (.int .i64 (AH c))).setCell ⟨w.heap.size+1+1+1,6,none⟩ (.bool (Qc c)) |>.setCell ⟨w.heap.size+1+1+1,7,none⟩ (.func (.func (131+c)) #[] #[])))[r]? =some (.mapIter (some b) 18 (seen.push i) 18):=by
   rw[bX (by omega),bX (by omega),bX (by omega),bX (by omega),bX (by omega),bX (by omega),bX (by omega),bX (by omega),bX (by omega),g _ (by omega)];exact hr
 refine ⟨⟨seen.push i,18,q1,q2,Nat.le_refl _,?_,?_,?_,?_,?_,?_⟩,af.ic q1 q2⟩
 . exact ((((((((((af.below_drewN (hB.alloc (by omega) X) nq).setCell (Nat.le_refl _) _).setCell (p:=⟨w.heap.size+1+1+1,0,none⟩) (by simp;omega) _).setCell (p:=⟨w.heap.size+1+1+1,1,none⟩) (by simp;omega) _).setCell (p:=⟨w.heap.size+1+1+1,2,none⟩) (by simp;omega) _).setCell (p:=⟨w.heap.size+1+1+1,3,none⟩) (by simp;omega) _).setCell
    (p:=⟨w.heap.size+1+1+1,4,none⟩) (by simp;omega) _).setCell (p:=⟨w.heap.size+1+1+1,5,none⟩) (by simp;omega) _).setCell (p:=⟨w.heap.size+1+1+1,6,none⟩) (by simp;omega) _).setCell (p:=⟨w.heap.size+1+1+1,7,none⟩) (by simp;omega) _)
 . simp;omega
 . refine ((((((((((i1.alloc X).drewN nq).set 0 _).other (by omega) _ _).other (by omega) _ _).other (by omega) _ _).other (by omega) _ _).other (by omega) _ _).other (by omega) _ _).other (by omega) _ _).other (by omega) _ _ |>.cast ?_
   rw[af.aby (hK.trans hc),hK];rfl
 . exact ((((((((((i2.alloc X).drewN nq).other (by omega) _ _).other (by omega) _ _).other (by omega) _ _).other (by omega) _ _).other (by omega) _ _).other (by omega) _ _).other (by omega) _ _).other (by omega) _ _).other (by omega) _ _
 . exact ((((((((((i3.alloc X).drewN nq).other (by omega) _ _).other (by omega) _ _).other (by omega) _ _).other (by omega) _ _).other (by omega) _ _).other (by omega) _ _).other (by omega) _ _).other (by omega) _ _).other (by omega) _ _
 . have q:=((((((((((i4.alloc X).drewN nq).other (m:=w.heap.size) (by omega) 0 (.int .u8 c)).set 0 (.string (fe c))).set 1 (.int .u8 (nY c))).set 2 (.bool (nZ c))).set 3 (.int .u8 (n6 c))).set 4 (.bool (n8 c))).set 5 (.int .i64 (AH c))).set 6 (.bool (Qc c))).set 7 (.func (.func (131+c)) #[] #[])
   simp only[List.setIfInBounds_toArray,List.set_cons_zero,List.set_cons_succ] at q
   rw[af.aby (hK.trans hc),hK]
   have e:Rw c= .func (.func (131+c)) #[] #[]:=if_neg (by omega)
   rw[e];exact q
theorem af.qp {w w2:World} {K i b r nq:Nat} {wt:Int} {sl:Value} {seen:Array Nat} {X:Obj} (hK:K≠i+1) (hb:w2.heap[b]? =some (.map b9 18)) (hr:w2.heap[r]? =some (.mapIter (some b) 18 (seen.push i) 18))
   (hB:Below w.heap.size w w2) (h1:w.heap.size+1+1+1+1<=b) (h2:b<r) (hl:r<w2.heap.size)
   (i1:Is w2 w.heap.size 40 #[.int .u8 (af.fW K seen),.int .i64 wt,.string ⟨#[]⟩,.string ⟨#[]⟩,.string ⟨#[]⟩,.int .i64 0]) (i2:Is w2 (w.heap.size+1) 85 #[sl])
   (i3:Is w2 (w.heap.size+1+1) 40 #[.int .u8 0,.int .i64 0,.string ⟨#[]⟩,.string ⟨#[]⟩,.string ⟨#[]⟩,.int .i64 0])
   (i4:Is w2 (w.heap.size+1+1+1) 101 #[.string (fe (af.fW K seen)),.int .u8 (nY (af.fW K seen)),.bool (nZ (af.fW K seen)),.int .u8 (n6 (af.fW K seen)),.bool (n8 (af.fW K seen)),.int .i64 (AH (af.fW K seen)),.bool (Qc (af.fW K seen)),Rw (af.fW K seen)]):
   af.Ql w K wt sl b r ((w2.alloc X).drewN nq)/\((w2.alloc X).drewN nq).rangeLeft b r=(leftOf b9 (seen.push i)).size:=by
 have g: ∀m,m<w2.heap.size->((w2.alloc X).drewN nq).heap[m]? =w2.heap[m]? :=fun m hm=>by
   show (w2.alloc X).heap[m]? =_
   exact heap_alloc _ _ hm
 refine ⟨⟨seen.push i,18,(g _ (by omega)).trans hb,(g _ (by omega)).trans hr,Nat.le_refl _,af.below_drewN (hB.alloc (by omega) X) nq,by simp;omega,?_,?_,?_,?_⟩,af.ic ((g _ (by omega)).trans hb) ((g _ (by omega)).trans hr)⟩
 . rw[af.XW hK];exact (i1.alloc X).drewN nq
 . exact (i2.alloc X).drewN nq
 . exact (i3.alloc X).drewN nq
 . rw[af.XW hK];exact (i4.alloc X).drewN nq
theorem af.ye {seen:Array Nat} {i:Nat} (hi:i<18) (h:seen.contains i=false):(leftOf b9 (seen.push i)).size<(leftOf b9 seen).size:=
 left_shrinks b9 seen (th i) (by
  simp only[leftOf,Array.toList_filter,List.mem_filter,b9,List.mem_map,List.mem_range]
  exact ⟨⟨i,hi,rfl⟩,by simpa [th] using h⟩)
end
section
open Go.RowKit Go.af
set_option maxRecDepth 100000 in
set_option maxHeartbeats 4000000 in
theorem af.akq (u:Nat->ByteArray) (wt:Int) (B off len:Nat) (w:World) (hB:B<w.heap.size) (hc: ∀i,i<len->w.cell? ⟨B,off+i,none⟩=some (.string (u i))) (h1:1<=len) (h3:len<=maxLen) (hu: ∀i,i<len->(u i).size<=maxLen)
  (WO: -1<=wt/\wt<=999999999) (hs:kindOf (u 0).data.toList=0/\nY (kindOf (u 0).data.toList)=0/\nZ (kindOf (u 0).data.toList)=false/\n6 (kindOf (u 0).data.toList)=0/\n8 (kindOf (u 0).data.toList)=false):
  Calls Tryz.prog 223 #[.agg #[.int .u8 0,.int .i64 wt,.string ⟨#[]⟩,.string ⟨#[]⟩,.string ⟨#[]⟩,.int .i64 0],.slice (some ⟨B,off,none⟩) len len] w (af.Kh u len wt w):=by
 have HU:=Lib.hid hu;clear hu
 have HS:=Lib.hid hs;clear hs
 unfold maxLen at h3
 go_enter Tryz.func223,Tryz.ntmps223
 go_wp2_with (first|(go_at_call 67;refine (af.kinds _).mono ?_;rintro e w1 ⟨b,rfl,cJ,dD,Ja⟩;have pE:=Lib.hid Ja;have CR:=Lib.hid cJ;clear Ja cJ)|(at_range;refine td _ rfl _ _ rfl 38 101 Tryz.underlying95 b b9 18 rfl dD ?_))
 go_frame
 go_loopw [8] (fun _ wr=>af.Ql w (kindOf (u 0).data.toList) wt (.slice (some ⟨B,off,none⟩) len len) b w1.heap.size wr) (fun _ wr=>wr.rangeLeft b w1.heap.size)
 case atStart=>
  have q1:=(((((Is.new w 40 #[.int .u8 0,.int .i64 wt,.string ⟨#[]⟩,.string ⟨#[]⟩,.string ⟨#[]⟩,.int .i64 0]).alloc _).alloc _).alloc _).below pE.out (by simp;omega)).alloc (.mapIter (some b) 18 #[] 18)
  have q2:=((((Is.new (w.alloc (.cells #[.int .u8 0,.int .i64 wt,.string ⟨#[]⟩,.string ⟨#[]⟩,.string ⟨#[]⟩,.int .i64 0] 40)) 85 #[.slice (some ⟨B,off,none⟩) len len]).alloc _).alloc _).below pE.out (by simp)).alloc (.mapIter (some b) 18 #[] 18)
  have q3:=(((Is.new ((w.alloc (.cells #[.int .u8 0,.int .i64 wt,.string ⟨#[]⟩,.string ⟨#[]⟩,.string ⟨#[]⟩,.int .i64 0] 40)).alloc (.cells #[.slice (some ⟨B,off,none⟩) len len] 85)) 40 #[.int .u8 0,.int .i64 0,.string ⟨#[]⟩,.string ⟨#[]⟩,.string ⟨#[]⟩,.int .i64 0]).alloc _).below pE.out (by simp)).alloc (.mapIter (some b) 18 #[] 18)
  have q4:=((Is.new (((w.alloc (.cells #[.int .u8 0,.int .i64 wt,.string ⟨#[]⟩,.string ⟨#[]⟩,.string ⟨#[]⟩,.int .i64 0] 40)).alloc (.cells #[.slice (some ⟨B,off,none⟩) len len] 85)).alloc (.cells #[.int .u8 0,.int .i64 0,.string ⟨#[]⟩,.string ⟨#[]⟩,.string ⟨#[]⟩,.int .i64 0] 40)) 101
    #[.string ⟨#[]⟩,.int .u8 0,.bool false,.int .u8 0,.bool false,.int .i64 0,.bool false,.nilFunc]).below pE.out (by simp)).alloc (.mapIter (some b) 18 #[] 18)
  rw[World.size_alloc] at q2
  rw[World.size_alloc,World.size_alloc] at q3
  rw[World.size_alloc,World.size_alloc,World.size_alloc] at q4
  have tQ:b<w1.heap.size:=(Array.getElem?_eq_some_iff.1 dD).1
  refine ⟨#[],18,(Go.af.heap_alloc _ _ tQ).trans dD,by show (w1.heap.push _)[w1.heap.size]? =_;simp,Nat.le_refl _,?_,by simp,?_,q2,q3,?_⟩
  . exact ((((((Below.refl _ w).alloc (Nat.le_refl _) _).alloc (by simp) _).alloc (by simp;omega) _).alloc (by simp;omega) _).trans (pE.out.mono (by simp;omega))).alloc (by have:=pE.out.size;simp at this;omega) _
  . exact q1.cast (by rw[af.n9];rfl)
  . exact q4.cast (by rw[af.n9];rfl)
 case round=>
  obtain ⟨seen,c0,m1,m2,m3,m4,m5,i1,i2,i3,i4⟩:=hrel
  have SN:=CR.out
  simp at SN
  have tQ:b<w1.heap.size:=(Array.getElem?_eq_some_iff.1 dD).1
  obtain ⟨a0,a1,a2,a3,a4,a5⟩:=i1.yU
  have a6:=i2.one
  obtain ⟨d0,d1,d2,d3,d4,d5⟩:=i3.yU
  obtain ⟨e0,e1,e2,e3,e4,e5,e6,e7⟩:=i4.eight
  have f1:=i1.frozen
  have f2:=i2.frozen
  have f3:=i3.frozen
  have f4:=i4.frozen
  have M1:=Lib.hid m1
  have M2:=Lib.hid m2
  have M4:=Lib.hid m4
  have I1:=Lib.hid i1
  have I2:=Lib.hid i2
  have I3:=Lib.hid i3
  have I4:=Lib.hid i4
  clear m1 m2 i1 i2 i3 i4 m4
  go_wp2_with (first|(at_next;refine u0 _ rfl _ rfl w1.heap.size b 18 c0 seen b9 18 rfl M2.out M1.out af.Qm m3 af.Ki ?_ ?_))
  . intro  hD
    have hK:=af.Gu hD (kindOf (u 0).data.toList) (oa _)
    rw[hK] at a0 e0 e1 e2 e3 e4 e5 e6 e7
    have HD:=Lib.hid hD;clear hD hK
    have hr: ∀i,i<len->wr.cell? ⟨B,off+i,none⟩=some (.string (u i)):=fun i hi=>(M4.out.cell (p:=⟨B,off+i,none⟩) hB).trans (hc i hi)
    have HR:=Lib.hid hr;clear hr
    have hl:=I4.out.lt
    have NO:w.heap.size<wr.heap.size:=by omega
    have vr:w.heap.size+1<wr.heap.size:=by omega
    have jF:w.heap.size+1+1<wr.heap.size:=by omega
    have Y7:B<wr.heap.size:=by omega
    have HC:=Lib.hid hc;clear hc
    have Y8:=Lib.hid dD;clear dD
    have Ru:=oa (u 0).data.toList
    obtain ⟨K,hK⟩: ∃K,K=kindOf (u 0).data.toList:=⟨_,rfl⟩
    rw[<-hK] at a0 e0 e1 e2 e3 e4 e5 e6 e7 Ru
    have hs:=HS.out
    rw[<-hK] at hs
    obtain ⟨h0,ha,hb,ht,hn⟩:=hs
    have HK:=Lib.hid hK;clear hK
    rw[ha] at e1;rw[hb] at e2;rw[ht] at e3;rw[hn] at e4
    have HA:=Lib.hid ha;have o7:=Lib.hid hb;have HT:=Lib.hid ht;have HN:=Lib.hid hn;clear ha hb ht hn
    have hz:fe K=⟨#[]⟩:=by rw[h0];rfl
    rw[hz] at e0
    have H0:=Lib.hid h0
    clear h0 hz
    by_cases Kj:len=1
    .   subst Kj
        go_wp2
        go_loop [9,46] (fun m i=> ∃j:Nat,j<=4/\i= .int .i64 j/\m= .int .i64 (([false,false,false,false].take j).count true:Nat)) (fun _ i=>4 - (intOf i).toNat)
        case atStart=>exact ⟨0,Nat.zero_le _,rfl,rfl⟩
        case round=>
         obtain ⟨j,hj,rfl,rfl⟩:=hrel
         obtain rfl|rfl|rfl|rfl|rfl:j=0\/j=1\/j=2\/j=3\/j=4:=by omega
         . go_wp2;go_round;(case rel=>exact ⟨1,by omega,rfl,rfl⟩);(case measure=>simp[intOf])
         . go_wp2;go_round;(case rel=>exact ⟨2,by omega,rfl,rfl⟩);(case measure=>simp[intOf])
         . go_wp2;go_round;(case rel=>exact ⟨3,by omega,rfl,rfl⟩);(case measure=>simp[intOf])
         . go_wp2;go_round;(case rel=>exact ⟨4,by omega,rfl,rfl⟩);(case measure=>simp[intOf])
         . go_wp2
           refine bodyPost_ret (v:= .tuple #[.agg #[.int .u8 0,.int .i64 0,.string ⟨#[]⟩,.string ⟨#[]⟩,.string ⟨#[]⟩,.int .i64 0],.int .i64 3]) (by simp[results,Tryz.results223,go_sem, *]) rfl (af.dw HK.out HA.out o7.out HT.out HN.out (by simp[af.gu,af.valOf,af.eM,H0.out]) ?_);(repeat (first|(with_reducible refine Below.setCell ?_ (by first|(simp;done)|(simp;omega)) _)|(with_reducible refine Below.alloc ?_ (by first|(simp;done)|(simp;omega)) _)|(with_reducible refine af.below_drewN ?_ _)|(with_reducible exact M4.out)))
    .   skip
        go_wp2
        go_loop [9,46] (fun m i=> ∃j:Nat,j<=4/\i= .int .i64 j/\m= .int .i64 (([false,false,false,false].take j).count true:Nat)) (fun _ i=>4 - (intOf i).toNat)
        case atStart=>exact ⟨0,Nat.zero_le _,rfl,rfl⟩
        case round=>
         obtain ⟨j,hj,rfl,rfl⟩:=hrel
         obtain rfl|rfl|rfl|rfl|rfl:j=0\/j=1\/j=2\/j=3\/j=4:=by omega
         . go_wp2;go_round;(case rel=>exact ⟨1,by omega,rfl,rfl⟩);(case measure=>simp[intOf])
         . go_wp2;go_round;(case rel=>exact ⟨2,by omega,rfl,rfl⟩);(case measure=>simp[intOf])
         . go_wp2;go_round;(case rel=>exact ⟨3,by omega,rfl,rfl⟩);(case measure=>simp[intOf])
         . go_wp2;go_round;(case rel=>exact ⟨4,by omega,rfl,rfl⟩);(case measure=>simp[intOf])
         . go_wp2
           refine bodyPost_ret (v:= .tuple #[.agg #[.int .u8 0,.int .i64 0,.string ⟨#[]⟩,.string ⟨#[]⟩,.string ⟨#[]⟩,.int .i64 0],.int .i64 3]) (by simp[results,Tryz.results223,go_sem, *]) rfl (af.dw HK.out HA.out o7.out HT.out HN.out (by simp[af.gu,af.valOf,af.eM,H0.out]) ?_);(repeat (first|(with_reducible refine Below.setCell ?_ (by first|(simp;done)|(simp;omega)) _)|(with_reducible refine Below.alloc ?_ (by first|(simp;done)|(simp;omega)) _)|(with_reducible refine af.below_drewN ?_ _)|(with_reducible exact M4.out)))
  . intro  e he w2 q1 q2 q3 q4 q5 q6 q7
    obtain ⟨i,hi,rfl,kJ⟩:=af.Kk he
    dsimp only[th,Kl] at q1 q7 ⊢
    obtain ⟨c,Ex⟩: ∃c,c=i+1:=⟨_,rfl⟩
    rw[<-Ex] at q7 ⊢
    have kY:Rw c= .func (.func (131+c)) #[] #[]:=if_neg (by omega)
    rw[kY] at q7 ⊢
    clear kY
    have pF:=Lib.hid Ex;clear Ex
    have Q1:Hid (w2.heap[w1.heap.size]? =some (.mapIter (some b) 18 (seen.push i) 18)):=Lib.hid q1
    have HI:=Lib.hid kJ
    have HO:Hid (w2.os=wr.os/\w2.tape=wr.tape/\w2.output=wr.output/\w2.heap.size=wr.heap.size):=Lib.hid ⟨q2,q3,q4,q5⟩
    have Q6:=Lib.hid q6
    have WQ:w1.heap.size<w2.heap.size:=by omega
    have j1:=I1.out.of_heap (q6 _ (by omega))
    have j2:=I2.out.of_heap (q6 _ (by omega))
    have j3:=I3.out.of_heap (q6 _ (by omega))
    have j4:=I4.out.of_heap (q6 _ (by omega))
    have Hl:=I4.out.lt
    have hl:w.heap.size+1+1+1<w2.heap.size:=by omega
    clear q1 q2 q3 q4 q5 q6 he kJ a0 a1 a2 a3 a4 a5 a6 e0 e1 e2 e3 e4 e5 e6 e7
    obtain ⟨a0,a1,a2,a3,a4,a5⟩:=j1.yU
    have a6:=j2.one
    obtain ⟨e0,e1,e2,e3,e4,e5,e6,e7⟩:=j4.eight
    have f1:=j1.frozen
    have f4:=j4.frozen
    have J1:=Lib.hid j1
    have J2:=Lib.hid j2
    have J3:=Lib.hid j3
    have J4:=Lib.hid j4
    clear j1 j2 j3 j4
    have NP: ∀i,i<len->w2.cell? ⟨B,off+i,none⟩=some (.string (u i)):=fun i hi=>by
        rw[<-hc i hi, <-M4.out.cell (p:=⟨B,off+i,none⟩) hB]
        exact Gv (Q6.out B (by omega)) _
    have NQ:=NP 0 (by omega)
    rw[Nat.add_zero] at NQ
    clear NP
    have HC:=Lib.hid hc;clear hc
    have Y8:=Lib.hid dD;clear dD
    have NO:w.heap.size<w2.heap.size:=by omega
    have vr:w.heap.size+1<w2.heap.size:=by omega
    have jF:w.heap.size+1+1<w2.heap.size:=by omega
    have Y7:B<w2.heap.size:=by omega
    have yY:Hid (w2.heap[b]? =some (.map b9 18)):=Lib.hid (by rw[Q6.out b (by omega)];exact M1.out)
    have yZ:Hid (Below w.heap.size w w2):=Lib.hid (af.DS M4.out HO.out Q6.out (by omega))
    by_cases heq:((fe c).toList==(u 0).toList)=true
    .   have HQ:Hid (kindOf (u 0).data.toList=c):=Lib.hid (af.Km (by have:=pF.out;omega) (by have:=pF.out;omega) heq)
        go_wp2
        go_quiet (fail)
        go_wp2
        go_region
        all_goals
         go_roundw
         case rel=>
           (repeat apply Exists.intro)
           exact ⟨(af.tT HQ.out pF.out yY.out Q1.out yZ.out (by omega) (by omega) (by omega) J1.out J2.out J3.out J4.out).1,rfl⟩
         case measure=>
           rw[af.ic M1.out M2.out]
           exact Nat.lt_of_le_of_lt (Nat.le_of_eq (af.tT HQ.out pF.out yY.out Q1.out yZ.out (by omega) (by omega) (by omega) J1.out J2.out J3.out J4.out).2) (af.ye hi HI.out)
    .   have SP:((fe c).toList==(u 0).toList)=false:=by simpa using heq
        clear heq
        have HQ:Hid (kindOf (u 0).data.toList≠i+1):=Lib.hid (by rw[<-pF.out];exact af.Gw (by have:=pF.out;omega) SP)
        go_wp2
        go_quiet (fail)
        go_wp2
        go_roundw
        case rel=>
         exact (af.qp HQ.out yY.out Q1.out yZ.out (by omega) (by omega) (by omega) J1.out J2.out J3.out J4.out).1
        case measure=>
         rw[af.ic M1.out M2.out]
         exact Nat.lt_of_le_of_lt (Nat.le_of_eq (af.qp HQ.out yY.out Q1.out yZ.out (by omega) (by omega) (by omega) J1.out J2.out J3.out J4.out).2) (af.ye hi HI.out)
end
section
open Go.RowKit Go.af
def af.wj (s:ByteArray):ByteArray:=⟨(Lib.trimSuffix s.data.toList [10]).toArray⟩
def af.Qd (s:ByteArray):Bool:=Lib.hasSuffix s.data.toList [10]
theorem af.alg (s:ByteArray) (w:World) (hs:s.size<=2097152):
  Calls Tryz.prog 220 #[.string s,.string ⟨#[10]⟩] w fun e w'=>e= .returned (.tuple #[.string (af.wj s),.bool (af.Qd s)])/\w'=w:=
 Tryz.Rt s ⟨#[10]⟩ w (by omega)
theorem af.af8 (s:ByteArray):(af.wj s).size<=s.size:=by
 show (Lib.trimSuffix s.data.toList [10]).toArray.size<=s.data.size
 have:(Lib.trimSuffix s.data.toList [10]).length<=s.data.toList.length:=by
  unfold Lib.trimSuffix
  split<;>simp
 simpa using this
def af.qm (s:ByteArray):List ByteArray:=Lib.splitB ⟨#[32]⟩ 0 (Lib.countB s ⟨#[32]⟩) s
def af.lO (s:ByteArray):Nat:=(af.qm s).length
def af.mY (s:ByteArray) (i:Nat):ByteArray:=(af.qm s).getD i ByteArray.empty
theorem af.aeu (s:ByteArray):1<=af.lO s:=by
 have:=Lib.splitB_all ⟨#[32]⟩ (by decide) 0 _ s rfl
 unfold af.lO af.qm;omega
theorem af.af9 (s:ByteArray):af.lO s<=s.size+1:=by
 have:=Lib.splitB_all ⟨#[32]⟩ (by decide) 0 _ s rfl
 have:=Lib.countB_le ⟨#[32]⟩ (by decide) s.size s (Nat.le_refl _)
 unfold af.lO af.qm;omega
theorem af.SK (sep:ByteArray): ∀(k:Nat) (s:ByteArray),∀x∈Lib.splitB sep 0 k s,x.size<=s.size
 |0,s,x,h=>by simp[Lib.splitB] at h;rw[h];exact Nat.le_refl _
 |k +   1,s,x,h=>by
  unfold Lib.splitB at h
  split at h
  . simp at h;rw[h];exact Nat.le_refl _
  . rcases List.mem_cons.1 h with rfl|h
    .   simp;omega
    .   have:=af.SK sep k _ x h
        simp at this;omega
theorem af.acn (s:ByteArray) (i:Nat):(af.mY s i).size<=s.size:=by
 unfold af.mY
 rw[List.getD_eq_getElem?_getD]
 cases h:(af.qm s)[i]? with
 |none=>exact Nat.zero_le _
 |some x=>exact af.SK _ _ _ x (List.mem_of_getElem? h)
theorem af.ajB (s:ByteArray) (m:Int) (w:World) (hs:s.size<=2097152) (hm:w.cell? ⟨0,0,none⟩=some (.int .i64 m)):
  Calls Tryz.prog 221 #[.string s,.string ⟨#[32]⟩] w fun e w'=>
   e= .returned (.slice (some ⟨w.heap.size,0,none⟩) (af.lO s) (af.lO s))/\w'=w.alloc (.cells ((af.qm s).map Value.string).toArray 9):=by
 refine (Tryz.strings_Split s ⟨#[32]⟩ m w (by omega) hm (by decide)).mono ?_
 rintro e w' ⟨rfl,rfl⟩
 have:=Lib.splitB_all ⟨#[32]⟩ (by decide) 0 _ s rfl
 refine ⟨?_,rfl⟩
 unfold af.lO af.qm
 rw[this]
theorem af.aev (s:ByteArray) (i:Nat) (h:i<af.lO s):(((af.qm s).map Value.string).toArray)[i]? =some (.string (af.mY s i)):=by
 unfold af.lO at h
 simp[af.mY,h,List.getD_eq_getElem?_getD]
def af.Bz (ok:Bool) (u:Nat->ByteArray) (k:Nat):Bool:=ok&&(List.range k).all fun i=> !(u i).toList.isEmpty
theorem af.aga (ok:Bool) (u:Nat->ByteArray):af.Bz ok u 0=ok:=by simp[af.Bz]
theorem af.XX (ok:Bool) (u:Nat->ByteArray) (k:Nat):af.Bz ok u (k+1)=(af.Bz ok u k&& !(u k).toList.isEmpty):=by
 simp[af.Bz,List.range_succ,Bool.and_assoc]
theorem af.ahV {ok:Bool} {u:Nat->ByteArray} {k:Nat} (h:af.Bz ok u k=true):af.Bz ok u (k+1)= !(u k).toList.isEmpty:=by rw[af.XX,h];rfl
theorem af.ajC {ok:Bool} {u:Nat->ByteArray} {k:Nat} (h:af.Bz ok u k=false):af.Bz ok u (k+1)=false:=by rw[af.XX,h];rfl
def af.l7 (ok:Bool) (u:Nat->ByteArray) (len:Nat):Int ⊕ af.RR:=
 if af.Bz ok u len=false then .inl 3
 else if (u 0).toList=[104,97,114,100]/\1<len then af.xF (fun i=>u (i+1)) (len - 1) 0
 else if (u 0).toList=[119,101,105,103,104]/\2<len then
    (if j9 (u 1).data.toList=false then .inl 3 else af.xF (fun i=>u (i+2)) (len - 2) (if yW (u 1).data.toList=0 then -1 else yW (u 1).data.toList))
 else .inl 3
def af.Y4 (s:ByteArray) (w:World) (e:Ending) (w':World):Prop:=e= .returned (af.valOf (af.l7 (af.Qd s) (af.mY (af.wj s)) (af.lO (af.wj s))))/\Below w.heap.size w w'
theorem af.mZ {s s1:ByteArray} {ok:Bool} {n:Nat} {u:Nat->ByteArray} {w w':World} {v:Value} (h1:s1=af.wj s) (bu:ok=af.Qd s) (hn:n=af.lO s1) (hu:u=af.mY s1) (hv:v=af.valOf (af.l7 ok u n)) (hB:Below w.heap.size w w'):
  af.Y4 s w (.returned v) w':=by
 subst h1 bu hn hu hv;exact ⟨rfl,hB⟩
theorem af.aew (l:List UInt8):0<=yW l/\yW l<=999999999:=by
 unfold yW
 split
 . rename_i h
   simp only[j9,Bool.and_eq_true,decide_eq_true_eq] at h
   have h1:=af4 l h.2
   have h2:(10:Nat) ^ l.length<=10 ^ 9:=Nat.pow_le_pow_right (by omega) h.1.1.2
   omega
 . omega
end
end Go.Proofs
