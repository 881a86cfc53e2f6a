/- Contracts of the readers of names and numbers and of the library's calls. -/
import Derived.Laws.World
import Derived.Test.YthiaklapeamjlaaGreatDoorProg
import Derived.WalkKit
import Derived.WalkSpells
import Derived.WalkLawsBesides
import Derived.Lib.Hide
import Derived.Test.YthiaklapeamjlaaGreatDoorCTabs
import Derived.Test.YthiaklapeamjlaaGreatDoorCEvalD
import Derived.KernelRfl
import Derived.Maps.RangeWalk
import Derived.Deep.QuietTactic
import Derived.BigQuiet
import Derived.Deep.Draws
import Derived.WalkSmall
import Derived.Shelf.Small.Strs
import Derived.Shelf.Strings.Split
import Derived.Ground.NamesProg
import Derived.Lib.Strings
import Derived.Lib.Slices
import Derived.Lib.Walk
import Derived.Shelf.LaysM
import Derived.Shelf.Strings.Shaped
set_option linter.all false
set_option linter.unusedSectionVars false
set_option linter.deprecated false
namespace Go.af
section
def xD (c:UInt8):Bool:=48<=c&&c<=57
def BM (c:UInt8):Bool:=97<=c&&c<=122
theorem HP (c:UInt8):xD c=true↔(48<=(c.toNat:Int)/\(c.toNat:Int)<=57):=by
 simp[xD,UInt8.le_iff_toNat_le];omega
theorem Qa (c:UInt8):BM c=true↔(97<=(c.toNat:Int)/\(c.toNat:Int)<=122):=by
 simp[BM,UInt8.le_iff_toNat_le];omega
def val (l:List UInt8):Nat:=l.foldl (fun n c=>10*n+(c.toNat - 48)) 0
theorem ahS (l:List UInt8) (c:UInt8):val (l++[c])=10*val l+(c.toNat - 48):=by
 simp[val]
theorem af3 (l:List UInt8) (n:Nat) (h:l.all xD=true):l.foldl (fun n c=>10*n+(c.toNat - 48)) n<(n+1)*10 ^ l.length:=by
 induction l generalizing n with
 |nil=>simp
 |cons c l ih=>
  simp only[Bool.and_eq_true,List.all_cons] at h
  have hc:=(HP c).1 h.1
  have:=ih (10*n+(c.toNat - 48)) h.2
  rw[List.foldl_cons,List.length_cons,Nat.pow_succ]
  refine Nat.lt_of_lt_of_le this ?_
  have:10*n+(c.toNat - 48)+1<=(n+1)*10:=by omega
  calc _<=((n+1)*10)*10 ^ l.length:=Nat.mul_le_mul_right _ this
   _=_:=by rw[Nat.mul_assoc,Nat.mul_comm 10]
theorem af4 (l:List UInt8) (h:l.all xD=true):val l<10 ^ l.length:=by
 have:=af3 l 0 h;simpa [val] using this
def j9 (l:List UInt8):Bool:=decide (1<=l.length)&&decide (l.length<=9)&& !(decide (1<l.length)&&l.head? ==some 48)&&l.all xD
def yW (l:List UInt8):Int:=if j9 l=true then (val l:Int) else 0
def AA (l:List UInt8):Bool:=decide (1<=l.length)&&decide (l.length<=12)&&l.all BM
theorem XU (s:ByteArray) (k:Nat) (h:k<s.size):s.data.toList.take (k+1)=s.data.toList.take k++[s[k]]:=by
 rw[List.take_succ_eq_append_getElem (by simpa using h)];rfl
theorem abr (p:UInt8->Bool) (s:ByteArray) (k:Nat) (h:k<s.size) (ha:(s.data.toList.take k).all p=true) (hc:p s[k]=true):(s.data.toList.take (k+1)).all p=true:=by
 rw[XU s k h];simp[ha,hc]
theorem QZ (p:UInt8->Bool) (s:ByteArray) (k:Nat) (h:k<s.size) (hc:p s[k]=false):s.data.toList.all p=false:=by
 rw[Bool.eq_false_iff]
 intro e
 have:=List.all_eq_true.1 e s[k] (by
  have:s[k]=s.data.toList[k]'(by simpa using h):=rfl
  rw[this];exact List.getElem_mem _)
 rw[this] at hc;cases hc
theorem abt (p:UInt8->Bool) (s:ByteArray) (ha:(s.data.toList.take s.size).all p=true):s.data.toList.all p=true:=by
 rwa [List.take_of_length_le (by simp)] at ha
theorem adb (s:ByteArray) (h:0<s.size):s.data.toList.head? =some s[0]:=by
 have:s.data.toList.head? =s.data.toList[0]? :=by simp[List.head?_eq_getElem?]
 rw[this,List.getElem?_eq_getElem (by simpa using h)];rfl
end
end Go.af
namespace Go.Proofs
section
open Go.RowKit Go.af
theorem af.F9 {a b:Bool} (h:a=b):Ending.returned (.bool a)= .returned (.bool b):=by rw[h]
theorem af.ajx {l t:List UInt8} (ht:t=l) (h:j9 l=true):Ending.returned (.tuple #[.int .i64 (val t),.bool true])= .returned (.tuple #[.int .i64 (yW l),.bool (j9 l)]):=by rw[yW,if_pos h,h,ht]
theorem af.Qb {l:List UInt8} (h:j9 l=false):Ending.returned (.tuple #[.int .i64 0,.bool false])= .returned (.tuple #[.int .i64 (yW l),.bool (j9 l)]):=by rw[yW,h];rfl
set_option maxHeartbeats 400000 in
theorem af.ajy (s:ByteArray) (w:World) (hs:s.size<=maxLen):
   Calls Tryz.prog 152 #[.string s] w fun e w'=>e= .returned (.bool (AA s.data.toList))/\w=w':=by
 unfold maxLen at hs
 by_cases h0:s.size=0
 . have hb:Hid (AA s.data.toList=false):=Lib.hid (by simp[AA];omega)
   go_enter Tryz.func152,Tryz.ntmps152
   go_wp2
   go_ret
   exact ⟨af.F9 hb.out.symm,rfl⟩
 by_cases Ue:12<s.size
 . have hb:Hid (AA s.data.toList=false):=Lib.hid (by simp[AA];omega)
   go_enter Tryz.func152,Tryz.ntmps152
   go_wp2
   go_ret
   exact ⟨af.F9 hb.out.symm,rfl⟩
 have e0:((s.size:Int)==0)=false:=by rw[beq_eq_false_iff_ne];omega
 go_enter Tryz.func152,Tryz.ntmps152
 go_wp2
 go_loop [3,14] (fun _ i=> ∃k:Nat,k<=s.size/\i= .int .i64 k/\(s.data.toList.take k).all BM=true) (fun _ i=>s.size - (intOf i).toNat)
 case atStart=>exact ⟨0,Nat.zero_le _,rfl,rfl⟩
 case round=>
   obtain ⟨k,hk,rfl,HX⟩:=hrel
   have HA:=Lib.hid HX;clear HX
   by_cases aP:k<s.size
   . by_cases h1:(s[k].toNat:Int)<97
     .  go_wp2
        go_ret
        refine ⟨af.F9 ?_,rfl⟩
        have:BM s[k]=false:=by rw[Bool.eq_false_iff];intro e;have:=(Qa _).1 e;omega
        simp[AA,QZ BM s k aP this]
     .  by_cases h2:122<(s[k].toNat:Int)
        . go_wp2
          go_ret
          refine ⟨af.F9 ?_,rfl⟩
          have:BM s[k]=false:=by rw[Bool.eq_false_iff];intro e;have:=(Qa _).1 e;omega
          simp[AA,QZ BM s k aP this]
        . go_wp2
          go_round
          case rel=>exact ⟨k+1,by omega,by go_num,abr BM s k aP HA.out ((Qa _).2 (by omega))⟩
          case measure=>simp[intOf];omega
   . go_wp2
     go_ret
     obtain rfl:k=s.size:=by omega
     refine ⟨af.F9 ?_,rfl⟩
     simp[AA,abt BM s HA.out];omega
set_option maxHeartbeats 1000000 in
theorem af.DR (s:ByteArray) (w:World) (hs:s.size<=maxLen):
   Calls Tryz.prog 222 #[.string s] w fun e w'=>e= .returned (.tuple #[.int .i64 (yW s.data.toList),.bool (j9 s.data.toList)])/\w=w':=by
 unfold maxLen at hs
 by_cases h0:s.size=0
 . have hb:Hid (j9 s.data.toList=false):=Lib.hid (by simp[j9];omega)
   go_enter Tryz.func222,Tryz.ntmps222
   go_wp2
   go_ret2
   exact ⟨af.Qb hb.out,rfl⟩
 have e0:((s.size:Int)==0)=false:=by rw[beq_eq_false_iff_ne];omega
 by_cases h9:9<s.size
 . have hb:Hid (j9 s.data.toList=false):=Lib.hid (by simp[j9];omega)
   go_enter Tryz.func222,Tryz.ntmps222
   go_wp2
   go_ret2
   exact ⟨af.Qb hb.out,rfl⟩
 have h00:0<s.size:=by omega
 by_cases hz:1<s.size/\(((s[0]'h00).toNat:Int)==48)=true
 . obtain ⟨kQ,Hu⟩:=hz
   have hb:Hid (j9 s.data.toList=false):=Lib.hid (by
    have h3':(s[0].toNat:Int)=48:=by simpa using Hu
    have:s[0]=48:=UInt8.toNat_inj.1 (by simpa using (by omega:s[0].toNat=48))
    simp[j9,adb s (by omega),this];omega)
   go_enter Tryz.func222,Tryz.ntmps222
   go_wp2
   go_ret2
   exact ⟨af.Qb hb.out,rfl⟩
 have HZ:Hid (1<s.size-> ∀h:0<s.size,s[0]≠48):=Lib.hid (fun h1 h e=>hz ⟨h1,by rw[e];rfl⟩)
 have main  : ∀(Hc:s.size=1\/(1<s.size/\(((s[0]'h00).toNat:Int)==48)=false)),Calls Tryz.prog 222 #[.string s] w fun e w'=>e= .returned (.tuple #[.int .i64 (yW s.data.toList),.bool (j9 s.data.toList)])/\w=w':=by
   intro Hc
   clear hz
   rcases Hc with Hc|⟨Hc,Hd⟩
   all_goals
    go_enter Tryz.func222,Tryz.ntmps222
    go_wp2
    go_loop [4,5,26] (fun n _ i=> ∃k:Nat,k<=s.size/\i= .int .i64 k/\n= .int .i64 (val (s.data.toList.take k))/\(s.data.toList.take k).all xD=true) (fun _ _ i=>s.size - (intOf i).toNat)
    case atStart=>exact ⟨0,Nat.zero_le _,rfl,rfl,rfl⟩
    case round=>
        obtain ⟨k,hk,rfl,rfl,HX⟩:=hrel
        have hv:val (s.data.toList.take k)<1000000000:=by
          have:=af4 _ HX
          rw[List.length_take] at this
          have h2:(10:Nat) ^ (min k s.data.toList.length)<=10 ^ 9:=Nat.pow_le_pow_right (by omega) (by simp;omega)
          omega
        have HA:=Lib.hid HX;clear HX
        by_cases aP:k<s.size
        . have HS:Hid (val (s.data.toList.take (k+1))=10*val (s.data.toList.take k)+(s[k].toNat - 48)):=Lib.hid (by rw[XU s k aP,ahS])
          by_cases h1:(s[k].toNat:Int)<48
          . go_wp2
            go_ret2
            refine ⟨af.Qb ?_,rfl⟩
            have:xD s[k]=false:=by rw[Bool.eq_false_iff];intro e;have:=(HP _).1 e;omega
            simp[j9,QZ xD s k aP this]
          . by_cases h2:57<(s[k].toNat:Int)
            . go_wp2
              go_ret2
              refine ⟨af.Qb ?_,rfl⟩
              have:xD s[k]=false:=by rw[Bool.eq_false_iff];intro e;have:=(HP _).1 e;omega
              simp[j9,QZ xD s k aP this]
            . have hd:=abr xD s k aP HA.out ((HP _).2 (by omega))
              have HD:=Lib.hid hd;clear hd
              go_wp2
              go_round
              case rel=>
               refine ⟨k+1,by omega,by go_num,?_,HD.out⟩
               rw[HS.out];go_num
              case measure=>simp[intOf];omega
        . go_wp2
          go_ret2
          obtain rfl:k=s.size:=by omega
          refine ⟨af.ajx (by rw[List.take_of_length_le (by simp)]) ?_,rfl⟩
          have nC:=abt xD s HA.out
          simp only[j9,nC,Bool.and_true,Bool.and_eq_true,decide_eq_true_eq,Bool.not_eq_true']
          refine ⟨⟨by simp;omega,by simp;omega⟩,?_⟩
          by_cases h:1<s.size
          . have:=HZ.out h (by omega)
            rw[adb s (by omega)];simp[this]
          . simp;omega
 by_cases h1:1<s.size
 . exact main (.inr ⟨h1,by
    have:=HZ.out h1 (by omega)
    rw[beq_eq_false_iff_ne];intro e
    exact this (UInt8.toNat_inj.1 (by simpa using (by omega:s[0].toNat=48)))⟩)
 . exact main (.inl (by omega))
end
end Go.Proofs
section
set_option maxRecDepth 100000
namespace Go.af
open Go
def words:List (List UInt8):=[[],[97,112,97,114,116],[98,101,115,105,100,101],[97,99,114,111,115,115],[110,101,97,114],[116,111,103,101,116,104,101,114],[97,116],[115,101,97,116],[97,108,116,101,114,110,97,116,101],[104,111,115,116],[114,101,97,99,104],[115,112,101,97,107],[112,101,97,99,101],[99,111,109,112,97,110,121],[104,111,110,111,117,114],[102,105,108,108],[108,105,109,105,116],[107,105,116,99,104,101,110],[109,105,120]]
def Ek (c:Nat):List UInt8:=words.getD c []
def fe (c:Nat):ByteArray:=⟨(Ek c).toArray⟩
def nY (c:Nat):Int:=([0,103,103,103,103,103,103,103,0,0,101,0,0,0,0,0,0,100,0]:List Int).getD c 0
def nZ (c:Nat):Bool:=decide (1<=c/\c<=5)
def n6 (c:Nat):Int:=([0,0,0,0,0,0,116,116,101,101,0,101,101,101,101,101,101,116,101]:List Int).getD c 0
def n8 (c:Nat):Bool:=c==1||c==4||c==7||c==15||c==16
def AH (c:Nat):Int:=if c=4 then 1 else 0
def Qc (c:Nat):Bool:=c==7
def Rw (c:Nat):Value:=if c=0 then .nilFunc else .func (.func (131+c)) #[] #[]
def Kl (c:Nat):Value:= .agg #[.string (fe c),.int .u8 (nY c),.bool (nZ c),.int .u8 (n6 c),.bool (n8 c),.int .i64 (AH c),.bool (Qc c),Rw c]
def th (i:Nat):MapEntry:={ key:= .int .u8 ((i+1:Nat):Int),val:=Kl (i+1),born:=i }
def b9:Array MapEntry:=((List.range 18).map th).toArray
end Go.af
namespace Go.Ai
open Go
theorem aci {P:Program} {tt:TT} {O:dQ} {G:T cL} {m d f:Nat} {n0:Pos} {fn:Func} {c:Code} (hm:P.follows .mixedOrders=true) (hT:cr P tt) (hG:T8 P tt G)
  (hO:qI P (fun _=>none) O) (RT:kg O) (hf:P.funcs[f]? =some fn) (qJ: ¬fn.name= "runtime.NumGoroutine") (hb:fn.body=some c) {v:AV} {bk:St}
  (h:od O G m d f [] { heap:= .e,next:=n0 }=some (v,bk)) (w:World):
  Calls P f #[] w fun e w'=> ∃x ρ',e= .returned x/\av ρ' bk.next.toNat (fun _=>none) v x/\bA ρ' (fun _=>none) bk w'/\(∀b y,bk.heap.get b=some y->w.heap.size<=(ρ' b).aE)/\
    w'.os=w.os/\w'.tape=w.tape/\w'.output=w.output/\w.heap.size<=w'.heap.size/\ ∀k,k<w.heap.size->w'.heap[k]? =w.heap[k]? :=by
 have hr:=DZ hm hT hO RT hG m d (fun _=>⟨0,0,0⟩) { heap:= .e,next:=n0 } w f [] v bk [] h (BS (fun _ _ h=>by cases h) fun _ _ h=>by cases h) aA.nil
 have bU:(callFunc f ([]:List Value).toArray).run P w= .ok (.enter f #[]) w:=by simp[callFunc,hf,qJ,hb]
 rw[bU] at hr
 refine Calls.mono hr fun e w' he=> ?_
 cases e with
 |returned x=>
  obtain ⟨ρ',h1,_,_,h4,hE⟩:=he
  refine ⟨x,ρ',rfl,h1,h4,fun b y hb=> ?_,hE.os,hE.tape,hE.output,hE.size,fun k hk=>hE.block k hk fun b x hb=>by rw[T.cX] at hb;cases hb⟩
  rcases hE.vP b y hb with ⟨b',x',h2,_⟩|h2
  . rw[T.cX] at h2;cases h2
  . exact h2
 |panicked c=>exact he.elim
 |outgrown=>exact he.elim
end Go.Ai
namespace Go.af
open Go Go.Ai
def xE:AV->Option Value
 | .bool b=>some (.bool b)
 | .int k i=>some (.int k i)
 | .str s=>some (.string ⟨(s.map UInt8.ofNat).toArray⟩)
 | .func f [] []=>some (.func (.func f) #[] #[])
 |_=>none
theorem abu {ρ:Pos->Go.Ai.Loc} {n:Nat} {C:Cells} {v:AV} {x y:Value} (h:av ρ n C v x) (hc:xE v=some y):x=y:=by
 cases h with
 |bool b=>simp[xE] at hc;exact hc
 |int k i=>simp[xE] at hc;exact hc
 |str s bs hb=>
  simp only[xE,Option.some.injEq] at hc
  rw[<-hc, <-hb,List.map_map]
  have:(UInt8.ofNat∘UInt8.toNat)=id:=by funext c;simp
  rw[this,List.map_id]
 |func f a b a' b' hx hy h1 h2=>
  cases a<;>cases b<;>simp[xE] at hc
  rw[<-hc]
  have e1:a'= #[]:=Array.eq_empty_of_size_eq_zero (by simpa using hx.symm)
  have e2:b'= #[]:=Array.eq_empty_of_size_eq_zero (by simpa using hy.symm)
  rw[e1,e2]
 |_=>simp[xE] at hc
theorem abv {ρ:Pos->Go.Ai.Loc} {n:Nat} {C:Cells}: ∀{l:List AV} {xs ys:List Value},aA ρ n C l xs->l.mapM xE=some ys->xs=ys
 |[],[],ys,_,h=>by simp at h;rw[h]
 |[],_::_,_,h,_=>by have:=h.1;simp at this
 |_::_,[],_,h,_=>by have:=h.1;simp at this
 |v::l,x::xs,ys,h,hm=>by
  simp only[List.mapM_cons,Option.bind_eq_bind,Option.bind_eq_some_iff,Option.pure_def,Option.some.injEq] at hm
  obtain ⟨y,hy,zs,hz,rfl⟩:=hm
  have h0:av ρ n C v x:=h.2 0 v x rfl rfl
  have ih:=abv (ρ:=ρ) (n:=n) (C:=C) (l:=l) (xs:=xs) ⟨by have:=h.1;simpa using this,fun i a b ha hb=>h.2 (i+1) a b (by simpa using ha) (by simpa using hb)⟩ hz
  rw[abu h0 hy,ih]
def absV (c:Nat):List AV:=[.str ((Ek c).map UInt8.toNat),.int .u8 (nY c),.bool (nZ c),.int .u8 (n6 c),.bool (n8 c),.int .i64 (AH c),.bool (Qc c),.func (131+c) [] []]
def absE (i:Nat):AV×AV×Nat:=(.int .u8 ((i+1:Nat):Int),.agg (absV (i+1)),i)
def Q0:List (AV×AV×Nat):=(List.range 18).map absE
def XV (c:Nat):List Value:=[.string (fe c),.int .u8 (nY c),.bool (nZ c),.int .u8 (n6 c),.bool (n8 c),.int .i64 (AH c),.bool (Qc c),Rw c]
theorem ahT (c:Nat):Kl c= .agg (XV c).toArray:=rfl
theorem af5: ∀(i:Nat),i<18->(absV (i+1)).mapM xE=some (XV (i+1))
 |0,_=>rfl
 |1,_=>rfl
 |2,_=>rfl
 |3,_=>rfl
 |4,_=>rfl
 |5,_=>rfl
 |6,_=>rfl
 |7,_=>rfl
 |8,_=>rfl
 |9,_=>rfl
 |10,_=>rfl
 |11,_=>rfl
 |12,_=>rfl
 |13,_=>rfl
 |14,_=>rfl
 |15,_=>rfl
 |16,_=>rfl
 |17,_=>rfl
 |n+18,h=>absurd h (by omega)
theorem ald {ρ:Pos->Go.Ai.Loc} {n:Nat} {C:Cells} {es':Array MapEntry} (h2:Q0.length=es'.size)
   (h3: ∀(i:Nat) (e:AV×AV×Nat) (e':MapEntry),Q0[i]? =some e->es'[i]? =some e'->av ρ n C e.1 e'.key/\av ρ n C e.2.1 e'.val/\e.2.2=e'.born):es'=b9:=by
 have hs:es'.size=18:=by rw[<-h2];simp[Q0]
 apply Array.ext
 . rw[hs];simp[b9]
 . intro i hi Zs
   rw[hs] at hi
   have he:Q0[i]? =some (absE i):=by simp[Q0,hi]
   have mB:es'[i]? =some es'[i]:=Array.getElem?_eq_getElem _
   obtain ⟨a1,a2,a3⟩:=h3 i _ _ he mB
   have hk:b9[i]=th i:=by simp[b9]
   rw[hk]
   have b1:es'[i].key= .int .u8 ((i+1:Nat):Int):=abu a1 rfl
   obtain ⟨cs,MG,hc2⟩:=a2.A5
   have b2:es'[i].val=Kl (i+1):=by
    have Zv:=abv hc2 (af5 i hi)
    rw[MG,ahT, <-Zv]
   have b3:es'[i].born=i:=a3.symm
   calc es'[i]=⟨es'[i].key,es'[i].val,es'[i].born⟩:=rfl
    _=th i:=by rw[b1,b2,b3];rfl
end Go.af
namespace Go.Proofs
open Go Go.Ai Go.af Go.RowKit Go.Proofs.YthiaklapeamjlaaGreatDoor
noncomputable def af.abw:Bool:=Qt (R:=Bool) false (fun _=>none) gg 100000 60 67 [] { heap:= .e,next:= .h } fun v st=>match v with
 | .map b=>match st.heap.get b with
   |some (.map es c)=>La es Q0&&Nat.beq c 18
   |_=>false
 |_=>false
theorem af.YN:af.abw=true:=by kernel_rfl
theorem af.kinds (w:World):Calls Tryz.prog 67 #[] w fun e w'=> ∃b,e= .returned (.map (some b))/\w.heap.size<=b/\w'.heap[b]? =some (.map b9 18)/\Below w.heap.size w w':=by
 have h:=af.YN
 unfold af.abw at h
 rw[K7 false (fun _=>none) gg 100000 60] at h
 unfold vQ at h
 split at h<;>first|(cases h;done)|skip
 rename_i x hx
 obtain ⟨v,bk⟩:=x
 simp only at h
 split at h<;>first|(cases h;done)|skip
 rename_i b
 split at h<;>first|(cases h;done)|skip
 rename_i es c oI
 simp only[Bool.and_eq_true] at h
 have he:=Tb h.1
 have hc:=Nat.eq_of_beq_eq_true h.2
 subst he;subst hc
 refine (aci (by kernel_rfl) QX QY (by intro f s h;cases h) (by intro f s h;cases h) (fn:=Tryz.f67) (c:=Tryz.f67.body.get rfl) Tryz.func67 (by decide) rfl hx w).mono fun e w' hp=> ?_
 obtain ⟨x,ρ',he,hv,hW,S7,h1,h2,h3,h4,h5⟩:=hp
 cases hv with
 |map b hb=>
  obtain ⟨g1,g2,es',g3,g4,g5⟩:=hW.live b _ oI
  refine ⟨_,he,S7 b _ oI,?_,⟨h1,h2,h3,h4,h5⟩⟩
  rw[g3,ald g4 g5]
end Go.Proofs
end
section
namespace Go.af
open Go
def xe (l:List UInt8) (em:Bool):Bool:=(l==[45])&&em
def Ew (s:ByteArray) (em:Bool):ByteArray:=if xe s.data.toList em=true then ByteArray.empty else s
def tS (s:ByteArray) (em:Bool):Bool:=xe s.data.toList em||AA s.data.toList
end Go.af
namespace Go.Proofs
open Go.RowKit Go.af
theorem af.Vp {s:ByteArray} {em:Bool} {x:ByteArray} {b:Bool} (h1:x=Ew s em) (h2:b=tS s em):Ending.returned (.tuple #[.string x,.bool b])= .returned (.tuple #[.string (Ew s em),.bool (tS s em)]):=by rw[h1,h2]
set_option maxHeartbeats 400000 in
theorem af.cG (s:ByteArray) (em:Bool) (w:World) (hs:s.size<=maxLen):
   Calls Tryz.prog 281 #[.string s,.bool em] w fun e w'=>e= .returned (.tuple #[.string (Ew s em),.bool (tS s em)])/\w=w':=by
 cases em
 all_goals
   go_enter Tryz.func281,Tryz.ntmps281
   go_wp2_with (first|(go_at_call 152;refine (af.ajy _ _ hs).mono ?_;rintro e w' ⟨rfl,rfl⟩))
 . have h:s.toList=[45]:=by assumption
   go_ret2
   exact ⟨af.Vp (by simp[Ew,xe]) (by simp[af.tS,xe]),rfl⟩
 . go_ret2
   exact ⟨af.Vp (by simp[Ew,xe]) (by simp[af.tS,xe]),rfl⟩
 . have h:s.toList=[45]:=by assumption
   rw[Lib.toList_data] at h
   go_ret2
   exact ⟨af.Vp (by simp[Ew,xe,h];rfl) (by simp[af.tS,xe,h]),rfl⟩
 . have h: ¬s.toList=[45]:=by assumption
   rw[Lib.toList_data] at h
   go_ret2
   exact ⟨af.Vp (by simp[Ew,xe,h]) (by simp[af.tS,xe,h]),rfl⟩
end Go.Proofs
namespace Go.af
open Go Go.RowKit Go.ChangeMaps Go.MapKept
def kindOf (s:List UInt8):Nat:=if s=[] then 0 else if s∈words then words.idxOf s else 0
theorem af6 (c:Nat) (h1:1<=c) (h2:c<=18):kindOf (Ek c)=c:=by
 revert c
 have: ∀i,i<18->kindOf (Ek (i+1))=i+1:=by decide
 intro c h1 h2
 have:=this (c - 1) (by omega)
 rwa [show c - 1+1=c by omega] at this
theorem oa (s:List UInt8):kindOf s<=18:=by
 unfold kindOf
 split
 . omega
 . split
   . rename_i h;have:=List.idxOf_lt_length_of_mem h;simp[words] at this ⊢; omega
   . omega
theorem acj (s:List UInt8) (h:kindOf s≠0):Ek (kindOf s)=s:=by
 unfold kindOf at h ⊢
 split at h
 . exact absurd rfl h
 . split at h
   . rename_i h1 h2
     rw[if_neg h1,if_pos h2]
     unfold Ek
     rw[List.getD_eq_getElem?_getD,List.getElem?_eq_getElem (List.idxOf_lt_length_of_mem h2),List.getElem_idxOf]
     rfl
   . exact absurd rfl h
theorem u0 {P:Program} (w:World) {ops:Array Oper} {rest:List Oper} {o:Oper} {a:Act} {Q:Exit->Act->World->Prop}
   (hg:o.guard=none) (it:Operand) (Zt:o.op=Op.next it false) (r bm since c0:Nat) (seen:Array Nat) (es:Array MapEntry) (clock:Nat) (hit:a.eval it= .pointer (some ⟨r,0,none⟩))
   (hr:w.heap[r]? =some (.mapIter (some bm) since seen c0)) (hb:w.heap[bm]? =some (.map es clock)) (hold: ∀x∈es.toList,x.born<since) (hsc:since<=c0) (hn:(es.toList.map (·.born)).Nodup)
   (ale:(leftOf es seen).size=0->wpList P ops Q rest (a.put o.dst (.tuple #[.bool false])) w)
   (alf: ∀e∈(leftOf es seen).toList,∀w',w'.heap[r]? =some (.mapIter (some bm) since (seen.push e.born) clock)->w'.os=w.os->w'.tape=w.tape->w'.output=w.output->w'.heap.size=w.heap.size->(∀k,k≠r->w'.heap[k]? =w.heap[k]?)->
     (Instr.entry (.pointer (some ⟨r,0,none⟩))).run P w'= .ok (.tuple #[e.key,e.val]) w'->wpList P ops Q rest (a.put o.dst (.tuple #[.bool true,e.key,e.val])) w'):
   wpList P ops Q (o::rest) a w:=by
 have bX:bm≠r:=by intro e;rw[e,hr] at hb;cases hb
 refine wpList_plain hg fun K' hK'=> ?_
 unfold Oper.wp
 rcases run_next_at (P:=P) w o.type r bm since c0 seen es clock hr hb hold hsc with ⟨h0,bU⟩|⟨e,he,w1,HX,bU⟩
 . simp[execOp,Zt,hit,bU,Result.andThen]
   exact hK' _ _ (ale h0)
 . simp[execOp,Zt,hit,bU,Result.andThen]
   have hr1:w1.heap[r]? =some (.mapIter (some bm) since seen c0):=by rcases HX with rfl|rfl<;>exact hr
   have cJ:w1.heap[bm]? =some (.map es clock):=by rcases HX with rfl|rfl<;>exact hb
   have Bc:=heap_set (o':= .mapIter (some bm) since (seen.push e.born) clock) hr1
   have eS:(setBlock w1 r (.mapIter (some bm) since (seen.push e.born) clock)).heap[bm]? =some (.map es clock):=(Bc.2 bm bX).trans cJ
   refine hK' _ _ (alf e he _ Bc.1 (by rcases HX with rfl|rfl<;>rfl) (by rcases HX with rfl|rfl<;>rfl) (by rcases HX with rfl|rfl<;>rfl) (by rcases HX with rfl|rfl<;>simp[setBlock]<;>rfl) (fun k hk=> ?_) ?_)
   . refine (Bc.2 k hk).trans ?_;rcases HX with rfl|rfl<;>rfl
   . exact run_entry_at _ r bm since seen es clock e Bc.1 eS (by simp[leftOf] at he;simpa using he.1) hn
theorem td {P:Program} (w:World) {ops:Array Oper} {rest:List Oper} {o:Oper} {a:Act} {Q:Exit->Act->World->Prop}
  (hg:o.guard=none) (m:Operand) (t:TypeId) (Zt:o.op=Op.range t m) (k e:TypeId) (ht:P.underlying t=some (.map k e)) (bm:Nat) (es:Array MapEntry) (clock:Nat) (hm:a.eval m= .map (some bm))
  (hb:w.heap[bm]? =some (.map es clock))
  (hK:wpList P ops Q rest (a.put o.dst (.pointer (some ⟨w.heap.size,0,none⟩))) (w.alloc (.mapIter (some bm) clock #[] clock))):
  wpList P ops Q (o::rest) a w:=by
 refine wpList_plain hg fun K' hK'=> ?_
 have bU:=run_range_map (P:=P) w t k e bm es clock ht hb
 unfold Oper.wp
 simp[execOp,Zt,hm,bU,Result.andThen]
 exact hK' _ _ hK
end Go.af
end
namespace Go.af
section
open Go Go.RowKit
def Is (w:World) (n:Nat) (T:TypeId) (cs:Array Value):Prop:=w.heap[n]? =some (.cells cs T (0,0))
section
variable {w w' : World} {n m o : Nat} {T : TypeId} {cs : Array Value} {v : Value}
theorem Is.cell (h:Is w n T cs) (o:Nat):w.cell? ⟨n,o,none⟩=cs[o]? :=by unfold Is at h;simp[World.cell?,h]
theorem Is.frozen (h:Is w n T cs) (o:Nat):w.frozen? ⟨n,o,none⟩=false:=by unfold Is at h;simp[World.frozen?,h]
theorem Is.lt (h:Is w n T cs):n<w.heap.size:=(Array.getElem?_eq_some_iff.1 h).1
theorem Is.new (w:World) (T:TypeId) (cs:Array Value):Is (w.alloc (.cells cs T)) w.heap.size T cs:=by show (w.heap.push _)[w.heap.size]? =_;simp
theorem Is.alloc (h:Is w n T cs) (x:Obj):Is (w.alloc x) n T cs:=by
 have:=h.lt
 unfold Is at h ⊢
 rw[<-h];show (w.heap.push _)[n]? =_;simp[Array.getElem?_push,Nat.ne_of_lt this]
theorem Is.drew (h:Is w n T cs):Is w.drew n T cs:=h
theorem Is.drewN (h:Is w n T cs) (k:Nat):Is (w.drewN k) n T cs:=by unfold Is at h ⊢; rw[<-h];simp
theorem Is.set (h:Is w n T cs) (o:Nat) (v:Value):Is (w.setCell ⟨n,o,none⟩ v) n T (cs.setIfInBounds o v):=by
 have:=h.lt
 unfold Is at h ⊢
 have hm:=Array.getElem?_eq_some_iff.1 h
 simp[World.setCell,Array.getElem?_modify,h]
theorem Is.other (h:Is w n T cs) (bX:m≠n) (o:Nat) (v:Value):Is (w.setCell ⟨m,o,none⟩ v) n T cs:=by
 unfold Is at h ⊢
 rw[<-h];simp[World.setCell,Array.getElem?_modify,bX]
theorem Is.below {B:Nat} (h:Is w n T cs) (hb:Below B w w') (hn:n<B):Is w' n T cs:=by
 unfold Is at h ⊢; rw[hb.block n hn];exact h
theorem Is.of_heap (h:Is w n T cs) (e:w'.heap[n]? =w.heap[n]?):Is w' n T cs:=by unfold Is at h ⊢; rw[e];exact h
theorem Is.cast {je:Array Value} (h:Is w n T cs) (e:cs=je):Is w n T je:=e ▸h
theorem Is.one {a:Value} (h:Is w n T #[a]):w.cell? ⟨n,0,none⟩=some a:=h.cell 0
theorem Is.yU {a b c d e f:Value} (h:Is w n T #[a,b,c,d,e,f]):w.cell? ⟨n,0,none⟩=some a/\w.cell? ⟨n,1,none⟩=some b/\w.cell? ⟨n,2,none⟩=some c/\w.cell? ⟨n,3,none⟩=some d/\w.cell? ⟨n,4,none⟩=some e/\w.cell? ⟨n,5,none⟩=some f:=
 ⟨h.cell 0,h.cell 1,h.cell 2,h.cell 3,h.cell 4,h.cell 5⟩
theorem Is.eight {a b c d e f g i:Value} (h:Is w n T #[a,b,c,d,e,f,g,i]):w.cell? ⟨n,0,none⟩=some a/\w.cell? ⟨n,1,none⟩=some b/\w.cell? ⟨n,2,none⟩=some c/\w.cell? ⟨n,3,none⟩=some d/\w.cell? ⟨n,4,none⟩=some e/\w.cell? ⟨n,5,none⟩=some f/\w.cell? ⟨n,6,none⟩=some g/\w.cell? ⟨n,7,none⟩=some i:=
 ⟨h.cell 0,h.cell 1,h.cell 2,h.cell 3,h.cell 4,h.cell 5,h.cell 6,h.cell 7⟩
theorem Gv (e:w'.heap[n]? =w.heap[n]?) (o:Nat):w'.cell? ⟨n,o,none⟩=w.cell? ⟨n,o,none⟩:=by simp[World.cell?,e]
theorem heap_alloc (w:World) (x:Obj) (hn:n<w.heap.size):(w.alloc x).heap[n]? =w.heap[n]? :=by show (w.heap.push _)[n]? =_;simp[Array.getElem?_push,Nat.ne_of_lt hn]
theorem SJ (bX:m≠n) (o:Nat) (v:Value):(w.setCell ⟨m,o,none⟩ v).heap[n]? =w.heap[n]? :=by simp[World.setCell,Array.getElem?_modify,bX]
end
end
end Go.af
namespace Go.Proofs
section
open Go.Shelf
def Tryz.ack:Go.Shelf.Ren:=⟨fun|137=>219|217=>277|266=>313|n=>n,fun|9=>9|5=>5|3=>3|n=>n,fun|n=>n⟩
theorem Tryz.ajz:Go.Proofs.Lays.n137 Tryz.prog Tryz.ack:={
 mixed:=by kernel_rfl
 f137:=Tryz.func219.trans (congrArg some (by kernel_rfl))
 f217:=Tryz.func277.trans (congrArg some (by kernel_rfl))
 f266:=Tryz.func313.trans (congrArg some (by kernel_rfl))
 t3:=Tryz.underlying3
 a3:=Tryz.isAgg3
 z3:=Tryz.sizeOf3
 v3:=Tryz.zeroValue3
 t5:=Tryz.underlying5
 a5:=Tryz.isAgg5
 z5:=Tryz.sizeOf5
 v5:=Tryz.zeroValue5
 t9:=Tryz.underlying9
 a9:=Tryz.isAgg9
 z9:=Tryz.sizeOf9
 v9:=Tryz.zeroValue9 }
open Go.RowKit in
theorem Tryz.strings_IndexByte (s:ByteArray) (c:Int) (w:World):
 Calls Tryz.prog 219 #[.string s,.int .u8 c] w fun e w'=>e= .returned (.int .i64 (Lib.indexByte s.data.toList c.toNat.toUInt8))/\w'=w:=Any.strings_IndexByte Tryz.ajz s c w
def Tryz.acm:Go.Shelf.Ren:=⟨fun|146=>221|221=>279|268=>315|138=>316|143=>317|195=>331|197=>332|218=>333|219=>334|260=>337|217=>277|225=>338|224=>339|267=>340|266=>313|314=>341|n=>n,fun|9=>9|31=>85|3=>3|4=>4|0=>0|105=>300|21=>21|5=>5|46=>168|119=>303|139=>306|138=>305|146=>278|51=>141|n=>n,fun|1=>0|3=>1|4=>2|n=>n⟩
theorem Tryz.ajA:Go.Proofs.Lays.n146 Tryz.prog Tryz.acm:={
 mixed:=by kernel_rfl
 f138:=Tryz.func316.trans (congrArg some (by kernel_rfl))
 f143:=Tryz.func317.trans (congrArg some (by kernel_rfl))
 f146:=Tryz.func221.trans (congrArg some (by kernel_rfl))
 f195:=Tryz.func331.trans (congrArg some (by kernel_rfl))
 f197:=Tryz.func332.trans (congrArg some (by kernel_rfl))
 f217:=Tryz.func277.trans (congrArg some (by kernel_rfl))
 f218:=Tryz.func333.trans (congrArg some (by kernel_rfl))
 f219:=Tryz.func334.trans (congrArg some (by kernel_rfl))
 f221:=Tryz.func279.trans (congrArg some (by kernel_rfl))
 f224:=Tryz.func339.trans (congrArg some (by kernel_rfl))
 f225:=Tryz.func338.trans (congrArg some (by kernel_rfl))
 f260:=Tryz.func337.trans (congrArg some (by kernel_rfl))
 f266:=Tryz.func313.trans (congrArg some (by kernel_rfl))
 f267:=Tryz.func340.trans (congrArg some (by kernel_rfl))
 f268:=Tryz.func315.trans (congrArg some (by kernel_rfl))
 f314:=Tryz.func341.trans (congrArg some (by kernel_rfl))
 t0:=Tryz.underlying0
 a0:=Tryz.isAgg0
 z0:=Tryz.sizeOf0
 v0:=Tryz.zeroValue0
 t3:=Tryz.underlying3
 a3:=Tryz.isAgg3
 z3:=Tryz.sizeOf3
 v3:=Tryz.zeroValue3
 t4:=Tryz.underlying4
 a4:=Tryz.isAgg4
 z4:=Tryz.sizeOf4
 v4:=Tryz.zeroValue4
 t5:=Tryz.underlying5
 a5:=Tryz.isAgg5
 z5:=Tryz.sizeOf5
 v5:=Tryz.zeroValue5
 t9:=Tryz.underlying9
 a9:=Tryz.isAgg9
 z9:=Tryz.sizeOf9
 v9:=Tryz.zeroValue9
 t21:=Tryz.underlying21
 a21:=Tryz.isAgg21
 z21:=Tryz.sizeOf21
 v21:=Tryz.zeroValue21
 t31:=Tryz.underlying85
 a31:=Tryz.isAgg85
 z31:=Tryz.sizeOf85
 v31:=Tryz.zeroValue85
 t46:=Tryz.underlying168
 a46:=Tryz.isAgg168
 z46:=Tryz.sizeOf168
 v46:=Tryz.zeroValue168
 t51:=Tryz.underlying141
 a51:=Tryz.isAgg141
 z51:=Tryz.sizeOf141
 v51:=Tryz.zeroValue141
 t105:=Tryz.underlying300
 a105:=Tryz.isAgg300
 z105:=Tryz.sizeOf300
 v105:=Tryz.zeroValue300
 t119:=Tryz.underlying303
 a119:=Tryz.isAgg303
 z119:=Tryz.sizeOf303
 t138:=Tryz.underlying305
 a138:=Tryz.isAgg305
 z138:=Tryz.sizeOf305
 v138:=Tryz.zeroValue305
 t139:=Tryz.underlying306
 a139:=Tryz.isAgg306
 z139:=Tryz.sizeOf306
 v139:=Tryz.zeroValue306
 t146:=Tryz.underlying278
 a146:=Tryz.isAgg278
 z146:=Tryz.sizeOf278
 v146:=Tryz.zeroValue278
 g1:=by kernel_rfl
 g3:=by kernel_rfl
 g4:=by kernel_rfl }
open Go.RowKit Go.Lib in
theorem Tryz.strings_Split (s sep:ByteArray) (m:Int) (w:World) (hs:s.size<4294967281) (hm:w.cell? ⟨0,0,none⟩=some (.int .i64 m)) (h1:1<=sep.size):
 Calls Tryz.prog 221 #[.string s,.string sep] w fun e w'=>
  e= .returned (.slice (some ⟨w.heap.size,0,none⟩) (Lib.countB s sep+1) (Lib.countB s sep+1))/\w'=w.alloc (.cells ((Lib.splitB sep 0 (Lib.countB s sep) s).map Value.string).toArray 9):=Any.strings_Split Tryz.ajA (by kernel_rfl) s sep m w hs hm h1
end
section
set_option maxHeartbeats 1000000 in
theorem Tryz.Rt (s p:ByteArray) (w:World) (hs:s.size<=9223372036854775807):
   Calls Tryz.prog 220 #[.string s,.string p] w fun e w'=>e= .returned (.tuple #[.string ⟨(Lib.trimSuffix s.data.toList p.data.toList).toArray⟩,.bool (Lib.hasSuffix s.data.toList p.data.toList)])/\w'=w:=by
 have vt:p.size<=s.size->((s.size:Int) - (p.size:Int)+9223372036854775808) % 18446744073709551616 - 9223372036854775808=((s.size - p.size:Nat):Int):=fun _=>by omega
 go_enter Tryz.func220,Tryz.ntmps220
 go_wp2
 . have h2:(!((s.extract (s.size - p.size) s.size).toList==p.toList))=true:=by assumption
   have h3:(decide (p.size<=s.size)&&((s.extract (s.size - p.size) s.size).toList==p.toList))=false:=by
    have:((s.extract (s.size - p.size) s.size).toList==p.toList)=false:=by simpa using h2
    rw[this]
    simp
   go_ret2
   refine ⟨?_,rfl⟩
   rw[Lib.trimSuffix_miss s p h3, <-Lib.hasSuffix_raw,h3]
   rfl
 . have h1:p.size<=s.size:=by assumption
   have h2:(!((s.extract (s.size - p.size) s.size).toList==p.toList))=false:=by assumption
   have h2':((s.extract (s.size - p.size) s.size).toList==p.toList)=true:=by simpa using h2
   go_ret2
   refine ⟨?_,rfl⟩
   rw[Lib.trimSuffix_hit s p h1 h2', <-Lib.hasSuffix_raw,h2',decide_eq_true h1]
   rfl
 . have h1: ¬p.size<=s.size:=by assumption
   have h3:(decide (p.size<=s.size)&&((s.extract (s.size - p.size) s.size).toList==p.toList))=false:=by simp[h1]
   go_ret2
   refine ⟨?_,rfl⟩
   rw[Lib.trimSuffix_miss s p h3, <-Lib.hasSuffix_raw,h3]
   rfl
end
section
open Go.Shelf
def Tryz.abx:Go.Shelf.Ren:=⟨fun|219=>334|217=>277|225=>338|224=>339|267=>340|266=>313|314=>341|n=>n,fun|9=>9|3=>3|4=>4|5=>5|46=>168|146=>278|51=>141|n=>n,fun|1=>0|n=>n⟩
theorem Tryz.ahU:Go.Proofs.LaysM.n219 Tryz.prog Tryz.abx:={
 mixed:=by kernel_rfl
 f217:=Tryz.func277.trans (congrArg some (by kernel_rfl))
 f219:=Tryz.func334.trans (congrArg some (by kernel_rfl))
 f224:=Tryz.func339.trans (congrArg some (by kernel_rfl))
 f225:=Tryz.func338.trans (congrArg some (by kernel_rfl))
 f266:=Tryz.func313.trans (congrArg some (by kernel_rfl))
 f267:=Tryz.func340.trans (congrArg some (by kernel_rfl))
 f314:=Tryz.func341.trans (congrArg some (by kernel_rfl))
 t3:=Tryz.underlying3
 a3:=Tryz.isAgg3
 z3:=Tryz.sizeOf3
 v3:=Tryz.zeroValue3
 t4:=Tryz.underlying4
 a4:=Tryz.isAgg4
 z4:=Tryz.sizeOf4
 v4:=Tryz.zeroValue4
 t5:=Tryz.underlying5
 a5:=Tryz.isAgg5
 z5:=Tryz.sizeOf5
 v5:=Tryz.zeroValue5
 t9:=Tryz.underlying9
 a9:=Tryz.isAgg9
 z9:=Tryz.sizeOf9
 v9:=Tryz.zeroValue9
 t46:=Tryz.underlying168
 a46:=Tryz.isAgg168
 z46:=Tryz.sizeOf168
 v46:=Tryz.zeroValue168
 t51:=Tryz.underlying141
 a51:=Tryz.isAgg141
 z51:=Tryz.sizeOf141
 v51:=Tryz.zeroValue141
 t146:=Tryz.underlying278
 a146:=Tryz.isAgg278
 z146:=Tryz.sizeOf278
 v146:=Tryz.zeroValue278
 g1:=by kernel_rfl
 i3:=by kernel_rfl
 i4:=by kernel_rfl
 i5:=by kernel_rfl
 i9:=by kernel_rfl
 i46:=by kernel_rfl
 i51:=by kernel_rfl
 i146:=by kernel_rfl
 m1:=by kernel_rfl
 s1_3:=fun w h=>Go.Proofs.cell_of_shapedOpen_int (zero:= #[.int .i64 0]) (t:=3) h (of_decide_eq_true (by kernel_rfl)) (by kernel_rfl) rfl (by kernel_rfl) (by kernel_rfl) Tryz.underlying3 }
end
end Go.Proofs
