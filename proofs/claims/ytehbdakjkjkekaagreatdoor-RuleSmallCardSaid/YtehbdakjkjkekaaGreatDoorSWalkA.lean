/- Contracts of the readers of names and numbers and of the library's calls. -/
import Derived.Laws.World
import Derived.Test.YtehbdakjkjkekaaGreatDoorProg
import Derived.WalkKit
import Derived.WalkSpells
import Derived.WalkLawsBesides
import Derived.Lib.Hide
import Derived.Test.YtehbdakjkjkekaaGreatDoorSTabs
import Derived.Test.YtehbdakjkjkekaaGreatDoorSEvalD
import Derived.KernelRfl
import Derived.Maps.RangeWalk
import Derived.Deep.QuietTactic
import Derived.BigQuiet
import Derived.Deep.Draws
import Derived.WalkSmall
import Derived.Shelf.Small.Strs
import Derived.Shelf.Strings.Split
import Derived.Ground.NamesProg
import Derived.Lib.Strings
import Derived.Lib.Slices
import Derived.Lib.Walk
import Derived.Shelf.LaysM
import Derived.Shelf.Strings.Shaped
import Derived.Shelf.Strings.OnBuilder
import Derived.Shelf.Strconv.Itoa3
import Derived.Ground.Names2Prog
import Derived.Ground.SlgnProg
set_option linter.all false
set_option linter.unusedSectionVars false
set_option linter.deprecated false
section
namespace Go.ag
def qb (c:UInt8):Bool:=48<=c&&c<=57
def vC (c:UInt8):Bool:=97<=c&&c<=122
theorem ue (c:UInt8):qb c=true↔(48<=(c.toNat:Int)/\(c.toNat:Int)<=57):=by
 simp[qb,UInt8.le_iff_toNat_le];omega
theorem zN (c:UInt8):vC c=true↔(97<=(c.toNat:Int)/\(c.toNat:Int)<=122):=by
 simp[vC,UInt8.le_iff_toNat_le];omega
def val (l:List UInt8):Nat:=l.foldl (fun n c=>10*n+(c.toNat - 48)) 0
theorem Sv (l:List UInt8) (c:UInt8):val (l++[c])=10*val l+(c.toNat - 48):=by
 simp[val]
theorem Y0 (l:List UInt8) (n:Nat) (h:l.all qb=true):l.foldl (fun n c=>10*n+(c.toNat - 48)) n<(n+1)*10 ^ l.length:=by
 induction l generalizing n with
 |nil=>simp
 |cons c l ih=>
  simp only[Bool.and_eq_true,List.all_cons] at h
  have hc:=(ue c).1 h.1
  have:=ih (10*n+(c.toNat - 48)) h.2
  rw[List.foldl_cons,List.length_cons,Nat.pow_succ]
  refine Nat.lt_of_lt_of_le this ?_
  have:10*n+(c.toNat - 48)+1<=(n+1)*10:=by omega
  calc _<=((n+1)*10)*10 ^ l.length:=Nat.mul_le_mul_right _ this
   _=_:=by rw[Nat.mul_assoc,Nat.mul_comm 10]
theorem Y3 (l:List UInt8) (h:l.all qb=true):val l<10 ^ l.length:=by
 have:=Y0 l 0 h;simpa [val] using this
def jt (l:List UInt8):Bool:=decide (1<=l.length)&&decide (l.length<=9)&& !(decide (1<l.length)&&l.head? ==some 48)&&l.all qb
def sx (l:List UInt8):Int:=if jt l=true then (val l:Int) else 0
def rZ (l:List UInt8):Bool:=decide (1<=l.length)&&decide (l.length<=12)&&l.all vC
theorem OU (s:ByteArray) (k:Nat) (h:k<s.size):s.data.toList.take (k+1)=s.data.toList.take k++[s[k]]:=by
 rw[List.take_succ_eq_append_getElem (by simpa using h)];rfl
theorem S1 (p:UInt8->Bool) (s:ByteArray) (k:Nat) (h:k<s.size) (ha:(s.data.toList.take k).all p=true) (hc:p s[k]=true):(s.data.toList.take (k+1)).all p=true:=by
 rw[OU s k h];simp[ha,hc]
theorem Jy (p:UInt8->Bool) (s:ByteArray) (k:Nat) (h:k<s.size) (hc:p s[k]=false):s.data.toList.all p=false:=by
 rw[Bool.eq_false_iff]
 intro e
 have:=List.all_eq_true.1 e s[k] (by
  have:s[k]=s.data.toList[k]'(by simpa using h):=rfl
  rw[this];exact List.getElem_mem _)
 rw[this] at hc;cases hc
theorem S2 (p:UInt8->Bool) (s:ByteArray) (ha:(s.data.toList.take s.size).all p=true):s.data.toList.all p=true:=by
 rwa [List.take_of_length_le (by simp)] at ha
theorem U8 (s:ByteArray) (h:0<s.size):s.data.toList.head? =some s[0]:=by
 have:s.data.toList.head? =s.data.toList[0]? :=by simp[List.head?_eq_getElem?]
 rw[this,List.getElem?_eq_getElem (by simpa using h)];rfl
end Go.ag
end
section
namespace Go.Proofs
open Go.RowKit Go.ag
theorem ag.Cx {a b:Bool} (h:a=b):Ending.returned (.bool a)= .returned (.bool b):=by rw[h]
theorem ag.afj {l t:List UInt8} (ht:t=l) (h:jt l=true):Ending.returned (.tuple #[.int .i64 (val t),.bool true])= .returned (.tuple #[.int .i64 (sx l),.bool (jt l)]):=by rw[sx,if_pos h,h,ht]
theorem ag.IV {l:List UInt8} (h:jt l=false):Ending.returned (.tuple #[.int .i64 0,.bool false])= .returned (.tuple #[.int .i64 (sx l),.bool (jt l)]):=by rw[sx,h];rfl
set_option maxHeartbeats 400000 in
theorem ag.afk (s:ByteArray) (w:World) (hs:s.size<=maxLen):
   Calls Tryz.prog 116 #[.string s] w fun e w'=>e= .returned (.bool (rZ s.data.toList))/\w=w':=by
 unfold maxLen at hs
 by_cases h0:s.size=0
 . have hb:Hid (rZ s.data.toList=false):=Lib.hid (by simp[rZ];omega)
   go_enter Tryz.func116,Tryz.ntmps116
   go_wp2
   go_ret
   exact ⟨ag.Cx hb.out.symm,rfl⟩
 by_cases L7:12<s.size
 . have hb:Hid (rZ s.data.toList=false):=Lib.hid (by simp[rZ];omega)
   go_enter Tryz.func116,Tryz.ntmps116
   go_wp2
   go_ret
   exact ⟨ag.Cx hb.out.symm,rfl⟩
 have e0:((s.size:Int)==0)=false:=by rw[beq_eq_false_iff_ne];omega
 go_enter Tryz.func116,Tryz.ntmps116
 go_wp2
 go_loop [3,14] (fun _ i=> ∃k:Nat,k<=s.size/\i= .int .i64 k/\(s.data.toList.take k).all vC=true) (fun _ i=>s.size - (intOf i).toNat)
 case atStart=>exact ⟨0,Nat.zero_le _,rfl,rfl⟩
 case round=>
   obtain ⟨k,hk,rfl,DA⟩:=hrel
   have HA:=Lib.hid DA;clear DA
   by_cases bI:k<s.size
   . by_cases h1:(s[k].toNat:Int)<97
     .  go_wp2
        go_ret
        refine ⟨ag.Cx ?_,rfl⟩
        have:vC s[k]=false:=by rw[Bool.eq_false_iff];intro e;have:=(zN _).1 e;omega
        simp[rZ,Jy vC s k bI this]
     .  by_cases h2:122<(s[k].toNat:Int)
        . go_wp2
          go_ret
          refine ⟨ag.Cx ?_,rfl⟩
          have:vC s[k]=false:=by rw[Bool.eq_false_iff];intro e;have:=(zN _).1 e;omega
          simp[rZ,Jy vC s k bI this]
        . go_wp2
          go_round
          case rel=>exact ⟨k+1,by omega,by go_num,S1 vC s k bI HA.out ((zN _).2 (by omega))⟩
          case measure=>simp[intOf];omega
   . go_wp2
     go_ret
     obtain rfl:k=s.size:=by omega
     refine ⟨ag.Cx ?_,rfl⟩
     simp[rZ,S2 vC s HA.out];omega
set_option maxHeartbeats 1000000 in
theorem ag.lW (s:ByteArray) (w:World) (hs:s.size<=maxLen):
   Calls Tryz.prog 103 #[.string s] w fun e w'=>e= .returned (.tuple #[.int .i64 (sx s.data.toList),.bool (jt s.data.toList)])/\w=w':=by
 unfold maxLen at hs
 by_cases h0:s.size=0
 . have hb:Hid (jt s.data.toList=false):=Lib.hid (by simp[jt];omega)
   go_enter Tryz.func103,Tryz.ntmps103
   go_wp2
   go_ret2
   exact ⟨ag.IV hb.out,rfl⟩
 have e0:((s.size:Int)==0)=false:=by rw[beq_eq_false_iff_ne];omega
 by_cases h9:9<s.size
 . have hb:Hid (jt s.data.toList=false):=Lib.hid (by simp[jt];omega)
   go_enter Tryz.func103,Tryz.ntmps103
   go_wp2
   go_ret2
   exact ⟨ag.IV hb.out,rfl⟩
 have h00:0<s.size:=by omega
 by_cases hz:1<s.size/\(((s[0]'h00).toNat:Int)==48)=true
 . obtain ⟨mO,Kj⟩:=hz
   have hb:Hid (jt s.data.toList=false):=Lib.hid (by
    have h3':(s[0].toNat:Int)=48:=by simpa using Kj
    have:s[0]=48:=UInt8.toNat_inj.1 (by simpa using (by omega:s[0].toNat=48))
    simp[jt,U8 s (by omega),this];omega)
   go_enter Tryz.func103,Tryz.ntmps103
   go_wp2
   go_ret2
   exact ⟨ag.IV hb.out,rfl⟩
 have HZ:Hid (1<s.size-> ∀h:0<s.size,s[0]≠48):=Lib.hid (fun h1 h e=>hz ⟨h1,by rw[e];rfl⟩)
 have main  : ∀(Hc:s.size=1\/(1<s.size/\(((s[0]'h00).toNat:Int)==48)=false)),Calls Tryz.prog 103 #[.string s] w fun e w'=>e= .returned (.tuple #[.int .i64 (sx s.data.toList),.bool (jt s.data.toList)])/\w=w':=by
   intro Hc
   clear hz
   rcases Hc with Hc|⟨Hc,Hd⟩
   all_goals
    go_enter Tryz.func103,Tryz.ntmps103
    go_wp2
    go_loop [4,5,26] (fun n _ i=> ∃k:Nat,k<=s.size/\i= .int .i64 k/\n= .int .i64 (val (s.data.toList.take k))/\(s.data.toList.take k).all qb=true) (fun _ _ i=>s.size - (intOf i).toNat)
    case atStart=>exact ⟨0,Nat.zero_le _,rfl,rfl,rfl⟩
    case round=>
        obtain ⟨k,hk,rfl,rfl,DA⟩:=hrel
        have hv:val (s.data.toList.take k)<1000000000:=by
          have:=Y3 _ DA
          rw[List.length_take] at this
          have h2:(10:Nat) ^ (min k s.data.toList.length)<=10 ^ 9:=Nat.pow_le_pow_right (by omega) (by simp;omega)
          omega
        have HA:=Lib.hid DA;clear DA
        by_cases bI:k<s.size
        . have HS:Hid (val (s.data.toList.take (k+1))=10*val (s.data.toList.take k)+(s[k].toNat - 48)):=Lib.hid (by rw[OU s k bI,Sv])
          by_cases h1:(s[k].toNat:Int)<48
          . go_wp2
            go_ret2
            refine ⟨ag.IV ?_,rfl⟩
            have:qb s[k]=false:=by rw[Bool.eq_false_iff];intro e;have:=(ue _).1 e;omega
            simp[jt,Jy qb s k bI this]
          . by_cases h2:57<(s[k].toNat:Int)
            . go_wp2
              go_ret2
              refine ⟨ag.IV ?_,rfl⟩
              have:qb s[k]=false:=by rw[Bool.eq_false_iff];intro e;have:=(ue _).1 e;omega
              simp[jt,Jy qb s k bI this]
            . have hd:=S1 qb s k bI HA.out ((ue _).2 (by omega))
              have HD:=Lib.hid hd;clear hd
              go_wp2
              go_round
              case rel=>
               refine ⟨k+1,by omega,by go_num,?_,HD.out⟩
               rw[HS.out];go_num
              case measure=>simp[intOf];omega
        . go_wp2
          go_ret2
          obtain rfl:k=s.size:=by omega
          refine ⟨ag.afj (by rw[List.take_of_length_le (by simp)]) ?_,rfl⟩
          have oP:=S2 qb s HA.out
          simp only[jt,oP,Bool.and_true,Bool.and_eq_true,decide_eq_true_eq,Bool.not_eq_true']
          refine ⟨⟨by simp;omega,by simp;omega⟩,?_⟩
          by_cases h:1<s.size
          . have:=HZ.out h (by omega)
            rw[U8 s (by omega)];simp[this]
          . simp;omega
 by_cases h1:1<s.size
 . exact main (.inr ⟨h1,by
    have:=HZ.out h1 (by omega)
    rw[beq_eq_false_iff_ne];intro e
    exact this (UInt8.toNat_inj.1 (by simpa using (by omega:s[0].toNat=48)))⟩)
 . exact main (.inl (by omega))
end Go.Proofs
end
section
set_option maxRecDepth 100000
namespace Go.ag
open Go
def words:List (List UInt8):=[[],[97,112,97,114,116],[98,101,115,105,100,101],[97,99,114,111,115,115],[110,101,97,114],[116,111,103,101,116,104,101,114],[97,116],[115,101,97,116],[97,108,116,101,114,110,97,116,101],[104,111,115,116],[114,101,97,99,104],[115,112,101,97,107],[112,101,97,99,101],[99,111,109,112,97,110,121],[104,111,110,111,117,114],[102,105,108,108],[108,105,109,105,116],[107,105,116,99,104,101,110],[109,105,120]]
def vB (c:Nat):List UInt8:=words.getD c []
def cF (c:Nat):ByteArray:=⟨(vB c).toArray⟩
def mZ (c:Nat):Int:=([0,103,103,103,103,103,103,103,0,0,101,0,0,0,0,0,0,100,0]:List Int).getD c 0
def nc (c:Nat):Bool:=decide (1<=c/\c<=5)
def ng (c:Nat):Int:=([0,0,0,0,0,0,116,116,101,101,0,101,101,101,101,101,101,116,101]:List Int).getD c 0
def nh (c:Nat):Bool:=c==1||c==4||c==7||c==15||c==16
def xO (c:Nat):Int:=if c=4 then 1 else 0
def IW (c:Nat):Bool:=c==7
def Bc (c:Nat):Value:=if c=0 then .nilFunc else .func (.func (80+c)) #[] #[]
def vq (c:Nat):Value:= .agg #[.string (cF c),.int .u8 (mZ c),.bool (nc c),.int .u8 (ng c),.bool (nh c),.int .i64 (xO c),.bool (IW c),Bc c]
def nD (i:Nat):MapEntry:={ key:= .int .u8 ((i+1:Nat):Int),val:=vq (i+1),born:=i }
def bD:Array MapEntry:=((List.range 18).map nD).toArray
end Go.ag
namespace Go.Ai
open Go
theorem TU {P:Program} {tt:TT} {O:eW} {G:T aM} {m d f:Nat} {n0:Pos} {fn:Func} {c:Code} (hm:P.follows .mixedOrders=true) (hT:dh P tt) (hG:LU P tt G)
  (hO:qZ P (fun _=>none) O) (J5:lY O) (hf:P.funcs[f]? =some fn) (o9: ¬fn.name= "runtime.NumGoroutine") (hb:fn.body=some c) {v:AV} {cm:St}
  (h:nF O G m d f [] { heap:= .e,next:=n0 }=some (v,cm)) (w:World):
  Calls P f #[] w fun e w'=> ∃x ρ',e= .returned x/\aA ρ' cm.next.toNat (fun _=>none) v x/\bM ρ' (fun _=>none) cm w'/\(∀b y,cm.heap.get b=some y->w.heap.size<=(ρ' b).aF)/\
    w'.os=w.os/\w'.tape=w.tape/\w'.output=w.output/\w.heap.size<=w'.heap.size/\ ∀k,k<w.heap.size->w'.heap[k]? =w.heap[k]? :=by
 have hr:=uA hm hT hO J5 hG m d (fun _=>⟨0,0,0⟩) { heap:= .e,next:=n0 } w f [] v cm [] h (tJ (fun _ _ h=>by cases h) fun _ _ h=>by cases h) az.nil
 have cA:(callFunc f ([]:List Value).toArray).run P w= .ok (.enter f #[]) w:=by simp[callFunc,hf,o9,hb]
 rw[cA] at hr
 refine Calls.mono hr fun e w' he=> ?_
 cases e with
 |returned x=>
  obtain ⟨ρ',h1,_,_,h4,hE⟩:=he
  refine ⟨x,ρ',rfl,h1,h4,fun b y hb=> ?_,hE.os,hE.tape,hE.output,hE.size,fun k hk=>hE.block k hk fun b x hb=>by rw[T.eE] at hb;cases hb⟩
  rcases hE.uO b y hb with ⟨b',x',h2,_⟩|h2
  . rw[T.eE] at h2;cases h2
  . exact h2
 |panicked c=>exact he.elim
 |outgrown=>exact he.elim
end Go.Ai
namespace Go.ag
open Go Go.Ai
def vI:AV->Option Value
 | .bool b=>some (.bool b)
 | .int k i=>some (.int k i)
 | .str s=>some (.string ⟨(s.map UInt8.ofNat).toArray⟩)
 | .func f [] []=>some (.func (.func f) #[] #[])
 |_=>none
theorem S3 {ρ:Pos->Go.Ai.Loc} {n:Nat} {C:Cells} {v:AV} {x y:Value} (h:aA ρ n C v x) (hc:vI v=some y):x=y:=by
 cases h with
 |bool b=>simp[vI] at hc;exact hc
 |int k i=>simp[vI] at hc;exact hc
 |str s bs hb=>
  simp only[vI,Option.some.injEq] at hc
  rw[<-hc, <-hb,List.map_map]
  have:(UInt8.ofNat∘UInt8.toNat)=id:=by funext c;simp
  rw[this,List.map_id]
 |func f a b a' b' hx hy h1 h2=>
  cases a<;>cases b<;>simp[vI] at hc
  rw[<-hc]
  have e1:a'= #[]:=Array.eq_empty_of_size_eq_zero (by simpa using hx.symm)
  have e2:b'= #[]:=Array.eq_empty_of_size_eq_zero (by simpa using hy.symm)
  rw[e1,e2]
 |_=>simp[vI] at hc
theorem S4 {ρ:Pos->Go.Ai.Loc} {n:Nat} {C:Cells}: ∀{l:List AV} {xs ys:List Value},az ρ n C l xs->l.mapM vI=some ys->xs=ys
 |[],[],ys,_,h=>by simp at h;rw[h]
 |[],_::_,_,h,_=>by have:=h.1;simp at this
 |_::_,[],_,h,_=>by have:=h.1;simp at this
 |v::l,x::xs,ys,h,hm=>by
  simp only[List.mapM_cons,Option.bind_eq_bind,Option.bind_eq_some_iff,Option.pure_def,Option.some.injEq] at hm
  obtain ⟨y,hy,zs,hz,rfl⟩:=hm
  have h0:aA ρ n C v x:=h.2 0 v x rfl rfl
  have ih:=S4 (ρ:=ρ) (n:=n) (C:=C) (l:=l) (xs:=xs) ⟨by have:=h.1;simpa using this,fun i a b ha hb=>h.2 (i+1) a b (by simpa using ha) (by simpa using hb)⟩ hz
  rw[S3 h0 hy,ih]
def absV (c:Nat):List AV:=[.str ((vB c).map UInt8.toNat),.int .u8 (mZ c),.bool (nc c),.int .u8 (ng c),.bool (nh c),.int .i64 (xO c),.bool (IW c),.func (80+c) [] []]
def absE (i:Nat):AV×AV×Nat:=(.int .u8 ((i+1:Nat):Int),.agg (absV (i+1)),i)
def Jz:List (AV×AV×Nat):=(List.range 18).map absE
def OV (c:Nat):List Value:=[.string (cF c),.int .u8 (mZ c),.bool (nc c),.int .u8 (ng c),.bool (nh c),.int .i64 (xO c),.bool (IW c),Bc c]
theorem aaK (c:Nat):vq c= .agg (OV c).toArray:=rfl
theorem Y4: ∀(i:Nat),i<18->(absV (i+1)).mapM vI=some (OV (i+1))
 |0,_=>rfl
 |1,_=>rfl
 |2,_=>rfl
 |3,_=>rfl
 |4,_=>rfl
 |5,_=>rfl
 |6,_=>rfl
 |7,_=>rfl
 |8,_=>rfl
 |9,_=>rfl
 |10,_=>rfl
 |11,_=>rfl
 |12,_=>rfl
 |13,_=>rfl
 |14,_=>rfl
 |15,_=>rfl
 |16,_=>rfl
 |17,_=>rfl
 |n+18,h=>absurd h (by omega)
theorem aiS {ρ:Pos->Go.Ai.Loc} {n:Nat} {C:Cells} {es':Array MapEntry} (h2:Jz.length=es'.size)
   (h3: ∀(i:Nat) (e:AV×AV×Nat) (e':MapEntry),Jz[i]? =some e->es'[i]? =some e'->aA ρ n C e.1 e'.key/\aA ρ n C e.2.1 e'.val/\e.2.2=e'.born):es'=bD:=by
 have hs:es'.size=18:=by rw[<-h2];simp[Jz]
 apply Array.ext
 . rw[hs];simp[bD]
 . intro i hi Qi
   rw[hs] at hi
   have he:Jz[i]? =some (absE i):=by simp[Jz,hi]
   have n9:es'[i]? =some es'[i]:=Array.getElem?_eq_getElem _
   obtain ⟨a1,a2,a3⟩:=h3 i _ _ he n9
   have hk:bD[i]=nD i:=by simp[bD]
   rw[hk]
   have b1:es'[i].key= .int .u8 ((i+1:Nat):Int):=S3 a1 rfl
   obtain ⟨cs,Hh,hc2⟩:=a2.yc
   have b2:es'[i].val=vq (i+1):=by
    have Xa:=S4 hc2 (Y4 i hi)
    rw[Hh,aaK, <-Xa]
   have b3:es'[i].born=i:=a3.symm
   calc es'[i]=⟨es'[i].key,es'[i].val,es'[i].born⟩:=rfl
    _=nD i:=by rw[b1,b2,b3];rfl
end Go.ag
namespace Go.Proofs
open Go Go.Ai Go.ag Go.RowKit Go.Proofs.YtehbdakjkjkekaaGreatDoor
noncomputable def ag.S5:Bool:=vt (R:=Bool) false (fun _=>none) gg 100000 60 32 [] { heap:= .e,next:= .h } fun v st=>match v with
 | .map b=>match st.heap.get b with
   |some (.map es c)=>FC es Jz&&Nat.beq c 18
   |_=>false
 |_=>false
theorem ag.Pz:ag.S5=true:=by kernel_rfl
theorem ag.kinds (w:World):Calls Tryz.prog 32 #[] w fun e w'=> ∃b,e= .returned (.map (some b))/\w.heap.size<=b/\w'.heap[b]? =some (.map bD 18)/\Below w.heap.size w w':=by
 have h:=ag.Pz
 unfold ag.S5 at h
 rw[yo false (fun _=>none) gg 100000 60] at h
 unfold sy at h
 split at h<;>first|(cases h;done)|skip
 rename_i x hx
 obtain ⟨v,cm⟩:=x
 simp only at h
 split at h<;>first|(cases h;done)|skip
 rename_i b
 split at h<;>first|(cases h;done)|skip
 rename_i es c mQ
 simp only[Bool.and_eq_true] at h
 have he:=KE h.1
 have hc:=Nat.eq_of_beq_eq_true h.2
 subst he;subst hc
 refine (TU (by kernel_rfl) Dy Dz (by intro f s h;cases h) (by intro f s h;cases h) (fn:=Tryz.f32) (c:=Tryz.f32.body.get rfl) Tryz.func32 (by decide) rfl hx w).mono fun e w' hp=> ?_
 obtain ⟨x,ρ',he,hv,hW,Ql,h1,h2,h3,h4,h5⟩:=hp
 cases hv with
 |map b hb=>
  obtain ⟨g1,g2,es',g3,g4,g5⟩:=hW.live b _ mQ
  refine ⟨_,he,Ql b _ mQ,?_,⟨h1,h2,h3,h4,h5⟩⟩
  rw[g3,aiS g4 g5]
end Go.Proofs
end
section
namespace Go.ag
open Go
def pI (l:List UInt8) (em:Bool):Bool:=(l==[45])&&em
def oI (s:ByteArray) (em:Bool):ByteArray:=if pI s.data.toList em=true then ByteArray.empty else s
def iG (s:ByteArray) (em:Bool):Bool:=pI s.data.toList em||rZ s.data.toList
end Go.ag
namespace Go.Proofs
open Go.RowKit Go.ag
theorem ag.MZ {s:ByteArray} {em:Bool} {x:ByteArray} {b:Bool} (h1:x=oI s em) (h2:b=iG s em):Ending.returned (.tuple #[.string x,.bool b])= .returned (.tuple #[.string (oI s em),.bool (iG s em)]):=by rw[h1,h2]
set_option maxHeartbeats 400000 in
theorem ag.aH (s:ByteArray) (em:Bool) (w:World) (hs:s.size<=maxLen):
   Calls Tryz.prog 174 #[.string s,.bool em] w fun e w'=>e= .returned (.tuple #[.string (oI s em),.bool (iG s em)])/\w=w':=by
 cases em
 all_goals
   go_enter Tryz.func174,Tryz.ntmps174
   go_wp2_with (first|(go_at_call 116;refine (ag.afk _ _ hs).mono ?_;rintro e w' ⟨rfl,rfl⟩))
 . have h:s.toList=[45]:=by assumption
   go_ret2
   exact ⟨ag.MZ (by simp[oI,pI]) (by simp[ag.iG,pI]),rfl⟩
 . go_ret2
   exact ⟨ag.MZ (by simp[oI,pI]) (by simp[ag.iG,pI]),rfl⟩
 . have h:s.toList=[45]:=by assumption
   rw[Lib.toList_data] at h
   go_ret2
   exact ⟨ag.MZ (by simp[oI,pI,h];rfl) (by simp[ag.iG,pI,h]),rfl⟩
 . have h: ¬s.toList=[45]:=by assumption
   rw[Lib.toList_data] at h
   go_ret2
   exact ⟨ag.MZ (by simp[oI,pI,h]) (by simp[ag.iG,pI,h]),rfl⟩
end Go.Proofs
namespace Go.ag
open Go Go.RowKit Go.ChangeMaps Go.MapKept
def kindOf (s:List UInt8):Nat:=if s=[] then 0 else if s∈words then words.idxOf s else 0
theorem OO (c:Nat) (h1:1<=c) (h2:c<=18):kindOf (vB c)=c:=by
 revert c
 have: ∀i,i<18->kindOf (vB (i+1))=i+1:=by decide
 intro c h1 h2
 have:=this (c - 1) (by omega)
 rwa [show c - 1+1=c by omega] at this
theorem eS (s:List UInt8):kindOf s<=18:=by
 unfold kindOf
 split
 . omega
 . split
   . rename_i h;have:=List.idxOf_lt_length_of_mem h;simp[words] at this ⊢; omega
   . omega
theorem TV (s:List UInt8) (h:kindOf s≠0):vB (kindOf s)=s:=by
 unfold kindOf at h ⊢
 split at h
 . exact absurd rfl h
 . split at h
   . rename_i h1 h2
     rw[if_neg h1,if_pos h2]
     unfold vB
     rw[List.getD_eq_getElem?_getD,List.getElem?_eq_getElem (List.idxOf_lt_length_of_mem h2),List.getElem_idxOf]
     rfl
   . exact absurd rfl h
theorem iW {P:Program} (w:World) {ops:Array Oper} {rest:List Oper} {o:Oper} {a:Act} {Q:Exit->Act->World->Prop}
   (hg:o.guard=none) (it:Operand) (Qj:o.op=Op.next it false) (r bm since c0:Nat) (seen:Array Nat) (es:Array MapEntry) (clock:Nat) (hit:a.eval it= .pointer (some ⟨r,0,none⟩))
   (hr:w.heap[r]? =some (.mapIter (some bm) since seen c0)) (hb:w.heap[bm]? =some (.map es clock)) (hold: ∀x∈es.toList,x.born<since) (hsc:since<=c0) (hn:(es.toList.map (·.born)).Nodup)
   (aiT:(leftOf es seen).size=0->wpList P ops Q rest (a.put o.dst (.tuple #[.bool false])) w)
   (aiU: ∀e∈(leftOf es seen).toList,∀w',w'.heap[r]? =some (.mapIter (some bm) since (seen.push e.born) clock)->w'.os=w.os->w'.tape=w.tape->w'.output=w.output->w'.heap.size=w.heap.size->(∀k,k≠r->w'.heap[k]? =w.heap[k]?)->
     (Instr.entry (.pointer (some ⟨r,0,none⟩))).run P w'= .ok (.tuple #[e.key,e.val]) w'->wpList P ops Q rest (a.put o.dst (.tuple #[.bool true,e.key,e.val])) w'):
   wpList P ops Q (o::rest) a w:=by
 have en:bm≠r:=by intro e;rw[e,hr] at hb;cases hb
 refine wpList_plain hg fun K' hK'=> ?_
 unfold Oper.wp
 rcases run_next_at (P:=P) w o.type r bm since c0 seen es clock hr hb hold hsc with ⟨h0,cA⟩|⟨e,he,w1,DA,cA⟩
 . simp[execOp,Qj,hit,cA,Result.andThen]
   exact hK' _ _ (aiT h0)
 . simp[execOp,Qj,hit,cA,Result.andThen]
   have UP:w1.heap[r]? =some (.mapIter (some bm) since seen c0):=by rcases DA with rfl|rfl<;>exact hr
   have cW:w1.heap[bm]? =some (.map es clock):=by rcases DA with rfl|rfl<;>exact hb
   have yj:=heap_set (o':= .mapIter (some bm) since (seen.push e.born) clock) UP
   have gV:(setBlock w1 r (.mapIter (some bm) since (seen.push e.born) clock)).heap[bm]? =some (.map es clock):=(yj.2 bm en).trans cW
   refine hK' _ _ (aiU e he _ yj.1 (by rcases DA with rfl|rfl<;>rfl) (by rcases DA with rfl|rfl<;>rfl) (by rcases DA with rfl|rfl<;>rfl) (by rcases DA with rfl|rfl<;>simp[setBlock]<;>rfl) (fun k hk=> ?_) ?_)
   . refine (yj.2 k hk).trans ?_;rcases DA with rfl|rfl<;>rfl
   . exact run_entry_at _ r bm since seen es clock e yj.1 gV (by simp[leftOf] at he;simpa using he.1) hn
theorem ig {P:Program} (w:World) {ops:Array Oper} {rest:List Oper} {o:Oper} {a:Act} {Q:Exit->Act->World->Prop}
  (hg:o.guard=none) (m:Operand) (t:TypeId) (Qj:o.op=Op.range t m) (k e:TypeId) (ht:P.underlying t=some (.map k e)) (bm:Nat) (es:Array MapEntry) (clock:Nat) (hm:a.eval m= .map (some bm))
  (hb:w.heap[bm]? =some (.map es clock))
  (hK:wpList P ops Q rest (a.put o.dst (.pointer (some ⟨w.heap.size,0,none⟩))) (w.alloc (.mapIter (some bm) clock #[] clock))):
  wpList P ops Q (o::rest) a w:=by
 refine wpList_plain hg fun K' hK'=> ?_
 have cA:=run_range_map (P:=P) w t k e bm es clock ht hb
 unfold Oper.wp
 simp[execOp,Qj,hm,cA,Result.andThen]
 exact hK' _ _ hK
end Go.ag
end
section
namespace Go.ag
open Go Go.RowKit
def Is (w:World) (n:Nat) (T:TypeId) (cs:Array Value):Prop:=w.heap[n]? =some (.cells cs T (0,0))
section
variable {w w' : World} {n m o : Nat} {T : TypeId} {cs : Array Value} {v : Value}
theorem Is.cell (h:Is w n T cs) (o:Nat):w.cell? ⟨n,o,none⟩=cs[o]? :=by unfold Is at h;simp[World.cell?,h]
theorem Is.frozen (h:Is w n T cs) (o:Nat):w.frozen? ⟨n,o,none⟩=false:=by unfold Is at h;simp[World.frozen?,h]
theorem Is.lt (h:Is w n T cs):n<w.heap.size:=(Array.getElem?_eq_some_iff.1 h).1
theorem Is.new (w:World) (T:TypeId) (cs:Array Value):Is (w.alloc (.cells cs T)) w.heap.size T cs:=by show (w.heap.push _)[w.heap.size]? =_;simp
theorem Is.alloc (h:Is w n T cs) (x:Obj):Is (w.alloc x) n T cs:=by
 have:=h.lt
 unfold Is at h ⊢
 rw[<-h];show (w.heap.push _)[n]? =_;simp[Array.getElem?_push,Nat.ne_of_lt this]
theorem Is.drew (h:Is w n T cs):Is w.drew n T cs:=h
theorem Is.drewN (h:Is w n T cs) (k:Nat):Is (w.drewN k) n T cs:=by unfold Is at h ⊢; rw[<-h];simp
theorem Is.set (h:Is w n T cs) (o:Nat) (v:Value):Is (w.setCell ⟨n,o,none⟩ v) n T (cs.setIfInBounds o v):=by
 have:=h.lt
 unfold Is at h ⊢
 have hm:=Array.getElem?_eq_some_iff.1 h
 simp[World.setCell,Array.getElem?_modify,h]
theorem Is.other (h:Is w n T cs) (en:m≠n) (o:Nat) (v:Value):Is (w.setCell ⟨m,o,none⟩ v) n T cs:=by
 unfold Is at h ⊢
 rw[<-h];simp[World.setCell,Array.getElem?_modify,en]
theorem Is.below {B:Nat} (h:Is w n T cs) (hb:Below B w w') (hn:n<B):Is w' n T cs:=by
 unfold Is at h ⊢; rw[hb.block n hn];exact h
theorem Is.of_heap (h:Is w n T cs) (e:w'.heap[n]? =w.heap[n]?):Is w' n T cs:=by unfold Is at h ⊢; rw[e];exact h
theorem Is.cast {ql:Array Value} (h:Is w n T cs) (e:cs=ql):Is w n T ql:=e ▸h
theorem Is.one {a:Value} (h:Is w n T #[a]):w.cell? ⟨n,0,none⟩=some a:=h.cell 0
theorem Is.mF {a b c d e f:Value} (h:Is w n T #[a,b,c,d,e,f]):w.cell? ⟨n,0,none⟩=some a/\w.cell? ⟨n,1,none⟩=some b/\w.cell? ⟨n,2,none⟩=some c/\w.cell? ⟨n,3,none⟩=some d/\w.cell? ⟨n,4,none⟩=some e/\w.cell? ⟨n,5,none⟩=some f:=
 ⟨h.cell 0,h.cell 1,h.cell 2,h.cell 3,h.cell 4,h.cell 5⟩
theorem Is.eight {a b c d e f g i:Value} (h:Is w n T #[a,b,c,d,e,f,g,i]):w.cell? ⟨n,0,none⟩=some a/\w.cell? ⟨n,1,none⟩=some b/\w.cell? ⟨n,2,none⟩=some c/\w.cell? ⟨n,3,none⟩=some d/\w.cell? ⟨n,4,none⟩=some e/\w.cell? ⟨n,5,none⟩=some f/\w.cell? ⟨n,6,none⟩=some g/\w.cell? ⟨n,7,none⟩=some i:=
 ⟨h.cell 0,h.cell 1,h.cell 2,h.cell 3,h.cell 4,h.cell 5,h.cell 6,h.cell 7⟩
theorem o3 (e:w'.heap[n]? =w.heap[n]?) (o:Nat):w'.cell? ⟨n,o,none⟩=w.cell? ⟨n,o,none⟩:=by simp[World.cell?,e]
theorem heap_alloc (w:World) (x:Obj) (hn:n<w.heap.size):(w.alloc x).heap[n]? =w.heap[n]? :=by show (w.heap.push _)[n]? =_;simp[Array.getElem?_push,Nat.ne_of_lt hn]
theorem Kk (en:m≠n) (o:Nat) (v:Value):(w.setCell ⟨m,o,none⟩ v).heap[n]? =w.heap[n]? :=by simp[World.setCell,Array.getElem?_modify,en]
end
end Go.ag
end
section
namespace Go.Proofs
open Go.Shelf
def Tryz.TW:Go.Shelf.Ren:=⟨fun|137=>108|217=>176|266=>221|n=>n,fun|9=>9|5=>5|3=>3|n=>n,fun|n=>n⟩
theorem Tryz.afl:Go.Proofs.Lays.n137 Tryz.prog Tryz.TW:={
 mixed:=by kernel_rfl
 f137:=Tryz.func108.trans (congrArg some (by kernel_rfl))
 f217:=Tryz.func176.trans (congrArg some (by kernel_rfl))
 f266:=Tryz.func221.trans (congrArg some (by kernel_rfl))
 t3:=Tryz.underlying3
 a3:=Tryz.isAgg3
 z3:=Tryz.sizeOf3
 v3:=Tryz.zeroValue3
 t5:=Tryz.underlying5
 a5:=Tryz.isAgg5
 z5:=Tryz.sizeOf5
 v5:=Tryz.zeroValue5
 t9:=Tryz.underlying9
 a9:=Tryz.isAgg9
 z9:=Tryz.sizeOf9
 v9:=Tryz.zeroValue9 }
open Go.RowKit in
theorem Tryz.strings_IndexByte (s:ByteArray) (c:Int) (w:World):
 Calls Tryz.prog 108 #[.string s,.int .u8 c] w fun e w'=>e= .returned (.int .i64 (Lib.indexByte s.data.toList c.toNat.toUInt8))/\w'=w:=Any.strings_IndexByte Tryz.afl s c w
def Tryz.TX:Go.Shelf.Ren:=⟨fun|146=>102|221=>172|268=>218|138=>219|143=>220|195=>262|197=>263|218=>264|219=>265|260=>281|217=>176|225=>282|224=>283|267=>284|266=>221|314=>286|n=>n,fun|9=>9|31=>48|3=>3|4=>4|0=>0|105=>269|21=>21|5=>5|46=>169|119=>277|139=>280|138=>279|146=>254|51=>47|n=>n,fun|1=>1|3=>4|4=>5|n=>n⟩
theorem Tryz.afm:Go.Proofs.Lays.n146 Tryz.prog Tryz.TX:={
 mixed:=by kernel_rfl
 f138:=Tryz.func219.trans (congrArg some (by kernel_rfl))
 f143:=Tryz.func220.trans (congrArg some (by kernel_rfl))
 f146:=Tryz.func102.trans (congrArg some (by kernel_rfl))
 f195:=Tryz.func262.trans (congrArg some (by kernel_rfl))
 f197:=Tryz.func263.trans (congrArg some (by kernel_rfl))
 f217:=Tryz.func176.trans (congrArg some (by kernel_rfl))
 f218:=Tryz.func264.trans (congrArg some (by kernel_rfl))
 f219:=Tryz.func265.trans (congrArg some (by kernel_rfl))
 f221:=Tryz.func172.trans (congrArg some (by kernel_rfl))
 f224:=Tryz.func283.trans (congrArg some (by kernel_rfl))
 f225:=Tryz.func282.trans (congrArg some (by kernel_rfl))
 f260:=Tryz.func281.trans (congrArg some (by kernel_rfl))
 f266:=Tryz.func221.trans (congrArg some (by kernel_rfl))
 f267:=Tryz.func284.trans (congrArg some (by kernel_rfl))
 f268:=Tryz.func218.trans (congrArg some (by kernel_rfl))
 f314:=Tryz.func286.trans (congrArg some (by kernel_rfl))
 t0:=Tryz.underlying0
 a0:=Tryz.isAgg0
 z0:=Tryz.sizeOf0
 v0:=Tryz.zeroValue0
 t3:=Tryz.underlying3
 a3:=Tryz.isAgg3
 z3:=Tryz.sizeOf3
 v3:=Tryz.zeroValue3
 t4:=Tryz.underlying4
 a4:=Tryz.isAgg4
 z4:=Tryz.sizeOf4
 v4:=Tryz.zeroValue4
 t5:=Tryz.underlying5
 a5:=Tryz.isAgg5
 z5:=Tryz.sizeOf5
 v5:=Tryz.zeroValue5
 t9:=Tryz.underlying9
 a9:=Tryz.isAgg9
 z9:=Tryz.sizeOf9
 v9:=Tryz.zeroValue9
 t21:=Tryz.underlying21
 a21:=Tryz.isAgg21
 z21:=Tryz.sizeOf21
 v21:=Tryz.zeroValue21
 t31:=Tryz.underlying48
 a31:=Tryz.isAgg48
 z31:=Tryz.sizeOf48
 v31:=Tryz.zeroValue48
 t46:=Tryz.underlying169
 a46:=Tryz.isAgg169
 z46:=Tryz.sizeOf169
 v46:=Tryz.zeroValue169
 t51:=Tryz.underlying47
 a51:=Tryz.isAgg47
 z51:=Tryz.sizeOf47
 v51:=Tryz.zeroValue47
 t105:=Tryz.underlying269
 a105:=Tryz.isAgg269
 z105:=Tryz.sizeOf269
 v105:=Tryz.zeroValue269
 t119:=Tryz.underlying277
 a119:=Tryz.isAgg277
 z119:=Tryz.sizeOf277
 t138:=Tryz.underlying279
 a138:=Tryz.isAgg279
 z138:=Tryz.sizeOf279
 v138:=Tryz.zeroValue279
 t139:=Tryz.underlying280
 a139:=Tryz.isAgg280
 z139:=Tryz.sizeOf280
 v139:=Tryz.zeroValue280
 t146:=Tryz.underlying254
 a146:=Tryz.isAgg254
 z146:=Tryz.sizeOf254
 v146:=Tryz.zeroValue254
 g1:=by kernel_rfl
 g3:=by kernel_rfl
 g4:=by kernel_rfl }
open Go.RowKit Go.Lib in
theorem Tryz.strings_Split (s sep:ByteArray) (m:Int) (w:World) (hs:s.size<4294967281) (hm:w.cell? ⟨1,0,none⟩=some (.int .i64 m)) (h1:1<=sep.size):
 Calls Tryz.prog 102 #[.string s,.string sep] w fun e w'=>
  e= .returned (.slice (some ⟨w.heap.size,0,none⟩) (Lib.countB s sep+1) (Lib.countB s sep+1))/\w'=w.alloc (.cells ((Lib.splitB sep 0 (Lib.countB s sep) s).map Value.string).toArray 9):=Any.strings_Split Tryz.afm (by kernel_rfl) s sep m w hs hm h1
end Go.Proofs
end
section
namespace Go.Proofs
set_option maxHeartbeats 1000000 in
theorem Tryz.JI (s p:ByteArray) (w:World) (hs:s.size<=9223372036854775807):
   Calls Tryz.prog 101 #[.string s,.string p] w fun e w'=>e= .returned (.tuple #[.string ⟨(Lib.trimSuffix s.data.toList p.data.toList).toArray⟩,.bool (Lib.hasSuffix s.data.toList p.data.toList)])/\w'=w:=by
 have Eo:p.size<=s.size->((s.size:Int) - (p.size:Int)+9223372036854775808) % 18446744073709551616 - 9223372036854775808=((s.size - p.size:Nat):Int):=fun _=>by omega
 go_enter Tryz.func101,Tryz.ntmps101
 go_wp2
 . have h2:(!((s.extract (s.size - p.size) s.size).toList==p.toList))=true:=by assumption
   have h3:(decide (p.size<=s.size)&&((s.extract (s.size - p.size) s.size).toList==p.toList))=false:=by
    have:((s.extract (s.size - p.size) s.size).toList==p.toList)=false:=by simpa using h2
    rw[this]
    simp
   go_ret2
   refine ⟨?_,rfl⟩
   rw[Lib.trimSuffix_miss s p h3, <-Lib.hasSuffix_raw,h3]
   rfl
 . have h1:p.size<=s.size:=by assumption
   have h2:(!((s.extract (s.size - p.size) s.size).toList==p.toList))=false:=by assumption
   have WI:((s.extract (s.size - p.size) s.size).toList==p.toList)=true:=by simpa using h2
   go_ret2
   refine ⟨?_,rfl⟩
   rw[Lib.trimSuffix_hit s p h1 WI, <-Lib.hasSuffix_raw,WI,decide_eq_true h1]
   rfl
 . have h1: ¬p.size<=s.size:=by assumption
   have h3:(decide (p.size<=s.size)&&((s.extract (s.size - p.size) s.size).toList==p.toList))=false:=by simp[h1]
   go_ret2
   refine ⟨?_,rfl⟩
   rw[Lib.trimSuffix_miss s p h3, <-Lib.hasSuffix_raw,h3]
   rfl
end Go.Proofs
end
section
namespace Go.Proofs
open Go.Shelf
def Tryz.S6:Go.Shelf.Ren:=⟨fun|219=>265|217=>176|225=>282|224=>283|267=>284|266=>221|314=>286|n=>n,fun|9=>9|3=>3|4=>4|5=>5|46=>169|146=>254|51=>47|n=>n,fun|1=>1|n=>n⟩
theorem Tryz.aaL:Go.Proofs.LaysM.n219 Tryz.prog Tryz.S6:={
 mixed:=by kernel_rfl
 f217:=Tryz.func176.trans (congrArg some (by kernel_rfl))
 f219:=Tryz.func265.trans (congrArg some (by kernel_rfl))
 f224:=Tryz.func283.trans (congrArg some (by kernel_rfl))
 f225:=Tryz.func282.trans (congrArg some (by kernel_rfl))
 f266:=Tryz.func221.trans (congrArg some (by kernel_rfl))
 f267:=Tryz.func284.trans (congrArg some (by kernel_rfl))
 f314:=Tryz.func286.trans (congrArg some (by kernel_rfl))
 t3:=Tryz.underlying3
 a3:=Tryz.isAgg3
 z3:=Tryz.sizeOf3
 v3:=Tryz.zeroValue3
 t4:=Tryz.underlying4
 a4:=Tryz.isAgg4
 z4:=Tryz.sizeOf4
 v4:=Tryz.zeroValue4
 t5:=Tryz.underlying5
 a5:=Tryz.isAgg5
 z5:=Tryz.sizeOf5
 v5:=Tryz.zeroValue5
 t9:=Tryz.underlying9
 a9:=Tryz.isAgg9
 z9:=Tryz.sizeOf9
 v9:=Tryz.zeroValue9
 t46:=Tryz.underlying169
 a46:=Tryz.isAgg169
 z46:=Tryz.sizeOf169
 v46:=Tryz.zeroValue169
 t51:=Tryz.underlying47
 a51:=Tryz.isAgg47
 z51:=Tryz.sizeOf47
 v51:=Tryz.zeroValue47
 t146:=Tryz.underlying254
 a146:=Tryz.isAgg254
 z146:=Tryz.sizeOf254
 v146:=Tryz.zeroValue254
 g1:=by kernel_rfl
 i3:=by kernel_rfl
 i4:=by kernel_rfl
 i5:=by kernel_rfl
 i9:=by kernel_rfl
 i46:=by kernel_rfl
 i51:=by kernel_rfl
 i146:=by kernel_rfl
 m1:=by kernel_rfl
 s1_3:=fun w h=>Go.Proofs.cell_of_shapedOpen_int (zero:= #[.int .i64 0]) (t:=3) h (of_decide_eq_true (by kernel_rfl)) (by kernel_rfl) rfl (by kernel_rfl) (by kernel_rfl) Tryz.underlying3 }
end Go.Proofs
end
section
namespace Go.Proofs
open Go.Shelf
def Tryz.Kl:Go.Shelf.Ren:=⟨fun|156=>34|165=>100|166=>36|169=>37|240=>105|241=>170|276=>175|277=>216|n=>n,fun|31=>48|9=>9|3=>3|4=>4|0=>0|20=>20|72=>81|76=>94|70=>79|37=>30|75=>93|127=>155|164=>209|5=>5|80=>96|n=>n,fun|n=>n⟩
theorem Tryz.afn:Go.Proofs.Lays.n156 Tryz.prog Tryz.Kl:={
 mixed:=by kernel_rfl
 f156:=Tryz.func34.trans (congrArg some (by kernel_rfl))
 f165:=Tryz.func100.trans (congrArg some (by kernel_rfl))
 f166:=Tryz.func36.trans (congrArg some (by kernel_rfl))
 f169:=Tryz.func37.trans (congrArg some (by kernel_rfl))
 f240:=Tryz.func105.trans (congrArg some (by kernel_rfl))
 f241:=Tryz.func170.trans (congrArg some (by kernel_rfl))
 f276:=Tryz.func175.trans (congrArg some (by kernel_rfl))
 f277:=Tryz.func216.trans (congrArg some (by kernel_rfl))
 t0:=Tryz.underlying0
 a0:=Tryz.isAgg0
 z0:=Tryz.sizeOf0
 v0:=Tryz.zeroValue0
 t3:=Tryz.underlying3
 a3:=Tryz.isAgg3
 z3:=Tryz.sizeOf3
 v3:=Tryz.zeroValue3
 t4:=Tryz.underlying4
 a4:=Tryz.isAgg4
 z4:=Tryz.sizeOf4
 v4:=Tryz.zeroValue4
 t9:=Tryz.underlying9
 a9:=Tryz.isAgg9
 z9:=Tryz.sizeOf9
 v9:=Tryz.zeroValue9
 t20:=Tryz.underlying20
 a20:=Tryz.isAgg20
 z20:=Tryz.sizeOf20
 v20:=Tryz.zeroValue20
 t31:=Tryz.underlying48
 a31:=Tryz.isAgg48
 z31:=Tryz.sizeOf48
 v31:=Tryz.zeroValue48
 t37:=Tryz.underlying30
 a37:=Tryz.isAgg30
 z37:=Tryz.sizeOf30
 v37:=Tryz.zeroValue30
 t70:=Tryz.underlying79
 a70:=Tryz.isAgg79
 z70:=Tryz.sizeOf79
 v70:=Tryz.zeroValue79
 t72:=Tryz.underlying81
 a72:=Tryz.isAgg81
 z72:=Tryz.sizeOf81
 v72:=Tryz.zeroValue81
 t75:=Tryz.underlying93
 a75:=Tryz.isAgg93
 z75:=Tryz.sizeOf93
 v75:=Tryz.zeroValue93
 t76:=Tryz.underlying94
 a76:=Tryz.isAgg94
 z76:=Tryz.sizeOf94
 v76:=Tryz.zeroValue94
 t127:=Tryz.underlying155
 a127:=Tryz.isAgg155
 z127:=Tryz.sizeOf155
 v127:=Tryz.zeroValue155
 t164:=Tryz.underlying209
 a164:=Tryz.isAgg209
 z164:=Tryz.sizeOf209
 v164:=Tryz.zeroValue209 }
theorem Tryz.JK:Builder.Extra Tryz.prog Tryz.Kl:={
 sizeBuilder:=by kernel_rfl
 liesBuilder:=by kernel_rfl
 t5:=Tryz.underlying5
 a5:=Tryz.isAgg5
 z5:=Tryz.sizeOf5
 v5:=Tryz.zeroValue5
 infoByte:=by kernel_rfl
 cellsByte:=by kernel_rfl
 sizeByte:=by kernel_rfl
 neB5:=by decide }
open Go.RowKit in
open Go.RowKit in
theorem Tryz.strings_Join (bk o c:Nat) (xs:List ByteArray) (sep:ByteArray) (w:World) (Bp: ∀(j:Nat) x,xs[j]? =some x->w.cell? ⟨bk,o+j,none⟩=some (.string x)) (Y5:bk<w.heap.size) (hN:xs.length<=140737488355328) (yh:xs.length<=c) (hlen:(Lib.join (xs.map (·.data.toList)) sep.data.toList).length<=140737488355328):
 Calls Tryz.prog 34 #[.slice (some ⟨bk,o,none⟩) xs.length c,.string sep] w fun e w'=>e= .returned (.string ⟨(Lib.join (xs.map (·.data.toList)) sep.data.toList).toArray⟩)/\Below w.heap.size w w':=Any.strings_Join Tryz.afn Tryz.JK bk o c xs sep w Bp Y5 hN yh hlen
def Tryz.S7:Go.Shelf.Ren:=⟨fun|171=>33|243=>99|246=>169|283=>212|284=>213|285=>214|286=>215|129=>200|317=>258|318=>259|319=>260|320=>261|337=>279|338=>280|n=>n,fun|3=>3|9=>9|2=>2|4=>4|171=>247|0=>0|53=>230|37=>30|5=>5|173=>249|212=>266|51=>47|20=>20|213=>267|46=>169|232=>275|233=>276|n=>n,fun|17=>0|18=>2|19=>3|n=>n⟩
theorem Tryz.aaM:Go.Proofs.LaysM.n171 Tryz.prog Tryz.S7:={
 mixed:=by kernel_rfl
 f129:=Tryz.func200.trans (congrArg some (by kernel_rfl))
 f171:=Tryz.func33.trans (congrArg some (by kernel_rfl))
 f243:=Tryz.func99.trans (congrArg some (by kernel_rfl))
 f246:=Tryz.func169.trans (congrArg some (by kernel_rfl))
 f283:=Tryz.func212.trans (congrArg some (by kernel_rfl))
 f284:=Tryz.func213.trans (congrArg some (by kernel_rfl))
 f285:=Tryz.func214.trans (congrArg some (by kernel_rfl))
 f286:=Tryz.func215.trans (congrArg some (by kernel_rfl))
 f317:=Tryz.func258.trans (congrArg some (by kernel_rfl))
 f318:=Tryz.func259.trans (congrArg some (by kernel_rfl))
 f319:=Tryz.func260.trans (congrArg some (by kernel_rfl))
 f320:=Tryz.func261.trans (congrArg some (by kernel_rfl))
 f337:=Tryz.func279.trans (congrArg some (by kernel_rfl))
 f338:=Tryz.func280.trans (congrArg some (by kernel_rfl))
 t0:=Tryz.underlying0
 a0:=Tryz.isAgg0
 z0:=Tryz.sizeOf0
 v0:=Tryz.zeroValue0
 t2:=Tryz.underlying2
 a2:=Tryz.isAgg2
 z2:=Tryz.sizeOf2
 v2:=Tryz.zeroValue2
 t3:=Tryz.underlying3
 a3:=Tryz.isAgg3
 z3:=Tryz.sizeOf3
 v3:=Tryz.zeroValue3
 t4:=Tryz.underlying4
 a4:=Tryz.isAgg4
 z4:=Tryz.sizeOf4
 v4:=Tryz.zeroValue4
 t5:=Tryz.underlying5
 a5:=Tryz.isAgg5
 z5:=Tryz.sizeOf5
 v5:=Tryz.zeroValue5
 t9:=Tryz.underlying9
 a9:=Tryz.isAgg9
 z9:=Tryz.sizeOf9
 v9:=Tryz.zeroValue9
 t20:=Tryz.underlying20
 a20:=Tryz.isAgg20
 z20:=Tryz.sizeOf20
 v20:=Tryz.zeroValue20
 t37:=Tryz.underlying30
 a37:=Tryz.isAgg30
 z37:=Tryz.sizeOf30
 v37:=Tryz.zeroValue30
 t46:=Tryz.underlying169
 a46:=Tryz.isAgg169
 z46:=Tryz.sizeOf169
 v46:=Tryz.zeroValue169
 t51:=Tryz.underlying47
 a51:=Tryz.isAgg47
 z51:=Tryz.sizeOf47
 v51:=Tryz.zeroValue47
 t53:=Tryz.underlying230
 a53:=Tryz.isAgg230
 z53:=Tryz.sizeOf230
 v53:=Tryz.zeroValue230
 t171:=Tryz.underlying247
 a171:=Tryz.isAgg247
 z171:=Tryz.sizeOf247
 v171:=Tryz.zeroValue247
 t173:=Tryz.underlying249
 a173:=Tryz.isAgg249
 z173:=Tryz.sizeOf249
 v173:=Tryz.zeroValue249
 t212:=Tryz.underlying266
 a212:=Tryz.isAgg266
 z212:=Tryz.sizeOf266
 v212:=Tryz.zeroValue266
 t213:=Tryz.underlying267
 a213:=Tryz.isAgg267
 z213:=Tryz.sizeOf267
 t232:=Tryz.underlying275
 a232:=Tryz.isAgg275
 z232:=Tryz.sizeOf275
 v232:=Tryz.zeroValue275
 t233:=Tryz.underlying276
 a233:=Tryz.isAgg276
 z233:=Tryz.sizeOf276
 v233:=Tryz.zeroValue276
 g17:=by kernel_rfl
 g18:=by kernel_rfl
 g19:=by kernel_rfl
 i0:=by kernel_rfl
 i2:=by kernel_rfl
 i3:=by kernel_rfl
 i4:=by kernel_rfl
 i5:=by kernel_rfl
 i9:=by kernel_rfl
 i20:=by kernel_rfl
 i37:=by kernel_rfl
 i46:=by kernel_rfl
 i51:=by kernel_rfl
 i53:=by kernel_rfl
 i171:=by kernel_rfl
 i173:=by kernel_rfl
 i212:=by kernel_rfl
 i232:=by kernel_rfl
 i233:=by kernel_rfl
 m17:=by kernel_rfl
 m18:=by kernel_rfl
 m19:=by kernel_rfl }
open Go.RowKit Go.Sort Go.Lib in
theorem Tryz.strconv_Itoa (n:Int) (h0: -9223372036854775808<=n) (h1:n<=9223372036854775807) (w:World) (htab:Lib.TabIs Tryz.prog w "internal/strconv.uint64pow10" .u64 Lib.pow10Tab):
 Calls Tryz.prog 33 #[.int .i64 n] w fun e w'=>e= .returned (.string ⟨(Lib.itoa n).toArray⟩)/\ ∃k os,w'=grow (w.drewN k) os:=Any.strconv_Itoa Tryz.aaM n h0 h1 w htab
end Go.Proofs
end
