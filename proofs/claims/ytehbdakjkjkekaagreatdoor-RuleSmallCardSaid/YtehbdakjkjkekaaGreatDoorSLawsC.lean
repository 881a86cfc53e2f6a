/- What is written reads back. -/
import Derived.Test.YtehbdakjkjkekaaGreatDoorSLawsB
import Derived.Test.YtehbdakjkjkekaaGreatDoorSWalkC
import Derived.Test.YtehbdakjkjkekaaGreatDoorRows
import Derived.Test.YtehbdakjkjkekaaGreatDoorSEvalE
import Derived.LaidSub
set_option linter.all false
set_option linter.unusedSectionVars false
set_option linter.deprecated false
section
set_option maxRecDepth 100000
namespace Go.Proofs.YtehbdakjkjkekaaGreatDoor
open Go Go.Ai Go.Proofs Go.ag
theorem qB (s:List Nat):(ag.aO s).data.toList=s.map UInt8.ofNat:=by simp[ag.aO]
theorem AZ (s:List Nat):(ag.aO s).size=s.length:=by
 show (s.map UInt8.ofNat).toArray.size=_
 simp
theorem EO {s:List Nat} (h: ∀x∈s,x<256):ag.lO (ag.aO s)=s:=by
 unfold ag.lO
 rw[qB,List.map_map]
 conv=>rhs;rw[<-List.map_id s]
 refine List.map_congr_left fun x hx=> ?_
 have:=h x hx
 simp only[Function.comp,UInt8.toNat_ofNat',id];omega
theorem ofNat_eq {x:Nat} (hx:x<256) {y:Nat} (hy:y<256) (h:UInt8.ofNat x=UInt8.ofNat y):x=y:=by
 have:=congrArg UInt8.toNat h
 simp only[UInt8.toNat_ofNat'] at this
 omega
def MJ (c:Nat) (s:List Nat):Prop:= ∀x∈s,x<256/\x≠c
theorem Kg (s:ByteArray):s.extract 0 s.size=s:=by
 apply ag.Sr;simp
theorem Ss {s:List Nat} (i:Nat) (h:i<s.length):(ag.aO s)[i]'(by rw[AZ];exact h)=UInt8.ofNat s[i]:=by
 have h1:i<(ag.aO s).size:=by rw[AZ];exact h
 have:(ag.aO s).data.toList[i]'(by rw[qB];simpa using h)=UInt8.ofNat s[i]:=by simp[qB]
 exact this
theorem ab0 (a b:List Nat):(ag.aO (a++b)).extract 0 a.length=ag.aO a:=by
 apply ag.Sr;simp[ag.aO]
theorem ab1 (a b:List Nat):(ag.aO (a++b)).extract a.length (ag.aO (a++b)).size=ag.aO b:=by
 apply ag.Sr;rw[AZ];simp[ag.aO]
 rw[List.take_of_length_le (by simp)]
theorem Wc {w rest:List Nat} (h:MJ 32 w):ag.jk (ag.aO (w++32::rest))=ag.aO w::ag.jk (ag.aO rest):=by
 have hlen:w.length<(ag.aO (w++32::rest)).size:=by rw[AZ];simp
 have nR:Su (ag.aO (w++32::rest)) 32 0 w.length:=fun j _ hj hs=>by
  have mA:j<(w++32::rest).length:=by rw[AZ] at hs;exact hs
  rw[Ss j mA,List.getElem_append_left hj]
  intro e
  obtain ⟨h1,h2⟩:=h _ (List.getElem_mem hj)
  exact h2 (ofNat_eq h1 (by decide) e)
 have hat:(ag.aO (w++32::rest))[w.length]=32:=by
  rw[Ss w.length (by simp),List.getElem_append_right (Nat.le_refl _)]
  simp
 have:=Wd nR (Nat.zero_le _) hlen hat
 rw[Kg] at this
 rw[this]
 have e1:(ag.aO (w++32::rest)).extract 0 w.length=ag.aO w:=ab0 _ _
 have e2:(ag.aO (w++32::rest)).extract (w.length+1) (ag.aO (w++32::rest)).size=ag.aO rest:=by
  have:=ab1 (w++[32]) rest
  simpa using this
 rw[e1,e2]
theorem X2 {w:List Nat} (h:MJ 32 w):ag.jk (ag.aO w)=[ag.aO w]:=by
 have nR:Su (ag.aO w) 32 0 (ag.aO w).size:=fun j _ _ hs=>by
  have mA:j<w.length:=by rw[AZ] at hs;exact hs
  rw[Ss j mA]
  intro e
  obtain ⟨h1,h2⟩:=h _ (List.getElem_mem mA)
  exact h2 (ofNat_eq h1 (by decide) e)
 have:=We nR
 rwa [Kg] at this
theorem MK: ∀{ws:List (List Nat)},ws≠[]->(∀w∈ws,MJ 32 w)->ag.jk (ag.aO (gG [32] ws))=ws.map ag.aO
 |[],h,_=>absurd rfl h
 |[w],_,h=>by simp only[gG,List.map_cons,List.map_nil];exact X2 (h w (by simp))
 |w::v::r,_,h=>by
  have ih:=MK (ws:=v::r) (by simp) fun x hx=>h x (List.mem_cons_of_mem _ hx)
  simp only[gG,List.map_cons,List.singleton_append] at ih ⊢
  rw[Wc (h w (by simp)),ih]
theorem TN {ws:List (List Nat)} (h0:ws≠[]) (h: ∀w∈ws,MJ 32 w/\MJ 10 w/\w≠[]):ag.l5 (ag.aO (gG [32] ws++[10]))=ag.kZ true (fun i=>ag.aO (ws.getD i [])) ws.length:=by
 have hcut:ag.vX (ag.aO (gG [32] ws++[10]))=ag.aO (gG [32] ws)/\ag.DU (ag.aO (gG [32] ws++[10]))=true:=by
  constructor
  . apply ag.Sr
    show (Lib.trimSuffix _ [10]).toArray.toList=_
    rw[qB,qB]
    simp[Lib.trimSuffix,Lib.hasSuffix]
  . unfold ag.DU
    rw[qB]
    simp[Lib.hasSuffix]
 unfold ag.l5
 rw[hcut.1,hcut.2]
 have hw:=MK h0 fun w hw=>(h w hw).1
 have e1:ag.lD (ag.aO (gG [32] ws))=ws.length:=by unfold ag.lD;rw[hw,List.length_map]
 have e2:ag.oA (ag.aO (gG [32] ws))=fun i=>ag.aO (ws.getD i []):=by
  funext i
  unfold ag.oA
  rw[hw]
  simp only[List.getD_eq_getElem?_getD,List.getElem?_map]
  cases ws[i]? <;>rfl
 rw[e1,e2]
theorem Js: ∀(f n:Nat),n<10 ^ (f+1)->(Lib.decDigits n).all qb=true/\ag.val (Lib.decDigits n)=n/\1<=(Lib.decDigits n).length/\(Lib.decDigits n).length<=f+1/\(0<n->(Lib.decDigits n).head? ≠some 48)/\(Lib.decDigits n).map UInt8.toNat=fU (f+1) n:=by
 intro f
 induction f with
 |zero=>
  intro n h
  have wu:n<10:=by simpa using h
  rw[Lib.decDigits_one wu]
  have hd:qb (UInt8.ofNat (48+n))=true:=by rw[ue];simp only[UInt8.toNat_ofNat'];omega
  have ht:(UInt8.ofNat (48+n)).toNat=48+n:=by simp only[UInt8.toNat_ofNat'];omega
  generalize UInt8.ofNat (48+n)=x at hd ht ⊢
  refine ⟨by simp[hd],by simp[ag.val,ht],by simp,by simp,fun h0 e=> ?_,by simp[fU,wu,ht]⟩
  simp only[List.head?_cons,Option.some.injEq] at e
  subst e
  have:(48:UInt8).toNat=48:=rfl
  omega
 |succ f ih=>
  intro n h
  by_cases wu:n<10
  . rw[Lib.decDigits_one wu]
    have hd:qb (UInt8.ofNat (48+n))=true:=by rw[ue];simp only[UInt8.toNat_ofNat'];omega
    have ht:(UInt8.ofNat (48+n)).toNat=48+n:=by simp only[UInt8.toNat_ofNat'];omega
    generalize UInt8.ofNat (48+n)=x at hd ht ⊢
    refine ⟨by simp[hd],by simp[ag.val,ht],by simp,by simp,fun h0 e=> ?_,by simp[fU,wu,ht]⟩
    simp only[List.head?_cons,Option.some.injEq] at e
    subst e
    have:(48:UInt8).toNat=48:=rfl
    omega
  . obtain ⟨a1,a2,a3,a4,a5,a6⟩:=ih (n / 10) (by rw[Nat.pow_succ] at h;omega)
    have hdd:Lib.decDigits n=Lib.decDigits (n / 10)++[UInt8.ofNat (48+n % 10)]:=by
        conv=>lhs;rw[Lib.decDigits]
        rw[dif_neg wu]
    have hd:qb (UInt8.ofNat (48+n % 10))=true:=by rw[ue];simp only[UInt8.toNat_ofNat'];omega
    have ht:(UInt8.ofNat (48+n % 10)).toNat=48+n % 10:=by simp only[UInt8.toNat_ofNat'];omega
    rw[hdd]
    generalize UInt8.ofNat (48+n % 10)=x at hd ht ⊢
    refine ⟨by simp[a1,hd],by rw[ag.Sv,a2,ht];omega,by simp,by simp;omega,fun _=> ?_,by
        rw[List.map_append,a6]
        conv=>rhs;rw[fU]
        rw[if_neg wu]
        simp[ht]⟩
    have:=a5 (by omega)
    cases hq:Lib.decDigits (n / 10) with
    |nil=>rw[hq] at a3;simp at a3
    |cons x l=>rw[hq] at this;simpa using this
theorem IL {n:Int} (h0:0<=n) (h1:n<10000000000):eG n=fU 10 n.toNat:=by
 obtain ⟨m,rfl⟩: ∃m:Nat,n=(m:Int):=⟨n.toNat,by omega⟩
 unfold eG
 rw[Lib.itoa_nonneg]
 exact (Js 9 m (by have:(10:Nat) ^ 10=10000000000:=by decide
                   omega)).2.2.2.2.2
theorem UX {n:Int} (h0:0<=n) (h1:n<=999999999):jt (ag.aO (eG n)).data.toList=true/\sx (ag.aO (eG n)).data.toList=n:=by
 obtain ⟨m,rfl⟩: ∃m:Nat,n=(m:Int):=⟨n.toNat,by omega⟩
 have hl:(ag.aO (eG (m:Int))).data.toList=Lib.decDigits m:=by
  rw[qB]
  unfold eG
  rw[Lib.itoa_nonneg,List.map_map]
  conv=>rhs;rw[<-List.map_id (Lib.decDigits m)]
  refine List.map_congr_left fun x _=> ?_
  simp
 obtain ⟨a1,a2,a3,a4,a5,_⟩:=Js 8 m (by have:(10:Nat) ^ 9=1000000000:=by decide
                                       omega)
 have dr:jt (Lib.decDigits m)=true:=by
  unfold jt
  rw[a1,decide_eq_true a3,decide_eq_true a4]
  by_cases hm:m=0
  . subst hm;rw[Lib.decDigits_one (by decide)];decide
  . have:=a5 (by omega)
    have h48:((Lib.decDigits m).head? ==some 48)=false:=by
        cases h:(Lib.decDigits m).head? with
        |none=>rfl
        |some x=>rw[h] at this;simpa using this
    rw[h48];simp
 rw[hl]
 refine ⟨dr,?_⟩
 unfold sx
 rw[if_pos dr,a2]
theorem Sw {f n:Nat} {c:Nat} (hc:c<48):MJ c (fU (f+1) n)/\fU (f+1) n≠[]:=by
 have key: ∀(f n:Nat),∀x∈fU f n,x<256/\x≠c:=by
  intro f
  induction f with
  |zero=>intro n x h;simp[fU] at h
  |succ f ih=>
   intro n x h
   unfold fU at h
   split at h
   .    simp at h;omega
   .    rcases List.mem_append.1 h with h|h
        . exact ih _ x h
        . simp at h;omega
 refine ⟨key _ _,?_⟩
 unfold fU
 split<;>simp
end Go.Proofs.YtehbdakjkjkekaaGreatDoor
end
section
set_option maxRecDepth 100000
namespace Go.Proofs.YtehbdakjkjkekaaGreatDoor
open Go Go.Ai Go.Proofs Go.ag
def iE (a:Int) (s:List Nat):Prop:=if a=0 then s=[] else if a=101 then s=[]\/eU s=true else eU s=true
def xD (k:Kd) (r:Rl):Prop:=(0<=r.wt/\r.wt<=1000)/\(0<=r.n/\r.n<=999999999)/\(k.n=false->r.n=0)/\iE k.a r.a/\(if k.b=true then eU r.b=true else r.b=[])/\iE k.t r.t
theorem Ba {m:Nat} (h1:1<=m) (h2:m<=18):m=1\/m=2\/m=3\/m=4\/m=5\/m=6\/m=7\/m=8\/m=9\/m=10\/m=11\/m=12\/m=13\/m=14\/m=15\/m=16\/m=17\/m=18:=by omega
theorem GC {r:Rl} {m:Nat} (hm:r.k=(m:Int)) (h1:1<=m) (h2:m<=18):oE r=true↔xD (kd m) r:=by
 obtain ⟨k,wt,a,b,t,n⟩:=r
 simp only at hm
 subst hm
 rcases Ba h1 h2 with rfl|rfl|rfl|rfl|rfl|rfl|rfl|rfl|rfl|rfl|rfl|rfl|rfl|rfl|rfl|rfl|rfl|rfl
 all_goals
  unfold oE MG XX XY XZ xD iE fT oh yA lQ
  simp[kd,fT]
  grind
theorem kdF {m:Nat} (h2:m<=18):(kd m).w=(vB m).map UInt8.toNat/\(kd m).a=mZ m/\(kd m).b=nc m/\(kd m).t=ng m/\(kd m).n=nh m:=by
 rcases Nat.eq_zero_or_pos m with rfl|h1
 . decide
 . rcases Ba h1 h2 with rfl|rfl|rfl|rfl|rfl|rfl|rfl|rfl|rfl|rfl|rfl|rfl|rfl|rfl|rfl|rfl|rfl|rfl<;>decide
theorem Sx (b:ByteArray):eU (ag.lO b)=rZ b.data.toList:=by
 unfold eU rZ ag.lO
 rw[List.length_map,List.all_map]
 congr 1
 refine List.all_congr rfl fun c=> ?_
 show decide (97<=c.toNat/\c.toNat<=122)=vC c
 cases h:vC c with
 |true=>have:=(zN c).1 h;rw[decide_eq_true (by omega)]
 |false=>
  rw[decide_eq_false]
  intro e
  have:=(zN c).2 (by omega)
  rw[h] at this;cases this
theorem Wg:ag.lO ⟨#[]⟩=[]:=rfl
theorem GD {a:Int} {u:ByteArray} (h:a=0\/iG u (a==101)=true):iE a (ag.lO (if a=0 then ⟨#[]⟩ else oI u (a==101))):=by
 unfold iE
 by_cases h0:a=0
 . rw[if_pos h0,if_pos h0];rfl
 . rw[  if_neg h0,if_neg h0]
   have h:=h.resolve_left h0
   unfold iG oI at*
   cases hd:pI u.data.toList (a==101) with
   |true=>
    have:a=101:=by
        unfold pI at hd
        simp only[Bool.and_eq_true,beq_iff_eq] at hd
        exact hd.2
    rw[if_pos rfl,if_pos this];exact .inl rfl
   |false=>
    rw[hd] at h
    simp only[Bool.false_or] at h
    have e:eU (ag.lO (if false=true then ByteArray.empty else u))=true:=by
        rw[if_neg (by decide),Sx];exact h
    by_cases h1:a=101
    .   rw[if_pos h1];exact .inr e
    .   rw[if_neg h1];exact e
def NM (q:ag.RR):Rl:=⟨q.k,q.wt,ag.lO q.a,ag.lO q.b,ag.lO q.t,q.n⟩
theorem Jt {p:Prop} [Decidable p] {e:Int} {x:Int ⊕ ag.RR} {q:ag.RR} (h:(if p then .inl e else x)= .inr q): ¬p/\x= .inr q:=by
 by_cases hp:p
 . rw[if_pos hp] at h;cases h
 . rw[if_neg hp] at h;exact ⟨hp,h⟩
theorem ab2 {p:Prop} [Decidable p] {e:Int} {y q:ag.RR} (h:(if p then .inr y else (.inl e:Int ⊕ ag.RR))= .inr q):p/\y=q:=by
 by_cases hp:p
 . rw[if_pos hp] at h;cases h;exact ⟨hp,rfl⟩
 . rw[if_neg hp] at h;cases h
theorem X3 {K:Nat} {a t:Int} {b n:Bool} {u:Nat->ByteArray} {len:Nat} {wt:Int} {q:ag.RR} (hk:K<=18) (ha:(kd K).a=a) (hb:(kd K).b=b) (ht:(kd K).t=t) (hn:(kd K).n=n) (h:ag.bB K a b t n u len wt= .inr q) (hw:wt≠0->0<wt\/wt<0):
   q.k=K/\1<=K/\xD (kd K) (NM q):=by
 unfold ag.bB at h
 obtain ⟨h0,h⟩:=Jt h
 obtain ⟨_,h⟩:=Jt h
 obtain ⟨h3,h⟩:=Jt h
 obtain ⟨h4,h⟩:=Jt h
 obtain ⟨h5,rfl⟩:=ab2 h
 obtain ⟨f1,f2,f3⟩:=h5
 refine ⟨rfl,by omega,?_⟩
 unfold xD NM
 rw[ha,hb,ht,hn]
 refine ⟨by show 0<=wt/\wt<=1000;omega,?_,?_,GD f1,?_,GD f3⟩
 . cases n with
   |true=>simp only[if_true];exact ag.ML _
   |false=>simp
 . rintro rfl;simp
 . cases b with
   |true=>
    have:=f2.resolve_left (by simp)
    simp only[if_true]
    have:=GD (a:=103) (u:=u 2) (.inr this)
    simpa [iE] using this
   |false=>simp[Wg]
theorem X4 {x:ByteArray} {q:ag.RR} (h:ag.l5 x= .inr q):1<=q.k/\q.k<=18/\xD (kd q.k) (NM q):=by
 have body: ∀{u:Nat->ByteArray} {len:Nat} {wt:Int},ag.qc u len wt= .inr q->1<=q.k/\q.k<=18/\xD (kd q.k) (NM q):=fun {u len wt} hb=>by
   unfold ag.qc at hb
   have hk:=eS (u 0).data.toList
   obtain ⟨_,e1,e2,e3,e4⟩:=kdF hk
   obtain ⟨g1,g2,g3⟩:=X3 hk e1 e2 e3 e4 hb (fun h=>by omega)
   rw[g1]
   exact ⟨g2,hk,g3⟩
 unfold ag.l5 ag.kZ at h
 split at h<;>first|(cases h;done)|skip
 split at h
 . exact body h
 . split at h<;>first|(cases h;done)|skip
   split at h<;>first|(cases h;done)|skip
   exact body h
end Go.Proofs.YtehbdakjkjkekaaGreatDoor
end
section
set_option maxRecDepth 100000
namespace Go.Proofs.YtehbdakjkjkekaaGreatDoor
open Go Go.Ai Go.Proofs Go.ag
theorem js {s:List Nat} (h:eU s=true):s≠[]/\s.length<=12/\ ∀x∈s,97<=x/\x<=122:=by
 unfold eU at h
 simp only[Bool.and_eq_true,decide_eq_true_eq,List.all_eq_true] at h
 exact ⟨fun e=>by subst e;simp at h,h.1.2,h.2⟩
theorem afZ {s:List Nat} (h:eU s=true):rZ (ag.aO s).data.toList=true:=by
 obtain ⟨_,_,h3⟩:=js h
 rw[<-Sx,EO fun x hx=>by have:=h3 x hx;omega]
 exact h
theorem ab3 {s:List Nat} (h:eU s=true) (em:Bool):pI (ag.aO s).data.toList em=false:=by
 obtain ⟨_,_,h3⟩:=js h
 unfold pI
 have:((ag.aO s).data.toList==[45])=false:=by
  rw[beq_eq_false_iff_ne]
  intro e
  have h1:=EO (s:=s) fun x hx=>by have:=h3 x hx;omega
  unfold ag.lO at h1
  rw[e] at h1
  have:=h3 45 (by rw[<-h1];simp)
  omega
 rw[this];rfl
theorem UY {s:List Nat} (h:eU s=true) (em:Bool):iG (ag.aO s) em=true/\oI (ag.aO s) em=ag.aO s:=by
 unfold iG oI
 rw[ab3 h,afZ h]
 exact ⟨rfl,rfl⟩
theorem OK {a:Int} {s:List Nat} (h:iE a s) (h0:a≠0):iG (ag.aO (cJ s)) (a==101)=true/\oI (ag.aO (cJ s)) (a==101)=ag.aO s:=by
 have key:eU s=true->iG (ag.aO (cJ s)) (a==101)=true/\oI (ag.aO (cJ s)) (a==101)=ag.aO s:=fun hn=>by
   obtain ⟨h1,_⟩:=js hn
   have:cJ s=s:=by unfold cJ;rw[if_neg h1]
   rw[this]
   exact UY hn _
 unfold iE at h
 rw[if_neg h0] at h
 split at h
 . rename_i h1
   subst h1
   rcases h with rfl|h
   . exact ⟨rfl,rfl⟩
   . exact key h
 . exact key h
theorem X5 {m:Nat} {r:Rl} (h1:1<=m) (h18:m<=18) (hs:xD (kd m) r) (u:Nat->ByteArray) (len:Nat) (hlen:len=1+(gw (kd m) r++(if (kd m).n=true then [eG r.n] else [])).length)
   (hu: ∀i,u (i+1)=ag.aO ((gw (kd m) r++(if (kd m).n=true then [eG r.n] else [])).getD i [])):
   ag.bB m (kd m).a (kd m).b (kd m).t (kd m).n u len r.wt= .inr ⟨m,r.wt,ag.aO r.a,ag.aO r.b,ag.aO r.t,r.n⟩:=by
 obtain ⟨w1,w2,w3,fa,fb,ft⟩:=hs
 have hab:(kd m).a=0->(kd m).b=true->False:=fun ha hb=>by
   rcases Ba h1 h18 with rfl|rfl|rfl|rfl|rfl|rfl|rfl|rfl|rfl|rfl|rfl|rfl|rfl|rfl|rfl|rfl|rfl|rfl<;>simp[kd] at ha hb
 generalize kd m=K at*
 have hw: ¬(r.wt<0\/1000<r.wt):=by omega
 have hm: ¬m=0:=by omega
 obtain ⟨UZ,U0⟩:=UX w2.1 w2.2
 have e0:=hu 0
 have e1:=hu 1
 have e2:=hu 2
 have e3:=hu 3
 unfold gw at hlen e0 e1 e2 e3
 have za:K.a=0->r.a=[]:=fun h=>by unfold iE at fa;rwa [if_pos h] at fa
 have zt:K.t=0->r.t=[]:=fun h=>by unfold iE at ft;rwa [if_pos h] at ft
 have da:=fun h=>OK fa h
 have dt:=fun h=>OK ft h
 have db:K.b=true->iG (ag.aO (cJ r.b)) false=true/\oI (ag.aO (cJ r.b)) false=ag.aO r.b:=fun h=>by
   rw[if_pos h] at fb
   obtain ⟨h1,_⟩:=js fb
   have:cJ r.b=r.b:=by unfold cJ;rw[if_neg h1]
   rw[this]
   exact UY fb _
 have zb:K.b=false->r.b=[]:=fun h=>by rw[h] at fb;simpa using fb
 have zn:=w3
 have hz:ag.aO []=⟨#[]⟩:=rfl
 clear fa fb ft w3
 unfold ag.bB
 by_cases ha:K.a=0
 . rw[  za ha]
   cases hb:K.b with
   |false=>
    rw[zb hb]
    by_cases ht:K.t=0
    .   rw[zt ht]
        cases hn:K.n with
        |false=>simp[ha,hb,ht,hn,hm,hw,hz,zn hn] at hlen e0 e1 e2 e3 ⊢; simp[hlen]
        |true=>simp[ha,hb,ht,hn,hm,hw,hz] at hlen e0 e1 e2 e3 ⊢; simp[hlen,e0,UZ,U0]
    .   obtain ⟨d1,d2⟩:=dt ht
        cases hn:K.n with
        |false=>simp[ha,hb,ht,hn,hm,hw,hz,zn hn] at hlen e0 e1 e2 e3 ⊢; simp[hlen,e0,d1,d2]
        |true=>simp[ha,hb,ht,hn,hm,hw,hz] at hlen e0 e1 e2 e3 ⊢; simp[hlen,e0,e1,d1,d2,UZ,U0]
   |true=>
    obtain ⟨b1,b2⟩:=db hb
    exfalso;exact hab ha hb
 . obtain ⟨a1,a2⟩:=da ha
   cases hb:K.b with
   |false=>
    rw[zb hb]
    by_cases ht:K.t=0
    .   rw[zt ht]
        cases hn:K.n with
        |false=>simp[ha,hb,ht,hn,hm,hw,hz,zn hn] at hlen e0 e1 e2 e3 ⊢; simp[hlen,e0,a1,a2]
        |true=>simp[ha,hb,ht,hn,hm,hw,hz] at hlen e0 e1 e2 e3 ⊢; simp[hlen,e0,e1,a1,a2,UZ,U0]
    .   obtain ⟨d1,d2⟩:=dt ht
        cases hn:K.n with
        |false=>simp[ha,hb,ht,hn,hm,hw,hz,zn hn] at hlen e0 e1 e2 e3 ⊢; simp[hlen,e0,e1,a1,a2,d1,d2]
        |true=>simp[ha,hb,ht,hn,hm,hw,hz] at hlen e0 e1 e2 e3 ⊢; simp[hlen,e0,e1,e2,a1,a2,d1,d2,UZ,U0]
   |true=>
    obtain ⟨b1,b2⟩:=db hb
    by_cases ht:K.t=0
    .   rw[zt ht]
        cases hn:K.n with
        |false=>simp[ha,hb,ht,hn,hm,hw,hz,zn hn] at hlen e0 e1 e2 e3 ⊢; simp[hlen,e0,e1,a1,a2,b1,b2]
        |true=>simp[ha,hb,ht,hn,hm,hw,hz] at hlen e0 e1 e2 e3 ⊢; simp[hlen,e0,e1,e2,a1,a2,b1,b2,UZ,U0]
    .   obtain ⟨d1,d2⟩:=dt ht
        cases hn:K.n with
        |false=>simp[ha,hb,ht,hn,hm,hw,hz,zn hn] at hlen e0 e1 e2 e3 ⊢; simp[hlen,e0,e1,e2,a1,a2,b1,b2,d1,d2]
        |true=>simp[ha,hb,ht,hn,hm,hw,hz] at hlen e0 e1 e2 e3 ⊢; simp[hlen,e0,e1,e2,e3,a1,a2,b1,b2,d1,d2,UZ,U0]
def Good (w:List Nat):Prop:=MJ 32 w/\MJ 10 w/\w≠[]
theorem U1 {s:List Nat} (h:eU s=true):Good s:=by
 obtain ⟨h1,_,h3⟩:=js h
 exact ⟨fun x hx=>by have:=h3 x hx;omega,fun x hx=>by have:=h3 x hx;omega,h1⟩
theorem GF {s:List Nat} (h:(s.all fun x=>decide (x<256)&&(!decide (x=32)&& !decide (x=10)))=true) (h0:s≠[]):Good s:=by
 rw[List.all_eq_true] at h
 refine ⟨fun x hx=> ?_,fun x hx=> ?_,h0⟩<;>(have:=h x hx;simp at this;omega)
theorem OL {a:Int} {s:List Nat} (h:iE a s) (h0:a≠0):Good (cJ s):=by
 unfold iE at h
 rw[if_neg h0] at h
 have key:eU s=true->Good (cJ s):=fun hn=>by
   obtain ⟨h1,_⟩:=js hn
   have:cJ s=s:=by unfold cJ;rw[if_neg h1]
   rw[this];exact U1 hn
 split at h
 . rcases h with rfl|h
   . exact GF (by decide) (by decide)
   . exact key h
 . exact key h
theorem Sy {n:Int} (h0:0<=n) (h1:n<=999999999):Good (eG n):=by
 rw[IL h0 (by omega)]
 exact ⟨(Sw (by decide)).1,(Sw (by decide)).1,(Sw (c:=10) (by decide)).2⟩
theorem ab4 {m:Nat} (h1:1<=m) (h2:m<=18):Good (kd m).w:=by
 rcases Ba h1 h2 with rfl|rfl|rfl|rfl|rfl|rfl|rfl|rfl|rfl|rfl|rfl|rfl|rfl|rfl|rfl|rfl|rfl|rfl<;>exact GF (by decide) (by decide)
theorem MM {m:Nat} {r:Rl} (h1:1<=m) (h2:m<=18) (hs:xD (kd m) r): ∀w∈gK (kd m) r,Good w:=by
 have gk:=ab4 h1 h2
 obtain ⟨w1,w2,w3,fa,fb,ft⟩:=hs
 intro w hw
 unfold gK p9 gw at hw
 simp only[List.mem_append] at hw
 rcases hw with ((hw|hw)|((hw|hw)|hw))|hw
 . split at hw
   . simp at hw
     rcases hw with rfl|rfl
     . exact GF (by decide) (by decide)
     . exact Sy w1.1 (by omega)
   . simp at hw;subst hw;exact GF (by decide) (by decide)
 . simp at hw;subst hw;exact gk
 . split at hw
   . rename_i h;simp at hw;subst hw;exact OL fa h
   . simp at hw
 . split at hw
   . rename_i h;simp at hw;subst hw
     rw[if_pos h] at fb
     obtain ⟨q1,_⟩:=js fb
     have:cJ r.b=r.b:=by unfold cJ;rw[if_neg q1]
     rw[this];exact U1 fb
   . simp at hw
 . split at hw
   . rename_i h;simp at hw;subst hw;exact OL ft h
   . simp at hw
 . split at hw
   . simp at hw;subst hw;exact Sy w2.1 w2.2
   . simp at hw
theorem Sz (ws:List (List Nat)) (h: ∀w∈ws,Good w): ∀k,k<=ws.length->ag.xE true (fun i=>ag.aO (ws.getD i [])) k=true
 |0,_=>by rw[ag.OM]
 |k+1,hk=>by
  rw[ag.IM,Sz ws h k (by omega)]
  have hw:=h _ (List.getElem_mem (show k<ws.length by omega))
  have e:ws.getD k []=ws[k]:=by simp[List.getD_eq_getElem?_getD,List.getElem?_eq_getElem (show k<ws.length by omega)]
  have:(ag.aO (ws.getD k [])).toList≠[]:=by
   rw[Go.ByteArray.toList_eq,qB,e]
   intro h0
   exact hw.2.2 (List.map_eq_nil_iff.1 h0)
  cases hl:(ag.aO (ws.getD k [])).toList with
  |nil=>exact absurd hl this
  |cons x l=>simp[hl]
theorem ON {m:Nat} {r:Rl} (h1:1<=m) (h2:m<=18) (hs:xD (kd m) r) (u:Nat->ByteArray) (len:Nat) (hlen:len=1+(gw (kd m) r++(if (kd m).n=true then [eG r.n] else [])).length) (h0:u 0=ag.aO (kd m).w)
  (hu: ∀i,u (i+1)=ag.aO ((gw (kd m) r++(if (kd m).n=true then [eG r.n] else [])).getD i [])):ag.qc u len r.wt= .inr ⟨m,r.wt,ag.aO r.a,ag.aO r.b,ag.aO r.t,r.n⟩:=by
 obtain ⟨e0,e1,e2,e3,e4⟩:=kdF h2
 have hk:kindOf (u 0).data.toList=m:=by
  have:(u 0).data.toList=vB m:=by
   rw[h0,qB,e0,List.map_map]
   conv=>rhs;rw[<-List.map_id (vB m)]
   refine List.map_congr_left fun x _=> ?_
   simp
  rw[this];exact OO m h1 h2
 unfold ag.qc
 rw[hk, <-e1, <-e2, <-e3, <-e4]
 exact X5 h1 h2 hs u len hlen hu
theorem X6 {m:Nat} {r:Rl} (hm:r.k=(m:Int)) (h1:1<=m) (h2:m<=18) (hs:xD (kd m) r):ag.l5 (ag.aO (jL r))= .inr ⟨m,r.wt,ag.aO r.a,ag.aO r.b,ag.aO r.t,r.n⟩:=by
 have hg:=MM h1 h2 hs
 have N9:r.k.toNat=m:=by omega
 have en:gK (kd m) r≠[]:=by unfold gK p9;split<;>simp
 unfold jL
 rw[N9,TN en hg]
 unfold ag.kZ
 rw[Sz _ hg _ (Nat.le_refl _),if_neg (by decide)]
 have cH:=hs.1
 by_cases hw:0<r.wt
 . have e:gK (kd m) r=[119,101,105,103,104]::eG r.wt::(kd m).w::(gw (kd m) r++(if (kd m).n=true then [eG r.n] else [])):=by
    unfold gK p9;rw[if_pos hw];simp
   obtain ⟨d1,d2⟩:=UX cH.1 (by omega)
   rw[e]
   have q0:(ag.aO (([119,101,105,103,104]::eG r.wt::(kd m).w::(gw (kd m) r++(if (kd m).n=true then [eG r.n] else []))).getD 0 [])).toList=[119,101,105,103,104]:=by rw[Go.ByteArray.toList_eq,qB];rfl
   have q1:ag.aO (([119,101,105,103,104]::eG r.wt::(kd m).w::(gw (kd m) r++(if (kd m).n=true then [eG r.n] else []))).getD 1 [])=ag.aO (eG r.wt):=rfl
   simp only[q0,q1,d1,d2]
   have hne0: ¬r.wt=0:=by omega
   rw[if_neg (by simp),if_pos ⟨trivial,by simp⟩,if_neg (by simp),if_neg hne0]
   exact ON h1 h2 hs _ _ (by simp;omega) rfl (fun i=>rfl)
 . have e:gK (kd m) r=[104,97,114,100]::(kd m).w::(gw (kd m) r++(if (kd m).n=true then [eG r.n] else [])):=by
    unfold gK p9;rw[if_neg hw];simp
   have UW:r.wt=0:=by omega
   rw[e]
   have q0:(ag.aO (([104,97,114,100]::(kd m).w::(gw (kd m) r++(if (kd m).n=true then [eG r.n] else []))).getD 0 [])).toList=[104,97,114,100]:=by rw[Go.ByteArray.toList_eq,qB];rfl
   simp only[q0]
   rw[if_pos ⟨trivial,by simp⟩, <-UW]
   exact ON h1 h2 hs _ _ (by simp;omega) rfl (fun i=>rfl)
end Go.Proofs.YtehbdakjkjkekaaGreatDoor
end
section
set_option maxRecDepth 100000
namespace Go.Proofs.YtehbdakjkjkekaaGreatDoor
open Go Go.Ai Go.Proofs Go.ag
theorem MN {r:Rl} (h8:0<=r.k/\r.k<256) (h:oE r=true):1<=r.k.toNat/\r.k.toNat<=18/\r.k=(r.k.toNat:Int):=by
 have hw:(kd r.k.toNat).w≠[]:=by
   intro e
   unfold oE MG at h
   rw[e] at h
   simp at h
 refine ⟨?_,?_,by omega⟩
 . rcases Nat.eq_zero_or_pos r.k.toNat with e|e
   . rw[e] at hw;exact absurd rfl hw
   . exact e
 . by_cases hb:r.k.toNat<=18
   . exact hb
   . exfalso;apply hw
     generalize r.k.toNat=m at hb
     unfold kd
     split<;>first|rfl|(exfalso;omega)
theorem MO {a:Int} {s:List Nat} (h:iE a s): ∀x∈s,x<256:=by
 unfold iE at h
 intro x hx
 have nm:eU s=true->x<256:=fun h=>by have:=(js h).2.2 x hx;omega
 split at h
 . rw[h] at hx;cases hx
 . split at h
   . rcases h with h|h
     . rw[h] at hx;cases hx
     . exact nm h
   . exact nm h
theorem aan {q:ag.RR} {r:Rl} (h:Di q r=true):r=NM q:=by
 obtain ⟨k,wt,a,b,t,n⟩:=r
 unfold Di at h
 simp only[Bool.and_eq_true,decide_eq_true_eq] at h
 obtain ⟨h1,h2,h3,h4,h5,h6⟩:=h
 unfold NM
 rw[h1,h2,h3,h4,h5,h6]
theorem SA {r:Rl} (h8:0<=r.k/\r.k<256):BF r=oE r:=by
 cases hs:oE r with
 |true=>
  obtain ⟨h1,h2,hm⟩:=MN h8 hs
  have hk:=(GC hm h1 h2).1 hs
  unfold BF
  rw[X6 hm h1 h2 hk]
  have ha:=EO (MO hk.2.2.2.1)
  have ht:=EO (MO hk.2.2.2.2.2)
  have hb:ag.lO (ag.aO r.b)=r.b:=EO fun x hx=>by
   have:=hk.2.2.2.2.1
   split at this
   .    have:=(js this).2.2 x hx;omega
   .    rw[this] at hx;cases hx
  simp only[Di,ha,hb,ht,decide_true,Bool.and_true,decide_eq_true_eq]
  exact hm.symm
 |false=>
  cases hf:BF r with
  |false=>rfl
  |true=>
   unfold BF at hf
   cases hl:ag.l5 (ag.aO (jL r)) with
   |inl e=>rw[hl] at hf;cases hf
   |    inr q=>
        rw[hl] at hf
        obtain ⟨h1,h2,h3⟩:=X4 hl
        have:=aan hf
        have hk:r.k=(q.k:Int):=by rw[this];rfl
        rw[<-this] at h3
        rw[(GC hk h1 h2).2 h3] at hs
        cases hs
theorem X7 {r:Rl} (h8:0<=r.k/\r.k<256) (h:oE r=true):jL r=Dq r:=by
 obtain ⟨h1,h2,hm⟩:=MN h8 h
 have hk:=(GC hm h1 h2).1 h
 obtain ⟨⟨w0,w1⟩,⟨n0,n1⟩,_,_,hb,_⟩:=hk
 have dw:=IL w0 (by omega)
 have dn:=IL n0 (by omega)
 have hdb:eU r.b=true->cJ r.b=r.b:=fun h=>by unfold cJ;rw[if_neg (js h).1]
 obtain ⟨k,wt,a,b,t,n⟩:=r
 simp only at*
 unfold jL Dq uK xA zK B8 EM gK p9 gw fT oh yA lQ
 simp only[dw,dn]
 generalize k.toNat=m at*
 subst hm
 by_cases hw:wt=0
 . subst hw
   rcases Ba h1 h2 with rfl|rfl|rfl|rfl|rfl|rfl|rfl|rfl|rfl|rfl|rfl|rfl|rfl|rfl|rfl|rfl|rfl|rfl
   all_goals
    simp[kd,gG,fT] at hb ⊢
    try simp[hdb hb]
 . have hw':0<wt:=by omega
   rcases Ba h1 h2 with rfl|rfl|rfl|rfl|rfl|rfl|rfl|rfl|rfl|rfl|rfl|rfl|rfl|rfl|rfl|rfl|rfl|rfl
   all_goals
    simp[kd,gG,fT,hw,hw'] at hb ⊢
    try simp[hdb hb]
theorem U2: ∀(rs:List Rl) (acc:List Nat),(∀r∈rs,0<=r.k/\r.k<256)->qa rs acc=vA rs acc
 |[],acc,_=>rfl
 |r::rs,acc,h=>by
  have h8:=h r (List.mem_cons_self ..)
  unfold qa vA
  rw[SA h8]
  cases hs:oE r with
  |false=>rfl
  |true=>
   rw[if_pos rfl,if_pos rfl,X7 h8 hs]
   exact U2 rs _ fun q hq=>h q (List.mem_cons_of_mem _ hq)
theorem ab5 {rs:List Rl} (h: ∀r∈rs,0<=r.k/\r.k<256):fmtS rs=B9 rs:=by
 unfold fmtS B9;rw[U2 rs [] h]
theorem SB: ∀{ws:List (List Nat)},(∀w∈ws,Good w)->MJ 10 (gG [32] ws)
 |[],_=>fun x h=>by cases h
 |[w],h=>(h w (List.mem_cons_self ..)).2.1
 |w::v::r,h=>fun x hx=>by
  simp only[gG,List.mem_append,List.mem_singleton] at hx
  rcases hx with hx|rfl|hx
  . exact (h w (List.mem_cons_self ..)).2.1 x hx
  . omega
  . exact SB (ws:=v::r) (fun y hy=>h y (List.mem_cons_of_mem _ hy)) x hx
theorem af0 {s:List Nat} {a:Int} (h:iE a s):s.length<=12:=by
 unfold iE at h
 split at h
 . rw[h];simp
 . split at h
   . rcases h with h|h
     . rw[h];simp
     . exact (js h).2.1
   . exact (js h).2.1
end Go.Proofs.YtehbdakjkjkekaaGreatDoor
end
section
set_option maxRecDepth 100000
namespace Go.Proofs.YtehbdakjkjkekaaGreatDoor
open Go Go.Ai Go.Proofs
variable {c : ai}
structure Rl.GG (r:Rl):Prop where
 k:0<=r.k/\r.k<256
 wt: -9223372036854775808<=r.wt/\r.wt<=9223372036854775807
 n: -9223372036854775808<=r.n/\r.n<=9223372036854775807
 la:r.a.length+r.b.length+r.t.length<=1048576
 byte: ∀x∈r.a++(r.b++r.t),x<256
theorem OP {n:Int} (h: -9223372036854775808<=n/\n<=9223372036854775807):(eG n).length<=20:=by
 have hp:(10:Nat) ^ 19=10000000000000000000:=by decide
 unfold eG
 rw[List.length_map]
 by_cases h0:0<=n
 . obtain ⟨m,rfl⟩: ∃m:Nat,n=(m:Int):=⟨n.toNat,by omega⟩
   rw[Lib.itoa_nonneg]
   have:=(Js 18 m (by omega)).2.2.2.1
   omega
 . obtain ⟨m,rfl⟩: ∃m:Nat,n= -(m:Int):=⟨(-n).toNat,by omega⟩
   have hm:m≠0:=by omega
   have:=(Js 18 m (by omega)).2.2.2.1
   have e:Lib.itoa (-(m:Int))=45::Lib.decDigits m:=by
    unfold Lib.itoa
    rw[if_pos (by omega)]
    congr 2
    omega
   rw[e]
   simp only[List.length_cons]
   omega
theorem SC (n:Int): ∀x∈eG n,x<256:=fun x hx=>by
 unfold eG at hx
 simp only[List.mem_map] at hx
 obtain ⟨y,_,rfl⟩:=hx
 exact y.toNat_lt
theorem OQ: ∀ws:List (List Nat),(gG [32] ws).length<=(ws.map fun w=>w.length+1).sum
 |[]=>Nat.le_refl _
 |[w]=>by simp[gG]
 |w::v::r=>by
  have:=OQ (v::r)
  simp only[gG,List.length_append,List.length_cons,List.length_nil,List.map_cons,List.sum_cons] at this ⊢
  omega
theorem OR: ∀(ws:List (List Nat)) (x:Nat),x∈gG [32] ws->x=32\/ ∃w∈ws,x∈w
 |[],x,h=>by cases h
 |[w],x,h=> .inr ⟨w,List.mem_cons_self ..,h⟩
 |w ::v::r,x,h=>by
  simp only[gG,List.mem_append,List.mem_singleton] at h
  rcases h with h|rfl|h
  . exact .inr ⟨w,List.mem_cons_self ..,h⟩
  . exact .inl rfl
  . rcases OR (v::r) x h with rfl|⟨u,hu,hx⟩
    . exact .inl rfl
    . exact .inr ⟨u,List.mem_cons_of_mem _ hu,hx⟩
theorem af1 (m:Nat): ∀x∈(kd m).w,x<256:=by
 unfold kd;split<;>simp
theorem Lm {s:List Nat} (h: ∀x∈s,x<256): ∀x∈cJ s,x<256:=by
 unfold cJ
 split
 . simp
 . exact h
theorem Rl.GG.fit {r:Rl} (h:r.GG):r.Fit:=by
 have l1:=OP h.wt
 have l2:=OP h.n
 have l3:=NJ r.k.toNat
 have d1:=tZ r.a
 have d2:=tZ r.b
 have d3:=tZ r.t
 have la:=h.la
 have hb:=h.byte
 have ba:=Lm (s:=r.a) fun x hx=>hb x (by simp[hx])
 have bb:=Lm (s:=r.b) fun x hx=>hb x (by simp[hx])
 have bt:=Lm (s:=r.t) fun x hx=>hb x (by simp[hx])
 have b1:=SC r.wt
 have b2:=SC r.n
 have b3:=af1 r.k.toNat
 refine ⟨h.k,h.wt,h.n,?_,?_⟩
 . have:=OQ (gK (kd r.k.toNat) r)
   unfold jL
   rw[List.length_append]
   have hs:((gK (kd r.k.toNat) r).map fun w=>w.length+1).sum<=2000000:=by
     unfold gK p9 gw
     split<;>split<;>split<;>split<;>split<;>simp<;>omega
   simp only[List.length_cons,List.length_nil]
   omega
 . intro  x hx
   unfold jL at hx
   rcases List.mem_append.1 hx with hx|hx
   . rcases OR _ x hx with rfl|⟨w,hw,hx⟩
     .  decide
     .  have:w=[119,101,105,103,104]\/w=eG r.wt\/w=[104,97,114,100]\/w=(kd r.k.toNat).w\/w=cJ r.a\/w=cJ r.b\/w=cJ r.t\/w=eG r.n:=by
          unfold gK p9 gw at hw
          split at hw<;>split at hw<;>split at hw<;>split at hw<;>split at hw<;>simp at hw<;>grind
        rcases this with rfl|rfl|rfl|rfl|rfl|rfl|rfl|rfl
        . simp at hx;omega
        . exact b1 x hx
        . simp at hx;omega
        . exact b3 x hx
        . exact ba x hx
        . exact bb x hx
        . exact bt x hx
        . exact b2 x hx
   . simp at hx;omega
theorem Rl.GG.short {r:Rl} (h:r.GG):r.PO:=⟨h.k,by have:=h.la;omega,by have:=h.la;omega,by have:=h.la;omega⟩
end Go.Proofs.YtehbdakjkjkekaaGreatDoor
end
section
set_option maxRecDepth 100000
namespace Go.Proofs.YtehbdakjkjkekaaGreatDoor
open Go Go.Ai Go.Proofs Go.RowKit
section
variable {H : Type}
end
section
variable {H : Type} {enc : TypeId × Value -> H} {w : World} {base : Nat} {spare : Nat -> Bool} {held : Bool}
end
theorem aao {P:Program} {W w:World} {name:String} {k:IntKind} {zs:List Int} {g:Nat} (hg:P.globalNamed name=some g) (h:Lib.TabIs P W name k zs) (hz:zs≠[])
  (h1: ∀ad v,W.cell? ad=some v->w.cell? ad=some v) (h2: ∀a v,W.cell? a=some v-> ∀o,W.cell? ⟨a.block,o,none⟩=none->w.cell? ⟨a.block,o,none⟩=none):Lib.TabIs P w name k zs:=by
 have h0:0<zs.length:=List.length_pos_iff.2 hz
 have c0:=h.cell hg 0 h0
 unfold Lib.TabIs World.var? at h ⊢
 rw[hg] at h ⊢
 simp only[Option.bind_some] at h ⊢
 cases hW:W.heap[g]? with
 |none=>rw[hW] at h;cases h
 |some o=>
  rw[hW] at h
  cases o with
  |cells cs t fz=>
   simp only[Option.some.injEq] at h
   have c1:=h1 _ _ c0
   cases hw:w.heap[g]? with
   |none=>simp only[World.cell?,hw] at c1;cases c1
   |    some o'=>
        cases o' with
        |cells ql t' fz'=>
         simp only[Option.some.injEq]
         rw[<-h]
         apply Array.ext_getElem?
         intro i
         have a1:W.cell? ⟨g,i,none⟩=cs[i]? :=by simp[World.cell?,hW]
         have a2:w.cell? ⟨g,i,none⟩=ql[i]? :=by simp[World.cell?,hw]
         rw[<-a1, <-a2]
         cases hc:W.cell? ⟨g,i,none⟩ with
         |some v=>exact h1 _ _ hc
         |none=>exact h2 _ _ c0 i hc
        |_=>simp only[World.cell?,hw] at c1;cases c1
  |_=>cases h
end Go.Proofs.YtehbdakjkjkekaaGreatDoor
end
section
set_option maxRecDepth 100000
namespace Go.Proofs.YtehbdakjkjkekaaGreatDoor
open Go Go.Ai Go.Proofs Go.RowKit
theorem AK.up {C C':Cells} (h:AK C) (h1: ∀ad u,C ad=some u->C' ad=some u) (h2: ∀a v,C a=some v-> ∀o,C ⟨a.block,o,none⟩=none->C' ⟨a.block,o,none⟩=none):AK C':=fun w k1 k2=>
 h w (fun ad v hv=>k1 ad v (h1 ad v hv)) fun a v hv o ho=>k2 a v (h1 a v hv) o (h2 a v hv o ho)
theorem af2 {W:World} {xs:List (String×DataW Unit)} (h:laidMetH Tryz.prog xs W) (hm:xs.filter (fun x=>x.1== "internal/strconv.uint64pow10")=[("internal/strconv.uint64pow10",Rows.laid_internal_strconv_uint64pow10)]):AK (fun ad=>W.cell? ad):=by
 have hg:Tryz.prog.globalNamed "internal/strconv.uint64pow10" =some 0:=by kernel_rfl
 have hf:=laidMetH.filter (fun x=>x.1== "internal/strconv.uint64pow10") h
 rw[hm] at hf
 have ht:Lib.TabIs Tryz.prog W "internal/strconv.uint64pow10" .u64 Lib.pow10Tab:=
  Lib.tabIs_of_head (rest:=[]) (t:=266) (e:=230) (n:=20) hg (by kernel_rfl) (by kernel_rfl) (by kernel_rfl) (by kernel_rfl) (by kernel_rfl) hf
 intro w h1 h2
 exact aao hg ht (by decide) h1 h2
end Go.Proofs.YtehbdakjkjkekaaGreatDoor
end
