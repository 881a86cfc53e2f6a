/- What is written reads back. -/
import Derived.Test.YtehbdakjkjkekaaGreatDoorLawsB
import Derived.Test.YtehbdakjkjkekaaGreatDoorWalkC
import Derived.Test.YtehbdakjkjkekaaGreatDoorRows
import Derived.Test.YtehbdakjkjkekaaGreatDoorEvalE
import Derived.LaidSub
set_option linter.all false
set_option linter.unusedSectionVars false
set_option linter.deprecated false
section
set_option maxRecDepth 100000
namespace Go.Proofs.YtehbdakjkjkekaaGreatDoor
open Go Go.Ai Go.Proofs Go.af
theorem mZ (s:List Nat):(af.aD s).data.toList=s.map UInt8.ofNat:=by simp[af.aD]
theorem pL (s:List Nat):(af.aD s).size=s.length:=by
 show (s.map UInt8.ofNat).toArray.size=_
 simp
theorem zV {s:List Nat} (h: ∀x∈s,x<256):af.jd (af.aD s)=s:=by
 unfold af.jd
 rw[mZ,List.map_map]
 conv=>rhs;rw[<-List.map_id s]
 refine List.map_congr_left fun x hx=> ?_
 have:=h x hx
 simp only[Function.comp,UInt8.toNat_ofNat',id];omega
theorem ofNat_eq {x:Nat} (hx:x<256) {y:Nat} (hy:y<256) (h:UInt8.ofNat x=UInt8.ofNat y):x=y:=by
 have:=congrArg UInt8.toNat h
 simp only[UInt8.toNat_ofNat'] at this
 omega
def FM (c:Nat) (s:List Nat):Prop:= ∀x∈s,x<256/\x≠c
theorem y6 (s:ByteArray):s.extract 0 s.size=s:=by
 apply af.MW;simp
theorem DU {s:List Nat} (i:Nat) (h:i<s.length):(af.aD s)[i]'(by rw[pL];exact h)=UInt8.ofNat s[i]:=by
 have h1:i<(af.aD s).size:=by rw[pL];exact h
 have:(af.aD s).data.toList[i]'(by rw[mZ];simpa using h)=UInt8.ofNat s[i]:=by simp[mZ]
 exact this
theorem Pq (a b:List Nat):(af.aD (a++b)).extract 0 a.length=af.aD a:=by
 apply af.MW;simp[af.aD]
theorem Pt (a b:List Nat):(af.aD (a++b)).extract a.length (af.aD (a++b)).size=af.aD b:=by
 apply af.MW;rw[pL];simp[af.aD]
 rw[List.take_of_length_le (by simp)]
theorem QO {w rest:List Nat} (h:FM 32 w):af.fZ (af.aD (w++32::rest))=af.aD w::af.fZ (af.aD rest):=by
 have hlen:w.length<(af.aD (w++32::rest)).size:=by rw[pL];simp
 have jz:zW (af.aD (w++32::rest)) 32 0 w.length:=fun j _ hj hs=>by
  have sN:j<(w++32::rest).length:=by rw[pL] at hs;exact hs
  rw[DU j sN,List.getElem_append_left hj]
  intro e
  obtain ⟨h1,h2⟩:=h _ (List.getElem_mem hj)
  exact h2 (ofNat_eq h1 (by decide) e)
 have hat:(af.aD (w++32::rest))[w.length]=32:=by
  rw[DU w.length (by simp),List.getElem_append_right (Nat.le_refl _)]
  simp
 have:=QT jz (Nat.zero_le _) hlen hat
 rw[y6] at this
 rw[this]
 have e1:(af.aD (w++32::rest)).extract 0 w.length=af.aD w:=Pq _ _
 have e2:(af.aD (w++32::rest)).extract (w.length+1) (af.aD (w++32::rest)).size=af.aD rest:=by
  have:=Pt (w++[32]) rest
  simpa using this
 rw[e1,e2]
theorem S8 {w:List Nat} (h:FM 32 w):af.fZ (af.aD w)=[af.aD w]:=by
 have jz:zW (af.aD w) 32 0 (af.aD w).size:=fun j _ _ hs=>by
  have sN:j<w.length:=by rw[pL] at hs;exact hs
  rw[DU j sN]
  intro e
  obtain ⟨h1,h2⟩:=h _ (List.getElem_mem sN)
  exact h2 (ofNat_eq h1 (by decide) e)
 have:=QU jz
 rwa [y6] at this
theorem Iw: ∀{ws:List (List Nat)},ws≠[]->(∀w∈ws,FM 32 w)->af.fZ (af.aD (e8 [32] ws))=ws.map af.aD
 |[],h,_=>absurd rfl h
 |[w],_,h=>by simp only[e8,List.map_cons,List.map_nil];exact S8 (h w (by simp))
 |w::v::r,_,h=>by
  have ih:=Iw (ws:=v::r) (by simp) fun x hx=>h x (List.mem_cons_of_mem _ hx)
  simp only[e8,List.map_cons,List.singleton_append] at ih ⊢
  rw[QO (h w (by simp)),ih]
theorem Oo {ws:List (List Nat)} (h0:ws≠[]) (h: ∀w∈ws,FM 32 w/\FM 10 w/\w≠[]):af.js (af.aD (e8 [32] ws++[10]))=af.iL true (fun i=>af.aD (ws.getD i [])) ws.length:=by
 have hcut:af.qL (af.aD (e8 [32] ws++[10]))=af.aD (e8 [32] ws)/\af.y9 (af.aD (e8 [32] ws++[10]))=true:=by
  constructor
  . apply af.MW
    show (Lib.trimSuffix _ [10]).toArray.toList=_
    rw[mZ,mZ]
    simp[Lib.trimSuffix,Lib.hasSuffix]
  . unfold af.y9
    rw[mZ]
    simp[Lib.hasSuffix]
 unfold af.js
 rw[hcut.1,hcut.2]
 have hw:=Iw h0 fun w hw=>(h w hw).1
 have e1:af.iT (af.aD (e8 [32] ws))=ws.length:=by unfold af.iT;rw[hw,List.length_map]
 have e2:af.kP (af.aD (e8 [32] ws))=fun i=>af.aD (ws.getD i []):=by
  funext i
  unfold af.kP
  rw[hw]
  simp only[List.getD_eq_getElem?_getD,List.getElem?_map]
  cases ws[i]? <;>rfl
 rw[e1,e2]
theorem E0: ∀(f n:Nat),n<10 ^ (f+1)->(Lib.decDigits n).all mO=true/\af.val (Lib.decDigits n)=n/\1<=(Lib.decDigits n).length/\(Lib.decDigits n).length<=f+1/\(0<n->(Lib.decDigits n).head? ≠some 48)/\(Lib.decDigits n).map UInt8.toNat=o4 (f+1) n:=by
 intro f
 induction f with
 |zero=>
  intro n h
  have FN:n<10:=by simpa using h
  rw[Lib.decDigits_one FN]
  have hd:mO (UInt8.ofNat (48+n))=true:=by rw[o5];simp only[UInt8.toNat_ofNat'];omega
  have ht:(UInt8.ofNat (48+n)).toNat=48+n:=by simp only[UInt8.toNat_ofNat'];omega
  generalize UInt8.ofNat (48+n)=x at hd ht ⊢
  refine ⟨by simp[hd],by simp[af.val,ht],by simp,by simp,fun h0 e=> ?_,by simp[o4,FN,ht]⟩
  simp only[List.head?_cons,Option.some.injEq] at e
  subst e
  have:(48:UInt8).toNat=48:=rfl
  omega
 |succ f ih=>
  intro n h
  by_cases FN:n<10
  . rw[Lib.decDigits_one FN]
    have hd:mO (UInt8.ofNat (48+n))=true:=by rw[o5];simp only[UInt8.toNat_ofNat'];omega
    have ht:(UInt8.ofNat (48+n)).toNat=48+n:=by simp only[UInt8.toNat_ofNat'];omega
    generalize UInt8.ofNat (48+n)=x at hd ht ⊢
    refine ⟨by simp[hd],by simp[af.val,ht],by simp,by simp,fun h0 e=> ?_,by simp[o4,FN,ht]⟩
    simp only[List.head?_cons,Option.some.injEq] at e
    subst e
    have:(48:UInt8).toNat=48:=rfl
    omega
  . obtain ⟨a1,a2,a3,a4,a5,a6⟩:=ih (n / 10) (by rw[Nat.pow_succ] at h;omega)
    have hdd:Lib.decDigits n=Lib.decDigits (n / 10)++[UInt8.ofNat (48+n % 10)]:=by
        conv=>lhs;rw[Lib.decDigits]
        rw[dif_neg FN]
    have hd:mO (UInt8.ofNat (48+n % 10))=true:=by rw[o5];simp only[UInt8.toNat_ofNat'];omega
    have ht:(UInt8.ofNat (48+n % 10)).toNat=48+n % 10:=by simp only[UInt8.toNat_ofNat'];omega
    rw[hdd]
    generalize UInt8.ofNat (48+n % 10)=x at hd ht ⊢
    refine ⟨by simp[a1,hd],by rw[af.MX,a2,ht];omega,by simp,by simp;omega,fun _=> ?_,by
        rw[List.map_append,a6]
        conv=>rhs;rw[o4]
        rw[if_neg FN]
        simp[ht]⟩
    have:=a5 (by omega)
    cases hq:Lib.decDigits (n / 10) with
    |nil=>rw[hq] at a3;simp at a3
    |cons x l=>rw[hq] at this;simpa using this
theorem DV {n:Int} (h0:0<=n) (h1:n<10000000000):dm n=o4 10 n.toNat:=by
 obtain ⟨m,rfl⟩: ∃m:Nat,n=(m:Int):=⟨n.toNat,by omega⟩
 unfold dm
 rw[Lib.itoa_nonneg]
 exact (E0 9 m (by have:(10:Nat) ^ 10=10000000000:=by decide
                   omega)).2.2.2.2.2
theorem Pu {n:Int} (h0:0<=n) (h1:n<=999999999):gj (af.aD (dm n)).data.toList=true/\cq (af.aD (dm n)).data.toList=n:=by
 obtain ⟨m,rfl⟩: ∃m:Nat,n=(m:Int):=⟨n.toNat,by omega⟩
 have hl:(af.aD (dm (m:Int))).data.toList=Lib.decDigits m:=by
  rw[mZ]
  unfold dm
  rw[Lib.itoa_nonneg,List.map_map]
  conv=>rhs;rw[<-List.map_id (Lib.decDigits m)]
  refine List.map_congr_left fun x _=> ?_
  simp
 obtain ⟨a1,a2,a3,a4,a5,_⟩:=E0 8 m (by have:(10:Nat) ^ 9=1000000000:=by decide
                                       omega)
 have eD:gj (Lib.decDigits m)=true:=by
  unfold gj
  rw[a1,decide_eq_true a3,decide_eq_true a4]
  by_cases hm:m=0
  . subst hm;rw[Lib.decDigits_one (by decide)];decide
  . have:=a5 (by omega)
    have h48:((Lib.decDigits m).head? ==some 48)=false:=by
        cases h:(Lib.decDigits m).head? with
        |none=>rfl
        |some x=>rw[h] at this;simpa using this
    rw[h48];simp
 rw[hl]
 refine ⟨eD,?_⟩
 unfold cq
 rw[if_pos eD,a2]
theorem MY {f n:Nat} {c:Nat} (hc:c<48):FM c (o4 (f+1) n)/\o4 (f+1) n≠[]:=by
 have key: ∀(f n:Nat),∀x∈o4 f n,x<256/\x≠c:=by
  intro f
  induction f with
  |zero=>intro n x h;simp[o4] at h
  |succ f ih=>
   intro n x h
   unfold o4 at h
   split at h
   .    simp at h;omega
   .    rcases List.mem_append.1 h with h|h
        . exact ih _ x h
        . simp at h;omega
 refine ⟨key _ _,?_⟩
 unfold o4
 split<;>simp
end Go.Proofs.YtehbdakjkjkekaaGreatDoor
end
section
set_option maxRecDepth 100000
namespace Go.Proofs.YtehbdakjkjkekaaGreatDoor
open Go Go.Ai Go.Proofs Go.af
def fW (a:Int) (s:List Nat):Prop:=if a=0 then s=[] else if a=101 then s=[]\/jF s=true else jF s=true
def qw (k:Kd) (r:Rl):Prop:=(0<=r.wt/\r.wt<=1000)/\(0<=r.n/\r.n<=999999999)/\(k.n=false->r.n=0)/\fW k.a r.a/\(if k.b=true then jF r.b=true else r.b=[])/\fW k.t r.t
theorem ri {m:Nat} (h1:1<=m) (h2:m<=18):m=1\/m=2\/m=3\/m=4\/m=5\/m=6\/m=7\/m=8\/m=9\/m=10\/m=11\/m=12\/m=13\/m=14\/m=15\/m=16\/m=17\/m=18:=by omega
theorem o6 {r:Rl} {m:Nat} (hm:r.k=(m:Int)) (h1:1<=m) (h2:m<=18):pK r=true↔qw (kd m) r:=by
 obtain ⟨k,wt,a,b,t,n⟩:=r
 simp only at hm
 subst hm
 rcases ri h1 h2 with rfl|rfl|rfl|rfl|rfl|rfl|rfl|rfl|rfl|rfl|rfl|rfl|rfl|rfl|rfl|rfl|rfl|rfl
 all_goals
  unfold pK sd1 sd2 sd3 sd4 qw fW wO QL QM MV
  simp[kd,wO]
  grind
theorem kdF {m:Nat} (h2:m<=18):(kd m).w=(qx m).map UInt8.toNat/\(kd m).a=jU m/\(kd m).b=jV m/\(kd m).t=jW m/\(kd m).n=jX m:=by
 rcases Nat.eq_zero_or_pos m with rfl|h1
 . decide
 . rcases ri h1 h2 with rfl|rfl|rfl|rfl|rfl|rfl|rfl|rfl|rfl|rfl|rfl|rfl|rfl|rfl|rfl|rfl|rfl|rfl<;>decide
theorem MZ (b:ByteArray):jF (af.jd b)=oC b.data.toList:=by
 unfold jF oC af.jd
 rw[List.length_map,List.all_map]
 congr 1
 refine List.all_congr rfl fun c=> ?_
 show decide (97<=c.toNat/\c.toNat<=122)=qy c
 cases h:qy c with
 |true=>have:=(uD c).1 h;rw[decide_eq_true (by omega)]
 |false=>
  rw[decide_eq_false]
  intro e
  have:=(uD c).2 (by omega)
  rw[h] at this;cases this
theorem QV:af.jd ⟨#[]⟩=[]:=rfl
theorem B5 {a:Int} {u:ByteArray} (h:a=0\/fO u (a==101)=true):fW a (af.jd (if a=0 then ⟨#[]⟩ else kX u (a==101))):=by
 unfold fW
 by_cases h0:a=0
 . rw[if_pos h0,if_pos h0];rfl
 . rw[  if_neg h0,if_neg h0]
   have h:=h.resolve_left h0
   unfold fO kX at*
   cases hd:l7 u.data.toList (a==101) with
   |true=>
    have:a=101:=by
        unfold l7 at hd
        simp only[Bool.and_eq_true,beq_iff_eq] at hd
        exact hd.2
    rw[if_pos rfl,if_pos this];exact .inl rfl
   |false=>
    rw[hd] at h
    simp only[Bool.false_or] at h
    have e:jF (af.jd (if false=true then ByteArray.empty else u))=true:=by
        rw[if_neg (by decide),MZ];exact h
    by_cases h1:a=101
    .   rw[if_pos h1];exact .inr e
    .   rw[if_neg h1];exact e
def Jr (q:af.RR):Rl:=⟨q.k,q.wt,af.jd q.a,af.jd q.b,af.jd q.t,q.n⟩
theorem E7 {p:Prop} [Decidable p] {e:Int} {x:Int ⊕ af.RR} {q:af.RR} (h:(if p then .inl e else x)= .inr q): ¬p/\x= .inr q:=by
 by_cases hp:p
 . rw[if_pos hp] at h;cases h
 . rw[if_neg hp] at h;exact ⟨hp,h⟩
theorem Zv {p:Prop} [Decidable p] {e:Int} {y q:af.RR} (h:(if p then .inr y else (.inl e:Int ⊕ af.RR))= .inr q):p/\y=q:=by
 by_cases hp:p
 . rw[if_pos hp] at h;cases h;exact ⟨hp,rfl⟩
 . rw[if_neg hp] at h;cases h
theorem S9 {K:Nat} {a t:Int} {b n:Bool} {u:Nat->ByteArray} {len:Nat} {wt:Int} {q:af.RR} (hk:K<=18) (ha:(kd K).a=a) (hb:(kd K).b=b) (ht:(kd K).t=t) (hn:(kd K).n=n) (h:af.aV K a b t n u len wt= .inr q) (hw:wt≠0->0<wt\/wt<0):
   q.k=K/\1<=K/\qw (kd K) (Jr q):=by
 unfold af.aV at h
 obtain ⟨h0,h⟩:=E7 h
 obtain ⟨_,h⟩:=E7 h
 obtain ⟨h3,h⟩:=E7 h
 obtain ⟨h4,h⟩:=E7 h
 obtain ⟨h5,rfl⟩:=Zv h
 obtain ⟨f1,f2,f3⟩:=h5
 refine ⟨rfl,by omega,?_⟩
 unfold qw Jr
 rw[ha,hb,ht,hn]
 refine ⟨by show 0<=wt/\wt<=1000;omega,?_,?_,B5 f1,?_,B5 f3⟩
 . cases n with
   |true=>simp only[if_true];exact af.Iy _
   |false=>simp
 . rintro rfl;simp
 . cases b with
   |true=>
    have:=f2.resolve_left (by simp)
    simp only[if_true]
    have:=B5 (a:=103) (u:=u 2) (.inr this)
    simpa [fW] using this
   |false=>simp[QV]
theorem Ta {x:ByteArray} {q:af.RR} (h:af.js x= .inr q):1<=q.k/\q.k<=18/\qw (kd q.k) (Jr q):=by
 have body: ∀{u:Nat->ByteArray} {len:Nat} {wt:Int},af.mP u len wt= .inr q->1<=q.k/\q.k<=18/\qw (kd q.k) (Jr q):=fun {u len wt} hb=>by
   unfold af.mP at hb
   have hk:=dF (u 0).data.toList
   obtain ⟨_,e1,e2,e3,e4⟩:=kdF hk
   obtain ⟨g1,g2,g3⟩:=S9 hk e1 e2 e3 e4 hb (fun h=>by omega)
   rw[g1]
   exact ⟨g2,hk,g3⟩
 unfold af.js af.iL at h
 split at h<;>first|(cases h;done)|skip
 split at h
 . exact body h
 . split at h<;>first|(cases h;done)|skip
   split at h<;>first|(cases h;done)|skip
   exact body h
end Go.Proofs.YtehbdakjkjkekaaGreatDoor
end
section
set_option maxRecDepth 100000
namespace Go.Proofs.YtehbdakjkjkekaaGreatDoor
open Go Go.Ai Go.Proofs Go.af
theorem fR {s:List Nat} (h:jF s=true):s≠[]/\s.length<=12/\ ∀x∈s,97<=x/\x<=122:=by
 unfold jF at h
 simp only[Bool.and_eq_true,decide_eq_true_eq,List.all_eq_true] at h
 exact ⟨fun e=>by subst e;simp at h,h.1.2,h.2⟩
theorem adp {s:List Nat} (h:jF s=true):oC (af.aD s).data.toList=true:=by
 obtain ⟨_,_,h3⟩:=fR h
 rw[<-MZ,zV fun x hx=>by have:=h3 x hx;omega]
 exact h
theorem Zw {s:List Nat} (h:jF s=true) (em:Bool):l7 (af.aD s).data.toList em=false:=by
 obtain ⟨_,_,h3⟩:=fR h
 unfold l7
 have:((af.aD s).data.toList==[45])=false:=by
  rw[beq_eq_false_iff_ne]
  intro e
  have h1:=zV (s:=s) fun x hx=>by have:=h3 x hx;omega
  unfold af.jd at h1
  rw[e] at h1
  have:=h3 45 (by rw[<-h1];simp)
  omega
 rw[this];rfl
theorem Pv {s:List Nat} (h:jF s=true) (em:Bool):fO (af.aD s) em=true/\kX (af.aD s) em=af.aD s:=by
 unfold fO kX
 rw[Zw h,adp h]
 exact ⟨rfl,rfl⟩
theorem Kn {a:Int} {s:List Nat} (h:fW a s) (h0:a≠0):fO (af.aD (cY s)) (a==101)=true/\kX (af.aD (cY s)) (a==101)=af.aD s:=by
 have key:jF s=true->fO (af.aD (cY s)) (a==101)=true/\kX (af.aD (cY s)) (a==101)=af.aD s:=fun hn=>by
   obtain ⟨h1,_⟩:=fR hn
   have:cY s=s:=by unfold cY;rw[if_neg h1]
   rw[this]
   exact Pv hn _
 unfold fW at h
 rw[if_neg h0] at h
 split at h
 . rename_i h1
   subst h1
   rcases h with rfl|h
   . exact ⟨rfl,rfl⟩
   . exact key h
 . exact key h
theorem Tb {m:Nat} {r:Rl} (h1:1<=m) (h18:m<=18) (hs:qw (kd m) r) (u:Nat->ByteArray) (len:Nat) (hlen:len=1+(eP (kd m) r++(if (kd m).n=true then [dm r.n] else [])).length)
   (hu: ∀i,u (i+1)=af.aD ((eP (kd m) r++(if (kd m).n=true then [dm r.n] else [])).getD i [])):
   af.aV m (kd m).a (kd m).b (kd m).t (kd m).n u len r.wt= .inr ⟨m,r.wt,af.aD r.a,af.aD r.b,af.aD r.t,r.n⟩:=by
 obtain ⟨w1,w2,w3,fa,fb,ft⟩:=hs
 have hab:(kd m).a=0->(kd m).b=true->False:=fun ha hb=>by
   rcases ri h1 h18 with rfl|rfl|rfl|rfl|rfl|rfl|rfl|rfl|rfl|rfl|rfl|rfl|rfl|rfl|rfl|rfl|rfl|rfl<;>simp[kd] at ha hb
 generalize kd m=K at*
 have hw: ¬(r.wt<0\/1000<r.wt):=by omega
 have hm: ¬m=0:=by omega
 obtain ⟨Px,Py⟩:=Pu w2.1 w2.2
 have e0:=hu 0
 have e1:=hu 1
 have e2:=hu 2
 have e3:=hu 3
 unfold eP at hlen e0 e1 e2 e3
 have za:K.a=0->r.a=[]:=fun h=>by unfold fW at fa;rwa [if_pos h] at fa
 have zt:K.t=0->r.t=[]:=fun h=>by unfold fW at ft;rwa [if_pos h] at ft
 have da:=fun h=>Kn fa h
 have dt:=fun h=>Kn ft h
 have db:K.b=true->fO (af.aD (cY r.b)) false=true/\kX (af.aD (cY r.b)) false=af.aD r.b:=fun h=>by
   rw[if_pos h] at fb
   obtain ⟨h1,_⟩:=fR fb
   have:cY r.b=r.b:=by unfold cY;rw[if_neg h1]
   rw[this]
   exact Pv fb _
 have zb:K.b=false->r.b=[]:=fun h=>by rw[h] at fb;simpa using fb
 have zn:=w3
 have hz:af.aD []=⟨#[]⟩:=rfl
 clear fa fb ft w3
 unfold af.aV
 by_cases ha:K.a=0
 . rw[  za ha]
   cases hb:K.b with
   |false=>
    rw[zb hb]
    by_cases ht:K.t=0
    .   rw[zt ht]
        cases hn:K.n with
        |false=>simp[ha,hb,ht,hn,hm,hw,hz,zn hn] at hlen e0 e1 e2 e3 ⊢; simp[hlen]
        |true=>simp[ha,hb,ht,hn,hm,hw,hz] at hlen e0 e1 e2 e3 ⊢; simp[hlen,e0,Px,Py]
    .   obtain ⟨d1,d2⟩:=dt ht
        cases hn:K.n with
        |false=>simp[ha,hb,ht,hn,hm,hw,hz,zn hn] at hlen e0 e1 e2 e3 ⊢; simp[hlen,e0,d1,d2]
        |true=>simp[ha,hb,ht,hn,hm,hw,hz] at hlen e0 e1 e2 e3 ⊢; simp[hlen,e0,e1,d1,d2,Px,Py]
   |true=>
    obtain ⟨b1,b2⟩:=db hb
    exfalso;exact hab ha hb
 . obtain ⟨a1,a2⟩:=da ha
   cases hb:K.b with
   |false=>
    rw[zb hb]
    by_cases ht:K.t=0
    .   rw[zt ht]
        cases hn:K.n with
        |false=>simp[ha,hb,ht,hn,hm,hw,hz,zn hn] at hlen e0 e1 e2 e3 ⊢; simp[hlen,e0,a1,a2]
        |true=>simp[ha,hb,ht,hn,hm,hw,hz] at hlen e0 e1 e2 e3 ⊢; simp[hlen,e0,e1,a1,a2,Px,Py]
    .   obtain ⟨d1,d2⟩:=dt ht
        cases hn:K.n with
        |false=>simp[ha,hb,ht,hn,hm,hw,hz,zn hn] at hlen e0 e1 e2 e3 ⊢; simp[hlen,e0,e1,a1,a2,d1,d2]
        |true=>simp[ha,hb,ht,hn,hm,hw,hz] at hlen e0 e1 e2 e3 ⊢; simp[hlen,e0,e1,e2,a1,a2,d1,d2,Px,Py]
   |true=>
    obtain ⟨b1,b2⟩:=db hb
    by_cases ht:K.t=0
    .   rw[zt ht]
        cases hn:K.n with
        |false=>simp[ha,hb,ht,hn,hm,hw,hz,zn hn] at hlen e0 e1 e2 e3 ⊢; simp[hlen,e0,e1,a1,a2,b1,b2]
        |true=>simp[ha,hb,ht,hn,hm,hw,hz] at hlen e0 e1 e2 e3 ⊢; simp[hlen,e0,e1,e2,a1,a2,b1,b2,Px,Py]
    .   obtain ⟨d1,d2⟩:=dt ht
        cases hn:K.n with
        |false=>simp[ha,hb,ht,hn,hm,hw,hz,zn hn] at hlen e0 e1 e2 e3 ⊢; simp[hlen,e0,e1,e2,a1,a2,b1,b2,d1,d2]
        |true=>simp[ha,hb,ht,hn,hm,hw,hz] at hlen e0 e1 e2 e3 ⊢; simp[hlen,e0,e1,e2,e3,a1,a2,b1,b2,d1,d2,Px,Py]
def Good (w:List Nat):Prop:=FM 32 w/\FM 10 w/\w≠[]
theorem Pz {s:List Nat} (h:jF s=true):Good s:=by
 obtain ⟨h1,_,h3⟩:=fR h
 exact ⟨fun x hx=>by have:=h3 x hx;omega,fun x hx=>by have:=h3 x hx;omega,h1⟩
theorem B6 {s:List Nat} (h:(s.all fun x=>decide (x<256)&&(!decide (x=32)&& !decide (x=10)))=true) (h0:s≠[]):Good s:=by
 rw[List.all_eq_true] at h
 refine ⟨fun x hx=> ?_,fun x hx=> ?_,h0⟩<;>(have:=h x hx;simp at this;omega)
theorem Ko {a:Int} {s:List Nat} (h:fW a s) (h0:a≠0):Good (cY s):=by
 unfold fW at h
 rw[if_neg h0] at h
 have key:jF s=true->Good (cY s):=fun hn=>by
   obtain ⟨h1,_⟩:=fR hn
   have:cY s=s:=by unfold cY;rw[if_neg h1]
   rw[this];exact Pz hn
 split at h
 . rcases h with rfl|h
   . exact B6 (by decide) (by decide)
   . exact key h
 . exact key h
theorem M3 {n:Int} (h0:0<=n) (h1:n<=999999999):Good (dm n):=by
 rw[DV h0 (by omega)]
 exact ⟨(MY (by decide)).1,(MY (by decide)).1,(MY (c:=10) (by decide)).2⟩
theorem Zx {m:Nat} (h1:1<=m) (h2:m<=18):Good (kd m).w:=by
 rcases ri h1 h2 with rfl|rfl|rfl|rfl|rfl|rfl|rfl|rfl|rfl|rfl|rfl|rfl|rfl|rfl|rfl|rfl|rfl|rfl<;>exact B6 (by decide) (by decide)
theorem B7 {m:Nat} {r:Rl} (h1:1<=m) (h2:m<=18) (hs:qw (kd m) r): ∀w∈fj (kd m) r,Good w:=by
 have gk:=Zx h1 h2
 obtain ⟨w1,w2,w3,fa,fb,ft⟩:=hs
 intro w hw
 unfold fj mN eP at hw
 simp only[List.mem_append] at hw
 rcases hw with ((hw|hw)|((hw|hw)|hw))|hw
 . split at hw
   . simp at hw
     rcases hw with rfl|rfl
     . exact B6 (by decide) (by decide)
     . exact M3 w1.1 (by omega)
   . simp at hw;subst hw;exact B6 (by decide) (by decide)
 . simp at hw;subst hw;exact gk
 . split at hw
   . rename_i h;simp at hw;subst hw;exact Ko fa h
   . simp at hw
 . split at hw
   . rename_i h;simp at hw;subst hw
     rw[if_pos h] at fb
     obtain ⟨q1,_⟩:=fR fb
     have:cY r.b=r.b:=by unfold cY;rw[if_neg q1]
     rw[this];exact Pz fb
   . simp at hw
 . split at hw
   . rename_i h;simp at hw;subst hw;exact Ko ft h
   . simp at hw
 . split at hw
   . simp at hw;subst hw;exact M3 w2.1 w2.2
   . simp at hw
theorem M5 (ws:List (List Nat)) (h: ∀w∈ws,Good w): ∀k,k<=ws.length->af.se true (fun i=>af.aD (ws.getD i [])) k=true
 |0,_=>by rw[af.Kq]
 |k+1,hk=>by
  rw[af.DW,M5 ws h k (by omega)]
  have hw:=h _ (List.getElem_mem (show k<ws.length by omega))
  have e:ws.getD k []=ws[k]:=by simp[List.getD_eq_getElem?_getD,List.getElem?_eq_getElem (show k<ws.length by omega)]
  have:(af.aD (ws.getD k [])).toList≠[]:=by
   rw[Go.ByteArray.toList_eq,mZ,e]
   intro h0
   exact hw.2.2 (List.map_eq_nil_iff.1 h0)
  cases hl:(af.aD (ws.getD k [])).toList with
  |nil=>exact absurd hl this
  |cons x l=>simp[hl]
theorem Kr {m:Nat} {r:Rl} (h1:1<=m) (h2:m<=18) (hs:qw (kd m) r) (u:Nat->ByteArray) (len:Nat) (hlen:len=1+(eP (kd m) r++(if (kd m).n=true then [dm r.n] else [])).length) (h0:u 0=af.aD (kd m).w)
  (hu: ∀i,u (i+1)=af.aD ((eP (kd m) r++(if (kd m).n=true then [dm r.n] else [])).getD i [])):af.mP u len r.wt= .inr ⟨m,r.wt,af.aD r.a,af.aD r.b,af.aD r.t,r.n⟩:=by
 obtain ⟨e0,e1,e2,e3,e4⟩:=kdF h2
 have hk:kindOf (u 0).data.toList=m:=by
  have:(u 0).data.toList=qx m:=by
   rw[h0,mZ,e0,List.map_map]
   conv=>rhs;rw[<-List.map_id (qx m)]
   refine List.map_congr_left fun x _=> ?_
   simp
  rw[this];exact Ks m h1 h2
 unfold af.mP
 rw[hk, <-e1, <-e2, <-e3, <-e4]
 exact Tb h1 h2 hs u len hlen hu
theorem DX {m:Nat} {r:Rl} (hm:r.k=(m:Int)) (h1:1<=m) (h2:m<=18) (hs:qw (kd m) r):af.js (af.aD (dR r))= .inr ⟨m,r.wt,af.aD r.a,af.aD r.b,af.aD r.t,r.n⟩:=by
 have hg:=B7 h1 h2 hs
 have hmk:r.k.toNat=m:=by omega
 have bO:fj (kd m) r≠[]:=by unfold fj mN;split<;>simp
 unfold dR
 rw[hmk,Oo bO hg]
 unfold af.iL
 rw[M5 _ hg _ (Nat.le_refl _),if_neg (by decide)]
 have fK:=hs.1
 by_cases hw:0<r.wt
 . have e:fj (kd m) r=[119,101,105,103,104]::dm r.wt::(kd m).w::(eP (kd m) r++(if (kd m).n=true then [dm r.n] else [])):=by
    unfold fj mN;rw[if_pos hw];simp
   obtain ⟨d1,d2⟩:=Pu fK.1 (by omega)
   rw[e]
   have q0:(af.aD (([119,101,105,103,104]::dm r.wt::(kd m).w::(eP (kd m) r++(if (kd m).n=true then [dm r.n] else []))).getD 0 [])).toList=[119,101,105,103,104]:=by rw[Go.ByteArray.toList_eq,mZ];rfl
   have q1:af.aD (([119,101,105,103,104]::dm r.wt::(kd m).w::(eP (kd m) r++(if (kd m).n=true then [dm r.n] else []))).getD 1 [])=af.aD (dm r.wt):=rfl
   simp only[q0,q1,d1,d2]
   have hne0: ¬r.wt=0:=by omega
   rw[if_neg (by simp),if_pos ⟨trivial,by simp⟩,if_neg (by simp),if_neg hne0]
   exact Kr h1 h2 hs _ _ (by simp;omega) rfl (fun i=>rfl)
 . have e:fj (kd m) r=[104,97,114,100]::(kd m).w::(eP (kd m) r++(if (kd m).n=true then [dm r.n] else [])):=by
    unfold fj mN;rw[if_neg hw];simp
   have hw0:r.wt=0:=by omega
   rw[e]
   have q0:(af.aD (([104,97,114,100]::(kd m).w::(eP (kd m) r++(if (kd m).n=true then [dm r.n] else []))).getD 0 [])).toList=[104,97,114,100]:=by rw[Go.ByteArray.toList_eq,mZ];rfl
   simp only[q0]
   rw[if_pos ⟨trivial,by simp⟩, <-hw0]
   exact Kr h1 h2 hs _ _ (by simp;omega) rfl (fun i=>rfl)
end Go.Proofs.YtehbdakjkjkekaaGreatDoor
end
section
set_option maxRecDepth 100000
namespace Go.Proofs.YtehbdakjkjkekaaGreatDoor
open Go Go.Ai Go.Proofs Go.af
theorem pM {r:Rl} (h8:0<=r.k/\r.k<256) (h:pK r=true):1<=r.k.toNat/\r.k.toNat<=18/\r.k=(r.k.toNat:Int):=by
 have hw:(kd r.k.toNat).w≠[]:=by
   intro e
   unfold pK sd1 at h
   rw[e] at h
   simp at h
 refine ⟨?_,?_,by omega⟩
 . rcases Nat.eq_zero_or_pos r.k.toNat with e|e
   . rw[e] at hw;exact absurd rfl hw
   . exact e
 . by_cases hb:r.k.toNat<=18
   . exact hb
   . exfalso;apply hw
     generalize r.k.toNat=m at hb
     unfold kd
     split<;>first|rfl|(exfalso;omega)
theorem Iz {a:Int} {s:List Nat} (h:fW a s): ∀x∈s,x<256:=by
 unfold fW at h
 intro x hx
 have nm:jF s=true->x<256:=fun h=>by have:=(fR h).2.2 x hx;omega
 split at h
 . rw[h] at hx;cases hx
 . split at h
   . rcases h with h|h
     . rw[h] at hx;cases hx
     . exact nm h
   . exact nm h
theorem M7 {q:af.RR} {r:Rl} (h:yw q r=true):r=Jr q:=by
 obtain ⟨k,wt,a,b,t,n⟩:=r
 unfold yw at h
 simp only[Bool.and_eq_true,decide_eq_true_eq] at h
 obtain ⟨h1,h2,h3,h4,h5,h6⟩:=h
 unfold Jr
 rw[h1,h2,h3,h4,h5,h6]
theorem Gt {r:Rl} (h8:0<=r.k/\r.k<256):uB r=pK r:=by
 cases hs:pK r with
 |true=>
  obtain ⟨h1,h2,hm⟩:=pM h8 hs
  have hk:=(o6 hm h1 h2).1 hs
  unfold uB
  rw[DX hm h1 h2 hk]
  have ha:=zV (Iz hk.2.2.2.1)
  have ht:=zV (Iz hk.2.2.2.2.2)
  have hb:af.jd (af.aD r.b)=r.b:=zV fun x hx=>by
   have:=hk.2.2.2.2.1
   split at this
   .    have:=(fR this).2.2 x hx;omega
   .    rw[this] at hx;cases hx
  simp only[yw,ha,hb,ht,decide_true,Bool.and_true,decide_eq_true_eq]
  exact hm.symm
 |false=>
  cases hf:uB r with
  |false=>rfl
  |true=>
   unfold uB at hf
   cases hl:af.js (af.aD (dR r)) with
   |inl e=>rw[hl] at hf;cases hf
   |    inr q=>
        rw[hl] at hf
        obtain ⟨h1,h2,h3⟩:=Ta hl
        have:=M7 hf
        have hk:r.k=(q.k:Int):=by rw[this];rfl
        rw[<-this] at h3
        rw[(o6 hk h1 h2).2 h3] at hs
        cases hs
theorem Tc {r:Rl} (h8:0<=r.k/\r.k<256) (h:pK r=true):dR r=QN r:=by
 obtain ⟨h1,h2,hm⟩:=pM h8 h
 have hk:=(o6 hm h1 h2).1 h
 obtain ⟨⟨w0,w1⟩,⟨n0,n1⟩,_,_,hb,_⟩:=hk
 have dw:=DV w0 (by omega)
 have dn:=DV n0 (by omega)
 have hdb:jF r.b=true->cY r.b=r.b:=fun h=>by unfold cY;rw[if_neg (fR h).1]
 obtain ⟨k,wt,a,b,t,n⟩:=r
 simp only at*
 unfold dR QN Ya Yb Yc Yd Ye fj mN eP wO QL QM MV
 simp only[dw,dn]
 generalize k.toNat=m at*
 subst hm
 by_cases hw:wt=0
 . subst hw
   rcases ri h1 h2 with rfl|rfl|rfl|rfl|rfl|rfl|rfl|rfl|rfl|rfl|rfl|rfl|rfl|rfl|rfl|rfl|rfl|rfl
   all_goals
    simp[kd,e8,wO] at hb ⊢
    try simp[hdb hb]
 . have hw':0<wt:=by omega
   rcases ri h1 h2 with rfl|rfl|rfl|rfl|rfl|rfl|rfl|rfl|rfl|rfl|rfl|rfl|rfl|rfl|rfl|rfl|rfl|rfl
   all_goals
    simp[kd,e8,wO,hw,hw'] at hb ⊢
    try simp[hdb hb]
theorem Kt: ∀(rs:List Rl) (acc:List Nat),(∀r∈rs,0<=r.k/\r.k<256)->kW rs acc≠[]->(∀r∈rs,pK r=true)/\kW rs acc=acc++(rs.map dR).flatten
 |[],acc,_,_=>⟨fun _ h=>(nomatch h),by simp[kW]⟩
 |r ::rs,acc,h8,h=>by
  unfold kW at h ⊢
  by_cases ho:uB r=true
  . rw[if_pos ho] at h ⊢
    obtain ⟨h1,h2⟩:=Kt rs _ (fun q hq=>h8 q (List.mem_cons_of_mem _ hq)) h
    refine ⟨fun q hq=> ?_,by rw[h2];simp⟩
    rcases List.mem_cons.1 hq with rfl|hq
    . rw[<-Gt (h8 _ (List.mem_cons_self ..))];exact ho
    . exact h1 q hq
  . rw[if_neg ho] at h;exact absurd rfl h
theorem Gu: ∀{ws:List (List Nat)},(∀w∈ws,Good w)->FM 10 (e8 [32] ws)
 |[],_=>fun x h=>by cases h
 |[w],h=>(h w (List.mem_cons_self ..)).2.1
 |w::v::r,h=>fun x hx=>by
  simp only[e8,List.mem_append,List.mem_singleton] at hx
  rcases hx with hx|rfl|hx
  . exact (h w (List.mem_cons_self ..)).2.1 x hx
  . omega
  . exact Gu (ws:=v::r) (fun y hy=>h y (List.mem_cons_of_mem _ hy)) x hx
theorem QW {w rest:List Nat} (h:FM 10 w):dh (af.aD (w++[10]++rest))=af.aD (w++[10])::dh (af.aD rest):=by
 have hlen:w.length<(af.aD (w++[10]++rest)).size:=by rw[pL];simp
 have jz:zW (af.aD (w++[10]++rest)) 10 0 w.length:=fun j _ hj hs=>by
  have sN:j<(w++[10]++rest).length:=by rw[pL] at hs;exact hs
  have hg:(w++[10]++rest)[j]=w[j]:=by simp[List.getElem_append_left hj]
  rw[DU j sN,hg]
  intro e
  obtain ⟨h1,h2⟩:=h _ (List.getElem_mem hj)
  exact h2 (ofNat_eq h1 (by decide) e)
 have hat:(af.aD (w++[10]++rest))[w.length]=10:=by
  rw[DU w.length (by simp)]
  simp
 have:=QX jz (Nat.zero_le _) hlen hat
 rw[y6] at this
 rw[this]
 have e1:(af.aD (w++[10]++rest)).extract 0 (w.length+1)=af.aD (w++[10]):=by
  have:=Pq (w++[10]) rest
  rwa [List.length_append] at this
 have e2:(af.aD (w++[10]++rest)).extract (w.length+1) (af.aD (w++[10]++rest)).size=af.aD rest:=by
  have:=Pt (w++[10]) rest
  rwa [List.length_append] at this
 rw[e1,e2]
theorem FO: ∀(rs:List Rl),(∀r∈rs,(0<=r.k/\r.k<256)/\pK r=true)->dh (af.aD (rs.map dR).flatten)=rs.map fun r=>af.aD (dR r)
 |[],_=>B8 rfl
 |r::rs,h=>by
  obtain ⟨h8,hs⟩:=h r (List.mem_cons_self ..)
  obtain ⟨h1,h2,hm⟩:=pM h8 hs
  have hk:=(o6 hm h1 h2).1 hs
  have ih:=FO rs fun q hq=>h q (List.mem_cons_of_mem _ hq)
  rw[List.map_cons,List.flatten_cons,List.map_cons, <-ih]
  exact QW (Gu (B7 h1 h2 hk))
theorem M8 {s:List Nat} {a:Int} (h:fW a s):s.length<=12:=by
 unfold fW at h
 split at h
 . rw[h];simp
 . split at h
   . rcases h with h|h
     . rw[h];simp
     . exact (fR h).2.1
   . exact (fR h).2.1
theorem M9 {r:Rl} (h8:0<=r.k/\r.k<256) (h:pK r=true):(dR r).length<=1000:=by
 obtain ⟨h1,h2,hm⟩:=pM h8 h
 have hk:=(o6 hm h1 h2).1 h
 rw[Tc h8 h]
 have la:=M8 hk.2.2.2.1
 have lt:=M8 hk.2.2.2.2.2
 have lb:r.b.length<=12:=by
  have:=hk.2.2.2.2.1
  split at this
  . exact (fR this).2.1
  . rw[this];simp
 have d1:=uC r.a
 have d2:=uC r.t
 have g1:=Gs 10 r.wt.toNat
 have g2:=Gs 10 r.n.toNat
 have kw:=Pp r.k.toNat
 have p0:(Ya r).length<=100:=by unfold Ya;split<;>simp<;>omega
 have p1:(Yb r).length<=100:=by unfold Yb;split<;>simp;omega
 have p2:(Yc r).length<=100:=by unfold Yc;split<;>simp;omega
 have p3:(Yd r).length<=100:=by unfold Yd;split<;>simp;omega
 have p4:(Ye r).length<=100:=by unfold Ye;split<;>simp;omega
 unfold QN
 simp only[List.length_append,List.length_cons,List.length_nil]
 omega
theorem DY: ∀(rs:List Rl),(∀r∈rs,(dR r).length<=1000)->(rs.map dR).flatten.length<=rs.length*1000
 |[],_=>by simp
 |r::rs,h=>by
  have:=DY rs fun q hq=>h q (List.mem_cons_of_mem _ hq)
  have:=h r (List.mem_cons_self ..)
  simp only[List.map_cons,List.flatten_cons,List.length_append,List.length_cons]
  omega
def Na (r:Rl):af.RR:=⟨r.k.toNat,r.wt,af.aD r.a,af.aD r.b,af.aD r.t,r.n⟩
theorem adq {r:Rl} (h8:0<=r.k/\r.k<256) (h:pK r=true):af.r8 (Na r)=r.cells:=by
 have hf:=(Gt h8).trans h
 obtain ⟨h1,h2,hm⟩:=pM h8 h
 have hk:=(o6 hm h1 h2).1 h
 unfold uB at hf
 rw[DX hm h1 h2 hk] at hf
 have:=M7 hf
 show af.r8 (Na r)=r.cells
 conv=>rhs;rw[this]
 rfl
theorem Nb {rs:List Rl} (h: ∀r∈rs,0<=r.k/\r.k<256) (bO:fmtS rs≠[]):rs.length<=64/\(∀r∈rs,pK r=true)/\(fmtS rs).length<=64000/\af.gH (af.aD (fmtS rs))=(0,0,rs.map Na)/\(rs.map Na).flatMap af.r8=(rs.map Rl.cells).flatten:=by
 unfold fmtS at bO ⊢
 by_cases Kk:64<rs.length
 . rw[if_pos Kk] at bO;exact absurd rfl bO
 . rw[if_neg Kk] at bO ⊢
   obtain ⟨h1,h2⟩:=Kt rs [] h bO
   rw[h2,List.nil_append]
   have hl:=DY rs fun r hr=>M9 (h r hr) (h1 r hr)
   refine ⟨by omega,h1,by omega,af.FP (by rw[pL];omega) ?_ (by rw[List.length_map];omega),?_⟩
   . rw[FO rs fun r hr=>⟨h r hr,h1 r hr⟩,List.map_map,List.map_map]
     refine List.map_congr_left fun r hr=> ?_
     obtain ⟨g1,g2,hm⟩:=pM (h r hr) (h1 r hr)
     exact DX hm g1 g2 ((o6 hm g1 g2).1 (h1 r hr))
   . rw[List.flatMap_def,List.map_map]
     congr 1
     exact List.map_congr_left fun r hr=>adq (h r hr) (h1 r hr)
end Go.Proofs.YtehbdakjkjkekaaGreatDoor
end
section
set_option maxRecDepth 100000
namespace Go.Proofs.YtehbdakjkjkekaaGreatDoor
open Go Go.Ai Go.Proofs
variable {c : ak}
theorem adr (t:Rl) (H:Pos->Option AB) (n:Pos):aB.run H n (.bin .neq (.struct [(0,.i),(1,.i),(2,.s),(3,.s),(4,.s),(5,.i)])) [.agg t.cells,.agg t.cells]=some (.val (.bool false)):=by
 have e:eqFields t.cells t.cells [(0,.i),(1,.i),(2,.s),(3,.s),(4,.s),(5,.i)]=some true:=by
  rw[vW (a:=t.k) (b:=t.k) rfl rfl,vW (a:=t.wt) (b:=t.wt) rfl rfl,vX (a:=t.a) (b:=t.a) rfl rfl,vX (a:=t.b) (b:=t.b) rfl rfl,vX (a:=t.t) (b:=t.t) rfl rfl,vW (a:=t.n) (b:=t.n) rfl rfl]
  simp only[if_true];rfl
 simp only[aB.run,gD,mz,yQ,e]
 rfl
theorem Zy (t:Rl) (K:AV->Option (AV×St)):aJ (.bin .neq (.struct [(0,.i),(1,.i),(2,.s),(3,.s),(4,.s),(5,.i)])) [.agg t.cells,.agg t.cells] K=K (.bool false):=iY K (adr t)
structure Rl.VR (r:Rl):Prop where
 k:0<=r.k/\r.k<256
 wt: -9223372036854775808<=r.wt/\r.wt<=9223372036854775807
 n: -9223372036854775808<=r.n/\r.n<=9223372036854775807
 la:r.a.length+r.b.length+r.t.length<=1048576
 byte: ∀x∈r.a++(r.b++r.t),x<256
theorem Ku {n:Int} (h: -9223372036854775808<=n/\n<=9223372036854775807):(dm n).length<=20:=by
 have hp:(10:Nat) ^ 19=10000000000000000000:=by decide
 unfold dm
 rw[List.length_map]
 by_cases h0:0<=n
 . obtain ⟨m,rfl⟩: ∃m:Nat,n=(m:Int):=⟨n.toNat,by omega⟩
   rw[Lib.itoa_nonneg]
   have:=(E0 18 m (by omega)).2.2.2.1
   omega
 . obtain ⟨m,rfl⟩: ∃m:Nat,n= -(m:Int):=⟨(-n).toNat,by omega⟩
   have hm:m≠0:=by omega
   have:=(E0 18 m (by omega)).2.2.2.1
   have e:Lib.itoa (-(m:Int))=45::Lib.decDigits m:=by
    unfold Lib.itoa
    rw[if_pos (by omega)]
    congr 2
    omega
   rw[e]
   simp only[List.length_cons]
   omega
theorem Nc (n:Int): ∀x∈dm n,x<256:=fun x hx=>by
 unfold dm at hx
 simp only[List.mem_map] at hx
 obtain ⟨y,_,rfl⟩:=hx
 exact y.toNat_lt
theorem Kv: ∀ws:List (List Nat),(e8 [32] ws).length<=(ws.map fun w=>w.length+1).sum
 |[]=>Nat.le_refl _
 |[w]=>by simp[e8]
 |w::v::r=>by
  have:=Kv (v::r)
  simp only[e8,List.length_append,List.length_cons,List.length_nil,List.map_cons,List.sum_cons] at this ⊢
  omega
theorem Kw: ∀(ws:List (List Nat)) (x:Nat),x∈e8 [32] ws->x=32\/ ∃w∈ws,x∈w
 |[],x,h=>by cases h
 |[w],x,h=> .inr ⟨w,List.mem_cons_self ..,h⟩
 |w ::v::r,x,h=>by
  simp only[e8,List.mem_append,List.mem_singleton] at h
  rcases h with h|rfl|h
  . exact .inr ⟨w,List.mem_cons_self ..,h⟩
  . exact .inl rfl
  . rcases Kw (v::r) x h with rfl|⟨u,hu,hx⟩
    . exact .inl rfl
    . exact .inr ⟨u,List.mem_cons_of_mem _ hu,hx⟩
theorem ads (m:Nat): ∀x∈(kd m).w,x<256:=by
 unfold kd;split<;>simp
theorem Gv {s:List Nat} (h: ∀x∈s,x<256): ∀x∈cY s,x<256:=by
 unfold cY
 split
 . simp
 . exact h
theorem Rl.VR.fit {r:Rl} (h:r.VR):r.Fit:=by
 have l1:=Ku h.wt
 have l2:=Ku h.n
 have l3:=Pp r.k.toNat
 have d1:=uC r.a
 have d2:=uC r.b
 have d3:=uC r.t
 have la:=h.la
 have hb:=h.byte
 have ba:=Gv (s:=r.a) fun x hx=>hb x (by simp[hx])
 have bb:=Gv (s:=r.b) fun x hx=>hb x (by simp[hx])
 have bt:=Gv (s:=r.t) fun x hx=>hb x (by simp[hx])
 have b1:=Nc r.wt
 have b2:=Nc r.n
 have b3:=ads r.k.toNat
 refine ⟨h.k,h.wt,h.n,?_,?_⟩
 . have:=Kv (fj (kd r.k.toNat) r)
   unfold dR
   rw[List.length_append]
   have hs:((fj (kd r.k.toNat) r).map fun w=>w.length+1).sum<=2000000:=by
     unfold fj mN eP
     split<;>split<;>split<;>split<;>split<;>simp<;>omega
   simp only[List.length_cons,List.length_nil]
   omega
 . intro  x hx
   unfold dR at hx
   rcases List.mem_append.1 hx with hx|hx
   . rcases Kw _ x hx with rfl|⟨w,hw,hx⟩
     .  decide
     .  have:w=[119,101,105,103,104]\/w=dm r.wt\/w=[104,97,114,100]\/w=(kd r.k.toNat).w\/w=cY r.a\/w=cY r.b\/w=cY r.t\/w=dm r.n:=by
          unfold fj mN eP at hw
          split at hw<;>split at hw<;>split at hw<;>split at hw<;>split at hw<;>simp at hw<;>grind
        rcases this with rfl|rfl|rfl|rfl|rfl|rfl|rfl|rfl
        . simp at hx;omega
        . exact b1 x hx
        . simp at hx;omega
        . exact b3 x hx
        . exact ba x hx
        . exact bb x hx
        . exact bt x hx
        . exact b2 x hx
   . simp at hx;omega
end Go.Proofs.YtehbdakjkjkekaaGreatDoor
end
section
set_option maxRecDepth 100000
namespace Go.Proofs.YtehbdakjkjkekaaGreatDoor
open Go Go.Ai Go.Proofs Go.RowKit
section
variable {H : Type}
end
section
variable {H : Type} {enc : TypeId × Value -> H} {w : World} {base : Nat} {spare : Nat -> Bool} {held : Bool}
theorem wf_u8 {i:Int} (h:(Lit.int .u8 i).wf=true):0<=i/\i<256:=by
 have e1:IntKind.min .u8=0:=by decide
 have e2:IntKind.max .u8=255:=by decide
 have h:(decide (IntKind.min _<=i)&&decide (i<=IntKind.max _))=true:=h
 rw[e1,e2,Bool.and_eq_true,decide_eq_true_eq,decide_eq_true_eq] at h
 omega
theorem Nd {α:Type} {P:α->Prop} {cells:α->List AV}: ∀(rs:List (List AV)),(∀r∈rs,∃t,r=cells t/\P t)-> ∃l:List α,rs=l.map cells/\ ∀t∈l,P t
 |[],_=>⟨[],rfl,by simp⟩
 |r::rs,h=>by
  obtain ⟨t,rfl,ht⟩:=h r (by simp)
  obtain ⟨l,rfl,hl⟩:=Nd rs (fun q hq=>h q (List.mem_cons_of_mem _ hq))
  exact ⟨t::l,rfl,fun q hq=>by
   rcases List.mem_cons.1 hq with rfl|hq
   . exact ht
   . exact hl q hq⟩
end
theorem VS {P:Program} {W w:World} {name:String} {k:IntKind} {zs:List Int} {g:Nat} (hg:P.globalNamed name=some g) (h:Lib.TabIs P W name k zs) (hz:zs≠[])
  (h1: ∀ad v,W.cell? ad=some v->w.cell? ad=some v) (h2: ∀a v,W.cell? a=some v-> ∀o,W.cell? ⟨a.block,o,none⟩=none->w.cell? ⟨a.block,o,none⟩=none):Lib.TabIs P w name k zs:=by
 have h0:0<zs.length:=List.length_pos_iff.2 hz
 have c0:=h.cell hg 0 h0
 unfold Lib.TabIs World.var? at h ⊢
 rw[hg] at h ⊢
 simp only[Option.bind_some] at h ⊢
 cases hW:W.heap[g]? with
 |none=>rw[hW] at h;cases h
 |some o=>
  rw[hW] at h
  cases o with
  |cells cs t fz=>
   simp only[Option.some.injEq] at h
   have c1:=h1 _ _ c0
   cases hw:w.heap[g]? with
   |none=>simp only[World.cell?,hw] at c1;cases c1
   |    some o'=>
        cases o' with
        |cells mT t' fz'=>
         simp only[Option.some.injEq]
         rw[<-h]
         apply Array.ext_getElem?
         intro i
         have a1:W.cell? ⟨g,i,none⟩=cs[i]? :=by simp[World.cell?,hW]
         have a2:w.cell? ⟨g,i,none⟩=mT[i]? :=by simp[World.cell?,hw]
         rw[<-a1, <-a2]
         cases hc:W.cell? ⟨g,i,none⟩ with
         |some v=>exact h1 _ _ hc
         |none=>exact h2 _ _ c0 i hc
        |_=>simp only[World.cell?,hw] at c1;cases c1
  |_=>cases h
end Go.Proofs.YtehbdakjkjkekaaGreatDoor
end
