/- Rules that a line says; lists that calls have made. -/
import Derived.Test.YtehbdakjkjkekaaGreatDoorSPlainA
import Derived.Test.YtehbdakjkjkekaaGreatDoorSLawsA
import Derived.Test.YtehbdakjkjkekaaGreatDoorSEvalE
import Derived.Test.YtehbdakjkjkekaaGreatDoorSLawsC
set_option linter.all false
set_option linter.unusedSectionVars false
set_option linter.deprecated false
section
set_option maxRecDepth 100000
namespace Go.Proofs.YtehbdakjkjkekaaGreatDoor
open Go Go.Ai Go.Proofs
variable {c : ai}
end Go.Proofs.YtehbdakjkjkekaaGreatDoor
end
section
set_option maxRecDepth 100000
namespace Go.Proofs.YtehbdakjkjkekaaGreatDoor
open Go Go.Ai Go.Proofs
variable {c : ai}
def rowN (i:Nat):List AV:=[.int .i64 (i:Int)]
def tabZ:List AV:=[.str [],.int .u8 0,.int .i64 0,.int .i64 0,.aj,.int .i64 0,.int .i64 0]
def tabV (nm:List Nat) (sh a b:Int) (x:Nat) (v:AV):List AV:=[.str nm,.int .u8 sh,.int .i64 a,.int .i64 b,v,.int .i64 (x:Int),.int .i64 (255 - (x:Int))]
def opnC (x i:Nat):Bool:=decide (x / 2 ^ i % 2=1)&&decide (0<x % 3)
def opnN (x k:Nat):List Nat:=(List.range k).filter (opnC x)
structure TI (st s:St) (p4 p5:Pos) (nm:List Nat) (sh a b:Int) (x k:Nat) (v:AV):Prop where
 out:Mk 1 st s v ((opnN x k).map rowN)
 h4:s.heap.get p4=some (.cells tabZ 0)
 h5:s.heap.get p5=some (.cells (tabV nm sh a b x v) 0)
 n4:jR v≠some p4
 n5:jR v≠some p5
theorem DV (s:St) (cs:List AV) (o:Nat) (v:AV) (ho:o<cs.length) (h1:v.cells=[v]) (h2:v.one=true) (K:AV->St->Option (AV×St)):af c (.store 1) [.ptr s.next o,v] (au s (.cells cs 0)) K=K .undef (au s (.cells (cs.set o v) 0)):=by
 rw[wo c K (au s (.cells cs 0)) 1 s.next o v cs (aR _ _) (by rw[h1];rfl) (by omega) (by rw[h1];simp[cS,h2]),h1,VP _ _ ho,Eu]
end Go.Proofs.YtehbdakjkjkekaaGreatDoor
end
section
set_option maxRecDepth 100000
namespace Go.Proofs.YtehbdakjkjkekaaGreatDoor
open Go Go.Ai Go.Proofs
variable {c : ai}
theorem X8 {R:Type} (K:AV->Option R) {b:Pos} {off len es es':Nat} {cap:Option Nat} {k:IntKind} {i:Nat} (h:i<len):bg (.idxA es none) [.slice b off len cap es',.int k (i:Int)] K=K (.ptr b (off+i*es)):=
 kR K (fun H n=>by
  simp only[aE.run,uw,pO]
  have:Nat.blt i len=true:=by rw[Nat.blt_eq];exact h
  rw[this])
theorem af3 {es:Nat} {s:St} {v:AV} {rows:List (List AV)} (h:QS es s v rows) (hr: ∀r∈rows,r.length=es) {i:Nat} (hi:i<rows.length):
   ∃b off cap cs,v= .slice b off rows.length cap es/\s.heap.get b=some (.cells cs 0)/\ ∀j u,rows[i][j]? =some u->cs[off+i*es+j]? =some u:=by
 rcases h with ⟨rfl,rfl⟩|⟨b,off,cap,cs,rfl,g1,g2,g3,g4⟩|⟨b,off,rfl,rfl⟩
 . simp at hi
 rotate_left
 . simp at hi
 . refine ⟨b,off,cap,cs,rfl,g1,fun j u hj=> ?_⟩
   have mA:j<es:=by rw[<-hr _ (List.getElem_mem hi)];exact (List.getElem?_eq_some_iff.1 hj).1
   have:=Go.Ai.Q2 hr i j rows[i] u (List.getElem?_eq_getElem hi) hj
   rw[<-g3] at this
   have bI:i*es+j<rows.length*es:=by
    have:(i+1)*es<=rows.length*es:=Nat.mul_le_mul_right _ hi
    rw[Nat.succ_mul] at this;omega
   rw[List.getElem?_take,if_pos bI,List.getElem?_drop] at this
   rw[<-this];congr 1;omega
end Go.Proofs.YtehbdakjkjkekaaGreatDoor
end
section
set_option maxRecDepth 100000
namespace Go.Proofs.YtehbdakjkjkekaaGreatDoor
open Go Go.Ai Go.Proofs
def uE (r:Rl):Prop:= ∃m:Nat,r.k=(m:Int)/\1<=m/\m<=18/\xD (kd m) r
theorem uE.range {r:Rl} (h:uE r):(0<=r.k/\r.k<256)/\oE r=true:=by
 obtain ⟨m,hm,h1,h2,h3⟩:=h
 exact ⟨by omega,(GC hm h1 h2).2 h3⟩
end Go.Proofs.YtehbdakjkjkekaaGreatDoor
end
section
set_option maxRecDepth 100000
namespace Go.Proofs.YtehbdakjkjkekaaGreatDoor
open Go Go.Ai Go.Proofs
theorem uE.fok {r:Rl} (h:uE r):BF r=true:=(SA h.range.1).trans h.range.2
theorem MP: ∀(rs:List Rl) (acc:List Nat),(∀r∈rs,uE r)->qa rs acc=acc++(rs.map jL).flatten
 |[],acc,_=>by simp[qa]
 |r::rs,acc,h=>by
  unfold qa
  rw[if_pos (h r (by simp)).fok,MP rs _ fun q hq=>h q (List.mem_cons_of_mem _ hq)]
  simp
theorem X9 {rs:List Rl} (h: ∀r∈rs,uE r) (hl:rs.length<=64):fmtS rs=(rs.map jL).flatten:=by
 unfold fmtS
 rw[if_neg (by omega),MP rs [] h,List.nil_append]
theorem Ya {r:Rl} (h:uE r): ∃w,jL r=w++[10]/\ ∀x∈w,x<256/\x≠10:=by
 obtain ⟨m,hm,h1,h2,hk⟩:=h
 refine ⟨gG [32] (gK (kd r.k.toNat) r),rfl,fun x hx=> ?_⟩
 have e:r.k.toNat=m:=by omega
 rw[e] at hx
 exact SB (MM h1 h2 hk) x hx
theorem IN {a:Int} {s:List Nat} (h:iE a s):s.length<=12/\ ∀x∈s,x<256:=by
 refine ⟨af0 h,?_⟩
 unfold iE at h
 split at h
 . rw[h];simp
 . split at h
   . rcases h with h|h
     . rw[h];simp
     . exact fun x hx=>by have:=(js h).2.2 x hx;omega
   . exact fun x hx=>by have:=(js h).2.2 x hx;omega
theorem uE.NN {r:Rl} (h:uE r):r.GG:=by
 obtain ⟨m,hm,h1,h2,hw,hn,_,ha,hb,ht⟩:=h
 obtain ⟨a1,a2⟩:=IN ha
 obtain ⟨t1,t2⟩:=IN ht
 have b12:r.b.length<=12/\ ∀x∈r.b,x<256:=by
   split at hb
   . exact ⟨(js hb).2.1,fun x hx=>by have:=(js hb).2.2 x hx;omega⟩
   . rw[hb];simp
 refine ⟨by omega,by omega,by omega,by omega,fun x hx=> ?_⟩
 rcases List.mem_append.1 hx with hx|hx
 . exact a2 x hx
 . rcases List.mem_append.1 hx with hx|hx
   . exact b12.2 x hx
   . exact t2 x hx
theorem Yb {rs:List Rl} (h: ∀r∈rs,uE r) (h0:rs≠[]) (hl:rs.length<=64):fmtS rs≠[]:=by
 rw[X9 h hl]
 cases rs with
 |nil=>exact absurd rfl h0
 |cons r rs=>
  obtain ⟨w,e,_⟩:=Ya (h r (by simp))
  rw[List.map_cons,List.flatten_cons,e]
  simp
end Go.Proofs.YtehbdakjkjkekaaGreatDoor
end
section
set_option maxRecDepth 100000
namespace Go.Proofs.YtehbdakjkjkekaaGreatDoor
open Go Go.Ai Go.Proofs
variable {c : ai}
theorem Yc {cs row:List AV} {o n:Nat} (hl:row.length=n) (h0:0<n) (h: ∀(j:Nat) (u:AV),row[j]? =some u->cs[o+j]? =some u):cut cs o n=some row:=by
 have h1:=h (n - 1) row[n - 1] (List.getElem?_eq_getElem (by omega))
 have h2:=(List.getElem?_eq_some_iff.1 h1).1
 unfold cut
 have:Nat.ble (o+n) cs.length=true:=by rw[Nat.ble_eq];omega
 rw[this]
 simp only
 congr 1
 refine List.ext_getElem? fun i=> ?_
 rw[List.getElem?_take]
 split
 . rename_i hi
   rw[List.getElem?_drop,h i _ (List.getElem?_eq_getElem (by omega)),List.getElem?_eq_getElem (by omega)]
 . rw[List.getElem?_eq_none (by omega)]
abbrev pJ (k w:Int) (a b t:List Nat) (n:Int):List AV:=[.int .u8 k,.int .i64 w,.str a,.str b,.str t,.int .i64 n]
theorem ab6 (k w n:Int) (a b t u:List Nat) (s:St) (K:AV->St->Option (AV×St)):af c (.store 1) [.ptr s.next 2,.str u] (au s (.cells (pJ k w a b t n) 0)) K=K .undef (au s (.cells (pJ k w u b t n) 0)):=DV s _ 2 (.str u) (by simp) rfl rfl K
theorem ab7 (k w n:Int) (a b t u:List Nat) (s:St) (K:AV->St->Option (AV×St)):af c (.store 1) [.ptr s.next 3,.str u] (au s (.cells (pJ k w a b t n) 0)) K=K .undef (au s (.cells (pJ k w a u t n) 0)):=DV s _ 3 (.str u) (by simp) rfl rfl K
theorem ab8 (k w n:Int) (a b t u:List Nat) (s:St) (K:AV->St->Option (AV×St)):af c (.store 1) [.ptr s.next 4,.str u] (au s (.cells (pJ k w a b t n) 0)) K=K .undef (au s (.cells (pJ k w a b u n) 0)):=DV s _ 4 (.str u) (by simp) rfl rfl K
end Go.Proofs.YtehbdakjkjkekaaGreatDoor
end
section
set_option maxRecDepth 100000
namespace Go.Proofs.YtehbdakjkjkekaaGreatDoor
open Go Go.Ai Go.Proofs
variable {c : ai}
theorem aap {st s:St} {p:Pos} (h0:Wf st) (h:Grew st s) (hp:st.next.toNat<=p.toNat) (hp2:p.toNat<s.next.toNat) (b:AB):Grew st (rP s p b):=
 ⟨afU h.wf hp2,fun q x hq=>by have:=h0 _ _ hq;rw[rf (fun e=>by rw[e] at hp;omega)];exact h.get hq,by rw[FK];exact h.next⟩
end Go.Proofs.YtehbdakjkjkekaaGreatDoor
end
section
set_option maxRecDepth 100000
namespace Go.Proofs.YtehbdakjkjkekaaGreatDoor
open Go Go.Ai Go.Proofs
variable {c : ai}
theorem QS.rowAt {es:Nat} {s:St} {V:AV} {rows:List (List AV)} (h:QS es s V rows) (hr: ∀r∈rows,r.length=es) (he:0<es) {i:Nat} (hi:i<rows.length):
   ∃b o,(∀(K:AV->St->Option (AV×St)) (k:IntKind) (s1:St),af c (.idxA es none) [V,.int k (i:Int)] s1 K=K (.ptr b o) s1)/\(∀(K:AV->Option (AV×St)) (k:IntKind),bg (.idxA es none) [V,.int k (i:Int)] K=K (.ptr b o))/\
    ((cellsOf (s.heap.get b)).bind fun cs=>cut cs o es)=some rows[i]/\(∀(j:Nat) (u:AV),rows[i][j]? =some u->((cellsOf (s.heap.get b)).bind fun cs=>cs[o+j]?)=some u)/\jR V=some b:=by
 obtain ⟨b,off,cap,cs,rfl,g1,g2⟩:=af3 h hr hi
 refine ⟨b,off+i*es,fun K k s1=>BC c K s1 hi,fun K k=>X8 K hi,?_,fun j u hj=> ?_,?_⟩
 . rw[g1];exact Yc (hr _ (List.getElem_mem hi)) he g2
 . rw[g1];exact g2 j u hj
 . simp only[jR];rw[if_neg (by omega)]
theorem Hw {rs:List Rl} (hl:rs.length<=1000) {V:AV} {s0:St} (h:QS 6 s0 V (rs.map Rl.cells)) (F:Nat) (k2): ∀(m k f:Nat) (s:St) (W:AV),m<f->k+m=rs.length->Mk 6 s0 s W ((rs.take k).map Rl.cells)->
  ∃s' W',Mk 6 s0 s' W' (rs.map Rl.cells)/\fe c F k2 f [V,W,.int .i64 (k:Int)] s=k2 [W'] s':=by
 have lI:=fun (K:AV->St->Option (AV×St)) (s:St)=>QS.lenB (c:=c) h K s
 rw[List.length_map] at lI
 intro m
 induction m with
 |zero=>
  intro k f s W hf h1 hW
  obtain ⟨f,rfl⟩: ∃g,f=g+1:=⟨f - 1,by omega⟩
  obtain rfl:k=rs.length:=by omega
  rw[List.take_length] at hW
  refine ⟨s,W,hW,?_⟩
  rw[fe]
  simp[lI]
 |succ m ih=>
  intro k f s W hf h1 hW
  obtain ⟨f,rfl⟩: ∃g,f=g+1:=⟨f - 1,by omega⟩
  have hk:k<rs.length:=by omega
  have tE:k<(rs.map Rl.cells).length:=by rw[List.length_map];exact hk
  have kM:k<=1000000:=by omega
  have hs:QS 6 s V (rs.map Rl.cells):=h.mono fun b x _ hx=>hW.vR.get hx
  obtain ⟨b,o,a1,_,a3,_,_⟩:=QS.rowAt (c:=c) hs (fun r hr=>by simp only[List.mem_map] at hr;obtain ⟨t,_,rfl⟩:=hr;rfl) (by omega) tE
  rw[List.getElem_map] at a3
  obtain ⟨s5,W5,b1,b2,_,_⟩:=hW.push (c:=c) (R:=AV×St) (bytes:=72) (z:=[.int .u8 0,.int .i64 0,.str [],.str [],.str [],.int .i64 0]) (x:= .agg rs[k].cells) rfl rfl rfl (by decide) (by rw[List.length_map,List.length_take];omega) (by rw[List.length_map,List.length_take];omega)
  have e:(rs.take k).map Rl.cells++[(.agg rs[k].cells:AV).cells]=(rs.take (k+1)).map Rl.cells:=by rw[List.take_succ_eq_append_getElem hk,List.map_append];rfl
  rw[e] at b2
  obtain ⟨s',W',c1,c2⟩:=ih (k+1) f s5 W5 (by omega) (by omega) b2
  refine ⟨s',W',c1,?_⟩
  have w2:aY .i64 ((k:Int)+1)=((k+1:Nat):Int):=wrap64 (by omega) (by omega)
  rw[<-c2,fe]
  clear ih c1 c2 e b2
  generalize rs[k]=R at*
  simp (disch:=omega) [-iZ,lI,hk,a1,a3,b1,w2]
end Go.Proofs.YtehbdakjkjkekaaGreatDoor
end
