/- awake of the chapter. -/
import Derived.Test.YtoeleelojgimfaaGreatDoorProg
import Derived.Test.YtoeleelojgimfaaGreatDoorPEvalF
set_option linter.all false
set_option maxRecDepth 100000
namespace Go.Proofs.YtoeleelojgimfaaGreatDoor
noncomputable section
open Go Go.Ai Go.Proofs
def tt:T TI:=ttOf Go.Proofs.Tryz.prog [7,8,25,26,33,34,42,43,62,63,66,67,71,72,99,100,103,104,115,116,129,130,138,139,164,165,166,170,171,214,215,216,217]
def gg:T b7:=ggOf Go.Proofs.Tryz.prog tt
theorem abS:yX Go.Proofs.Tryz.prog (λp=>p) tt=true:=by kernel_rfl
theorem J8:bH Go.Proofs.Tryz.prog tt:=aaY abS
theorem J9:Ka Go.Proofs.Tryz.prog tt gg:=aaZ (by kernel_rfl)
end
noncomputable section
set_option maxRecDepth 1000000
open Go Go.Ai Go.Proofs Go.RowKit
section
variable{C:Cells}
theorem mix:Tryz.prog.follows .mixedOrders=true:=by kernel_rfl
theorem Pv:kZ Tryz.prog C 238 Fz:=YE (fn:=Tryz.f238) Tryz.func238 (by kernel_rfl) (by kernel_rfl) (by kernel_rfl) (by kernel_rfl)
theorem aa0:kZ Tryz.prog C 106 Kb:=VE (fn:=Tryz.f106) Tryz.func106 (by kernel_rfl) (by kernel_rfl) (by kernel_rfl) (by kernel_rfl)
def ol0:List (Nat×(List AV->St->Option (AV×St))):=[(238,Fz),(106,Kb)]
theorem VF:∀x∈ol0,kZ Tryz.prog C x.1 x.2:=λx hx=>by
 simp only[ol0,Za9,Ze5,Zi9]at hx;rcases hx with rfl|rfl
 .exact Pv
 .exact aa0
def SI(l:List (Nat×(List AV->St->Option (AV×St))))(kp:List Nat)(gf:Nat)(kj fn:Func):List AV->St->Option (AV×St):=Uf Tryz.prog tt (ud l) gg 100000 60 kp gf kj fn
theorem FA{l:List (Nat×(List AV->St->Option (AV×St)))}(hl:∀x∈l,kZ Tryz.prog C x.1 x.2){f gf:Nat}{kp:List Nat}{fn kj:Func}(hf:Tryz.prog.funcs[f]? =some fn)(iB:(fn.name== "runtime.NumGoroutine")=false)
  (hgf:Tryz.prog.funcs[gf]? =some kj) (Px:(kj.name== "runtime.NumGoroutine")=false):kZ Tryz.prog C f (SI l kp gf kj fn):=by
 have ho:=sM hl;exact YF mix J8 ho.1 ho.2 J9 hf iB hgf Px
def VG:List (Nat×(List AV->St->Option (AV×St))):=(104,SI ol0 [] 182 Tryz.f182 Tryz.f104)::ol0
theorem Kc:∀x∈VG,kZ Tryz.prog C x.1 x.2:=λx hx=>by
 rcases Za9.1 hx with rfl|hx
 .exact FA VF Tryz.func104 (by kernel_rfl) Tryz.func182 (by kernel_rfl)
 .exact VF x hx
end
def SJ:AV:= .agg [.fl [[.str [115,117,110],.int .u8 1,.int .i64 4,.int .i64 0,.ah,.int .i64 0,.int .i64 0],[.str [98,97,114],.int .u8 4,.int .i64 2,.int .i64 0,.ah,.int .i64 0,.int .i64 0]] 7,
 .fl [[.str [97,110,110],.str [],.str [],.int .i64 0,.int .i64 0,.str [],.bool false,.bool false,.ah],[.str [98,111,98],.str [],.str [],.int .i64 0,.int .i64 0,.str [],.bool false,.bool false,.ah],[.str [99,105,100],.str [],.str [],.int .i64 0,.int .i64 0,.str [],.bool false,.bool false,.ah]] 9,.ah,.ah,.ah]
def exL:AV:= .fl [[.int .i64 2],[.int .i64 0],[.int .i64 5]] 1
abbrev OL:=List (Nat×(List AV->St->Option (AV×St)))
def olS:OL:=(51,SI VG [] 70 Tryz.f70 Tryz.f51)::VG
def Py(l:OL)(f:Nat)(A:List AV)(r:AV):Bool:=AM (R:=Bool) false (ud l) gg 100000 60 f A { heap:= .e,next:= .h } λv _=>dJ v r
theorem Pz{l:OL}(hl:∀(C:Cells),∀x∈l,kZ Tryz.prog C x.1 x.2){f:Nat}{A rs:List AV}(ha:A.all (B8 4)=true)(hr:rs.all sv=true)(h:Py l f A (.tuple rs)=true)(C:Cells):kZ Tryz.prog C f (Jc 4 A (.tuple rs)):=
 VH (λC=>Da mix J8 (sM (hl C)).1 (sM (hl C)).2 J9 100000 60) (Plain.all ha) (.tuple λv hv=>by
  have:=Zc9.1 hr v hv;cases v<;>first|(cases this;done)|exact .bool _|exact .int _ _) (VI hr) h
theorem abT(C:Cells):∀x∈olS,kZ Tryz.prog C x.1 x.2:=λx hx=>by
 rcases Za9.1 hx with rfl|hx
 .exact FA Kc Tryz.func51 (by kernel_rfl) Tryz.func70 (by kernel_rfl)
 .exact Kc x hx
theorem YG:Py olS 51 [SJ] (.tuple [.int .i64 16,.bool true])=true:=by kernel_rfl
def VJ:OL:=(51,Jc 4 [SJ] (.tuple [.int .i64 16,.bool true]))::(54,SI VG [] 70 Tryz.f70 Tryz.f54)::VG
theorem Ke(C:Cells):∀x∈VJ,kZ Tryz.prog C x.1 x.2:=λx hx=>by
 rcases Za9.1 hx with rfl|hx
 .exact Pz abT rfl rfl YG C
 rcases Za9.1 hx with rfl|hx
 .exact FA Kc Tryz.func54 (by kernel_rfl) Tryz.func70 (by kernel_rfl)
 .exact Kc x hx
def olC:OL:=(33,SI VJ [21] 70 Tryz.f70 Tryz.f33)::(56,SI VJ [] 70 Tryz.f70 Tryz.f56)::VJ
theorem VK(C:Cells):∀x∈olC,kZ Tryz.prog C x.1 x.2:=λx hx=>by
 rcases Za9.1 hx with rfl|hx
 .exact FA (Ke C) Tryz.func33 (by kernel_rfl) Tryz.func70 (by kernel_rfl)
 rcases Za9.1 hx with rfl|hx
 .exact FA (Ke C) Tryz.func56 (by kernel_rfl) Tryz.func70 (by kernel_rfl)
 .exact Ke C x hx
theorem VL:Py olC 33 [SJ] (.tuple [.int .i64 120,.int .i64 12,.int .i64 0])=true:=by kernel_rfl
theorem VM:Py olC 56 [SJ,exL] (.tuple [.int .i64 2,.int .i64 0])=true:=by kernel_rfl
def ol3:OL:=(33,Jc 4 [SJ] (.tuple [.int .i64 120,.int .i64 12,.int .i64 0]))::(56,Jc 4 [SJ,exL] (.tuple [.int .i64 2,.int .i64 0]))::VJ
theorem abU(C:Cells):∀x∈ol3,kZ Tryz.prog C x.1 x.2:=λx hx=>by
 rcases Za9.1 hx with rfl|hx
 .exact Pz VK rfl rfl VL C
 rcases Za9.1 hx with rfl|hx
 .exact Pz VK rfl rfl VM C
 .exact Ke C x hx
theorem VN:Py ol3 15 [] (.bool true)=true:=by kernel_rfl
theorem VO(w:World):Calls Tryz.prog 15 #[] w λe w'=>e= .returned (.bool true)/\Below w.heap.size w w':=by have ho:=sM (abU λ_=>none);exact PA mix J8 J9 ho.1 ho.2 (fn:=Tryz.f15) (c:=Tryz.f15.body.get rfl) Tryz.func15 (by decide) rfl VN w
end
end Go.Proofs.YtoeleelojgimfaaGreatDoor
