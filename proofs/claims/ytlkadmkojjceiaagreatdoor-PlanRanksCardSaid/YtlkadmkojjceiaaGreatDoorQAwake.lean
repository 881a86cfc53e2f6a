/- awake of the chapter. -/
import Derived.Test.YtlkadmkojjceiaaGreatDoorProg
import Derived.Test.YtlkadmkojjceiaaGreatDoorQEvalF
set_option linter.all false
set_option maxRecDepth 100000
namespace Go.Proofs.YtlkadmkojjceiaaGreatDoor
noncomputable section
open Go Go.Ai Go.Proofs
def tt:T TI:=ttOf Go.Proofs.Tryz.prog [7,8,27,28,38,39,47,48,98,99,102,103,106,107,127,128,136,137,156,157,162,163,190,191,211,212,223,224,225,229,230,279,280,281,282]
def gg:T cI:=ggOf Go.Proofs.Tryz.prog tt
theorem aee:Ax Go.Proofs.Tryz.prog (λp=>p) tt=true:=by kernel_rfl
theorem MT:bL Go.Proofs.Tryz.prog tt:=ac6 aee
theorem MU:MV Go.Proofs.Tryz.prog tt gg:=ac7 (by kernel_rfl)
end
noncomputable section
set_option maxRecDepth 1000000
open Go Go.Ai Go.Proofs Go.RowKit
section
variable{C:Cells}
theorem mix:Tryz.prog.follows .mixedOrders=true:=by kernel_rfl
theorem Sf:lA Tryz.prog C 327 Ib:=aaT (fn:=Tryz.f327) Tryz.func327 (by kernel_rfl) (by kernel_rfl) (by kernel_rfl) (by kernel_rfl)
theorem ac8:lA Tryz.prog C 185 MW:=YU (fn:=Tryz.f185) Tryz.func185 (by kernel_rfl) (by kernel_rfl) (by kernel_rfl) (by kernel_rfl)
def ol0:List (Nat×(List AV->St->Option (AV×St))):=[(327,Ib),(185,MW)]
theorem YV:∀x∈ol0,lA Tryz.prog C x.1 x.2:=λx hx=>by
 simp only[ol0,Zb1,Ze6,Zj6]at hx;rcases hx with rfl|rfl
 .exact Sf
 .exact ac8
def VG(l:List (Nat×(List AV->St->Option (AV×St))))(kp:List Nat)(gf:Nat)(kX fn:Func):List AV->St->Option (AV×St):=Xl Tryz.prog tt (vr l) gg 100000 60 kp gf kX fn
theorem Ic{l:List (Nat×(List AV->St->Option (AV×St)))}(hl:∀x∈l,lA Tryz.prog C x.1 x.2){f gf:Nat}{kp:List Nat}{fn kX:Func}(hf:Tryz.prog.funcs[f]? =some fn)(ji:(fn.name== "runtime.NumGoroutine")=false)
  (hgf:Tryz.prog.funcs[gf]? =some kX) (Sg:(kX.name== "runtime.NumGoroutine")=false):lA Tryz.prog C f (VG l kp gf kX fn):=by
 have ho:=uj hl;exact aaU mix MT ho.1 ho.2 MU hf ji hgf Sg
def YW:List (Nat×(List AV->St->Option (AV×St))):=(127,VG ol0 [] 243 Tryz.f243 Tryz.f127)::ol0
theorem MX:∀x∈YW,lA Tryz.prog C x.1 x.2:=λx hx=>by
 rcases Zb1.1 hx with rfl|hx
 .exact Ic YV Tryz.func127 (by kernel_rfl) Tryz.func243 (by kernel_rfl)
 .exact YV x hx
end
def VH:AV:= .agg [.fl [[.str [115,117,110],.int .u8 1,.int .i64 4,.int .i64 0,.af,.int .i64 0,.int .i64 0],[.str [98,97,114],.int .u8 4,.int .i64 2,.int .i64 0,.af,.int .i64 0,.int .i64 0]] 7,
 .fl [[.str [97,110,110],.str [],.str [],.int .i64 0,.int .i64 0,.str [],.bool false,.bool false,.af],[.str [98,111,98],.str [],.str [],.int .i64 0,.int .i64 0,.str [],.bool false,.bool false,.af],[.str [99,105,100],.str [],.str [],.int .i64 0,.int .i64 0,.str [],.bool false,.bool false,.af]] 9,.af,.af,.af]
def exL:AV:= .fl [[.int .i64 2],[.int .i64 0],[.int .i64 5]] 1
abbrev OL:=List (Nat×(List AV->St->Option (AV×St)))
def olS:OL:=(83,VG YW [] 124 Tryz.f124 Tryz.f83)::YW
def Si(l:OL)(f:Nat)(A:List AV)(r:AV):Bool:=Cm (R:=Bool) false (vr l) gg 100000 60 f A { heap:= .e,next:= .h } λv _=>fj v r
theorem Sj{l:OL}(hl:∀(C:Cells),∀x∈l,lA Tryz.prog C x.1 x.2){f:Nat}{A rs:List AV}(ha:A.all (DW 4)=true)(hr:rs.all tX=true)(h:Si l f A (.tuple rs)=true)(C:Cells):lA Tryz.prog C f (LR 4 A (.tuple rs)):=
 YX (λC=>Fm mix MT (uj (hl C)).1 (uj (hl C)).2 MU 100000 60) (Plain.all ha) (.tuple λv hv=>by
  have:=Zd3.1 hr v hv;cases v<;>first|(cases this;done)|exact .bool _|exact .int _ _) (YY hr) h
theorem aef(C:Cells):∀x∈olS,lA Tryz.prog C x.1 x.2:=λx hx=>by
 rcases Zb1.1 hx with rfl|hx
 .exact Ic MX Tryz.func83 (by kernel_rfl) Tryz.func124 (by kernel_rfl)
 .exact MX x hx
theorem aaV:Si olS 83 [VH] (.tuple [.int .i64 16,.bool true])=true:=by kernel_rfl
def YZ:OL:=(83,LR 4 [VH] (.tuple [.int .i64 16,.bool true]))::(82,VG YW [] 124 Tryz.f124 Tryz.f82)::YW
theorem MY(C:Cells):∀x∈YZ,lA Tryz.prog C x.1 x.2:=λx hx=>by
 rcases Zb1.1 hx with rfl|hx
 .exact Sj aef rfl rfl aaV C
 rcases Zb1.1 hx with rfl|hx
 .exact Ic MX Tryz.func82 (by kernel_rfl) Tryz.func124 (by kernel_rfl)
 .exact MX x hx
def olC:OL:=(51,VG YZ [21] 124 Tryz.f124 Tryz.f51)::(36,VG YZ [] 124 Tryz.f124 Tryz.f36)::YZ
theorem Y0(C:Cells):∀x∈olC,lA Tryz.prog C x.1 x.2:=λx hx=>by
 rcases Zb1.1 hx with rfl|hx
 .exact Ic (MY C) Tryz.func51 (by kernel_rfl) Tryz.func124 (by kernel_rfl)
 rcases Zb1.1 hx with rfl|hx
 .exact Ic (MY C) Tryz.func36 (by kernel_rfl) Tryz.func124 (by kernel_rfl)
 .exact MY C x hx
theorem Y3:Si olC 51 [VH] (.tuple [.int .i64 120,.int .i64 12,.int .i64 0])=true:=by kernel_rfl
theorem Y4:Si olC 36 [VH,exL] (.tuple [.int .i64 2,.int .i64 0])=true:=by kernel_rfl
def ol3:OL:=(51,LR 4 [VH] (.tuple [.int .i64 120,.int .i64 12,.int .i64 0]))::(36,LR 4 [VH,exL] (.tuple [.int .i64 2,.int .i64 0]))::YZ
theorem aeg(C:Cells):∀x∈ol3,lA Tryz.prog C x.1 x.2:=λx hx=>by
 rcases Zb1.1 hx with rfl|hx
 .exact Sj Y0 rfl rfl Y3 C
 rcases Zb1.1 hx with rfl|hx
 .exact Sj Y0 rfl rfl Y4 C
 .exact MY C x hx
theorem Y5:Si ol3 12 [] (.bool true)=true:=by kernel_rfl
theorem Y6(w:World):Calls Tryz.prog 12 #[] w λe w'=>e= .returned (.bool true)/\Below w.heap.size w w':=by have ho:=uj (aeg λ_=>none);exact Sk mix MT MU ho.1 ho.2 (fn:=Tryz.f12) (c:=Tryz.f12.body.get rfl) Tryz.func12 (by decide) rfl Y5 w
end
end Go.Proofs.YtlkadmkojjceiaaGreatDoor
