/- awake of the chapter. -/
import Derived.Test.YtlkadmkojjceiaaGreatDoorProg
import Derived.Test.YtlkadmkojjceiaaGreatDoorKEvalF
set_option linter.all false
set_option maxRecDepth 100000
namespace Go.Proofs.YtlkadmkojjceiaaGreatDoor
noncomputable section
open Go Go.Ai Go.Proofs
def tt:T TI:=ttOf Go.Proofs.Tryz.prog [7,8,27,28,38,39,47,48,98,99,102,103,106,107,127,128,136,137,156,157,162,163,190,191,211,212,223,224,225,229,230,279,280,281,282]
def gg:T b9:=ggOf Go.Proofs.Tryz.prog tt
theorem abf:zG Go.Proofs.Tryz.prog (λp=>p) tt=true:=by kernel_rfl
theorem Lb:bE Go.Proofs.Tryz.prog tt:=aam abf
theorem Lc:Lf Go.Proofs.Tryz.prog tt gg:=aan (by kernel_rfl)
end
noncomputable section
set_option maxRecDepth 1000000
open Go Go.Ai Go.Proofs Go.RowKit
section
variable{C:Cells}
theorem mix:Tryz.prog.follows .mixedOrders=true:=by kernel_rfl
theorem Qf:kf Tryz.prog C 327 G6:=X3 (fn:=Tryz.f327) Tryz.func327 (by kernel_rfl) (by kernel_rfl) (by kernel_rfl) (by kernel_rfl)
theorem aao:kf Tryz.prog C 185 Lg:=VS (fn:=Tryz.f185) Tryz.func185 (by kernel_rfl) (by kernel_rfl) (by kernel_rfl) (by kernel_rfl)
def ZL:List (Nat×(List AV->St->Option (AV×St))):=[(327,G6),(185,Lg)]
theorem VT:∀x∈ZL,kf Tryz.prog C x.1 x.2:=λx hx=>by
 simp only[ZL,Za0,Zc7,Zg6]at hx;rcases hx with rfl|rfl
 .exact Qf
 .exact aao
def Tv(l:List (Nat×(List AV->St->Option (AV×St))))(kp:List Nat)(gf:Nat)(jH fn:Func):List AV->St->Option (AV×St):=UK Tryz.prog tt (uZ l) gg 100000 60 kp gf jH fn
theorem G8{l:List (Nat×(List AV->St->Option (AV×St)))}(hl:∀x∈l,kf Tryz.prog C x.1 x.2){f gf:Nat}{kp:List Nat}{fn jH:Func}(hf:Tryz.prog.funcs[f]? =some fn)(gj:(fn.name== "runtime.NumGoroutine")=false)
  (hgf:Tryz.prog.funcs[gf]? =some jH) (Qi:(jH.name== "runtime.NumGoroutine")=false):kf Tryz.prog C f (Tv l kp gf jH fn):=by
 have ho:=tD hl;exact X4 mix Lb ho.1 ho.2 Lc hf gj hgf Qi
def VU:List (Nat×(List AV->St->Option (AV×St))):=(127,Tv ZL [] 243 Tryz.f243 Tryz.f127)::ZL
theorem Lh:∀x∈VU,kf Tryz.prog C x.1 x.2:=λx hx=>by
 rcases Za0.1 hx with rfl|hx
 .exact G8 VT Tryz.func127 (by kernel_rfl) Tryz.func243 (by kernel_rfl)
 .exact VT x hx
end
def Tw:AV:= .agg [.fl [[.str [115,117,110],.int .u8 1,.int .i64 4,.int .i64 0,.ax,.int .i64 0,.int .i64 0],[.str [98,97,114],.int .u8 4,.int .i64 2,.int .i64 0,.ax,.int .i64 0,.int .i64 0]] 7,
 .fl [[.str [97,110,110],.str [],.str [],.int .i64 0,.int .i64 0,.str [],.bool false,.bool false,.ax],[.str [98,111,98],.str [],.str [],.int .i64 0,.int .i64 0,.str [],.bool false,.bool false,.ax],[.str [99,105,100],.str [],.str [],.int .i64 0,.int .i64 0,.str [],.bool false,.bool false,.ax]] 9,.ax,.ax,.ax]
def exL:AV:= .fl [[.int .i64 2],[.int .i64 0],[.int .i64 5]] 1
abbrev OL:=List (Nat×(List AV->St->Option (AV×St)))
def olS:OL:=(83,Tv VU [] 124 Tryz.f124 Tryz.f83)::VU
def Qj(l:OL)(f:Nat)(A:List AV)(r:AV):Bool:=Bz (R:=Bool) false (uZ l) gg 100000 60 f A { heap:= .e,next:= .h } λv _=>fj v r
theorem Qk{l:OL}(hl:∀(C:Cells),∀x∈l,kf Tryz.prog C x.1 x.2){f:Nat}{A rs:List AV}(ha:A.all (Df 4)=true)(hr:rs.all tq=true)(h:Qj l f A (.tuple rs)=true)(C:Cells):kf Tryz.prog C f (Km 4 A (.tuple rs)):=
 VV (λC=>Ew mix Lb (tD (hl C)).1 (tD (hl C)).2 Lc 100000 60) (Plain.all ha) (.tuple λv hv=>by
  have:=Zd4.1 hr v hv;cases v<;>first|(cases this;done)|exact .bool _|exact .int _ _) (VW hr) h
theorem abg(C:Cells):∀x∈olS,kf Tryz.prog C x.1 x.2:=λx hx=>by
 rcases Za0.1 hx with rfl|hx
 .exact G8 Lh Tryz.func83 (by kernel_rfl) Tryz.func124 (by kernel_rfl)
 .exact Lh x hx
theorem X5:Qj olS 83 [Tw] (.tuple [.int .i64 16,.bool true])=true:=by kernel_rfl
def VX:OL:=(83,Km 4 [Tw] (.tuple [.int .i64 16,.bool true]))::(82,Tv VU [] 124 Tryz.f124 Tryz.f82)::VU
theorem Li(C:Cells):∀x∈VX,kf Tryz.prog C x.1 x.2:=λx hx=>by
 rcases Za0.1 hx with rfl|hx
 .exact Qk abg rfl rfl X5 C
 rcases Za0.1 hx with rfl|hx
 .exact G8 Lh Tryz.func82 (by kernel_rfl) Tryz.func124 (by kernel_rfl)
 .exact Lh x hx
def olC:OL:=(51,Tv VX [21] 124 Tryz.f124 Tryz.f51)::(36,Tv VX [] 124 Tryz.f124 Tryz.f36)::VX
theorem VY(C:Cells):∀x∈olC,kf Tryz.prog C x.1 x.2:=λx hx=>by
 rcases Za0.1 hx with rfl|hx
 .exact G8 (Li C) Tryz.func51 (by kernel_rfl) Tryz.func124 (by kernel_rfl)
 rcases Za0.1 hx with rfl|hx
 .exact G8 (Li C) Tryz.func36 (by kernel_rfl) Tryz.func124 (by kernel_rfl)
 .exact Li C x hx
theorem VZ:Qj olC 51 [Tw] (.tuple [.int .i64 120,.int .i64 12,.int .i64 0])=true:=by kernel_rfl
theorem V0:Qj olC 36 [Tw,exL] (.tuple [.int .i64 2,.int .i64 0])=true:=by kernel_rfl
def ol3:OL:=(51,Km 4 [Tw] (.tuple [.int .i64 120,.int .i64 12,.int .i64 0]))::(36,Km 4 [Tw,exL] (.tuple [.int .i64 2,.int .i64 0]))::VX
theorem abh(C:Cells):∀x∈ol3,kf Tryz.prog C x.1 x.2:=λx hx=>by
 rcases Za0.1 hx with rfl|hx
 .exact Qk VY rfl rfl VZ C
 rcases Za0.1 hx with rfl|hx
 .exact Qk VY rfl rfl V0 C
 .exact Li C x hx
theorem V6:Qj ol3 12 [] (.bool true)=true:=by kernel_rfl
theorem VP(w:World):Calls Tryz.prog 12 #[] w λe w'=>e= .returned (.bool true)/\Below w.heap.size w w':=by have ho:=tD (abh λ_=>none);exact Ql mix Lb Lc ho.1 ho.2 (fn:=Tryz.f12) (c:=Tryz.f12.body.get rfl) Tryz.func12 (by decide) rfl V6 w
end
end Go.Proofs.YtlkadmkojjceiaaGreatDoor
