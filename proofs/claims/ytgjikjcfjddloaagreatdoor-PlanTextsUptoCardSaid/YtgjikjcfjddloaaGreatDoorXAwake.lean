/- awake of the chapter. -/
import Derived.Test.YtgjikjcfjddloaaGreatDoorProg
import Derived.Test.YtgjikjcfjddloaaGreatDoorXEvalF
set_option linter.all false
set_option maxRecDepth 100000
namespace Go.Proofs.YtgjikjcfjddloaaGreatDoor
noncomputable section
open Go Go.Ai Go.Proofs
def tt:T TI:=ttOf Go.Proofs.Tryz.prog [7,8,25,26,32,33,76,77,80,81,85,86,104,105,114,115,122,123,140,141,145,146,186,187,224,225,226,230,231,289,290,291,292,314,315]
def gg:T dB:=ggOf Go.Proofs.Tryz.prog tt
theorem ajs:Fg Go.Proofs.Tryz.prog (λp=>p) tt=true:=by kernel_rfl
theorem Tc:cB Go.Proofs.Tryz.prog tt:=ail ajs
theorem Td:Te Go.Proofs.Tryz.prog tt gg:=aim (by kernel_rfl)
end
noncomputable section
set_option maxRecDepth 1000000
open Go Go.Ai Go.Proofs Go.RowKit
section
variable{C:Cells}
theorem mix:Tryz.prog.follows .mixedOrders=true:=by kernel_rfl
theorem YF:kT Tryz.prog C 329 N5:=afJ (fn:=Tryz.f329) Tryz.func329 (by kernel_rfl) (by kernel_rfl) (by kernel_rfl) (by kernel_rfl)
theorem abB:kT Tryz.prog C 164 KQ:=adU (fn:=Tryz.f164) Tryz.func164 (by kernel_rfl) (by kernel_rfl) (by kernel_rfl) (by kernel_rfl)
def ol0:List (Nat×(List AV->St->Option (AV×St))):=[(329,N5),(164,KQ)]
theorem adV:∀x∈ol0,kT Tryz.prog C x.1 x.2:=λx hx=>by
 simp only[ol0,Za7,Zd0,Zh3]at hx;rcases hx with rfl|rfl
 .exact YF
 .exact abB
def rfO(l:List (Nat×(List AV->St->Option (AV×St))))(kp:List Nat)(gf:Nat)(mD fn:Func):List AV->St->Option (AV×St):=acr Tryz.prog tt (Ar l) gg 100000 60 kp gf mD fn
theorem N6{l:List (Nat×(List AV->St->Option (AV×St)))}(hl:∀x∈l,kT Tryz.prog C x.1 x.2){f gf:Nat}{kp:List Nat}{fn mD:Func}(hf:Tryz.prog.funcs[f]? =some fn)(fY:(fn.name== "runtime.NumGoroutine")=false)
  (hgf:Tryz.prog.funcs[gf]? =some mD) (YG:(mD.name== "runtime.NumGoroutine")=false):kT Tryz.prog C f (rfO l kp gf mD fn):=by
 have ho:=yU hl;exact afK mix Tc ho.1 ho.2 Td hf fY hgf YG
def ol1:List (Nat×(List AV->St->Option (AV×St))):=(91,rfO ol0 [] 223 Tryz.f223 Tryz.f91)::ol0
theorem Tf:∀x∈ol1,kT Tryz.prog C x.1 x.2:=λx hx=>by
 rcases Za7.1 hx with rfl|hx
 .exact N6 adV Tryz.func91 (by kernel_rfl) Tryz.func223 (by kernel_rfl)
 .exact adV x hx
end
def exP:AV:= .agg [.fl [[.str [115,117,110],.int .u8 1,.int .i64 4,.int .i64 0,.av,.int .i64 0,.int .i64 0],[.str [98,97,114],.int .u8 4,.int .i64 2,.int .i64 0,.av,.int .i64 0,.int .i64 0]] 7,
 .fl [[.str [97,110,110],.str [],.str [],.int .i64 0,.int .i64 0,.str [],.bool false,.bool false,.av],[.str [98,111,98],.str [],.str [],.int .i64 0,.int .i64 0,.str [],.bool false,.bool false,.av],[.str [99,105,100],.str [],.str [],.int .i64 0,.int .i64 0,.str [],.bool false,.bool false,.av]] 9,.av,.av,.av]
def exL:AV:= .fl [[.int .i64 2],[.int .i64 0],[.int .i64 5]] 1
abbrev OL:=List (Nat×(List AV->St->Option (AV×St)))
def olS:OL:=(46,rfO ol1 [] 86 Tryz.f86 Tryz.f46)::ol1
def YH(l:OL)(f:Nat)(A:List AV)(r:AV):Bool:=Hw (R:=Bool) false (Ar l) gg 100000 60 f A { heap:= .e,next:= .h } λv _=>dN v r
theorem YI{l:OL}(hl:∀(C:Cells),∀x∈l,kT Tryz.prog C x.1 x.2){f:Nat}{A rs:List AV}(ha:A.all (JB 4)=true)(hr:rs.all yJ=true)(h:YH l f A (.tuple rs)=true)(C:Cells):kT Tryz.prog C f (R9 4 A (.tuple rs)):=
 adW (λC=>KR mix Tc (yU (hl C)).1 (yU (hl C)).2 Td 100000 60) (Plain.all ha) (.tuple λv hv=>by
  have:=Ze5.1 hr v hv;cases v<;>first|(cases this;done)|exact .bool _|exact .int _ _) (adX hr) h
theorem ajt(C:Cells):∀x∈olS,kT Tryz.prog C x.1 x.2:=λx hx=>by
 rcases Za7.1 hx with rfl|hx
 .exact N6 Tf Tryz.func46 (by kernel_rfl) Tryz.func86 (by kernel_rfl)
 .exact Tf x hx
theorem afL:YH olS 46 [exP] (.tuple [.int .i64 16,.bool true])=true:=by kernel_rfl
def ol2:OL:=(46,R9 4 [exP] (.tuple [.int .i64 16,.bool true]))::(50,rfO ol1 [] 86 Tryz.f86 Tryz.f50)::ol1
theorem Tg(C:Cells):∀x∈ol2,kT Tryz.prog C x.1 x.2:=λx hx=>by
 rcases Za7.1 hx with rfl|hx
 .exact YI ajt rfl rfl afL C
 rcases Za7.1 hx with rfl|hx
 .exact N6 Tf Tryz.func50 (by kernel_rfl) Tryz.func86 (by kernel_rfl)
 .exact Tf x hx
def olC:OL:=(55,rfO ol2 [21] 86 Tryz.f86 Tryz.f55)::(11,rfO ol2 [] 86 Tryz.f86 Tryz.f11)::ol2
theorem adY(C:Cells):∀x∈olC,kT Tryz.prog C x.1 x.2:=λx hx=>by
 rcases Za7.1 hx with rfl|hx
 .exact N6 (Tg C) Tryz.func55 (by kernel_rfl) Tryz.func86 (by kernel_rfl)
 rcases Za7.1 hx with rfl|hx
 .exact N6 (Tg C) Tryz.func11 (by kernel_rfl) Tryz.func86 (by kernel_rfl)
 .exact Tg C x hx
theorem adZ:YH olC 55 [exP] (.tuple [.int .i64 120,.int .i64 12,.int .i64 0])=true:=by kernel_rfl
theorem ad0:YH olC 11 [exP,exL] (.tuple [.int .i64 2,.int .i64 0])=true:=by kernel_rfl
def ol3:OL:=(55,R9 4 [exP] (.tuple [.int .i64 120,.int .i64 12,.int .i64 0]))::(11,R9 4 [exP,exL] (.tuple [.int .i64 2,.int .i64 0]))::ol2
theorem aju(C:Cells):∀x∈ol3,kT Tryz.prog C x.1 x.2:=λx hx=>by
 rcases Za7.1 hx with rfl|hx
 .exact YI adY rfl rfl adZ C
 rcases Za7.1 hx with rfl|hx
 .exact YI adY rfl rfl ad0 C
 .exact Tg C x hx
theorem ad1:YH ol3 18 [] (.bool true)=true:=by kernel_rfl
theorem ad2(w:World):Calls Tryz.prog 18 #[] w λe w'=>e= .returned (.bool true)/\Below w.heap.size w w':=by have ho:=yU (aju λ_=>none);exact YJ mix Tc Td ho.1 ho.2 (fn:=Tryz.f18) (c:=Tryz.f18.body.get rfl) Tryz.func18 (by decide) rfl ad1 w
end
end Go.Proofs.YtgjikjcfjddloaaGreatDoor
