/- awake of the chapter. -/
import Derived.Test.YtgjikjcfjddloaaGreatDoorProg
import Derived.Test.YtgjikjcfjddloaaGreatDoorREvalF
set_option linter.all false
set_option maxRecDepth 100000
namespace Go.Proofs.YtgjikjcfjddloaaGreatDoor
noncomputable section
open Go Go.Ai Go.Proofs
def tt:T TI:=ttOf Go.Proofs.Tryz.prog [7,8,25,26,32,33,76,77,80,81,85,86,104,105,114,115,122,123,140,141,145,146,186,187,224,225,226,230,231,289,290,291,292,314,315]
def gg:T dc:=ggOf Go.Proofs.Tryz.prog tt
theorem ahZ:Dl Go.Proofs.Tryz.prog (λp=>p) tt=true:=by kernel_rfl
theorem Qi:bZ Go.Proofs.Tryz.prog tt:=agX ahZ
theorem Qj:Qk Go.Proofs.Tryz.prog tt gg:=agY (by kernel_rfl)
end
noncomputable section
set_option maxRecDepth 1000000
open Go Go.Ai Go.Proofs Go.RowKit
section
variable{C:Cells}
theorem mix:Tryz.prog.follows .mixedOrders=true:=by kernel_rfl
theorem VZ:lq Tryz.prog C 329 KZ:=aes (fn:=Tryz.f329) Tryz.func329 (by kernel_rfl) (by kernel_rfl) (by kernel_rfl) (by kernel_rfl)
theorem ZI:lq Tryz.prog C 164 Iu:=acu (fn:=Tryz.f164) Tryz.func164 (by kernel_rfl) (by kernel_rfl) (by kernel_rfl) (by kernel_rfl)
def ol0:List (Nat×(List AV->St->Option (AV×St))):=[(329,KZ),(164,Iu)]
theorem acv:∀x∈ol0,lq Tryz.prog C x.1 x.2:=λx hx=>by
 simp only[ol0,Zb2,Ze9,Zj8]at hx;rcases hx with rfl|rfl
 .exact VZ
 .exact ZI
def ZJ(l:List (Nat×(List AV->St->Option (AV×St))))(kp:List Nat)(gf:Nat)(mM fn:Func):List AV->St->Option (AV×St):=aaP Tryz.prog tt (yl l) gg 100000 60 kp gf mM fn
theorem K3{l:List (Nat×(List AV->St->Option (AV×St)))}(hl:∀x∈l,lq Tryz.prog C x.1 x.2){f gf:Nat}{kp:List Nat}{fn mM:Func}(hf:Tryz.prog.funcs[f]? =some fn)(gV:(fn.name== "runtime.NumGoroutine")=false)
  (hgf:Tryz.prog.funcs[gf]? =some mM) (V0:(mM.name== "runtime.NumGoroutine")=false):lq Tryz.prog C f (ZJ l kp gf mM fn):=by
 have ho:=wT hl;exact aet mix Qi ho.1 ho.2 Qj hf gV hgf V0
def ol1:List (Nat×(List AV->St->Option (AV×St))):=(91,ZJ ol0 [] 223 Tryz.f223 Tryz.f91)::ol0
theorem Ql:∀x∈ol1,lq Tryz.prog C x.1 x.2:=λx hx=>by
 rcases Zb2.1 hx with rfl|hx
 .exact K3 acv Tryz.func91 (by kernel_rfl) Tryz.func223 (by kernel_rfl)
 .exact acv x hx
end
def ZK:AV:= .agg [.fl [[.str [115,117,110],.int .u8 1,.int .i64 4,.int .i64 0,.ah,.int .i64 0,.int .i64 0],[.str [98,97,114],.int .u8 4,.int .i64 2,.int .i64 0,.ah,.int .i64 0,.int .i64 0]] 7,
 .fl [[.str [97,110,110],.str [],.str [],.int .i64 0,.int .i64 0,.str [],.bool false,.bool false,.ah],[.str [98,111,98],.str [],.str [],.int .i64 0,.int .i64 0,.str [],.bool false,.bool false,.ah],[.str [99,105,100],.str [],.str [],.int .i64 0,.int .i64 0,.str [],.bool false,.bool false,.ah]] 9,.ah,.ah,.ah]
def exL:AV:= .fl [[.int .i64 2],[.int .i64 0],[.int .i64 5]] 1
abbrev OL:=List (Nat×(List AV->St->Option (AV×St)))
def olS:OL:=(46,ZJ ol1 [] 86 Tryz.f86 Tryz.f46)::ol1
def V8(l:OL)(f:Nat)(A:List AV)(r:AV):Bool:=E7 (R:=Bool) false (yl l) gg 100000 60 f A { heap:= .e,next:= .h } λv _=>fE v r
theorem V9{l:OL}(hl:∀(C:Cells),∀x∈l,lq Tryz.prog C x.1 x.2){f:Nat}{A rs:List AV}(ha:A.all (G6 4)=true)(hr:rs.all wL=true)(h:V8 l f A (.tuple rs)=true)(C:Cells):lq Tryz.prog C f (O4 4 A (.tuple rs)):=
 acw (λC=>Iv mix Qi (wT (hl C)).1 (wT (hl C)).2 Qj 100000 60) (Plain.all ha) (.tuple λv hv=>by
  have:=Zd9.1 hr v hv;cases v<;>first|(cases this;done)|exact .bool _|exact .int _ _) (acy hr) h
theorem ah0(C:Cells):∀x∈olS,lq Tryz.prog C x.1 x.2:=λx hx=>by
 rcases Zb2.1 hx with rfl|hx
 .exact K3 Ql Tryz.func46 (by kernel_rfl) Tryz.func86 (by kernel_rfl)
 .exact Ql x hx
theorem aeu:V8 olS 46 [ZK] (.tuple [.int .i64 16,.bool true])=true:=by kernel_rfl
def ol2:OL:=(46,O4 4 [ZK] (.tuple [.int .i64 16,.bool true]))::(50,ZJ ol1 [] 86 Tryz.f86 Tryz.f50)::ol1
theorem Qm(C:Cells):∀x∈ol2,lq Tryz.prog C x.1 x.2:=λx hx=>by
 rcases Zb2.1 hx with rfl|hx
 .exact V9 ah0 rfl rfl aeu C
 rcases Zb2.1 hx with rfl|hx
 .exact K3 Ql Tryz.func50 (by kernel_rfl) Tryz.func86 (by kernel_rfl)
 .exact Ql x hx
def olC:OL:=(55,ZJ ol2 [21] 86 Tryz.f86 Tryz.f55)::(11,ZJ ol2 [] 86 Tryz.f86 Tryz.f11)::ol2
theorem acz(C:Cells):∀x∈olC,lq Tryz.prog C x.1 x.2:=λx hx=>by
 rcases Zb2.1 hx with rfl|hx
 .exact K3 (Qm C) Tryz.func55 (by kernel_rfl) Tryz.func86 (by kernel_rfl)
 rcases Zb2.1 hx with rfl|hx
 .exact K3 (Qm C) Tryz.func11 (by kernel_rfl) Tryz.func86 (by kernel_rfl)
 .exact Qm C x hx
theorem acA:V8 olC 55 [ZK] (.tuple [.int .i64 120,.int .i64 12,.int .i64 0])=true:=by kernel_rfl
theorem acB:V8 olC 11 [ZK,exL] (.tuple [.int .i64 2,.int .i64 0])=true:=by kernel_rfl
def ol3:OL:=(55,O4 4 [ZK] (.tuple [.int .i64 120,.int .i64 12,.int .i64 0]))::(11,O4 4 [ZK,exL] (.tuple [.int .i64 2,.int .i64 0]))::ol2
theorem ah1(C:Cells):∀x∈ol3,lq Tryz.prog C x.1 x.2:=λx hx=>by
 rcases Zb2.1 hx with rfl|hx
 .exact V9 acz rfl rfl acA C
 rcases Zb2.1 hx with rfl|hx
 .exact V9 acz rfl rfl acB C
 .exact Qm C x hx
theorem acC:V8 ol3 18 [] (.bool true)=true:=by kernel_rfl
theorem acD(w:World):Calls Tryz.prog 18 #[] w λe w'=>e= .returned (.bool true)/\Below w.heap.size w w':=by have ho:=wT (ah1 λ_=>none);exact Wa mix Qi Qj ho.1 ho.2 (fn:=Tryz.f18) (c:=Tryz.f18.body.get rfl) Tryz.func18 (by decide) rfl acC w
end
end Go.Proofs.YtgjikjcfjddloaaGreatDoor
