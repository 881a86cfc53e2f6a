/- awake of the chapter. -/
import Derived.Test.YtlkadmkojjceiaaGreatDoorProg
import Derived.Test.YtlkadmkojjceiaaGreatDoorVEvalF
set_option linter.all false
set_option maxRecDepth 100000
namespace Go.Proofs.YtlkadmkojjceiaaGreatDoor
noncomputable section
open Go Go.Ai Go.Proofs
def tt:T TI:=ttOf Go.Proofs.Tryz.prog [7,8,27,28,38,39,47,48,98,99,102,103,106,107,127,128,136,137,156,157,162,163,190,191,211,212,223,224,225,229,230,279,280,281,282]
def gg:T cw:=ggOf Go.Proofs.Tryz.prog tt
theorem aeX:CH Go.Proofs.Tryz.prog (λp=>p) tt=true:=by kernel_rfl
theorem Po:bM Go.Proofs.Tryz.prog tt:=adW aeX
theorem Pp:Pu Go.Proofs.Tryz.prog tt gg:=adX (by kernel_rfl)
end
noncomputable section
set_option maxRecDepth 1000000
open Go Go.Ai Go.Proofs Go.RowKit
section
variable{C:Cells}
theorem mix:Tryz.prog.follows .mixedOrders=true:=by kernel_rfl
theorem UM:lW Tryz.prog C 327 KE:=abJ (fn:=Tryz.f327) Tryz.func327 (by kernel_rfl) (by kernel_rfl) (by kernel_rfl) (by kernel_rfl)
theorem adY:lW Tryz.prog C 185 Pv:=aaj (fn:=Tryz.f185) Tryz.func185 (by kernel_rfl) (by kernel_rfl) (by kernel_rfl) (by kernel_rfl)
def ol0:List (Nat×(List AV->St->Option (AV×St))):=[(327,KE),(185,Pv)]
theorem aak:∀x∈ol0,lW Tryz.prog C x.1 x.2:=λx hx=>by
 simp only[ol0,Za5,Zd2,Zh6]at hx;rcases hx with rfl|rfl
 .exact UM
 .exact adY
def XY(l:List (Nat×(List AV->St->Option (AV×St))))(kp:List Nat)(gf:Nat)(kK fn:Func):List AV->St->Option (AV×St):=Y8 Tryz.prog tt (yf l) gg 100000 60 kp gf kK fn
theorem KF{l:List (Nat×(List AV->St->Option (AV×St)))}(hl:∀x∈l,lW Tryz.prog C x.1 x.2){f gf:Nat}{kp:List Nat}{fn kK:Func}(hf:Tryz.prog.funcs[f]? =some fn)(ia:(fn.name== "runtime.NumGoroutine")=false)
  (hgf:Tryz.prog.funcs[gf]? =some kK) (UP:(kK.name== "runtime.NumGoroutine")=false):lW Tryz.prog C f (XY l kp gf kK fn):=by
 have ho:=v7 hl;exact abK mix Po ho.1 ho.2 Pp hf ia hgf UP
def ol1:List (Nat×(List AV->St->Option (AV×St))):=(127,XY ol0 [] 243 Tryz.f243 Tryz.f127)::ol0
theorem Px:∀x∈ol1,lW Tryz.prog C x.1 x.2:=λx hx=>by
 rcases Za5.1 hx with rfl|hx
 .exact KF aak Tryz.func127 (by kernel_rfl) Tryz.func243 (by kernel_rfl)
 .exact aak x hx
end
def XZ:AV:= .agg [.fl [[.str [115,117,110],.int .u8 1,.int .i64 4,.int .i64 0,.aq,.int .i64 0,.int .i64 0],[.str [98,97,114],.int .u8 4,.int .i64 2,.int .i64 0,.aq,.int .i64 0,.int .i64 0]] 7,
 .fl [[.str [97,110,110],.str [],.str [],.int .i64 0,.int .i64 0,.str [],.bool false,.bool false,.aq],[.str [98,111,98],.str [],.str [],.int .i64 0,.int .i64 0,.str [],.bool false,.bool false,.aq],[.str [99,105,100],.str [],.str [],.int .i64 0,.int .i64 0,.str [],.bool false,.bool false,.aq]] 9,.aq,.aq,.aq]
def exL:AV:= .fl [[.int .i64 2],[.int .i64 0],[.int .i64 5]] 1
abbrev OL:=List (Nat×(List AV->St->Option (AV×St)))
def olS:OL:=(83,XY ol1 [] 124 Tryz.f124 Tryz.f83)::ol1
def UQ(l:OL)(f:Nat)(A:List AV)(r:AV):Bool:=EN (R:=Bool) false (yf l) gg 100000 60 f A { heap:= .e,next:= .h } λv _=>fC v r
theorem UR{l:OL}(hl:∀(C:Cells),∀x∈l,lW Tryz.prog C x.1 x.2){f:Nat}{A rs:List AV}(ha:A.all (GK 4)=true)(hr:rs.all vQ=true)(h:UQ l f A (.tuple rs)=true)(C:Cells):lW Tryz.prog C f (Ou 4 A (.tuple rs)):=
 aal (λC=>HW mix Po (v7 (hl C)).1 (v7 (hl C)).2 Pp 100000 60) (Plain.all ha) (.tuple λv hv=>by
  have:=Zd6.1 hr v hv;cases v<;>first|(cases this;done)|exact .bool _|exact .int _ _) (aam hr) h
theorem aeY(C:Cells):∀x∈olS,lW Tryz.prog C x.1 x.2:=λx hx=>by
 rcases Za5.1 hx with rfl|hx
 .exact KF Px Tryz.func83 (by kernel_rfl) Tryz.func124 (by kernel_rfl)
 .exact Px x hx
theorem abL:UQ olS 83 [XZ] (.tuple [.int .i64 16,.bool true])=true:=by kernel_rfl
def ol2:OL:=(83,Ou 4 [XZ] (.tuple [.int .i64 16,.bool true]))::(82,XY ol1 [] 124 Tryz.f124 Tryz.f82)::ol1
theorem Py(C:Cells):∀x∈ol2,lW Tryz.prog C x.1 x.2:=λx hx=>by
 rcases Za5.1 hx with rfl|hx
 .exact UR aeY rfl rfl abL C
 rcases Za5.1 hx with rfl|hx
 .exact KF Px Tryz.func82 (by kernel_rfl) Tryz.func124 (by kernel_rfl)
 .exact Px x hx
def olC:OL:=(51,XY ol2 [21] 124 Tryz.f124 Tryz.f51)::(36,XY ol2 [] 124 Tryz.f124 Tryz.f36)::ol2
theorem aan(C:Cells):∀x∈olC,lW Tryz.prog C x.1 x.2:=λx hx=>by
 rcases Za5.1 hx with rfl|hx
 .exact KF (Py C) Tryz.func51 (by kernel_rfl) Tryz.func124 (by kernel_rfl)
 rcases Za5.1 hx with rfl|hx
 .exact KF (Py C) Tryz.func36 (by kernel_rfl) Tryz.func124 (by kernel_rfl)
 .exact Py C x hx
theorem aao:UQ olC 51 [XZ] (.tuple [.int .i64 120,.int .i64 12,.int .i64 0])=true:=by kernel_rfl
theorem aap:UQ olC 36 [XZ,exL] (.tuple [.int .i64 2,.int .i64 0])=true:=by kernel_rfl
def ol3:OL:=(51,Ou 4 [XZ] (.tuple [.int .i64 120,.int .i64 12,.int .i64 0]))::(36,Ou 4 [XZ,exL] (.tuple [.int .i64 2,.int .i64 0]))::ol2
theorem aeZ(C:Cells):∀x∈ol3,lW Tryz.prog C x.1 x.2:=λx hx=>by
 rcases Za5.1 hx with rfl|hx
 .exact UR aan rfl rfl aao C
 rcases Za5.1 hx with rfl|hx
 .exact UR aan rfl rfl aap C
 .exact Py C x hx
theorem aaq:UQ ol3 12 [] (.bool true)=true:=by kernel_rfl
theorem aah(w:World):Calls Tryz.prog 12 #[] w λe w'=>e= .returned (.bool true)/\Below w.heap.size w w':=by have ho:=v7 (aeZ λ_=>none);exact US mix Po Pp ho.1 ho.2 (fn:=Tryz.f12) (c:=Tryz.f12.body.get rfl) Tryz.func12 (by decide) rfl aaq w
end
end Go.Proofs.YtlkadmkojjceiaaGreatDoor
