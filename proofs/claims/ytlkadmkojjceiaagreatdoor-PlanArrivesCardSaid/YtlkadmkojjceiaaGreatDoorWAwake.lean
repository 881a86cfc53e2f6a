/- awake of the chapter. -/
import Derived.Test.YtlkadmkojjceiaaGreatDoorProg
import Derived.Test.YtlkadmkojjceiaaGreatDoorWEvalF
set_option linter.all false
set_option maxRecDepth 100000
namespace Go.Proofs.YtlkadmkojjceiaaGreatDoor
noncomputable section
open Go Go.Ai Go.Proofs
def tt:T TI:=ttOf Go.Proofs.Tryz.prog [7,8,27,28,38,39,47,48,98,99,102,103,106,107,127,128,136,137,156,157,162,163,190,191,211,212,223,224,225,229,230,279,280,281,282]
def gg:T cE:=ggOf Go.Proofs.Tryz.prog tt
theorem aed:A7 Go.Proofs.Tryz.prog (λp=>p) tt=true:=by kernel_rfl
theorem MQ:bM Go.Proofs.Tryz.prog tt:=adk aed
theorem MR:MU Go.Proofs.Tryz.prog tt gg:=adl (by kernel_rfl)
end
noncomputable section
set_option maxRecDepth 1000000
open Go Go.Ai Go.Proofs Go.RowKit
section
variable{C:Cells}
theorem mix:Tryz.prog.follows .mixedOrders=true:=by kernel_rfl
theorem Sq:mE Tryz.prog C 327 Ih:=aa2 (fn:=Tryz.f327) Tryz.func327 (by kernel_rfl) (by kernel_rfl) (by kernel_rfl) (by kernel_rfl)
theorem adm:mE Tryz.prog C 185 MV:=YY (fn:=Tryz.f185) Tryz.func185 (by kernel_rfl) (by kernel_rfl) (by kernel_rfl) (by kernel_rfl)
def ol0:List (Nat×(List AV->St->Option (AV×St))):=[(327,Ih),(185,MV)]
theorem YZ:∀x∈ol0,mE Tryz.prog C x.1 x.2:=λx hx=>by
 simp only[ol0,Zb0,Ze6,Zi9]at hx;rcases hx with rfl|rfl
 .exact Sq
 .exact adm
def VP(l:List (Nat×(List AV->St->Option (AV×St))))(kp:List Nat)(gf:Nat)(lA fn:Func):List AV->St->Option (AV×St):=Xk Tryz.prog tt (vN l) gg 100000 60 kp gf lA fn
theorem Ii{l:List (Nat×(List AV->St->Option (AV×St)))}(hl:∀x∈l,mE Tryz.prog C x.1 x.2){f gf:Nat}{kp:List Nat}{fn lA:Func}(hf:Tryz.prog.funcs[f]? =some fn)(ji:(fn.name== "runtime.NumGoroutine")=false)
  (hgf:Tryz.prog.funcs[gf]? =some lA) (Ss:(lA.name== "runtime.NumGoroutine")=false):mE Tryz.prog C f (VP l kp gf lA fn):=by
 have ho:=uF hl;exact aa3 mix MQ ho.1 ho.2 MR hf ji hgf Ss
def Y0:List (Nat×(List AV->St->Option (AV×St))):=(127,VP ol0 [] 243 Tryz.f243 Tryz.f127)::ol0
theorem MW:∀x∈Y0,mE Tryz.prog C x.1 x.2:=λx hx=>by
 rcases Zb0.1 hx with rfl|hx
 .exact Ii YZ Tryz.func127 (by kernel_rfl) Tryz.func243 (by kernel_rfl)
 .exact YZ x hx
end
def VQ:AV:= .agg [.fl [[.str [115,117,110],.int .u8 1,.int .i64 4,.int .i64 0,.ah,.int .i64 0,.int .i64 0],[.str [98,97,114],.int .u8 4,.int .i64 2,.int .i64 0,.ah,.int .i64 0,.int .i64 0]] 7,
 .fl [[.str [97,110,110],.str [],.str [],.int .i64 0,.int .i64 0,.str [],.bool false,.bool false,.ah],[.str [98,111,98],.str [],.str [],.int .i64 0,.int .i64 0,.str [],.bool false,.bool false,.ah],[.str [99,105,100],.str [],.str [],.int .i64 0,.int .i64 0,.str [],.bool false,.bool false,.ah]] 9,.ah,.ah,.ah]
def exL:AV:= .fl [[.int .i64 2],[.int .i64 0],[.int .i64 5]] 1
abbrev OL:=List (Nat×(List AV->St->Option (AV×St)))
def olS:OL:=(83,VP Y0 [] 124 Tryz.f124 Tryz.f83)::Y0
def Su(l:OL)(f:Nat)(A:List AV)(r:AV):Bool:=CL (R:=Bool) false (vN l) gg 100000 60 f A { heap:= .e,next:= .h } λv _=>e9 v r
theorem Sv{l:OL}(hl:∀(C:Cells),∀x∈l,mE Tryz.prog C x.1 x.2){f:Nat}{A rs:List AV}(ha:A.all (Ed 4)=true)(hr:rs.all uA=true)(h:Su l f A (.tuple rs)=true)(C:Cells):mE Tryz.prog C f (LH 4 A (.tuple rs)):=
 Y3 (λC=>Fp mix MQ (uF (hl C)).1 (uF (hl C)).2 MR 100000 60) (Plain.all ha) (.tuple λv hv=>by
  have:=Zd1.1 hr v hv;cases v<;>first|(cases this;done)|exact .bool _|exact .int _ _) (Y4 hr) h
theorem aee(C:Cells):∀x∈olS,mE Tryz.prog C x.1 x.2:=λx hx=>by
 rcases Zb0.1 hx with rfl|hx
 .exact Ii MW Tryz.func83 (by kernel_rfl) Tryz.func124 (by kernel_rfl)
 .exact MW x hx
theorem aa4:Su olS 83 [VQ] (.tuple [.int .i64 16,.bool true])=true:=by kernel_rfl
def Y5:OL:=(83,LH 4 [VQ] (.tuple [.int .i64 16,.bool true]))::(82,VP Y0 [] 124 Tryz.f124 Tryz.f82)::Y0
theorem MX(C:Cells):∀x∈Y5,mE Tryz.prog C x.1 x.2:=λx hx=>by
 rcases Zb0.1 hx with rfl|hx
 .exact Sv aee rfl rfl aa4 C
 rcases Zb0.1 hx with rfl|hx
 .exact Ii MW Tryz.func82 (by kernel_rfl) Tryz.func124 (by kernel_rfl)
 .exact MW x hx
def olC:OL:=(51,VP Y5 [21] 124 Tryz.f124 Tryz.f51)::(36,VP Y5 [] 124 Tryz.f124 Tryz.f36)::Y5
theorem Y6(C:Cells):∀x∈olC,mE Tryz.prog C x.1 x.2:=λx hx=>by
 rcases Zb0.1 hx with rfl|hx
 .exact Ii (MX C) Tryz.func51 (by kernel_rfl) Tryz.func124 (by kernel_rfl)
 rcases Zb0.1 hx with rfl|hx
 .exact Ii (MX C) Tryz.func36 (by kernel_rfl) Tryz.func124 (by kernel_rfl)
 .exact MX C x hx
theorem Y7:Su olC 51 [VQ] (.tuple [.int .i64 120,.int .i64 12,.int .i64 0])=true:=by kernel_rfl
theorem Y8:Su olC 36 [VQ,exL] (.tuple [.int .i64 2,.int .i64 0])=true:=by kernel_rfl
def ol3:OL:=(51,LH 4 [VQ] (.tuple [.int .i64 120,.int .i64 12,.int .i64 0]))::(36,LH 4 [VQ,exL] (.tuple [.int .i64 2,.int .i64 0]))::Y5
theorem aef(C:Cells):∀x∈ol3,mE Tryz.prog C x.1 x.2:=λx hx=>by
 rcases Zb0.1 hx with rfl|hx
 .exact Sv Y6 rfl rfl Y7 C
 rcases Zb0.1 hx with rfl|hx
 .exact Sv Y6 rfl rfl Y8 C
 .exact MX C x hx
theorem Y9:Su ol3 12 [] (.bool true)=true:=by kernel_rfl
theorem YV(w:World):Calls Tryz.prog 12 #[] w λe w'=>e= .returned (.bool true)/\Below w.heap.size w w':=by have ho:=uF (aef λ_=>none);exact Sw mix MQ MR ho.1 ho.2 (fn:=Tryz.f12) (c:=Tryz.f12.body.get rfl) Tryz.func12 (by decide) rfl Y9 w
end
end Go.Proofs.YtlkadmkojjceiaaGreatDoor
