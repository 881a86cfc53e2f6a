/- awake of the chapter. -/
import Derived.Test.YtoeleelojgimfaaGreatDoorProg
import Derived.Test.YtoeleelojgimfaaGreatDoorWEvalF
set_option linter.all false
set_option maxRecDepth 100000
namespace Go.Proofs.YtoeleelojgimfaaGreatDoor
noncomputable section
open Go Go.Ai Go.Proofs
def tt:T TI:=ttOf Go.Proofs.Tryz.prog [7,8,25,26,33,34,42,43,62,63,66,67,71,72,99,100,103,104,115,116,129,130,138,139,164,165,166,170,171,214,215,216,217]
def gg:T cj:=ggOf Go.Proofs.Tryz.prog tt
theorem acF:zA Go.Proofs.Tryz.prog (λp=>p) tt=true:=by kernel_rfl
theorem KR:bH Go.Proofs.Tryz.prog tt:=abG acF
theorem KS:KV Go.Proofs.Tryz.prog tt gg:=abH (by kernel_rfl)
end
noncomputable section
set_option maxRecDepth 1000000
open Go Go.Ai Go.Proofs Go.RowKit
section
variable{C:Cells}
theorem mix:Tryz.prog.follows .mixedOrders=true:=by kernel_rfl
theorem Ql:lQ Tryz.prog C 238 Gf:=Zp (fn:=Tryz.f238) Tryz.func238 (by kernel_rfl) (by kernel_rfl) (by kernel_rfl) (by kernel_rfl)
theorem abI:lQ Tryz.prog C 106 KW:=Wo (fn:=Tryz.f106) Tryz.func106 (by kernel_rfl) (by kernel_rfl) (by kernel_rfl) (by kernel_rfl)
def ol0:List (Nat×(List AV->St->Option (AV×St))):=[(238,Gf),(106,KW)]
theorem Wp:∀x∈ol0,lQ Tryz.prog C x.1 x.2:=λx hx=>by
 simp only[ol0,Za9,Ze4,Zj0]at hx;rcases hx with rfl|rfl
 .exact Ql
 .exact abI
def TG(l:List (Nat×(List AV->St->Option (AV×St))))(kp:List Nat)(gf:Nat)(kD fn:Func):List AV->St->Option (AV×St):=UX Tryz.prog tt (uu l) gg 100000 60 kp gf kD fn
theorem Gg{l:List (Nat×(List AV->St->Option (AV×St)))}(hl:∀x∈l,lQ Tryz.prog C x.1 x.2){f gf:Nat}{kp:List Nat}{fn kD:Func}(hf:Tryz.prog.funcs[f]? =some fn)(iH:(fn.name== "runtime.NumGoroutine")=false)
  (hgf:Tryz.prog.funcs[gf]? =some kD) (Qo:(kD.name== "runtime.NumGoroutine")=false):lQ Tryz.prog C f (TG l kp gf kD fn):=by
 have ho:=td hl;exact Zq mix KR ho.1 ho.2 KS hf iH hgf Qo
def Wq:List (Nat×(List AV->St->Option (AV×St))):=(104,TG ol0 [] 182 Tryz.f182 Tryz.f104)::ol0
theorem KY:∀x∈Wq,lQ Tryz.prog C x.1 x.2:=λx hx=>by
 rcases Za9.1 hx with rfl|hx
 .exact Gg Wp Tryz.func104 (by kernel_rfl) Tryz.func182 (by kernel_rfl)
 .exact Wp x hx
end
def TH:AV:= .agg [.fl [[.str [115,117,110],.int .u8 1,.int .i64 4,.int .i64 0,.ah,.int .i64 0,.int .i64 0],[.str [98,97,114],.int .u8 4,.int .i64 2,.int .i64 0,.ah,.int .i64 0,.int .i64 0]] 7,
 .fl [[.str [97,110,110],.str [],.str [],.int .i64 0,.int .i64 0,.str [],.bool false,.bool false,.ah],[.str [98,111,98],.str [],.str [],.int .i64 0,.int .i64 0,.str [],.bool false,.bool false,.ah],[.str [99,105,100],.str [],.str [],.int .i64 0,.int .i64 0,.str [],.bool false,.bool false,.ah]] 9,.ah,.ah,.ah]
def exL:AV:= .fl [[.int .i64 2],[.int .i64 0],[.int .i64 5]] 1
abbrev OL:=List (Nat×(List AV->St->Option (AV×St)))
def olS:OL:=(51,TG Wq [] 70 Tryz.f70 Tryz.f51)::Wq
def Qp(l:OL)(f:Nat)(A:List AV)(r:AV):Bool:=Bj (R:=Bool) false (uu l) gg 100000 60 f A { heap:= .e,next:= .h } λv _=>eH v r
theorem Qq{l:OL}(hl:∀(C:Cells),∀x∈l,lQ Tryz.prog C x.1 x.2){f:Nat}{A rs:List AV}(ha:A.all (CL 4)=true)(hr:rs.all sS=true)(h:Qp l f A (.tuple rs)=true)(C:Cells):lQ Tryz.prog C f (JU 4 A (.tuple rs)):=
 Wr (λC=>DF mix KR (td (hl C)).1 (td (hl C)).2 KS 100000 60) (Plain.all ha) (.tuple λv hv=>by
  have:=Zd0.1 hr v hv;cases v<;>first|(cases this;done)|exact .bool _|exact .int _ _) (Ws hr) h
theorem acG(C:Cells):∀x∈olS,lQ Tryz.prog C x.1 x.2:=λx hx=>by
 rcases Za9.1 hx with rfl|hx
 .exact Gg KY Tryz.func51 (by kernel_rfl) Tryz.func70 (by kernel_rfl)
 .exact KY x hx
theorem Zr:Qp olS 51 [TH] (.tuple [.int .i64 16,.bool true])=true:=by kernel_rfl
def Wt:OL:=(51,JU 4 [TH] (.tuple [.int .i64 16,.bool true]))::(54,TG Wq [] 70 Tryz.f70 Tryz.f54)::Wq
theorem KZ(C:Cells):∀x∈Wt,lQ Tryz.prog C x.1 x.2:=λx hx=>by
 rcases Za9.1 hx with rfl|hx
 .exact Qq acG rfl rfl Zr C
 rcases Za9.1 hx with rfl|hx
 .exact Gg KY Tryz.func54 (by kernel_rfl) Tryz.func70 (by kernel_rfl)
 .exact KY x hx
def olC:OL:=(33,TG Wt [21] 70 Tryz.f70 Tryz.f33)::(56,TG Wt [] 70 Tryz.f70 Tryz.f56)::Wt
theorem Wu(C:Cells):∀x∈olC,lQ Tryz.prog C x.1 x.2:=λx hx=>by
 rcases Za9.1 hx with rfl|hx
 .exact Gg (KZ C) Tryz.func33 (by kernel_rfl) Tryz.func70 (by kernel_rfl)
 rcases Za9.1 hx with rfl|hx
 .exact Gg (KZ C) Tryz.func56 (by kernel_rfl) Tryz.func70 (by kernel_rfl)
 .exact KZ C x hx
theorem Wv:Qp olC 33 [TH] (.tuple [.int .i64 120,.int .i64 12,.int .i64 0])=true:=by kernel_rfl
theorem Ww:Qp olC 56 [TH,exL] (.tuple [.int .i64 2,.int .i64 0])=true:=by kernel_rfl
def ol3:OL:=(33,JU 4 [TH] (.tuple [.int .i64 120,.int .i64 12,.int .i64 0]))::(56,JU 4 [TH,exL] (.tuple [.int .i64 2,.int .i64 0]))::Wt
theorem acH(C:Cells):∀x∈ol3,lQ Tryz.prog C x.1 x.2:=λx hx=>by
 rcases Za9.1 hx with rfl|hx
 .exact Qq Wu rfl rfl Wv C
 rcases Za9.1 hx with rfl|hx
 .exact Qq Wu rfl rfl Ww C
 .exact KZ C x hx
theorem Wx:Qp ol3 15 [] (.bool true)=true:=by kernel_rfl
theorem Wl(w:World):Calls Tryz.prog 15 #[] w λe w'=>e= .returned (.bool true)/\Below w.heap.size w w':=by have ho:=td (acH λ_=>none);exact Qr mix KR KS ho.1 ho.2 (fn:=Tryz.f15) (c:=Tryz.f15.body.get rfl) Tryz.func15 (by decide) rfl Wx w
end
end Go.Proofs.YtoeleelojgimfaaGreatDoor
