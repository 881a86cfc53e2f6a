/- awake of the chapter. -/
import Derived.Test.YtlkadmkojjceiaaGreatDoorProg
import Derived.Test.YtlkadmkojjceiaaGreatDoorTEvalF
set_option linter.all false
set_option maxRecDepth 100000
namespace Go.Proofs.YtlkadmkojjceiaaGreatDoor
noncomputable section
open Go Go.Ai Go.Proofs
def tt:T TI:=ttOf Go.Proofs.Tryz.prog [7,8,27,28,38,39,47,48,98,99,102,103,106,107,127,128,136,137,156,157,162,163,190,191,211,212,223,224,225,229,230,279,280,281,282]
def gg:T cq:=ggOf Go.Proofs.Tryz.prog tt
theorem adw:AZ Go.Proofs.Tryz.prog (λp=>p) tt=true:=by kernel_rfl
theorem Ng:bG Go.Proofs.Tryz.prog tt:=acw adw
theorem Nh:Nk Go.Proofs.Tryz.prog tt gg:=acy (by kernel_rfl)
end
noncomputable section
set_option maxRecDepth 1000000
open Go Go.Ai Go.Proofs Go.RowKit
section
variable{C:Cells}
theorem mix:Tryz.prog.follows .mixedOrders=true:=by kernel_rfl
theorem Sq:kK Tryz.prog C 327 IX:=aap (fn:=Tryz.f327) Tryz.func327 (by kernel_rfl) (by kernel_rfl) (by kernel_rfl) (by kernel_rfl)
theorem acz:kK Tryz.prog C 185 Nl:=Yk (fn:=Tryz.f185) Tryz.func185 (by kernel_rfl) (by kernel_rfl) (by kernel_rfl) (by kernel_rfl)
def ol0:List (Nat×(List AV->St->Option (AV×St))):=[(327,IX),(185,Nl)]
theorem Yl:∀x∈ol0,kK Tryz.prog C x.1 x.2:=λx hx=>by
 simp only[ol0,Za2,Zd0,Zh2]at hx;rcases hx with rfl|rfl
 .exact Sq
 .exact acz
def VS(l:List (Nat×(List AV->St->Option (AV×St))))(kp:List Nat)(gf:Nat)(jW fn:Func):List AV->St->Option (AV×St):=W8 Tryz.prog tt (wo l) gg 100000 60 kp gf jW fn
theorem IY{l:List (Nat×(List AV->St->Option (AV×St)))}(hl:∀x∈l,kK Tryz.prog C x.1 x.2){f gf:Nat}{kp:List Nat}{fn jW:Func}(hf:Tryz.prog.funcs[f]? =some fn)(gH:(fn.name== "runtime.NumGoroutine")=false)
  (hgf:Tryz.prog.funcs[gf]? =some jW) (Sv:(jW.name== "runtime.NumGoroutine")=false):kK Tryz.prog C f (VS l kp gf jW fn):=by
 have ho:=uH hl;exact aaq mix Ng ho.1 ho.2 Nh hf gH hgf Sv
def Ym:List (Nat×(List AV->St->Option (AV×St))):=(127,VS ol0 [] 243 Tryz.f243 Tryz.f127)::ol0
theorem Nm:∀x∈Ym,kK Tryz.prog C x.1 x.2:=λx hx=>by
 rcases Za2.1 hx with rfl|hx
 .exact IY Yl Tryz.func127 (by kernel_rfl) Tryz.func243 (by kernel_rfl)
 .exact Yl x hx
end
def VT:AV:= .agg [.fl [[.str [115,117,110],.int .u8 1,.int .i64 4,.int .i64 0,.ax,.int .i64 0,.int .i64 0],[.str [98,97,114],.int .u8 4,.int .i64 2,.int .i64 0,.ax,.int .i64 0,.int .i64 0]] 7,
 .fl [[.str [97,110,110],.str [],.str [],.int .i64 0,.int .i64 0,.str [],.bool false,.bool false,.ax],[.str [98,111,98],.str [],.str [],.int .i64 0,.int .i64 0,.str [],.bool false,.bool false,.ax],[.str [99,105,100],.str [],.str [],.int .i64 0,.int .i64 0,.str [],.bool false,.bool false,.ax]] 9,.ax,.ax,.ax]
def exL:AV:= .fl [[.int .i64 2],[.int .i64 0],[.int .i64 5]] 1
abbrev OL:=List (Nat×(List AV->St->Option (AV×St)))
def olS:OL:=(83,VS Ym [] 124 Tryz.f124 Tryz.f83)::Ym
def Sw(l:OL)(f:Nat)(A:List AV)(r:AV):Bool:=C9 (R:=Bool) false (wo l) gg 100000 60 f A { heap:= .e,next:= .h } λv _=>fB v r
theorem Sx{l:OL}(hl:∀(C:Cells),∀x∈l,kK Tryz.prog C x.1 x.2){f:Nat}{A rs:List AV}(ha:A.all (EG 4)=true)(hr:rs.all ux=true)(h:Sw l f A (.tuple rs)=true)(C:Cells):kK Tryz.prog C f (Mn 4 A (.tuple rs)):=
 Yn (λC=>FZ mix Ng (uH (hl C)).1 (uH (hl C)).2 Nh 100000 60) (Plain.all ha) (.tuple λv hv=>by
  have:=Zd6.1 hr v hv;cases v<;>first|(cases this;done)|exact .bool _|exact .int _ _) (Yo hr) h
theorem adx(C:Cells):∀x∈olS,kK Tryz.prog C x.1 x.2:=λx hx=>by
 rcases Za2.1 hx with rfl|hx
 .exact IY Nm Tryz.func83 (by kernel_rfl) Tryz.func124 (by kernel_rfl)
 .exact Nm x hx
theorem aar:Sw olS 83 [VT] (.tuple [.int .i64 16,.bool true])=true:=by kernel_rfl
def Yp:OL:=(83,Mn 4 [VT] (.tuple [.int .i64 16,.bool true]))::(82,VS Ym [] 124 Tryz.f124 Tryz.f82)::Ym
theorem Nn(C:Cells):∀x∈Yp,kK Tryz.prog C x.1 x.2:=λx hx=>by
 rcases Za2.1 hx with rfl|hx
 .exact Sx adx rfl rfl aar C
 rcases Za2.1 hx with rfl|hx
 .exact IY Nm Tryz.func82 (by kernel_rfl) Tryz.func124 (by kernel_rfl)
 .exact Nm x hx
def olC:OL:=(51,VS Yp [21] 124 Tryz.f124 Tryz.f51)::(36,VS Yp [] 124 Tryz.f124 Tryz.f36)::Yp
theorem Yq(C:Cells):∀x∈olC,kK Tryz.prog C x.1 x.2:=λx hx=>by
 rcases Za2.1 hx with rfl|hx
 .exact IY (Nn C) Tryz.func51 (by kernel_rfl) Tryz.func124 (by kernel_rfl)
 rcases Za2.1 hx with rfl|hx
 .exact IY (Nn C) Tryz.func36 (by kernel_rfl) Tryz.func124 (by kernel_rfl)
 .exact Nn C x hx
theorem Yr:Sw olC 51 [VT] (.tuple [.int .i64 120,.int .i64 12,.int .i64 0])=true:=by kernel_rfl
theorem Ys:Sw olC 36 [VT,exL] (.tuple [.int .i64 2,.int .i64 0])=true:=by kernel_rfl
def ol3:OL:=(51,Mn 4 [VT] (.tuple [.int .i64 120,.int .i64 12,.int .i64 0]))::(36,Mn 4 [VT,exL] (.tuple [.int .i64 2,.int .i64 0]))::Yp
theorem ady(C:Cells):∀x∈ol3,kK Tryz.prog C x.1 x.2:=λx hx=>by
 rcases Za2.1 hx with rfl|hx
 .exact Sx Yq rfl rfl Yr C
 rcases Za2.1 hx with rfl|hx
 .exact Sx Yq rfl rfl Ys C
 .exact Nn C x hx
theorem Yt:Sw ol3 12 [] (.bool true)=true:=by kernel_rfl
theorem Yh(w:World):Calls Tryz.prog 12 #[] w λe w'=>e= .returned (.bool true)/\Below w.heap.size w w':=by have ho:=uH (ady λ_=>none);exact Sy mix Ng Nh ho.1 ho.2 (fn:=Tryz.f12) (c:=Tryz.f12.body.get rfl) Tryz.func12 (by decide) rfl Yt w
end
end Go.Proofs.YtlkadmkojjceiaaGreatDoor
