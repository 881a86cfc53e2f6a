/- Functions of the program, plainly, and what they answer. -/
import Derived.Test.YtlkadmkojjceiaaGreatDoorTLawA
import Derived.Test.YtlkadmkojjceiaaGreatDoorRows
set_option linter.all false
set_option maxRecDepth 100000
set_option maxHeartbeats 4000000
namespace Go.Proofs.YtlkadmkojjceiaaGreatDoor
section
open Go Go.Ai Go.Proofs
variable{c:ah}
theorem stW{R:Type}(hc:Sem c){p:aO}{r:Rl}{q2 q3:Pos}{s:St}{n:Nat}(hw:Wf s)(hn:n<256)(hk:r.k=(n:Int))(hp:p.fN)(p2:s.heap.get q2=some (.cells p.cells 0))(p3:s.heap.get q3=some (.cells r.cells 0))(K:AV->AV->St->Option R):
  (ai c (.fieldA 0) [(.ptr q3 0)] s λx9 s3=>
   ai c (.load none) [x9] s3 λAj s4=>
   ai c .move [Aj] s4 λx5 s5=>
   ai c .move [x5] s5 λvE s6=>
   ai c (.callF 138) [vE] s6 λOM s7=>
   ai c (.bin .eql .num) [OM,(.str [])] s7 λON s8=>
   K x5 ON s8)=K (.int .u8 (n:Int)) (.bool (decide ((kd n).w=[]))) s:=by
 have W:=ac4 hc n hn s hw;simp[p3,hk,W]
theorem stWt{R:Type}(hc:Sem c){p:aO}{r:Rl}{q2 q3:Pos}{s:St}{n:Nat}(hw:Wf s)(hn:n<256)(hk:r.k=(n:Int))(hp:p.fN)(p2:s.heap.get q2=some (.cells p.cells 0))(p3:s.heap.get q3=some (.cells r.cells 0))(K:AV->St->Option R):
   (ai c (.fieldA 1) [(.ptr q3 0)] s λRj s10=>
    ai c (.load none) [Rj] s10 λx15 s11=>
    ai c (.bin .lss .num) [x15,(.int .i64 0)] s11 λx16 s12=>
    ai c .move [x16] s12 λx17 s13=>
    bl c x17 false (.fieldA 1) [(.ptr q3 0)] s13 λFD s14=>
    bl c x17 false (.load none) [FD] s14 λx19 s15=>
    bl c x17 false (.bin .gtr .num) [x19,(.int .i64 1000)] s15 λx20 FE=>
    ai c .pick [x17,(.bool true),x20] FE λx21 FF=>
    K x21 FF)=K (.bool (decide (r.wt<0\/1000<r.wt))) s:=by
 by_cases h1:r.wt<0
 .simp[p3,h1]
 .simp[p3,h1]
theorem stP1{R:Type}(hc:Sem c){p:aO}{r:Rl}{q2 q3:Pos}{s:St}{n:Nat}(hw:Wf s)(hn:n<256)(hk:r.k=(n:Int))(hp:p.fN)(p2:s.heap.get q2=some (.cells p.cells 0))(p3:s.heap.get q3=some (.cells r.cells 0))(K:AV->St->Option R):
   (ai c (.fieldA 2) [(.ptr q3 0)] s λx22 FG=>
    ai c (.load none) [x22] FG λx23 FH=>
    ai c (.bin .neq .num) [x23,(.str [])] FH λx24 s21=>
    ai c .move [x24] s21 λx25 s22=>
    bl c x25 true .move [(.int .u8 (n:Int))] s22 λx26 s23=>
    bl c x25 true (.callF 139) [x26] s23 λx27 s24=>
    bl c x25 true (.un .not) [x27] s24 λx28 s25=>
    ai c .pick [x25,x28,(.bool false)] s25 λZQ s26=>
    ai c .move [ZQ] s26 λMb s27=>
    bl c Mb true .move [(.int .u8 (n:Int))] s27 λZS s28=>
    bl c Mb true (.callF 140) [ZS] s28 λZT s29=>
    bl c Mb true (.un .not) [ZT] s29 λx33 ZO=>
    ai c .pick [Mb,x33,(.bool false)] ZO λx34 ZP=>
    ai c .move [x34] ZP λx35 ZR=>
    bl c x35 true .move [(.int .u8 (n:Int))] ZR λx36 Uo=>
    bl c x35 true (.bin .neq .num) [x36,(.int .u8 17)] Uo λx37 Up=>
    ai c .pick [x35,x37,(.bool false)] Up λx38 Uq=>
    K x38 Uq)=K (.bool (decide (r.a≠[])&& !jB n&& !tB n&&decide (n≠17))) s:=by
 have T1:=FC hc (n:Int) s;have T2:=ZZ hc (n:Int) s;by_cases h:r.a=[]
 .simp[p3,h]
 . cases h1:jB (n:Int)with
   |true=>simp[p3,h,T1,h1]
   |false=>
    cases h2:tB (n:Int)with
    |true=>simp[p3,h,T1,T2,h1,h2]
    |   false=>
        have e:decide ((n:Int)=17)=decide (n=17):=(by by_cases hh:n=17<;>simp[hh];omega);simp[p3,h,T1,T2,h1,h2,e]
theorem stP2{R:Type}(hc:Sem c){p:aO}{r:Rl}{q2 q3:Pos}{s:St}{n:Nat}(hw:Wf s)(hn:n<256)(hk:r.k=(n:Int))(hp:p.fN)(p2:s.heap.get q2=some (.cells p.cells 0))(p3:s.heap.get q3=some (.cells r.cells 0))(b:Bool)(K:AV->St->Option R):
  (ai c .move [(.bool b)] s λWR s36=>
    bl c WR false (.fieldA 3) [(.ptr q3 0)] s36 λx40 s37=>
    bl c WR false (.load none) [x40] s37 λx41 s38=>
    bl c WR false (.bin .neq .num) [x41,(.str [])] s38 λx42 s39=>
    bl c WR false .move [x42] s39 λx43 s40=>
    bl c x43 true .move [(.int .u8 (n:Int))] s40 λx44 s41=>
    bl c x43 true (.callF 139) [x44] s41 λx45 s42=>
    bl c x43 true (.un .not) [x45] s42 λx46 s43=>
    bl c WR false .pick [x43,x46,(.bool false)] s43 λx47 s44=>
    ai c .pick [WR,(.bool true),x47] s44 λx48 s45=>
    K x48 s45)=K (.bool (b||(decide (r.b≠[])&& !jB n))) s:=by
 have T1:=FC hc (n:Int) s;cases b with
 |true=>simp
 |false=>
  by_cases h:r.b=[]
  .simp[p3,h]
  .simp[p3,h,T1]
theorem stP3{R:Type}(hc:Sem c){p:aO}{r:Rl}{q2 q3:Pos}{s:St}{n:Nat}(hw:Wf s)(hn:n<256)(hk:r.k=(n:Int))(hp:p.fN)(p2:s.heap.get q2=some (.cells p.cells 0))(p3:s.heap.get q3=some (.cells r.cells 0))(b:Bool)(K:AV->St->Option R):
  (ai c .move [(.bool b)] s λWS s46=>
    bl c WS false (.fieldA 4) [(.ptr q3 0)] s46 λx50 s47=>
    bl c WS false (.load none) [x50] s47 λx51 s48=>
    bl c WS false (.bin .neq .num) [x51,(.str [])] s48 λOO s49=>
    bl c WS false .move [OO] s49 λIw s50=>
    bl c Iw true .move [(.int .u8 (n:Int))] s50 λRk s51=>
    bl c Iw true (.callF 141) [Rk] s51 λx55 s52=>
    bl c Iw true (.bin .eql .num) [x55,(.int .i64 0)] s52 λx56 s53=>
    bl c WS false .pick [Iw,x56,(.bool false)] s53 λx57 s54=>
    ai c .pick [WS,(.bool true),x57] s54 λx58 s55=>
    K x58 s55)=K (.bool (b||(decide (r.t≠[])&&decide (oK n=0)))) s:=by
 have T1:=Ri hc (n:Int) s;cases b with
 |true=>simp
 |false=>
  by_cases h:r.t=[]
  .simp[p3,h]
  .simp[p3,h,T1]
theorem stP4{R:Type}(hc:Sem c){p:aO}{r:Rl}{q2 q3:Pos}{s:St}{n:Nat}(hw:Wf s)(hn:n<256)(hk:r.k=(n:Int))(hp:p.fN)(p2:s.heap.get q2=some (.cells p.cells 0))(p3:s.heap.get q3=some (.cells r.cells 0))(b:Bool)(K:AV->St->Option R):
  (ai c .move [(.bool b)] s λWT s56=>
    bl c WT false (.fieldA 5) [(.ptr q3 0)] s56 λx60 s57=>
    bl c WT false (.load none) [x60] s57 λx61 s58=>
    bl c WT false (.bin .neq .num) [x61,(.int .i64 0)] s58 λx62 s59=>
    bl c WT false .move [x62] s59 λx63 s60=>
    bl c x63 true .move [(.int .u8 (n:Int))] s60 λx64 s61=>
    bl c x63 true (.callF 142) [x64] s61 λx65 s62=>
    bl c x63 true (.un .not) [x65] s62 λx66 s63=>
    bl c WT false .pick [x63,x66,(.bool false)] s63 λx67 s64=>
    ai c .pick [WT,(.bool true),x67] s64 λx68 s65=>
    K x68 s65)=K (.bool (b||(decide (r.n≠0)&& !Km n))) s:=by
 have T1:=Rh hc (n:Int) s;cases b with
 |true=>simp
 |false=>
  by_cases h:r.n=0
  .simp[p3,h]
  .simp[p3,h,T1]
theorem stA{R:Type}(hc:Sem c){p:aO}{r:Rl}{q2 q3:Pos}{s:St}{n:Nat}(hw:Wf s)(hn:n<256)(hk:r.k=(n:Int))(hp:p.fN)(p2:s.heap.get q2=some (.cells p.cells 0))(p3:s.heap.get q3=some (.cells r.cells 0))(K:AV->St->Option R):
  (ai c .move [(.int .u8 (n:Int))] s λx69 s67=>
    ai c (.callF 139) [x69] s67 λx70 s68=>
    ai c .move [x70] s68 λx71 s69=>
    bl c x71 false .move [(.int .u8 (n:Int))] s69 λx72 s70=>
    bl c x71 false (.callF 140) [x72] s70 λx73 s71=>
    ai c .pick [x71,(.bool true),x73] s71 λUI s72=>
    ai c .move [UI] s72 λWU s73=>
    bl c WU true .move [(.int .u8 (n:Int))] s73 λx76 s74=>
    bl c WU true (.bin .eql .num) [x76,(.int .u8 10)] s74 λx77 s75=>
    bl c WU true .move [x77] s75 λx78 s76=>
    bl c x78 true (.fieldA 2) [(.ptr q3 0)] s76 λx79 s77=>
    bl c x78 true (.load none) [x79] s77 λx80 s78=>
    bl c x78 true (.bin .eql .num) [x80,(.str [])] s78 λx81 s79=>
    bl c WU true .pick [x78,x81,(.bool false)] s79 λx82 UG=>
    bl c WU true (.un .not) [x82] UG λx83 UH=>
    ai c .pick [WU,x83,(.bool false)] UH λx84 UJ=>
    ai c .move [x84] UJ λUS UK=>
    bl c US true (.fieldA 1) [(.ptr q2 0)] UK λx86 UL=>
    bl c US true (.load none) [x86] UL λx87 UM=>
    bl c US true (.fieldA 2) [(.ptr q3 0)] UM λx88 s86=>
    bl c US true (.load none) [x88] s86 λx89 s87=>
    bl c US true (.callF 143) [x87,x89] s87 λx90 s88=>
    bl c US true (.bin .lss .num) [x90,(.int .i64 0)] s88 λx91 s89=>
    ai c .pick [US,x91,(.bool false)] s89 λx92 s90=>
    K x92 s90)=K (.bool ((jB n||tB n)&& !(decide (n=10)&&decide (r.a=[]))&&decide (gi p r.a<0))) s:=by
 have T1:=FC hc (n:Int) s;have T2:=ZZ hc (n:Int) s;have A:c 143 [bg p.gz p.gs,.str r.a] s=some (.int .i64 (gi p r.a),s):=OG hc p.gz p.gs r.a (by have:=hp.gs;unfold cD;omega) s;have e:((n:Int)=10)=(n=10):=by apply propext;omega
 cases h1:jB (n:Int)with
 |true=>
  by_cases h3:n=10
  . by_cases h4:r.a=[]
    .   simp[p2,p3,T1,h1,h3,h4]
        try simp_all
    .   simp[p2,p3,T1,h1,h3,h4,A]
        try simp_all
  .simp[p2,p3,T1,h1,e,h3,A]
 |false   =>
  cases h2:tB (n:Int)with
  | true=>
    by_cases h3:n=10
    .   by_cases h4:r.a=[]
        . simp[p2,p3,T1,T2,h1,h2,h3,h4]
          try simp_all
        . simp[p2,p3,T1,T2,h1,h2,h3,h4,A]
          try simp_all
    .   simp[p2,p3,T1,T2,h1,h2,e,h3,A]
  |false=>simp[p2,p3,T1,T2,h1,h2]
theorem stB{R:Type}(hc:Sem c){p:aO}{r:Rl}{q2 q3:Pos}{s:St}{n:Nat}(hw:Wf s)(hn:n<256)(hk:r.k=(n:Int))(hp:p.fN)(p2:s.heap.get q2=some (.cells p.cells 0))(p3:s.heap.get q3=some (.cells r.cells 0))(K:AV->St->Option R):
  (ai c .move [(.int .u8 (n:Int))] s λx93 s92=>
   ai c (.callF 139) [x93] s92 λx94 s93=>
   ai c .move [x94] s93 λUT s94=>
   bl c UT true (.fieldA 1) [(.ptr q2 0)] s94 λx96 s95=>
   bl c UT true (.load none) [x96] s95 λx97 s96=>
   bl c UT true (.fieldA 3) [(.ptr q3 0)] s96 λx98 s97=>
   bl c UT true (.load none) [x98] s97 λx99 s98=>
   bl c UT true (.callF 143) [x97,x99] s98 λx100 s99=>
   bl c UT true (.bin .lss .num) [x100,(.int .i64 0)] s99 λx101 s100=>
   ai c .pick [UT,x101,(.bool false)] s100 λx102 s101=>
   K x102 s101)=K (.bool (jB n&&decide (gi p r.b<0))) s:=by
 have T1:=FC hc (n:Int) s;have A:c 143 [bg p.gz p.gs,.str r.b] s=some (.int .i64 (gi p r.b),s):=OG hc p.gz p.gs r.b (by have:=hp.gs;unfold cD;omega) s;cases h1:jB (n:Int)<;>simp[p2,p3,T1,h1,A]
theorem stN{R:Type}(hc:Sem c){p:aO}{r:Rl}{q2 q3:Pos}{s:St}{n:Nat}(hw:Wf s)(hn:n<256)(hk:r.k=(n:Int))(hp:p.fN)(p2:s.heap.get q2=some (.cells p.cells 0))(p3:s.heap.get q3=some (.cells r.cells 0))(K:AV->St->Option R):
   (ai c .move [(.int .u8 (n:Int))] s λx103 s103=>
    ai c (.bin .eql .num) [x103,(.int .u8 17)] s103 λx104 s104=>
    ai c .move [x104] s104 λUU s105=>
    bl c UU true (.fieldA 2) [(.ptr q3 0)] s105 λx106 s106=>
    bl c UU true (.load none) [x106] s106 λx107 s107=>
    bl c UU true (.callF 144) [x107] s107 λx108 s108=>
    bl c UU true (.un .not) [x108] s108 λx109 s109=>
    ai c .pick [UU,x109,(.bool false)] s109 λx110 s110=>
    K x110 s110)=K (.bool (decide (n=17)&& !dY r.a)) s:=by
 have A:=Bl hc r.a s;have e:((n:Int)=17)=(n=17):=by apply propext;omega
 by_cases h1:n=17
 .simp[p3,e,h1,A]
 .simp[p3,e,h1]
theorem stD{R:Type}(hc:Sem c){p:aO}{r:Rl}{q2 q3:Pos}{s:St}{n:Nat}(hw:Wf s)(hn:n<256)(hk:r.k=(n:Int))(hp:p.fN)(p2:s.heap.get q2=some (.cells p.cells 0))(p3:s.heap.get q3=some (.cells r.cells 0))(K:AV->St->Option R):
  (ai c .move [(.int .u8 (n:Int))] s λx111 s112=>
   ai c (.callF 139) [x111] s112 λx112 s113=>
   ai c .move [x112] s113 λP4 s114=>
   bl c P4 true (.fieldA 2) [(.ptr q3 0)] s114 λx114 s115=>
   bl c P4 true (.load none) [x114] s115 λx115 s116=>
   bl c P4 true (.fieldA 3) [(.ptr q3 0)] s116 λx116 s117=>
   bl c P4 true (.load none) [x116] s117 λx117 s118=>
   bl c P4 true (.bin .eql .num) [x115,x117] s118 λx118 s119=>
   ai c .pick [P4,x118,(.bool false)] s119 λx119 s120=>
   K x119 s120)=K (.bool (jB n&&decide (r.a=r.b))) s:=by
 have T1:=FC hc (n:Int) s;cases h1:jB (n:Int)<;>simp[p3,T1,h1]
theorem stT{R:Type}(hc:Sem c){p:aO}{r:Rl}{q2 q3:Pos}{s:St}{n:Nat}(hw:Wf s)(hn:n<256)(hk:r.k=(n:Int))(hp:p.fN)(p2:s.heap.get q2=some (.cells p.cells 0))(p3:s.heap.get q3=some (.cells r.cells 0))(K:AV->AV->St->Option R):
   (ai c (.fieldA 0) [(.ptr q2 0)] s λx120 s122=>
     ai c (.load none) [x120] s122 λx121 s123=>
     ai c (.fieldA 4) [(.ptr q3 0)] s123 λx122 s124=>
     ai c (.load none) [x122] s124 λx123 s125=>
     ai c (.callF 145) [x121,x123] s125 λx124 s126=>
     ai c .move [x124] s126 λx6 s127=>
     ai c .move [(.int .u8 (n:Int))] s127 λx125 s128=>
     ai c (.callF 141) [x125] s128 λx126 s129=>
     ai c (.bin .eql .num) [x126,(.int .i64 1)] s129 λx127 s130=>
     ai c .move [x127] s130 λabJ s131=>
     bl c abJ true .move [x6] s131 λx129 s132=>
     bl c abJ true (.bin .lss .num) [x129,(.int .i64 0)] s132 λx130 s133=>
     ai c .pick [abJ,x130,(.bool false)] s133 λx131 s134=>
     ai c .move [x131] s134 λKn s135=>
     bl c Kn false .move [(.int .u8 (n:Int))] s135 λx133 s136=>
     bl c Kn false (.callF 141) [x133] s136 λx134 s137=>
     bl c Kn false (.bin .eql .num) [x134,(.int .i64 2)] s137 λx135 s138=>
     bl c Kn false .move [x135] s138 λX7 s139=>
     bl c X7 true (.fieldA 4) [(.ptr q3 0)] s139 λx137 s140=>
     bl c X7 true (.load none) [x137] s140 λx138 s141=>
     bl c X7 true (.bin .neq .num) [x138,(.str [])] s141 λx139 abK=>
     bl c Kn false .pick [X7,x139,(.bool false)] abK λx140 abL=>
     bl c Kn false .move [x140] abL λabM abN=>
     bl c abM true .move [x6] abN λx142 abO=>
     bl c abM true (.bin .lss .num) [x142,(.int .i64 0)] abO λx143 s146=>
     bl c Kn false .pick [abM,x143,(.bool false)] s146 λx144 s147=>
     ai c .pick [Kn,(.bool true),x144] s147 λx145 s148=>
     K x6 x145 s148)=K (.int .i64 (ti p r.t)) (.bool ((decide (oK n=1)&&decide (ti p r.t<0))||(decide (oK n=2)&&decide (r.t≠[])&&decide (ti p r.t<0)))) s:=by
 have T1:=Ri hc (n:Int) s;have A:c 145 [tabs p.tz p.ts,.str r.t] s=some (.int .i64 (ti p r.t),s):=X6 hc p.tz p.ts r.t hp.ts s;by_cases h1:oK (n:Int)=1
 . by_cases h2:ti p r.t<0
   .simp[p2,p3,T1,h1,h2,A]
   .simp[p2,p3,T1,h1,h2,A]
 . by_cases h3:oK (n:Int)=2
   . by_cases h4:r.t=[]
     .  rw[h4]at A;simp[p2,p3,T1,h1,h3,h4,A]
     .  simp[p2,p3,T1,h1,h3,h4,A]
   .simp[p2,p3,T1,h1,h3,A]
theorem aeO(hc:Sem c){p:aO}{r:Rl}{q2 q3:Pos}{s:St}{n:Nat}(hw:Wf s)(hn:n<256)(hk:r.k=(n:Int))(hp:p.fN)(p2:s.heap.get q2=some (.cells p.cells 0))(p3:s.heap.get q3=some (.cells r.cells 0))(tG:(kd n).lo=if n=4 then 1 else 0)(acs:(kd n).p6=decide (n=7))(hnum:Km (n:Int)=(kd n).n)(ht:n=7->0<=ti p r.t)
   (x2 x3 x5 x6:AV) (e2:x2= .ptr q2 0) (e3:x3= .ptr q3 0) (e5:x5= .int .u8 (n:Int)) (e6:x6= .int .i64 (ti p r.t)):
   (ai c .move [(.int .i64 0)] s λx7 s150=>
   ai c .move [(.int .i64 24)] s150 λx8 s151=>
   j0 (λj152=>
   ai c .move [x5] s151 λx146 s154=>
   ai c (.bin .eql .num) [x146,(.int .u8 4)] s154 λx147 s155=>
   Jp x147 (
   ai c .move [(.int .i64 1)] s155 λx7 s156=>
   j152 [x2,x3,x5,x6,x7,x8] s156) (
   j152 [x2,x3,x5,x6,x7,x8] s155))
   (λvs s153=>dW vs λx2 vs=>dW vs λx3 vs=>dW vs λx5 vs=>dW vs λx6 vs=>dW vs λx7 vs=>dW vs λx8 vs=>fP vs (
   j0 (λj157=>
   ai c .move [x5] s153 λx148 s159=>
   ai c (.bin .eql .num) [x148,(.int .u8 7)] s159 λx149 s160=>
   Jp x149 (
   ai c (.fieldA 0) [x2] s160 λx150 s161=>
   ai c (.load none) [x150] s161 λx151 s162=>
   ai c .move [x6] s162 λx152 s163=>
   ai c (.idxA 7 none) [x151,x152] s163 λx153 s164=>
   ai c (.load (some 7)) [x153] s164 λx154 s165=>
   ai c (.callF 118) [x154] s165 λx155 s166=>
   ai c (.bin .sub .num) [x155,(.int .i64 1)] s166 λx156 s167=>
   ai c .move [x156] s167 λx8 s168=>
   j157 [x3,x5,x7,x8] s168) (
   j157 [x3,x5,x7,x8] s160))
   (λvs s158=>dW vs λx3 vs=>dW vs λx5 vs=>dW vs λx7 vs=>dW vs λx8 vs=>fP vs (
   ai c .move [x5] s158 λx157 s169=>
   ai c (.callF 142) [x157] s169 λx158 s170=>
   ai c .move [x158] s170 λNa s171=>
   bl c Na true (.fieldA 5) [x3] s171 λx160 s172=>
   bl c Na true (.load none) [x160] s172 λx161 s173=>
   bl c Na true .move [x7] s173 λx162 s174=>
   bl c Na true (.bin .lss .num) [x161,x162] s174 λx163 s175=>
   bl c Na true .move [x163] s175 λUW s176=>
   bl c UW false (.fieldA 5) [x3] s176 λx165 s177=>
   bl c UW false (.load none) [x165] s177 λx166 s178=>
   bl c UW false .move [x8] s178 λx167 s179=>
   bl c UW false (.bin .gtr .num) [x166,x167] s179 λx168 s180=>
   bl c Na true .pick [UW,(.bool true),x168] s180 λx169 s181=>
   ai c .pick [Na,x169,(.bool false)] s181 λx170 s182=>
   Jp x170 (
   ai c .move [(.int .i64 42)] s182 λx4 s183=>
   some (x4,s183)) (
   ai c .move [(.int .i64 0)] s182 λx4 s184=>
   some (x4,s184)))))))=some (.int .i64 (uY (kd n) r (if(kd n).p6=true then rj p (ti p r.t) - 1 else 24)),s):=by
 subst e2 e3 e5 e6;have T4:=Rh hc (n:Int) s;rw[hnum]at T4;have H6:=Hw (P:=gW p.ts r.t) p.ts.length 0;unfold uY;rw[tG,acs];clear tG acs hnum;by_cases h4:n=4
 . have d4:decide ((n:Int)=4)=true:=(by simp only[Zc6];omega);have d7:decide ((n:Int)=7)=false:=(by simp only[Zg1];omega);have n7:decide (n=7)=false:=(by simp only[Zg1];omega);rw[Za6 h4,n7];clear h4 n7;cases hm:(kd n).n with
   |false=>simp[dK,p2,p3,T4,d4,d7,hm]
   | true=>
     by_cases e1:r.n<1
     .  simp[dK,p2,p3,T4,d4,d7,hm,e1]
     .  by_cases e2:24<r.n
        .simp[dK,p2,p3,T4,d4,d7,hm,e1,e2]
        .simp[dK,p2,p3,T4,d4,d7,hm,e1,e2]
 . have d4:decide ((n:Int)=4)=false:=(by simp only[Zg1];omega);rw[Za5 h4];clear h4;by_cases h7:n=7
   . have d7:decide ((n:Int)=7)=true:=(by simp only[Zc6];omega);have n7:decide (n=7)=true:=(by simp only[Zc6];exact h7);have Qr:=ht h7;rw[n7];clear ht h7 n7;obtain⟨i,hi⟩:∃i:Nat,ti p r.t=(i:Int):=⟨(ti p r.t).toNat,by omega⟩
     have jN:i<p.ts.length:=(by have:=(H6 Qr).2.1;unfold ti at hi;rw[hi]at this;simpa using this);have S:=xI hc p.ts[i] s hw;have b:=tP p.ts[i];have w2:aD .i64 (bN p.ts[i] - 1)=bN p.ts[i] - 1:=wrap64 (by omega) (by omega);have e3:rj p (i:Int)=bN p.ts[i]:=(by simp[rj,jN]);rw[hi,e3];clear hi e3 Qr H6;cases hm:(kd n).n with
     |false=>simp[dK,p2,p3,T4,d4,d7,tabs,jN,S,w2,hm]
     |  true=>
        by_cases e1:r.n<0
        .simp[dK,p2,p3,T4,d4,d7,tabs,jN,S,w2,hm,e1]
        . by_cases e2:bN p.ts[i] - 1<r.n
          .simp[dK,p2,p3,T4,d4,d7,tabs,jN,S,w2,hm,e1,e2]
          .simp[dK,p2,p3,T4,d4,d7,tabs,jN,S,w2,hm,e1,e2]
   . have d7:decide ((n:Int)=7)=false:=(by simp only[Zg1];omega);have n7:decide (n=7)=false:=(by simp only[Zg1];exact h7);rw[n7];clear h7 n7 ht H6;cases hm:(kd n).n with
     |false=>simp[dK,p2,p3,T4,d4,d7,hm]
     |  true=>
        by_cases e1:r.n<0
        .simp[dK,p2,p3,T4,d4,d7,hm,e1]
        . by_cases e2:24<r.n
          .simp[dK,p2,p3,T4,d4,d7,hm,e1,e2]
          .simp[dK,p2,p3,T4,d4,d7,hm,e1,e2]
end
section
open Go Go.Ai Go.Proofs
variable{c:ah}
structure Flags(n:Nat):Prop where
 two:jB (n:Int)=(kd n).b
 num:Km (n:Int)=(kd n).n
 t0:oK (n:Int)=0↔(kd n).t=0
 t1:oK (n:Int)=1↔(kd n).t=116
 t2:oK (n:Int)=2↔(kd n).t=101
 a0:(jB (n:Int)=false/\tB (n:Int)=false/\n≠17)↔(kd n).a=0
 a1:((jB (n:Int)||tB (n:Int))=true/\n≠10)↔(kd n).a=103
 a2:n=10↔(kd n).a=101
 a3:n=17↔(kd n).a=100
 o10:n=10->tB (n:Int)=true
 lo:(kd n).lo=if n=4 then 1 else 0
 p6:(kd n).p6=decide (n=7)
 s7:n=7->(kd n).t=116
theorem flags{n:Nat}(h:(kd n).w≠[]):Flags n:=by
 have h18:n<=18:=by apply Zi6;intro h2;apply h;unfold kd;split<;>first|rfl|omega
 have:n=0\/n=1\/n=2\/n=3\/n=4\/n=5\/n=6\/n=7\/n=8\/n=9\/n=10\/n=11\/n=12\/n=13\/n=14\/n=15\/n=16\/n=17\/n=18:=by omega
 rcases this with rfl|rfl|rfl|rfl|rfl|rfl|rfl|rfl|rfl|rfl|rfl|rfl|rfl|rfl|rfl|rfl|rfl|rfl|rfl
 .exact absurd rfl h
 all_goals exact⟨by decide,by decide,by decide,by decide,by decide,by decide,by decide,by decide,by decide,by decide,by decide,by decide,by decide⟩
theorem VI(hc:Sem c)(p:aO)(hp:p.fN)(r:Rl)(n:Nat)(hk:r.k=(n:Int))(hn:n<256)(st:St)(hw:Wf st):
   c 109 [.agg p.cells,.agg r.cells] st=some (.int .i64 (En (kd n) p r),st):=by
 have bR:Wf (af st (.cells p.cells 0)):=bA hw;have vA:=Grew.af bR (.cells r.cells 0);have hg:=(Grew.af hw (.cells p.cells 0)).trans vA;have eM:=hg.wf;have p2:=vA.get (aC st (.cells p.cells 0));have p3:=aC (af st (.cells p.cells 0)) (.cells r.cells 0);rw[Ei hc 1 (r:=(.int .i64 (En (kd n) p r),af (af st (.cells p.cells 0)) (.cells r.cells 0))),aq (Plain.int _ _) hg.keeps];rw[He,pO,pO,bH];simp only[AV.cells];generalize af (af st (.cells p.cells 0)) (.cells r.cells 0)=s at*
 generalize (af st (.cells p.cells 0)).next=q3 at*
 generalize st.next=q2 at*
 rw[stW hc eM hn hk hp p2 p3];unfold En;by_cases h0:(kd n).w=[]
 .rw[Za6 h0,Za0 h0,mM,bH]
 have fl:=flags h0;rw[Za5 h0,H5 h0,qk];rw[stWt hc eM hn hk hp p2 p3];by_cases h1:r.wt<0\/1000<r.wt
 .rw[Za6 h1,Za0 h1,mM,bH]
 rw[Za5 h1,H5 h1,qk];rw[stP1 hc eM hn hk hp p2 p3,stP2 hc eM hn hk hp p2 p3,stP3 hc eM hn hk hp p2 p3,stP4 hc eM hn hk hp p2 p3];have ep:(((decide (r.a≠[])&& !jB n&& !tB n&&decide (n≠17))||(decide (r.b≠[])&& !jB n))||(decide (r.t≠[])&&decide (oK n=0))||(decide (r.n≠0)&& !Km n))= !zC (kd n) r:=by
   (unfold zC;rw[<-fl.two, <-fl.num];have t0:=fl.t0;have a0:=fl.a0;have:decide (oK (n:Int)=0)= !decide ((kd n).t≠0):=(by simp[t0]);rw[this];have:(!jB (n:Int)&& !tB (n:Int)&&decide (n≠17))= !decide ((kd n).a≠0):=by simp only[ne_eq, <-a0];cases jB (n:Int)<;>cases tB (n:Int)<;>simp);rw[Bool.and_assoc,Bool.and_assoc, <-Bool.and_assoc (!jB (n:Int)),this];cases decide ((kd n).a≠0)<;>cases jB (n:Int)<;>cases decide ((kd n).t≠0)<;>cases Km (n:Int)<;>by_cases h3:r.a=[]<;>by_cases h4:r.b=[]<;>by_cases h5:r.t=[]<;>by_cases h6:r.n=0<;>simp[h3,h4,h5,h6]
 rw[ep];cases h2:zC (kd n) r with
 |false=>rw[Zl2,mM,bH,Za6 rfl]
 |true=>
 rw[Zm6,qk,Za5 (by simp)];rw[stA hc eM hn hk hp p2 p3];have ea:((jB (n:Int)||tB (n:Int))&& !(decide (n=10)&&decide (r.a=[]))&&decide (gi p r.a<0))=decide (((kd n).a=103/\gi p r.a<0)\/((kd n).a=101/\r.a≠[]/\gi p r.a<0)):=by
   rw[Zh5,Zc6, <-fl.a1, <-fl.a2];by_cases Iu:n=10
   .have h11:=fl.o10 Iu;have QG:(jB (n:Int)||tB (n:Int))=true:=(by rw[h11,Bool.or_true]);rw[QG];by_cases h3:r.a=[]<;>simp[h3,Iu]
   .simp only[Iu,Zn9,Bool.false_and,Zl2,Zj1,ne_eq,Zl0,Zn7,false_and,Zh2];cases jB (n:Int)||tB (n:Int)<;>simp
 rw[ea];by_cases h3:((kd n).a=103/\gi p r.a<0)\/((kd n).a=101/\r.a≠[]/\gi p r.a<0)
 .rw[Za0 h3,mM,bH,Za6 (h3.elim .inl λh=>.inr (.inl h))]
 rw[H5 h3,qk];rw[stB hc eM hn hk hp p2 p3];rw[fl.two];by_cases h4:(kd n).b=true/\gi p r.b<0
 .have:((kd n).b&&decide (gi p r.b<0))=true:=(by simp[h4]);rw[this,mM,bH,Za6 (.inr (.inr h4))]
 have:((kd n).b&&decide (gi p r.b<0))=false:=by
   cases hb:(kd n).b
   .rfl
   .simp[hb]at h4;simp;exact h4
 rw[this,qk,Za5 (λh=>h.elim (λh=>h3 (.inl h)) λh=>h.elim (λh=>h3 (.inr h)) h4)];rw[stN hc eM hn hk hp p2 p3];unfold UN;simp only[<-fl.a3];by_cases h5:n=17/\dY r.a=false
 .have:(decide (n=17)&& !dY r.a)=true:=(by simp[h5]);rw[this,mM,bH,Za6 h5]
 have:(decide (n=17)&& !dY r.a)=false:=by
   by_cases h17:n=17
   . cases hb:dY r.a
     .exact absurd ⟨h17,hb⟩ h5
     .simp
   .simp[h17]
 rw[this,qk,Za5 h5];rw[stD hc eM hn hk hp p2 p3,fl.two];by_cases h6:(kd n).b=true/\r.a=r.b
 .have:((kd n).b&&decide (r.a=r.b))=true:=(by simp[h6]);rw[this,mM,bH,Za6 h6]
 have:((kd n).b&&decide (r.a=r.b))=false:=by
   cases hb:(kd n).b
   .rfl
   .simp[hb]at h6;simp;exact h6
 rw[this,qk,Za5 h6];rw[stT hc eM hn hk hp p2 p3];unfold OK;simp only[<-fl.t1, <-fl.t2];by_cases h7:(oK (n:Int)=1/\ti p r.t<0)\/(oK (n:Int)=2/\r.t≠[]/\ti p r.t<0)
 . have:((decide (oK (n:Int)=1)&&decide (ti p r.t<0))||(decide (oK (n:Int)=2)&&decide (r.t≠[])&&decide (ti p r.t<0)))=true:=by
     rcases h7 with⟨a,b⟩|⟨a,b,d⟩<;>simp[*]
   rw[this,mM,bH,Za6 h7]
 have:((decide (oK (n:Int)=1)&&decide (ti p r.t<0))||(decide (oK (n:Int)=2)&&decide (r.t≠[])&&decide (ti p r.t<0)))=false:=by apply Bool.eq_false_iff.2;intro e;apply h7;simpa [and_assoc]using e
 rw[this,qk,Za5 h7];have ht:n=7->0<=ti p r.t:=λe=>by
   apply Zi6;intro e2;exact h7 (.inl ⟨fl.t1.2 (fl.s7 e),by omega⟩)
 exact aeO hc eM hn hk hp p2 p3 fl.lo fl.p6 fl.num ht _ _ _ _ rfl rfl rfl rfl
end
section
open Go Go.Ai Go.Proofs
theorem bE{Q:List AV->Prop}{Qs:List (List AV->Prop)}{ps:List (List AV)}(h:BN (Q::Qs) ps):∃p qs,ps=p::qs/\Q p/\BN Qs qs:=by
 cases ps with
 |nil=>exact h.elim
 |cons p qs=>exact⟨p,qs,rfl,h⟩
theorem yI{ps:List (List AV)}(h:BN [] ps):ps=[]:=by
 cases ps with
 |nil=>rfl
 |cons p qs=>exact h.elim
section
variable{H:Type}{enc:TypeId×Value->H}{w:World}{base:Nat}{spare:Nat->Bool}{held:Bool}
abbrev zE(enc:TypeId×Value->H)(w:World)(base:Nat)(spare:Nat->Bool)(held:Bool)(t:TypeId)(Q:List AV->Prop):Prop:=uA enc Tryz.prog w base spare held t Q
abbrev mN(k:IntKind)(vs:List AV):Prop:=∃i,vs=[.int k i]/\(Lit.int k i).wf=true
abbrev uG(vs:List AV):Prop:=∃s,vs=[.str s]/\s.length<=maxLen/\∀x∈s,x<256
abbrev UX(vs:List AV):Prop:=∃b,vs=[.bool b]
theorem AT:zE enc w base spare held 3 (mN .i64):=zk (by kernel_rfl)
theorem xL:zE enc w base spare held 9 uG:=Zp (by kernel_rfl)
theorem Z0:zE enc w base spare held 4 UX:=XF (by kernel_rfl)
theorem ac5:zE enc w base spare held 97 (mN .u8):=zk (by kernel_rfl)
theorem o_tk:zE enc w base spare held 155 (mN .u8):=zk (by kernel_rfl)
theorem o_rk:zE enc w base spare held 105 (mN .u8):=zk (by kernel_rfl)
theorem o_ty:zE enc w base spare held 157 λvs=>∃t:Ty,vs=t.cells:=by
 refine uA.mono (JA [9,9,155] (Qs:=[uG,uG,mN .u8]) (by kernel_rfl) (by kernel_rfl) (by kernel_rfl) ⟨xL,xL,o_tk,trivial⟩) λvs h=> ?_
 obtain⟨ps,rfl,m0⟩:=h;obtain⟨p0,q0,rfl,⟨a,rfl,ha,_⟩,m1⟩:=bE m0;obtain⟨p0,q0,rfl,⟨b,rfl,hb,_⟩,m2⟩:=bE m1;obtain⟨p0,q0,rfl,⟨k,rfl,hk⟩,m3⟩:=bE m2;obtain rfl:=yI m3;exact⟨⟨a,b,k⟩,rfl⟩
theorem aeP{i:Int}(h:(Lit.int .u8 i).wf=true):0<=i/\i<256:=by
 simp only[Lit.wf,Za4,Zc6]at h;have h1:IntKind.u8.min=0:=by decide
 have h2:IntKind.u8.max=255:=by decide
 omega
theorem o_rl:zE enc w base spare held 107 λvs=>∃t:Rl,vs=t.cells/\t.Ok:=by
 refine uA.mono (JA [105,3,9,9,9,3] (Qs:=[mN .u8,mN .i64,uG,uG,uG,mN .i64]) (by kernel_rfl) (by kernel_rfl) (by kernel_rfl) ⟨o_rk,AT,xL,xL,xL,AT,trivial⟩) λvs h=> ?_
 obtain⟨ps,rfl,m0⟩:=h;obtain⟨p0,q0,rfl,⟨k,rfl,hk⟩,m1⟩:=bE m0;obtain⟨p0,q0,rfl,⟨wt,rfl,_⟩,m2⟩:=bE m1;obtain⟨p0,q0,rfl,⟨a,rfl,ha,_⟩,m3⟩:=bE m2;obtain⟨p0,q0,rfl,⟨b,rfl,hb,_⟩,m4⟩:=bE m3;obtain⟨p0,q0,rfl,⟨t,rfl,ht,_⟩,m5⟩:=bE m4;obtain⟨p0,q0,rfl,⟨n,rfl,_⟩,m6⟩:=bE m5;obtain rfl:=yI m6;exact⟨⟨k,wt,a,b,t,n⟩,rfl,aeP hk⟩
end
abbrev j3:Nat:=1048576
abbrev cg(i:Int):List AV:=[.int .i64 i]
abbrev zY(s:List Nat):List AV:=[.str s]
def aF.ay(t:aF)(v:AV):List AV:=[.str t.name,.int .u8 t.sh,.int .i64 t.a,.int .i64 t.b,v,.int .i64 t.x,.int .i64 t.y]
theorem aF.PZ(t:aF){v:AV}(h:aU [v]=true):aU (t.ay v)=true:=by
 simp only[aU]at h;unfold aF.ay;simp only[aU,AV.one,h,Zj2,Zj1]at*
structure TS(s0 s:St)(V:AV)(ts:List aF)(rows:List (List AV)):Prop where
 out:Mk 7 s0 s V rows
 len:rows.length=ts.length
 xM:∀(i:Nat)(t:aF)(r:List AV),ts[i]? =some t->rows[i]? =some r->∃v,r=t.ay v/\Mk 1 s0 s v (t.b9.map cg)/\∀b,dS v=some b->dS V≠some b
structure GS(s0 s:St)(V:AV)(ts:List aI)(rows:List (List AV)):Prop where
 out:Mk 9 s0 s V rows
 len:rows.length=ts.length
 xM:∀(i:Nat)(t:aI)(r:List AV),ts[i]? =some t->rows[i]? =some r->∃v,r=t.ay v/\Mk 1 s0 s v (t.tg.map zY)/\∀b,dS v=some b->dS V≠some b
structure PS(s0 s:St)(Vs:List AV)(p:aO):Prop where
 aE:Grew s0 s
 all:∃V1 V2 V3 V4 V5 r1 r2,Vs=[V1,V2,V3,V4,V5]/\TS s0 s V1 p.ts r1/\GS s0 s V2 p.gs r2/\Mk 3 s0 s V3 (p.ys.map Ty.cells)/\Mk 1 s0 s V4 (p.cs.map cg)/\Mk 6 s0 s V5 (p.rs.map Rl.cells)
structure aF.Real(t:aF):Prop where
 name:∀x∈t.name,x<256
 b9:t.b9.length<=j3
structure aI.Real(g:aI):Prop where
 name:∀x∈g.name,x<256
 kP:∀x∈g.kP,x<256
 iV:∀x∈g.iV,x<256
 kQ:∀x∈g.kQ,x<256
 tg:g.tg.length<=j3
theorem TS.wQ{s0 s1 s s':St}{V:AV}{ts:List aF}{rows:List (List AV)}(h:TS s1 s V ts rows)(h0:Wf s0)(Oc:Grew s0 s1)(hg:Grew s0 s')(hk:∀q b,s1.next.toNat<=q.toNat->s.heap.get q=some b->s'.heap.get q=some b):TS s0 s' V ts rows:=
 ⟨Mk.wQ h.out h0 Oc hg hk,h.len,λi t r hi hr=>by obtain⟨v,e1,e2,e3⟩:=h.xM i t r hi hr;exact⟨v,e1,Mk.wQ e2 h0 Oc hg hk,e3⟩⟩
theorem GS.wQ{s0 s1 s s':St}{V:AV}{ts:List aI}{rows:List (List AV)}(h:GS s1 s V ts rows)(h0:Wf s0)(Oc:Grew s0 s1)(hg:Grew s0 s')(hk:∀q b,s1.next.toNat<=q.toNat->s.heap.get q=some b->s'.heap.get q=some b):GS s0 s' V ts rows:=
 ⟨Mk.wQ h.out h0 Oc hg hk,h.len,λi t r hi hr=>by obtain⟨v,e1,e2,e3⟩:=h.xM i t r hi hr;exact⟨v,e1,Mk.wQ e2 h0 Oc hg hk,e3⟩⟩
structure aO.Real(p:aO):Prop where
 ts:p.ts.length<=1000
 tab:∀t∈p.ts,t.Real
 gs:p.gs.length<=1000
 bl:∀t∈p.gs,t.Real
 ys:p.ys.length<=j3
 cs:p.cs.length<=j3
 rs:p.rs.length<=j3
theorem X8(z:Bool)(l:List Ty):dR 3 (bW z l):=dR.ro λr hr v hv=>by simp only[Zf3]at hr;obtain⟨g,_,rfl⟩:=hr;simp only[Ty.cells,Za2,Zd0,Zh2]at hv;rcases hv with rfl|rfl|rfl<;>first|exact dR.str _|exact dR.int _ _
theorem Ko{R:Type}{p:Pos}{o:Nat}{h:T AB}{v:AV}(hv:((cellsOf (h.get p)).bind λcs=>cs[o]?)=some v)(ok:AV->Bool)(ct:ok v=true)(K:AV->Option R):mI (.load none) [.ptr p o] h ok K=K v:=by
 unfold mI;have e:az.run (λ_=>none) .h (.load none) [.ptr p o]=none:=rfl;rw[e];simp only;rw[lJ,hv];simp only[Zd9];rw[ct]
theorem l6{p:Pos}{o:Nat}{h:T AB}{v:AV}(hv:((cellsOf (h.get p)).bind λcs=>cs[o]?)=some v)(hb:fB v v=true):mS (.load none) [.ptr p o] v (wu [] h)=true:=by unfold mS;show(match az.run (λb=>h.get b) .h (.load none) [.ptr p o]with|some (.val u)=>fB u v|_=>false)=true;rw[lJ,hv];exact hb
section
variable{H:Type}
theorem abP(d:DataW H):1<=Rows.uptoBulk d:=by
 cases d with
 |lit l=>cases l<;>simp[Rows.uptoBulk]
 |_=>simp[Rows.uptoBulk]
theorem wm:∀l:List (DataW H),l.length<=Rows.uptoBulkAll l/\∀d∈l,Rows.uptoBulk d<=Rows.uptoBulkAll l
 |[]=>⟨Zk8 _,λd h=>by simp at h⟩
 |d::l=>by
  obtain⟨h1,h2⟩:=wm l;have h3:=abP d;have e:Rows.uptoBulkAll (d::l)=Rows.uptoBulk d+Rows.uptoBulkAll l:=by simp[Rows.uptoBulkAll]
  rw[e];refine⟨by simp only[Ze3];omega,λx hx=> ?_⟩;rcases Za2.1 hx with rfl|hx
  .omega
  .have:=h2 x hx;omega
abbrev Sr(d:DataW H):Prop:=Rows.uptoBulk d<=j3
theorem FI(e s:List (DataW H))(h:Sr (.slice e s)):e.length<=j3/\∀d∈e,Sr d:=by
 obtain⟨h1,h2⟩:=wm e;have e1:Rows.uptoBulk (.slice e s)=Rows.uptoBulkAll e+Rows.uptoBulkAll s+1:=by simp[Rows.uptoBulk]
 have h:Rows.uptoBulk (.slice e s)<=1048576:=h;rw[e1]at h;exact⟨show e.length<=1048576 by omega,λd hd=>show Rows.uptoBulk d<=1048576 by have:=h2 d hd;omega⟩
theorem UY(ps:List (DataW H))(h:Sr (.agg ps)):∀d∈ps,Sr d:=λd hd=>by
 obtain⟨h1,h2⟩:=wm ps;have e1:Rows.uptoBulk (.agg ps)=Rows.uptoBulkAll ps+1:=by simp[Rows.uptoBulk]
 have h:Rows.uptoBulk (.agg ps)<=1048576:=h;rw[e1]at h;show Rows.uptoBulk d<=1048576;have:=h2 d hd;omega
end
section
variable{H:Type}{enc:TypeId×Value->H}{w:World}{base:Nat}{spare:Nat->Bool}{held:Bool}
abbrev xN(enc:TypeId×Value->H)(w:World)(base:Nat)(spare:Nat->Bool)(held:Bool)(t:TypeId)(Q:List AV->Prop):Prop:=bZ Sr enc Tryz.prog w base spare held t Q
theorem uZ{α:Type}{P:α->Prop}{cells:α->List AV}:∀(rs:List (List AV)),(∀r∈rs,∃t,r=cells t/\P t)->∃l:List α,rs=l.map cells/\∀t∈l,P t
 |[],_=>⟨[],rfl,by simp⟩
 |r::rs,h=>by
  obtain⟨t,rfl,ht⟩:=h r (by simp);obtain⟨l,rfl,hl⟩:=uZ rs (λq hq=>h q (Za3 _ hq));exact⟨t::l,rfl,λq hq=>by
   rcases Za2.1 hq with rfl|hq
   .exact ht
   .exact hl q hq⟩
theorem OX:xN enc w base spare held 25 λvs=>∃z l,vs=[ints z l]/\l.length<=j3:=by
 refine bZ.mono (mX (N:=j3) (es:=1) (Q:=mN .i64) (by kernel_rfl) (by kernel_rfl) (by omega) (λvs h=>by obtain⟨i,rfl,_⟩:=h;rfl) FI (bZ.of AT)) λvs h=> ?_
 obtain⟨z,rs,rfl,h1,h2⟩:=h;obtain⟨l,rfl,_⟩:=uZ (P:=λ_:Int=>True) (cells:=λi=>[AV.int .i64 i]) rs (λr hr=>by obtain⟨i,e,_⟩:=h1 r hr;exact⟨i,e,trivial⟩);exact⟨z,l,rfl,by simpa using h2⟩
theorem ac6:xN enc w base spare held 135 λvs=>∃z l,vs=[dL z l]/\l.length<=j3:=by
 refine bZ.mono (mX (N:=j3) (es:=1) (Q:=uG) (by kernel_rfl) (by kernel_rfl) (by omega) (λvs h=>by obtain⟨i,rfl,_⟩:=h;rfl) FI (bZ.of xL)) λvs h=> ?_
 obtain⟨z,rs,rfl,h1,h2⟩:=h;obtain⟨l,rfl,_⟩:=uZ (P:=λ_:List Nat=>True) (cells:=λi=>[AV.str i]) rs (λr hr=>by obtain⟨i,e,_⟩:=h1 r hr;exact⟨i,e,trivial⟩);exact⟨z,l,rfl,by simpa using h2⟩
theorem adV:xN enc w base spare held 99 λvs=>∃t:aF,vs=t.cells/\t.Ok/\t.Real:=by
 refine bZ.mono (zO [9,97,3,3,25,3,3] (Qs:=[uG,mN .u8,mN .i64,mN .i64,λvs=>∃z l,vs=[ints z l]/\l.length<=j3,mN .i64,mN .i64]) (by kernel_rfl) (by kernel_rfl) (by kernel_rfl) UY ⟨bZ.of xL,bZ.of ac5,bZ.of AT,bZ.of AT,OX,bZ.of AT,bZ.of AT,trivial⟩) λvs h=> ?_
 obtain⟨ps,rfl,m0⟩:=h;obtain⟨p0,q0,rfl,⟨s,rfl,hs,zl⟩,m1⟩:=bE m0;obtain⟨p0,q0,rfl,⟨k,rfl,_⟩,m2⟩:=bE m1;obtain⟨p0,q0,rfl,⟨a,rfl,_⟩,m3⟩:=bE m2;obtain⟨p0,q0,rfl,⟨b,rfl,_⟩,m4⟩:=bE m3;obtain⟨p0,q0,rfl,⟨z,l,rfl,hl⟩,m5⟩:=bE m4;obtain⟨p0,q0,rfl,⟨x,rfl,_⟩,m6⟩:=bE m5;obtain⟨p0,q0,rfl,⟨y,rfl,_⟩,m7⟩:=bE m6;obtain rfl:=yI m7;have jE:l.length<=1048576:=hl;exact⟨⟨s,k,a,b,z,l,x,y⟩,rfl,⟨by show s.length<cD;unfold maxLen at hs;unfold cD;omega,by show l.length<cD;unfold cD;omega⟩,⟨zl,hl⟩⟩
theorem adW:xN enc w base spare held 137 λvs=>∃t:aI,vs=t.cells/\t.Real:=by
 refine bZ.mono (zO [9,9,9,3,3,9,4,4,135] (Qs:=[uG,uG,uG,mN .i64,mN .i64,uG,UX,UX,λvs=>∃z l,vs=[dL z l]/\l.length<=j3]) (by kernel_rfl) (by kernel_rfl) (by kernel_rfl) UY ⟨bZ.of xL,bZ.of xL,bZ.of xL,bZ.of AT,bZ.of AT,bZ.of xL,bZ.of Z0,bZ.of Z0,ac6,trivial⟩) λvs h=> ?_
 obtain⟨ps,rfl,m0⟩:=h;obtain⟨p0,q0,rfl,⟨name,rfl,_,gH⟩,m1⟩:=bE m0;obtain⟨p0,q0,rfl,⟨kP,rfl,_,aeQ⟩,m2⟩:=bE m1;obtain⟨p0,q0,rfl,⟨iV,rfl,_,adX⟩,m3⟩:=bE m2;obtain⟨p0,q0,rfl,⟨since,rfl,_⟩,m4⟩:=bE m3;obtain⟨p0,q0,rfl,⟨side,rfl,_⟩,m5⟩:=bE m4;obtain⟨p0,q0,rfl,⟨kQ,rfl,_,aeR⟩,m6⟩:=bE m5;obtain⟨p0,q0,rfl,⟨host,rfl⟩,m7⟩:=bE m6;obtain⟨p0,q0,rfl,⟨access,rfl⟩,m8⟩:=bE m7;obtain⟨p0,q0,rfl,⟨ztg,tg,rfl,htg⟩,m9⟩:=bE m8;obtain rfl:=yI m9;exact⟨⟨name,kP,iV,since,side,kQ,host,access,ztg,tg⟩,rfl,⟨gH,aeQ,adX,aeR,htg⟩⟩
theorem ac7:xN enc w base spare held 22 λvs=>∃(z:Bool) (l:List aF),vs=[tabs z l]/\(∀t∈l,t.Ok/\t.Real)/\l.length<=j3:=by
 refine bZ.mono (mX (N:=j3) (es:=7) (by kernel_rfl) (by kernel_rfl) (by omega) (λvs h=>by obtain⟨t,rfl,_⟩:=h;rfl) FI adV) λvs h=> ?_
 obtain⟨z,rs,rfl,h1,h2⟩:=h;obtain⟨l,rfl,hl⟩:=uZ (P:=λt:aF=>t.Ok/\t.Real) (cells:=aF.cells) rs h1;exact⟨z,l,rfl,hl,by simpa using h2⟩
theorem ac8:xN enc w base spare held 23 λvs=>∃(z:Bool) (l:List aI),vs=[bg z l]/\(∀t∈l,t.Real)/\l.length<=j3:=by
 refine bZ.mono (mX (N:=j3) (es:=9) (by kernel_rfl) (by kernel_rfl) (by omega) (λvs h=>by obtain⟨t,rfl,_⟩:=h;rfl) FI adW) λvs h=> ?_
 obtain⟨z,rs,rfl,h1,h2⟩:=h;obtain⟨l,rfl,hl⟩:=uZ (P:=λt:aI=>t.Real) (cells:=aI.cells) rs h1;exact⟨z,l,rfl,hl,by simpa using h2⟩
theorem adY:xN enc w base spare held 24 λvs=>∃(z:Bool) (l:List Ty),vs=[bW z l]/\l.length<=j3:=by
 refine bZ.mono (mX (N:=j3) (es:=3) (by kernel_rfl) (by kernel_rfl) (by omega) (λvs h=>by obtain⟨t,rfl⟩:=h;rfl) FI (bZ.of o_ty)) λvs h=> ?_
 obtain⟨z,rs,rfl,h1,h2⟩:=h;obtain⟨l,rfl,_⟩:=uZ (P:=λ_:Ty=>True) (cells:=Ty.cells) rs (λr hr=>by obtain⟨t,e⟩:=h1 r hr;exact⟨t,e,trivial⟩);exact⟨z,l,rfl,by simpa using h2⟩
theorem adZ:xN enc w base spare held 26 λvs=>∃(z:Bool) (l:List Rl),vs=[gX z l]/\(∀t∈l,t.Ok)/\l.length<=j3:=by
 refine bZ.mono (mX (N:=j3) (es:=6) (by kernel_rfl) (by kernel_rfl) (by omega) (λvs h=>by obtain⟨t,rfl,_⟩:=h;rfl) FI (bZ.of o_rl)) λvs h=> ?_
 obtain⟨z,rs,rfl,h1,h2⟩:=h;obtain⟨l,rfl,hl⟩:=uZ (P:=λt:Rl=>t.Ok) (cells:=Rl.cells) rs h1;exact⟨z,l,rfl,hl,by simpa using h2⟩
structure aO.Laid(p:aO):Prop where
 tab:∀t∈p.ts,t.Ok/\t.Real
 bl:∀t∈p.gs,t.Real
 UZ:∀r∈p.rs,r.Ok
 ys:p.ys.length<=j3
 cs:p.cs.length<=j3
 rs:p.rs.length<=j3
theorem adv:xN enc w base spare held 28 λvs=>∃p:aO,vs=p.cells/\p.Laid:=by
 refine bZ.mono (zO [22,23,24,25,26] (Qs:=[_,_,_,_,_]) (by kernel_rfl) (by kernel_rfl) (by kernel_rfl) UY ⟨ac7,ac8,adY,OX,adZ,trivial⟩) λvs h=> ?_
 obtain⟨ps,rfl,m0⟩:=h;obtain⟨p0,q0,rfl,⟨z1,l1,rfl,h1,_⟩,m1⟩:=bE m0;obtain⟨p0,q0,rfl,⟨z2,l2,rfl,h2,_⟩,m2⟩:=bE m1;obtain⟨p0,q0,rfl,⟨z3,l3,rfl,h3⟩,m3⟩:=bE m2;obtain⟨p0,q0,rfl,⟨z4,l4,rfl,h4⟩,m4⟩:=bE m3;obtain⟨p0,q0,rfl,⟨z5,l5,rfl,h5,h6⟩,m5⟩:=bE m4;obtain rfl:=yI m5;exact⟨⟨z1,l1,z2,l2,z3,l3,z4,l4,z5,l5⟩,rfl,⟨h1,h2,h5,h3,h4,h6⟩⟩
end
section
variable{H:Type}{enc:TypeId×Value->H}{w:World}{base:Nat}{spare:Nat->Bool}{held:Bool}
theorem IU{t:TypeId}{k:IntKind}{r:Go.Reach}{b0:Nat}{v:Value}{d:DataW H}{p:List MemPlace}(ht:Tryz.prog.underlying t=some (.int k))
  (hval:Value.okWide Tryz.prog w r b0 t v) (hd:DataW.Trod enc Tryz.prog w base spare held t v d p):∃us,(∃i,us=[AV.int k i]/\(Lit.int k i).wf=true)/\∀ρ n,ak ρ n (λad=>w.cell? ad) us [v]:=by
 obtain⟨m,rfl⟩:=Go.WideShapes.okWide_int ht hval;obtain⟨fuel,hf⟩:=hd;exact zk ht _ _ _ hf
end
variable{c:ah}
def aF.cr(t t':aF):Prop:=∃z,t'={ t with oz:=z }
def aI.cr(g g':aI):Prop:=∃z,g'={ g with tz:=z }
theorem U0{α:Type}(f:α->AV)(s:St)(d:Nat)(l:List α)(hf:∀a∈l,cv s d (f a)=f a):(l.map λa=>[f a]).map (λr=>r.map (cv s d))=l.map λa=>[f a]:=by
 rw[Zf8];refine Zi4 λa ha=> ?_
 simp only[Function.comp,Zb1,Zd3,hf a ha]
theorem sv(s:St)(d:Nat)(k:IntKind)(i:Int):cv s d (.int k i)= .int k i:=by cases d<;>rfl
theorem yO(s:St)(d:Nat)(l:List Nat):cv s d (.str l)= .str l:=by cases d<;>rfl
theorem abQ(s:St)(d:Nat)(b:Bool):cv s d (.bool b)= .bool b:=by cases d<;>rfl
theorem Nb{s0 s:St}{v:AV}{l:List Int}(h:Mk 1 s0 s v (l.map cg))(d:Nat):∃z,cv s (d+1) v=ints z l:=by
 obtain⟨z,hz⟩:=h.own.cv (d:=d) h.row;refine⟨z,?_⟩;rw[hz];unfold ints;rw[U0 (λi=>AV.int .i64 i) s d l λa _=>sv s d _ _]
theorem abR{s0 s:St}{v:AV}{l:List (List Nat)}(h:Mk 1 s0 s v (l.map zY))(d:Nat):∃z,cv s (d+1) v=dL z l:=by
 obtain⟨z,hz⟩:=h.own.cv (d:=d) h.row;refine⟨z,?_⟩;rw[hz];unfold dL;rw[U0 (λi=>AV.str i) s d l λa _=>yO s d _]
theorem ac9{s0 s:St}{v:AV}{l:List Ty}(h:Mk 3 s0 s v (l.map Ty.cells))(d:Nat):∃z,cv s (d+1) v=bW z l:=by
 obtain⟨z,hz⟩:=h.own.cv (d:=d) h.row;refine⟨z,?_⟩;rw[hz];unfold bW;rw[Zf8];congr 1;refine Zi4 λa _=> ?_
 simp only[Function.comp,Ty.cells,Zb1,Zd3,yO,sv]
theorem ada{s0 s:St}{v:AV}{l:List Rl}(h:Mk 6 s0 s v (l.map Rl.cells))(d:Nat):∃z,cv s (d+1) v=gX z l:=by
 obtain⟨z,hz⟩:=h.own.cv (d:=d) h.row;refine⟨z,?_⟩;rw[hz];unfold gX;rw[Zf8];congr 1;refine Zi4 λa _=> ?_
 simp only[Function.comp,Rl.cells,Zb1,Zd3,yO,sv]
theorem Nc{α:Type}(P:α->α->Prop)(cells:α->List AV)(g:List AV->List AV):∀(ts:List α)(rows:List (List AV)),rows.length=ts.length->(∀(i:Nat)(t:α)(r:List AV),ts[i]? =some t->rows[i]? =some r->∃t',P t t'/\g r=cells t')->
  ∃tQ:List α,rows.map g=tQ.map cells/\tQ.length=ts.length/\∀(i:Nat)(t t':α),ts[i]? =some t->tQ[i]? =some t'->P t t'
 |[],rows,hl,_=>⟨[],by rw[Za7 hl];rfl,rfl,λi t t' h=>by simp at h⟩
 |t::ts,[],hl,_=>by simp at hl
 |t::ts,r::rows,hl,h=>by
  obtain⟨t',h1,h2⟩:=h 0 t r rfl rfl;obtain⟨tQ,k1,k2,k3⟩:=Nc P cells g ts rows (by simpa using hl) (λi t r h3 h4=>h (i+1) t r (by simpa using h3) (by simpa using h4));refine⟨t'::tQ,by simp[h2,k1],by simp[k2],λi u u' h3 h4=> ?_⟩;cases i with
  |zero=>simp at h3 h4;subst h3;subst h4;exact h1
  |succ i=>exact k3 i u u' (by simpa using h3) (by simpa using h4)
theorem TS.cv{s0 s:St}{V:AV}{ts:List aF}{rows:List (List AV)}(h:TS s0 s V ts rows)(d:Nat):∃z tQ,Go.Ai.cv s (d+2) V=tabs z tQ/\tQ.length=ts.length/\∀(i:Nat)(t t':aF),ts[i]? =some t->tQ[i]? =some t'->t.cr t':=by
 obtain⟨z,hz⟩:=h.out.own.cv (d:=d+1) h.out.row;obtain⟨tQ,k1,k2,k3⟩:=Nc aF.cr aF.cells (λr=>r.map (Go.Ai.cv s (d+1))) ts rows h.len λi t r hi hr=>by
  obtain⟨v,rfl,hM,_⟩:=h.xM i t r hi hr;obtain⟨z2,hz2⟩:=Nb hM d;refine⟨{ t with oz:=z2 },⟨z2,rfl⟩,?_⟩;simp only[aF.ay,aF.cells,Zb1,Zd3,yO,sv,hz2]
 refine⟨z,tQ,?_,k2,k3⟩;rw[hz,k1];rfl
theorem GS.cv{s0 s:St}{V:AV}{ts:List aI}{rows:List (List AV)}(h:GS s0 s V ts rows)(d:Nat):∃z tQ,Go.Ai.cv s (d+2) V=bg z tQ/\tQ.length=ts.length/\∀(i:Nat)(t t':aI),ts[i]? =some t->tQ[i]? =some t'->t.cr t':=by
 obtain⟨z,hz⟩:=h.out.own.cv (d:=d+1) h.out.row;obtain⟨tQ,k1,k2,k3⟩:=Nc aI.cr aI.cells (λr=>r.map (Go.Ai.cv s (d+1))) ts rows h.len λi t r hi hr=>by
  obtain⟨v,rfl,hM,_⟩:=h.xM i t r hi hr;obtain⟨z2,hz2⟩:=abR hM d;refine⟨{ t with tz:=z2 },⟨z2,rfl⟩,?_⟩;simp only[aI.ay,aI.cells,Zb1,Zd3,yO,sv,abQ,hz2]
 refine⟨z,tQ,?_,k2,k3⟩;rw[hz,k1];rfl
end
noncomputable section
open Go Go.Ai Go.Proofs
attribute [local go_sem ↓] aZ uD ev TG yg getLT wT JB Of uB uC GY E8 E9 Fa A9 Ba Bb Bc Bd Be Fb Fe Bf Bg Bh Bi Bj KY KZ K3
attribute [local go_sem] aZ uD ev
section
variable(c:ah)(F:Nat)(x0 x1 x2 x3 x4 x5 x6 x7 x8 x9 Aj vE:AV)(s:St)
def rm:Sh:=(sq sl (sq sl sl))
def rq:PX 47 rm:=⟨_,by conv=>lhs;reduce⟩
def l7:O2:=aZ c F bf rq.1 [x0] s
def Cn:=(by dsimp only[l7,rq,go_sem,Int.reduceOfNat]:l7 c F x0 s=_)
def ru:Sh:=(sq sl (sq sl sl))
def ry:PX 49 ru:=⟨_,by conv=>lhs;reduce⟩
def l8:O2:=aZ c F bf ry.1 [x0,x1] s
def Co:=(by dsimp only[l8,ry,go_sem,Int.reduceOfNat]:l8 c F x0 x1 s=_)
def kR:Sh:=(sq sl (sq sl (sq (sq sl (sb (sp 0 [0,3,4] [(2,[3])] (sq (sq sl (sc sl sl)) (sq (sb sl) sl))))) (sq sl sl))))
def sM:PX 96 kR:=⟨_,by conv=>lhs;reduce⟩
def rA:PL 96 kR 0:=⟨_,by conv=>lhs;reduce⟩
def fI(k2:Q2):Nat->Q2
 |0,_,_=>none
 |n+1,vs,s=>dX c F bf (fI k2 n) [k2] rA.1 vs s
def pH(k2:Q2)(n:Nat)(vs:List AV)(s:St):=(by dsimp only[fI,rA,go_sem,Int.reduceOfNat]:fI c F k2 (n+1) vs s=_)
def kS:Un->List Q2->Nat->Q2
 |.z,[k2]=>fI c F k2
 |_,_=>λ_=>eJ
def ny:O2:=aZ c F (kS c F) sM.1 [x0] s
def CU:=(by dsimp only[ny,sM, ↓kS,go_sem,Int.reduceOfNat]:ny c F x0 s=_)
def kT:Sh:=(sq sl (sq sl (sq (sq sl (sb (sp 0 [0,3,4] [(2,[3])] (sq (sq sl (sc sl sl)) (sq (sb sl) sl))))) (sq sl sl))))
def sN:PX 97 kT:=⟨_,by conv=>lhs;reduce⟩
def rC:PL 97 kT 0:=⟨_,by conv=>lhs;reduce⟩
def fJ(k2:Q2):Nat->Q2
 |0,_,_=>none
 |n+1,vs,s=>dX c F bf (fJ k2 n) [k2] rC.1 vs s
def pI(k2:Q2)(n:Nat)(vs:List AV)(s:St):=(by dsimp only[fJ,rC,go_sem,Int.reduceOfNat]:fJ c F k2 (n+1) vs s=_)
def kU:Un->List Q2->Nat->Q2
 |.z,[k2]=>fJ c F k2
 |_,_=>λ_=>eJ
def nA:O2:=aZ c F (kU c F) sN.1 [x0] s
def CV:=(by dsimp only[nA,sN, ↓kU,go_sem,Int.reduceOfNat]:nA c F x0 s=_)
def nB:Sh:=(sq sl (sq sl (sq (sq sl (sb (sp 0 [0,3,4] [(2,[3])] (sq (sq sl (sc sl sl)) (sq (sb sl) sl))))) (sq sl sl))))
def vT:PX 98 nB:=⟨_,by conv=>lhs;reduce⟩
def tR:PL 98 nB 0:=⟨_,by conv=>lhs;reduce⟩
def gx(k2:Q2):Nat->Q2
 |0,_,_=>none
 |n+1,vs,s=>dX c F bf (gx k2 n) [k2] tR.1 vs s
def kD(k2:Q2)(n:Nat)(vs:List AV)(s:St):=(by dsimp only[gx,tR,go_sem,Int.reduceOfNat]:gx c F k2 (n+1) vs s=_)
def nC:Un->List Q2->Nat->Q2
 |.z,[k2]=>gx c F k2
 |_,_=>λ_=>eJ
def p7:O2:=aZ c F (nC c F) vT.1 [x0] s
def FJ:=(by dsimp only[p7,vT, ↓nC,go_sem,Int.reduceOfNat]:p7 c F x0 s=_)
def nD:Sh:=(sq sl (sq sl (sq (sq sl (sb (sp 0 [0,3,4] [(2,[3])] (sq (sq sl (sc sl sl)) (sq (sb sl) sl))))) (sq sl sl))))
def vU:PX 99 nD:=⟨_,by conv=>lhs;reduce⟩
def tS:PL 99 nD 0:=⟨_,by conv=>lhs;reduce⟩
def gy(k2:Q2):Nat->Q2
 |0,_,_=>none
 |n+1,vs,s=>dX c F bf (gy k2 n) [k2] tS.1 vs s
def kE(k2:Q2)(n:Nat)(vs:List AV)(s:St):=(by dsimp only[gy,tS,go_sem,Int.reduceOfNat]:gy c F k2 (n+1) vs s=_)
def nE:Un->List Q2->Nat->Q2
 |.z,[k2]=>gy c F k2
 |_,_=>λ_=>eJ
def p8:O2:=aZ c F (nE c F) vU.1 [x0] s
def FK:=(by dsimp only[p8,vU, ↓nE,go_sem,Int.reduceOfNat]:p8 c F x0 s=_)
def l9:Sh:=(sq sl (sq sl (sq (sq sl (sb (sp 0 [0,3,4] [(2,[3])] (sq (sq sl (sc sl sl)) (sq (sb sl) sl))))) (sq sl sl))))
def tT:PX 100 l9:=⟨_,by conv=>lhs;reduce⟩
def sO:PL 100 l9 0:=⟨_,by conv=>lhs;reduce⟩
def fQ(k2:Q2):Nat->Q2
 |0,_,_=>none
 |n+1,vs,s=>dX c F bf (fQ k2 n) [k2] sO.1 vs s
def jR(k2:Q2)(n:Nat)(vs:List AV)(s:St):=(by dsimp only[fQ,sO,go_sem,Int.reduceOfNat]:fQ c F k2 (n+1) vs s=_)
def mb:Un->List Q2->Nat->Q2
 |.z,[k2]=>fQ c F k2
 |_,_=>λ_=>eJ
def oM:O2:=aZ c F (mb c F) tT.1 [x0] s
def Ep:=(by dsimp only[oM,tT, ↓mb,go_sem,Int.reduceOfNat]:oM c F x0 s=_)
def kV:Sh:=(sq sl (sq (sq sl (sc (sq sl sl) sl)) (sq (sq sl (sb (sp 0 [0,1,5] [(1,[4]),(2,[])] (sq (sq sl (sc sl sl)) (sq (sb (sq sl (sc (sq sl sl) sl))) sl))))) (sq sl sl))))
def sP:PX 102 kV:=⟨_,by conv=>lhs;reduce⟩
def rD:PL 102 kV 0:=⟨_,by conv=>lhs;reduce⟩
def fK(k1 k2:Q2):Nat->Q2
 |0,_,_=>none
 |n+1,vs,s=>dX c F bf (fK k1 k2 n) [k1,k2] rD.1 vs s
def pJ(k1 k2:Q2)(n:Nat)(vs:List AV)(s:St):=(by dsimp only[fK,rD,go_sem,Int.reduceOfNat]:fK c F k1 k2 (n+1) vs s=_)
def kW:Un->List Q2->Nat->Q2
 |.z,[k1,k2]=>fK c F k1 k2
 |_,_=>λ_=>eJ
def nF:O2:=aZ c F (kW c F) sP.1 [x0,x1] s
def CW:=(by dsimp only[nF,sP, ↓kW,go_sem,Int.reduceOfNat]:nF c F x0 x1 s=_)
def kX:Sh:=(sq sl (sq (sq sl (sc (sq sl sl) sl)) (sq (sq sl (sb (sp 0 [0,1,5] [(1,[4]),(2,[])] (sq (sq sl (sc sl sl)) (sq (sb (sq sl (sc (sq sl sl) sl))) sl))))) (sq sl sl))))
def sQ:PX 103 kX:=⟨_,by conv=>lhs;reduce⟩
def rE:PL 103 kX 0:=⟨_,by conv=>lhs;reduce⟩
def fL(k1 k2:Q2):Nat->Q2
 |0,_,_=>none
 |n+1,vs,s=>dX c F bf (fL k1 k2 n) [k1,k2] rE.1 vs s
def pK(k1 k2:Q2)(n:Nat)(vs:List AV)(s:St):=(by dsimp only[fL,rE,go_sem,Int.reduceOfNat]:fL c F k1 k2 (n+1) vs s=_)
def kY:Un->List Q2->Nat->Q2
 |.z,[k1,k2]=>fL c F k1 k2
 |_,_=>λ_=>eJ
def nG:O2:=aZ c F (kY c F) sQ.1 [x0,x1] s
def CX:=(by dsimp only[nG,sQ, ↓kY,go_sem,Int.reduceOfNat]:nG c F x0 x1 s=_)
def nH:Sh:=(sq sl (sq (sq sl (sc (sq sl sl) sl)) (sq (sq sl (sb (sp 0 [0,1,5] [(1,[4]),(2,[])] (sq (sq sl (sc sl sl)) (sq (sb (sq sl (sc (sq sl sl) sl))) sl))))) (sq sl sl))))
def vW:PX 104 nH:=⟨_,by conv=>lhs;reduce⟩
def tU:PL 104 nH 0:=⟨_,by conv=>lhs;reduce⟩
def gC(k1 k2:Q2):Nat->Q2
 |0,_,_=>none
 |n+1,vs,s=>dX c F bf (gC k1 k2 n) [k1,k2] tU.1 vs s
def rF(k1 k2:Q2)(n:Nat)(vs:List AV)(s:St):=(by dsimp only[gC,tU,go_sem,Int.reduceOfNat]:gC c F k1 k2 (n+1) vs s=_)
def nI:Un->List Q2->Nat->Q2
 |.z,[k1,k2]=>gC c F k1 k2
 |_,_=>λ_=>eJ
def p9:O2:=aZ c F (nI c F) vW.1 [x0,x1] s
def FL:=(by dsimp only[p9,vW, ↓nI,go_sem,Int.reduceOfNat]:p9 c F x0 x1 s=_)
def nJ:Sh:=(sq sl (sq (sq sl (sc (sq sl sl) sl)) (sq (sq sl (sb (sp 0 [0,1,5] [(1,[4]),(2,[])] (sq (sq sl (sc sl sl)) (sq (sb (sq sl (sc (sq sl sl) sl))) sl))))) (sq sl sl))))
def vX:PX 105 nJ:=⟨_,by conv=>lhs;reduce⟩
def tV:PL 105 nJ 0:=⟨_,by conv=>lhs;reduce⟩
def gF(k1 k2:Q2):Nat->Q2
 |0,_,_=>none
 |n+1,vs,s=>dX c F bf (gF k1 k2 n) [k1,k2] tV.1 vs s
def rG(k1 k2:Q2)(n:Nat)(vs:List AV)(s:St):=(by dsimp only[gF,tV,go_sem,Int.reduceOfNat]:gF c F k1 k2 (n+1) vs s=_)
def nK:Un->List Q2->Nat->Q2
 |.z,[k1,k2]=>gF c F k1 k2
 |_,_=>λ_=>eJ
def qa:O2:=aZ c F (nK c F) vX.1 [x0,x1] s
def FM:=(by dsimp only[qa,vX, ↓nK,go_sem,Int.reduceOfNat]:qa c F x0 x1 s=_)
def mg:Sh:=(sq sl (sq (sq sl (sc (sq sl sl) sl)) (sq (sq sl (sb (sp 0 [0,1,5] [(1,[4]),(2,[])] (sq (sq sl (sc sl sl)) (sq (sb (sq sl (sc (sq sl sl) sl))) sl))))) (sq sl sl))))
def tW:PX 106 mg:=⟨_,by conv=>lhs;reduce⟩
def sR:PL 106 mg 0:=⟨_,by conv=>lhs;reduce⟩
def fR(k1 k2:Q2):Nat->Q2
 |0,_,_=>none
 |n+1,vs,s=>dX c F bf (fR k1 k2 n) [k1,k2] sR.1 vs s
def qw(k1 k2:Q2)(n:Nat)(vs:List AV)(s:St):=(by dsimp only[fR,sR,go_sem,Int.reduceOfNat]:fR c F k1 k2 (n+1) vs s=_)
def mh:Un->List Q2->Nat->Q2
 |.z,[k1,k2]=>fR c F k1 k2
 |_,_=>λ_=>eJ
def oN:O2:=aZ c F (mh c F) tW.1 [x0,x1] s
def Er:=(by dsimp only[oN,tW, ↓mh,go_sem,Int.reduceOfNat]:oN c F x0 x1 s=_)
def tX:Sh:=(sq sl (sq sl (sq sl sl)))
def tY:PX 132 tX:=⟨_,by conv=>lhs;reduce⟩
def oO:O2:=aZ c F bf tY.1 [x0] s
def Es:=(by dsimp only[oO,tY,go_sem,Int.reduceOfNat]:oO c F x0 s=_)
def tZ:Sh:=(sq sl (sq sl (sq sl sl)))
def ua:PX 133 tZ:=⟨_,by conv=>lhs;reduce⟩
def oP:O2:=aZ c F bf ua.1 [x0] s
def Et:=(by dsimp only[oP,ua,go_sem,Int.reduceOfNat]:oP c F x0 s=_)
def ud:Sh:=(sq sl (sq sl sl))
def ue:PX 134 ud:=⟨_,by conv=>lhs;reduce⟩
def oQ:O2:=aZ c F bf ue.1 [x0,x1] s
def Eu:=(by dsimp only[oQ,ue,go_sem,Int.reduceOfNat]:oQ c F x0 x1 s=_)
def uf:Sh:=(sq sl (sq sl sl))
def ug:PX 135 uf:=⟨_,by conv=>lhs;reduce⟩
def oR:O2:=aZ c F bf ug.1 [x0,x1] s
def Ev:=(by dsimp only[oR,ug,go_sem,Int.reduceOfNat]:oR c F x0 x1 s=_)
def mj:Sh:=(sq sl (sq sl (sq (sq sl (sb (sp 0 [0,3,4] [(2,[3])] (sq (sq sl (sc sl sl)) (sq (sb sl) sl))))) (sq sl sl))))
def uh:PX 187 mj:=⟨_,by conv=>lhs;reduce⟩
def sS:PL 187 mj 0:=⟨_,by conv=>lhs;reduce⟩
def fS(k2:Q2):Nat->Q2
 |0,_,_=>none
 |n+1,vs,s=>dX c F bf (fS k2 n) [k2] sS.1 vs s
def jS(k2:Q2)(n:Nat)(vs:List AV)(s:St):=(by dsimp only[fS,sS,go_sem,Int.reduceOfNat]:fS c F k2 (n+1) vs s=_)
def mo:Un->List Q2->Nat->Q2
 |.z,[k2]=>fS c F k2
 |_,_=>λ_=>eJ
def oT:O2:=aZ c F (mo c F) uh.1 [x0] s
def Ew:=(by dsimp only[oT,uh, ↓mo,go_sem,Int.reduceOfNat]:oT c F x0 s=_)
def mq:Sh:=(sq sl (sq (sq sl (sc (sq sl sl) sl)) (sq (sq sl (sb (sp 0 [0,1,5] [(1,[4]),(2,[])] (sq (sq sl (sc sl sl)) (sq (sb (sq sl (sc (sq sl sl) sl))) sl))))) (sq sl sl))))
def uj:PX 188 mq:=⟨_,by conv=>lhs;reduce⟩
def sU:PL 188 mq 0:=⟨_,by conv=>lhs;reduce⟩
def fT(k1 k2:Q2):Nat->Q2
 |0,_,_=>none
 |n+1,vs,s=>dX c F bf (fT k1 k2 n) [k1,k2] sU.1 vs s
def qx(k1 k2:Q2)(n:Nat)(vs:List AV)(s:St):=(by dsimp only[fT,sU,go_sem,Int.reduceOfNat]:fT c F k1 k2 (n+1) vs s=_)
def mz:Un->List Q2->Nat->Q2
 |.z,[k1,k2]=>fT c F k1 k2
 |_,_=>λ_=>eJ
def oU:O2:=aZ c F (mz c F) uj.1 [x0,x1] s
def Ex:=(by dsimp only[oU,uj, ↓mz,go_sem,Int.reduceOfNat]:oU c F x0 x1 s=_)
end
section
variable{c:ah}(hc:Sem c)(F:Nat){x0 x1 x2 x3 x4 x5 x6 x7 x8 x9 Aj vE:AV}{s:St}{r:AV×St}
include hc
theorem zZ(h:l7 c F x0 s=some r):c 47 [x0] s=some (tidy s r):=hc.o0 F rm (by kernel_rfl) (by kernel_rfl) h
theorem z0(h:l8 c F x0 x1 s=some r):c 49 [x0,x1] s=some (tidy s r):=hc.o0 F ru (by kernel_rfl) (by kernel_rfl) h
theorem AU(h:ny c F x0 s=some r):c 96 [x0] s=some (tidy s r):=hc.o1 F (kS c F) kR (by kernel_rfl) (by kernel_rfl) (λ_ _ _=>by kernel_rfl) (λ_ _ _ _=>by kernel_rfl) (by kernel_rfl) h
theorem AW(h:nA c F x0 s=some r):c 97 [x0] s=some (tidy s r):=hc.o1 F (kU c F) kT (by kernel_rfl) (by kernel_rfl) (λ_ _ _=>by kernel_rfl) (λ_ _ _ _=>by kernel_rfl) (by kernel_rfl) h
theorem CY(h:p7 c F x0 s=some r):c 98 [x0] s=some (tidy s r):=hc.o1 F (nC c F) nB (by kernel_rfl) (by kernel_rfl) (λ_ _ _=>by kernel_rfl) (λ_ _ _ _=>by kernel_rfl) (by kernel_rfl) h
theorem CZ(h:p8 c F x0 s=some r):c 99 [x0] s=some (tidy s r):=hc.o1 F (nE c F) nD (by kernel_rfl) (by kernel_rfl) (λ_ _ _=>by kernel_rfl) (λ_ _ _ _=>by kernel_rfl) (by kernel_rfl) h
theorem Cp(h:oM c F x0 s=some r):c 100 [x0] s=some (tidy s r):=hc.o1 F (mb c F) l9 (by kernel_rfl) (by kernel_rfl) (λ_ _ _=>by kernel_rfl) (λ_ _ _ _=>by kernel_rfl) (by kernel_rfl) h
theorem AX(h:nF c F x0 x1 s=some r):c 102 [x0,x1] s=some (tidy s r):=hc.o1 F (kW c F) kV (by kernel_rfl) (by kernel_rfl) (λ_ _ _=>by kernel_rfl) (λ_ _ _ _=>by kernel_rfl) (by kernel_rfl) h
theorem AY(h:nG c F x0 x1 s=some r):c 103 [x0,x1] s=some (tidy s r):=hc.o1 F (kY c F) kX (by kernel_rfl) (by kernel_rfl) (λ_ _ _=>by kernel_rfl) (λ_ _ _ _=>by kernel_rfl) (by kernel_rfl) h
theorem C0(h:p9 c F x0 x1 s=some r):c 104 [x0,x1] s=some (tidy s r):=hc.o1 F (nI c F) nH (by kernel_rfl) (by kernel_rfl) (λ_ _ _=>by kernel_rfl) (λ_ _ _ _=>by kernel_rfl) (by kernel_rfl) h
theorem C6(h:qa c F x0 x1 s=some r):c 105 [x0,x1] s=some (tidy s r):=hc.o1 F (nK c F) nJ (by kernel_rfl) (by kernel_rfl) (λ_ _ _=>by kernel_rfl) (λ_ _ _ _=>by kernel_rfl) (by kernel_rfl) h
theorem Cq(h:oN c F x0 x1 s=some r):c 106 [x0,x1] s=some (tidy s r):=hc.o1 F (mh c F) mg (by kernel_rfl) (by kernel_rfl) (λ_ _ _=>by kernel_rfl) (λ_ _ _ _=>by kernel_rfl) (by kernel_rfl) h
theorem Cr(h:oO c F x0 s=some r):c 132 [x0] s=some (tidy s r):=hc.o0 F tX (by kernel_rfl) (by kernel_rfl) h
theorem Cs(h:oP c F x0 s=some r):c 133 [x0] s=some (tidy s r):=hc.o0 F tZ (by kernel_rfl) (by kernel_rfl) h
theorem Ct(h:oQ c F x0 x1 s=some r):c 134 [x0,x1] s=some (tidy s r):=hc.o0 F ud (by kernel_rfl) (by kernel_rfl) h
theorem Cu(h:oR c F x0 x1 s=some r):c 135 [x0,x1] s=some (tidy s r):=hc.o0 F uf (by kernel_rfl) (by kernel_rfl) h
theorem Cw(h:oT c F x0 s=some r):c 187 [x0] s=some (tidy s r):=hc.o1 F (mo c F) mj (by kernel_rfl) (by kernel_rfl) (λ_ _ _=>by kernel_rfl) (λ_ _ _ _=>by kernel_rfl) (by kernel_rfl) h
theorem Cx(h:oU c F x0 x1 s=some r):c 188 [x0,x1] s=some (tidy s r):=hc.o1 F (mz c F) mq (by kernel_rfl) (by kernel_rfl) (λ_ _ _=>by kernel_rfl) (λ_ _ _ _=>by kernel_rfl) (by kernel_rfl) h
end
end
section
open Go Go.Ai Go.Proofs
variable{c:ah}
theorem ad0(t:Ty)(H:Pos->Option AB)(n:Pos):az.run H n (.bin .neq (.struct [(0,.s),(1,.s),(2,.i)])) [.agg t.cells,.agg t.cells]=some (.val (.bool false)):=by
 simp[az.run,gO,mP,F0,eqFields,Ty.cells,nth,uJ,cF,iJ,dJ]
theorem ad1(t:Rl)(H:Pos->Option AB)(n:Pos):az.run H n (.bin .neq (.struct [(0,.i),(1,.i),(2,.s),(3,.s),(4,.s),(5,.i)])) [.agg t.cells,.agg t.cells]=some (.val (.bool false)):=by
 simp[az.run,gO,mP,F0,eqFields,Rl.cells,nth,uJ,cF,iJ,dJ]
theorem adb(t:Ty)(K:AV->Option (AV×St)):gL (.bin .neq (.struct [(0,.s),(1,.s),(2,.i)])) [.agg t.cells,.agg t.cells] K=K (.bool false):=cQ K (ad0 t)
theorem ade(t:Rl)(K:AV->Option (AV×St)):gL (.bin .neq (.struct [(0,.i),(1,.i),(2,.s),(3,.s),(4,.s),(5,.i)])) [.agg t.cells,.agg t.cells] K=K (.bool false):=cQ K (ad1 t)
theorem RY(z z':Bool)(l:List (Int))(hl:l.length<cD)(F:Nat)(k1 k2)(s:St):∀(m k f:Nat),m<f->k+m=l.length->gF c F k1 k2 f [ints z l,ints z' l,.int .i64 (k:Int)] s=k2 [] s:=by
 have lI:∀(z:Bool)(K:AV->St->Option (AV×St))(s:St),ai c (.lenB .l) [ints z l] s K=K (.int .i64 (l.length:Int)) s:=λz K s=>by unfold ints;rw[bO];simp
 intro m;induction m with
 |zero=>
  intro k f hf h1;obtain⟨f,rfl⟩:∃g,f=g+1:=⟨f - 1,by omega⟩
  obtain rfl:k=l.length:=by omega
  rw[rG];simp[lI]
 |succ m ih=>
  intro k f hf h1;obtain⟨f,rfl⟩:∃g,f=g+1:=⟨f - 1,by omega⟩
  have h:k<l.length:=by omega
  have w:aD .i64 ((k:Int)+1)=((k+1:Nat):Int):=wrap64 (by omega) (by unfold cD at hl;omega);rw[<-ih (k+1) f (by omega) (by omega),rG];unfold ints at lI ⊢;simp[lI,h,w]
theorem Me(hc:Sem c)(z z':Bool)(l:List (Int))(hl:l.length<cD)(s:St):c 105 [ints z l,ints z' l] s=some (.bool true,s):=by
 have lI:∀(z:Bool)(K:AV->St->Option (AV×St))(s:St),ai c (.lenB .l) [ints z l] s K=K (.int .i64 (l.length:Int)) s:=λz K s=>by unfold ints;rw[bO];simp
 have L:=RY (c:=c) z z' l hl (l.length+1) (λvs FE=>dW vs λx4 vs=>fP vs (some (x4,FE))) (λvs FF=>fP vs (ai c .move [.bool true] FF λx4 qm=>some (x4,qm))) s l.length 0 (l.length+1) (by omega) (by omega);rw[C6 hc (l.length+1) (r:=(.bool true,s)),aq (Plain.bool _) (aV.refl s)];rw[FM];simp at L;simp[lI,L]
theorem P5(z z':Bool)(l:List (List Nat))(hl:l.length<cD)(F:Nat)(k1 k2)(s:St):∀(m k f:Nat),m<f->k+m=l.length->fT c F k1 k2 f [dL z l,dL z' l,.int .i64 (k:Int)] s=k2 [] s:=by
 have lI:∀(z:Bool)(K:AV->St->Option (AV×St))(s:St),ai c (.lenB .l) [dL z l] s K=K (.int .i64 (l.length:Int)) s:=λz K s=>by unfold dL;rw[bO];simp
 intro m;induction m with
 |zero=>
  intro k f hf h1;obtain⟨f,rfl⟩:∃g,f=g+1:=⟨f - 1,by omega⟩
  obtain rfl:k=l.length:=by omega
  rw[qx];simp[lI]
 |succ m ih=>
  intro k f hf h1;obtain⟨f,rfl⟩:∃g,f=g+1:=⟨f - 1,by omega⟩
  have h:k<l.length:=by omega
  have w:aD .i64 ((k:Int)+1)=((k+1:Nat):Int):=wrap64 (by omega) (by unfold cD at hl;omega);rw[<-ih (k+1) f (by omega) (by omega),qx];unfold dL at lI ⊢;simp[lI,h,w]
theorem U1(hc:Sem c)(z z':Bool)(l:List (List Nat))(hl:l.length<cD)(s:St):c 188 [dL z l,dL z' l] s=some (.bool true,s):=by
 have lI:∀(z:Bool)(K:AV->St->Option (AV×St))(s:St),ai c (.lenB .l) [dL z l] s K=K (.int .i64 (l.length:Int)) s:=λz K s=>by unfold dL;rw[bO];simp
 have L:=P5 (c:=c) z z' l hl (l.length+1) (λvs FE=>dW vs λx4 vs=>fP vs (some (x4,FE))) (λvs FF=>fP vs (ai c .move [.bool true] FF λx4 qm=>some (x4,qm))) s l.length 0 (l.length+1) (by omega) (by omega);rw[Cx hc (l.length+1) (r:=(.bool true,s)),aq (Plain.bool _) (aV.refl s)];rw[Ex];simp at L;simp[lI,L]
theorem RZ(z z':Bool)(l:List (Ty))(hl:l.length<cD)(F:Nat)(k1 k2)(s:St):∀(m k f:Nat),m<f->k+m=l.length->gC c F k1 k2 f [bW z l,bW z' l,.int .i64 (k:Int)] s=k2 [] s:=by
 have lI:∀(z:Bool)(K:AV->St->Option (AV×St))(s:St),ai c (.lenB .l) [bW z l] s K=K (.int .i64 (l.length:Int)) s:=λz K s=>by unfold bW;rw[bO];simp
 intro m;induction m with
 |zero=>
  intro k f hf h1;obtain⟨f,rfl⟩:∃g,f=g+1:=⟨f - 1,by omega⟩
  obtain rfl:k=l.length:=by omega
  rw[rF];simp[lI]
 |succ m ih=>
  intro k f hf h1;obtain⟨f,rfl⟩:∃g,f=g+1:=⟨f - 1,by omega⟩
  have h:k<l.length:=by omega
  have w:aD .i64 ((k:Int)+1)=((k+1:Nat):Int):=wrap64 (by omega) (by unfold cD at hl;omega);rw[<-ih (k+1) f (by omega) (by omega),rF];unfold bW at lI ⊢;simp[lI,h,w,adb,Ty.len]
theorem VJ(hc:Sem c)(z z':Bool)(l:List (Ty))(hl:l.length<cD)(s:St):c 104 [bW z l,bW z' l] s=some (.bool true,s):=by
 have lI:∀(z:Bool)(K:AV->St->Option (AV×St))(s:St),ai c (.lenB .l) [bW z l] s K=K (.int .i64 (l.length:Int)) s:=λz K s=>by unfold bW;rw[bO];simp
 have L:=RZ (c:=c) z z' l hl (l.length+1) (λvs FE=>dW vs λx4 vs=>fP vs (some (x4,FE))) (λvs FF=>fP vs (ai c .move [.bool true] FF λx4 qm=>some (x4,qm))) s l.length 0 (l.length+1) (by omega) (by omega);rw[C0 hc (l.length+1) (r:=(.bool true,s)),aq (Plain.bool _) (aV.refl s)];rw[FL];simp at L;simp[lI,L]
theorem P6(z z':Bool)(l:List (Rl))(hl:l.length<cD)(F:Nat)(k1 k2)(s:St):∀(m k f:Nat),m<f->k+m=l.length->fR c F k1 k2 f [gX z l,gX z' l,.int .i64 (k:Int)] s=k2 [] s:=by
 have lI:∀(z:Bool)(K:AV->St->Option (AV×St))(s:St),ai c (.lenB .l) [gX z l] s K=K (.int .i64 (l.length:Int)) s:=λz K s=>by unfold gX;rw[bO];simp
 intro m;induction m with
 |zero=>
  intro k f hf h1;obtain⟨f,rfl⟩:∃g,f=g+1:=⟨f - 1,by omega⟩
  obtain rfl:k=l.length:=by omega
  rw[qw];simp[lI]
 |succ m ih=>
  intro k f hf h1;obtain⟨f,rfl⟩:∃g,f=g+1:=⟨f - 1,by omega⟩
  have h:k<l.length:=by omega
  have w:aD .i64 ((k:Int)+1)=((k+1:Nat):Int):=wrap64 (by omega) (by unfold cD at hl;omega);rw[<-ih (k+1) f (by omega) (by omega),qw];unfold gX at lI ⊢;simp[lI,h,w,ade]
theorem U2(hc:Sem c)(z z':Bool)(l:List (Rl))(hl:l.length<cD)(s:St):c 106 [gX z l,gX z' l] s=some (.bool true,s):=by
 have lI:∀(z:Bool)(K:AV->St->Option (AV×St))(s:St),ai c (.lenB .l) [gX z l] s K=K (.int .i64 (l.length:Int)) s:=λz K s=>by unfold gX;rw[bO];simp
 have L:=P6 (c:=c) z z' l hl (l.length+1) (λvs FE=>dW vs λx4 vs=>fP vs (some (x4,FE))) (λvs FF=>fP vs (ai c .move [.bool true] FF λx4 qm=>some (x4,qm))) s l.length 0 (l.length+1) (by omega) (by omega);rw[Cq hc (l.length+1) (r:=(.bool true,s)),aq (Plain.bool _) (aV.refl s)];rw[Er];simp at L;simp[lI,L]
theorem U3(hc:Sem c)(t t':aF)(h:t.cr t')(hl:t.b9.length<cD)(s:St)(hw:Wf s):c 134 [.agg t.cells,.agg t'.cells] s=some (.bool true,s):=by
 obtain⟨z,rfl⟩:=h;have bR:Wf (af s (.cells t.cells 0)):=bA hw;have x1:=(Grew.af bR (.cells ({ t with oz:=z }:aF).cells 0)).get (aC s (.cells t.cells 0));have x2:=aC (af s (.cells t.cells 0)) (.cells ({ t with oz:=z }:aF).cells 0);have S:=Me hc t.oz z t.b9 hl (af (af s (.cells t.cells 0)) (.cells ({ t with oz:=z }:aF).cells 0));rw[Ct hc 1 (r:=(.bool true,af (af s (.cells t.cells 0)) (.cells ({ t with oz:=z }:aF).cells 0))),aq (Plain.bool _) ((bk hw).trans (bk bR))];rw[Eu];have a0:t.cells[0]? =some (.str t.name):=rfl;have a1:t.cells[1]? =some (.int .u8 t.sh):=rfl;have a2:t.cells[2]? =some (.int .i64 t.a):=rfl;have a3:t.cells[3]? =some (.int .i64 t.b):=rfl;have a4:t.cells[4]? =some (ints t.oz t.b9):=rfl;have a5:t.cells[5]? =some (.int .i64 t.x):=rfl;have a6:t.cells[6]? =some (.int .i64 t.y):=rfl;have b0:({ t with oz:=z }:aF).cells[0]? =some (.str t.name):=rfl;have b1:({ t with oz:=z }:aF).cells[1]? =some (.int .u8 t.sh):=rfl;have b2:({ t with oz:=z }:aF).cells[2]? =some (.int .i64 t.a):=rfl;have b3:({ t with oz:=z }:aF).cells[3]? =some (.int .i64 t.b):=rfl;have b4:({ t with oz:=z }:aF).cells[4]? =some (ints z t.b9):=rfl;have b5:({ t with oz:=z }:aF).cells[5]? =some (.int .i64 t.x):=rfl;have b6:({ t with oz:=z }:aF).cells[6]? =some (.int .i64 t.y):=rfl;simp[x1,x2,a0,a1,a2,a3,a4,a5,a6,b0,b1,b2,b3,b4,b5,b6,S]
theorem U4(hc:Sem c)(t t':aI)(h:t.cr t')(hl:t.tg.length<cD)(s:St)(hw:Wf s):c 135 [.agg t.cells,.agg t'.cells] s=some (.bool true,s):=by
 obtain⟨z,rfl⟩:=h;have bR:Wf (af s (.cells t.cells 0)):=bA hw;have x1:=(Grew.af bR (.cells ({ t with tz:=z }:aI).cells 0)).get (aC s (.cells t.cells 0));have x2:=aC (af s (.cells t.cells 0)) (.cells ({ t with tz:=z }:aI).cells 0);have S:=U1 hc t.tz z t.tg hl (af (af s (.cells t.cells 0)) (.cells ({ t with tz:=z }:aI).cells 0));rw[Cu hc 1 (r:=(.bool true,af (af s (.cells t.cells 0)) (.cells ({ t with tz:=z }:aI).cells 0))),aq (Plain.bool _) ((bk hw).trans (bk bR))];rw[Ev];have a0:t.cells[0]? =some (.str t.name):=rfl;have b0:({ t with tz:=z }:aI).cells[0]? =some (.str t.name):=rfl;have a1:t.cells[1]? =some (.str t.kP):=rfl;have b1:({ t with tz:=z }:aI).cells[1]? =some (.str t.kP):=rfl;have a2:t.cells[2]? =some (.str t.iV):=rfl;have b2:({ t with tz:=z }:aI).cells[2]? =some (.str t.iV):=rfl;have a3:t.cells[3]? =some (.int .i64 t.since):=rfl;have b3:({ t with tz:=z }:aI).cells[3]? =some (.int .i64 t.since):=rfl;have a4:t.cells[4]? =some (.int .i64 t.side):=rfl;have b4:({ t with tz:=z }:aI).cells[4]? =some (.int .i64 t.side):=rfl;have a5:t.cells[5]? =some (.str t.kQ):=rfl;have b5:({ t with tz:=z }:aI).cells[5]? =some (.str t.kQ):=rfl;have a6:t.cells[6]? =some (.bool t.host):=rfl;have b6:({ t with tz:=z }:aI).cells[6]? =some (.bool t.host):=rfl;have a7:t.cells[7]? =some (.bool t.access):=rfl;have b7:({ t with tz:=z }:aI).cells[7]? =some (.bool t.access):=rfl;have a8:t.cells[8]? =some (dL t.tz t.tg):=rfl;have b8:({ t with tz:=z }:aI).cells[8]? =some (dL z t.tg):=rfl;simp[x1,x2,a0,a1,a2,a3,a4,a5,a6,a7,a8,b0,b1,b2,b3,b4,b5,b6,b7,b8,S]
theorem OP(hc:Sem c)(z z':Bool)(l l':List (aF))(hl:l.length<cD)(U5:l'.length=l.length)(hs:∀(i:Nat)(t t':aF),l[i]? =some t->l'[i]? =some t'->t.cr t')(hr:∀t∈l,t.b9.length<cD)(F:Nat)(k1 k2)(s:St)(hw:Wf s):∀(m k f:Nat),m<f->k+m=l.length->fK c F k1 k2 f [tabs z l,tabs z' l',.int .i64 (k:Int)] s=k2 [] s:=by
 have lI:∀(z:Bool)(l:List (aF))(K:AV->St->Option (AV×St))(s:St),ai c (.lenB .l) [tabs z l] s K=K (.int .i64 (l.length:Int)) s:=λz l K s=>by unfold tabs;rw[bO];simp
 intro m;induction m with
 |zero=>
  intro k f hf h1;obtain⟨f,rfl⟩:∃g,f=g+1:=⟨f - 1,by omega⟩
  obtain rfl:k=l.length:=by omega
  rw[pJ];simp[lI]
 |succ m ih=>
  intro k f hf h1;obtain⟨f,rfl⟩:∃g,f=g+1:=⟨f - 1,by omega⟩
  have h:k<l.length:=by omega
  have h':k<l'.length:=by omega
  have w:aD .i64 ((k:Int)+1)=((k+1:Nat):Int):=wrap64 (by omega) (by unfold cD at hl;omega);have S:=U3 hc l[k] l'[k] (hs k _ _ (H1 h) (H1 h')) (hr _ (Zc0 h)) s hw;rw[<-ih (k+1) f (by omega) (by omega),pJ];unfold tabs at lI ⊢;simp[lI,h,h',w,S,aF.len]
theorem R1(hc:Sem c)(z z':Bool)(l l':List (aF))(hl:l.length<cD)(U5:l'.length=l.length)(hs:∀(i:Nat)(t t':aF),l[i]? =some t->l'[i]? =some t'->t.cr t')(hr:∀t∈l,t.b9.length<cD)(s:St)(hw:Wf s):c 102 [tabs z l,tabs z' l'] s=some (.bool true,s):=by
 have lI:∀(z:Bool)(l:List (aF))(K:AV->St->Option (AV×St))(s:St),ai c (.lenB .l) [tabs z l] s K=K (.int .i64 (l.length:Int)) s:=λz l K s=>by unfold tabs;rw[bO];simp
 have L:=OP hc z z' l l' hl U5 hs hr (l.length+1) (λvs FE=>dW vs λx4 vs=>fP vs (some (x4,FE))) (λvs FF=>fP vs (ai c .move [.bool true] FF λx4 qm=>some (x4,qm))) s hw l.length 0 (l.length+1) (by omega) (by omega);rw[AX hc (l.length+1) (r:=(.bool true,s)),aq (Plain.bool _) (aV.refl s)];rw[CW];simp at L;simp[lI,U5,L]
theorem OQ(hc:Sem c)(z z':Bool)(l l':List (aI))(hl:l.length<cD)(U5:l'.length=l.length)(hs:∀(i:Nat)(t t':aI),l[i]? =some t->l'[i]? =some t'->t.cr t')(hr:∀t∈l,t.tg.length<cD)(F:Nat)(k1 k2)(s:St)(hw:Wf s):∀(m k f:Nat),m<f->k+m=l.length->fL c F k1 k2 f [bg z l,bg z' l',.int .i64 (k:Int)] s=k2 [] s:=by
 have lI:∀(z:Bool)(l:List (aI))(K:AV->St->Option (AV×St))(s:St),ai c (.lenB .l) [bg z l] s K=K (.int .i64 (l.length:Int)) s:=λz l K s=>by unfold bg;rw[bO];simp
 intro m;induction m with
 |zero=>
  intro k f hf h1;obtain⟨f,rfl⟩:∃g,f=g+1:=⟨f - 1,by omega⟩
  obtain rfl:k=l.length:=by omega
  rw[pK];simp[lI]
 |succ m ih=>
  intro k f hf h1;obtain⟨f,rfl⟩:∃g,f=g+1:=⟨f - 1,by omega⟩
  have h:k<l.length:=by omega
  have h':k<l'.length:=by omega
  have w:aD .i64 ((k:Int)+1)=((k+1:Nat):Int):=wrap64 (by omega) (by unfold cD at hl;omega);have S:=U4 hc l[k] l'[k] (hs k _ _ (H1 h) (H1 h')) (hr _ (Zc0 h)) s hw;rw[<-ih (k+1) f (by omega) (by omega),pK];unfold bg at lI ⊢;simp[lI,h,h',w,S,aI.len]
theorem R2(hc:Sem c)(z z':Bool)(l l':List (aI))(hl:l.length<cD)(U5:l'.length=l.length)(hs:∀(i:Nat)(t t':aI),l[i]? =some t->l'[i]? =some t'->t.cr t')(hr:∀t∈l,t.tg.length<cD)(s:St)(hw:Wf s):c 103 [bg z l,bg z' l'] s=some (.bool true,s):=by
 have lI:∀(z:Bool)(l:List (aI))(K:AV->St->Option (AV×St))(s:St),ai c (.lenB .l) [bg z l] s K=K (.int .i64 (l.length:Int)) s:=λz l K s=>by unfold bg;rw[bO];simp
 have L:=OQ hc z z' l l' hl U5 hs hr (l.length+1) (λvs FE=>dW vs λx4 vs=>fP vs (some (x4,FE))) (λvs FF=>fP vs (ai c .move [.bool true] FF λx4 qm=>some (x4,qm))) s hw l.length 0 (l.length+1) (by omega) (by omega);rw[AY hc (l.length+1) (r:=(.bool true,s)),aq (Plain.bool _) (aV.refl s)];rw[CX];simp at L;simp[lI,U5,L]
structure aO.cr(p p':aO):Prop where
 tl:p'.ts.length=p.ts.length
 ts:∀(i:Nat)(t t':aF),p.ts[i]? =some t->p'.ts[i]? =some t'->t.cr t'
 gl:p'.gs.length=p.gs.length
 gs:∀(i:Nat)(t t':aI),p.gs[i]? =some t->p'.gs[i]? =some t'->t.cr t'
 ys:p'.ys=p.ys
 cs:p'.cs=p.cs
 rs:p'.rs=p.rs
theorem PS.cv{s0 s:St}{Vs:List AV}{p:aO}(h:PS s0 s Vs p)(d:Nat):∃p',Go.Ai.cv s (d+3) (.agg Vs)= .agg p'.cells/\p.cr p':=by obtain⟨V1,V2,V3,V4,V5,r1,r2,rfl,h1,h2,h3,h4,h5⟩:=h.all;obtain⟨z1,tQ,e1,l1,k1⟩:=h1.cv d;obtain⟨z2,gs',e2,l2,k2⟩:=h2.cv d;obtain⟨z3,e3⟩:=ac9 h3 (d+1);obtain⟨z4,e4⟩:=Nb h4 (d+1);obtain⟨z5,e5⟩:=ada h5 (d+1);refine⟨⟨z1,tQ,z2,gs',z3,p.ys,z4,p.cs,z5,p.rs⟩,?_,⟨l1,k1,l2,k2,rfl,rfl,rfl⟩⟩;rw[E7];simp only[Zb1,Zd3,e1,e2,e3,e4,e5];rfl
structure aO.Big(p:aO):Prop where
 ts:p.ts.length<cD
 b9:∀t∈p.ts,t.b9.length<cD
 gs:p.gs.length<cD
 tg:∀t∈p.gs,t.tg.length<cD
 ys:p.ys.length<cD
 cs:p.cs.length<cD
 rs:p.rs.length<cD
theorem P7(hc:Sem c)(p p':aO)(h:p.cr p')(hb:p.Big)(s:St)(hw:Wf s):c 49 [.agg p.cells,.agg p'.cells] s=some (.bool true,s):=by
 have bR:Wf (af s (.cells p.cells 0)):=bA hw;have eM:Wf (af (af s (.cells p.cells 0)) (.cells p'.cells 0)):=bA bR;have x1:=(Grew.af bR (.cells p'.cells 0)).get (aC s (.cells p.cells 0));have x2:=aC (af s (.cells p.cells 0)) (.cells p'.cells 0);have S1:=R1 hc p.tz p'.tz p.ts p'.ts hb.ts h.tl h.ts hb.b9 _ eM;have S2:=R2 hc p.gz p'.gz p.gs p'.gs hb.gs h.gl h.gs hb.tg _ eM;have S3:=VJ hc p.yz p'.yz p.ys hb.ys (af (af s (.cells p.cells 0)) (.cells p'.cells 0));have S4:=Me hc p.cz p'.cz p.cs hb.cs (af (af s (.cells p.cells 0)) (.cells p'.cells 0));have S5:=U2 hc p.rz p'.rz p.rs hb.rs (af (af s (.cells p.cells 0)) (.cells p'.cells 0));rw[z0 hc 1 (r:=(.bool true,af (af s (.cells p.cells 0)) (.cells p'.cells 0))),aq (Plain.bool _) ((bk hw).trans (bk bR))];rw[Co];have y3:p'.cells[2]? =some (bW p'.yz p.ys):=by rw[<-h.ys];rfl
 have y4:p'.cells[3]? =some (ints p'.cz p.cs):=by rw[<-h.cs];rfl
 have y5:p'.cells[4]? =some (gX p'.rz p.rs):=by rw[<-h.rs];rfl
 simp[-aO.c2,-aO.c3,-aO.c4,x1,x2,S1,S2,S3,S4,S5,y3,y4,y5,show p.cells[2]? =some (bW p.yz p.ys)from rfl,show p.cells[3]? =some (ints p.cz p.cs)from rfl,show p.cells[4]? =some (gX p.rz p.rs)from rfl]
theorem P8(hc:Sem c)(p:aO)(hp:p.fN)(hr:∀r∈p.rs,r.Ok)(q1:Pos)(F:Nat)(st:St)(hw:Wf st)(hq:st.heap.get q1=some (.cells p.cells 0))(k1 k2):∀(m k:Nat),p.rs.length<=k+m->k<=p.rs.length->k<=64->
  fk c F k1 k2 (m+1) [.ptr q1 0,.int .i64 (k:Int)] st=if(ek p m k).2=0 then k2 [] st else k1 [.int .i64 (ek p m k).1,.int .i64 (ek p m k).2] st:=by
 have hl:=hp.rs;intro m;induction m with
 |zero=>
  intro k h3 h4 h64;obtain rfl:k=p.rs.length:=by omega
  rw[kN];simp[ek,hq]
 |succ m ih=>
  intro k h3 h4 h64;by_cases h:k<p.rs.length
  . have w:aD .i64 ((k:Int)+1)=((k+1:Nat):Int):=wrap64 (by omega) (by omega);obtain⟨n,hk⟩:∃n:Nat,p.rs[k].k=(n:Int):=⟨p.rs[k].k.toNat,by have:=(hr _ (Zc0 h)).1;omega⟩
    have hn:n<256:=(by have:=(hr _ (Zc0 h)).2;omega);have I8:=VI hc p hp p.rs[k] n hk hn st hw;have hS:uF p p.rs[k]=En (kd n) p p.rs[k]:=(by unfold uF;rw[hk];rfl);rw[<-hS]at I8;rw[kN,ek,H1 h];simp only;by_cases h5:uF p p.rs[k]=0
    .   simp only[h5,ne_eq,not_true,Zd7];by_cases h6:k=64
        .rw[Za6 h6];have UP:decide ((64:Int)<=(k:Int))=true:=(by simp only[Zc6];omega);simp[gX,h,hq,I8,h5,UP]
        .have g2:=ih (k+1) (by omega) (by omega) (by omega);simp only[h6,Zd7];rw[<-g2];have UP:¬(64:Int)<=(k:Int):=(by omega);simp[gX,h,hq,I8,h5,UP,w]
    .   simp only[ne_eq,h5,Zl0,Ze8,Zd7];simp[gX,h,hq,I8,h5]
  .obtain rfl:k=p.rs.length:=(by omega);rw[kN];simp[ek,hq]
theorem U6(hc:Sem c)(p:aO)(hp:p.fN)(hR:Kk c p)(hr:∀r∈p.rs,r.Ok)(st:St)(hw:Wf st):c 53 [.agg p.cells] st=some (.tuple [.int .i64 (bU p).1,.int .i64 (bU p).2],st):=by
 have mT:Plain (.tuple [.int .i64 (bU p).1,.int .i64 (bU p).2]):=Plain.tuple (by simp[Plain.int]);have bR:Wf (af st (.cells p.cells 0)):=bA hw;have DN:=Grew.af hw (.cells p.cells 0);have dm:(af st (.cells p.cells 0)).heap.get st.next=some (.cells p.cells 0):=aC _ _;have B:=VH hc p hp hR _ bR;rw[Ef hc 101 (r:=(.tuple [.int .i64 (bU p).1,.int .i64 (bU p).2],af st (.cells p.cells 0))),aq mT DN.keeps];rw[G0];have L:∀k1 k2,fk c 101 k1 k2 101 [.ptr st.next 0,.int .i64 0] (af st (.cells p.cells 0))=if(ek p 100 0).2=0 then k2 [] (af st (.cells p.cells 0))else k1 [.int .i64 (ek p 100 0).1,.int .i64 (ek p 100 0).2] (af st (.cells p.cells 0)):=
   λk1 k2=>P8 hc p hp hr st.next 101 _ bR dm k1 k2 100 0 (by have:=hp.rs;omega) (by omega) (by omega)
 by_cases h:(fj p).2=0
 . have e:bU p=ek p 100 0:=(by unfold bU;rw[Za5 (by simp[h])]);rw[e];by_cases h2:(ek p 100 0).2=0
   .have:=Eo p 100 0 h2;simp[dm,B,h,L,h2,this]
   .simp[dm,B,h,L,h2]
 .have e:bU p=fj p:=(by unfold bU;rw[Za6 h]);rw[e];simp[dm,B,h]
theorem FN{α β:Type}{P:α->α->Prop}{l l':List α}(hl:l'.length=l.length)(hs:∀(i:Nat)(t t':α),l[i]? =some t->l'[i]? =some t'->P t t')(f:α->β)(hf:∀t t',P t t'->f t'=f t)(i:Nat):l'[i]?.map f=l[i]?.map f:=by
 by_cases h:i<l.length
 .have h':i<l'.length:=(by omega);rw[H1 h,H1 h'];simp only[Zd9,H0];exact hf _ _ (hs i _ _ (H1 h) (H1 h'))
 .rw[Zb4 (by omega),Zb4 (by omega)]
theorem U7{t t':aF}(h:t.cr t'):lZ t'=lZ t:=by obtain⟨z,rfl⟩:=h;rfl
theorem K9{t t':aF}(h:t.cr t'):bN t'=bN t:=by obtain⟨z,rfl⟩:=h;rfl
theorem Z3{t t':aI}(h:t.cr t'):eT t'=eT t:=by obtain⟨z,rfl⟩:=h;rfl
variable{p p':aO}
theorem aO.cr.nm(h:p.cr p')(s:List Nat):gW p'.ts s=gW p.ts s:=funext λi=>by
 unfold gW;rw[FN h.tl h.ts aF.name (λt t' k=>by obtain⟨z,rfl⟩:=k;rfl)]
theorem aO.cr.gm(h:p.cr p')(s:List Nat):gw p'.gs s=gw p.gs s:=funext λi=>by
 unfold gw;rw[FN h.gl h.gs aI.name (λt t' k=>by obtain⟨z,rfl⟩:=k;rfl)]
theorem aO.cr.at(h:p.cr p'):∀(m k:Nat),cV p'.ts m k=cV p.ts m k
 |0,_=>rfl
 |m +1,k=>by
  have ih:=h.at m (k+1);unfold cV;by_cases hk:k<p.ts.length
  .have jy:k<p'.ts.length:=(by rw[h.tl];exact hk);have hs:=h.ts k _ _ (H1 hk) (H1 jy);have hn:p'.ts[k].name=p.ts[k].name:=(by obtain⟨z,e⟩:=hs;rw[e]);rw[H1 hk,H1 jy];simp only[U7 hs,hn,h.nm,ih]
  .have jy:¬k<p'.ts.length:=(by rw[h.tl];exact hk);rw[Zb4 (by omega),Zb4 (by omega)]
theorem aO.cr.sL(h:p.cr p'):bh p'.ts=bh p.ts:=by unfold bh;rw[h.tl,h.at]
theorem aO.cr.gsAt(h:p.cr p'):∀(m k:Nat),fZ p'.gs m k=fZ p.gs m k
 |0,_=>rfl
 |m +1,k=>by
  have ih:=h.gsAt m (k+1);unfold fZ;by_cases hk:k<p.gs.length
  .have jy:k<p'.gs.length:=(by rw[h.gl];exact hk);have hs:=h.gs k _ _ (H1 hk) (H1 jy);have hn:p'.gs[k].name=p.gs[k].name:=(by obtain⟨z,e⟩:=hs;rw[e]);rw[H1 hk,H1 jy];simp only[Z3 hs,hn,h.gm,ih]
  .have jy:¬k<p'.gs.length:=(by rw[h.gl];exact hk);rw[Zb4 (by omega),Zb4 (by omega)]
theorem aO.cr.unk(h:p.cr p')(t:Ty):jt p'.gs t=jt p.gs t:=by unfold jt;rw[h.gm,h.gm,h.gl]
theorem aO.cr.tyAt(h:p.cr p')(ts:List Ty):∀(m k:Nat),ey p'.gs ts m k=ey p.gs ts m k
 |0,_=>rfl
 |m+1,k=>by
  have ih:=h.tyAt ts m (k+1);unfold ey;cases ts[k]? with
  |none=>rfl
  |some t=>simp only[h.gl,h.unk,ih]
theorem aO.cr.roll(h:p.cr p'):bD p'.gs p'.ys=bD p.gs p.ys:=by unfold bD;rw[h.ys,h.gsAt,h.tyAt]
theorem aO.cr.sum(h:p.cr p'):aW p'.ts=aW p.ts:=by
 unfold aW;congr 1;refine Zi3 λi=> ?_
 rw[Zb6,Zb6];exact FN h.tl h.ts bN (λt t' k=>K9 k) i
theorem aO.cr.basis(h:p.cr p'):fj p'=fj p:=by unfold fj;rw[h.sL,h.roll,h.cs,h.gl,h.sum]
theorem aO.cr.gi(h:p.cr p')(s:List Nat):Go.Proofs.YtlkadmkojjceiaaGreatDoor.gi p' s=Go.Proofs.YtlkadmkojjceiaaGreatDoor.gi p s:=by unfold Go.Proofs.YtlkadmkojjceiaaGreatDoor.gi;rw[h.gm,h.gl]
theorem aO.cr.ti(h:p.cr p')(s:List Nat):Go.Proofs.YtlkadmkojjceiaaGreatDoor.ti p' s=Go.Proofs.YtlkadmkojjceiaaGreatDoor.ti p s:=by unfold Go.Proofs.YtlkadmkojjceiaaGreatDoor.ti;rw[h.nm,h.tl]
theorem aO.cr.rj(h:p.cr p')(i:Int):Go.Proofs.YtlkadmkojjceiaaGreatDoor.rj p' i=Go.Proofs.YtlkadmkojjceiaaGreatDoor.rj p i:=by
 unfold Go.Proofs.YtlkadmkojjceiaaGreatDoor.rj;have:=FN h.tl h.ts bN (λt t' k=>K9 k) i.toNat;cases h1:p.ts[i.toNat]? with
 |none=>rw[h1]at this;cases h2:p'.ts[i.toNat]? with
  |none=>rfl
  |some t=>rw[h2]at this;cases this
 |some t=>rw[h1]at this;cases h2:p'.ts[i.toNat]? with
  |none=>rw[h2]at this;cases this
  |some t'=>rw[h2]at this;simp only[Zd9,H0]at this;simp only[this]
theorem aO.cr.rule(h:p.cr p')(r:Rl):uF p' r=uF p r:=by
 unfold uF En UN OK;simp only[h.gi,h.ti,h.rj]
theorem aO.cr.gX(h:p.cr p'):∀(m k:Nat),ek p' m k=ek p m k
 |0,_=>rfl
 |m+1,k=>by
  have ih:=h.gX m (k+1);unfold ek;rw[h.rs];cases p.rs[k]? with
  |none=>rfl
  |some r=>simp only[h.rule,ih]
theorem aO.cr.check(h:p.cr p'):bU p'=bU p:=by unfold bU;rw[h.basis,h.gX]
def z7(p:aO)(m:Nat):Bool:=decide (p.ts.length<=m)&&decide (p.gs.length<=m)&&decide (p.ys.length<=m)&&decide (p.cs.length<=m)&&decide (p.rs.length<=m)
theorem abS{p:aO}(h:z7 p 100=true)(ct:∀t∈p.ts,t.Ok):p.fN:=by
 unfold z7 at h;simp only[Za4,Zc6]at h;exact⟨h.1.1.1.1,h.1.1.1.2,h.1.1.2,h.1.2,h.2,ct⟩
theorem ad2(hc:Sem c)(p:aO)(m:Nat)(st:St)(hw:Wf st):c 44 [.agg p.cells,.int .i64 (m:Int)] st=some (.bool (z7 p m),st):=by
 have hp:=aC st (.cells p.cells 0);rw[Kf hc 1 (r:=(.bool (z7 p m),af st (.cells p.cells 0))),aq (Plain.bool _) (bk hw)];rw[MT];unfold z7;by_cases h1:p.ts.length<=m
 . by_cases h2:p.gs.length<=m
   . by_cases h3:p.ys.length<=m
     .  by_cases h4:p.cs.length<=m
        .by_cases h5:p.rs.length<=m<;>simp[h1,h2,h3,h4,h5]
        .simp[h1,h2,h3,h4]
     .  simp[h1,h2,h3]
   .simp[h1,h2]
 .simp[h1]
end
section
open Go Go.Ai Go.Proofs
section
variable{p p':aO}
theorem aO.cr.symm(h:p.cr p'):p'.cr p where
 tl:=h.tl.symm
 ts i t t' h1 h2:=by obtain⟨z,rfl⟩:=h.ts i t' t h2 h1;exact⟨t'.oz,rfl⟩
 gl:=h.gl.symm
 gs i t t' h1 h2:=by obtain⟨z,rfl⟩:=h.gs i t' t h2 h1;exact⟨t'.tz,rfl⟩
 ys:=h.ys.symm
 cs:=h.cs.symm
 rs:=h.rs.symm
theorem aO.cr.trans{q:aO}(h:p.cr p')(k:p'.cr q):p.cr q where
 tl:=k.tl.trans h.tl
 ts i t t' h1 h2:=by
  have hi:i<p'.ts.length:=by rw[h.tl];exact(H3.1 h1).1
  have e:=H1 hi;obtain⟨z,e1⟩:=h.ts i _ _ h1 e;obtain⟨z2,e2⟩:=k.ts i _ _ e h2;exact⟨z2,by rw[e2,e1]⟩
 gl:=k.gl.trans h.gl
 gs i t t' h1 h2:=by
  have hi:i<p'.gs.length:=by rw[h.gl];exact(H3.1 h1).1
  have e:=H1 hi;obtain⟨z,e1⟩:=h.gs i _ _ h1 e;obtain⟨z2,e2⟩:=k.gs i _ _ e h2;exact⟨z2,by rw[e2,e1]⟩
 ys:=k.ys.trans h.ys
 cs:=k.cs.trans h.cs
 rs:=k.rs.trans h.rs
theorem aO.cr.tab(h:p.cr p'){t':aF}(ht:t'∈p'.ts):∃t∈p.ts,t.cr t':=by
 obtain⟨i,hi,rfl⟩:=Zg4.1 ht;have yf:i<p.ts.length:=by rw[<-h.tl];exact hi
 exact⟨p.ts[i],Zc0 yf,h.ts i _ _ (H1 yf) (H1 hi)⟩
theorem aO.cr.bl(h:p.cr p'){t':aI}(ht:t'∈p'.gs):∃t∈p.gs,t.cr t':=by
 obtain⟨i,hi,rfl⟩:=Zg4.1 ht;have yf:i<p.gs.length:=by rw[<-h.gl];exact hi
 exact⟨p.gs[i],Zc0 yf,h.gs i _ _ (H1 yf) (H1 hi)⟩
theorem aO.cr.FO(h:p.cr p')(hp:p.fN):p'.fN where
 ts:=by rw[h.tl];exact hp.ts
 gs:=by rw[h.gl];exact hp.gs
 ys:=by rw[h.ys];exact hp.ys
 cs:=by rw[h.cs];exact hp.cs
 rs:=by rw[h.rs];exact hp.rs
 ok t ht:=by obtain⟨u,hu,z,rfl⟩:=h.tab ht;have:=hp.ok u hu;exact⟨this.1,this.2⟩
theorem aO.cr.real(h:p.cr p')(hp:p.Real):p'.Real where
 ts:=by rw[h.tl];exact hp.ts
 tab t ht:=by obtain⟨u,hu,z,rfl⟩:=h.tab ht;have:=hp.tab u hu;exact⟨this.1,this.2⟩
 gs:=by rw[h.gl];exact hp.gs
 bl t ht:=by obtain⟨u,hu,z,rfl⟩:=h.bl ht;have:=hp.bl u hu;exact⟨this.1,this.2,this.3,this.4,this.5⟩
 ys:=by rw[h.ys];exact hp.ys
 cs:=by rw[h.cs];exact hp.cs
 rs:=by rw[h.rs];exact hp.rs
theorem aO.Real.aeS(hp:p.Real)(hk:∀t∈p.ts,t.Ok):p.Big where
 ts:=by have:=hp.ts;unfold cD;omega
 b9 t ht:=(hk t ht).2
 gs:=by have:=hp.gs;unfold cD;omega
 tg t ht:=by have h:=(hp.bl t ht).tg;have h:t.tg.length<=1048576:=h;unfold cD;omega
 ys:=by have h:=hp.ys;have h:p.ys.length<=1048576:=h;unfold cD;omega
 cs:=by have h:=hp.cs;have h:p.cs.length<=1048576:=h;unfold cD;omega
 rs:=by have h:=hp.rs;have h:p.rs.length<=1048576:=h;unfold cD;omega
theorem OR(s:St)(d es:Nat)(z:Bool)(l:List (List AV)):cv s d (ro es z l)=ro es z l:=by unfold ro;split<;>cases d<;>rfl
theorem La(s:St)(d:Nat)(p:aO):cv s (d+1) (.agg p.cells)= .agg p.cells:=by
 rw[E7];simp only[aO.cells,tabs,bg,bW,ints,gX,Zb1,Zd3,OR]
theorem abT(t:aF){v:AV}(h:bK v):∀x∈t.ay v,bK x:=λx hx=>by simp only[aF.ay,Za2,Zd0,Zh2]at hx;rcases hx with rfl|rfl|rfl|rfl|rfl|rfl|rfl<;>first|exact h|exact bK.str _|exact bK.int _ _
theorem abU(t:aI){v:AV}(h:bK v):∀x∈t.ay v,bK x:=λx hx=>by simp only[aI.ay,Za2,Zd0,Zh2]at hx;rcases hx with rfl|rfl|rfl|rfl|rfl|rfl|rfl|rfl|rfl<;>first|exact h|exact bK.str _|exact bK.int _ _|exact bK.bool _
theorem zF{α:Type}{f:α->List AV}(h:∀a,∀x∈f a,bK x)(l:List α):∀r∈l.map f,∀x∈r,bK x:=λr hr x hx=>by obtain⟨a,_,rfl⟩:=Zf3.1 hr;exact h a x hx
theorem Rm(i:Int):∀x∈cg i,bK x:=λx hx=>by simp only[cg,Za2,Zd0,Zh2]at hx;subst hx;exact bK.int _ _
theorem Z4(i:List Nat):∀x∈zY i,bK x:=λx hx=>by simp only[zY,Za2,Zd0,Zh2]at hx;subst hx;exact bK.str _
theorem adf(t:Ty):∀x∈t.cells,bK x:=λx hx=>by simp only[Ty.cells,Za2,Zd0,Zh2]at hx;rcases hx with rfl|rfl|rfl<;>first|exact bK.str _|exact bK.int _ _
theorem adg(t:Rl):∀x∈t.cells,bK x:=λx hx=>by simp only[Rl.cells,Za2,Zd0,Zh2]at hx;rcases hx with rfl|rfl|rfl|rfl|rfl|rfl<;>first|exact bK.str _|exact bK.int _ _
end
section
variable{s s1:St}
theorem TS.fc{V:AV}{ts:List aF}{rows:List (List AV)}(hw:Wf s)(h:TS (emptyAt s) s1 V ts rows):TS s (fc s s1) V ts rows where
 out:=Mk.fc hw h.out (λr hr x hx=>by
  obtain⟨i,hi,rfl⟩:=Zg4.1 hr;have ht:i<ts.length:=by rw[<-h.len];exact hi
  obtain⟨v,e,M,_⟩:=h.xM i _ _ (H1 ht) (H1 hi);rw[e]at hx;exact abT _ M.own.bare x hx)
 len:=h.len
 xM i t r hi hr:=by
  obtain⟨v,e,M,n⟩:=h.xM i t r hi hr;exact⟨v,e,Mk.fc hw M (zF Rm _),n⟩
theorem GS.fc{V:AV}{ts:List aI}{rows:List (List AV)}(hw:Wf s)(h:GS (emptyAt s) s1 V ts rows):GS s (fc s s1) V ts rows where
 out:=Mk.fc hw h.out (λr hr x hx=>by
  obtain⟨i,hi,rfl⟩:=Zg4.1 hr;have ht:i<ts.length:=by rw[<-h.len];exact hi
  obtain⟨v,e,M,_⟩:=h.xM i _ _ (H1 ht) (H1 hi);rw[e]at hx;exact abU _ M.own.bare x hx)
 len:=h.len
 xM i t r hi hr:=by
  obtain⟨v,e,M,n⟩:=h.xM i t r hi hr;exact⟨v,e,Mk.fc hw M (zF Z4 _),n⟩
theorem PS.fc{Vs:List AV}{p:aO}(hw:Wf s)(h:PS (emptyAt s) s1 Vs p):PS s (fc s s1) Vs p:=by
 obtain⟨V1,V2,V3,V4,V5,r1,r2,e,h1,h2,h3,h4,h5⟩:=h.all;exact⟨LP hw h.aE.wf h.aE.next,V1,V2,V3,V4,V5,r1,r2,e,TS.fc hw h1,GS.fc hw h2,Mk.fc hw h3 (zF adf _),Mk.fc hw h4 (zF Rm _),Mk.fc hw h5 (zF adg _)⟩
theorem PS.bare{s0:St}{Vs:List AV}{p:aO}(h:PS s0 s Vs p):∀V∈Vs,bK V:=λV hV=>by
 obtain⟨V1,V2,V3,V4,V5,r1,r2,rfl,h1,h2,h3,h4,h5⟩:=h.all;simp only[Za2,Zd0,Zh2]at hV;rcases hV with rfl|rfl|rfl|rfl|rfl
 .exact h1.out.own.bare
 .exact h2.out.own.bare
 .exact h3.own.bare
 .exact h4.own.bare
 .exact h5.own.bare
end
variable{c:ah}
theorem X9(hc:Sem c)(z z2:Bool)(gs:List aI)(ts:List Ty)(hl:gs.length<=100)(p:Pos)(st:St)(hw:Wf st)(hp:st.heap.get p=some (.cells [bg z gs,bW z2 ts] 0))(F:Nat)(k1 k2):∀(m k:Nat),gs.length<=k+m->k<=gs.length->
  ff c F k1 k2 (m+1) [.ptr p 0,.int .i64 (k:Int)] st=if(fZ gs m k).2=0 then k2 [.ptr p 0] st else k1 [.int .i64 (fZ gs m k).1,.int .i64 (fZ gs m k).2] st:=by
 intro m;induction m with
 |zero=>
  intro k h1 h2;obtain rfl:k=gs.length:=by omega
  rw[nW];simp[fZ,hp]
 |succ m ih=>
  intro k h1 h2;rw[nW];by_cases h:k<gs.length
  . have w:aD .i64 ((k:Int)+1)=((k+1:Nat):Int):=wrap64 (by omega) (by omega);have hch:=Uv hc gs[k] st hw;have mU:k<=gs.length:=(by omega);have hm:min k gs.length=k:=(by omega);have LR:=OG hc (z&&gs.isEmpty) (gs.take k) gs[k].name (by unfold cD;simp;omega) st;rw[show(gs.take k).length=k by simp;omega,Uw mU]at LR;simp only[bg,Zm4]at LR;rw[fZ,H1 h];simp only;by_cases h3:eT gs[k]=0
    .   have e3:¬eT gs[k]≠0:=(by rw[h3];simp);by_cases h4:0<=scan (gw gs gs[k].name) k 0
        .simp only[e3,h4,Zd7,Ze8];simp[bg,hp,h,mU,hch,h3,h4,LR]
        . by_cases h5:64<=k
          .have h6:(64:Int)<=k:=(by omega);simp only[e3,h4,h5,Zd7,Ze8];simp[bg,hp,h,mU,hch,h3,h4,h6,LR]
          .have h6:¬(64:Int)<=k:=(by omega);simp only[e3,h4,h5,Zd7];rw[<-ih (k+1) (by omega) (by omega)];simp[bg,hp,h,mU,hch,h3,h4,h6,LR,w]
    .   simp[bg,hp,h,hch,h3]
  .obtain rfl:k=gs.length:=(by omega);simp[fZ,hp]
theorem Ya (hc:Sem c)(z z2:Bool)(gs:List aI)(ts:List Ty)(hl:gs.length<=100)(jE:ts.length<=100)(p:Pos)(F:Nat)(k1 k4):∀(m k:Nat)(st:St),Wf st->st.heap.get p=some (.cells [bg z gs,bW z2 ts] 0)->ts.length<=k+m->k<=ts.length->
  ∃st',Grew st st'/\fe c F k1 k4 (m+1) [.ptr p 0,.int .i64 (k:Int)] st=if(ey gs ts m k).2=0 then k4 [] st' else k1 [.int .i64 (ey gs ts m k).1,.int .i64 (ey gs ts m k).2] st':=by
 intro m;induction m with
 |zero=>
  intro k st hw hp h1 h2;obtain rfl:k=ts.length:=by omega
  refine⟨st,Grew.refl hw,?_⟩;rw[jA];simp[ey,hp]
 |succ m ih   =>
  intro k st hw hp h1 h2;by_cases h:k<ts.length
  . have w:aD     .i64 ((k:Int)+1)=((k+1:Nat):Int):=wrap64 (by omega) (by omega);have wg:aD .i64 ((gs.length:Int)+(k:Int))=(gs.length:Int)+k:=wrap64 (by omega) (by omega);have bR:Wf (af st (.cells ts[k].cells 0)):=bA hw;have hg:=Grew.af hw (.cells ts[k].cells 0);have dm:(af st (.cells ts[k].cells 0)).heap.get p=some (.cells [bg z gs,bW z2 ts] 0):=hg.get hp;have ha:=OG hc z gs ts[k].a (by unfold cD;omega) (af st (.cells ts[k].cells 0));have hb:=OG hc z gs ts[k].b (by unfold cD;omega) (af st (.cells ts[k].cells 0));have P1:¬256<=k:=(by omega);have HH:¬(256:Int)<=k:=(by omega);obtain⟨st',g1,g2⟩:=ih (k+1) _ bR dm (by omega) (by omega);have WO:DM ts[k]=true->(ts[k].k=1\/(¬ts[k].k=1/\ts[k].k=2)):=λq=>by
        simp only[DM,Zg6,Zc6]at q;by_cases e:ts[k].k=1
        .exact .inl e
        .exact .inr ⟨e,q.resolve_left e⟩
    have hkf:DM ts[k]=false->(¬ts[k].k=1/\¬ts[k].k=2):=λq=>by simpa [DM]using q
    rw[jA,ey,H1 h];simp only;by_cases h0:k=0
    .   have hk :¬0<k:=(by omega);have ep:kC ts k=none:=(by simp[kC,h0]);rw[ep];clear h0 ih;simp only[So,oJ,Bool.or_false,Zd4,Zd7,P1];cases q1:DM ts[k]
        .obtain⟨f1,f2⟩:=hkf q1;refine⟨_,hg,?_⟩;simp[bW,hp,dm,h,wg,f1,f2]
        . have f:=WO q1;cases q2:aA ts[k].a ts[k].b
          .refine⟨_,hg,?_⟩;rcases f with f|⟨f,f2⟩<;>simp[bW,hp,dm,h,wg,q2, *]
          . cases q3:jt gs ts[k]
            .have q4:=q3;simp only[jt,Zk3,Zg1]at q4;obtain⟨n1,n2⟩:=q4;refine⟨st',hg.trans g1,?_⟩;simp only[q1,q2,Zm6,Bool.or_false,Zd4,Zd7];rw[<-g2];rcases f with f|⟨f,f2⟩<;>simp[bW,hp,dm,h,wg,q2,ha,hb,n1,n2,hk,HH,w, *]
            . refine⟨_,hg,?_⟩;by_cases n1:scan (gw gs ts[k].a) gs.length 0<0
              .rcases f with f|⟨f,f2⟩<;>simp[bW,hp,dm,h,wg,q2,ha,hb,n1,hk,HH,w, *]
              .have n2:scan (gw gs ts[k].b) gs.length 0<0:=(by simpa [jt,n1]using q3);rcases f with f|⟨f,f2⟩<;>simp[bW,hp,dm,h,wg,q2,ha,hb,n1,n2,hk,HH,w, *]
    .   have hk : 0<k:=(by omega);have nu:k - 1<ts.length:=(by omega);have wk:aD .i64 ((k:Int) - 1)=((k - 1:Nat):Int):=(by rw[wrap64 (by omega) (by omega)];omega);have ep:kC ts k=some ts[k - 1]:=(by rw[kC,Za5 h0,H1 nu]);have b1:=Q9 hc ts[k] ts[k - 1] (af st (.cells ts[k].cells 0)) bR;have b2:=Q9 hc ts[k - 1] ts[k] (af st (.cells ts[k].cells 0)) bR;rw[ep];clear ih;simp only[So,oJ,P1,Zd7];cases q1:DM ts[k]
        .obtain⟨f1,f2⟩:=hkf q1;refine⟨_,hg,?_⟩;simp[bW,hp,dm,h,wg,f1,f2]
        . have f:=WO q1;cases q2:aA ts[k].a ts[k].b
          .refine⟨_,hg,?_⟩;rcases f with f|⟨f,f2⟩<;>simp[bW,hp,dm,h,wg,q2, *]
          . cases q5:dM ts[k] ts[k - 1]
            . cases q3:jt gs ts[k]
              . have q4:=q3;simp only[jt,Zk3,Zg1]at q4;obtain⟨n1,n2⟩:=q4;cases q6:dM ts[k - 1] ts[k]
                .refine⟨_,hg,?_⟩;rcases f with f|⟨f,f2⟩<;>simp[bW,hp,dm,h,wg,q2,ha,hb,n1,n2,hk,nu,wk,b1,b2,HH,w, *]
                .refine⟨st',hg.trans g1,?_⟩;simp only[q1,q2,q5,Zm6,Zd4,Zd7,Bool.or_false];rw[<-g2];rcases f with f|⟨f,f2⟩<;>simp[bW,hp,dm,h,wg,q2,ha,hb,n1,n2,hk,nu,wk,b1,b2,HH,w, *]
              . refine⟨_,hg,?_⟩;by_cases n1:scan (gw gs ts[k].a) gs.length 0<0
                .rcases f with f|⟨f,f2⟩<;>simp[bW,hp,dm,h,wg,q2,ha,hb,n1,hk,nu,wk,b1,b2,HH,w, *]
                .have n2:scan (gw gs ts[k].b) gs.length 0<0:=(by simpa [jt,n1]using q3);rcases f with f|⟨f,f2⟩<;>simp[bW,hp,dm,h,wg,q2,ha,hb,n1,n2,hk,nu,wk,b1,b2,HH,w, *]
            .refine⟨_,hg,?_⟩;rcases f with f|⟨f,f2⟩<;>simp[bW,hp,dm,h,wg,q2,hk,nu,wk,b1,b2, *]
  .obtain rfl:k=ts.length:=(by omega);refine⟨st,Grew.refl hw,?_⟩;rw[jA];simp[ey,hp]
theorem Yb(hc:Sem c)(z z2:Bool)(gs:List aI)(ts:List Ty)(hl:gs.length<=100)(jE:ts.length<=100)(st:St)(hw:Wf st):c 137 [.agg [bg z gs,bW z2 ts]] st=some (.tuple [.int .i64 (bD gs ts).1,.int .i64 (bD gs ts).2],st):=by
 have mT:Plain (.tuple [.int .i64 (bD gs ts).1,.int .i64 (bD gs ts).2]):=Plain.tuple (by simp[Plain.int]);have bR:Wf (af st (.cells [bg z gs,bW z2 ts] 0)):=bA hw;have DN:=Grew.af hw (.cells [bg z gs,bW z2 ts] 0);have dm:(af st (.cells [bg z gs,bW z2 ts] 0)).heap.get st.next=some (.cells [bg z gs,bW z2 ts] 0):=aC _ _;have L0:=λk1 k2=>X9 hc z z2 gs ts hl st.next _ bR dm 102 k1 k2 101 0 (by omega) (by omega)
 by_cases h:(fZ gs 101 0).2=0
 . have e:bD gs ts=ey gs ts 101 0:=(by rw[bD,Za5 (by simp[h])]);obtain⟨st',g1,g2⟩:=Ya hc z z2 gs ts hl jE st.next 102 (λvs abK=>dW vs λx2 vs=>dW vs λx3 vs=>fP vs (some (.tuple [x2,x3],abK))) (λvs abL=>fP vs (
     ai c .move [(.int .i64 0)] abL λx2 abN=>ai c .move [(.int .i64 0)] abN λx3 abO=>some (.tuple [x2,x3],abO))) 101 0 _ bR dm (by omega) (by omega)
   rw[pG hc 102 (r:=(.tuple [.int .i64 (bD gs ts).1,.int .i64 (bD gs ts).2],st')),aq mT (DN.trans g1).keeps];rw[qV,e];simp[h]at L0 g2 ⊢;rw[L0];simp[g2];by_cases h2:(ey gs ts 101 0).2=0
   .have:=HA gs ts 101 0 h2;simp[h2,this]
   .simp[h2]
 .have e:bD gs ts=fZ gs 101 0:=(by rw[bD,Za6 h]);rw[pG hc 102 (r:=(.tuple [.int .i64 (bD gs ts).1,.int .i64 (bD gs ts).2],af st (.cells [bg z gs,bW z2 ts] 0))),aq mT DN.keeps];rw[qV,e];simp[h]at L0 ⊢;rw[L0];simp
theorem U8(hc:Sem c)(z z2:Bool)(gs:List aI)(ts:List Ty)(hl:gs.length<=100)(jE:ts.length<=100)(s:St)(hw:Wf s):c 150 [.agg [bg z gs,bW z2 ts]] s=some (.tuple [.int .i64 (bD gs ts).1,.int .i64 (bD gs ts).2],s):=by
 have FA:Wf (af s (.cells [bg z gs,bW z2 ts] 0)):=bA hw;obtain⟨v,s',h1,h2,_⟩:=P3 hc z z2 gs ts hl jE _ FA;have YQ:cut [bg z gs,bW z2 ts] 0 2=some [bg z gs,bW z2 ts]:=bw rfl;rw[IJ hc 1 (r:=(.tuple [.int .i64 (bD gs ts).1,.int .i64 (bD gs ts).2],s')),aq (Plain.tuple (by simp[Plain.int])) ((bk hw).trans h2)];rw[Le];simp[YQ,h1]
theorem WV(hc:Sem c){p:aO}(hp:p.fN):Kk c p:=⟨λst hw=>U8 hc p.gz p.yz p.gs p.ys hp.gs hp.ys st hw,λst hw=>Yb hc p.gz p.yz p.gs p.ys hp.gs hp.ys st hw⟩
end
noncomputable section
open Go Go.Ai Go.Proofs
def jH(f:FuncId):List AV->St->Option (AV×St):=GV (run yu gg) f 4
def C8:dG:=wo [(327,IX),(12,KX),(77,jH 77),(72,jH 72),(86,jH 86),(129,jH 129),(125,jH 125),(44,jH 44),(47,jH 47),(49,jH 49),(99,jH 99),(53,jH 53),(101,jH 101),(111,jH 111),(118,jH 118)]
def cj(c:ah):Prop:=c=run C8 gg
theorem cj.o0{c:ah}(hc:cj c)(F:Nat){f:FuncId}{args:List AV}{st:St}{r:AV×St}(s:Sh)(hk:(sy (C8 f)&& !sy (gg.get (key f))&&(dF (gA f).code s).isEmpty)=true)
  {k:O2} (hd:zM c F (Sg []) (gA f) s args st=k) (h:k=some r):c f args st=some (tidy st r):=by
 subst hc;exact Wy s hk hd h
theorem cj.o1{c:ah}(hc:cj c)(F:Nat){f:FuncId}{args:List AV}{st:St}{r:AV×St}(Ls:Un->List Q2->Nat->Q2)(s:Sh)(hk:(sy (C8 f)&& !sy (gg.get (key f))&&Nat.beq (dF (gA f).code s).length 1)=true)
  (hs:(Pg (eH (gA f) s 0).2&&Nat.beq (Zi (eH (gA f) s 0).2) 0)=true) (h0:∀K' vs st,lV Ls (gA f) s 0 K' 0 vs st=none)
  (h1:∀K' n vs st,lV Ls (gA f) s 0 K' (n+1) vs st=E0 (den c F (lV Ls (gA f) s) (eH (gA f) s 0).1 (lpB (eH (gA f) s 0).2)) (lpI (eH (gA f) s 0).2) (Zj (eH (gA f) s 0).2) K' (lV Ls (gA f) s 0 K' n) vs st)
  {k:O2} (hd:zM c F (lV Ls (gA f) s) (gA f) s args st=k) (h:k=some r):c f args st=some (tidy st r):=by
 subst hc;exact Wz Ls s hk hs h0 h1 hd h
theorem cj.oL{c:ah}(hc:cj c)(F:Nat){f:FuncId}{args:List AV}{st:St}{r:AV×St}(Ls:Un->List Q2->Nat->Q2)(s:Sh)(n:Nat)(hk:(sy (C8 f)&& !sy (gg.get (key f))&&Nat.beq (dF (gA f).code s).length n)=true)
  (hL:∀i,i<n->wL c F (lV Ls (gA f) s) (eH (gA f) s i).1 (eH (gA f) s i).2) {k:O2} (hd:zM c F (lV Ls (gA f) s) (gA f) s args st=k) (h:k=some r):c f args st=some (tidy st r):=by
 subst hc;exact Po Ls s n hk hL hd h
theorem cj.at{c:ah}(hc:cj c){f:FuncId}{s:List AV->St->Option (AV×St)}{args:List AV}{st:St}{r:AV×St}(ho:C8 f=some s)(h:s args st=some r):c f args st=some r:=by subst hc;exact N4 ho h
section
variable{c:ah}{s0 s:St}{Vs:List AV}{p:aO}
theorem Z5(hc:cj c)(s:St):c 12 [] s=some (.bool true,s):=hc.at (s:=KX) rfl rfl
theorem Rn(hc:cj c)(h:PS s0 s Vs p)(hp:p.fN)(hr:∀r∈p.rs,r.Ok):c 77 [.agg Vs] s=some (.tuple [.int .i64 (bU p).1,.int .i64 (bU p).2],s):=by
 obtain⟨p',e,S⟩:=h.cv 1;refine hc.at (s:=jH 77) rfl (iD ?_ (bK.tuple (by intro v hv;simp at hv;rcases hv with rfl|rfl<;>exact bK.int _ _)));rw[Zb1,Zd3,e, <-S.check];exact RX rfl p' (S.FO hp) (WV rfl (S.FO hp)) (by rw[S.rs];exact hr) (emptyAt s) (gJ s)
theorem PS.tabs(h:PS s0 s Vs p):∃V1 z p',Vs[0]? =some V1/\Go.Ai.cv s 4 V1=Go.Proofs.YtlkadmkojjceiaaGreatDoor.tabs z p'.ts/\p.cr p':=by
 obtain⟨V1,V2,V3,V4,V5,r1,r2,rfl,h1,h2,h3,h4,h5⟩:=h.all;obtain⟨z,tQ,e,l,k⟩:=h1.cv 2;exact⟨V1,z,{ p with ts:=tQ },rfl,e,⟨l,k,rfl,λi t t' a b=>by rw[a]at b;cases b;exact⟨t.tz,rfl⟩,rfl,rfl,rfl⟩⟩
theorem Kp(hc:cj c)(h:PS s0 s Vs p)(ct:∀t∈p.ts,t.Ok)(hv:(bh p.ts).2=0){V1:AV}(e1:Vs[0]? =some V1):c 72 [V1] s=some (.int .i64 (aW p.ts),s):=by
 obtain⟨V,z,p',e,ez,S⟩:=h.tabs;rw[e1]at e;cases e;refine hc.at (s:=jH 72) rfl (iD ?_ (bK.int _ _));rw[Zb1,Zd3,ez];have:=yN (c:=run yu gg) rfl z p'.ts (λt ht=>by obtain⟨u,hu,z,rfl⟩:=S.tab ht;have:=ct u hu;exact⟨this.1,this.2⟩) (emptyAt s) (gJ s);rw[this,S.sL,Za6 hv,S.sum]
theorem Z6(hc:cj c)(h:PS s0 s Vs p)(ct:∀t∈p.ts,t.Ok)(hv:(bh p.ts).2=0){V1:AV}(e1:Vs[0]? =some V1){k:Nat}(hk:k<p.ts.length):c 86 [V1,.int .i64 (k:Int)] s=some (.int .i64 (aW (p.ts.take k)),s):=by
 obtain⟨V,z,p',e,ez,S⟩:=h.tabs;rw[e1]at e;cases e;refine hc.at (s:=jH 86) rfl (iD ?_ (bK.int _ _));rw[Zb1,Zb1,Zd3,ez,sv];have:=Um (c:=run yu gg) rfl z p'.ts (λt ht=>by obtain⟨u,hu,z,rfl⟩:=S.tab ht;have:=ct u hu;exact⟨this.1,this.2⟩) k (emptyAt s) (gJ s);rw[this];unfold uE;rw[S.tl,S.sL,Za5 (by omega)];have e:∀l:List aF,aW l=(l.map bN).sum:=λ_=>rfl
 rw[e,e,Zm4,Zm4,Zi8];have:p'.ts.map bN=p.ts.map bN:=Zi3 λi=>by rw[Zb6,Zb6];exact FN S.tl S.ts bN (λt t' h=>K9 h) i
 rw[this]
theorem WW{t:aF}{v:AV}(hM:Mk 1 s0 s v (t.b9.map cg)):∃t':aF,cv s 4 (.agg (t.ay v))= .agg t'.cells/\t.cr t':=by
 obtain⟨z,hz⟩:=Nb hM 2;refine⟨{ t with oz:=z },?_,⟨z,rfl⟩⟩;rw[E7];simp only[aF.ay,aF.cells,Zb1,Zd3,yO,sv,hz]
theorem Yc(hc:cj c){t:aF}{v:AV}(hM:Mk 1 s0 s v (t.b9.map cg))(ct:t.Ok):c 129 [.agg (t.ay v)] s=some (.int .i64 (lZ t),s):=by
 obtain⟨t',e,S⟩:=WW hM;refine hc.at (s:=jH 129) rfl (iD ?_ (bK.int _ _));rw[Zb1,Zd3,e,Uj (c:=run yu gg) rfl t' (by obtain⟨z,rfl⟩:=S;exact⟨ct.1,ct.2⟩) (emptyAt s) (gJ s),U7 S]
theorem Z7(hc:cj c){t:aF}{v:AV}(hM:Mk 1 s0 s v (t.b9.map cg)):c 125 [.agg (t.ay v)] s=some (.int .i64 (bN t),s):=by
 obtain⟨t',e,S⟩:=WW hM;refine hc.at (s:=jH 125) rfl (iD ?_ (bK.int _ _));rw[Zb1,Zd3,e,K7 (c:=run yu gg) rfl t' (emptyAt s) (gJ s),K9 S]
end
end
noncomputable section
open Go Go.Ai Go.Proofs
attribute [local go_sem ↓] aZ uD ev TG yg getLT wT JB Of uB uC GY E8 E9 Fa A9 Ba Bb Bc Bd Be Fb Fe Bf Bg Bh Bi Bj KY KZ K3
attribute [local go_sem] aZ uD ev
section
variable(c:ah)(F:Nat)(x0 x1 x2 x3 x4 x5 x6 x7 x8 x9 Aj vE:AV)(s:St)
def um:Sh:=(sq sl (sq (sq sl (sc (sq sl sl) sl)) (sq sl sl)))
def uo:PX 17 um:=⟨_,by conv=>lhs;reduce⟩
def oV:O2:=aZ c F bf uo.1 [x0] s
def uq:=(by dsimp only[oV,uo,go_sem,Int.reduceOfNat]:oV c F x0 s=_)
def mA:Sh:=(sq sl (sq (sq sl (sc (sq sl sl) sl)) (sq (sq sl (sb (sp 0 [0,1,12,13] [(1,[4]),(2,[])] (sq sl (sq (sc sl sl) (sq (sb (sq sl (sq sl (sc (sq sl sl) sl)))) sl)))))) (sq sl sl))))
def ur:PX 21 mA:=⟨_,by conv=>lhs;reduce⟩
def sV:PL 21 mA 0:=⟨_,by conv=>lhs;reduce⟩
def fU(k1 k2:Q2):Nat->Q2
 |0,_,_=>none
 |n+1,vs,s=>dX c F bf (fU k1 k2 n) [k1,k2] sV.1 vs s
def jT(k1 k2:Q2)(n:Nat)(vs:List AV)(s:St):=(by dsimp only[fU,sV,go_sem,Int.reduceOfNat]:fU c F k1 k2 (n+1) vs s=_)
def mB:Un->List Q2->Nat->Q2
 |.z,[k1,k2]=>fU c F k1 k2
 |_,_=>λ_=>eJ
def oW:O2:=aZ c F (mB c F) ur.1 [x0,x1] s
def Ez:=(by dsimp only[oW,ur, ↓mB,go_sem,Int.reduceOfNat]:oW c F x0 x1 s=_)
def Cy:Sh:=(sq sl (sq sl sl))
def Cz:PX 33 Cy:=⟨_,by conv=>lhs;reduce⟩
def yP:O2:=aZ c F bf Cz.1 [x0,x1] s
def CA:=(by dsimp only[yP,Cz,go_sem,Int.reduceOfNat]:yP c F x0 x1 s=_)
def Ro:Sh:=(sq sl (sq (sq sl (sc (sq sl sl) sl)) (sq sl (sq sl sl))))
def Rp:PX 39 Ro:=⟨_,by conv=>lhs;reduce⟩
def P9:O2:=aZ c F bf Rp.1 [x0,x1,x2] s
def Rq:=(by dsimp only[P9,Rp,go_sem,Int.reduceOfNat]:P9 c F x0 x1 x2 s=_)
def EA:Sh:=(sq sl (sq (sq sl (sc (sq sl sl) sl)) (sq sl (sq sl (sq (sq sl (sb (sp 0 [5,6,16,17] [(2,[6])] (sq sl (sq (sc sl sl) (sj [5,6,16,17] (sb (sq sl (sq sl (sc sl sl)))) sl)))))) (sq sl sl))))))
def Mf:PX 41 EA:=⟨_,by conv=>lhs;reduce⟩
def Kq:PL 41 EA 0:=⟨_,by conv=>lhs;reduce⟩
def rH(k2:Q2):Nat->Q2
 |0,_,_=>none
 |n+1,vs,s=>dX c F bf (rH k2 n) [k2] Kq.1 vs s
def yQ(k2:Q2)(n:Nat)(vs:List AV)(s:St):=(by dsimp only[rH,Kq,go_sem,Int.reduceOfNat]:rH c F k2 (n+1) vs s=_)
def EB:Un->List Q2->Nat->Q2
 |.z,[k2]=>rH c F k2
 |_,_=>λ_=>eJ
def Kr:O2:=aZ c F (EB c F) Mf.1 [x0,x1] s
def Mg:=(by dsimp only[Kr,Mf, ↓EB,go_sem,Int.reduceOfNat]:Kr c F x0 x1 s=_)
def z8:Sh:=(sq sl (sq (sq sl (sc (sq sl sl) sl)) (sq sl (sq sl (sq sl (sq (sq sl (sb (sp 0 [7,8,9,37,38] [(2,[9])] (sq sl (sq (sc sl sl) (sq (sb (sq sl sl)) sl)))))) (sq sl sl)))))))
def Ix:PX 42 z8:=⟨_,by conv=>lhs;reduce⟩
def FQ:PL 42 z8 0:=⟨_,by conv=>lhs;reduce⟩
def nL(k2:Q2):Nat->Q2
 |0,_,_=>none
 |n+1,vs,s=>dX c F bf (nL k2 n) [k2] FQ.1 vs s
def CB(k2:Q2)(n:Nat)(vs:List AV)(s:St):=(by dsimp only[nL,FQ,go_sem,Int.reduceOfNat]:nL c F k2 (n+1) vs s=_)
def z9:Un->List Q2->Nat->Q2
 |.z,[k2]=>nL c F k2
 |_,_=>λ_=>eJ
def EC:O2:=aZ c F (z9 c F) Ix.1 [x0,x1,x2] s
def Iy:=(by dsimp only[EC,Ix, ↓z9,go_sem,Int.reduceOfNat]:EC c F x0 x1 x2 s=_)
def mC:Sh:=(sq sl (sq (sq sl (sb (sp 0 [0,1,7,8] [(1,[4]),(2,[])] (sq sl (sq (sc sl sl) (sq (sb (sq sl (sq sl (sc (sq sl sl) sl)))) sl)))))) (sq sl sl)))
def uu:PX 71 mC:=⟨_,by conv=>lhs;reduce⟩
def sW:PL 71 mC 0:=⟨_,by conv=>lhs;reduce⟩
def fV(k1 k2:Q2):Nat->Q2
 |0,_,_=>none
 |n+1,vs,s=>dX c F bf (fV k1 k2 n) [k1,k2] sW.1 vs s
def jU(k1 k2:Q2)(n:Nat)(vs:List AV)(s:St):=(by dsimp only[fV,sW,go_sem,Int.reduceOfNat,Int.reduceNegSucc]:fV c F k1 k2 (n+1) vs s=_)
def mD:Un->List Q2->Nat->Q2
 |.z,[k1,k2]=>fV c F k1 k2
 |_,_=>λ_=>eJ
def oX:O2:=aZ c F (mD c F) uu.1 [x0,x1] s
def ED:=(by dsimp only[oX,uu, ↓mD,go_sem,Int.reduceOfNat,Int.reduceNegSucc]:oX c F x0 x1 s=_)
def FR:Sh:=(sq sl (sq (sq sl (sq sl (sc (sq sl sl) sl))) (sq sl sl)))
def FT:PX 80 FR:=⟨_,by conv=>lhs;reduce⟩
def CC:O2:=aZ c F bf FT.1 [x0,x1,x2] s
def yR:=(by dsimp only[CC,FT,go_sem,Int.reduceOfNat]:CC c F x0 x1 x2 s=_)
def Ks:Sh:=(sq sl (sq sl (sq sl sl)))
def Kt:PX 88 Ks:=⟨_,by conv=>lhs;reduce⟩
def HL:O2:=aZ c F bf Kt.1 [x0,x1] s
def Ku:=(by dsimp only[HL,Kt,go_sem,Int.reduceOfNat]:HL c F x0 x1 s=_)
def FU:Sh:=(sq sl (sq sl sl))
def FV:PX 89 FU:=⟨_,by conv=>lhs;reduce⟩
def CD:O2:=aZ c F bf FV.1 [x0] s
def Qa:=(by dsimp only[CD,FV,go_sem,Int.reduceOfNat]:CD c F x0 s=_)
def Kv:Sh:=(sq sl (sq (sq sl (sc (sq sl sl) sl)) (sq sl sl)))
def Kw:PX 90 Kv:=⟨_,by conv=>lhs;reduce⟩
def HM:O2:=aZ c F bf Kw.1 [x0] s
def U9:=(by dsimp only[HM,Kw,go_sem,Int.reduceOfNat]:HM c F x0 s=_)
def CE:Sh:=(sq sl (sq (sq sl (sc (sq sl sl) sl)) (sq sl (sq sl (sq (sq sl (sb (sp 0 [2,8,9,23,24,25] [(1,[6,7]),(2,[])] (sq sl (sq (sc sl sl) (sj [2,8,9,23,24,25] (sb (sq sl (sq (sb (sq sl (sc (sq sl sl) (sq sl (sc (sq sl sl) (sq sl (sc (sq sl sl) sl))))))) (sq sl (sc sl sl))))) sl)))))) (sq sl sl))))))
def Ky:PX 122 CE:=⟨_,by conv=>lhs;reduce⟩
def Iz:PL 122 CE 0:=⟨_,by conv=>lhs;reduce⟩
def lA(k1 k2:Q2):Nat->Q2
 |0,_,_=>none
 |n+1,vs,s=>dX c F bf (lA k1 k2 n) [k1,k2] Iz.1 vs s
def eA(k1 k2:Q2)(n:Nat)(vs:List AV)(s:St):=(by dsimp only[lA,Iz,go_sem,Int.reduceOfNat,Int.reduceNegSucc]:lA c F k1 k2 (n+1) vs s=_)
def CG:Un->List Q2->Nat->Q2
 |.z,[k1,k2]=>lA c F k1 k2
 |_,_=>λ_=>eJ
def HN:O2:=aZ c F (CG c F) Ky.1 [x0,x1,x2] s
def CH:=(by dsimp only[HN,Ky, ↓CG,go_sem,Int.reduceOfNat,Int.reduceNegSucc]:HN c F x0 x1 x2 s=_)
def CI:Sh:=(sq sl (sq sl sl))
def CJ:PX 128 CI:=⟨_,by conv=>lhs;reduce⟩
def yS:O2:=aZ c F bf CJ.1 [x0,x1] s
def Nd:=(by dsimp only[yS,CJ,go_sem,Int.reduceOfNat]:yS c F x0 x1 s=_)
end
section
variable{c:ah}(hc:cj c)(F:Nat){x0 x1 x2 x3 x4 x5 x6 x7 x8 x9 Aj vE:AV}{s:St}{r:AV×St}
include hc
theorem rI(h:oV c F x0 s=some r):c 17 [x0] s=some (tidy s r):=hc.o0 F um (by kernel_rfl) (by kernel_rfl) h
theorem CL(h:oW c F x0 x1 s=some r):c 21 [x0,x1] s=some (tidy s r):=hc.o1 F (mB c F) mA (by kernel_rfl) (by kernel_rfl) (λ_ _ _=>by kernel_rfl) (λ_ _ _ _=>by kernel_rfl) (by kernel_rfl) h
theorem zG(h:yP c F x0 x1 s=some r):c 33 [x0,x1] s=some (tidy s r):=hc.o0 F Cy (by kernel_rfl) (by kernel_rfl) h
theorem Mh(h:P9 c F x0 x1 x2 s=some r):c 39 [x0,x1,x2] s=some (tidy s r):=hc.o0 F Ro (by kernel_rfl) (by kernel_rfl) h
theorem IA(h:Kr c F x0 x1 s=some r):c 41 [x0,x1] s=some (tidy s r):=hc.o1 F (EB c F) EA (by kernel_rfl) (by kernel_rfl) (λ_ _ _=>by kernel_rfl) (λ_ _ _ _=>by kernel_rfl) (by kernel_rfl) h
theorem DP(h:EC c F x0 x1 x2 s=some r):c 42 [x0,x1,x2] s=some (tidy s r):=hc.o1 F (z9 c F) z8 (by kernel_rfl) (by kernel_rfl) (λ_ _ _=>by kernel_rfl) (λ_ _ _ _=>by kernel_rfl) (by kernel_rfl) h
theorem CM(h:oX c F x0 x1 s=some r):c 71 [x0,x1] s=some (tidy s r):=hc.o1 F (mD c F) mC (by kernel_rfl) (by kernel_rfl) (λ_ _ _=>by kernel_rfl) (λ_ _ _ _=>by kernel_rfl) (by kernel_rfl) h
theorem u0(h:CC c F x0 x1 x2 s=some r):c 80 [x0,x1,x2] s=some (tidy s r):=hc.o0 F FR (by kernel_rfl) (by kernel_rfl) h
theorem FW(h:HL c F x0 x1 s=some r):c 88 [x0,x1] s=some (tidy s r):=hc.o0 F Ks (by kernel_rfl) (by kernel_rfl) h
theorem Nf(h:CD c F x0 s=some r):c 89 [x0] s=some (tidy s r):=hc.o0 F FU (by kernel_rfl) (by kernel_rfl) h
theorem Qb(h:HM c F x0 s=some r):c 90 [x0] s=some (tidy s r):=hc.o0 F Kv (by kernel_rfl) (by kernel_rfl) h
theorem yT(h:HN c F x0 x1 x2 s=some r):c 122 [x0,x1,x2] s=some (tidy s r):=hc.o1 F (CG c F) CE (by kernel_rfl) (by kernel_rfl) (λ_ _ _=>by kernel_rfl) (λ_ _ _ _=>by kernel_rfl) (by kernel_rfl) h
theorem Kz(h:yS c F x0 x1 s=some r):c 128 [x0,x1] s=some (tidy s r):=hc.o0 F CI (by kernel_rfl) (by kernel_rfl) h
end
end
section
open Go Go.Ai Go.Proofs
variable{c:ah}
def rowM(i:Nat):List AV:=[.int .i64 (i:Int)]
def tabZ:List AV:=[.str [],.int .u8 0,.int .i64 0,.int .i64 0,.ax,.int .i64 0,.int .i64 0]
def tabV(nm:List Nat)(sh a b:Int)(x:Nat)(v:AV):List AV:=[.str nm,.int .u8 sh,.int .i64 a,.int .i64 b,v,.int .i64 (x:Int),.int .i64 (255 - (x:Int))]
def opnC(x i:Nat):Bool:=decide (x / 2 ^ i % 2=1)&&decide (0<x % 3)
def opnN(x k:Nat):List Nat:=(List.range k).filter (opnC x)
structure TI(st s:St)(p4 p5:Pos)(nm:List Nat)(sh a b:Int)(x k:Nat)(v:AV):Prop where
 out:Mk 1 st s v ((opnN x k).map rowM)
 h4:s.heap.get p4=some (.cells tabZ 0)
 h5:s.heap.get p5=some (.cells (tabV nm sh a b x v) 0)
 n4:dS v≠some p4
 n5:dS v≠some p5
end
section
open Go Go.Ai Go.Proofs
variable{c:ah}
theorem Va{st s:St}{p:Pos}(h0:Wf st)(h:Grew st s)(hp:st.next.toNat<=p.toNat)(zd:p.toNat<s.next.toNat)(b:AB):Grew st (ew s p b):=
 ⟨E6 h.wf zd,λq x hq=>by have:=h0 _ _ hq;rw[bY (λe=>by rw[e]at hp;omega)];exact h.get hq,by rw[BL];exact h.next⟩
end
end Go.Proofs.YtlkadmkojjceiaaGreatDoor
