/- Functions of the program, plainly, and what they answer. -/
import Derived.Test.YtlkadmkojjceiaaGreatDoorVLawA
import Derived.Test.YtlkadmkojjceiaaGreatDoorRows
set_option linter.all false
set_option maxRecDepth 100000
set_option maxHeartbeats 4000000
namespace Go.Proofs.YtlkadmkojjceiaaGreatDoor
section
open Go Go.Ai Go.Proofs
variable{c:ah}
theorem stW{R:Type}(hc:Sem c){p:aS}{r:Rl}{q2 q3:Pos}{s:St}{n:Nat}(hw:Wf s)(hn:n<256)(hk:r.k=(n:Int))(hp:p.gW)(p2:s.heap.get q2=some (.cells p.cells 0))(p3:s.heap.get q3=some (.cells r.cells 0))(K:AV->AV->St->Option R):
  (ai c (.fieldA 0) [(.ptr q3 0)] s λx9 s3=>
   ai c (.load none) [x9] s3 λxA s4=>
   ai c .move [xA] s4 λx5 s5=>
   ai c .move [x5] s5 λue s6=>
   ai c (.callF 138) [ue] s6 λx12 s7=>
   ai c (.bin .eql .num) [x12,(.str [])] s7 λx13 s8=>
   K x5 x13 s8)=K (.int .u8 (n:Int)) (.bool (decide ((kd n).w=[]))) s:=by
 have W:=aev hc n hn s hw;simp[p3,hk,W]
theorem stWt{R:Type}(hc:Sem c){p:aS}{r:Rl}{q2 q3:Pos}{s:St}{n:Nat}(hw:Wf s)(hn:n<256)(hk:r.k=(n:Int))(hp:p.gW)(p2:s.heap.get q2=some (.cells p.cells 0))(p3:s.heap.get q3=some (.cells r.cells 0))(K:AV->St->Option R):
   (ai c (.fieldA 1) [(.ptr q3 0)] s λx14 s10=>
    ai c (.load none) [x14] s10 λx15 s11=>
    ai c (.bin .lss .num) [x15,(.int .i64 0)] s11 λx16 s12=>
    ai c .move [x16] s12 λx17 s13=>
    bu c x17 false (.fieldA 1) [(.ptr q3 0)] s13 λHD s14=>
    bu c x17 false (.load none) [HD] s14 λx19 s15=>
    bu c x17 false (.bin .gtr .num) [x19,(.int .i64 1000)] s15 λx20 HE=>
    ai c .pick [x17,(.bool true),x20] HE λx21 HF=>
    K x21 HF)=K (.bool (decide (r.wt<0\/1000<r.wt))) s:=by
 by_cases h1:r.wt<0
 .simp[p3,h1]
 .simp[p3,h1]
theorem stP1{R:Type}(hc:Sem c){p:aS}{r:Rl}{q2 q3:Pos}{s:St}{n:Nat}(hw:Wf s)(hn:n<256)(hk:r.k=(n:Int))(hp:p.gW)(p2:s.heap.get q2=some (.cells p.cells 0))(p3:s.heap.get q3=some (.cells r.cells 0))(K:AV->St->Option R):
   (ai c (.fieldA 2) [(.ptr q3 0)] s λx22 HG=>
    ai c (.load none) [x22] HG λx23 HH=>
    ai c (.bin .neq .num) [x23,(.str [])] HH λx24 s21=>
    ai c .move [x24] s21 λx25 s22=>
    bu c x25 true .move [(.int .u8 (n:Int))] s22 λx26 s23=>
    bu c x25 true (.callF 139) [x26] s23 λx27 s24=>
    bu c x25 true (.un .not) [x27] s24 λx28 s25=>
    ai c .pick [x25,x28,(.bool false)] s25 λx29 s26=>
    ai c .move [x29] s26 λOh s27=>
    bu c Oh true .move [(.int .u8 (n:Int))] s27 λx31 s28=>
    bu c Oh true (.callF 140) [x31] s28 λx32 s29=>
    bu c Oh true (.un .not) [x32] s29 λx33 s30=>
    ai c .pick [Oh,x33,(.bool false)] s30 λx34 s31=>
    ai c .move [x34] s31 λx35 s32=>
    bu c x35 true .move [(.int .u8 (n:Int))] s32 λx36 Wt=>
    bu c x35 true (.bin .neq .num) [x36,(.int .u8 17)] Wt λx37 Wu=>
    ai c .pick [x35,x37,(.bool false)] Wu λx38 Wv=>
    K x38 Wv)=K (.bool (decide (r.a≠[])&& !j4 n&& !uQ n&&decide (n≠17))) s:=by
 have T1:=HC hc (n:Int) s;have T2:=abl hc (n:Int) s;by_cases h:r.a=[]
 .simp[p3,h]
 . cases h1:j4 (n:Int)with
   |true=>simp[p3,h,T1,h1]
   |false=>
    cases h2:uQ (n:Int)with
    |true=>simp[p3,h,T1,T2,h1,h2]
    |   false=>
        have e:decide ((n:Int)=17)=decide (n=17):=(by by_cases hh:n=17<;>simp[hh];omega);simp[p3,h,T1,T2,h1,h2,e]
theorem stP2{R:Type}(hc:Sem c){p:aS}{r:Rl}{q2 q3:Pos}{s:St}{n:Nat}(hw:Wf s)(hn:n<256)(hk:r.k=(n:Int))(hp:p.gW)(p2:s.heap.get q2=some (.cells p.cells 0))(p3:s.heap.get q3=some (.cells r.cells 0))(b:Bool)(K:AV->St->Option R):
  (ai c .move [(.bool b)] s λYQ s36=>
    bu c YQ false (.fieldA 3) [(.ptr q3 0)] s36 λx40 s37=>
    bu c YQ false (.load none) [x40] s37 λx41 s38=>
    bu c YQ false (.bin .neq .num) [x41,(.str [])] s38 λx42 s39=>
    bu c YQ false .move [x42] s39 λx43 s40=>
    bu c x43 true .move [(.int .u8 (n:Int))] s40 λx44 s41=>
    bu c x43 true (.callF 139) [x44] s41 λx45 s42=>
    bu c x43 true (.un .not) [x45] s42 λx46 s43=>
    bu c YQ false .pick [x43,x46,(.bool false)] s43 λx47 s44=>
    ai c .pick [YQ,(.bool true),x47] s44 λx48 s45=>
    K x48 s45)=K (.bool (b||(decide (r.b≠[])&& !j4 n))) s:=by
 have T1:=HC hc (n:Int) s;cases b with
 |true=>simp
 |false=>
  by_cases h:r.b=[]
  .simp[p3,h]
  .simp[p3,h,T1]
theorem stP3{R:Type}(hc:Sem c){p:aS}{r:Rl}{q2 q3:Pos}{s:St}{n:Nat}(hw:Wf s)(hn:n<256)(hk:r.k=(n:Int))(hp:p.gW)(p2:s.heap.get q2=some (.cells p.cells 0))(p3:s.heap.get q3=some (.cells r.cells 0))(b:Bool)(K:AV->St->Option R):
  (ai c .move [(.bool b)] s λYS s46=>
    bu c YS false (.fieldA 4) [(.ptr q3 0)] s46 λx50 s47=>
    bu c YS false (.load none) [x50] s47 λYT s48=>
    bu c YS false (.bin .neq .num) [YT,(.str [])] s48 λx52 s49=>
    bu c YS false .move [x52] s49 λWZ s50=>
    bu c WZ true .move [(.int .u8 (n:Int))] s50 λx54 s51=>
    bu c WZ true (.callF 141) [x54] s51 λx55 s52=>
    bu c WZ true (.bin .eql .num) [x55,(.int .i64 0)] s52 λx56 s53=>
    bu c YS false .pick [WZ,x56,(.bool false)] s53 λx57 s54=>
    ai c .pick [YS,(.bool true),x57] s54 λx58 s55=>
    K x58 s55)=K (.bool (b||(decide (r.t≠[])&&decide (p9 n=0)))) s:=by
 have T1:=TC hc (n:Int) s;cases b with
 |true=>simp
 |false=>
  by_cases h:r.t=[]
  .simp[p3,h]
  .simp[p3,h,T1]
theorem stP4{R:Type}(hc:Sem c){p:aS}{r:Rl}{q2 q3:Pos}{s:St}{n:Nat}(hw:Wf s)(hn:n<256)(hk:r.k=(n:Int))(hp:p.gW)(p2:s.heap.get q2=some (.cells p.cells 0))(p3:s.heap.get q3=some (.cells r.cells 0))(b:Bool)(K:AV->St->Option R):
  (ai c .move [(.bool b)] s λYU s56=>
    bu c YU false (.fieldA 5) [(.ptr q3 0)] s56 λx60 s57=>
    bu c YU false (.load none) [x60] s57 λx61 s58=>
    bu c YU false (.bin .neq .num) [x61,(.int .i64 0)] s58 λx62 s59=>
    bu c YU false .move [x62] s59 λx63 s60=>
    bu c x63 true .move [(.int .u8 (n:Int))] s60 λx64 s61=>
    bu c x63 true (.callF 142) [x64] s61 λx65 s62=>
    bu c x63 true (.un .not) [x65] s62 λx66 s63=>
    bu c YU false .pick [x63,x66,(.bool false)] s63 λx67 s64=>
    ai c .pick [YU,(.bool true),x67] s64 λx68 s65=>
    K x68 s65)=K (.bool (b||(decide (r.n≠0)&& !Mm n))) s:=by
 have T1:=TB hc (n:Int) s;cases b with
 |true=>simp
 |false=>
  by_cases h:r.n=0
  .simp[p3,h]
  .simp[p3,h,T1]
theorem stA{R:Type}(hc:Sem c){p:aS}{r:Rl}{q2 q3:Pos}{s:St}{n:Nat}(hw:Wf s)(hn:n<256)(hk:r.k=(n:Int))(hp:p.gW)(p2:s.heap.get q2=some (.cells p.cells 0))(p3:s.heap.get q3=some (.cells r.cells 0))(K:AV->St->Option R):
  (ai c .move [(.int .u8 (n:Int))] s λx69 s67=>
    ai c (.callF 139) [x69] s67 λx70 s68=>
    ai c .move [x70] s68 λx71 s69=>
    bu c x71 false .move [(.int .u8 (n:Int))] s69 λx72 s70=>
    bu c x71 false (.callF 140) [x72] s70 λx73 s71=>
    ai c .pick [x71,(.bool true),x73] s71 λQ0 s72=>
    ai c .move [Q0] s72 λTD s73=>
    bu c TD true .move [(.int .u8 (n:Int))] s73 λx76 s74=>
    bu c TD true (.bin .eql .num) [x76,(.int .u8 10)] s74 λx77 s75=>
    bu c TD true .move [x77] s75 λYV s76=>
    bu c YV true (.fieldA 2) [(.ptr q3 0)] s76 λx79 s77=>
    bu c YV true (.load none) [x79] s77 λx80 s78=>
    bu c YV true (.bin .eql .num) [x80,(.str [])] s78 λx81 s79=>
    bu c TD true .pick [YV,x81,(.bool false)] s79 λx82 WN=>
    bu c TD true (.un .not) [x82] WN λx83 WO=>
    ai c .pick [TD,x83,(.bool false)] WO λx84 WQ=>
    ai c .move [x84] WQ λW0 WR=>
    bu c W0 true (.fieldA 1) [(.ptr q2 0)] WR λx86 WS=>
    bu c W0 true (.load none) [x86] WS λx87 WT=>
    bu c W0 true (.fieldA 2) [(.ptr q3 0)] WT λx88 s86=>
    bu c W0 true (.load none) [x88] s86 λx89 s87=>
    bu c W0 true (.callF 143) [x87,x89] s87 λx90 s88=>
    bu c W0 true (.bin .lss .num) [x90,(.int .i64 0)] s88 λx91 s89=>
    ai c .pick [W0,x91,(.bool false)] s89 λx92 s90=>
    K x92 s90)=K (.bool ((j4 n||uQ n)&& !(decide (n=10)&&decide (r.a=[]))&&decide (gi p r.a<0))) s:=by
 have T1:=HC hc (n:Int) s;have T2:=abl hc (n:Int) s;have A:c 143 [bk p.gz p.gs,.str r.a] s=some (.int .i64 (gi p r.a),s):=QW hc p.gz p.gs r.a (by have:=hp.gs;unfold cL;omega) s;have e:((n:Int)=10)=(n=10):=by apply propext;omega
 cases h1:j4 (n:Int)with
 |true=>
  by_cases h3:n=10
  . by_cases h4:r.a=[]
    .   simp[p2,p3,T1,h1,h3,h4]
        try simp_all
    .   simp[p2,p3,T1,h1,h3,h4,A]
        try simp_all
  .simp[p2,p3,T1,h1,e,h3,A]
 |false   =>
  cases h2:uQ (n:Int)with
  | true=>
    by_cases h3:n=10
    .   by_cases h4:r.a=[]
        . simp[p2,p3,T1,T2,h1,h2,h3,h4]
          try simp_all
        . simp[p2,p3,T1,T2,h1,h2,h3,h4,A]
          try simp_all
    .   simp[p2,p3,T1,T2,h1,h2,e,h3,A]
  |false=>simp[p2,p3,T1,T2,h1,h2]
theorem stB{R:Type}(hc:Sem c){p:aS}{r:Rl}{q2 q3:Pos}{s:St}{n:Nat}(hw:Wf s)(hn:n<256)(hk:r.k=(n:Int))(hp:p.gW)(p2:s.heap.get q2=some (.cells p.cells 0))(p3:s.heap.get q3=some (.cells r.cells 0))(K:AV->St->Option R):
  (ai c .move [(.int .u8 (n:Int))] s λx93 s92=>
   ai c (.callF 139) [x93] s92 λx94 s93=>
   ai c .move [x94] s93 λW2 s94=>
   bu c W2 true (.fieldA 1) [(.ptr q2 0)] s94 λx96 s95=>
   bu c W2 true (.load none) [x96] s95 λx97 s96=>
   bu c W2 true (.fieldA 3) [(.ptr q3 0)] s96 λx98 s97=>
   bu c W2 true (.load none) [x98] s97 λx99 s98=>
   bu c W2 true (.callF 143) [x97,x99] s98 λx100 s99=>
   bu c W2 true (.bin .lss .num) [x100,(.int .i64 0)] s99 λx101 s100=>
   ai c .pick [W2,x101,(.bool false)] s100 λx102 s101=>
   K x102 s101)=K (.bool (j4 n&&decide (gi p r.b<0))) s:=by
 have T1:=HC hc (n:Int) s;have A:c 143 [bk p.gz p.gs,.str r.b] s=some (.int .i64 (gi p r.b),s):=QW hc p.gz p.gs r.b (by have:=hp.gs;unfold cL;omega) s;cases h1:j4 (n:Int)<;>simp[p2,p3,T1,h1,A]
theorem stN{R:Type}(hc:Sem c){p:aS}{r:Rl}{q2 q3:Pos}{s:St}{n:Nat}(hw:Wf s)(hn:n<256)(hk:r.k=(n:Int))(hp:p.gW)(p2:s.heap.get q2=some (.cells p.cells 0))(p3:s.heap.get q3=some (.cells r.cells 0))(K:AV->St->Option R):
   (ai c .move [(.int .u8 (n:Int))] s λx103 s103=>
    ai c (.bin .eql .num) [x103,(.int .u8 17)] s103 λx104 s104=>
    ai c .move [x104] s104 λW3 s105=>
    bu c W3 true (.fieldA 2) [(.ptr q3 0)] s105 λx106 s106=>
    bu c W3 true (.load none) [x106] s106 λx107 s107=>
    bu c W3 true (.callF 144) [x107] s107 λx108 s108=>
    bu c W3 true (.un .not) [x108] s108 λx109 s109=>
    ai c .pick [W3,x109,(.bool false)] s109 λx110 s110=>
    K x110 s110)=K (.bool (decide (n=17)&& !eC r.a)) s:=by
 have A:=CQ hc r.a s;have e:((n:Int)=17)=(n=17):=by apply propext;omega
 by_cases h1:n=17
 .simp[p3,e,h1,A]
 .simp[p3,e,h1]
theorem stD{R:Type}(hc:Sem c){p:aS}{r:Rl}{q2 q3:Pos}{s:St}{n:Nat}(hw:Wf s)(hn:n<256)(hk:r.k=(n:Int))(hp:p.gW)(p2:s.heap.get q2=some (.cells p.cells 0))(p3:s.heap.get q3=some (.cells r.cells 0))(K:AV->St->Option R):
  (ai c .move [(.int .u8 (n:Int))] s λx111 s112=>
   ai c (.callF 139) [x111] s112 λx112 s113=>
   ai c .move [x112] s113 λSj s114=>
   bu c Sj true (.fieldA 2) [(.ptr q3 0)] s114 λx114 s115=>
   bu c Sj true (.load none) [x114] s115 λx115 s116=>
   bu c Sj true (.fieldA 3) [(.ptr q3 0)] s116 λx116 s117=>
   bu c Sj true (.load none) [x116] s117 λx117 s118=>
   bu c Sj true (.bin .eql .num) [x115,x117] s118 λx118 s119=>
   ai c .pick [Sj,x118,(.bool false)] s119 λx119 s120=>
   K x119 s120)=K (.bool (j4 n&&decide (r.a=r.b))) s:=by
 have T1:=HC hc (n:Int) s;cases h1:j4 (n:Int)<;>simp[p3,T1,h1]
theorem stT{R:Type}(hc:Sem c){p:aS}{r:Rl}{q2 q3:Pos}{s:St}{n:Nat}(hw:Wf s)(hn:n<256)(hk:r.k=(n:Int))(hp:p.gW)(p2:s.heap.get q2=some (.cells p.cells 0))(p3:s.heap.get q3=some (.cells r.cells 0))(K:AV->AV->St->Option R):
   (ai c (.fieldA 0) [(.ptr q2 0)] s λx120 s122=>
     ai c (.load none) [x120] s122 λx121 s123=>
     ai c (.fieldA 4) [(.ptr q3 0)] s123 λx122 s124=>
     ai c (.load none) [x122] s124 λx123 s125=>
     ai c (.callF 145) [x121,x123] s125 λx124 s126=>
     ai c .move [x124] s126 λx6 s127=>
     ai c .move [(.int .u8 (n:Int))] s127 λx125 s128=>
     ai c (.callF 141) [x125] s128 λx126 s129=>
     ai c (.bin .eql .num) [x126,(.int .i64 1)] s129 λx127 s130=>
     ai c .move [x127] s130 λac8 s131=>
     bu c ac8 true .move [x6] s131 λx129 s132=>
     bu c ac8 true (.bin .lss .num) [x129,(.int .i64 0)] s132 λx130 s133=>
     ai c .pick [ac8,x130,(.bool false)] s133 λx131 s134=>
     ai c .move [x131] s134 λMn s135=>
     bu c Mn false .move [(.int .u8 (n:Int))] s135 λx133 s136=>
     bu c Mn false (.callF 141) [x133] s136 λx134 s137=>
     bu c Mn false (.bin .eql .num) [x134,(.int .i64 2)] s137 λx135 s138=>
     bu c Mn false .move [x135] s138 λZ5 s139=>
     bu c Z5 true (.fieldA 4) [(.ptr q3 0)] s139 λx137 s140=>
     bu c Z5 true (.load none) [x137] s140 λx138 s141=>
     bu c Z5 true (.bin .neq .num) [x138,(.str [])] s141 λx139 ac9=>
     bu c Mn false .pick [Z5,x139,(.bool false)] ac9 λx140 ada=>
     bu c Mn false .move [x140] ada λadb ade=>
     bu c adb true .move [x6] ade λx142 adf=>
     bu c adb true (.bin .lss .num) [x142,(.int .i64 0)] adf λx143 s146=>
     bu c Mn false .pick [adb,x143,(.bool false)] s146 λx144 s147=>
     ai c .pick [Mn,(.bool true),x144] s147 λx145 s148=>
     K x6 x145 s148)=K (.int .i64 (ti p r.t)) (.bool ((decide (p9 n=1)&&decide (ti p r.t<0))||(decide (p9 n=2)&&decide (r.t≠[])&&decide (ti p r.t<0)))) s:=by
 have T1:=TC hc (n:Int) s;have A:c 145 [tabs p.tz p.ts,.str r.t] s=some (.int .i64 (ti p r.t),s):=Z4 hc p.tz p.ts r.t hp.ts s;by_cases h1:p9 (n:Int)=1
 . by_cases h2:ti p r.t<0
   .simp[p2,p3,T1,h1,h2,A]
   .simp[p2,p3,T1,h1,h2,A]
 . by_cases h3:p9 (n:Int)=2
   . by_cases h4:r.t=[]
     .  rw[h4]at A;simp[p2,p3,T1,h1,h3,h4,A]
     .  simp[p2,p3,T1,h1,h3,h4,A]
   .simp[p2,p3,T1,h1,h3,A]
theorem agl(hc:Sem c){p:aS}{r:Rl}{q2 q3:Pos}{s:St}{n:Nat}(hw:Wf s)(hn:n<256)(hk:r.k=(n:Int))(hp:p.gW)(p2:s.heap.get q2=some (.cells p.cells 0))(p3:s.heap.get q3=some (.cells r.cells 0))(u0:(kd n).lo=if n=4 then 1 else 0)(adU:(kd n).q8=decide (n=7))(hnum:Mm (n:Int)=(kd n).n)(ht:n=7->0<=ti p r.t)
   (x2 x3 x5 x6:AV) (e2:x2= .ptr q2 0) (e3:x3= .ptr q3 0) (e5:x5= .int .u8 (n:Int)) (e6:x6= .int .i64 (ti p r.t)):
   (ai c .move [(.int .i64 0)] s λx7 s150=>
   ai c .move [(.int .i64 24)] s150 λx8 s151=>
   gK (λj152=>
   ai c .move [x5] s151 λx146 s154=>
   ai c (.bin .eql .num) [x146,(.int .u8 4)] s154 λx147 s155=>
   Lc x147 (
   ai c .move [(.int .i64 1)] s155 λx7 s156=>
   j152 [x2,x3,x5,x6,x7,x8] s156) (
   j152 [x2,x3,x5,x6,x7,x8] s155))
   (λvs s153=>eB vs λx2 vs=>eB vs λx3 vs=>eB vs λx5 vs=>eB vs λx6 vs=>eB vs λx7 vs=>eB vs λx8 vs=>gu vs (
   gK (λj157=>
   ai c .move [x5] s153 λx148 s159=>
   ai c (.bin .eql .num) [x148,(.int .u8 7)] s159 λx149 s160=>
   Lc x149 (
   ai c (.fieldA 0) [x2] s160 λx150 s161=>
   ai c (.load none) [x150] s161 λx151 s162=>
   ai c .move [x6] s162 λx152 s163=>
   ai c (.idxA 7 none) [x151,x152] s163 λx153 s164=>
   ai c (.load (some 7)) [x153] s164 λx154 s165=>
   ai c (.callF 118) [x154] s165 λx155 s166=>
   ai c (.bin .sub .num) [x155,(.int .i64 1)] s166 λx156 s167=>
   ai c .move [x156] s167 λx8 s168=>
   j157 [x3,x5,x7,x8] s168) (
   j157 [x3,x5,x7,x8] s160))
   (λvs s158=>eB vs λx3 vs=>eB vs λx5 vs=>eB vs λx7 vs=>eB vs λx8 vs=>gu vs (
   ai c .move [x5] s158 λx157 s169=>
   ai c (.callF 142) [x157] s169 λx158 s170=>
   ai c .move [x158] s170 λPh s171=>
   bu c Ph true (.fieldA 5) [x3] s171 λx160 s172=>
   bu c Ph true (.load none) [x160] s172 λx161 s173=>
   bu c Ph true .move [x7] s173 λx162 s174=>
   bu c Ph true (.bin .lss .num) [x161,x162] s174 λx163 s175=>
   bu c Ph true .move [x163] s175 λW4 s176=>
   bu c W4 false (.fieldA 5) [x3] s176 λx165 s177=>
   bu c W4 false (.load none) [x165] s177 λx166 s178=>
   bu c W4 false .move [x8] s178 λx167 s179=>
   bu c W4 false (.bin .gtr .num) [x166,x167] s179 λx168 s180=>
   bu c Ph true .pick [W4,(.bool true),x168] s180 λx169 s181=>
   ai c .pick [Ph,x169,(.bool false)] s181 λx170 s182=>
   Lc x170 (
   ai c .move [(.int .i64 42)] s182 λx4 s183=>
   some (x4,s183)) (
   ai c .move [(.int .i64 0)] s182 λx4 s184=>
   some (x4,s184)))))))=some (.int .i64 (wG (kd n) r (if(kd n).q8=true then sU p (ti p r.t) - 1 else 24)),s):=by
 subst e2 e3 e5 e6;have T4:=TB hc (n:Int) s;rw[hnum]at T4;have JT:=Jn (P:=iF p.ts r.t) p.ts.length 0;unfold wG;rw[u0,adU];clear u0 adU hnum;by_cases h4:n=4
 . have d4:decide ((n:Int)=4)=true:=(by simp only[Zc8];omega);have d7:decide ((n:Int)=7)=false:=(by simp only[Zg2];omega);have n7:decide (n=7)=false:=(by simp only[Zg2];omega);rw[Za2 h4,n7];clear h4 n7;cases hm:(kd n).n with
   |false=>simp[dY,p2,p3,T4,d4,d7,hm]
   | true=>
     by_cases e1:r.n<1
     .  simp[dY,p2,p3,T4,d4,d7,hm,e1]
     .  by_cases e2:24<r.n
        .simp[dY,p2,p3,T4,d4,d7,hm,e1,e2]
        .simp[dY,p2,p3,T4,d4,d7,hm,e1,e2]
 . have d4:decide ((n:Int)=4)=false:=(by simp only[Zg2];omega);rw[Za1 h4];clear h4;by_cases h7:n=7
   . have d7:decide ((n:Int)=7)=true:=(by simp only[Zc8];omega);have n7:decide (n=7)=true:=(by simp only[Zc8];exact h7);have SJ:=ht h7;rw[n7];clear ht h7 n7;obtain⟨i,hi⟩:∃i:Nat,ti p r.t=(i:Int):=⟨(ti p r.t).toNat,by omega⟩
     have jY:i<p.ts.length:=(by have:=(JT SJ).2.1;unfold ti at hi;rw[hi]at this;simpa using this);have S:=Jl hc p.ts[i] s hw;have b:=zn p.ts[i];have w2:aD .i64 (cK p.ts[i] - 1)=cK p.ts[i] - 1:=wrap64 (by omega) (by omega);have e3:sU p (i:Int)=cK p.ts[i]:=(by simp[sU,jY]);rw[hi,e3];clear hi e3 SJ JT;cases hm:(kd n).n with
     |false=>simp[dY,p2,p3,T4,d4,d7,tabs,jY,S,w2,hm]
     |  true=>
        by_cases e1:r.n<0
        .simp[dY,p2,p3,T4,d4,d7,tabs,jY,S,w2,hm,e1]
        . by_cases e2:cK p.ts[i] - 1<r.n
          .simp[dY,p2,p3,T4,d4,d7,tabs,jY,S,w2,hm,e1,e2]
          .simp[dY,p2,p3,T4,d4,d7,tabs,jY,S,w2,hm,e1,e2]
   . have d7:decide ((n:Int)=7)=false:=(by simp only[Zg2];omega);have n7:decide (n=7)=false:=(by simp only[Zg2];exact h7);rw[n7];clear h7 n7 ht JT;cases hm:(kd n).n with
     |false=>simp[dY,p2,p3,T4,d4,d7,hm]
     |  true=>
        by_cases e1:r.n<0
        .simp[dY,p2,p3,T4,d4,d7,hm,e1]
        . by_cases e2:24<r.n
          .simp[dY,p2,p3,T4,d4,d7,hm,e1,e2]
          .simp[dY,p2,p3,T4,d4,d7,hm,e1,e2]
end
section
open Go Go.Ai Go.Proofs
variable{c:ah}
structure Flags(n:Nat):Prop where
 two:j4 (n:Int)=(kd n).b
 num:Mm (n:Int)=(kd n).n
 t0:p9 (n:Int)=0↔(kd n).t=0
 t1:p9 (n:Int)=1↔(kd n).t=116
 t2:p9 (n:Int)=2↔(kd n).t=101
 a0:(j4 (n:Int)=false/\uQ (n:Int)=false/\n≠17)↔(kd n).a=0
 a1:((j4 (n:Int)||uQ (n:Int))=true/\n≠10)↔(kd n).a=103
 a2:n=10↔(kd n).a=101
 a3:n=17↔(kd n).a=100
 o10:n=10->uQ (n:Int)=true
 lo:(kd n).lo=if n=4 then 1 else 0
 q8:(kd n).q8=decide (n=7)
 s7:n=7->(kd n).t=116
theorem flags{n:Nat}(h:(kd n).w≠[]):Flags n:=by
 have h18:n<=18:=by apply Zh1;intro h2;apply h;unfold kd;split<;>first|rfl|omega
 have:n=0\/n=1\/n=2\/n=3\/n=4\/n=5\/n=6\/n=7\/n=8\/n=9\/n=10\/n=11\/n=12\/n=13\/n=14\/n=15\/n=16\/n=17\/n=18:=by omega
 rcases this with rfl|rfl|rfl|rfl|rfl|rfl|rfl|rfl|rfl|rfl|rfl|rfl|rfl|rfl|rfl|rfl|rfl|rfl|rfl
 .exact absurd rfl h
 all_goals exact⟨by decide,by decide,by decide,by decide,by decide,by decide,by decide,by decide,by decide,by decide,by decide,by decide,by decide⟩
theorem XP(hc:Sem c)(p:aS)(hp:p.gW)(r:Rl)(n:Nat)(hk:r.k=(n:Int))(hn:n<256)(st:St)(hw:Wf st):
   c 109 [.agg p.cells,.agg r.cells] st=some (.int .i64 (Gm (kd n) p r),st):=by
 have bV:Wf (af st (.cells p.cells 0)):=bE hw;have wZ:=Grew.af bV (.cells r.cells 0);have hg:=(Grew.af hw (.cells p.cells 0)).trans wZ;have e8:=hg.wf;have p2:=wZ.get (aE st (.cells p.cells 0));have p3:=aE (af st (.cells p.cells 0)) (.cells r.cells 0);rw[Gg hc 1 (r:=(.int .i64 (Gm (kd n) p r),af (af st (.cells p.cells 0)) (.cells r.cells 0))),au (Plain.int _ _) hg.keeps];rw[I6,tT,tT,aJ];simp only[AV.cells];generalize af (af st (.cells p.cells 0)) (.cells r.cells 0)=s at*
 generalize (af st (.cells p.cells 0)).next=q3 at*
 generalize st.next=q2 at*
 rw[stW hc e8 hn hk hp p2 p3];unfold Gm;by_cases h0:(kd n).w=[]
 .rw[Za2 h0,H4 h0,nW,aJ]
 have fl:=flags h0;rw[Za1 h0,H2 h0,mU];rw[stWt hc e8 hn hk hp p2 p3];by_cases h1:r.wt<0\/1000<r.wt
 .rw[Za2 h1,H4 h1,nW,aJ]
 rw[Za1 h1,H2 h1,mU];rw[stP1 hc e8 hn hk hp p2 p3,stP2 hc e8 hn hk hp p2 p3,stP3 hc e8 hn hk hp p2 p3,stP4 hc e8 hn hk hp p2 p3];have ep:(((decide (r.a≠[])&& !j4 n&& !uQ n&&decide (n≠17))||(decide (r.b≠[])&& !j4 n))||(decide (r.t≠[])&&decide (p9 n=0))||(decide (r.n≠0)&& !Mm n))= !Bk (kd n) r:=by
   (unfold Bk;rw[<-fl.two, <-fl.num];have t0:=fl.t0;have a0:=fl.a0;have:decide (p9 (n:Int)=0)= !decide ((kd n).t≠0):=(by simp[t0]);rw[this];have:(!j4 (n:Int)&& !uQ (n:Int)&&decide (n≠17))= !decide ((kd n).a≠0):=by simp only[ne_eq, <-a0];cases j4 (n:Int)<;>cases uQ (n:Int)<;>simp);rw[Bool.and_assoc,Bool.and_assoc, <-Bool.and_assoc (!j4 (n:Int)),this];cases decide ((kd n).a≠0)<;>cases j4 (n:Int)<;>cases decide ((kd n).t≠0)<;>cases Mm (n:Int)<;>by_cases h3:r.a=[]<;>by_cases h4:r.b=[]<;>by_cases h5:r.t=[]<;>by_cases h6:r.n=0<;>simp[h3,h4,h5,h6]
 rw[ep];cases h2:Bk (kd n) r with
 |false=>rw[Zl6,nW,aJ,Za2 rfl]
 |true=>
 rw[Zm9,mU,Za1 (by simp)];rw[stA hc e8 hn hk hp p2 p3];have ea:((j4 (n:Int)||uQ (n:Int))&& !(decide (n=10)&&decide (r.a=[]))&&decide (gi p r.a<0))=decide (((kd n).a=103/\gi p r.a<0)\/((kd n).a=101/\r.a≠[]/\gi p r.a<0)):=by
   rw[Zi8,Zc8, <-fl.a1, <-fl.a2];by_cases Kf:n=10
   .have h11:=fl.o10 Kf;have SZ:(j4 (n:Int)||uQ (n:Int))=true:=(by rw[h11,Bool.or_true]);rw[SZ];by_cases h3:r.a=[]<;>simp[h3,Kf]
   .simp only[Kf,Zo2,Bool.false_and,Zl6,Zj3,ne_eq,Zl4,Zn2,false_and,Zh6];cases j4 (n:Int)||uQ (n:Int)<;>simp
 rw[ea];by_cases h3:((kd n).a=103/\gi p r.a<0)\/((kd n).a=101/\r.a≠[]/\gi p r.a<0)
 .rw[H4 h3,nW,aJ,Za2 (h3.elim .inl λh=>.inr (.inl h))]
 rw[H2 h3,mU];rw[stB hc e8 hn hk hp p2 p3];rw[fl.two];by_cases h4:(kd n).b=true/\gi p r.b<0
 .have:((kd n).b&&decide (gi p r.b<0))=true:=(by simp[h4]);rw[this,nW,aJ,Za2 (.inr (.inr h4))]
 have:((kd n).b&&decide (gi p r.b<0))=false:=by
   cases hb:(kd n).b
   .rfl
   .simp[hb]at h4;simp;exact h4
 rw[this,mU,Za1 (λh=>h.elim (λh=>h3 (.inl h)) λh=>h.elim (λh=>h3 (.inr h)) h4)];rw[stN hc e8 hn hk hp p2 p3];unfold WU;simp only[<-fl.a3];by_cases h5:n=17/\eC r.a=false
 .have:(decide (n=17)&& !eC r.a)=true:=(by simp[h5]);rw[this,nW,aJ,Za2 h5]
 have:(decide (n=17)&& !eC r.a)=false:=by
   by_cases h17:n=17
   . cases hb:eC r.a
     .exact absurd ⟨h17,hb⟩ h5
     .simp
   .simp[h17]
 rw[this,mU,Za1 h5];rw[stD hc e8 hn hk hp p2 p3,fl.two];by_cases h6:(kd n).b=true/\r.a=r.b
 .have:((kd n).b&&decide (r.a=r.b))=true:=(by simp[h6]);rw[this,nW,aJ,Za2 h6]
 have:((kd n).b&&decide (r.a=r.b))=false:=by
   cases hb:(kd n).b
   .rfl
   .simp[hb]at h6;simp;exact h6
 rw[this,mU,Za1 h6];rw[stT hc e8 hn hk hp p2 p3];unfold Q1;simp only[<-fl.t1, <-fl.t2];by_cases h7:(p9 (n:Int)=1/\ti p r.t<0)\/(p9 (n:Int)=2/\r.t≠[]/\ti p r.t<0)
 . have:((decide (p9 (n:Int)=1)&&decide (ti p r.t<0))||(decide (p9 (n:Int)=2)&&decide (r.t≠[])&&decide (ti p r.t<0)))=true:=by
     rcases h7 with⟨a,b⟩|⟨a,b,d⟩<;>simp[*]
   rw[this,nW,aJ,Za2 h7]
 have:((decide (p9 (n:Int)=1)&&decide (ti p r.t<0))||(decide (p9 (n:Int)=2)&&decide (r.t≠[])&&decide (ti p r.t<0)))=false:=by apply Bool.eq_false_iff.2;intro e;apply h7;simpa [and_assoc]using e
 rw[this,mU,Za1 h7];have ht:n=7->0<=ti p r.t:=λe=>by
   apply Zh1;intro e2;exact h7 (.inl ⟨fl.t1.2 (fl.s7 e),by omega⟩)
 exact agl hc e8 hn hk hp p2 p3 fl.lo fl.q8 fl.num ht _ _ _ _ rfl rfl rfl rfl
end
section
open Go Go.Ai Go.Proofs
theorem bD{Q:List AV->Prop}{Qs:List (List AV->Prop)}{ps:List (List AV)}(h:Dp (Q::Qs) ps):∃p qs,ps=p::qs/\Q p/\Dp Qs qs:=by
 cases ps with
 |nil=>exact h.elim
 |cons p qs=>exact⟨p,qs,rfl,h⟩
theorem wu{ps:List (List AV)}(h:Dp [] ps):ps=[]:=by
 cases ps with
 |nil=>rfl
 |cons p qs=>exact h.elim
section
variable{H:Type}{enc:TypeId×Value->H}{w:World}{base:Nat}{spare:Nat->Bool}{held:Bool}
abbrev Bm(enc:TypeId×Value->H)(w:World)(base:Nat)(spare:Nat->Bool)(held:Bool)(t:TypeId)(Q:List AV->Prop):Prop:=vU enc Tryz.prog w base spare held t Q
abbrev kD(k:IntKind)(vs:List AV):Prop:=∃i,vs=[.int k i]/\(Lit.int k i).wf=true
abbrev vY(vs:List AV):Prop:=∃s,vs=[.str s]/\s.length<=maxLen/\∀x∈s,x<256
abbrev W5(vs:List AV):Prop:=∃b,vs=[.bool b]
theorem vZ:Bm enc w base spare held 3 (kD .i64):=Fj (by kernel_rfl)
theorem zu:Bm enc w base spare held 9 vY:=aaX (by kernel_rfl)
theorem abm:Bm enc w base spare held 4 W5:=ZF (by kernel_rfl)
theorem aew:Bm enc w base spare held 97 (kD .u8):=Fj (by kernel_rfl)
theorem o_tk:Bm enc w base spare held 155 (kD .u8):=Fj (by kernel_rfl)
theorem o_rk:Bm enc w base spare held 105 (kD .u8):=Fj (by kernel_rfl)
theorem o_ty:Bm enc w base spare held 157 λvs=>∃t:Ty,vs=t.cells:=by
 refine vU.mono (Ln [9,9,155] (Qs:=[vY,vY,kD .u8]) (by kernel_rfl) (by kernel_rfl) (by kernel_rfl) ⟨zu,zu,o_tk,trivial⟩) λvs h=> ?_
 obtain⟨ps,rfl,m0⟩:=h;obtain⟨p0,q0,rfl,⟨a,rfl,ha,_⟩,m1⟩:=bD m0;obtain⟨p0,q0,rfl,⟨b,rfl,hb,_⟩,m2⟩:=bD m1;obtain⟨p0,q0,rfl,⟨k,rfl,hk⟩,m3⟩:=bD m2;obtain rfl:=wu m3;exact⟨⟨a,b,k⟩,rfl⟩
theorem agm{i:Int}(h:(Lit.int .u8 i).wf=true):0<=i/\i<256:=by
 simp only[Lit.wf,Za6,Zc8]at h;have h1:IntKind.u8.min=0:=by decide
 have h2:IntKind.u8.max=255:=by decide
 omega
theorem o_rl:Bm enc w base spare held 107 λvs=>∃t:Rl,vs=t.cells/\t.Ok:=by
 refine vU.mono (Ln [105,3,9,9,9,3] (Qs:=[kD .u8,kD .i64,vY,vY,vY,kD .i64]) (by kernel_rfl) (by kernel_rfl) (by kernel_rfl) ⟨o_rk,vZ,zu,zu,zu,vZ,trivial⟩) λvs h=> ?_
 obtain⟨ps,rfl,m0⟩:=h;obtain⟨p0,q0,rfl,⟨k,rfl,hk⟩,m1⟩:=bD m0;obtain⟨p0,q0,rfl,⟨wt,rfl,_⟩,m2⟩:=bD m1;obtain⟨p0,q0,rfl,⟨a,rfl,ha,_⟩,m3⟩:=bD m2;obtain⟨p0,q0,rfl,⟨b,rfl,hb,_⟩,m4⟩:=bD m3;obtain⟨p0,q0,rfl,⟨t,rfl,ht,_⟩,m5⟩:=bD m4;obtain⟨p0,q0,rfl,⟨n,rfl,_⟩,m6⟩:=bD m5;obtain rfl:=wu m6;exact⟨⟨k,wt,a,b,t,n⟩,rfl,agm hk⟩
end
abbrev j5:Nat:=1048576
abbrev bL(i:Int):List AV:=[.int .i64 i]
abbrev BL(s:List Nat):List AV:=[.str s]
def aG.aC(t:aG)(v:AV):List AV:=[.str t.name,.int .u8 t.sh,.int .i64 t.a,.int .i64 t.b,v,.int .i64 t.x,.int .i64 t.y]
theorem aG.Se(t:aG){v:AV}(h:aZ [v]=true):aZ (t.aC v)=true:=by
 simp only[aZ]at h;unfold aG.aC;simp only[aZ,AV.one,h,Zj4,Zj3]at*
structure TS(s0 s:St)(V:AV)(ts:List aG)(rows:List (List AV)):Prop where
 out:Mk 7 s0 s V rows
 len:rows.length=ts.length
 Aa:∀(i:Nat)(t:aG)(r:List AV),ts[i]? =some t->rows[i]? =some r->∃v,r=t.aC v/\Mk 1 s0 s v (t.cA.map bL)/\∀b,cZ v=some b->cZ V≠some b
structure GS(s0 s:St)(V:AV)(ts:List aL)(rows:List (List AV)):Prop where
 out:Mk 9 s0 s V rows
 len:rows.length=ts.length
 Aa:∀(i:Nat)(t:aL)(r:List AV),ts[i]? =some t->rows[i]? =some r->∃v,r=t.aC v/\Mk 1 s0 s v (t.tg.map BL)/\∀b,cZ v=some b->cZ V≠some b
structure PS(s0 s:St)(Vs:List AV)(p:aS):Prop where
 ax:Grew s0 s
 all:∃V1 V2 V3 V4 V5 r1 r2,Vs=[V1,V2,V3,V4,V5]/\TS s0 s V1 p.ts r1/\GS s0 s V2 p.gs r2/\Mk 3 s0 s V3 (p.ys.map Ty.cells)/\Mk 1 s0 s V4 (p.cs.map bL)/\Mk 6 s0 s V5 (p.rs.map Rl.cells)
structure aG.Real(t:aG):Prop where
 name:∀x∈t.name,x<256
 cA:t.cA.length<=j5
structure aL.Real(g:aL):Prop where
 name:∀x∈g.name,x<256
 l7:∀x∈g.l7,x<256
 jB:∀x∈g.jB,x<256
 l8:∀x∈g.l8,x<256
 tg:g.tg.length<=j5
theorem TS.yH{s0 s1 s s':St}{V:AV}{ts:List aG}{rows:List (List AV)}(h:TS s1 s V ts rows)(h0:Wf s0)(Qq:Grew s0 s1)(hg:Grew s0 s')(hk:∀q b,s1.next.toNat<=q.toNat->s.heap.get q=some b->s'.heap.get q=some b):TS s0 s' V ts rows:=
 ⟨Mk.yH h.out h0 Qq hg hk,h.len,λi t r hi hr=>by obtain⟨v,e1,e2,e3⟩:=h.Aa i t r hi hr;exact⟨v,e1,Mk.yH e2 h0 Qq hg hk,e3⟩⟩
theorem GS.yH{s0 s1 s s':St}{V:AV}{ts:List aL}{rows:List (List AV)}(h:GS s1 s V ts rows)(h0:Wf s0)(Qq:Grew s0 s1)(hg:Grew s0 s')(hk:∀q b,s1.next.toNat<=q.toNat->s.heap.get q=some b->s'.heap.get q=some b):GS s0 s' V ts rows:=
 ⟨Mk.yH h.out h0 Qq hg hk,h.len,λi t r hi hr=>by obtain⟨v,e1,e2,e3⟩:=h.Aa i t r hi hr;exact⟨v,e1,Mk.yH e2 h0 Qq hg hk,e3⟩⟩
structure aS.Real(p:aS):Prop where
 ts:p.ts.length<=1000
 tab:∀t∈p.ts,t.Real
 gs:p.gs.length<=1000
 bu:∀t∈p.gs,t.Real
 ys:p.ys.length<=j5
 cs:p.cs.length<=j5
 rs:p.rs.length<=j5
theorem Z6(z:Bool)(l:List Ty):ew 3 (cj z l):=ew.ro λr hr v hv=>by simp only[Zd8]at hr;obtain⟨g,_,rfl⟩:=hr;simp only[Ty.cells,Za5,Zd2,Zh6]at hv;rcases hv with rfl|rfl|rfl<;>first|exact ew.str _|exact ew.int _ _
theorem Mo{R:Type}{p:Pos}{o:Nat}{h:T AB}{v:AV}(hv:((cellsOf (h.get p)).bind λcs=>cs[o]?)=some v)(ok:AV->Bool)(cT:ok v=true)(K:AV->Option R):lS (.load none) [.ptr p o] h ok K=K v:=by
 unfold lS;have e:az.run (λ_=>none) .h (.load none) [.ptr p o]=none:=rfl;rw[e];simp only;rw[mV,hv];simp only[Ze0];rw[cT]
theorem nA{p:Pos}{o:Nat}{h:T AB}{v:AV}(hv:((cellsOf (h.get p)).bind λcs=>cs[o]?)=some v)(hb:fC v v=true):mE (.load none) [.ptr p o] v (vR [] h)=true:=by unfold mE;show(match az.run (λb=>h.get b) .h (.load none) [.ptr p o]with|some (.val u)=>fC u v|_=>false)=true;rw[mV,hv];exact hb
section
variable{H:Type}
theorem adg(d:DataW H):1<=Rows.uptoBulk d:=by
 cases d with
 |lit l=>cases l<;>simp[Rows.uptoBulk]
 |_=>simp[Rows.uptoBulk]
theorem pz:∀l:List (DataW H),l.length<=Rows.uptoBulkAll l/\∀d∈l,Rows.uptoBulk d<=Rows.uptoBulkAll l
 |[]=>⟨Zi3 _,λd h=>by simp at h⟩
 |d::l=>by
  obtain⟨h1,h2⟩:=pz l;have h3:=adg d;have e:Rows.uptoBulkAll (d::l)=Rows.uptoBulk d+Rows.uptoBulkAll l:=by simp[Rows.uptoBulkAll]
  rw[e];refine⟨by simp only[Zd7];omega,λx hx=> ?_⟩;rcases Za5.1 hx with rfl|hx
  .omega
  .have:=h2 x hx;omega
abbrev Pt(d:DataW H):Prop:=Rows.uptoBulk d<=j5
theorem DW(e s:List (DataW H))(h:Pt (.slice e s)):e.length<=j5/\∀d∈e,Pt d:=by
 obtain⟨h1,h2⟩:=pz e;have e1:Rows.uptoBulk (.slice e s)=Rows.uptoBulkAll e+Rows.uptoBulkAll s+1:=by simp[Rows.uptoBulk]
 have h:Rows.uptoBulk (.slice e s)<=1048576:=h;rw[e1]at h;exact⟨show e.length<=1048576 by omega,λd hd=>show Rows.uptoBulk d<=1048576 by have:=h2 d hd;omega⟩
theorem Q3(ps:List (DataW H))(h:Pt (.agg ps)):∀d∈ps,Pt d:=λd hd=>by
 obtain⟨h1,h2⟩:=pz ps;have e1:Rows.uptoBulk (.agg ps)=Rows.uptoBulkAll ps+1:=by simp[Rows.uptoBulk]
 have h:Rows.uptoBulk (.agg ps)<=1048576:=h;rw[e1]at h;show Rows.uptoBulk d<=1048576;have:=h2 d hd;omega
end
section
variable{H:Type}{enc:TypeId×Value->H}{w:World}{base:Nat}{spare:Nat->Bool}{held:Bool}
abbrev sV(enc:TypeId×Value->H)(w:World)(base:Nat)(spare:Nat->Bool)(held:Bool)(t:TypeId)(Q:List AV->Prop):Prop:=bT Pt enc Tryz.prog w base spare held t Q
theorem sW{α:Type}{P:α->Prop}{cells:α->List AV}:∀(rs:List (List AV)),(∀r∈rs,∃t,r=cells t/\P t)->∃l:List α,rs=l.map cells/\∀t∈l,P t
 |[],_=>⟨[],rfl,by simp⟩
 |r::rs,h=>by
  obtain⟨t,rfl,ht⟩:=h r (by simp);obtain⟨l,rfl,hl⟩:=sW rs (λq hq=>h q (Za4 _ hq));exact⟨t::l,rfl,λq hq=>by
   rcases Za5.1 hq with rfl|hq
   .exact ht
   .exact hl q hq⟩
theorem MT:sV enc w base spare held 25 λvs=>∃z l,vs=[ints z l]/\l.length<=j5:=by
 refine bT.mono (lq (N:=j5) (es:=1) (Q:=kD .i64) (by kernel_rfl) (by kernel_rfl) (by omega) (λvs h=>by obtain⟨i,rfl,_⟩:=h;rfl) DW (bT.of vZ)) λvs h=> ?_
 obtain⟨z,rs,rfl,h1,h2⟩:=h;obtain⟨l,rfl,_⟩:=sW (P:=λ_:Int=>True) (cells:=λi=>[AV.int .i64 i]) rs (λr hr=>by obtain⟨i,e,_⟩:=h1 r hr;exact⟨i,e,trivial⟩);exact⟨z,l,rfl,by simpa using h2⟩
theorem aex:sV enc w base spare held 135 λvs=>∃z l,vs=[ee z l]/\l.length<=j5:=by
 refine bT.mono (lq (N:=j5) (es:=1) (Q:=vY) (by kernel_rfl) (by kernel_rfl) (by omega) (λvs h=>by obtain⟨i,rfl,_⟩:=h;rfl) DW (bT.of zu)) λvs h=> ?_
 obtain⟨z,rs,rfl,h1,h2⟩:=h;obtain⟨l,rfl,_⟩:=sW (P:=λ_:List Nat=>True) (cells:=λi=>[AV.str i]) rs (λr hr=>by obtain⟨i,e,_⟩:=h1 r hr;exact⟨i,e,trivial⟩);exact⟨z,l,rfl,by simpa using h2⟩
theorem afn:sV enc w base spare held 99 λvs=>∃t:aG,vs=t.cells/\t.Ok/\t.Real:=by
 refine bT.mono (vW [9,97,3,3,25,3,3] (Qs:=[vY,kD .u8,kD .i64,kD .i64,λvs=>∃z l,vs=[ints z l]/\l.length<=j5,kD .i64,kD .i64]) (by kernel_rfl) (by kernel_rfl) (by kernel_rfl) Q3 ⟨bT.of zu,bT.of aew,bT.of vZ,bT.of vZ,MT,bT.of vZ,bT.of vZ,trivial⟩) λvs h=> ?_
 obtain⟨ps,rfl,m0⟩:=h;obtain⟨p0,q0,rfl,⟨s,rfl,hs,A0⟩,m1⟩:=bD m0;obtain⟨p0,q0,rfl,⟨k,rfl,_⟩,m2⟩:=bD m1;obtain⟨p0,q0,rfl,⟨a,rfl,_⟩,m3⟩:=bD m2;obtain⟨p0,q0,rfl,⟨b,rfl,_⟩,m4⟩:=bD m3;obtain⟨p0,q0,rfl,⟨z,l,rfl,hl⟩,m5⟩:=bD m4;obtain⟨p0,q0,rfl,⟨x,rfl,_⟩,m6⟩:=bD m5;obtain⟨p0,q0,rfl,⟨y,rfl,_⟩,m7⟩:=bD m6;obtain rfl:=wu m7;have jW:l.length<=1048576:=hl;exact⟨⟨s,k,a,b,z,l,x,y⟩,rfl,⟨by show s.length<cL;unfold maxLen at hs;unfold cL;omega,by show l.length<cL;unfold cL;omega⟩,⟨A0,hl⟩⟩
theorem afo:sV enc w base spare held 137 λvs=>∃t:aL,vs=t.cells/\t.Real:=by
 refine bT.mono (vW [9,9,9,3,3,9,4,4,135] (Qs:=[vY,vY,vY,kD .i64,kD .i64,vY,W5,W5,λvs=>∃z l,vs=[ee z l]/\l.length<=j5]) (by kernel_rfl) (by kernel_rfl) (by kernel_rfl) Q3 ⟨bT.of zu,bT.of zu,bT.of zu,bT.of vZ,bT.of vZ,bT.of zu,bT.of abm,bT.of abm,aex,trivial⟩) λvs h=> ?_
 obtain⟨ps,rfl,m0⟩:=h;obtain⟨p0,q0,rfl,⟨name,rfl,_,ia⟩,m1⟩:=bD m0;obtain⟨p0,q0,rfl,⟨l7,rfl,_,ago⟩,m2⟩:=bD m1;obtain⟨p0,q0,rfl,⟨jB,rfl,_,afp⟩,m3⟩:=bD m2;obtain⟨p0,q0,rfl,⟨since,rfl,_⟩,m4⟩:=bD m3;obtain⟨p0,q0,rfl,⟨side,rfl,_⟩,m5⟩:=bD m4;obtain⟨p0,q0,rfl,⟨l8,rfl,_,agp⟩,m6⟩:=bD m5;obtain⟨p0,q0,rfl,⟨host,rfl⟩,m7⟩:=bD m6;obtain⟨p0,q0,rfl,⟨access,rfl⟩,m8⟩:=bD m7;obtain⟨p0,q0,rfl,⟨ztg,tg,rfl,htg⟩,m9⟩:=bD m8;obtain rfl:=wu m9;exact⟨⟨name,l7,jB,since,side,l8,host,access,ztg,tg⟩,rfl,⟨ia,ago,afp,agp,htg⟩⟩
theorem aey:sV enc w base spare held 22 λvs=>∃(z:Bool) (l:List aG),vs=[tabs z l]/\(∀t∈l,t.Ok/\t.Real)/\l.length<=j5:=by
 refine bT.mono (lq (N:=j5) (es:=7) (by kernel_rfl) (by kernel_rfl) (by omega) (λvs h=>by obtain⟨t,rfl,_⟩:=h;rfl) DW afn) λvs h=> ?_
 obtain⟨z,rs,rfl,h1,h2⟩:=h;obtain⟨l,rfl,hl⟩:=sW (P:=λt:aG=>t.Ok/\t.Real) (cells:=aG.cells) rs h1;exact⟨z,l,rfl,hl,by simpa using h2⟩
theorem aez:sV enc w base spare held 23 λvs=>∃(z:Bool) (l:List aL),vs=[bk z l]/\(∀t∈l,t.Real)/\l.length<=j5:=by
 refine bT.mono (lq (N:=j5) (es:=9) (by kernel_rfl) (by kernel_rfl) (by omega) (λvs h=>by obtain⟨t,rfl,_⟩:=h;rfl) DW afo) λvs h=> ?_
 obtain⟨z,rs,rfl,h1,h2⟩:=h;obtain⟨l,rfl,hl⟩:=sW (P:=λt:aL=>t.Real) (cells:=aL.cells) rs h1;exact⟨z,l,rfl,hl,by simpa using h2⟩
theorem afq:sV enc w base spare held 24 λvs=>∃(z:Bool) (l:List Ty),vs=[cj z l]/\l.length<=j5:=by
 refine bT.mono (lq (N:=j5) (es:=3) (by kernel_rfl) (by kernel_rfl) (by omega) (λvs h=>by obtain⟨t,rfl⟩:=h;rfl) DW (bT.of o_ty)) λvs h=> ?_
 obtain⟨z,rs,rfl,h1,h2⟩:=h;obtain⟨l,rfl,_⟩:=sW (P:=λ_:Ty=>True) (cells:=Ty.cells) rs (λr hr=>by obtain⟨t,e⟩:=h1 r hr;exact⟨t,e,trivial⟩);exact⟨z,l,rfl,by simpa using h2⟩
theorem afr:sV enc w base spare held 26 λvs=>∃(z:Bool) (l:List Rl),vs=[iG z l]/\(∀t∈l,t.Ok)/\l.length<=j5:=by
 refine bT.mono (lq (N:=j5) (es:=6) (by kernel_rfl) (by kernel_rfl) (by omega) (λvs h=>by obtain⟨t,rfl,_⟩:=h;rfl) DW (bT.of o_rl)) λvs h=> ?_
 obtain⟨z,rs,rfl,h1,h2⟩:=h;obtain⟨l,rfl,hl⟩:=sW (P:=λt:Rl=>t.Ok) (cells:=Rl.cells) rs h1;exact⟨z,l,rfl,hl,by simpa using h2⟩
structure aS.Laid(p:aS):Prop where
 tab:∀t∈p.ts,t.Ok/\t.Real
 bu:∀t∈p.gs,t.Real
 Q4:∀r∈p.rs,r.Ok
 ys:p.ys.length<=j5
 cs:p.cs.length<=j5
 rs:p.rs.length<=j5
theorem aeW:sV enc w base spare held 28 λvs=>∃p:aS,vs=p.cells/\p.Laid:=by
 refine bT.mono (vW [22,23,24,25,26] (Qs:=[_,_,_,_,_]) (by kernel_rfl) (by kernel_rfl) (by kernel_rfl) Q3 ⟨aey,aez,afq,MT,afr,trivial⟩) λvs h=> ?_
 obtain⟨ps,rfl,m0⟩:=h;obtain⟨p0,q0,rfl,⟨z1,l1,rfl,h1,_⟩,m1⟩:=bD m0;obtain⟨p0,q0,rfl,⟨z2,l2,rfl,h2,_⟩,m2⟩:=bD m1;obtain⟨p0,q0,rfl,⟨z3,l3,rfl,h3⟩,m3⟩:=bD m2;obtain⟨p0,q0,rfl,⟨z4,l4,rfl,h4⟩,m4⟩:=bD m3;obtain⟨p0,q0,rfl,⟨z5,l5,rfl,h5,h6⟩,m5⟩:=bD m4;obtain rfl:=wu m5;exact⟨⟨z1,l1,z2,l2,z3,l3,z4,l4,z5,l5⟩,rfl,⟨h1,h2,h5,h3,h4,h6⟩⟩
end
section
variable{H:Type}{enc:TypeId×Value->H}{w:World}{base:Nat}{spare:Nat->Bool}{held:Bool}
abbrev dL(m:Int×Int×Int):List AV:=[.int .i64 m.1,.int .i64 m.2.1,.int .i64 m.2.2]
def Q5(z:Bool)(l:List (Int×Int×Int)):AV:=ro 3 z (l.map dL)
theorem aeA:sV enc w base spare held 48 λvs=>∃m:Int×Int×Int,vs=dL m/\True:=by
 refine bT.mono (vW [3,3,3] (Qs:=[kD .i64,kD .i64,kD .i64]) (by kernel_rfl) (by kernel_rfl) (by kernel_rfl) Q3 ⟨bT.of vZ,bT.of vZ,bT.of vZ,trivial⟩) λvs h=> ?_
 obtain⟨ps,rfl,m0⟩:=h;obtain⟨p0,q0,rfl,⟨a,rfl,_⟩,m1⟩:=bD m0;obtain⟨p0,q0,rfl,⟨b,rfl,_⟩,m2⟩:=bD m1;obtain⟨p0,q0,rfl,⟨c,rfl,_⟩,m3⟩:=bD m2;obtain rfl:=wu m3;exact⟨(a,b,c),rfl,trivial⟩
theorem abG:sV enc w base spare held 33 λvs=>∃(z:Bool) (l:List (Int×Int×Int)),vs=[Q5 z l]/\l.length<=j5:=by
 refine bT.mono (lq (N:=j5) (es:=3) (by kernel_rfl) (by kernel_rfl) (by omega) (λvs h=>by obtain⟨t,rfl,_⟩:=h;rfl) DW aeA) λvs h=> ?_
 obtain⟨z,rs,rfl,h1,h2⟩:=h;obtain⟨l,rfl,_⟩:=sW (P:=λ_:Int×Int×Int=>True) (cells:=dL) rs h1;exact⟨z,l,rfl,by simpa using h2⟩
end
variable{c:ah}
def aG.cB(t t':aG):Prop:=∃z,t'={ t with oz:=z }
def aL.cB(g g':aL):Prop:=∃z,g'={ g with tz:=z }
theorem W6{α:Type}(f:α->AV)(s:St)(d:Nat)(l:List α)(hf:∀a∈l,cJ s d (f a)=f a):(l.map λa=>[f a]).map (λr=>r.map (cJ s d))=l.map λa=>[f a]:=by
 rw[Zf7];refine Zi6 λa ha=> ?_
 simp only[Function.comp,Zb8,Zf2,hf a ha]
theorem HI(s:St)(d:Nat)(k:IntKind)(i:Int):cJ s d (.int k i)= .int k i:=by cases d<;>rfl
theorem HJ(s:St)(d:Nat)(l:List Nat):cJ s d (.str l)= .str l:=by cases d<;>rfl
theorem adh(s:St)(d:Nat)(b:Bool):cJ s d (.bool b)= .bool b:=by cases d<;>rfl
theorem W7{s0 s:St}{v:AV}{l:List Int}(h:Mk 1 s0 s v (l.map bL))(d:Nat):∃z,cJ s (d+1) v=ints z l:=by
 obtain⟨z,hz⟩:=h.own.cJ (d:=d) h.row;refine⟨z,?_⟩;rw[hz];unfold ints;rw[W6 (λi=>AV.int .i64 i) s d l λa _=>HI s d _ _]
theorem adi{s0 s:St}{v:AV}{l:List (List Nat)}(h:Mk 1 s0 s v (l.map BL))(d:Nat):∃z,cJ s (d+1) v=ee z l:=by
 obtain⟨z,hz⟩:=h.own.cJ (d:=d) h.row;refine⟨z,?_⟩;rw[hz];unfold ee;rw[W6 (λi=>AV.str i) s d l λa _=>HJ s d _]
theorem aeB{s0 s:St}{v:AV}{l:List Ty}(h:Mk 3 s0 s v (l.map Ty.cells))(d:Nat):∃z,cJ s (d+1) v=cj z l:=by
 obtain⟨z,hz⟩:=h.own.cJ (d:=d) h.row;refine⟨z,?_⟩;rw[hz];unfold cj;rw[Zf7];congr 1;refine Zi6 λa _=> ?_
 simp only[Function.comp,Ty.cells,Zb8,Zf2,HJ,HI]
theorem aeC{s0 s:St}{v:AV}{l:List Rl}(h:Mk 6 s0 s v (l.map Rl.cells))(d:Nat):∃z,cJ s (d+1) v=iG z l:=by
 obtain⟨z,hz⟩:=h.own.cJ (d:=d) h.row;refine⟨z,?_⟩;rw[hz];unfold iG;rw[Zf7];congr 1;refine Zi6 λa _=> ?_
 simp only[Function.comp,Rl.cells,Zb8,Zf2,HJ,HI]
theorem Pj{α:Type}(P:α->α->Prop)(cells:α->List AV)(g:List AV->List AV):∀(ts:List α)(rows:List (List AV)),rows.length=ts.length->(∀(i:Nat)(t:α)(r:List AV),ts[i]? =some t->rows[i]? =some r->∃t',P t t'/\g r=cells t')->
  ∃vn:List α,rows.map g=vn.map cells/\vn.length=ts.length/\∀(i:Nat)(t t':α),ts[i]? =some t->vn[i]? =some t'->P t t'
 |[],rows,hl,_=>⟨[],by rw[Za8 hl];rfl,rfl,λi t t' h=>by simp at h⟩
 |t::ts,[],hl,_=>by simp at hl
 |t::ts,r::rows,hl,h=>by
  obtain⟨t',h1,h2⟩:=h 0 t r rfl rfl;obtain⟨vn,k1,k2,k3⟩:=Pj P cells g ts rows (by simpa using hl) (λi t r h3 h4=>h (i+1) t r (by simpa using h3) (by simpa using h4));refine⟨t'::vn,by simp[h2,k1],by simp[k2],λi u u' h3 h4=> ?_⟩;cases i with
  |zero=>simp at h3 h4;subst h3;subst h4;exact h1
  |succ i=>exact k3 i u u' (by simpa using h3) (by simpa using h4)
theorem TS.cJ{s0 s:St}{V:AV}{ts:List aG}{rows:List (List AV)}(h:TS s0 s V ts rows)(d:Nat):∃z vn,Go.Ai.cJ s (d+2) V=tabs z vn/\vn.length=ts.length/\∀(i:Nat)(t t':aG),ts[i]? =some t->vn[i]? =some t'->t.cB t':=by
 obtain⟨z,hz⟩:=h.out.own.cJ (d:=d+1) h.out.row;obtain⟨vn,k1,k2,k3⟩:=Pj aG.cB aG.cells (λr=>r.map (Go.Ai.cJ s (d+1))) ts rows h.len λi t r hi hr=>by
  obtain⟨v,rfl,hM,_⟩:=h.Aa i t r hi hr;obtain⟨z2,hz2⟩:=W7 hM d;refine⟨{ t with oz:=z2 },⟨z2,rfl⟩,?_⟩;simp only[aG.aC,aG.cells,Zb8,Zf2,HJ,HI,hz2]
 refine⟨z,vn,?_,k2,k3⟩;rw[hz,k1];rfl
theorem GS.cJ{s0 s:St}{V:AV}{ts:List aL}{rows:List (List AV)}(h:GS s0 s V ts rows)(d:Nat):∃z vn,Go.Ai.cJ s (d+2) V=bk z vn/\vn.length=ts.length/\∀(i:Nat)(t t':aL),ts[i]? =some t->vn[i]? =some t'->t.cB t':=by
 obtain⟨z,hz⟩:=h.out.own.cJ (d:=d+1) h.out.row;obtain⟨vn,k1,k2,k3⟩:=Pj aL.cB aL.cells (λr=>r.map (Go.Ai.cJ s (d+1))) ts rows h.len λi t r hi hr=>by
  obtain⟨v,rfl,hM,_⟩:=h.Aa i t r hi hr;obtain⟨z2,hz2⟩:=adi hM d;refine⟨{ t with tz:=z2 },⟨z2,rfl⟩,?_⟩;simp only[aL.aC,aL.cells,Zb8,Zf2,HJ,HI,adh,hz2]
 refine⟨z,vn,?_,k2,k3⟩;rw[hz,k1];rfl
end
noncomputable section
open Go Go.Ai Go.Proofs
attribute [local go_sem ↓] bf nX ev Qu w5 getLT tV FX Lo rE rF Dr A3 A4 A5 w6 w7 w8 w9 xe xg A6 A7 xj xk xp xq xw Fl Fm Fo
attribute [local go_sem] bf nX ev
section
variable(c:ah)(F:Nat)(x0 x1 x2 x3 x4 x5 x6 x7 x8 x9 xA ue:AV)(s:St)
def sX:Sh:=(sq sl (sq sl sl))
def sY:PX 47 sX:=⟨_,by conv=>lhs;reduce⟩
def nB:O2:=bf c F bh sY.1 [x0] s
def DX:=(by dsimp only[nB,sY,go_sem,Int.reduceOfNat]:nB c F x0 s=_)
def sZ:Sh:=(sq sl (sq sl sl))
def s9:PX 49 sZ:=⟨_,by conv=>lhs;reduce⟩
def nC:O2:=bf c F bh s9.1 [x0,x1] s
def DY:=(by dsimp only[nC,s9,go_sem,Int.reduceOfNat]:nC c F x0 x1 s=_)
def l9:Sh:=(sq sl (sq sl (sq (sq sl (sb (sp 0 [0,3,4] [(2,[3])] (sq (sq sl (sc sl sl)) (sq (sb sl) sl))))) (sq sl sl))))
def ur:PX 96 l9:=⟨_,by conv=>lhs;reduce⟩
def td:PL 96 l9 0:=⟨_,by conv=>lhs;reduce⟩
def fV(k2:Q2):Nat->Q2
 |0,_,_=>none
 |n+1,vs,s=>cX c F bh (fV k2 n) [k2] td.1 vs s
def qF(k2:Q2)(n:Nat)(vs:List AV)(s:St):=(by dsimp only[fV,td,go_sem,Int.reduceOfNat]:fV c F k2 (n+1) vs s=_)
def mb:Un->List Q2->Nat->Q2
 |.z,[k2]=>fV c F k2
 |_,_=>λ_=>dZ
def oD:O2:=bf c F (mb c F) ur.1 [x0] s
def EB:=(by dsimp only[oD,ur, ↓mb,go_sem,Int.reduceOfNat]:oD c F x0 s=_)
def mg:Sh:=(sq sl (sq sl (sq (sq sl (sb (sp 0 [0,3,4] [(2,[3])] (sq (sq sl (sc sl sl)) (sq (sb sl) sl))))) (sq sl sl))))
def uu:PX 97 mg:=⟨_,by conv=>lhs;reduce⟩
def th:PL 97 mg 0:=⟨_,by conv=>lhs;reduce⟩
def fW(k2:Q2):Nat->Q2
 |0,_,_=>none
 |n+1,vs,s=>cX c F bh (fW k2 n) [k2] th.1 vs s
def qG(k2:Q2)(n:Nat)(vs:List AV)(s:St):=(by dsimp only[fW,th,go_sem,Int.reduceOfNat]:fW c F k2 (n+1) vs s=_)
def mh:Un->List Q2->Nat->Q2
 |.z,[k2]=>fW c F k2
 |_,_=>λ_=>dZ
def oE:O2:=bf c F (mh c F) uu.1 [x0] s
def EC:=(by dsimp only[oE,uu, ↓mh,go_sem,Int.reduceOfNat]:oE c F x0 s=_)
def oF:Sh:=(sq sl (sq sl (sq (sq sl (sb (sp 0 [0,3,4] [(2,[3])] (sq (sq sl (sc sl sl)) (sq (sb sl) sl))))) (sq sl sl))))
def xP:PX 98 oF:=⟨_,by conv=>lhs;reduce⟩
def vp:PL 98 oF 0:=⟨_,by conv=>lhs;reduce⟩
def gX(k2:Q2):Nat->Q2
 |0,_,_=>none
 |n+1,vs,s=>cX c F bh (gX k2 n) [k2] vp.1 vs s
def lD(k2:Q2)(n:Nat)(vs:List AV)(s:St):=(by dsimp only[gX,vp,go_sem,Int.reduceOfNat]:gX c F k2 (n+1) vs s=_)
def oG:Un->List Q2->Nat->Q2
 |.z,[k2]=>gX c F k2
 |_,_=>λ_=>dZ
def q9:O2:=bf c F (oG c F) xP.1 [x0] s
def HK:=(by dsimp only[q9,xP, ↓oG,go_sem,Int.reduceOfNat]:q9 c F x0 s=_)
def oH:Sh:=(sq sl (sq sl (sq (sq sl (sb (sp 0 [0,3,4] [(2,[3])] (sq (sq sl (sc sl sl)) (sq (sb sl) sl))))) (sq sl sl))))
def xQ:PX 99 oH:=⟨_,by conv=>lhs;reduce⟩
def vq:PL 99 oH 0:=⟨_,by conv=>lhs;reduce⟩
def gY(k2:Q2):Nat->Q2
 |0,_,_=>none
 |n+1,vs,s=>cX c F bh (gY k2 n) [k2] vq.1 vs s
def lF(k2:Q2)(n:Nat)(vs:List AV)(s:St):=(by dsimp only[gY,vq,go_sem,Int.reduceOfNat]:gY c F k2 (n+1) vs s=_)
def oI:Un->List Q2->Nat->Q2
 |.z,[k2]=>gY c F k2
 |_,_=>λ_=>dZ
def ri:O2:=bf c F (oI c F) xQ.1 [x0] s
def HL:=(by dsimp only[ri,xQ, ↓oI,go_sem,Int.reduceOfNat]:ri c F x0 s=_)
def nD:Sh:=(sq sl (sq sl (sq (sq sl (sb (sp 0 [0,3,4] [(2,[3])] (sq (sq sl (sc sl sl)) (sq (sb sl) sl))))) (sq sl sl))))
def vr:PX 100 nD:=⟨_,by conv=>lhs;reduce⟩
def uv:PL 100 nD 0:=⟨_,by conv=>lhs;reduce⟩
def gw(k2:Q2):Nat->Q2
 |0,_,_=>none
 |n+1,vs,s=>cX c F bh (gw k2 n) [k2] uv.1 vs s
def kE(k2:Q2)(n:Nat)(vs:List AV)(s:St):=(by dsimp only[gw,uv,go_sem,Int.reduceOfNat]:gw c F k2 (n+1) vs s=_)
def nE:Un->List Q2->Nat->Q2
 |.z,[k2]=>gw c F k2
 |_,_=>λ_=>dZ
def qa:O2:=bf c F (nE c F) vr.1 [x0] s
def Gp:=(by dsimp only[qa,vr, ↓nE,go_sem,Int.reduceOfNat]:qa c F x0 s=_)
def mj:Sh:=(sq sl (sq (sq sl (sc (sq sl sl) sl)) (sq (sq sl (sb (sp 0 [0,1,5] [(1,[4]),(2,[])] (sq (sq sl (sc sl sl)) (sq (sb (sq sl (sc (sq sl sl) sl))) sl))))) (sq sl sl))))
def uw:PX 102 mj:=⟨_,by conv=>lhs;reduce⟩
def tj:PL 102 mj 0:=⟨_,by conv=>lhs;reduce⟩
def fX(k1 k2:Q2):Nat->Q2
 |0,_,_=>none
 |n+1,vs,s=>cX c F bh (fX k1 k2 n) [k1,k2] tj.1 vs s
def qH(k1 k2:Q2)(n:Nat)(vs:List AV)(s:St):=(by dsimp only[fX,tj,go_sem,Int.reduceOfNat]:fX c F k1 k2 (n+1) vs s=_)
def mo:Un->List Q2->Nat->Q2
 |.z,[k1,k2]=>fX c F k1 k2
 |_,_=>λ_=>dZ
def oJ:O2:=bf c F (mo c F) uw.1 [x0,x1] s
def ED:=(by dsimp only[oJ,uw, ↓mo,go_sem,Int.reduceOfNat]:oJ c F x0 x1 s=_)
def mq:Sh:=(sq sl (sq (sq sl (sc (sq sl sl) sl)) (sq (sq sl (sb (sp 0 [0,1,5] [(1,[4]),(2,[])] (sq (sq sl (sc sl sl)) (sq (sb (sq sl (sc (sq sl sl) sl))) sl))))) (sq sl sl))))
def ux:PX 103 mq:=⟨_,by conv=>lhs;reduce⟩
def tq:PL 103 mq 0:=⟨_,by conv=>lhs;reduce⟩
def fY(k1 k2:Q2):Nat->Q2
 |0,_,_=>none
 |n+1,vs,s=>cX c F bh (fY k1 k2 n) [k1,k2] tq.1 vs s
def qI(k1 k2:Q2)(n:Nat)(vs:List AV)(s:St):=(by dsimp only[fY,tq,go_sem,Int.reduceOfNat]:fY c F k1 k2 (n+1) vs s=_)
def mz:Un->List Q2->Nat->Q2
 |.z,[k1,k2]=>fY c F k1 k2
 |_,_=>λ_=>dZ
def oK:O2:=bf c F (mz c F) ux.1 [x0,x1] s
def EE:=(by dsimp only[oK,ux, ↓mz,go_sem,Int.reduceOfNat]:oK c F x0 x1 s=_)
def oM:Sh:=(sq sl (sq (sq sl (sc (sq sl sl) sl)) (sq (sq sl (sb (sp 0 [0,1,5] [(1,[4]),(2,[])] (sq (sq sl (sc sl sl)) (sq (sb (sq sl (sc (sq sl sl) sl))) sl))))) (sq sl sl))))
def xR:PX 104 oM:=⟨_,by conv=>lhs;reduce⟩
def vt:PL 104 oM 0:=⟨_,by conv=>lhs;reduce⟩
def gZ(k1 k2:Q2):Nat->Q2
 |0,_,_=>none
 |n+1,vs,s=>cX c F bh (gZ k1 k2 n) [k1,k2] vt.1 vs s
def tr(k1 k2:Q2)(n:Nat)(vs:List AV)(s:St):=(by dsimp only[gZ,vt,go_sem,Int.reduceOfNat]:gZ c F k1 k2 (n+1) vs s=_)
def oN:Un->List Q2->Nat->Q2
 |.z,[k1,k2]=>gZ c F k1 k2
 |_,_=>λ_=>dZ
def rj:O2:=bf c F (oN c F) xR.1 [x0,x1] s
def HM:=(by dsimp only[rj,xR, ↓oN,go_sem,Int.reduceOfNat]:rj c F x0 x1 s=_)
def oO:Sh:=(sq sl (sq (sq sl (sc (sq sl sl) sl)) (sq (sq sl (sb (sp 0 [0,1,5] [(1,[4]),(2,[])] (sq (sq sl (sc sl sl)) (sq (sb (sq sl (sc (sq sl sl) sl))) sl))))) (sq sl sl))))
def xS:PX 105 oO:=⟨_,by conv=>lhs;reduce⟩
def vu:PL 105 oO 0:=⟨_,by conv=>lhs;reduce⟩
def g7(k1 k2:Q2):Nat->Q2
 |0,_,_=>none
 |n+1,vs,s=>cX c F bh (g7 k1 k2 n) [k1,k2] vu.1 vs s
def tu(k1 k2:Q2)(n:Nat)(vs:List AV)(s:St):=(by dsimp only[g7,vu,go_sem,Int.reduceOfNat]:g7 c F k1 k2 (n+1) vs s=_)
def oP:Un->List Q2->Nat->Q2
 |.z,[k1,k2]=>g7 c F k1 k2
 |_,_=>λ_=>dZ
def rm:O2:=bf c F (oP c F) xS.1 [x0,x1] s
def HN:=(by dsimp only[rm,xS, ↓oP,go_sem,Int.reduceOfNat]:rm c F x0 x1 s=_)
def nF:Sh:=(sq sl (sq (sq sl (sc (sq sl sl) sl)) (sq (sq sl (sb (sp 0 [0,1,5] [(1,[4]),(2,[])] (sq (sq sl (sc sl sl)) (sq (sb (sq sl (sc (sq sl sl) sl))) sl))))) (sq sl sl))))
def vw:PX 106 nF:=⟨_,by conv=>lhs;reduce⟩
def uy:PL 106 nF 0:=⟨_,by conv=>lhs;reduce⟩
def gx(k1 k2:Q2):Nat->Q2
 |0,_,_=>none
 |n+1,vs,s=>cX c F bh (gx k1 k2 n) [k1,k2] uy.1 vs s
def rO(k1 k2:Q2)(n:Nat)(vs:List AV)(s:St):=(by dsimp only[gx,uy,go_sem,Int.reduceOfNat]:gx c F k1 k2 (n+1) vs s=_)
def nG:Un->List Q2->Nat->Q2
 |.z,[k1,k2]=>gx c F k1 k2
 |_,_=>λ_=>dZ
def qb:O2:=bf c F (nG c F) vw.1 [x0,x1] s
def Gq:=(by dsimp only[qb,vw, ↓nG,go_sem,Int.reduceOfNat]:qb c F x0 x1 s=_)
def vz:Sh:=(sq sl (sq sl (sq sl sl)))
def vA:PX 132 vz:=⟨_,by conv=>lhs;reduce⟩
def qc:O2:=bf c F bh vA.1 [x0] s
def Gr:=(by dsimp only[qc,vA,go_sem,Int.reduceOfNat]:qc c F x0 s=_)
def vB:Sh:=(sq sl (sq sl (sq sl sl)))
def vC:PX 133 vB:=⟨_,by conv=>lhs;reduce⟩
def qd:O2:=bf c F bh vC.1 [x0] s
def Gs:=(by dsimp only[qd,vC,go_sem,Int.reduceOfNat]:qd c F x0 s=_)
def vD:Sh:=(sq sl (sq sl sl))
def vE:PX 134 vD:=⟨_,by conv=>lhs;reduce⟩
def qe:O2:=bf c F bh vE.1 [x0,x1] s
def Gt:=(by dsimp only[qe,vE,go_sem,Int.reduceOfNat]:qe c F x0 x1 s=_)
def vF:Sh:=(sq sl (sq sl sl))
def vG:PX 135 vF:=⟨_,by conv=>lhs;reduce⟩
def qf:O2:=bf c F bh vG.1 [x0,x1] s
def Gu:=(by dsimp only[qf,vG,go_sem,Int.reduceOfNat]:qf c F x0 x1 s=_)
def nH:Sh:=(sq sl (sq sl (sq (sq sl (sb (sp 0 [0,3,4] [(2,[3])] (sq (sq sl (sc sl sl)) (sq (sb sl) sl))))) (sq sl sl))))
def vH:PX 187 nH:=⟨_,by conv=>lhs;reduce⟩
def uz:PL 187 nH 0:=⟨_,by conv=>lhs;reduce⟩
def gy(k2:Q2):Nat->Q2
 |0,_,_=>none
 |n+1,vs,s=>cX c F bh (gy k2 n) [k2] uz.1 vs s
def kF(k2:Q2)(n:Nat)(vs:List AV)(s:St):=(by dsimp only[gy,uz,go_sem,Int.reduceOfNat]:gy c F k2 (n+1) vs s=_)
def nI:Un->List Q2->Nat->Q2
 |.z,[k2]=>gy c F k2
 |_,_=>λ_=>dZ
def qg:O2:=bf c F (nI c F) vH.1 [x0] s
def Gv:=(by dsimp only[qg,vH, ↓nI,go_sem,Int.reduceOfNat]:qg c F x0 s=_)
def nJ:Sh:=(sq sl (sq (sq sl (sc (sq sl sl) sl)) (sq (sq sl (sb (sp 0 [0,1,5] [(1,[4]),(2,[])] (sq (sq sl (sc sl sl)) (sq (sb (sq sl (sc (sq sl sl) sl))) sl))))) (sq sl sl))))
def vI:PX 188 nJ:=⟨_,by conv=>lhs;reduce⟩
def uA:PL 188 nJ 0:=⟨_,by conv=>lhs;reduce⟩
def gC(k1 k2:Q2):Nat->Q2
 |0,_,_=>none
 |n+1,vs,s=>cX c F bh (gC k1 k2 n) [k1,k2] uA.1 vs s
def rP(k1 k2:Q2)(n:Nat)(vs:List AV)(s:St):=(by dsimp only[gC,uA,go_sem,Int.reduceOfNat]:gC c F k1 k2 (n+1) vs s=_)
def nK:Un->List Q2->Nat->Q2
 |.z,[k1,k2]=>gC c F k1 k2
 |_,_=>λ_=>dZ
def qh:O2:=bf c F (nK c F) vI.1 [x0,x1] s
def Gw:=(by dsimp only[qh,vI, ↓nK,go_sem,Int.reduceOfNat]:qh c F x0 x1 s=_)
end
section
variable{c:ah}(hc:Sem c)(F:Nat){x0 x1 x2 x3 x4 x5 x6 x7 x8 x9 xA ue:AV}{s:St}{r:AV×St}
include hc
theorem BM(h:nB c F x0 s=some r):c 47 [x0] s=some (tidy s r):=hc.o0 F sX (by kernel_rfl) (by kernel_rfl) h
theorem BN(h:nC c F x0 x1 s=some r):c 49 [x0,x1] s=some (tidy s r):=hc.o0 F sZ (by kernel_rfl) (by kernel_rfl) h
theorem CA(h:oD c F x0 s=some r):c 96 [x0] s=some (tidy s r):=hc.o1 F (mb c F) l9 (by kernel_rfl) (by kernel_rfl) (λ_ _ _=>by kernel_rfl) (λ_ _ _ _=>by kernel_rfl) (by kernel_rfl) h
theorem CB(h:oE c F x0 s=some r):c 97 [x0] s=some (tidy s r):=hc.o1 F (mh c F) mg (by kernel_rfl) (by kernel_rfl) (λ_ _ _=>by kernel_rfl) (λ_ _ _ _=>by kernel_rfl) (by kernel_rfl) h
theorem EF(h:q9 c F x0 s=some r):c 98 [x0] s=some (tidy s r):=hc.o1 F (oG c F) oF (by kernel_rfl) (by kernel_rfl) (λ_ _ _=>by kernel_rfl) (λ_ _ _ _=>by kernel_rfl) (by kernel_rfl) h
theorem EG(h:ri c F x0 s=some r):c 99 [x0] s=some (tidy s r):=hc.o1 F (oI c F) oH (by kernel_rfl) (by kernel_rfl) (λ_ _ _=>by kernel_rfl) (λ_ _ _ _=>by kernel_rfl) (by kernel_rfl) h
theorem DZ(h:qa c F x0 s=some r):c 100 [x0] s=some (tidy s r):=hc.o1 F (nE c F) nD (by kernel_rfl) (by kernel_rfl) (λ_ _ _=>by kernel_rfl) (λ_ _ _ _=>by kernel_rfl) (by kernel_rfl) h
theorem CC(h:oJ c F x0 x1 s=some r):c 102 [x0,x1] s=some (tidy s r):=hc.o1 F (mo c F) mj (by kernel_rfl) (by kernel_rfl) (λ_ _ _=>by kernel_rfl) (λ_ _ _ _=>by kernel_rfl) (by kernel_rfl) h
theorem CD(h:oK c F x0 x1 s=some r):c 103 [x0,x1] s=some (tidy s r):=hc.o1 F (mz c F) mq (by kernel_rfl) (by kernel_rfl) (λ_ _ _=>by kernel_rfl) (λ_ _ _ _=>by kernel_rfl) (by kernel_rfl) h
theorem EH(h:rj c F x0 x1 s=some r):c 104 [x0,x1] s=some (tidy s r):=hc.o1 F (oN c F) oM (by kernel_rfl) (by kernel_rfl) (λ_ _ _=>by kernel_rfl) (λ_ _ _ _=>by kernel_rfl) (by kernel_rfl) h
theorem EJ(h:rm c F x0 x1 s=some r):c 105 [x0,x1] s=some (tidy s r):=hc.o1 F (oP c F) oO (by kernel_rfl) (by kernel_rfl) (λ_ _ _=>by kernel_rfl) (λ_ _ _ _=>by kernel_rfl) (by kernel_rfl) h
theorem D3(h:qb c F x0 x1 s=some r):c 106 [x0,x1] s=some (tidy s r):=hc.o1 F (nG c F) nF (by kernel_rfl) (by kernel_rfl) (λ_ _ _=>by kernel_rfl) (λ_ _ _ _=>by kernel_rfl) (by kernel_rfl) h
theorem D4(h:qc c F x0 s=some r):c 132 [x0] s=some (tidy s r):=hc.o0 F vz (by kernel_rfl) (by kernel_rfl) h
theorem D5(h:qd c F x0 s=some r):c 133 [x0] s=some (tidy s r):=hc.o0 F vB (by kernel_rfl) (by kernel_rfl) h
theorem D6(h:qe c F x0 x1 s=some r):c 134 [x0,x1] s=some (tidy s r):=hc.o0 F vD (by kernel_rfl) (by kernel_rfl) h
theorem D7(h:qf c F x0 x1 s=some r):c 135 [x0,x1] s=some (tidy s r):=hc.o0 F vF (by kernel_rfl) (by kernel_rfl) h
theorem D8(h:qg c F x0 s=some r):c 187 [x0] s=some (tidy s r):=hc.o1 F (nI c F) nH (by kernel_rfl) (by kernel_rfl) (λ_ _ _=>by kernel_rfl) (λ_ _ _ _=>by kernel_rfl) (by kernel_rfl) h
theorem D9(h:qh c F x0 x1 s=some r):c 188 [x0,x1] s=some (tidy s r):=hc.o1 F (nK c F) nJ (by kernel_rfl) (by kernel_rfl) (λ_ _ _=>by kernel_rfl) (λ_ _ _ _=>by kernel_rfl) (by kernel_rfl) h
end
end
section
open Go Go.Ai Go.Proofs
variable{c:ah}
theorem afs(t:Ty)(H:Pos->Option AB)(n:Pos):az.run H n (.bin .neq (.struct [(0,.s),(1,.s),(2,.i)])) [.agg t.cells,.agg t.cells]=some (.val (.bool false)):=by
 simp[az.run,gS,mY,FH,eqFields,Ty.cells,nth,uE,cv,jk,dW]
theorem afu(t:Rl)(H:Pos->Option AB)(n:Pos):az.run H n (.bin .neq (.struct [(0,.i),(1,.i),(2,.s),(3,.s),(4,.s),(5,.i)])) [.agg t.cells,.agg t.cells]=some (.val (.bool false)):=by
 simp[az.run,gS,mY,FH,eqFields,Rl.cells,nth,uE,cv,jk,dW]
theorem aeD(t:Ty)(K:AV->Option (AV×St)):gh (.bin .neq (.struct [(0,.s),(1,.s),(2,.i)])) [.agg t.cells,.agg t.cells] K=K (.bool false):=cF K (afs t)
theorem aeE(t:Rl)(K:AV->Option (AV×St)):gh (.bin .neq (.struct [(0,.i),(1,.i),(2,.s),(3,.s),(4,.s),(5,.i)])) [.agg t.cells,.agg t.cells] K=K (.bool false):=cF K (afu t)
theorem Ul(z z':Bool)(l:List (Int))(hl:l.length<cL)(F:Nat)(k1 k2)(s:St):∀(m k f:Nat),m<f->k+m=l.length->g7 c F k1 k2 f [ints z l,ints z' l,.int .i64 (k:Int)] s=k2 [] s:=by
 have lI:∀(z:Bool)(K:AV->St->Option (AV×St))(s:St),ai c (.lenB .l) [ints z l] s K=K (.int .i64 (l.length:Int)) s:=λz K s=>by unfold ints;rw[bX];simp
 intro m;induction m with
 |zero=>
  intro k f hf h1;obtain⟨f,rfl⟩:∃g,f=g+1:=⟨f - 1,by omega⟩
  obtain rfl:k=l.length:=by omega
  rw[tu];simp[lI]
 |succ m ih=>
  intro k f hf h1;obtain⟨f,rfl⟩:∃g,f=g+1:=⟨f - 1,by omega⟩
  have h:k<l.length:=by omega
  have w:aD .i64 ((k:Int)+1)=((k+1:Nat):Int):=wrap64 (by omega) (by unfold cL at hl;omega);rw[<-ih (k+1) f (by omega) (by omega),tu];unfold ints at lI ⊢;simp[lI,h,w]
theorem Ol(hc:Sem c)(z z':Bool)(l:List (Int))(hl:l.length<cL)(s:St):c 105 [ints z l,ints z' l] s=some (.bool true,s):=by
 have lI:∀(z:Bool)(K:AV->St->Option (AV×St))(s:St),ai c (.lenB .l) [ints z l] s K=K (.int .i64 (l.length:Int)) s:=λz K s=>by unfold ints;rw[bX];simp
 have L:=Ul (c:=c) z z' l hl (l.length+1) (λvs HE=>eB vs λx4 vs=>gu vs (some (x4,HE))) (λvs HF=>gu vs (ai c .move [.bool true] HF λx4 rH=>some (x4,rH))) s l.length 0 (l.length+1) (by omega) (by omega);rw[EJ hc (l.length+1) (r:=(.bool true,s)),au (Plain.bool _) (aP.refl s)];rw[HN];simp at L;simp[lI,L]
theorem Sk(z z':Bool)(l:List (List Nat))(hl:l.length<cL)(F:Nat)(k1 k2)(s:St):∀(m k f:Nat),m<f->k+m=l.length->gC c F k1 k2 f [ee z l,ee z' l,.int .i64 (k:Int)] s=k2 [] s:=by
 have lI:∀(z:Bool)(K:AV->St->Option (AV×St))(s:St),ai c (.lenB .l) [ee z l] s K=K (.int .i64 (l.length:Int)) s:=λz K s=>by unfold ee;rw[bX];simp
 intro m;induction m with
 |zero=>
  intro k f hf h1;obtain⟨f,rfl⟩:∃g,f=g+1:=⟨f - 1,by omega⟩
  obtain rfl:k=l.length:=by omega
  rw[rP];simp[lI]
 |succ m ih=>
  intro k f hf h1;obtain⟨f,rfl⟩:∃g,f=g+1:=⟨f - 1,by omega⟩
  have h:k<l.length:=by omega
  have w:aD .i64 ((k:Int)+1)=((k+1:Nat):Int):=wrap64 (by omega) (by unfold cL at hl;omega);rw[<-ih (k+1) f (by omega) (by omega),rP];unfold ee at lI ⊢;simp[lI,h,w]
theorem W8(hc:Sem c)(z z':Bool)(l:List (List Nat))(hl:l.length<cL)(s:St):c 188 [ee z l,ee z' l] s=some (.bool true,s):=by
 have lI:∀(z:Bool)(K:AV->St->Option (AV×St))(s:St),ai c (.lenB .l) [ee z l] s K=K (.int .i64 (l.length:Int)) s:=λz K s=>by unfold ee;rw[bX];simp
 have L:=Sk (c:=c) z z' l hl (l.length+1) (λvs HE=>eB vs λx4 vs=>gu vs (some (x4,HE))) (λvs HF=>gu vs (ai c .move [.bool true] HF λx4 rH=>some (x4,rH))) s l.length 0 (l.length+1) (by omega) (by omega);rw[D9 hc (l.length+1) (r:=(.bool true,s)),au (Plain.bool _) (aP.refl s)];rw[Gw];simp at L;simp[lI,L]
theorem Um(z z':Bool)(l:List (Ty))(hl:l.length<cL)(F:Nat)(k1 k2)(s:St):∀(m k f:Nat),m<f->k+m=l.length->gZ c F k1 k2 f [cj z l,cj z' l,.int .i64 (k:Int)] s=k2 [] s:=by
 have lI:∀(z:Bool)(K:AV->St->Option (AV×St))(s:St),ai c (.lenB .l) [cj z l] s K=K (.int .i64 (l.length:Int)) s:=λz K s=>by unfold cj;rw[bX];simp
 intro m;induction m with
 |zero=>
  intro k f hf h1;obtain⟨f,rfl⟩:∃g,f=g+1:=⟨f - 1,by omega⟩
  obtain rfl:k=l.length:=by omega
  rw[tr];simp[lI]
 |succ m ih=>
  intro k f hf h1;obtain⟨f,rfl⟩:∃g,f=g+1:=⟨f - 1,by omega⟩
  have h:k<l.length:=by omega
  have w:aD .i64 ((k:Int)+1)=((k+1:Nat):Int):=wrap64 (by omega) (by unfold cL at hl;omega);rw[<-ih (k+1) f (by omega) (by omega),tr];unfold cj at lI ⊢;simp[lI,h,w,aeD,Ty.len]
theorem XQ(hc:Sem c)(z z':Bool)(l:List (Ty))(hl:l.length<cL)(s:St):c 104 [cj z l,cj z' l] s=some (.bool true,s):=by
 have lI:∀(z:Bool)(K:AV->St->Option (AV×St))(s:St),ai c (.lenB .l) [cj z l] s K=K (.int .i64 (l.length:Int)) s:=λz K s=>by unfold cj;rw[bX];simp
 have L:=Um (c:=c) z z' l hl (l.length+1) (λvs HE=>eB vs λx4 vs=>gu vs (some (x4,HE))) (λvs HF=>gu vs (ai c .move [.bool true] HF λx4 rH=>some (x4,rH))) s l.length 0 (l.length+1) (by omega) (by omega);rw[EH hc (l.length+1) (r:=(.bool true,s)),au (Plain.bool _) (aP.refl s)];rw[HM];simp at L;simp[lI,L]
theorem Sl(z z':Bool)(l:List (Rl))(hl:l.length<cL)(F:Nat)(k1 k2)(s:St):∀(m k f:Nat),m<f->k+m=l.length->gx c F k1 k2 f [iG z l,iG z' l,.int .i64 (k:Int)] s=k2 [] s:=by
 have lI:∀(z:Bool)(K:AV->St->Option (AV×St))(s:St),ai c (.lenB .l) [iG z l] s K=K (.int .i64 (l.length:Int)) s:=λz K s=>by unfold iG;rw[bX];simp
 intro m;induction m with
 |zero=>
  intro k f hf h1;obtain⟨f,rfl⟩:∃g,f=g+1:=⟨f - 1,by omega⟩
  obtain rfl:k=l.length:=by omega
  rw[rO];simp[lI]
 |succ m ih=>
  intro k f hf h1;obtain⟨f,rfl⟩:∃g,f=g+1:=⟨f - 1,by omega⟩
  have h:k<l.length:=by omega
  have w:aD .i64 ((k:Int)+1)=((k+1:Nat):Int):=wrap64 (by omega) (by unfold cL at hl;omega);rw[<-ih (k+1) f (by omega) (by omega),rO];unfold iG at lI ⊢;simp[lI,h,w,aeE]
theorem W9(hc:Sem c)(z z':Bool)(l:List (Rl))(hl:l.length<cL)(s:St):c 106 [iG z l,iG z' l] s=some (.bool true,s):=by
 have lI:∀(z:Bool)(K:AV->St->Option (AV×St))(s:St),ai c (.lenB .l) [iG z l] s K=K (.int .i64 (l.length:Int)) s:=λz K s=>by unfold iG;rw[bX];simp
 have L:=Sl (c:=c) z z' l hl (l.length+1) (λvs HE=>eB vs λx4 vs=>gu vs (some (x4,HE))) (λvs HF=>gu vs (ai c .move [.bool true] HF λx4 rH=>some (x4,rH))) s l.length 0 (l.length+1) (by omega) (by omega);rw[D3 hc (l.length+1) (r:=(.bool true,s)),au (Plain.bool _) (aP.refl s)];rw[Gq];simp at L;simp[lI,L]
theorem Xa(hc:Sem c)(t t':aG)(h:t.cB t')(hl:t.cA.length<cL)(s:St)(hw:Wf s):c 134 [.agg t.cells,.agg t'.cells] s=some (.bool true,s):=by
 obtain⟨z,rfl⟩:=h;have bV:Wf (af s (.cells t.cells 0)):=bE hw;have x1:=(Grew.af bV (.cells ({ t with oz:=z }:aG).cells 0)).get (aE s (.cells t.cells 0));have x2:=aE (af s (.cells t.cells 0)) (.cells ({ t with oz:=z }:aG).cells 0);have S:=Ol hc t.oz z t.cA hl (af (af s (.cells t.cells 0)) (.cells ({ t with oz:=z }:aG).cells 0));rw[D6 hc 1 (r:=(.bool true,af (af s (.cells t.cells 0)) (.cells ({ t with oz:=z }:aG).cells 0))),au (Plain.bool _) ((bt hw).trans (bt bV))];rw[Gt];have a0:t.cells[0]? =some (.str t.name):=rfl;have a1:t.cells[1]? =some (.int .u8 t.sh):=rfl;have a2:t.cells[2]? =some (.int .i64 t.a):=rfl;have a3:t.cells[3]? =some (.int .i64 t.b):=rfl;have a4:t.cells[4]? =some (ints t.oz t.cA):=rfl;have a5:t.cells[5]? =some (.int .i64 t.x):=rfl;have a6:t.cells[6]? =some (.int .i64 t.y):=rfl;have b0:({ t with oz:=z }:aG).cells[0]? =some (.str t.name):=rfl;have b1:({ t with oz:=z }:aG).cells[1]? =some (.int .u8 t.sh):=rfl;have b2:({ t with oz:=z }:aG).cells[2]? =some (.int .i64 t.a):=rfl;have b3:({ t with oz:=z }:aG).cells[3]? =some (.int .i64 t.b):=rfl;have b4:({ t with oz:=z }:aG).cells[4]? =some (ints z t.cA):=rfl;have b5:({ t with oz:=z }:aG).cells[5]? =some (.int .i64 t.x):=rfl;have b6:({ t with oz:=z }:aG).cells[6]? =some (.int .i64 t.y):=rfl;simp[x1,x2,a0,a1,a2,a3,a4,a5,a6,b0,b1,b2,b3,b4,b5,b6,S]
theorem Xb(hc:Sem c)(t t':aL)(h:t.cB t')(hl:t.tg.length<cL)(s:St)(hw:Wf s):c 135 [.agg t.cells,.agg t'.cells] s=some (.bool true,s):=by
 obtain⟨z,rfl⟩:=h;have bV:Wf (af s (.cells t.cells 0)):=bE hw;have x1:=(Grew.af bV (.cells ({ t with tz:=z }:aL).cells 0)).get (aE s (.cells t.cells 0));have x2:=aE (af s (.cells t.cells 0)) (.cells ({ t with tz:=z }:aL).cells 0);have S:=W8 hc t.tz z t.tg hl (af (af s (.cells t.cells 0)) (.cells ({ t with tz:=z }:aL).cells 0));rw[D7 hc 1 (r:=(.bool true,af (af s (.cells t.cells 0)) (.cells ({ t with tz:=z }:aL).cells 0))),au (Plain.bool _) ((bt hw).trans (bt bV))];rw[Gu];have a0:t.cells[0]? =some (.str t.name):=rfl;have b0:({ t with tz:=z }:aL).cells[0]? =some (.str t.name):=rfl;have a1:t.cells[1]? =some (.str t.l7):=rfl;have b1:({ t with tz:=z }:aL).cells[1]? =some (.str t.l7):=rfl;have a2:t.cells[2]? =some (.str t.jB):=rfl;have b2:({ t with tz:=z }:aL).cells[2]? =some (.str t.jB):=rfl;have a3:t.cells[3]? =some (.int .i64 t.since):=rfl;have b3:({ t with tz:=z }:aL).cells[3]? =some (.int .i64 t.since):=rfl;have a4:t.cells[4]? =some (.int .i64 t.side):=rfl;have b4:({ t with tz:=z }:aL).cells[4]? =some (.int .i64 t.side):=rfl;have a5:t.cells[5]? =some (.str t.l8):=rfl;have b5:({ t with tz:=z }:aL).cells[5]? =some (.str t.l8):=rfl;have a6:t.cells[6]? =some (.bool t.host):=rfl;have b6:({ t with tz:=z }:aL).cells[6]? =some (.bool t.host):=rfl;have a7:t.cells[7]? =some (.bool t.access):=rfl;have b7:({ t with tz:=z }:aL).cells[7]? =some (.bool t.access):=rfl;have a8:t.cells[8]? =some (ee t.tz t.tg):=rfl;have b8:({ t with tz:=z }:aL).cells[8]? =some (ee z t.tg):=rfl;simp[x1,x2,a0,a1,a2,a3,a4,a5,a6,a7,a8,b0,b1,b2,b3,b4,b5,b6,b7,b8,S]
theorem Q6(hc:Sem c)(z z':Bool)(l l':List (aG))(hl:l.length<cL)(Xc:l'.length=l.length)(hs:∀(i:Nat)(t t':aG),l[i]? =some t->l'[i]? =some t'->t.cB t')(hr:∀t∈l,t.cA.length<cL)(F:Nat)(k1 k2)(s:St)(hw:Wf s):∀(m k f:Nat),m<f->k+m=l.length->fX c F k1 k2 f [tabs z l,tabs z' l',.int .i64 (k:Int)] s=k2 [] s:=by
 have lI:∀(z:Bool)(l:List (aG))(K:AV->St->Option (AV×St))(s:St),ai c (.lenB .l) [tabs z l] s K=K (.int .i64 (l.length:Int)) s:=λz l K s=>by unfold tabs;rw[bX];simp
 intro m;induction m with
 |zero=>
  intro k f hf h1;obtain⟨f,rfl⟩:∃g,f=g+1:=⟨f - 1,by omega⟩
  obtain rfl:k=l.length:=by omega
  rw[qH];simp[lI]
 |succ m ih=>
  intro k f hf h1;obtain⟨f,rfl⟩:∃g,f=g+1:=⟨f - 1,by omega⟩
  have h:k<l.length:=by omega
  have h':k<l'.length:=by omega
  have w:aD .i64 ((k:Int)+1)=((k+1:Nat):Int):=wrap64 (by omega) (by unfold cL at hl;omega);have S:=Xa hc l[k] l'[k] (hs k _ _ (H1 h) (H1 h')) (hr _ (Zc2 h)) s hw;rw[<-ih (k+1) f (by omega) (by omega),qH];unfold tabs at lI ⊢;simp[lI,h,h',w,S,aG.len]
theorem Uo(hc:Sem c)(z z':Bool)(l l':List (aG))(hl:l.length<cL)(Xc:l'.length=l.length)(hs:∀(i:Nat)(t t':aG),l[i]? =some t->l'[i]? =some t'->t.cB t')(hr:∀t∈l,t.cA.length<cL)(s:St)(hw:Wf s):c 102 [tabs z l,tabs z' l'] s=some (.bool true,s):=by
 have lI:∀(z:Bool)(l:List (aG))(K:AV->St->Option (AV×St))(s:St),ai c (.lenB .l) [tabs z l] s K=K (.int .i64 (l.length:Int)) s:=λz l K s=>by unfold tabs;rw[bX];simp
 have L:=Q6 hc z z' l l' hl Xc hs hr (l.length+1) (λvs HE=>eB vs λx4 vs=>gu vs (some (x4,HE))) (λvs HF=>gu vs (ai c .move [.bool true] HF λx4 rH=>some (x4,rH))) s hw l.length 0 (l.length+1) (by omega) (by omega);rw[CC hc (l.length+1) (r:=(.bool true,s)),au (Plain.bool _) (aP.refl s)];rw[ED];simp at L;simp[lI,Xc,L]
theorem Q7(hc:Sem c)(z z':Bool)(l l':List (aL))(hl:l.length<cL)(Xc:l'.length=l.length)(hs:∀(i:Nat)(t t':aL),l[i]? =some t->l'[i]? =some t'->t.cB t')(hr:∀t∈l,t.tg.length<cL)(F:Nat)(k1 k2)(s:St)(hw:Wf s):∀(m k f:Nat),m<f->k+m=l.length->fY c F k1 k2 f [bk z l,bk z' l',.int .i64 (k:Int)] s=k2 [] s:=by
 have lI:∀(z:Bool)(l:List (aL))(K:AV->St->Option (AV×St))(s:St),ai c (.lenB .l) [bk z l] s K=K (.int .i64 (l.length:Int)) s:=λz l K s=>by unfold bk;rw[bX];simp
 intro m;induction m with
 |zero=>
  intro k f hf h1;obtain⟨f,rfl⟩:∃g,f=g+1:=⟨f - 1,by omega⟩
  obtain rfl:k=l.length:=by omega
  rw[qI];simp[lI]
 |succ m ih=>
  intro k f hf h1;obtain⟨f,rfl⟩:∃g,f=g+1:=⟨f - 1,by omega⟩
  have h:k<l.length:=by omega
  have h':k<l'.length:=by omega
  have w:aD .i64 ((k:Int)+1)=((k+1:Nat):Int):=wrap64 (by omega) (by unfold cL at hl;omega);have S:=Xb hc l[k] l'[k] (hs k _ _ (H1 h) (H1 h')) (hr _ (Zc2 h)) s hw;rw[<-ih (k+1) f (by omega) (by omega),qI];unfold bk at lI ⊢;simp[lI,h,h',w,S,aL.len]
theorem Up(hc:Sem c)(z z':Bool)(l l':List (aL))(hl:l.length<cL)(Xc:l'.length=l.length)(hs:∀(i:Nat)(t t':aL),l[i]? =some t->l'[i]? =some t'->t.cB t')(hr:∀t∈l,t.tg.length<cL)(s:St)(hw:Wf s):c 103 [bk z l,bk z' l'] s=some (.bool true,s):=by
 have lI:∀(z:Bool)(l:List (aL))(K:AV->St->Option (AV×St))(s:St),ai c (.lenB .l) [bk z l] s K=K (.int .i64 (l.length:Int)) s:=λz l K s=>by unfold bk;rw[bX];simp
 have L:=Q7 hc z z' l l' hl Xc hs hr (l.length+1) (λvs HE=>eB vs λx4 vs=>gu vs (some (x4,HE))) (λvs HF=>gu vs (ai c .move [.bool true] HF λx4 rH=>some (x4,rH))) s hw l.length 0 (l.length+1) (by omega) (by omega);rw[CD hc (l.length+1) (r:=(.bool true,s)),au (Plain.bool _) (aP.refl s)];rw[EE];simp at L;simp[lI,Xc,L]
structure aS.cB(p p':aS):Prop where
 tl:p'.ts.length=p.ts.length
 ts:∀(i:Nat)(t t':aG),p.ts[i]? =some t->p'.ts[i]? =some t'->t.cB t'
 gl:p'.gs.length=p.gs.length
 gs:∀(i:Nat)(t t':aL),p.gs[i]? =some t->p'.gs[i]? =some t'->t.cB t'
 ys:p'.ys=p.ys
 cs:p'.cs=p.cs
 rs:p'.rs=p.rs
theorem PS.cJ{s0 s:St}{Vs:List AV}{p:aS}(h:PS s0 s Vs p)(d:Nat):∃p',Go.Ai.cJ s (d+3) (.agg Vs)= .agg p'.cells/\p.cB p':=by obtain⟨V1,V2,V3,V4,V5,r1,r2,rfl,h1,h2,h3,h4,h5⟩:=h.all;obtain⟨z1,vn,e1,l1,k1⟩:=h1.cJ d;obtain⟨z2,gs',e2,l2,k2⟩:=h2.cJ d;obtain⟨z3,e3⟩:=aeB h3 (d+1);obtain⟨z4,e4⟩:=W7 h4 (d+1);obtain⟨z5,e5⟩:=aeC h5 (d+1);refine⟨⟨z1,vn,z2,gs',z3,p.ys,z4,p.cs,z5,p.rs⟩,?_,⟨l1,k1,l2,k2,rfl,rfl,rfl⟩⟩;rw[RF];simp only[Zb8,Zf2,e1,e2,e3,e4,e5];rfl
structure aS.Big(p:aS):Prop where
 ts:p.ts.length<cL
 cA:∀t∈p.ts,t.cA.length<cL
 gs:p.gs.length<cL
 tg:∀t∈p.gs,t.tg.length<cL
 ys:p.ys.length<cL
 cs:p.cs.length<cL
 rs:p.rs.length<cL
theorem Sm(hc:Sem c)(p p':aS)(h:p.cB p')(hb:p.Big)(s:St)(hw:Wf s):c 49 [.agg p.cells,.agg p'.cells] s=some (.bool true,s):=by
 have bV:Wf (af s (.cells p.cells 0)):=bE hw;have e8:Wf (af (af s (.cells p.cells 0)) (.cells p'.cells 0)):=bE bV;have x1:=(Grew.af bV (.cells p'.cells 0)).get (aE s (.cells p.cells 0));have x2:=aE (af s (.cells p.cells 0)) (.cells p'.cells 0);have S1:=Uo hc p.tz p'.tz p.ts p'.ts hb.ts h.tl h.ts hb.cA _ e8;have S2:=Up hc p.gz p'.gz p.gs p'.gs hb.gs h.gl h.gs hb.tg _ e8;have S3:=XQ hc p.yz p'.yz p.ys hb.ys (af (af s (.cells p.cells 0)) (.cells p'.cells 0));have S4:=Ol hc p.cz p'.cz p.cs hb.cs (af (af s (.cells p.cells 0)) (.cells p'.cells 0));have S5:=W9 hc p.rz p'.rz p.rs hb.rs (af (af s (.cells p.cells 0)) (.cells p'.cells 0));rw[BN hc 1 (r:=(.bool true,af (af s (.cells p.cells 0)) (.cells p'.cells 0))),au (Plain.bool _) ((bt hw).trans (bt bV))];rw[DY];have y3:p'.cells[2]? =some (cj p'.yz p.ys):=by rw[<-h.ys];rfl
 have y4:p'.cells[3]? =some (ints p'.cz p.cs):=by rw[<-h.cs];rfl
 have y5:p'.cells[4]? =some (iG p'.rz p.rs):=by rw[<-h.rs];rfl
 simp[-aS.c2,-aS.c3,-aS.c4,x1,x2,S1,S2,S3,S4,S5,y3,y4,y5,show p.cells[2]? =some (cj p.yz p.ys)from rfl,show p.cells[3]? =some (ints p.cz p.cs)from rfl,show p.cells[4]? =some (iG p.rz p.rs)from rfl]
theorem Sn(hc:Sem c)(p:aS)(hp:p.gW)(hr:∀r∈p.rs,r.Ok)(q1:Pos)(F:Nat)(st:St)(hw:Wf st)(hq:st.heap.get q1=some (.cells p.cells 0))(k1 k2):∀(m k:Nat),p.rs.length<=k+m->k<=p.rs.length->k<=64->
  fI c F k1 k2 (m+1) [.ptr q1 0,.int .i64 (k:Int)] st=if(eI p m k).2=0 then k2 [] st else k1 [.int .i64 (eI p m k).1,.int .i64 (eI p m k).2] st:=by
 have hl:=hp.rs;intro m;induction m with
 |zero=>
  intro k h3 h4 h64;obtain rfl:k=p.rs.length:=by omega
  rw[lZ];simp[eI,hq]
 |succ m ih=>
  intro k h3 h4 h64;by_cases h:k<p.rs.length
  . have w:aD .i64 ((k:Int)+1)=((k+1:Nat):Int):=wrap64 (by omega) (by omega);obtain⟨n,hk⟩:∃n:Nat,p.rs[k].k=(n:Int):=⟨p.rs[k].k.toNat,by have:=(hr _ (Zc2 h)).1;omega⟩
    have hn:n<256:=(by have:=(hr _ (Zc2 h)).2;omega);have KQ:=XP hc p hp p.rs[k] n hk hn st hw;have hS:vX p p.rs[k]=Gm (kd n) p p.rs[k]:=(by unfold vX;rw[hk];rfl);rw[<-hS]at KQ;rw[lZ,eI,H1 h];simp only;by_cases h5:vX p p.rs[k]=0
    .   simp only[h5,ne_eq,not_true,Zd9];by_cases h6:k=64
        .rw[Za2 h6];have WW:decide ((64:Int)<=(k:Int))=true:=(by simp only[Zc8];omega);simp[iG,h,hq,KQ,h5,WW]
        .have g2:=ih (k+1) (by omega) (by omega) (by omega);simp only[h6,Zd9];rw[<-g2];have WW:¬(64:Int)<=(k:Int):=(by omega);simp[iG,h,hq,KQ,h5,WW,w]
    .   simp only[ne_eq,h5,Zl4,Zf0,Zd9];simp[iG,h,hq,KQ,h5]
  .obtain rfl:k=p.rs.length:=(by omega);rw[lZ];simp[eI,hq]
theorem Xd(hc:Sem c)(p:aS)(hp:p.gW)(hR:Mj c p)(hr:∀r∈p.rs,r.Ok)(st:St)(hw:Wf st):c 53 [.agg p.cells] st=some (.tuple [.int .i64 (cg p).1,.int .i64 (cg p).2],st):=by
 have n8:Plain (.tuple [.int .i64 (cg p).1,.int .i64 (cg p).2]):=Plain.tuple (by simp[Plain.int]);have bV:Wf (af st (.cells p.cells 0)):=bE hw;have FF:=Grew.af hw (.cells p.cells 0);have dH:(af st (.cells p.cells 0)).heap.get st.next=some (.cells p.cells 0):=aE _ _;have B:=XN hc p hp hR _ bV;rw[Gd hc 101 (r:=(.tuple [.int .i64 (cg p).1,.int .i64 (cg p).2],af st (.cells p.cells 0))),au n8 FF.keeps];rw[I0];have L:∀k1 k2,fI c 101 k1 k2 101 [.ptr st.next 0,.int .i64 0] (af st (.cells p.cells 0))=if(eI p 100 0).2=0 then k2 [] (af st (.cells p.cells 0))else k1 [.int .i64 (eI p 100 0).1,.int .i64 (eI p 100 0).2] (af st (.cells p.cells 0)):=
   λk1 k2=>Sn hc p hp hr st.next 101 _ bV dH k1 k2 100 0 (by have:=hp.rs;omega) (by omega) (by omega)
 by_cases h:(fH p).2=0
 . have e:cg p=eI p 100 0:=(by unfold cg;rw[Za1 (by simp[h])]);rw[e];by_cases h2:(eI p 100 0).2=0
   .have:=Gn p 100 0 h2;simp[dH,B,h,L,h2,this]
   .simp[dH,B,h,L,h2]
 .have e:cg p=fH p:=(by unfold cg;rw[Za2 h]);rw[e];simp[dH,B,h]
theorem Nk{α β:Type}{P:α->α->Prop}{l l':List α}(hl:l'.length=l.length)(hs:∀(i:Nat)(t t':α),l[i]? =some t->l'[i]? =some t'->P t t')(f:α->β)(hf:∀t t',P t t'->f t'=f t)(i:Nat):l'[i]?.map f=l[i]?.map f:=by
 by_cases h:i<l.length
 .have h':i<l'.length:=(by omega);rw[H1 h,H1 h'];simp only[Ze0,H0];exact hf _ _ (hs i _ _ (H1 h) (H1 h'))
 .rw[Zb3 (by omega),Zb3 (by omega)]
theorem adj{t t':aG}(h:t.cB t'):q7 t'=q7 t:=by obtain⟨z,rfl⟩:=h;rfl
theorem YW{t t':aG}(h:t.cB t'):cK t'=cK t:=by obtain⟨z,rfl⟩:=h;rfl
theorem abn{t t':aL}(h:t.cB t'):fj t'=fj t:=by obtain⟨z,rfl⟩:=h;rfl
variable{p p':aS}
theorem aS.cB.nm(h:p.cB p')(s:List Nat):iF p'.ts s=iF p.ts s:=funext λi=>by
 unfold iF;rw[Nk h.tl h.ts aG.name (λt t' k=>by obtain⟨z,rfl⟩:=k;rfl)]
theorem aS.cB.gm(h:p.cB p')(s:List Nat):gV p'.gs s=gV p.gs s:=funext λi=>by
 unfold gV;rw[Nk h.gl h.gs aL.name (λt t' k=>by obtain⟨z,rfl⟩:=k;rfl)]
theorem aS.cB.at(h:p.cB p'):∀(m k:Nat),dx p'.ts m k=dx p.ts m k
 |0,_=>rfl
 |m +1,k=>by
  have ih:=h.at m (k+1);unfold dx;by_cases hk:k<p.ts.length
  .have jX:k<p'.ts.length:=(by rw[h.tl];exact hk);have hs:=h.ts k _ _ (H1 hk) (H1 jX);have hn:p'.ts[k].name=p.ts[k].name:=(by obtain⟨z,e⟩:=hs;rw[e]);rw[H1 hk,H1 jX];simp only[adj hs,hn,h.nm,ih]
  .have jX:¬k<p'.ts.length:=(by rw[h.tl];exact hk);rw[Zb3 (by omega),Zb3 (by omega)]
theorem aS.cB.vk(h:p.cB p'):bn p'.ts=bn p.ts:=by unfold bn;rw[h.tl,h.at]
theorem aS.cB.gsAt(h:p.cB p'):∀(m k:Nat),gM p'.gs m k=gM p.gs m k
 |0,_=>rfl
 |m +1,k=>by
  have ih:=h.gsAt m (k+1);unfold gM;by_cases hk:k<p.gs.length
  .have jX:k<p'.gs.length:=(by rw[h.gl];exact hk);have hs:=h.gs k _ _ (H1 hk) (H1 jX);have hn:p'.gs[k].name=p.gs[k].name:=(by obtain⟨z,e⟩:=hs;rw[e]);rw[H1 hk,H1 jX];simp only[abn hs,hn,h.gm,ih]
  .have jX:¬k<p'.gs.length:=(by rw[h.gl];exact hk);rw[Zb3 (by omega),Zb3 (by omega)]
theorem aS.cB.unk(h:p.cB p')(t:Ty):jS p'.gs t=jS p.gs t:=by unfold jS;rw[h.gm,h.gm,h.gl]
theorem aS.cB.tyAt(h:p.cB p')(ts:List Ty):∀(m k:Nat),eM p'.gs ts m k=eM p.gs ts m k
 |0,_=>rfl
 |m+1,k=>by
  have ih:=h.tyAt ts m (k+1);unfold eM;cases ts[k]? with
  |none=>rfl
  |some t=>simp only[h.gl,h.unk,ih]
theorem aS.cB.roll(h:p.cB p'):bJ p'.gs p'.ys=bJ p.gs p.ys:=by unfold bJ;rw[h.ys,h.gsAt,h.tyAt]
theorem aS.cB.sum(h:p.cB p'):bP p'.ts=bP p.ts:=by
 unfold bP;congr 1;refine Zj0 λi=> ?_
 rw[Zb5,Zb5];exact Nk h.tl h.ts cK (λt t' k=>YW k) i
theorem aS.cB.basis(h:p.cB p'):fH p'=fH p:=by unfold fH;rw[h.vk,h.roll,h.cs,h.gl,h.sum]
theorem aS.cB.gi(h:p.cB p')(s:List Nat):Go.Proofs.YtlkadmkojjceiaaGreatDoor.gi p' s=Go.Proofs.YtlkadmkojjceiaaGreatDoor.gi p s:=by unfold Go.Proofs.YtlkadmkojjceiaaGreatDoor.gi;rw[h.gm,h.gl]
theorem aS.cB.ti(h:p.cB p')(s:List Nat):Go.Proofs.YtlkadmkojjceiaaGreatDoor.ti p' s=Go.Proofs.YtlkadmkojjceiaaGreatDoor.ti p s:=by unfold Go.Proofs.YtlkadmkojjceiaaGreatDoor.ti;rw[h.nm,h.tl]
theorem aS.cB.sU(h:p.cB p')(i:Int):Go.Proofs.YtlkadmkojjceiaaGreatDoor.sU p' i=Go.Proofs.YtlkadmkojjceiaaGreatDoor.sU p i:=by
 unfold Go.Proofs.YtlkadmkojjceiaaGreatDoor.sU;have:=Nk h.tl h.ts cK (λt t' k=>YW k) i.toNat;cases h1:p.ts[i.toNat]? with
 |none=>rw[h1]at this;cases h2:p'.ts[i.toNat]? with
  |none=>rfl
  |some t=>rw[h2]at this;cases this
 |some t=>rw[h1]at this;cases h2:p'.ts[i.toNat]? with
  |none=>rw[h2]at this;cases this
  |some t'=>rw[h2]at this;simp only[Ze0,H0]at this;simp only[this]
theorem aS.cB.rule(h:p.cB p')(r:Rl):vX p' r=vX p r:=by
 unfold vX Gm WU Q1;simp only[h.gi,h.ti,h.sU]
theorem aS.cB.iG(h:p.cB p'):∀(m k:Nat),eI p' m k=eI p m k
 |0,_=>rfl
 |m+1,k=>by
  have ih:=h.iG m (k+1);unfold eI;rw[h.rs];cases p.rs[k]? with
  |none=>rfl
  |some r=>simp only[h.rule,ih]
theorem aS.cB.check(h:p.cB p'):cg p'=cg p:=by unfold cg;rw[h.basis,h.iG]
def BO(p:aS)(m:Nat):Bool:=decide (p.ts.length<=m)&&decide (p.gs.length<=m)&&decide (p.ys.length<=m)&&decide (p.cs.length<=m)&&decide (p.rs.length<=m)
theorem adk{p:aS}(h:BO p 100=true)(cT:∀t∈p.ts,t.Ok):p.gW:=by
 unfold BO at h;simp only[Za6,Zc8]at h;exact⟨h.1.1.1.1,h.1.1.1.2,h.1.1.2,h.1.2,h.2,cT⟩
theorem afv(hc:Sem c)(p:aS)(m:Nat)(st:St)(hw:Wf st):c 44 [.agg p.cells,.int .i64 (m:Int)] st=some (.bool (BO p m),st):=by
 have hp:=aE st (.cells p.cells 0);rw[Me hc 1 (r:=(.bool (BO p m),af st (.cells p.cells 0))),au (Plain.bool _) (bt hw)];rw[O5];unfold BO;by_cases h1:p.ts.length<=m
 . by_cases h2:p.gs.length<=m
   . by_cases h3:p.ys.length<=m
     .  by_cases h4:p.cs.length<=m
        .by_cases h5:p.rs.length<=m<;>simp[h1,h2,h3,h4,h5]
        .simp[h1,h2,h3,h4]
     .  simp[h1,h2,h3]
   .simp[h1,h2]
 .simp[h1]
end
section
open Go Go.Ai Go.Proofs
section
variable{p p':aS}
theorem aS.cB.symm(h:p.cB p'):p'.cB p where
 tl:=h.tl.symm
 ts i t t' h1 h2:=by obtain⟨z,rfl⟩:=h.ts i t' t h2 h1;exact⟨t'.oz,rfl⟩
 gl:=h.gl.symm
 gs i t t' h1 h2:=by obtain⟨z,rfl⟩:=h.gs i t' t h2 h1;exact⟨t'.tz,rfl⟩
 ys:=h.ys.symm
 cs:=h.cs.symm
 rs:=h.rs.symm
theorem aS.cB.trans{q:aS}(h:p.cB p')(k:p'.cB q):p.cB q where
 tl:=k.tl.trans h.tl
 ts i t t' h1 h2:=by
  have hi:i<p'.ts.length:=by rw[h.tl];exact(H5.1 h1).1
  have e:=H1 hi;obtain⟨z,e1⟩:=h.ts i _ _ h1 e;obtain⟨z2,e2⟩:=k.ts i _ _ e h2;exact⟨z2,by rw[e2,e1]⟩
 gl:=k.gl.trans h.gl
 gs i t t' h1 h2:=by
  have hi:i<p'.gs.length:=by rw[h.gl];exact(H5.1 h1).1
  have e:=H1 hi;obtain⟨z,e1⟩:=h.gs i _ _ h1 e;obtain⟨z2,e2⟩:=k.gs i _ _ e h2;exact⟨z2,by rw[e2,e1]⟩
 ys:=k.ys.trans h.ys
 cs:=k.cs.trans h.cs
 rs:=k.rs.trans h.rs
theorem aS.cB.tab(h:p.cB p'){t':aG}(ht:t'∈p'.ts):∃t∈p.ts,t.cB t':=by
 obtain⟨i,hi,rfl⟩:=Zg6.1 ht;have zW:i<p.ts.length:=by rw[<-h.tl];exact hi
 exact⟨p.ts[i],Zc2 zW,h.ts i _ _ (H1 zW) (H1 hi)⟩
theorem aS.cB.bu(h:p.cB p'){t':aL}(ht:t'∈p'.gs):∃t∈p.gs,t.cB t':=by
 obtain⟨i,hi,rfl⟩:=Zg6.1 ht;have zW:i<p.gs.length:=by rw[<-h.gl];exact hi
 exact⟨p.gs[i],Zc2 zW,h.gs i _ _ (H1 zW) (H1 hi)⟩
theorem aS.cB.Q8(h:p.cB p')(hp:p.gW):p'.gW where
 ts:=by rw[h.tl];exact hp.ts
 gs:=by rw[h.gl];exact hp.gs
 ys:=by rw[h.ys];exact hp.ys
 cs:=by rw[h.cs];exact hp.cs
 rs:=by rw[h.rs];exact hp.rs
 ok t ht:=by obtain⟨u,hu,z,rfl⟩:=h.tab ht;have:=hp.ok u hu;exact⟨this.1,this.2⟩
theorem aS.cB.real(h:p.cB p')(hp:p.Real):p'.Real where
 ts:=by rw[h.tl];exact hp.ts
 tab t ht:=by obtain⟨u,hu,z,rfl⟩:=h.tab ht;have:=hp.tab u hu;exact⟨this.1,this.2⟩
 gs:=by rw[h.gl];exact hp.gs
 bu t ht:=by obtain⟨u,hu,z,rfl⟩:=h.bu ht;have:=hp.bu u hu;exact⟨this.1,this.2,this.3,this.4,this.5⟩
 ys:=by rw[h.ys];exact hp.ys
 cs:=by rw[h.cs];exact hp.cs
 rs:=by rw[h.rs];exact hp.rs
theorem aS.Real.agq(hp:p.Real)(hk:∀t∈p.ts,t.Ok):p.Big where
 ts:=by have:=hp.ts;unfold cL;omega
 cA t ht:=(hk t ht).2
 gs:=by have:=hp.gs;unfold cL;omega
 tg t ht:=by have h:=(hp.bu t ht).tg;have h:t.tg.length<=1048576:=h;unfold cL;omega
 ys:=by have h:=hp.ys;have h:p.ys.length<=1048576:=h;unfold cL;omega
 cs:=by have h:=hp.cs;have h:p.cs.length<=1048576:=h;unfold cL;omega
 rs:=by have h:=hp.rs;have h:p.rs.length<=1048576:=h;unfold cL;omega
theorem Xe(s:St)(d es:Nat)(z:Bool)(l:List (List AV)):cJ s d (ro es z l)=ro es z l:=by unfold ro;split<;>cases d<;>rfl
theorem Nl(s:St)(d:Nat)(p:aS):cJ s (d+1) (.agg p.cells)= .agg p.cells:=by
 rw[RF];simp only[aS.cells,tabs,bk,cj,ints,iG,Zb8,Zf2,Xe]
theorem adl(t:aG){v:AV}(h:bY v):∀x∈t.aC v,bY x:=λx hx=>by simp only[aG.aC,Za5,Zd2,Zh6]at hx;rcases hx with rfl|rfl|rfl|rfl|rfl|rfl|rfl<;>first|exact h|exact bY.str _|exact bY.int _ _
theorem adm(t:aL){v:AV}(h:bY v):∀x∈t.aC v,bY x:=λx hx=>by simp only[aL.aC,Za5,Zd2,Zh6]at hx;rcases hx with rfl|rfl|rfl|rfl|rfl|rfl|rfl|rfl|rfl<;>first|exact h|exact bY.str _|exact bY.int _ _|exact bY.bool _
theorem xT{α:Type}{f:α->List AV}(h:∀a,∀x∈f a,bY x)(l:List α):∀r∈l.map f,∀x∈r,bY x:=λr hr x hx=>by obtain⟨a,_,rfl⟩:=Zd8.1 hr;exact h a x hx
theorem Mp(i:Int):∀x∈bL i,bY x:=λx hx=>by simp only[bL,Za5,Zd2,Zh6]at hx;subst hx;exact bY.int _ _
theorem abo(i:List Nat):∀x∈BL i,bY x:=λx hx=>by simp only[BL,Za5,Zd2,Zh6]at hx;subst hx;exact bY.str _
theorem aeF(t:Ty):∀x∈t.cells,bY x:=λx hx=>by simp only[Ty.cells,Za5,Zd2,Zh6]at hx;rcases hx with rfl|rfl|rfl<;>first|exact bY.str _|exact bY.int _ _
theorem aeG(t:Rl):∀x∈t.cells,bY x:=λx hx=>by simp only[Rl.cells,Za5,Zd2,Zh6]at hx;rcases hx with rfl|rfl|rfl|rfl|rfl|rfl<;>first|exact bY.str _|exact bY.int _ _
end
section
variable{s s1:St}
theorem TS.eP{V:AV}{ts:List aG}{rows:List (List AV)}(hw:Wf s)(h:TS (emptyAt s) s1 V ts rows):TS s (eP s s1) V ts rows where
 out:=Mk.eP hw h.out (λr hr x hx=>by
  obtain⟨i,hi,rfl⟩:=Zg6.1 hr;have ht:i<ts.length:=by rw[<-h.len];exact hi
  obtain⟨v,e,M,_⟩:=h.Aa i _ _ (H1 ht) (H1 hi);rw[e]at hx;exact adl _ M.own.bare x hx)
 len:=h.len
 Aa i t r hi hr:=by
  obtain⟨v,e,M,n⟩:=h.Aa i t r hi hr;exact⟨v,e,Mk.eP hw M (xT Mp _),n⟩
theorem GS.eP{V:AV}{ts:List aL}{rows:List (List AV)}(hw:Wf s)(h:GS (emptyAt s) s1 V ts rows):GS s (eP s s1) V ts rows where
 out:=Mk.eP hw h.out (λr hr x hx=>by
  obtain⟨i,hi,rfl⟩:=Zg6.1 hr;have ht:i<ts.length:=by rw[<-h.len];exact hi
  obtain⟨v,e,M,_⟩:=h.Aa i _ _ (H1 ht) (H1 hi);rw[e]at hx;exact adm _ M.own.bare x hx)
 len:=h.len
 Aa i t r hi hr:=by
  obtain⟨v,e,M,n⟩:=h.Aa i t r hi hr;exact⟨v,e,Mk.eP hw M (xT abo _),n⟩
theorem PS.eP{Vs:List AV}{p:aS}(hw:Wf s)(h:PS (emptyAt s) s1 Vs p):PS s (eP s s1) Vs p:=by
 obtain⟨V1,V2,V3,V4,V5,r1,r2,e,h1,h2,h3,h4,h5⟩:=h.all;exact⟨NX hw h.ax.wf h.ax.next,V1,V2,V3,V4,V5,r1,r2,e,TS.eP hw h1,GS.eP hw h2,Mk.eP hw h3 (xT aeF _),Mk.eP hw h4 (xT Mp _),Mk.eP hw h5 (xT aeG _)⟩
theorem PS.bare{s0:St}{Vs:List AV}{p:aS}(h:PS s0 s Vs p):∀V∈Vs,bY V:=λV hV=>by
 obtain⟨V1,V2,V3,V4,V5,r1,r2,rfl,h1,h2,h3,h4,h5⟩:=h.all;simp only[Za5,Zd2,Zh6]at hV;rcases hV with rfl|rfl|rfl|rfl|rfl
 .exact h1.out.own.bare
 .exact h2.out.own.bare
 .exact h3.own.bare
 .exact h4.own.bare
 .exact h5.own.bare
end
variable{c:ah}
theorem Z7(hc:Sem c)(z z2:Bool)(gs:List aL)(ts:List Ty)(hl:gs.length<=100)(p:Pos)(st:St)(hw:Wf st)(hp:st.heap.get p=some (.cells [bk z gs,cj z2 ts] 0))(F:Nat)(k1 k2):∀(m k:Nat),gs.length<=k+m->k<=gs.length->
  fF c F k1 k2 (m+1) [.ptr p 0,.int .i64 (k:Int)] st=if(gM gs m k).2=0 then k2 [.ptr p 0] st else k1 [.int .i64 (gM gs m k).1,.int .i64 (gM gs m k).2] st:=by
 intro m;induction m with
 |zero=>
  intro k h1 h2;obtain rfl:k=gs.length:=by omega
  rw[o6];simp[gM,hp]
 |succ m ih=>
  intro k h1 h2;rw[o6];by_cases h:k<gs.length
  . have w:aD .i64 ((k:Int)+1)=((k+1:Nat):Int):=wrap64 (by omega) (by omega);have hch:=WA hc gs[k] st hw;have n9:k<=gs.length:=(by omega);have hm:min k gs.length=k:=(by omega);have NZ:=QW hc (z&&gs.isEmpty) (gs.take k) gs[k].name (by unfold cL;simp;omega) st;rw[show(gs.take k).length=k by simp;omega,WB n9]at NZ;simp only[bk,List.map_take]at NZ;rw[gM,H1 h];simp only;by_cases h3:fj gs[k]=0
    .   have e3:¬fj gs[k]≠0:=(by rw[h3];simp);by_cases h4:0<=scan (gV gs gs[k].name) k 0
        .simp only[e3,h4,Zd9,Zf0];simp[bk,hp,h,n9,hch,h3,h4,NZ]
        . by_cases h5:64<=k
          .have h6:(64:Int)<=k:=(by omega);simp only[e3,h4,h5,Zd9,Zf0];simp[bk,hp,h,n9,hch,h3,h4,h6,NZ]
          .have h6:¬(64:Int)<=k:=(by omega);simp only[e3,h4,h5,Zd9];rw[<-ih (k+1) (by omega) (by omega)];simp[bk,hp,h,n9,hch,h3,h4,h6,NZ,w]
    .   simp[bk,hp,h,hch,h3]
  .obtain rfl:k=gs.length:=(by omega);simp[gM,hp]
theorem Z8 (hc:Sem c)(z z2:Bool)(gs:List aL)(ts:List Ty)(hl:gs.length<=100)(jW:ts.length<=100)(p:Pos)(F:Nat)(k1 k4):∀(m k:Nat)(st:St),Wf st->st.heap.get p=some (.cells [bk z gs,cj z2 ts] 0)->ts.length<=k+m->k<=ts.length->
  ∃st',Grew st st'/\fE c F k1 k4 (m+1) [.ptr p 0,.int .i64 (k:Int)] st=if(eM gs ts m k).2=0 then k4 [] st' else k1 [.int .i64 (eM gs ts m k).1,.int .i64 (eM gs ts m k).2] st':=by
 intro m;induction m with
 |zero=>
  intro k st hw hp h1 h2;obtain rfl:k=ts.length:=by omega
  refine⟨st,Grew.refl hw,?_⟩;rw[jZ];simp[eM,hp]
 |succ m ih   =>
  intro k st hw hp h1 h2;by_cases h:k<ts.length
  . have w:aD     .i64 ((k:Int)+1)=((k+1:Nat):Int):=wrap64 (by omega) (by omega);have wg:aD .i64 ((gs.length:Int)+(k:Int))=(gs.length:Int)+k:=wrap64 (by omega) (by omega);have bV:Wf (af st (.cells ts[k].cells 0)):=bE hw;have hg:=Grew.af hw (.cells ts[k].cells 0);have dH:(af st (.cells ts[k].cells 0)).heap.get p=some (.cells [bk z gs,cj z2 ts] 0):=hg.get hp;have ha:=QW hc z gs ts[k].a (by unfold cL;omega) (af st (.cells ts[k].cells 0));have hb:=QW hc z gs ts[k].b (by unfold cL;omega) (af st (.cells ts[k].cells 0));have Sg:¬256<=k:=(by omega);have JA:¬(256:Int)<=k:=(by omega);obtain⟨st',g1,g2⟩:=ih (k+1) _ bV dH (by omega) (by omega);have YO:FE ts[k]=true->(ts[k].k=1\/(¬ts[k].k=1/\ts[k].k=2)):=λq=>by
        simp only[FE,Zg9,Zc8]at q;by_cases e:ts[k].k=1
        .exact .inl e
        .exact .inr ⟨e,q.resolve_left e⟩
    have hkf:FE ts[k]=false->(¬ts[k].k=1/\¬ts[k].k=2):=λq=>by simpa [FE]using q
    rw[jZ,eM,H1 h];simp only;by_cases h0:k=0
    .   have hk :¬0<k:=(by omega);have ep:lC ts k=none:=(by simp[lC,h0]);rw[ep];clear h0 ih;simp only[UL,p8,Bool.or_false,Zd5,Zd9,Sg];cases q1:FE ts[k]
        .obtain⟨f1,f2⟩:=hkf q1;refine⟨_,hg,?_⟩;simp[cj,hp,dH,h,wg,f1,f2]
        . have f:=YO q1;cases q2:aA ts[k].a ts[k].b
          .refine⟨_,hg,?_⟩;rcases f with f|⟨f,f2⟩<;>simp[cj,hp,dH,h,wg,q2, *]
          . cases q3:jS gs ts[k]
            .have q4:=q3;simp only[jS,Zk6,Zg2]at q4;obtain⟨n1,n2⟩:=q4;refine⟨st',hg.trans g1,?_⟩;simp only[q1,q2,Zm9,Bool.or_false,Zd5,Zd9];rw[<-g2];rcases f with f|⟨f,f2⟩<;>simp[cj,hp,dH,h,wg,q2,ha,hb,n1,n2,hk,JA,w, *]
            . refine⟨_,hg,?_⟩;by_cases n1:scan (gV gs ts[k].a) gs.length 0<0
              .rcases f with f|⟨f,f2⟩<;>simp[cj,hp,dH,h,wg,q2,ha,hb,n1,hk,JA,w, *]
              .have n2:scan (gV gs ts[k].b) gs.length 0<0:=(by simpa [jS,n1]using q3);rcases f with f|⟨f,f2⟩<;>simp[cj,hp,dH,h,wg,q2,ha,hb,n1,n2,hk,JA,w, *]
    .   have hk : 0<k:=(by omega);have oB:k - 1<ts.length:=(by omega);have wk:aD .i64 ((k:Int) - 1)=((k - 1:Nat):Int):=(by rw[wrap64 (by omega) (by omega)];omega);have ep:lC ts k=some ts[k - 1]:=(by rw[lC,Za1 h0,H1 oB]);have b1:=Tt hc ts[k] ts[k - 1] (af st (.cells ts[k].cells 0)) bV;have b2:=Tt hc ts[k - 1] ts[k] (af st (.cells ts[k].cells 0)) bV;rw[ep];clear ih;simp only[UL,p8,Sg,Zd9];cases q1:FE ts[k]
        .obtain⟨f1,f2⟩:=hkf q1;refine⟨_,hg,?_⟩;simp[cj,hp,dH,h,wg,f1,f2]
        . have f:=YO q1;cases q2:aA ts[k].a ts[k].b
          .refine⟨_,hg,?_⟩;rcases f with f|⟨f,f2⟩<;>simp[cj,hp,dH,h,wg,q2, *]
          . cases q5:eg ts[k] ts[k - 1]
            . cases q3:jS gs ts[k]
              . have q4:=q3;simp only[jS,Zk6,Zg2]at q4;obtain⟨n1,n2⟩:=q4;cases q6:eg ts[k - 1] ts[k]
                .refine⟨_,hg,?_⟩;rcases f with f|⟨f,f2⟩<;>simp[cj,hp,dH,h,wg,q2,ha,hb,n1,n2,hk,oB,wk,b1,b2,JA,w, *]
                .refine⟨st',hg.trans g1,?_⟩;simp only[q1,q2,q5,Zm9,Zd5,Zd9,Bool.or_false];rw[<-g2];rcases f with f|⟨f,f2⟩<;>simp[cj,hp,dH,h,wg,q2,ha,hb,n1,n2,hk,oB,wk,b1,b2,JA,w, *]
              . refine⟨_,hg,?_⟩;by_cases n1:scan (gV gs ts[k].a) gs.length 0<0
                .rcases f with f|⟨f,f2⟩<;>simp[cj,hp,dH,h,wg,q2,ha,hb,n1,hk,oB,wk,b1,b2,JA,w, *]
                .have n2:scan (gV gs ts[k].b) gs.length 0<0:=(by simpa [jS,n1]using q3);rcases f with f|⟨f,f2⟩<;>simp[cj,hp,dH,h,wg,q2,ha,hb,n1,n2,hk,oB,wk,b1,b2,JA,w, *]
            .refine⟨_,hg,?_⟩;rcases f with f|⟨f,f2⟩<;>simp[cj,hp,dH,h,wg,q2,hk,oB,wk,b1,b2, *]
  .obtain rfl:k=ts.length:=(by omega);refine⟨st,Grew.refl hw,?_⟩;rw[jZ];simp[eM,hp]
theorem Z9(hc:Sem c)(z z2:Bool)(gs:List aL)(ts:List Ty)(hl:gs.length<=100)(jW:ts.length<=100)(st:St)(hw:Wf st):c 137 [.agg [bk z gs,cj z2 ts]] st=some (.tuple [.int .i64 (bJ gs ts).1,.int .i64 (bJ gs ts).2],st):=by
 have n8:Plain (.tuple [.int .i64 (bJ gs ts).1,.int .i64 (bJ gs ts).2]):=Plain.tuple (by simp[Plain.int]);have bV:Wf (af st (.cells [bk z gs,cj z2 ts] 0)):=bE hw;have FF:=Grew.af hw (.cells [bk z gs,cj z2 ts] 0);have dH:(af st (.cells [bk z gs,cj z2 ts] 0)).heap.get st.next=some (.cells [bk z gs,cj z2 ts] 0):=aE _ _;have L0:=λk1 k2=>Z7 hc z z2 gs ts hl st.next _ bV dH 102 k1 k2 101 0 (by omega) (by omega)
 by_cases h:(gM gs 101 0).2=0
 . have e:bJ gs ts=eM gs ts 101 0:=(by rw[bJ,Za1 (by simp[h])]);obtain⟨st',g1,g2⟩:=Z8 hc z z2 gs ts hl jW st.next 102 (λvs ac9=>eB vs λx2 vs=>eB vs λx3 vs=>gu vs (some (.tuple [x2,x3],ac9))) (λvs ada=>gu vs (
     ai c .move [(.int .i64 0)] ada λx2 ade=>ai c .move [(.int .i64 0)] ade λx3 adf=>some (.tuple [x2,x3],adf))) 101 0 _ bV dH (by omega) (by omega)
   rw[qE hc 102 (r:=(.tuple [.int .i64 (bJ gs ts).1,.int .i64 (bJ gs ts).2],st')),au n8 (FF.trans g1).keeps];rw[sK,e];simp[h]at L0 g2 ⊢;rw[L0];simp[g2];by_cases h2:(eM gs ts 101 0).2=0
   .have:=Jt gs ts 101 0 h2;simp[h2,this]
   .simp[h2]
 .have e:bJ gs ts=gM gs 101 0:=(by rw[bJ,Za2 h]);rw[qE hc 102 (r:=(.tuple [.int .i64 (bJ gs ts).1,.int .i64 (bJ gs ts).2],af st (.cells [bk z gs,cj z2 ts] 0))),au n8 FF.keeps];rw[sK,e];simp[h]at L0 ⊢;rw[L0];simp
theorem Xf(hc:Sem c)(z z2:Bool)(gs:List aL)(ts:List Ty)(hl:gs.length<=100)(jW:ts.length<=100)(s:St)(hw:Wf s):c 150 [.agg [bk z gs,cj z2 ts]] s=some (.tuple [.int .i64 (bJ gs ts).1,.int .i64 (bJ gs ts).2],s):=by
 have HA:Wf (af s (.cells [bk z gs,cj z2 ts] 0)):=bE hw;obtain⟨v,s',h1,h2,_⟩:=Si hc z z2 gs ts hl jW _ HA;have hcc:cut [bk z gs,cj z2 ts] 0 2=some [bk z gs,cj z2 ts]:=bK rfl;rw[Kt hc 1 (r:=(.tuple [.int .i64 (bJ gs ts).1,.int .i64 (bJ gs ts).2],s')),au (Plain.tuple (by simp[Plain.int])) ((bt hw).trans h2)];rw[Nq];simp[hcc,h1]
theorem YX(hc:Sem c){p:aS}(hp:p.gW):Mj c p:=⟨λst hw=>Xf hc p.gz p.yz p.gs p.ys hp.gs hp.ys st hw,λst hw=>Z9 hc p.gz p.yz p.gs p.ys hp.gs hp.ys st hw⟩
end
noncomputable section
open Go Go.Ai Go.Proofs
def nL(f:FuncId):List AV->St->Option (AV×St):=IU (run CR gg) f 4
def EK:dS:=yf [(327,KE),(12,Nf),(77,nL 77),(72,nL 72),(86,nL 86),(129,nL 129),(125,nL 125),(44,nL 44),(47,nL 47),(49,nL 49),(99,nL 99),(53,nL 53),(101,nL 101),(111,nL 111),(118,nL 118)]
def bZ(c:ah):Prop:=c=run EK gg
theorem bZ.o0{c:ah}(hc:bZ c)(F:Nat){f:FuncId}{args:List AV}{st:St}{r:AV×St}(s:Sh)(hk:(ud (EK f)&& !ud (gg.get (key f))&&(dQ (gA f).code s).isEmpty)=true)
  {k:O2} (hd:Bz c F (UE []) (gA f) s args st=k) (h:k=some r):c f args st=some (tidy st r):=by
 subst hc;exact Yx s hk hd h
theorem bZ.o1{c:ah}(hc:bZ c)(F:Nat){f:FuncId}{args:List AV}{st:St}{r:AV×St}(Ls:Un->List Q2->Nat->Q2)(s:Sh)(hk:(ud (EK f)&& !ud (gg.get (key f))&&Nat.beq (dQ (gA f).code s).length 1)=true)
  (hs:(RA (eX (gA f) s 0).2&&Nat.beq (lpJ (eX (gA f) s 0).2) 0)=true) (h0:∀K' vs st,nr Ls (gA f) s 0 K' 0 vs st=none)
  (h1:∀K' n vs st,nr Ls (gA f) s 0 K' (n+1) vs st=G4 (den c F (nr Ls (gA f) s) (eX (gA f) s 0).1 (lpB (eX (gA f) s 0).2)) (lpI (eX (gA f) s 0).2) (lpO (eX (gA f) s 0).2) K' (nr Ls (gA f) s 0 K' n) vs st)
  {k:O2} (hd:Bz c F (nr Ls (gA f) s) (gA f) s args st=k) (h:k=some r):c f args st=some (tidy st r):=by
 subst hc;exact Yy Ls s hk hs h0 h1 hd h
theorem bZ.oL{c:ah}(hc:bZ c)(F:Nat){f:FuncId}{args:List AV}{st:St}{r:AV×St}(Ls:Un->List Q2->Nat->Q2)(s:Sh)(n:Nat)(hk:(ud (EK f)&& !ud (gg.get (key f))&&Nat.beq (dQ (gA f).code s).length n)=true)
  (hL:∀i,i<n->yC c F (nr Ls (gA f) s) (eX (gA f) s i).1 (eX (gA f) s i).2) {k:O2} (hd:Bz c F (nr Ls (gA f) s) (gA f) s args st=k) (h:k=some r):c f args st=some (tidy st r):=by
 subst hc;exact RK Ls s n hk hL hd h
theorem bZ.at{c:ah}(hc:bZ c){f:FuncId}{s:List AV->St->Option (AV×St)}{args:List AV}{st:St}{r:AV×St}(ho:EK f=some s)(h:s args st=some r):c f args st=some r:=by subst hc;exact Qh ho h
section
variable{c:ah}{s0 s:St}{Vs:List AV}{p:aS}
theorem abp(hc:bZ c)(s:St):c 12 [] s=some (.bool true,s):=hc.at (s:=Nf) rfl rfl
theorem TE(hc:bZ c)(h:PS s0 s Vs p)(hp:p.gW)(hr:∀r∈p.rs,r.Ok):c 77 [.agg Vs] s=some (.tuple [.int .i64 (cg p).1,.int .i64 (cg p).2],s):=by
 obtain⟨p',e,S⟩:=h.cJ 1;refine hc.at (s:=nL 77) rfl (tU ?_ (bY.tuple (by intro v hv;simp at hv;rcases hv with rfl|rfl<;>exact bY.int _ _)));rw[Zb8,Zf2,e, <-S.check];exact Uk rfl p' (S.Q8 hp) (YX rfl (S.Q8 hp)) (by rw[S.rs];exact hr) (emptyAt s) (mW s)
theorem PS.tabs(h:PS s0 s Vs p):∃V1 z p',Vs[0]? =some V1/\Go.Ai.cJ s 4 V1=Go.Proofs.YtlkadmkojjceiaaGreatDoor.tabs z p'.ts/\p.cB p':=by
 obtain⟨V1,V2,V3,V4,V5,r1,r2,rfl,h1,h2,h3,h4,h5⟩:=h.all;obtain⟨z,vn,e,l,k⟩:=h1.cJ 2;exact⟨V1,z,{ p with ts:=vn },rfl,e,⟨l,k,rfl,λi t t' a b=>by rw[a]at b;cases b;exact⟨t.tz,rfl⟩,rfl,rfl,rfl⟩⟩
theorem Mq(hc:bZ c)(h:PS s0 s Vs p)(cT:∀t∈p.ts,t.Ok)(hv:(bn p.ts).2=0){V1:AV}(e1:Vs[0]? =some V1):c 72 [V1] s=some (.int .i64 (bP p.ts),s):=by
 obtain⟨V,z,p',e,ez,S⟩:=h.tabs;rw[e1]at e;cases e;refine hc.at (s:=nL 72) rfl (tU ?_ (bY.int _ _));rw[Zb8,Zf2,ez];have:=Au (c:=run CR gg) rfl z p'.ts (λt ht=>by obtain⟨u,hu,z,rfl⟩:=S.tab ht;have:=cT u hu;exact⟨this.1,this.2⟩) (emptyAt s) (mW s);rw[this,S.vk,Za2 hv,S.sum]
end
end
noncomputable section
open Go Go.Ai Go.Proofs
attribute [local go_sem ↓] bf nX ev Qu w5 getLT tV FX Lo rE rF Dr A3 A4 A5 w6 w7 w8 w9 xe xg A6 A7 xj xk xp xq xw Fl Fm Fo
attribute [local go_sem] bf nX ev
section
variable(c:ah)(F:Nat)(x0 x1 x2 x3 x4 x5 x6 x7 x8 x9 xA ue:AV)(s:St)
def vK:Sh:=(sq sl (sq (sq sl (sc (sq sl sl) sl)) (sq sl sl)))
def vL:PX 17 vK:=⟨_,by conv=>lhs;reduce⟩
def qi:O2:=bf c F bh vL.1 [x0] s
def jT:=(by dsimp only[qi,vL,go_sem,Int.reduceOfNat]:qi c F x0 s=_)
def rQ:Sh:=(sq sl (sq sl sl))
def rR:PX 19 rQ:=⟨_,by conv=>lhs;reduce⟩
def mA:O2:=bf c F bh rR.1 [x0,x1] s
def CE:=(by dsimp only[mA,rR,go_sem,Int.reduceOfNat]:mA c F x0 x1 s=_)
def nM:Sh:=(sq sl (sq (sq sl (sc (sq sl sl) sl)) (sq (sq sl (sb (sp 0 [0,1,12,13] [(1,[4]),(2,[])] (sq sl (sq (sc sl sl) (sq (sb (sq sl (sq sl (sc (sq sl sl) sl)))) sl)))))) (sq sl sl))))
def vM:PX 21 nM:=⟨_,by conv=>lhs;reduce⟩
def uB:PL 21 nM 0:=⟨_,by conv=>lhs;reduce⟩
def gF(k1 k2:Q2):Nat->Q2
 |0,_,_=>none
 |n+1,vs,s=>cX c F bh (gF k1 k2 n) [k1,k2] uB.1 vs s
def kG(k1 k2:Q2)(n:Nat)(vs:List AV)(s:St):=(by dsimp only[gF,uB,go_sem,Int.reduceOfNat]:gF c F k1 k2 (n+1) vs s=_)
def nN:Un->List Q2->Nat->Q2
 |.z,[k1,k2]=>gF c F k1 k2
 |_,_=>λ_=>dZ
def qj:O2:=bf c F (nN c F) vM.1 [x0,x1] s
def Gy:=(by dsimp only[qj,vM, ↓nN,go_sem,Int.reduceOfNat]:qj c F x0 x1 s=_)
def Ea:Sh:=(sq sl (sq (sq sl (sc (sq sl sl) sl)) (sq sl (sq (sq sl (sb (sp 0 [0,1,5,13,14] [(2,[5])] (sq sl (sq (sc sl sl) (sj [0,1,5,13,14] (sb (sq sl (sq sl (sc sl sl)))) sl)))))) (sq sl sl)))))
def Mr:PX 23 Ea:=⟨_,by conv=>lhs;reduce⟩
def Ki:PL 23 Ea 0:=⟨_,by conv=>lhs;reduce⟩
def qJ(k2:Q2):Nat->Q2
 |0,_,_=>none
 |n+1,vs,s=>cX c F bh (qJ k2 n) [k2] Ki.1 vs s
def zz(k2:Q2)(n:Nat)(vs:List AV)(s:St):=(by dsimp only[qJ,Ki,go_sem,Int.reduceOfNat]:qJ c F k2 (n+1) vs s=_)
def Eb:Un->List Q2->Nat->Q2
 |.z,[k2]=>qJ c F k2
 |_,_=>λ_=>dZ
def JE:O2:=bf c F (Eb c F) Mr.1 [x0,x1] s
def Mt:=(by dsimp only[JE,Mr, ↓Eb,go_sem,Int.reduceOfNat]:JE c F x0 x1 s=_)
def Ec:Sh:=(sq sl (sq sl sl))
def Ed:PX 33 Ec:=⟨_,by conv=>lhs;reduce⟩
def Av:O2:=bf c F bh Ed.1 [x0,x1] s
def Ee:=(by dsimp only[Av,Ed,go_sem,Int.reduceOfNat]:Av c F x0 x1 s=_)
def nO:Sh:=(sq sl (sq (sq sl (sb (sp 0 [0,1,7,8] [(1,[4]),(2,[])] (sq sl (sq (sc sl sl) (sq (sb (sq sl (sq sl (sc (sq sl sl) sl)))) sl)))))) (sq sl sl)))
def vN:PX 71 nO:=⟨_,by conv=>lhs;reduce⟩
def uC:PL 71 nO 0:=⟨_,by conv=>lhs;reduce⟩
def gG(k1 k2:Q2):Nat->Q2
 |0,_,_=>none
 |n+1,vs,s=>cX c F bh (gG k1 k2 n) [k1,k2] uC.1 vs s
def kH(k1 k2:Q2)(n:Nat)(vs:List AV)(s:St):=(by dsimp only[gG,uC,go_sem,Int.reduceOfNat,Int.reduceNegSucc]:gG c F k1 k2 (n+1) vs s=_)
def nP:Un->List Q2->Nat->Q2
 |.z,[k1,k2]=>gG c F k1 k2
 |_,_=>λ_=>dZ
def qk:O2:=bf c F (nP c F) vN.1 [x0,x1] s
def Gz:=(by dsimp only[qk,vN, ↓nP,go_sem,Int.reduceOfNat,Int.reduceNegSucc]:qk c F x0 x1 s=_)
def HP:Sh:=(sq sl (sq (sq sl (sq sl (sc (sq sl sl) sl))) (sq sl sl)))
def HQ:PX 80 HP:=⟨_,by conv=>lhs;reduce⟩
def Ef:O2:=bf c F bh HQ.1 [x0,x1,x2] s
def Aw:=(by dsimp only[Ef,HQ,go_sem,Int.reduceOfNat]:Ef c F x0 x1 x2 s=_)
def HR:Sh:=(sq sl (sq sl sl))
def HS:PX 89 HR:=⟨_,by conv=>lhs;reduce⟩
def Eg:O2:=bf c F bh HS.1 [x0] s
def So:=(by dsimp only[Eg,HS,go_sem,Int.reduceOfNat]:Eg c F x0 s=_)
def Eh:Sh:=(sq sl (sq (sq sl (sc (sq sl sl) sl)) (sq sl (sq sl (sq (sq sl (sb (sp 0 [2,8,9,23,24,25] [(1,[6,7]),(2,[])] (sq sl (sq (sc sl sl) (sj [2,8,9,23,24,25] (sb (sq sl (sq (sb (sq sl (sc (sq sl sl) (sq sl (sc (sq sl sl) (sq sl (sc (sq sl sl) sl))))))) (sq sl (sc sl sl))))) sl)))))) (sq sl sl))))))
def Mu:PX 122 Eh:=⟨_,by conv=>lhs;reduce⟩
def Kj:PL 122 Eh 0:=⟨_,by conv=>lhs;reduce⟩
def mL(k1 k2:Q2):Nat->Q2
 |0,_,_=>none
 |n+1,vs,s=>cX c F bh (mL k1 k2 n) [k1,k2] Kj.1 vs s
def eN(k1 k2:Q2)(n:Nat)(vs:List AV)(s:St):=(by dsimp only[mL,Kj,go_sem,Int.reduceOfNat,Int.reduceNegSucc]:mL c F k1 k2 (n+1) vs s=_)
def Ei:Un->List Q2->Nat->Q2
 |.z,[k1,k2]=>mL c F k1 k2
 |_,_=>λ_=>dZ
def JF:O2:=bf c F (Ei c F) Mu.1 [x0,x1,x2] s
def Ej:=(by dsimp only[JF,Mu, ↓Ei,go_sem,Int.reduceOfNat,Int.reduceNegSucc]:JF c F x0 x1 x2 s=_)
def Ek:Sh:=(sq sl (sq sl sl))
def El:PX 128 Ek:=⟨_,by conv=>lhs;reduce⟩
def Ax:O2:=bf c F bh El.1 [x0,x1] s
def Pk:=(by dsimp only[Ax,El,go_sem,Int.reduceOfNat]:Ax c F x0 x1 s=_)
end
section
variable{c:ah}(hc:bZ c)(F:Nat){x0 x1 x2 x3 x4 x5 x6 x7 x8 x9 xA ue:AV}{s:St}{r:AV×St}
include hc
theorem jf(h:qi c F x0 s=some r):c 17 [x0] s=some (tidy s r):=hc.o0 F vK (by kernel_rfl) (by kernel_rfl) h
theorem Bn(h:mA c F x0 x1 s=some r):c 19 [x0,x1] s=some (tidy s r):=hc.o0 F rQ (by kernel_rfl) (by kernel_rfl) h
theorem Em(h:qj c F x0 x1 s=some r):c 21 [x0,x1] s=some (tidy s r):=hc.o1 F (nN c F) nM (by kernel_rfl) (by kernel_rfl) (λ_ _ _=>by kernel_rfl) (λ_ _ _ _=>by kernel_rfl) (by kernel_rfl) h
theorem HT(h:JE c F x0 x1 s=some r):c 23 [x0,x1] s=some (tidy s r):=hc.o1 F (Eb c F) Ea (by kernel_rfl) (by kernel_rfl) (λ_ _ _=>by kernel_rfl) (λ_ _ _ _=>by kernel_rfl) (by kernel_rfl) h
theorem Bo(h:Av c F x0 x1 s=some r):c 33 [x0,x1] s=some (tidy s r):=hc.o0 F Ec (by kernel_rfl) (by kernel_rfl) h
theorem En(h:qk c F x0 x1 s=some r):c 71 [x0,x1] s=some (tidy s r):=hc.o1 F (nP c F) nO (by kernel_rfl) (by kernel_rfl) (λ_ _ _=>by kernel_rfl) (λ_ _ _ _=>by kernel_rfl) (by kernel_rfl) h
theorem wH(h:Ef c F x0 x1 x2 s=some r):c 80 [x0,x1,x2] s=some (tidy s r):=hc.o0 F HP (by kernel_rfl) (by kernel_rfl) h
theorem Pm(h:Eg c F x0 s=some r):c 89 [x0] s=some (tidy s r):=hc.o0 F HR (by kernel_rfl) (by kernel_rfl) h
theorem Ay(h:JF c F x0 x1 x2 s=some r):c 122 [x0,x1,x2] s=some (tidy s r):=hc.o1 F (Ei c F) Eh (by kernel_rfl) (by kernel_rfl) (λ_ _ _=>by kernel_rfl) (λ_ _ _ _=>by kernel_rfl) (by kernel_rfl) h
theorem Mw(h:Ax c F x0 x1 s=some r):c 128 [x0,x1] s=some (tidy s r):=hc.o0 F Ek (by kernel_rfl) (by kernel_rfl) h
end
end
section
open Go Go.Ai Go.Proofs
variable{c:ah}
def rowM(i:Nat):List AV:=[.int .i64 (i:Int)]
def tabZ:List AV:=[.str [],.int .u8 0,.int .i64 0,.int .i64 0,.aq,.int .i64 0,.int .i64 0]
def tabV(nm:List Nat)(sh a b:Int)(x:Nat)(v:AV):List AV:=[.str nm,.int .u8 sh,.int .i64 a,.int .i64 b,v,.int .i64 (x:Int),.int .i64 (255 - (x:Int))]
def opnC(x i:Nat):Bool:=decide (x / 2 ^ i % 2=1)&&decide (0<x % 3)
def opnN(x k:Nat):List Nat:=(List.range k).filter (opnC x)
structure TI(st s:St)(p4 p5:Pos)(nm:List Nat)(sh a b:Int)(x k:Nat)(v:AV):Prop where
 out:Mk 1 st s v ((opnN x k).map rowM)
 h4:s.heap.get p4=some (.cells tabZ 0)
 h5:s.heap.get p5=some (.cells (tabV nm sh a b x v) 0)
 n4:cZ v≠some p4
 n5:cZ v≠some p5
end
section
open Go Go.Ai Go.Proofs
variable{c:ah}
theorem Pn{st s:St}{p:Pos}(h0:Wf st)(h:Grew st s)(hp:st.next.toNat<=p.toNat)(AS:p.toNat<s.next.toNat)(b:AB):Grew st (eG s p b):=
 ⟨G6 h.wf AS,λq x hq=>by have:=h0 _ _ hq;rw[b9 (λe=>by rw[e]at hp;omega)];exact h.get hq,by rw[Dn];exact h.next⟩
end
end Go.Proofs.YtlkadmkojjceiaaGreatDoor
