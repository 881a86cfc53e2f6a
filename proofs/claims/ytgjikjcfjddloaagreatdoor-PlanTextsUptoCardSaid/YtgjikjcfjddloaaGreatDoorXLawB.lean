/- Functions of the program, plainly, and what they answer. -/
import Derived.Test.YtgjikjcfjddloaaGreatDoorXLawA
import Derived.Test.YtgjikjcfjddloaaGreatDoorRows
set_option linter.all false
set_option maxRecDepth 100000
set_option maxHeartbeats 4000000
namespace Go.Proofs.YtgjikjcfjddloaaGreatDoor
section
open Go Go.Ai Go.Proofs
variable{c:ah}
theorem stW{R:Type}(hc:Sem c){p:aR}{r:Rl}{q2 q3:Pos}{s:St}{n:Nat}(hw:Wf s)(hn:n<256)(hk:r.k=(n:Int))(hp:p.ic)(p2:s.heap.get q2=some (.cells p.cells 0))(p3:s.heap.get q3=some (.cells r.cells 0))(K:AV->AV->St->Option R):
  (ai c (.fieldA 0) [(.ptr q3 0)] s λx9 s3=>
   ai c (.load none) [x9] s3 λpY s4=>
   ai c .move [pY] s4 λx5 s5=>
   ai c .move [x5] s5 λqo s6=>
   ai c (.callF 234) [qo] s6 λx12 s7=>
   ai c (.bin .eql .num) [x12,(.str [])] s7 λx13 s8=>
   K x5 x13 s8)=K (.int .u8 (n:Int)) (.bool (decide ((kd n).w=[]))) s:=by
 have W:=aiW hc n hn s hw;simp[p3,hk,W]
theorem stWt{R:Type}(hc:Sem c){p:aR}{r:Rl}{q2 q3:Pos}{s:St}{n:Nat}(hw:Wf s)(hn:n<256)(hk:r.k=(n:Int))(hp:p.ic)(p2:s.heap.get q2=some (.cells p.cells 0))(p3:s.heap.get q3=some (.cells r.cells 0))(K:AV->St->Option R):
   (ai c (.fieldA 1) [(.ptr q3 0)] s λx14 s10=>
    ai c (.load none) [x14] s10 λx15 s11=>
    ai c (.bin .lss .num) [x15,(.int .i64 0)] s11 λx16 s12=>
    ai c .move [x16] s12 λx17 s13=>
    bO c x17 false (.fieldA 1) [(.ptr q3 0)] s13 λKp s14=>
    bO c x17 false (.load none) [Kp] s14 λx19 s15=>
    bO c x17 false (.bin .gtr .num) [x19,(.int .i64 1000)] s15 λx20 Kq=>
    ai c .pick [x17,(.bool true),x20] Kq λx21 Kr=>
    K x21 Kr)=K (.bool (decide (r.wt<0\/1000<r.wt))) s:=by
 by_cases h1:r.wt<0
 .simp[p3,h1]
 .simp[p3,h1]
theorem stP1{R:Type}(hc:Sem c){p:aR}{r:Rl}{q2 q3:Pos}{s:St}{n:Nat}(hw:Wf s)(hn:n<256)(hk:r.k=(n:Int))(hp:p.ic)(p2:s.heap.get q2=some (.cells p.cells 0))(p3:s.heap.get q3=some (.cells r.cells 0))(K:AV->St->Option R):
   (ai c (.fieldA 2) [(.ptr q3 0)] s λx22 Ks=>
    ai c (.load none) [x22] Ks λx23 Kt=>
    ai c (.bin .neq .num) [x23,(.str [])] Kt λx24 s21=>
    ai c .move [x24] s21 λx25 s22=>
    bO c x25 true .move [(.int .u8 (n:Int))] s22 λx26 s23=>
    bO c x25 true (.callF 235) [x26] s23 λx27 s24=>
    bO c x25 true (.un .not) [x27] s24 λx28 s25=>
    ai c .pick [x25,x28,(.bool false)] s25 λx29 s26=>
    ai c .move [x29] s26 λBx s27=>
    bO c Bx true .move [(.int .u8 (n:Int))] s27 λIo s28=>
    bO c Bx true (.callF 236) [Io] s28 λIp s29=>
    bO c Bx true (.un .not) [Ip] s29 λx33 s30=>
    ai c .pick [Bx,x33,(.bool false)] s30 λx34 s31=>
    ai c .move [x34] s31 λx35 s32=>
    bO c x35 true .move [(.int .u8 (n:Int))] s32 λx36 s33=>
    bO c x35 true (.bin .neq .num) [x36,(.int .u8 17)] s33 λx37 s34=>
    ai c .pick [x35,x37,(.bool false)] s34 λx38 s35=>
    K x38 s35)=K (.bool (decide (r.a≠[])&& !lH n&& !xM n&&decide (n≠17))) s:=by
 have T1:=Ko hc (n:Int) s;have T2:=ae4 hc (n:Int) s;by_cases h:r.a=[]
 .simp[p3,h]
 . cases h1:lH (n:Int)with
   |true=>simp[p3,h,T1,h1]
   |false=>
    cases h2:xM (n:Int)with
    |true=>simp[p3,h,T1,T2,h1,h2]
    |   false=>
        have e:decide ((n:Int)=17)=decide (n=17):=(by by_cases hh:n=17<;>simp[hh];omega);simp[p3,h,T1,T2,h1,h2,e]
theorem stP2{R:Type}(hc:Sem c){p:aR}{r:Rl}{q2 q3:Pos}{s:St}{n:Nat}(hw:Wf s)(hn:n<256)(hk:r.k=(n:Int))(hp:p.ic)(p2:s.heap.get q2=some (.cells p.cells 0))(p3:s.heap.get q3=some (.cells r.cells 0))(b:Bool)(K:AV->St->Option R):
  (ai c .move [(.bool b)] s λx39 s36=>
    bO c x39 false (.fieldA 3) [(.ptr q3 0)] s36 λx40 s37=>
    bO c x39 false (.load none) [x40] s37 λx41 s38=>
    bO c x39 false (.bin .neq .num) [x41,(.str [])] s38 λx42 s39=>
    bO c x39 false .move [x42] s39 λx43 s40=>
    bO c x43 true .move [(.int .u8 (n:Int))] s40 λx44 s41=>
    bO c x43 true (.callF 235) [x44] s41 λx45 s42=>
    bO c x43 true (.un .not) [x45] s42 λx46 s43=>
    bO c x39 false .pick [x43,x46,(.bool false)] s43 λx47 s44=>
    ai c .pick [x39,(.bool true),x47] s44 λx48 s45=>
    K x48 s45)=K (.bool (b||(decide (r.b≠[])&& !lH n))) s:=by
 have T1:=Ko hc (n:Int) s;cases b with
 |true=>simp
 |false=>
  by_cases h:r.b=[]
  .simp[p3,h]
  .simp[p3,h,T1]
theorem stP3{R:Type}(hc:Sem c){p:aR}{r:Rl}{q2 q3:Pos}{s:St}{n:Nat}(hw:Wf s)(hn:n<256)(hk:r.k=(n:Int))(hp:p.ic)(p2:s.heap.get q2=some (.cells p.cells 0))(p3:s.heap.get q3=some (.cells r.cells 0))(b:Bool)(K:AV->St->Option R):
  (ai c .move [(.bool b)] s λx49 s46=>
    bO c x49 false (.fieldA 4) [(.ptr q3 0)] s46 λx50 s47=>
    bO c x49 false (.load none) [x50] s47 λx51 s48=>
    bO c x49 false (.bin .neq .num) [x51,(.str [])] s48 λx52 s49=>
    bO c x49 false .move [x52] s49 λx53 s50=>
    bO c x53 true .move [(.int .u8 (n:Int))] s50 λx54 s51=>
    bO c x53 true (.callF 237) [x54] s51 λx55 s52=>
    bO c x53 true (.bin .eql .num) [x55,(.int .i64 0)] s52 λx56 s53=>
    bO c x49 false .pick [x53,x56,(.bool false)] s53 λx57 s54=>
    ai c .pick [x49,(.bool true),x57] s54 λx58 s55=>
    K x58 s55)=K (.bool (b||(decide (r.t≠[])&&decide (sv n=0)))) s:=by
 have T1:=Xt hc (n:Int) s;cases b with
 |true=>simp
 |false=>
  by_cases h:r.t=[]
  .simp[p3,h]
  .simp[p3,h,T1]
theorem stP4{R:Type}(hc:Sem c){p:aR}{r:Rl}{q2 q3:Pos}{s:St}{n:Nat}(hw:Wf s)(hn:n<256)(hk:r.k=(n:Int))(hp:p.ic)(p2:s.heap.get q2=some (.cells p.cells 0))(p3:s.heap.get q3=some (.cells r.cells 0))(b:Bool)(K:AV->St->Option R):
  (ai c .move [(.bool b)] s λx59 s56=>
    bO c x59 false (.fieldA 5) [(.ptr q3 0)] s56 λx60 s57=>
    bO c x59 false (.load none) [x60] s57 λx61 s58=>
    bO c x59 false (.bin .neq .num) [x61,(.int .i64 0)] s58 λx62 s59=>
    bO c x59 false .move [x62] s59 λx63 s60=>
    bO c x63 true .move [(.int .u8 (n:Int))] s60 λx64 s61=>
    bO c x63 true (.callF 238) [x64] s61 λx65 s62=>
    bO c x63 true (.un .not) [x65] s62 λx66 s63=>
    bO c x59 false .pick [x63,x66,(.bool false)] s63 λx67 s64=>
    ai c .pick [x59,(.bool true),x67] s64 λx68 s65=>
    K x68 s65)=K (.bool (b||(decide (r.n≠0)&& !PJ n))) s:=by
 have T1:=Xs hc (n:Int) s;cases b with
 |true=>simp
 |false=>
  by_cases h:r.n=0
  .simp[p3,h]
  .simp[p3,h,T1]
theorem stA{R:Type}(hc:Sem c){p:aR}{r:Rl}{q2 q3:Pos}{s:St}{n:Nat}(hw:Wf s)(hn:n<256)(hk:r.k=(n:Int))(hp:p.ic)(p2:s.heap.get q2=some (.cells p.cells 0))(p3:s.heap.get q3=some (.cells r.cells 0))(K:AV->St->Option R):
  (ai c .move [(.int .u8 (n:Int))] s λx69 s67=>
    ai c (.callF 235) [x69] s67 λx70 s68=>
    ai c .move [x70] s68 λx71 s69=>
    bO c x71 false .move [(.int .u8 (n:Int))] s69 λx72 s70=>
    bO c x71 false (.callF 236) [x72] s70 λx73 s71=>
    ai c .pick [x71,(.bool true),x73] s71 λx74 s72=>
    ai c .move [x74] s72 λx75 s73=>
    bO c x75 true .move [(.int .u8 (n:Int))] s73 λx76 s74=>
    bO c x75 true (.bin .eql .num) [x76,(.int .u8 10)] s74 λx77 s75=>
    bO c x75 true .move [x77] s75 λx78 s76=>
    bO c x78 true (.fieldA 2) [(.ptr q3 0)] s76 λx79 s77=>
    bO c x78 true (.load none) [x79] s77 λx80 s78=>
    bO c x78 true (.bin .eql .num) [x80,(.str [])] s78 λx81 s79=>
    bO c x75 true .pick [x78,x81,(.bool false)] s79 λx82 s80=>
    bO c x75 true (.un .not) [x82] s80 λx83 s81=>
    ai c .pick [x75,x83,(.bool false)] s81 λx84 s82=>
    ai c .move [x84] s82 λx85 s83=>
    bO c x85 true (.fieldA 1) [(.ptr q2 0)] s83 λx86 s84=>
    bO c x85 true (.load none) [x86] s84 λx87 s85=>
    bO c x85 true (.fieldA 2) [(.ptr q3 0)] s85 λx88 s86=>
    bO c x85 true (.load none) [x88] s86 λx89 s87=>
    bO c x85 true (.callF 239) [x87,x89] s87 λx90 s88=>
    bO c x85 true (.bin .lss .num) [x90,(.int .i64 0)] s88 λx91 s89=>
    ai c .pick [x85,x91,(.bool false)] s89 λx92 s90=>
    K x92 s90)=K (.bool ((lH n||xM n)&& !(decide (n=10)&&decide (r.a=[]))&&decide (gi p r.a<0))) s:=by
 have T1:=Ko hc (n:Int) s;have T2:=ae4 hc (n:Int) s;have A:c 239 [bC p.gz p.gs,.str r.a] s=some (.int .i64 (gi p r.a),s):=UF hc p.gz p.gs r.a (by have:=hp.gs;unfold dM;omega) s;have e:((n:Int)=10)=(n=10):=by apply propext;omega
 cases h1:lH (n:Int)with
 |true=>
  by_cases h3:n=10
  . by_cases h4:r.a=[]
    .   simp[p2,p3,T1,h1,h3,h4]
        try simp_all
    .   simp[p2,p3,T1,h1,h3,h4,A]
        try simp_all
  .simp[p2,p3,T1,h1,e,h3,A]
 |false   =>
  cases h2:xM (n:Int)with
  | true=>
    by_cases h3:n=10
    .   by_cases h4:r.a=[]
        . simp[p2,p3,T1,T2,h1,h2,h3,h4]
          try simp_all
        . simp[p2,p3,T1,T2,h1,h2,h3,h4,A]
          try simp_all
    .   simp[p2,p3,T1,T2,h1,h2,e,h3,A]
  |false=>simp[p2,p3,T1,T2,h1,h2]
theorem stB{R:Type}(hc:Sem c){p:aR}{r:Rl}{q2 q3:Pos}{s:St}{n:Nat}(hw:Wf s)(hn:n<256)(hk:r.k=(n:Int))(hp:p.ic)(p2:s.heap.get q2=some (.cells p.cells 0))(p3:s.heap.get q3=some (.cells r.cells 0))(K:AV->St->Option R):
  (ai c .move [(.int .u8 (n:Int))] s λx93 s92=>
   ai c (.callF 235) [x93] s92 λx94 s93=>
   ai c .move [x94] s93 λx95 s94=>
   bO c x95 true (.fieldA 1) [(.ptr q2 0)] s94 λx96 s95=>
   bO c x95 true (.load none) [x96] s95 λx97 s96=>
   bO c x95 true (.fieldA 3) [(.ptr q3 0)] s96 λx98 s97=>
   bO c x95 true (.load none) [x98] s97 λx99 s98=>
   bO c x95 true (.callF 239) [x97,x99] s98 λx100 s99=>
   bO c x95 true (.bin .lss .num) [x100,(.int .i64 0)] s99 λx101 s100=>
   ai c .pick [x95,x101,(.bool false)] s100 λx102 s101=>
   K x102 s101)=K (.bool (lH n&&decide (gi p r.b<0))) s:=by
 have T1:=Ko hc (n:Int) s;have A:c 239 [bC p.gz p.gs,.str r.b] s=some (.int .i64 (gi p r.b),s):=UF hc p.gz p.gs r.b (by have:=hp.gs;unfold dM;omega) s;cases h1:lH (n:Int)<;>simp[p2,p3,T1,h1,A]
theorem stN{R:Type}(hc:Sem c){p:aR}{r:Rl}{q2 q3:Pos}{s:St}{n:Nat}(hw:Wf s)(hn:n<256)(hk:r.k=(n:Int))(hp:p.ic)(p2:s.heap.get q2=some (.cells p.cells 0))(p3:s.heap.get q3=some (.cells r.cells 0))(K:AV->St->Option R):
   (ai c .move [(.int .u8 (n:Int))] s λx103 s103=>
    ai c (.bin .eql .num) [x103,(.int .u8 17)] s103 λx104 s104=>
    ai c .move [x104] s104 λaaD s105=>
    bO c aaD true (.fieldA 2) [(.ptr q3 0)] s105 λx106 s106=>
    bO c aaD true (.load none) [x106] s106 λx107 s107=>
    bO c aaD true (.callF 240) [x107] s107 λx108 s108=>
    bO c aaD true (.un .not) [x108] s108 λx109 s109=>
    ai c .pick [aaD,x109,(.bool false)] s109 λx110 s110=>
    K x110 s110)=K (.bool (decide (n=17)&& !e9 r.a)) s:=by
 have A:=Fp hc r.a s;have e:((n:Int)=17)=(n=17):=by apply propext;omega
 by_cases h1:n=17
 .simp[p3,e,h1,A]
 .simp[p3,e,h1]
theorem stD{R:Type}(hc:Sem c){p:aR}{r:Rl}{q2 q3:Pos}{s:St}{n:Nat}(hw:Wf s)(hn:n<256)(hk:r.k=(n:Int))(hp:p.ic)(p2:s.heap.get q2=some (.cells p.cells 0))(p3:s.heap.get q3=some (.cells r.cells 0))(K:AV->St->Option R):
  (ai c .move [(.int .u8 (n:Int))] s λx111 s112=>
   ai c (.callF 235) [x111] s112 λx112 s113=>
   ai c .move [x112] s113 λV7 s114=>
   bO c V7 true (.fieldA 2) [(.ptr q3 0)] s114 λx114 s115=>
   bO c V7 true (.load none) [x114] s115 λx115 s116=>
   bO c V7 true (.fieldA 3) [(.ptr q3 0)] s116 λx116 s117=>
   bO c V7 true (.load none) [x116] s117 λx117 s118=>
   bO c V7 true (.bin .eql .num) [x115,x117] s118 λx118 s119=>
   ai c .pick [V7,x118,(.bool false)] s119 λx119 s120=>
   K x119 s120)=K (.bool (lH n&&decide (r.a=r.b))) s:=by
 have T1:=Ko hc (n:Int) s;cases h1:lH (n:Int)<;>simp[p3,T1,h1]
theorem stT{R:Type}(hc:Sem c){p:aR}{r:Rl}{q2 q3:Pos}{s:St}{n:Nat}(hw:Wf s)(hn:n<256)(hk:r.k=(n:Int))(hp:p.ic)(p2:s.heap.get q2=some (.cells p.cells 0))(p3:s.heap.get q3=some (.cells r.cells 0))(K:AV->AV->St->Option R):
   (ai c (.fieldA 0) [(.ptr q2 0)] s λx120 s122=>
     ai c (.load none) [x120] s122 λx121 s123=>
     ai c (.fieldA 4) [(.ptr q3 0)] s123 λx122 s124=>
     ai c (.load none) [x122] s124 λx123 s125=>
     ai c (.callF 241) [x121,x123] s125 λx124 s126=>
     ai c .move [x124] s126 λx6 s127=>
     ai c .move [(.int .u8 (n:Int))] s127 λx125 s128=>
     ai c (.callF 237) [x125] s128 λx126 s129=>
     ai c (.bin .eql .num) [x126,(.int .i64 1)] s129 λx127 s130=>
     ai c .move [x127] s130 λag9 s131=>
     bO c ag9 true .move [x6] s131 λx129 s132=>
     bO c ag9 true (.bin .lss .num) [x129,(.int .i64 0)] s132 λx130 s133=>
     ai c .pick [ag9,x130,(.bool false)] s133 λx131 s134=>
     ai c .move [x131] s134 λPM s135=>
     bO c PM false .move [(.int .u8 (n:Int))] s135 λx133 s136=>
     bO c PM false (.callF 237) [x133] s136 λx134 s137=>
     bO c PM false (.bin .eql .num) [x134,(.int .i64 2)] s137 λx135 s138=>
     bO c PM false .move [x135] s138 λadv s139=>
     bO c adv true (.fieldA 4) [(.ptr q3 0)] s139 λx137 s140=>
     bO c adv true (.load none) [x137] s140 λx138 s141=>
     bO c adv true (.bin .neq .num) [x138,(.str [])] s141 λx139 aha=>
     bO c PM false .pick [adv,x139,(.bool false)] aha λx140 ahb=>
     bO c PM false .move [x140] ahb λahc ahd=>
     bO c ahc true .move [x6] ahd λx142 ahe=>
     bO c ahc true (.bin .lss .num) [x142,(.int .i64 0)] ahe λx143 s146=>
     bO c PM false .pick [ahc,x143,(.bool false)] s146 λx144 s147=>
     ai c .pick [PM,(.bool true),x144] s147 λx145 s148=>
     K x6 x145 s148)=K (.int .i64 (ti p r.t)) (.bool ((decide (sv n=1)&&decide (ti p r.t<0))||(decide (sv n=2)&&decide (r.t≠[])&&decide (ti p r.t<0)))) s:=by
 have T1:=Xt hc (n:Int) s;have A:c 241 [tabs p.tz p.ts,.str r.t] s=some (.int .i64 (ti p r.t),s):=adu hc p.tz p.ts r.t hp.ts s;by_cases h1:sv (n:Int)=1
 . by_cases h2:ti p r.t<0
   .simp[p2,p3,T1,h1,h2,A]
   .simp[p2,p3,T1,h1,h2,A]
 . by_cases h3:sv (n:Int)=2
   . by_cases h4:r.t=[]
     .  rw[h4]at A;simp[p2,p3,T1,h1,h3,h4,A]
     .  simp[p2,p3,T1,h1,h3,h4,A]
   .simp[p2,p3,T1,h1,h3,A]
theorem akK(hc:Sem c){p:aR}{r:Rl}{q2 q3:Pos}{s:St}{n:Nat}(hw:Wf s)(hn:n<256)(hk:r.k=(n:Int))(hp:p.ic)(p2:s.heap.get q2=some (.cells p.cells 0))(p3:s.heap.get q3=some (.cells r.cells 0))(xT:(kd n).lo=if n=4 then 1 else 0)(aii:(kd n).ug=decide (n=7))(Jg:PJ (n:Int)=(kd n).n)(ht:n=7->0<=ti p r.t)
   (x2 x3 x5 x6:AV) (e2:x2= .ptr q2 0) (e3:x3= .ptr q3 0) (e5:x5= .int .u8 (n:Int)) (e6:x6= .int .i64 (ti p r.t)):
   (ai c .move [(.int .i64 0)] s λx7 s150=>
   ai c .move [(.int .i64 24)] s150 λx8 s151=>
   ki (λj152=>
   ai c .move [x5] s151 λx146 s154=>
   ai c (.bin .eql .num) [x146,(.int .u8 4)] s154 λx147 s155=>
   OB x147 (
   ai c .move [(.int .i64 1)] s155 λx7 s156=>
   j152 [x2,x3,x5,x6,x7,x8] s156) (
   j152 [x2,x3,x5,x6,x7,x8] s155))
   (λvs s153=>eV vs λx2 vs=>eV vs λx3 vs=>eV vs λx5 vs=>eV vs λx6 vs=>eV vs λx7 vs=>eV vs λx8 vs=>gP vs (
   ki (λj157=>
   ai c .move [x5] s153 λx148 s159=>
   ai c (.bin .eql .num) [x148,(.int .u8 7)] s159 λx149 s160=>
   OB x149 (
   ai c (.fieldA 0) [x2] s160 λx150 s161=>
   ai c (.load none) [x150] s161 λx151 s162=>
   ai c .move [x6] s162 λx152 s163=>
   ai c (.idxA 7 none) [x151,x152] s163 λx153 s164=>
   ai c (.load (some 7)) [x153] s164 λx154 s165=>
   ai c (.callF 111) [x154] s165 λx155 s166=>
   ai c (.bin .sub .num) [x155,(.int .i64 1)] s166 λx156 s167=>
   ai c .move [x156] s167 λx8 s168=>
   j157 [x3,x5,x7,x8] s168) (
   j157 [x3,x5,x7,x8] s160))
   (λvs s158=>eV vs λx3 vs=>eV vs λx5 vs=>eV vs λx7 vs=>eV vs λx8 vs=>gP vs (
   ai c .move [x5] s158 λx157 s169=>
   ai c (.callF 238) [x157] s169 λx158 s170=>
   ai c .move [x158] s170 λSX s171=>
   bO c SX true (.fieldA 5) [x3] s171 λx160 s172=>
   bO c SX true (.load none) [x160] s172 λx161 s173=>
   bO c SX true .move [x7] s173 λx162 s174=>
   bO c SX true (.bin .lss .num) [x161,x162] s174 λx163 s175=>
   bO c SX true .move [x163] s175 λaaE s176=>
   bO c aaE false (.fieldA 5) [x3] s176 λx165 s177=>
   bO c aaE false (.load none) [x165] s177 λx166 s178=>
   bO c aaE false .move [x8] s178 λx167 s179=>
   bO c aaE false (.bin .gtr .num) [x166,x167] s179 λx168 s180=>
   bO c SX true .pick [aaE,(.bool true),x168] s180 λx169 s181=>
   ai c .pick [SX,x169,(.bool false)] s181 λx170 s182=>
   OB x170 (
   ai c .move [(.int .i64 42)] s182 λx4 s183=>
   some (x4,s183)) (
   ai c .move [(.int .i64 0)] s182 λx4 s184=>
   some (x4,s184)))))))=some (.int .i64 (zj (kd n) r (if(kd n).ug=true then vD p (ti p r.t) - 1 else 24)),s):=by
 subst e2 e3 e5 e6;have T4:=Xs hc (n:Int) s;rw[Jg]at T4;have Na:=Mh (P:=iX p.ts r.t) p.ts.length 0;unfold zj;rw[xT,aii];clear xT aii Jg;by_cases h4:n=4
 . have d4:decide ((n:Int)=4)=true:=(by simp only[Zd3];omega);have d7:decide ((n:Int)=7)=false:=(by simp only[Zh7];omega);have n7:decide (n=7)=false:=(by simp only[Zh7];omega);rw[Za4 h4,n7];clear h4 n7;cases hm:(kd n).n with
   |false=>simp[fo,p2,p3,T4,d4,d7,hm]
   | true=>
     by_cases e1:r.n<1
     .  simp[fo,p2,p3,T4,d4,d7,hm,e1]
     .  by_cases e2:24<r.n
        .simp[fo,p2,p3,T4,d4,d7,hm,e1,e2]
        .simp[fo,p2,p3,T4,d4,d7,hm,e1,e2]
 . have d4:decide ((n:Int)=4)=false:=(by simp only[Zh7];omega);rw[Za2 h4];clear h4;by_cases h7:n=7
   . have d7:decide ((n:Int)=7)=true:=(by simp only[Zd3];omega);have n7:decide (n=7)=true:=(by simp only[Zd3];exact h7);have WC:=ht h7;rw[n7];clear ht h7 n7;obtain⟨i,hi⟩:∃i:Nat,ti p r.t=(i:Int):=⟨(ti p r.t).toNat,by omega⟩
     have fU:i<p.ts.length:=(by have:=(Na WC).2.1;unfold ti at hi;rw[hi]at this;simpa using this);have S:=Bu hc p.ts[i] s hw;have b:=tI p.ts[i];have w2:au .i64 (bh p.ts[i] - 1)=bh p.ts[i] - 1:=wrap64 (by omega) (by omega);have e3:vD p (i:Int)=bh p.ts[i]:=(by simp[vD,fU]);rw[hi,e3];clear hi e3 WC Na;cases hm:(kd n).n with
     |false=>simp[fo,p2,p3,T4,d4,d7,tabs,fU,S,w2,hm]
     |  true=>
        by_cases e1:r.n<0
        .simp[fo,p2,p3,T4,d4,d7,tabs,fU,S,w2,hm,e1]
        . by_cases e2:bh p.ts[i] - 1<r.n
          .simp[fo,p2,p3,T4,d4,d7,tabs,fU,S,w2,hm,e1,e2]
          .simp[fo,p2,p3,T4,d4,d7,tabs,fU,S,w2,hm,e1,e2]
   . have d7:decide ((n:Int)=7)=false:=(by simp only[Zh7];omega);have n7:decide (n=7)=false:=(by simp only[Zh7];exact h7);rw[n7];clear h7 n7 ht Na;cases hm:(kd n).n with
     |false=>simp[fo,p2,p3,T4,d4,d7,hm]
     |  true=>
        by_cases e1:r.n<0
        .simp[fo,p2,p3,T4,d4,d7,hm,e1]
        . by_cases e2:24<r.n
          .simp[fo,p2,p3,T4,d4,d7,hm,e1,e2]
          .simp[fo,p2,p3,T4,d4,d7,hm,e1,e2]
end
section
open Go Go.Ai Go.Proofs
variable{c:ah}
structure Flags(n:Nat):Prop where
 two:lH (n:Int)=(kd n).b
 num:PJ (n:Int)=(kd n).n
 t0:sv (n:Int)=0↔(kd n).t=0
 t1:sv (n:Int)=1↔(kd n).t=116
 t2:sv (n:Int)=2↔(kd n).t=101
 a0:(lH (n:Int)=false/\xM (n:Int)=false/\n≠17)↔(kd n).a=0
 a1:((lH (n:Int)||xM (n:Int))=true/\n≠10)↔(kd n).a=103
 a2:n=10↔(kd n).a=101
 a3:n=17↔(kd n).a=100
 o10:n=10->xM (n:Int)=true
 lo:(kd n).lo=if n=4 then 1 else 0
 ug:(kd n).ug=decide (n=7)
 s7:n=7->(kd n).t=116
theorem flags{n:Nat}(h:(kd n).w≠[]):Flags n:=by
 have h18:n<=18:=by apply Zj5;intro h2;apply h;unfold kd;split<;>first|rfl|omega
 have:n=0\/n=1\/n=2\/n=3\/n=4\/n=5\/n=6\/n=7\/n=8\/n=9\/n=10\/n=11\/n=12\/n=13\/n=14\/n=15\/n=16\/n=17\/n=18:=by omega
 rcases this with rfl|rfl|rfl|rfl|rfl|rfl|rfl|rfl|rfl|rfl|rfl|rfl|rfl|rfl|rfl|rfl|rfl|rfl|rfl
 .exact absurd rfl h
 all_goals exact⟨by decide,by decide,by decide,by decide,by decide,by decide,by decide,by decide,by decide,by decide,by decide,by decide,by decide⟩
theorem abw(hc:Sem c)(p:aR)(hp:p.ic)(r:Rl)(n:Nat)(hk:r.k=(n:Int))(hn:n<256)(st:St)(hw:Wf st):
   c 169 [.agg p.cells,.agg r.cells] st=some (.int .i64 (Je (kd n) p r),st):=by
 have cw:Wf (af st (.cells p.cells 0)):=bM hw;have zI:=Grew.af cw (.cells r.cells 0);have hg:=(Grew.af hw (.cells p.cells 0)).trans zI;have cZ:=hg.wf;have p2:=zI.get (aC st (.cells p.cells 0));have p3:=aC (af st (.cells p.cells 0)) (.cells r.cells 0);rw[I9 hc 1 (r:=(.int .i64 (Je (kd n) p r),af (af st (.cells p.cells 0)) (.cells r.cells 0))),ak (Plain.int _ _) hg.keeps];rw[L6,cP,cP,aj];simp only[AV.cells];generalize af (af st (.cells p.cells 0)) (.cells r.cells 0)=s at*
 generalize (af st (.cells p.cells 0)).next=q3 at*
 generalize st.next=q2 at*
 rw[stW hc cZ hn hk hp p2 p3];unfold Je;by_cases h0:(kd n).w=[]
 .rw[Za4 h0,H2 h0,bk,aj]
 have fl:=flags h0;rw[Za2 h0,H3 h0,bG];rw[stWt hc cZ hn hk hp p2 p3];by_cases h1:r.wt<0\/1000<r.wt
 .rw[Za4 h1,H2 h1,bk,aj]
 rw[Za2 h1,H3 h1,bG];rw[stP1 hc cZ hn hk hp p2 p3,stP2 hc cZ hn hk hp p2 p3,stP3 hc cZ hn hk hp p2 p3,stP4 hc cZ hn hk hp p2 p3];have ep:(((decide (r.a≠[])&& !lH n&& !xM n&&decide (n≠17))||(decide (r.b≠[])&& !lH n))||(decide (r.t≠[])&&decide (sv n=0))||(decide (r.n≠0)&& !PJ n))= !Dw (kd n) r:=by
   (unfold Dw;rw[<-fl.two, <-fl.num];have t0:=fl.t0;have a0:=fl.a0;have:decide (sv (n:Int)=0)= !decide ((kd n).t≠0):=(by simp[t0]);rw[this];have:(!lH (n:Int)&& !xM (n:Int)&&decide (n≠17))= !decide ((kd n).a≠0):=by simp only[ne_eq, <-a0];cases lH (n:Int)<;>cases xM (n:Int)<;>simp);rw[Bool.and_assoc,Bool.and_assoc, <-Bool.and_assoc (!lH (n:Int)),this];cases decide ((kd n).a≠0)<;>cases lH (n:Int)<;>cases decide ((kd n).t≠0)<;>cases PJ (n:Int)<;>by_cases h3:r.a=[]<;>by_cases h4:r.b=[]<;>by_cases h5:r.t=[]<;>by_cases h6:r.n=0<;>simp[h3,h4,h5,h6]
 rw[ep];cases h2:Dw (kd n) r with
 |false=>rw[Ze7,bk,aj,Za4 rfl]
 |true=>
 rw[Zb9,bG,Za2 (by simp)];rw[stA hc cZ hn hk hp p2 p3];have ea:((lH (n:Int)||xM (n:Int))&& !(decide (n=10)&&decide (r.a=[]))&&decide (gi p r.a<0))=decide (((kd n).a=103/\gi p r.a<0)\/((kd n).a=101/\r.a≠[]/\gi p r.a<0)):=by
   rw[Zk5,Zd3, <-fl.a1, <-fl.a2];by_cases Nx:n=10
   .have h11:=fl.o10 Nx;have WV:(lH (n:Int)||xM (n:Int))=true:=(by rw[h11,Bool.or_true]);rw[WV];by_cases h3:r.a=[]<;>simp[h3,Nx]
   .simp only[Nx,Zq0,Zj2,Ze7,Zk9,ne_eq,Zn3,Zn5,false_and,Zh3];cases lH (n:Int)||xM (n:Int)<;>simp
 rw[ea];by_cases h3:((kd n).a=103/\gi p r.a<0)\/((kd n).a=101/\r.a≠[]/\gi p r.a<0)
 .rw[H2 h3,bk,aj,Za4 (h3.elim .inl λh=>.inr (.inl h))]
 rw[H3 h3,bG];rw[stB hc cZ hn hk hp p2 p3];rw[fl.two];by_cases h4:(kd n).b=true/\gi p r.b<0
 .have:((kd n).b&&decide (gi p r.b<0))=true:=(by simp[h4]);rw[this,bk,aj,Za4 (.inr (.inr h4))]
 have:((kd n).b&&decide (gi p r.b<0))=false:=by
   cases hb:(kd n).b
   .rfl
   .simp[hb]at h4;simp;exact h4
 rw[this,bG,Za2 (λh=>h.elim (λh=>h3 (.inl h)) λh=>h.elim (λh=>h3 (.inr h)) h4)];rw[stN hc cZ hn hk hp p2 p3];unfold aaA;simp only[<-fl.a3];by_cases h5:n=17/\e9 r.a=false
 .have:(decide (n=17)&& !e9 r.a)=true:=(by simp[h5]);rw[this,bk,aj,Za4 h5]
 have:(decide (n=17)&& !e9 r.a)=false:=by
   by_cases h17:n=17
   . cases hb:e9 r.a
     .exact absurd ⟨h17,hb⟩ h5
     .simp
   .simp[h17]
 rw[this,bG,Za2 h5];rw[stD hc cZ hn hk hp p2 p3,fl.two];by_cases h6:(kd n).b=true/\r.a=r.b
 .have:((kd n).b&&decide (r.a=r.b))=true:=(by simp[h6]);rw[this,bk,aj,Za4 h6]
 have:((kd n).b&&decide (r.a=r.b))=false:=by
   cases hb:(kd n).b
   .rfl
   .simp[hb]at h6;simp;exact h6
 rw[this,bG,Za2 h6];rw[stT hc cZ hn hk hp p2 p3];unfold UK;simp only[<-fl.t1, <-fl.t2];by_cases h7:(sv (n:Int)=1/\ti p r.t<0)\/(sv (n:Int)=2/\r.t≠[]/\ti p r.t<0)
 . have:((decide (sv (n:Int)=1)&&decide (ti p r.t<0))||(decide (sv (n:Int)=2)&&decide (r.t≠[])&&decide (ti p r.t<0)))=true:=by
     rcases h7 with⟨a,b⟩|⟨a,b,d⟩<;>simp[*]
   rw[this,bk,aj,Za4 h7]
 have:((decide (sv (n:Int)=1)&&decide (ti p r.t<0))||(decide (sv (n:Int)=2)&&decide (r.t≠[])&&decide (ti p r.t<0)))=false:=by apply Bool.eq_false_iff.2;intro e;apply h7;simpa [and_assoc]using e
 rw[this,bG,Za2 h7];have ht:n=7->0<=ti p r.t:=λe=>by
   apply Zj5;intro e2;exact h7 (.inl ⟨fl.t1.2 (fl.s7 e),by omega⟩)
 exact akK hc cZ hn hk hp p2 p3 fl.lo fl.ug fl.num ht _ _ _ _ rfl rfl rfl rfl
end
section
open Go Go.Ai Go.Proofs
theorem cA{Q:List AV->Prop}{Qs:List (List AV->Prop)}{ps:List (List AV)}(h:FV (Q::Qs) ps):∃p qs,ps=p::qs/\Q p/\FV Qs qs:=by
 cases ps with
 |nil=>exact h.elim
 |cons p qs=>exact⟨p,qs,rfl,h⟩
theorem CD{ps:List (List AV)}(h:FV [] ps):ps=[]:=by
 cases ps with
 |nil=>rfl
 |cons p qs=>exact h.elim
section
variable{H:Type}{enc:TypeId×Value->H}{w:World}{base:Nat}{spare:Nat->Bool}{held:Bool}
abbrev Dy(enc:TypeId×Value->H)(w:World)(base:Nat)(spare:Nat->Bool)(held:Bool)(t:TypeId)(Q:List AV->Prop):Prop:=yN enc Tryz.prog w base spare held t Q
abbrev qb(k:IntKind)(vs:List AV):Prop:=∃i,vs=[.int k i]/\(Lit.int k i).wf=true
abbrev yT(vs:List AV):Prop:=∃s,vs=[.str s]/\s.length<=maxLen/\∀x∈s,x<256
abbrev aaF(vs:List AV):Prop:=∃b,vs=[.bool b]
theorem E6:Dy enc w base spare held 3 (qb .i64):=HV (by kernel_rfl)
theorem Bz:Dy enc w base spare held 9 yT:=Wo (by kernel_rfl)
theorem ae5:Dy enc w base spare held 4 aaF:=ac3 (by kernel_rfl)
theorem aiX:Dy enc w base spare held 75 (qb .u8):=HV (by kernel_rfl)
theorem o_tk:Dy enc w base spare held 139 (qb .u8):=HV (by kernel_rfl)
theorem o_rk:Dy enc w base spare held 84 (qb .u8):=HV (by kernel_rfl)
theorem o_ty:Dy enc w base spare held 141 λvs=>∃t:Ty,vs=t.cells:=by
 refine yN.mono (OO [9,9,139] (Qs:=[yT,yT,qb .u8]) (by kernel_rfl) (by kernel_rfl) (by kernel_rfl) ⟨Bz,Bz,o_tk,trivial⟩) λvs h=> ?_
 obtain⟨ps,rfl,m0⟩:=h;obtain⟨p0,q0,rfl,⟨a,rfl,ha,_⟩,m1⟩:=cA m0;obtain⟨p0,q0,rfl,⟨b,rfl,hb,_⟩,m2⟩:=cA m1;obtain⟨p0,q0,rfl,⟨k,rfl,hk⟩,m3⟩:=cA m2;obtain rfl:=CD m3;exact⟨⟨a,b,k⟩,rfl⟩
theorem akL{i:Int}(h:(Lit.int .u8 i).wf=true):0<=i/\i<256:=by
 simp only[Lit.wf,Za9,Zd3]at h;have h1:IntKind.u8.min=0:=by decide
 have h2:IntKind.u8.max=255:=by decide
 omega
theorem o_rl:Dy enc w base spare held 86 λvs=>∃t:Rl,vs=t.cells/\t.Ok:=by
 refine yN.mono (OO [84,3,9,9,9,3] (Qs:=[qb .u8,qb .i64,yT,yT,yT,qb .i64]) (by kernel_rfl) (by kernel_rfl) (by kernel_rfl) ⟨o_rk,E6,Bz,Bz,Bz,E6,trivial⟩) λvs h=> ?_
 obtain⟨ps,rfl,m0⟩:=h;obtain⟨p0,q0,rfl,⟨k,rfl,hk⟩,m1⟩:=cA m0;obtain⟨p0,q0,rfl,⟨wt,rfl,_⟩,m2⟩:=cA m1;obtain⟨p0,q0,rfl,⟨a,rfl,ha,_⟩,m3⟩:=cA m2;obtain⟨p0,q0,rfl,⟨b,rfl,hb,_⟩,m4⟩:=cA m3;obtain⟨p0,q0,rfl,⟨t,rfl,ht,_⟩,m5⟩:=cA m4;obtain⟨p0,q0,rfl,⟨n,rfl,_⟩,m6⟩:=cA m5;obtain rfl:=CD m6;exact⟨⟨k,wt,a,b,t,n⟩,rfl,akL hk⟩
end
abbrev mJ:Nat:=1048576
abbrev cq(i:Int):List AV:=[.int .i64 i]
abbrev iT(s:List Nat):List AV:=[.str s]
def aG.ay(t:aG)(v:AV):List AV:=[.str t.name,.int .u8 t.sh,.int .i64 t.a,.int .i64 t.b,v,.int .i64 t.x,.int .i64 t.y]
theorem aG.VY(t:aG){v:AV}(h:bg [v]=true):bg (t.ay v)=true:=by
 simp only[bg]at h;unfold aG.ay;simp only[bg,AV.one,h,Zk0,Zk9]at*
structure TS(s0 s:St)(V:AV)(ts:List aG)(rows:List (List AV)):Prop where
 out:Mk 7 s0 s V rows
 len:rows.length=ts.length
 yc:∀(i:Nat)(t:aG)(r:List AV),ts[i]? =some t->rows[i]? =some r->∃v,r=t.ay v/\Mk 1 s0 s v (t.cY.map cq)/\∀b,dY v=some b->dY V≠some b
structure GS(s0 s:St)(V:AV)(ts:List aQ)(rows:List (List AV)):Prop where
 out:Mk 9 s0 s V rows
 len:rows.length=ts.length
 yc:∀(i:Nat)(t:aQ)(r:List AV),ts[i]? =some t->rows[i]? =some r->∃v,r=t.ay v/\Mk 1 s0 s v (t.tg.map iT)/\∀b,dY v=some b->dY V≠some b
structure PS(s0 s:St)(Vs:List AV)(p:aR):Prop where
 aN:Grew s0 s
 all:∃V1 V2 V3 V4 V5 r1 r2,Vs=[V1,V2,V3,V4,V5]/\TS s0 s V1 p.ts r1/\GS s0 s V2 p.gs r2/\Mk 3 s0 s V3 (p.ys.map Ty.cells)/\Mk 1 s0 s V4 (p.cs.map cq)/\Mk 6 s0 s V5 (p.rs.map Rl.cells)
structure aG.Real(t:aG):Prop where
 name:∀x∈t.name,x<256
 cY:t.cY.length<=mJ
structure aQ.Real(g:aQ):Prop where
 name:∀x∈g.name,x<256
 nL:∀x∈g.nL,x<256
 kE:∀x∈g.kE,x<256
 nM:∀x∈g.nM,x<256
 tg:g.tg.length<=mJ
theorem TS.AT{s0 s1 s s':St}{V:AV}{ts:List aG}{rows:List (List AV)}(h:TS s1 s V ts rows)(h0:Wf s0)(HX:Grew s0 s1)(hg:Grew s0 s')(hk:∀q b,s1.next.toNat<=q.toNat->s.heap.get q=some b->s'.heap.get q=some b):TS s0 s' V ts rows:=
 ⟨Mk.AT h.out h0 HX hg hk,h.len,λi t r hi hr=>by obtain⟨v,e1,e2,e3⟩:=h.yc i t r hi hr;exact⟨v,e1,Mk.AT e2 h0 HX hg hk,e3⟩⟩
theorem GS.AT{s0 s1 s s':St}{V:AV}{ts:List aQ}{rows:List (List AV)}(h:GS s1 s V ts rows)(h0:Wf s0)(HX:Grew s0 s1)(hg:Grew s0 s')(hk:∀q b,s1.next.toNat<=q.toNat->s.heap.get q=some b->s'.heap.get q=some b):GS s0 s' V ts rows:=
 ⟨Mk.AT h.out h0 HX hg hk,h.len,λi t r hi hr=>by obtain⟨v,e1,e2,e3⟩:=h.yc i t r hi hr;exact⟨v,e1,Mk.AT e2 h0 HX hg hk,e3⟩⟩
structure aR.Real(p:aR):Prop where
 ts:p.ts.length<=1000
 tab:∀t∈p.ts,t.Real
 gs:p.gs.length<=1000
 bO:∀t∈p.gs,t.Real
 ys:p.ys.length<=mJ
 cs:p.cs.length<=mJ
 rs:p.rs.length<=mJ
theorem adw(z:Bool)(l:List Ty):dD 3 (cT z l):=dD.ro λr hr v hv=>by simp only[Zf2]at hr;obtain⟨g,_,rfl⟩:=hr;simp only[Ty.cells,Za7,Zd0,Zh3]at hv;rcases hv with rfl|rfl|rfl<;>first|exact dD.str _|exact dD.int _ _
theorem PN{R:Type}{p:Pos}{o:Nat}{h:T AB}{v:AV}(hv:((cellsOf (h.get p)).bind λcs=>cs[o]?)=some v)(ok:AV->Bool)(cQ:ok v=true)(K:AV->Option R):fP (.load none) [.ptr p o] h ok K=K v:=by
 unfold fP;have e:ax.run (λ_=>none) .h (.load none) [.ptr p o]=none:=rfl;rw[e];simp only;rw[oM,hv];simp only[Ze3];rw[cQ]
theorem pE{p:Pos}{o:Nat}{h:T AB}{v:AV}(hv:((cellsOf (h.get p)).bind λcs=>cs[o]?)=some v)(hb:dN v v=true):eA (.load none) [.ptr p o] v (iV [] h)=true:=by unfold eA;show(match ax.run (λb=>h.get b) .h (.load none) [.ptr p o]with|some (.val u)=>dN u v|_=>false)=true;rw[oM,hv];exact hb
section
variable{H:Type}
theorem ahf(d:DataW H):1<=Rows.uptoBulk d:=by
 cases d with
 |lit l=>cases l<;>simp[Rows.uptoBulk]
 |_=>simp[Rows.uptoBulk]
theorem At:∀l:List (DataW H),l.length<=Rows.uptoBulkAll l/\∀d∈l,Rows.uptoBulk d<=Rows.uptoBulkAll l
 |[]=>⟨Zi5 _,λd h=>by simp at h⟩
 |d::l=>by
  obtain⟨h1,h2⟩:=At l;have h3:=ahf d;have e:Rows.uptoBulkAll (d::l)=Rows.uptoBulk d+Rows.uptoBulkAll l:=by simp[Rows.uptoBulkAll]
  rw[e];refine⟨by simp only[Zb2];omega,λx hx=> ?_⟩;rcases Za7.1 hx with rfl|hx
  .omega
  .have:=h2 x hx;omega
abbrev YM(d:DataW H):Prop:=Rows.uptoBulk d<=mJ
theorem Ku(e s:List (DataW H))(h:YM (.slice e s)):e.length<=mJ/\∀d∈e,YM d:=by
 obtain⟨h1,h2⟩:=At e;have e1:Rows.uptoBulk (.slice e s)=Rows.uptoBulkAll e+Rows.uptoBulkAll s+1:=by simp[Rows.uptoBulk]
 have h:Rows.uptoBulk (.slice e s)<=1048576:=h;rw[e1]at h;exact⟨show e.length<=1048576 by omega,λd hd=>show Rows.uptoBulk d<=1048576 by have:=h2 d hd;omega⟩
theorem aaG(ps:List (DataW H))(h:YM (.agg ps)):∀d∈ps,YM d:=λd hd=>by
 obtain⟨h1,h2⟩:=At ps;have e1:Rows.uptoBulk (.agg ps)=Rows.uptoBulkAll ps+1:=by simp[Rows.uptoBulk]
 have h:Rows.uptoBulk (.agg ps)<=1048576:=h;rw[e1]at h;show Rows.uptoBulk d<=1048576;have:=h2 d hd;omega
end
section
variable{H:Type}{enc:TypeId×Value->H}{w:World}{base:Nat}{spare:Nat->Bool}{held:Bool}
abbrev BA(enc:TypeId×Value->H)(w:World)(base:Nat)(spare:Nat->Bool)(held:Bool)(t:TypeId)(Q:List AV->Prop):Prop:=cX YM enc Tryz.prog w base spare held t Q
theorem zk{α:Type}{P:α->Prop}{cells:α->List AV}:∀(rs:List (List AV)),(∀r∈rs,∃t,r=cells t/\P t)->∃l:List α,rs=l.map cells/\∀t∈l,P t
 |[],_=>⟨[],rfl,by simp⟩
 |r::rs,h=>by
  obtain⟨t,rfl,ht⟩:=h r (by simp);obtain⟨l,rfl,hl⟩:=zk rs (λq hq=>h q (Za0 _ hq));exact⟨t::l,rfl,λq hq=>by
   rcases Za7.1 hq with rfl|hq
   .exact ht
   .exact hl q hq⟩
theorem U7:BA enc w base spare held 27 λvs=>∃z l,vs=[ints z l]/\l.length<=mJ:=by
 refine cX.mono (qk (N:=mJ) (es:=1) (Q:=qb .i64) (by kernel_rfl) (by kernel_rfl) (by omega) (λvs h=>by obtain⟨i,rfl,_⟩:=h;rfl) Ku (cX.of E6)) λvs h=> ?_
 obtain⟨z,rs,rfl,h1,h2⟩:=h;obtain⟨l,rfl,_⟩:=zk (P:=λ_:Int=>True) (cells:=λi=>[AV.int .i64 i]) rs (λr hr=>by obtain⟨i,e,_⟩:=h1 r hr;exact⟨i,e,trivial⟩);exact⟨z,l,rfl,by simpa using h2⟩
theorem aiY:BA enc w base spare held 70 λvs=>∃z l,vs=[fu z l]/\l.length<=mJ:=by
 refine cX.mono (qk (N:=mJ) (es:=1) (Q:=yT) (by kernel_rfl) (by kernel_rfl) (by omega) (λvs h=>by obtain⟨i,rfl,_⟩:=h;rfl) Ku (cX.of Bz)) λvs h=> ?_
 obtain⟨z,rs,rfl,h1,h2⟩:=h;obtain⟨l,rfl,_⟩:=zk (P:=λ_:List Nat=>True) (cells:=λi=>[AV.str i]) rs (λr hr=>by obtain⟨i,e,_⟩:=h1 r hr;exact⟨i,e,trivial⟩);exact⟨z,l,rfl,by simpa using h2⟩
theorem ajR:BA enc w base spare held 77 λvs=>∃t:aG,vs=t.cells/\t.Ok/\t.Real:=by
 refine cX.mono (DQ [9,75,3,3,27,3,3] (Qs:=[yT,qb .u8,qb .i64,qb .i64,λvs=>∃z l,vs=[ints z l]/\l.length<=mJ,qb .i64,qb .i64]) (by kernel_rfl) (by kernel_rfl) (by kernel_rfl) aaG ⟨cX.of Bz,cX.of aiX,cX.of E6,cX.of E6,U7,cX.of E6,cX.of E6,trivial⟩) λvs h=> ?_
 obtain⟨ps,rfl,m0⟩:=h;obtain⟨p0,q0,rfl,⟨s,rfl,hs,Dg⟩,m1⟩:=cA m0;obtain⟨p0,q0,rfl,⟨k,rfl,_⟩,m2⟩:=cA m1;obtain⟨p0,q0,rfl,⟨a,rfl,_⟩,m3⟩:=cA m2;obtain⟨p0,q0,rfl,⟨b,rfl,_⟩,m4⟩:=cA m3;obtain⟨p0,q0,rfl,⟨z,l,rfl,hl⟩,m5⟩:=cA m4;obtain⟨p0,q0,rfl,⟨x,rfl,_⟩,m6⟩:=cA m5;obtain⟨p0,q0,rfl,⟨y,rfl,_⟩,m7⟩:=cA m6;obtain rfl:=CD m7;have kF:l.length<=1048576:=hl;exact⟨⟨s,k,a,b,z,l,x,y⟩,rfl,⟨by show s.length<dM;unfold maxLen at hs;unfold dM;omega,by show l.length<dM;unfold dM;omega⟩,⟨Dg,hl⟩⟩
theorem ajS:BA enc w base spare held 123 λvs=>∃t:aQ,vs=t.cells/\t.Real:=by
 refine cX.mono (DQ [9,9,9,3,3,9,4,4,70] (Qs:=[yT,yT,yT,qb .i64,qb .i64,yT,aaF,aaF,λvs=>∃z l,vs=[fu z l]/\l.length<=mJ]) (by kernel_rfl) (by kernel_rfl) (by kernel_rfl) aaG ⟨cX.of Bz,cX.of Bz,cX.of Bz,cX.of E6,cX.of E6,cX.of Bz,cX.of ae5,cX.of ae5,aiY,trivial⟩) λvs h=> ?_
 obtain⟨ps,rfl,m0⟩:=h;obtain⟨p0,q0,rfl,⟨name,rfl,_,fY⟩,m1⟩:=cA m0;obtain⟨p0,q0,rfl,⟨nL,rfl,_,akM⟩,m2⟩:=cA m1;obtain⟨p0,q0,rfl,⟨kE,rfl,_,ajT⟩,m3⟩:=cA m2;obtain⟨p0,q0,rfl,⟨since,rfl,_⟩,m4⟩:=cA m3;obtain⟨p0,q0,rfl,⟨side,rfl,_⟩,m5⟩:=cA m4;obtain⟨p0,q0,rfl,⟨nM,rfl,_,akN⟩,m6⟩:=cA m5;obtain⟨p0,q0,rfl,⟨host,rfl⟩,m7⟩:=cA m6;obtain⟨p0,q0,rfl,⟨access,rfl⟩,m8⟩:=cA m7;obtain⟨p0,q0,rfl,⟨ztg,tg,rfl,htg⟩,m9⟩:=cA m8;obtain rfl:=CD m9;exact⟨⟨name,nL,kE,since,side,nM,host,access,ztg,tg⟩,rfl,⟨fY,akM,ajT,akN,htg⟩⟩
theorem aiZ:BA enc w base spare held 28 λvs=>∃(z:Bool) (l:List aG),vs=[tabs z l]/\(∀t∈l,t.Ok/\t.Real)/\l.length<=mJ:=by
 refine cX.mono (qk (N:=mJ) (es:=7) (by kernel_rfl) (by kernel_rfl) (by omega) (λvs h=>by obtain⟨t,rfl,_⟩:=h;rfl) Ku ajR) λvs h=> ?_
 obtain⟨z,rs,rfl,h1,h2⟩:=h;obtain⟨l,rfl,hl⟩:=zk (P:=λt:aG=>t.Ok/\t.Real) (cells:=aG.cells) rs h1;exact⟨z,l,rfl,hl,by simpa using h2⟩
theorem ai0:BA enc w base spare held 29 λvs=>∃(z:Bool) (l:List aQ),vs=[bC z l]/\(∀t∈l,t.Real)/\l.length<=mJ:=by
 refine cX.mono (qk (N:=mJ) (es:=9) (by kernel_rfl) (by kernel_rfl) (by omega) (λvs h=>by obtain⟨t,rfl,_⟩:=h;rfl) Ku ajS) λvs h=> ?_
 obtain⟨z,rs,rfl,h1,h2⟩:=h;obtain⟨l,rfl,hl⟩:=zk (P:=λt:aQ=>t.Real) (cells:=aQ.cells) rs h1;exact⟨z,l,rfl,hl,by simpa using h2⟩
theorem ajU:BA enc w base spare held 30 λvs=>∃(z:Bool) (l:List Ty),vs=[cT z l]/\l.length<=mJ:=by
 refine cX.mono (qk (N:=mJ) (es:=3) (by kernel_rfl) (by kernel_rfl) (by omega) (λvs h=>by obtain⟨t,rfl⟩:=h;rfl) Ku (cX.of o_ty)) λvs h=> ?_
 obtain⟨z,rs,rfl,h1,h2⟩:=h;obtain⟨l,rfl,_⟩:=zk (P:=λ_:Ty=>True) (cells:=Ty.cells) rs (λr hr=>by obtain⟨t,e⟩:=h1 r hr;exact⟨t,e,trivial⟩);exact⟨z,l,rfl,by simpa using h2⟩
theorem ajV:BA enc w base spare held 31 λvs=>∃(z:Bool) (l:List Rl),vs=[jD z l]/\(∀t∈l,t.Ok)/\l.length<=mJ:=by
 refine cX.mono (qk (N:=mJ) (es:=6) (by kernel_rfl) (by kernel_rfl) (by omega) (λvs h=>by obtain⟨t,rfl,_⟩:=h;rfl) Ku (cX.of o_rl)) λvs h=> ?_
 obtain⟨z,rs,rfl,h1,h2⟩:=h;obtain⟨l,rfl,hl⟩:=zk (P:=λt:Rl=>t.Ok) (cells:=Rl.cells) rs h1;exact⟨z,l,rfl,hl,by simpa using h2⟩
structure aR.Laid(p:aR):Prop where
 tab:∀t∈p.ts,t.Ok/\t.Real
 bO:∀t∈p.gs,t.Real
 rul:∀r∈p.rs,r.Ok
 ys:p.ys.length<=mJ
 cs:p.cs.length<=mJ
 rs:p.rs.length<=mJ
theorem ajv:BA enc w base spare held 33 λvs=>∃p:aR,vs=p.cells/\p.Laid:=by
 refine cX.mono (DQ [28,29,30,27,31] (Qs:=[_,_,_,_,_]) (by kernel_rfl) (by kernel_rfl) (by kernel_rfl) aaG ⟨aiZ,ai0,ajU,U7,ajV,trivial⟩) λvs h=> ?_
 obtain⟨ps,rfl,m0⟩:=h;obtain⟨p0,q0,rfl,⟨z1,l1,rfl,h1,_⟩,m1⟩:=cA m0;obtain⟨p0,q0,rfl,⟨z2,l2,rfl,h2,_⟩,m2⟩:=cA m1;obtain⟨p0,q0,rfl,⟨z3,l3,rfl,h3⟩,m3⟩:=cA m2;obtain⟨p0,q0,rfl,⟨z4,l4,rfl,h4⟩,m4⟩:=cA m3;obtain⟨p0,q0,rfl,⟨z5,l5,rfl,h5,h6⟩,m5⟩:=cA m4;obtain rfl:=CD m5;exact⟨⟨z1,l1,z2,l2,z3,l3,z4,l4,z5,l5⟩,rfl,⟨h1,h2,h5,h3,h4,h6⟩⟩
end
section
variable{H:Type}{enc:TypeId×Value->H}{w:World}{base:Nat}{spare:Nat->Bool}{held:Bool}
end
variable{c:ah}
def aG.dG(t t':aG):Prop:=∃z,t'={ t with oz:=z }
def aQ.dG(g g':aQ):Prop:=∃z,g'={ g with tz:=z }
theorem aaH{α:Type}(f:α->AV)(s:St)(d:Nat)(l:List α)(hf:∀a∈l,dJ s d (f a)=f a):(l.map λa=>[f a]).map (λr=>r.map (dJ s d))=l.map λa=>[f a]:=by
 rw[Zh1];refine Zj9 λa ha=> ?_
 simp only[Function.comp,Zb4,Ze0,hf a ha]
theorem tU(s:St)(d:Nat)(k:IntKind)(i:Int):dJ s d (.int k i)= .int k i:=by cases d<;>rfl
theorem z7(s:St)(d:Nat)(l:List Nat):dJ s d (.str l)= .str l:=by cases d<;>rfl
theorem ahg(s:St)(d:Nat)(b:Bool):dJ s d (.bool b)= .bool b:=by cases d<;>rfl
theorem SY{s0 s:St}{v:AV}{l:List Int}(h:Mk 1 s0 s v (l.map cq))(d:Nat):∃z,dJ s (d+1) v=ints z l:=by
 obtain⟨z,hz⟩:=h.own.dJ (d:=d) h.row;refine⟨z,?_⟩;rw[hz];unfold ints;rw[aaH (λi=>AV.int .i64 i) s d l λa _=>tU s d _ _]
theorem ahh{s0 s:St}{v:AV}{l:List (List Nat)}(h:Mk 1 s0 s v (l.map iT))(d:Nat):∃z,dJ s (d+1) v=fu z l:=by
 obtain⟨z,hz⟩:=h.own.dJ (d:=d) h.row;refine⟨z,?_⟩;rw[hz];unfold fu;rw[aaH (λi=>AV.str i) s d l λa _=>z7 s d _]
theorem ai1{s0 s:St}{v:AV}{l:List Ty}(h:Mk 3 s0 s v (l.map Ty.cells))(d:Nat):∃z,dJ s (d+1) v=cT z l:=by
 obtain⟨z,hz⟩:=h.own.dJ (d:=d) h.row;refine⟨z,?_⟩;rw[hz];unfold cT;rw[Zh1];congr 1;refine Zj9 λa _=> ?_
 simp only[Function.comp,Ty.cells,Zb4,Ze0,z7,tU]
theorem ai2{s0 s:St}{v:AV}{l:List Rl}(h:Mk 6 s0 s v (l.map Rl.cells))(d:Nat):∃z,dJ s (d+1) v=jD z l:=by
 obtain⟨z,hz⟩:=h.own.dJ (d:=d) h.row;refine⟨z,?_⟩;rw[hz];unfold jD;rw[Zh1];congr 1;refine Zj9 λa _=> ?_
 simp only[Function.comp,Rl.cells,Zb4,Ze0,z7,tU]
theorem SZ{α:Type}(P:α->α->Prop)(cells:α->List AV)(g:List AV->List AV):∀(ts:List α)(rows:List (List AV)),rows.length=ts.length->(∀(i:Nat)(t:α)(r:List AV),ts[i]? =some t->rows[i]? =some r->∃t',P t t'/\g r=cells t')->
  ∃yd:List α,rows.map g=yd.map cells/\yd.length=ts.length/\∀(i:Nat)(t t':α),ts[i]? =some t->yd[i]? =some t'->P t t'
 |[],rows,hl,_=>⟨[],by rw[Zb0 hl];rfl,rfl,λi t t' h=>by simp at h⟩
 |t::ts,[],hl,_=>by simp at hl
 |t::ts,r::rows,hl,h=>by
  obtain⟨t',h1,h2⟩:=h 0 t r rfl rfl;obtain⟨yd,k1,k2,k3⟩:=SZ P cells g ts rows (by simpa using hl) (λi t r h3 h4=>h (i+1) t r (by simpa using h3) (by simpa using h4));refine⟨t'::yd,by simp[h2,k1],by simp[k2],λi u u' h3 h4=> ?_⟩;cases i with
  |zero=>simp at h3 h4;subst h3;subst h4;exact h1
  |succ i=>exact k3 i u u' (by simpa using h3) (by simpa using h4)
theorem TS.dJ{s0 s:St}{V:AV}{ts:List aG}{rows:List (List AV)}(h:TS s0 s V ts rows)(d:Nat):∃z yd,Go.Ai.dJ s (d+2) V=tabs z yd/\yd.length=ts.length/\∀(i:Nat)(t t':aG),ts[i]? =some t->yd[i]? =some t'->t.dG t':=by
 obtain⟨z,hz⟩:=h.out.own.dJ (d:=d+1) h.out.row;obtain⟨yd,k1,k2,k3⟩:=SZ aG.dG aG.cells (λr=>r.map (Go.Ai.dJ s (d+1))) ts rows h.len λi t r hi hr=>by
  obtain⟨v,rfl,hM,_⟩:=h.yc i t r hi hr;obtain⟨z2,hz2⟩:=SY hM d;refine⟨{ t with oz:=z2 },⟨z2,rfl⟩,?_⟩;simp only[aG.ay,aG.cells,Zb4,Ze0,z7,tU,hz2]
 refine⟨z,yd,?_,k2,k3⟩;rw[hz,k1];rfl
theorem GS.dJ{s0 s:St}{V:AV}{ts:List aQ}{rows:List (List AV)}(h:GS s0 s V ts rows)(d:Nat):∃z yd,Go.Ai.dJ s (d+2) V=bC z yd/\yd.length=ts.length/\∀(i:Nat)(t t':aQ),ts[i]? =some t->yd[i]? =some t'->t.dG t':=by
 obtain⟨z,hz⟩:=h.out.own.dJ (d:=d+1) h.out.row;obtain⟨yd,k1,k2,k3⟩:=SZ aQ.dG aQ.cells (λr=>r.map (Go.Ai.dJ s (d+1))) ts rows h.len λi t r hi hr=>by
  obtain⟨v,rfl,hM,_⟩:=h.yc i t r hi hr;obtain⟨z2,hz2⟩:=ahh hM d;refine⟨{ t with tz:=z2 },⟨z2,rfl⟩,?_⟩;simp only[aQ.ay,aQ.cells,Zb4,Ze0,z7,tU,ahg,hz2]
 refine⟨z,yd,?_,k2,k3⟩;rw[hz,k1];rfl
end
noncomputable section
open Go Go.Ai Go.Proofs
attribute [local go_sem ↓] aT jK ev JZ uD getLT oO AX FX nB nC zb tr tu tA oc od oe oh om oq tB tC ot ou ov ow oA yO yP yQ
attribute [local go_sem] aT jK ev
section
variable(c:ah)(F:Nat)(x0 x1 x2 x3 x4 x5 x6 x7 x8 x9 pY qo:AV)(s:St)
def vE:Sh:=(sq sl (sq sl sl))
def vF:PX 72 vE:=⟨_,by conv=>lhs;reduce⟩
def pF:O2:=aT c F bf vF.1 [x0] s
def Gw:=(by dsimp only[pF,vF,go_sem,Int.reduceOfNat]:pF c F x0 s=_)
def vG:Sh:=(sq sl (sq sl sl))
def vH:PX 76 vG:=⟨_,by conv=>lhs;reduce⟩
def pG:O2:=aT c F bf vH.1 [x0,x1] s
def Gx:=(by dsimp only[pG,vH,go_sem,Int.reduceOfNat]:pG c F x0 x1 s=_)
def nN:Sh:=(sq sl (sq sl (sq (sq sl (sb (sp 0 [0,3,4] [(2,[3])] (sq (sq sl (sc sl sl)) (sq (sb sl) sl))))) (sq sl sl))))
def wX:PX 100 nN:=⟨_,by conv=>lhs;reduce⟩
def vI:PL 100 nN 0:=⟨_,by conv=>lhs;reduce⟩
def iy(k2:Q2):Nat->Q2
 |0,_,_=>none
 |n+1,vs,s=>eg c F bf (iy k2 n) [k2] vI.1 vs s
def tJ(k2:Q2)(n:Nat)(vs:List AV)(s:St):=(by dsimp only[iy,vI,go_sem,Int.reduceOfNat]:iy c F k2 (n+1) vs s=_)
def nO:Un->List Q2->Nat->Q2
 |.z,[k2]=>iy c F k2
 |_,_=>λ_=>eO
def qA:O2:=aT c F (nO c F) wX.1 [x0] s
def Hj:=(by dsimp only[qA,wX, ↓nO,go_sem,Int.reduceOfNat]:qA c F x0 s=_)
def nP:Sh:=(sq sl (sq sl (sq (sq sl (sb (sp 0 [0,3,4] [(2,[3])] (sq (sq sl (sc sl sl)) (sq (sb sl) sl))))) (sq sl sl))))
def wY:PX 101 nP:=⟨_,by conv=>lhs;reduce⟩
def vJ:PL 101 nP 0:=⟨_,by conv=>lhs;reduce⟩
def iz(k2:Q2):Nat->Q2
 |0,_,_=>none
 |n+1,vs,s=>eg c F bf (iz k2 n) [k2] vJ.1 vs s
def tK(k2:Q2)(n:Nat)(vs:List AV)(s:St):=(by dsimp only[iz,vJ,go_sem,Int.reduceOfNat]:iz c F k2 (n+1) vs s=_)
def nQ:Un->List Q2->Nat->Q2
 |.z,[k2]=>iz c F k2
 |_,_=>λ_=>eO
def qB:O2:=aT c F (nQ c F) wY.1 [x0] s
def Hl:=(by dsimp only[qB,wY, ↓nQ,go_sem,Int.reduceOfNat]:qB c F x0 s=_)
def qC:Sh:=(sq sl (sq sl (sq (sq sl (sb (sp 0 [0,3,4] [(2,[3])] (sq (sq sl (sc sl sl)) (sq (sb sl) sl))))) (sq sl sl))))
def z8:PX 102 qC:=⟨_,by conv=>lhs;reduce⟩
def ye:PL 102 qC 0:=⟨_,by conv=>lhs;reduce⟩
def jg(k2:Q2):Nat->Q2
 |0,_,_=>none
 |n+1,vs,s=>eg c F bf (jg k2 n) [k2] ye.1 vs s
def nr(k2:Q2)(n:Nat)(vs:List AV)(s:St):=(by dsimp only[jg,ye,go_sem,Int.reduceOfNat]:jg c F k2 (n+1) vs s=_)
def qE:Un->List Q2->Nat->Q2
 |.z,[k2]=>jg c F k2
 |_,_=>λ_=>eO
def uh:O2:=aT c F (qE c F) z8.1 [x0] s
def Kv:=(by dsimp only[uh,z8, ↓qE,go_sem,Int.reduceOfNat]:uh c F x0 s=_)
def qF:Sh:=(sq sl (sq sl (sq (sq sl (sb (sp 0 [0,3,4] [(2,[3])] (sq (sq sl (sc sl sl)) (sq (sb sl) sl))))) (sq sl sl))))
def z9:PX 103 qF:=⟨_,by conv=>lhs;reduce⟩
def yf:PL 103 qF 0:=⟨_,by conv=>lhs;reduce⟩
def ji(k2:Q2):Nat->Q2
 |0,_,_=>none
 |n+1,vs,s=>eg c F bf (ji k2 n) [k2] yf.1 vs s
def nu(k2:Q2)(n:Nat)(vs:List AV)(s:St):=(by dsimp only[ji,yf,go_sem,Int.reduceOfNat]:ji c F k2 (n+1) vs s=_)
def qG:Un->List Q2->Nat->Q2
 |.z,[k2]=>ji c F k2
 |_,_=>λ_=>eO
def uj:O2:=aT c F (qG c F) z9.1 [x0] s
def Kw:=(by dsimp only[uj,z9, ↓qG,go_sem,Int.reduceOfNat]:uj c F x0 s=_)
def pH:Sh:=(sq sl (sq sl (sq (sq sl (sb (sp 0 [0,3,4] [(2,[3])] (sq (sq sl (sc sl sl)) (sq (sb sl) sl))))) (sq sl sl))))
def yg:PX 104 pH:=⟨_,by conv=>lhs;reduce⟩
def wZ:PL 104 pH 0:=⟨_,by conv=>lhs;reduce⟩
def iI(k2:Q2):Nat->Q2
 |0,_,_=>none
 |n+1,vs,s=>eg c F bf (iI k2 n) [k2] wZ.1 vs s
def mg(k2:Q2)(n:Nat)(vs:List AV)(s:St):=(by dsimp only[iI,wZ,go_sem,Int.reduceOfNat]:iI c F k2 (n+1) vs s=_)
def pI:Un->List Q2->Nat->Q2
 |.z,[k2]=>iI c F k2
 |_,_=>λ_=>eO
def sw:O2:=aT c F (pI c F) yg.1 [x0] s
def Jh:=(by dsimp only[sw,yg, ↓pI,go_sem,Int.reduceOfNat]:sw c F x0 s=_)
def nR:Sh:=(sq sl (sq (sq sl (sc (sq sl sl) sl)) (sq (sq sl (sb (sp 0 [0,1,5] [(1,[4]),(2,[])] (sq (sq sl (sc sl sl)) (sq (sb (sq sl (sc (sq sl sl) sl))) sl))))) (sq sl sl))))
def w6:PX 117 nR:=⟨_,by conv=>lhs;reduce⟩
def vK:PL 117 nR 0:=⟨_,by conv=>lhs;reduce⟩
def iA(k1 k2:Q2):Nat->Q2
 |0,_,_=>none
 |n+1,vs,s=>eg c F bf (iA k1 k2 n) [k1,k2] vK.1 vs s
def tL(k1 k2:Q2)(n:Nat)(vs:List AV)(s:St):=(by dsimp only[iA,vK,go_sem,Int.reduceOfNat]:iA c F k1 k2 (n+1) vs s=_)
def nS:Un->List Q2->Nat->Q2
 |.z,[k1,k2]=>iA c F k1 k2
 |_,_=>λ_=>eO
def qH:O2:=aT c F (nS c F) w6.1 [x0,x1] s
def Ho:=(by dsimp only[qH,w6, ↓nS,go_sem,Int.reduceOfNat]:qH c F x0 x1 s=_)
def nT:Sh:=(sq sl (sq (sq sl (sc (sq sl sl) sl)) (sq (sq sl (sb (sp 0 [0,1,5] [(1,[4]),(2,[])] (sq (sq sl (sc sl sl)) (sq (sb (sq sl (sc (sq sl sl) sl))) sl))))) (sq sl sl))))
def w7:PX 118 nT:=⟨_,by conv=>lhs;reduce⟩
def vL:PL 118 nT 0:=⟨_,by conv=>lhs;reduce⟩
def iB(k1 k2:Q2):Nat->Q2
 |0,_,_=>none
 |n+1,vs,s=>eg c F bf (iB k1 k2 n) [k1,k2] vL.1 vs s
def tM(k1 k2:Q2)(n:Nat)(vs:List AV)(s:St):=(by dsimp only[iB,vL,go_sem,Int.reduceOfNat]:iB c F k1 k2 (n+1) vs s=_)
def nU:Un->List Q2->Nat->Q2
 |.z,[k1,k2]=>iB c F k1 k2
 |_,_=>λ_=>eO
def qI:O2:=aT c F (nU c F) w7.1 [x0,x1] s
def Hp:=(by dsimp only[qI,w7, ↓nU,go_sem,Int.reduceOfNat]:qI c F x0 x1 s=_)
def qJ:Sh:=(sq sl (sq (sq sl (sc (sq sl sl) sl)) (sq (sq sl (sb (sp 0 [0,1,5] [(1,[4]),(2,[])] (sq (sq sl (sc sl sl)) (sq (sb (sq sl (sc (sq sl sl) sl))) sl))))) (sq sl sl))))
def Aa:PX 119 qJ:=⟨_,by conv=>lhs;reduce⟩
def yh:PL 119 qJ 0:=⟨_,by conv=>lhs;reduce⟩
def jk(k1 k2:Q2):Nat->Q2
 |0,_,_=>none
 |n+1,vs,s=>eg c F bf (jk k1 k2 n) [k1,k2] yh.1 vs s
def vM(k1 k2:Q2)(n:Nat)(vs:List AV)(s:St):=(by dsimp only[jk,yh,go_sem,Int.reduceOfNat]:jk c F k1 k2 (n+1) vs s=_)
def qK:Un->List Q2->Nat->Q2
 |.z,[k1,k2]=>jk c F k1 k2
 |_,_=>λ_=>eO
def uk:O2:=aT c F (qK c F) Aa.1 [x0,x1] s
def Ky:=(by dsimp only[uk,Aa, ↓qK,go_sem,Int.reduceOfNat]:uk c F x0 x1 s=_)
def qL:Sh:=(sq sl (sq (sq sl (sc (sq sl sl) sl)) (sq (sq sl (sb (sp 0 [0,1,5] [(1,[4]),(2,[])] (sq (sq sl (sc sl sl)) (sq (sb (sq sl (sc (sq sl sl) sl))) sl))))) (sq sl sl))))
def Ab:PX 120 qL:=⟨_,by conv=>lhs;reduce⟩
def yj:PL 120 qL 0:=⟨_,by conv=>lhs;reduce⟩
def jq(k1 k2:Q2):Nat->Q2
 |0,_,_=>none
 |n+1,vs,s=>eg c F bf (jq k1 k2 n) [k1,k2] yj.1 vs s
def vN(k1 k2:Q2)(n:Nat)(vs:List AV)(s:St):=(by dsimp only[jq,yj,go_sem,Int.reduceOfNat]:jq c F k1 k2 (n+1) vs s=_)
def qM:Un->List Q2->Nat->Q2
 |.z,[k1,k2]=>jq c F k1 k2
 |_,_=>λ_=>eO
def um:O2:=aT c F (qM c F) Ab.1 [x0,x1] s
def Kz:=(by dsimp only[um,Ab, ↓qM,go_sem,Int.reduceOfNat]:um c F x0 x1 s=_)
def pJ:Sh:=(sq sl (sq (sq sl (sc (sq sl sl) sl)) (sq (sq sl (sb (sp 0 [0,1,5] [(1,[4]),(2,[])] (sq (sq sl (sc sl sl)) (sq (sb (sq sl (sc (sq sl sl) sl))) sl))))) (sq sl sl))))
def yl:PX 121 pJ:=⟨_,by conv=>lhs;reduce⟩
def w8:PL 121 pJ 0:=⟨_,by conv=>lhs;reduce⟩
def iJ(k1 k2:Q2):Nat->Q2
 |0,_,_=>none
 |n+1,vs,s=>eg c F bf (iJ k1 k2 n) [k1,k2] w8.1 vs s
def uM(k1 k2:Q2)(n:Nat)(vs:List AV)(s:St):=(by dsimp only[iJ,w8,go_sem,Int.reduceOfNat]:iJ c F k1 k2 (n+1) vs s=_)
def pK:Un->List Q2->Nat->Q2
 |.z,[k1,k2]=>iJ c F k1 k2
 |_,_=>λ_=>eO
def sx:O2:=aT c F (pK c F) yl.1 [x0,x1] s
def Ji:=(by dsimp only[sx,yl, ↓pK,go_sem,Int.reduceOfNat]:sx c F x0 x1 s=_)
def ym:Sh:=(sq sl (sq sl (sq sl sl)))
def yo:PX 166 ym:=⟨_,by conv=>lhs;reduce⟩
def sy:O2:=aT c F bf yo.1 [x0] s
def Jj:=(by dsimp only[sy,yo,go_sem,Int.reduceOfNat]:sy c F x0 s=_)
def yp:Sh:=(sq sl (sq sl (sq sl sl)))
def yq:PX 167 yp:=⟨_,by conv=>lhs;reduce⟩
def sF:O2:=aT c F bf yq.1 [x0] s
def Jk:=(by dsimp only[sF,yq,go_sem,Int.reduceOfNat]:sF c F x0 s=_)
def yu:Sh:=(sq sl (sq sl sl))
def yw:PX 171 yu:=⟨_,by conv=>lhs;reduce⟩
def sG:O2:=aT c F bf yw.1 [x0,x1] s
def Jl:=(by dsimp only[sG,yw,go_sem,Int.reduceOfNat]:sG c F x0 x1 s=_)
def yx:Sh:=(sq sl (sq sl sl))
def yy:PX 172 yx:=⟨_,by conv=>lhs;reduce⟩
def sH:O2:=aT c F bf yy.1 [x0,x1] s
def Jm:=(by dsimp only[sH,yy,go_sem,Int.reduceOfNat]:sH c F x0 x1 s=_)
def pL:Sh:=(sq sl (sq sl (sq (sq sl (sb (sp 0 [0,3,4] [(2,[3])] (sq (sq sl (sc sl sl)) (sq (sb sl) sl))))) (sq sl sl))))
def yA:PX 231 pL:=⟨_,by conv=>lhs;reduce⟩
def w9:PL 231 pL 0:=⟨_,by conv=>lhs;reduce⟩
def iK(k2:Q2):Nat->Q2
 |0,_,_=>none
 |n+1,vs,s=>eg c F bf (iK k2 n) [k2] w9.1 vs s
def mh(k2:Q2)(n:Nat)(vs:List AV)(s:St):=(by dsimp only[iK,w9,go_sem,Int.reduceOfNat]:iK c F k2 (n+1) vs s=_)
def pM:Un->List Q2->Nat->Q2
 |.z,[k2]=>iK c F k2
 |_,_=>λ_=>eO
def sI:O2:=aT c F (pM c F) yA.1 [x0] s
def Jn:=(by dsimp only[sI,yA, ↓pM,go_sem,Int.reduceOfNat]:sI c F x0 s=_)
def pN:Sh:=(sq sl (sq (sq sl (sc (sq sl sl) sl)) (sq (sq sl (sb (sp 0 [0,1,5] [(1,[4]),(2,[])] (sq (sq sl (sc sl sl)) (sq (sb (sq sl (sc (sq sl sl) sl))) sl))))) (sq sl sl))))
def yB:PX 242 pN:=⟨_,by conv=>lhs;reduce⟩
def xe:PL 242 pN 0:=⟨_,by conv=>lhs;reduce⟩
def iL(k1 k2:Q2):Nat->Q2
 |0,_,_=>none
 |n+1,vs,s=>eg c F bf (iL k1 k2 n) [k1,k2] xe.1 vs s
def uN(k1 k2:Q2)(n:Nat)(vs:List AV)(s:St):=(by dsimp only[iL,xe,go_sem,Int.reduceOfNat]:iL c F k1 k2 (n+1) vs s=_)
def pO:Un->List Q2->Nat->Q2
 |.z,[k1,k2]=>iL c F k1 k2
 |_,_=>λ_=>eO
def sJ:O2:=aT c F (pO c F) yB.1 [x0,x1] s
def Jo:=(by dsimp only[sJ,yB, ↓pO,go_sem,Int.reduceOfNat]:sJ c F x0 x1 s=_)
end
section
variable{c:ah}(hc:Sem c)(F:Nat){x0 x1 x2 x3 x4 x5 x6 x7 x8 x9 pY qo:AV}{s:St}{r:AV×St}
include hc
theorem D1(h:pF c F x0 s=some r):c 72 [x0] s=some (tidy s r):=hc.o0 F vE (by kernel_rfl) (by kernel_rfl) h
theorem D3(h:pG c F x0 x1 s=some r):c 76 [x0,x1] s=some (tidy s r):=hc.o0 F vG (by kernel_rfl) (by kernel_rfl) h
theorem E7(h:qA c F x0 s=some r):c 100 [x0] s=some (tidy s r):=hc.o1 F (nO c F) nN (by kernel_rfl) (by kernel_rfl) (λ_ _ _=>by kernel_rfl) (λ_ _ _ _=>by kernel_rfl) (by kernel_rfl) h
theorem E8(h:qB c F x0 s=some r):c 101 [x0] s=some (tidy s r):=hc.o1 F (nQ c F) nP (by kernel_rfl) (by kernel_rfl) (λ_ _ _=>by kernel_rfl) (λ_ _ _ _=>by kernel_rfl) (by kernel_rfl) h
theorem Hq(h:uh c F x0 s=some r):c 102 [x0] s=some (tidy s r):=hc.o1 F (qE c F) qC (by kernel_rfl) (by kernel_rfl) (λ_ _ _=>by kernel_rfl) (λ_ _ _ _=>by kernel_rfl) (by kernel_rfl) h
theorem Hr(h:uj c F x0 s=some r):c 103 [x0] s=some (tidy s r):=hc.o1 F (qG c F) qF (by kernel_rfl) (by kernel_rfl) (λ_ _ _=>by kernel_rfl) (λ_ _ _ _=>by kernel_rfl) (by kernel_rfl) h
theorem Gy(h:sw c F x0 s=some r):c 104 [x0] s=some (tidy s r):=hc.o1 F (pI c F) pH (by kernel_rfl) (by kernel_rfl) (λ_ _ _=>by kernel_rfl) (λ_ _ _ _=>by kernel_rfl) (by kernel_rfl) h
theorem E9(h:qH c F x0 x1 s=some r):c 117 [x0,x1] s=some (tidy s r):=hc.o1 F (nS c F) nR (by kernel_rfl) (by kernel_rfl) (λ_ _ _=>by kernel_rfl) (λ_ _ _ _=>by kernel_rfl) (by kernel_rfl) h
theorem Fa(h:qI c F x0 x1 s=some r):c 118 [x0,x1] s=some (tidy s r):=hc.o1 F (nU c F) nT (by kernel_rfl) (by kernel_rfl) (λ_ _ _=>by kernel_rfl) (λ_ _ _ _=>by kernel_rfl) (by kernel_rfl) h
theorem Hs(h:uk c F x0 x1 s=some r):c 119 [x0,x1] s=some (tidy s r):=hc.o1 F (qK c F) qJ (by kernel_rfl) (by kernel_rfl) (λ_ _ _=>by kernel_rfl) (λ_ _ _ _=>by kernel_rfl) (by kernel_rfl) h
theorem Ht(h:um c F x0 x1 s=some r):c 120 [x0,x1] s=some (tidy s r):=hc.o1 F (qM c F) qL (by kernel_rfl) (by kernel_rfl) (λ_ _ _=>by kernel_rfl) (λ_ _ _ _=>by kernel_rfl) (by kernel_rfl) h
theorem Gz(h:sx c F x0 x1 s=some r):c 121 [x0,x1] s=some (tidy s r):=hc.o1 F (pK c F) pJ (by kernel_rfl) (by kernel_rfl) (λ_ _ _=>by kernel_rfl) (λ_ _ _ _=>by kernel_rfl) (by kernel_rfl) h
theorem GC(h:sy c F x0 s=some r):c 166 [x0] s=some (tidy s r):=hc.o0 F ym (by kernel_rfl) (by kernel_rfl) h
theorem GD(h:sF c F x0 s=some r):c 167 [x0] s=some (tidy s r):=hc.o0 F yp (by kernel_rfl) (by kernel_rfl) h
theorem GF(h:sG c F x0 x1 s=some r):c 171 [x0,x1] s=some (tidy s r):=hc.o0 F yu (by kernel_rfl) (by kernel_rfl) h
theorem GG(h:sH c F x0 x1 s=some r):c 172 [x0,x1] s=some (tidy s r):=hc.o0 F yx (by kernel_rfl) (by kernel_rfl) h
theorem GH(h:sI c F x0 s=some r):c 231 [x0] s=some (tidy s r):=hc.o1 F (pM c F) pL (by kernel_rfl) (by kernel_rfl) (λ_ _ _=>by kernel_rfl) (λ_ _ _ _=>by kernel_rfl) (by kernel_rfl) h
theorem GI(h:sJ c F x0 x1 s=some r):c 242 [x0,x1] s=some (tidy s r):=hc.o1 F (pO c F) pN (by kernel_rfl) (by kernel_rfl) (λ_ _ _=>by kernel_rfl) (λ_ _ _ _=>by kernel_rfl) (by kernel_rfl) h
end
end
section
open Go Go.Ai Go.Proofs
variable{c:ah}
theorem ajW(t:Ty)(H:Pos->Option AB)(n:Pos):ax.run H n (.bin .neq (.struct [(0,.s),(1,.s),(2,.i)])) [.agg t.cells,.agg t.cells]=some (.val (.bool false)):=by
 simp[ax.run,fI,jT,IE,eqFields,Ty.cells,nth,yW,cV,ke,fk]
theorem ajX(t:Rl)(H:Pos->Option AB)(n:Pos):ax.run H n (.bin .neq (.struct [(0,.i),(1,.i),(2,.s),(3,.s),(4,.s),(5,.i)])) [.agg t.cells,.agg t.cells]=some (.val (.bool false)):=by
 simp[ax.run,fI,jT,IE,eqFields,Rl.cells,nth,yW,cV,ke,fk]
theorem ai3(t:Ty)(K:AV->Option (AV×St)):dI (.bin .neq (.struct [(0,.s),(1,.s),(2,.i)])) [.agg t.cells,.agg t.cells] K=K (.bool false):=cM K (ajW t)
theorem ai4(t:Rl)(K:AV->Option (AV×St)):dI (.bin .neq (.struct [(0,.i),(1,.i),(2,.s),(3,.s),(4,.s),(5,.i)])) [.agg t.cells,.agg t.cells] K=K (.bool false):=cM K (ajX t)
theorem Yd(z z':Bool)(l:List (Int))(hl:l.length<dM)(F:Nat)(k1 k2)(s:St):∀(m k f:Nat),m<f->k+m=l.length->jq c F k1 k2 f [ints z l,ints z' l,.int .i64 (k:Int)] s=k2 [] s:=by
 have lI:∀(z:Bool)(K:AV->St->Option (AV×St))(s:St),ai c (.lenB .l) [ints z l] s K=K (.int .i64 (l.length:Int)) s:=λz K s=>by unfold ints;rw[bW];simp
 intro m;induction m with
 |zero=>
  intro k f hf h1;obtain⟨f,rfl⟩:∃g,f=g+1:=⟨f - 1,by omega⟩
  obtain rfl:k=l.length:=by omega
  rw[vN];simp[lI]
 |succ m ih=>
  intro k f hf h1;obtain⟨f,rfl⟩:∃g,f=g+1:=⟨f - 1,by omega⟩
  have h:k<l.length:=by omega
  have w:au .i64 ((k:Int)+1)=((k+1:Nat):Int):=wrap64 (by omega) (by unfold dM at hl;omega);rw[<-ih (k+1) f (by omega) (by omega),vN];unfold ints at lI ⊢;simp[lI,h,w]
theorem R3(hc:Sem c)(z z':Bool)(l:List (Int))(hl:l.length<dM)(s:St):c 120 [ints z l,ints z' l] s=some (.bool true,s):=by
 have lI:∀(z:Bool)(K:AV->St->Option (AV×St))(s:St),ai c (.lenB .l) [ints z l] s K=K (.int .i64 (l.length:Int)) s:=λz K s=>by unfold ints;rw[bW];simp
 have L:=Yd (c:=c) z z' l hl (l.length+1) (λvs Kq=>eV vs λx4 vs=>gP vs (some (x4,Kq))) (λvs Kr=>gP vs (ai c .move [.bool true] Kr λx4 uF=>some (x4,uF))) s l.length 0 (l.length+1) (by omega) (by omega);rw[Ht hc (l.length+1) (r:=(.bool true,s)),ak (Plain.bool _) (aM.refl s)];rw[Kz];simp at L;simp[lI,L]
theorem V8(z z':Bool)(l:List (List Nat))(hl:l.length<dM)(F:Nat)(k1 k2)(s:St):∀(m k f:Nat),m<f->k+m=l.length->iL c F k1 k2 f [fu z l,fu z' l,.int .i64 (k:Int)] s=k2 [] s:=by
 have lI:∀(z:Bool)(K:AV->St->Option (AV×St))(s:St),ai c (.lenB .l) [fu z l] s K=K (.int .i64 (l.length:Int)) s:=λz K s=>by unfold fu;rw[bW];simp
 intro m;induction m with
 |zero=>
  intro k f hf h1;obtain⟨f,rfl⟩:∃g,f=g+1:=⟨f - 1,by omega⟩
  obtain rfl:k=l.length:=by omega
  rw[uN];simp[lI]
 |succ m ih=>
  intro k f hf h1;obtain⟨f,rfl⟩:∃g,f=g+1:=⟨f - 1,by omega⟩
  have h:k<l.length:=by omega
  have w:au .i64 ((k:Int)+1)=((k+1:Nat):Int):=wrap64 (by omega) (by unfold dM at hl;omega);rw[<-ih (k+1) f (by omega) (by omega),uN];unfold fu at lI ⊢;simp[lI,h,w]
theorem aaI(hc:Sem c)(z z':Bool)(l:List (List Nat))(hl:l.length<dM)(s:St):c 242 [fu z l,fu z' l] s=some (.bool true,s):=by
 have lI:∀(z:Bool)(K:AV->St->Option (AV×St))(s:St),ai c (.lenB .l) [fu z l] s K=K (.int .i64 (l.length:Int)) s:=λz K s=>by unfold fu;rw[bW];simp
 have L:=V8 (c:=c) z z' l hl (l.length+1) (λvs Kq=>eV vs λx4 vs=>gP vs (some (x4,Kq))) (λvs Kr=>gP vs (ai c .move [.bool true] Kr λx4 uF=>some (x4,uF))) s l.length 0 (l.length+1) (by omega) (by omega);rw[GI hc (l.length+1) (r:=(.bool true,s)),ak (Plain.bool _) (aM.refl s)];rw[Jo];simp at L;simp[lI,L]
theorem Ye(z z':Bool)(l:List (Ty))(hl:l.length<dM)(F:Nat)(k1 k2)(s:St):∀(m k f:Nat),m<f->k+m=l.length->jk c F k1 k2 f [cT z l,cT z' l,.int .i64 (k:Int)] s=k2 [] s:=by
 have lI:∀(z:Bool)(K:AV->St->Option (AV×St))(s:St),ai c (.lenB .l) [cT z l] s K=K (.int .i64 (l.length:Int)) s:=λz K s=>by unfold cT;rw[bW];simp
 intro m;induction m with
 |zero=>
  intro k f hf h1;obtain⟨f,rfl⟩:∃g,f=g+1:=⟨f - 1,by omega⟩
  obtain rfl:k=l.length:=by omega
  rw[vM];simp[lI]
 |succ m ih=>
  intro k f hf h1;obtain⟨f,rfl⟩:∃g,f=g+1:=⟨f - 1,by omega⟩
  have h:k<l.length:=by omega
  have w:au .i64 ((k:Int)+1)=((k+1:Nat):Int):=wrap64 (by omega) (by unfold dM at hl;omega);rw[<-ih (k+1) f (by omega) (by omega),vM];unfold cT at lI ⊢;simp[lI,h,w,ai3,Ty.len]
theorem abx(hc:Sem c)(z z':Bool)(l:List (Ty))(hl:l.length<dM)(s:St):c 119 [cT z l,cT z' l] s=some (.bool true,s):=by
 have lI:∀(z:Bool)(K:AV->St->Option (AV×St))(s:St),ai c (.lenB .l) [cT z l] s K=K (.int .i64 (l.length:Int)) s:=λz K s=>by unfold cT;rw[bW];simp
 have L:=Ye (c:=c) z z' l hl (l.length+1) (λvs Kq=>eV vs λx4 vs=>gP vs (some (x4,Kq))) (λvs Kr=>gP vs (ai c .move [.bool true] Kr λx4 uF=>some (x4,uF))) s l.length 0 (l.length+1) (by omega) (by omega);rw[Hs hc (l.length+1) (r:=(.bool true,s)),ak (Plain.bool _) (aM.refl s)];rw[Ky];simp at L;simp[lI,L]
theorem V9(z z':Bool)(l:List (Rl))(hl:l.length<dM)(F:Nat)(k1 k2)(s:St):∀(m k f:Nat),m<f->k+m=l.length->iJ c F k1 k2 f [jD z l,jD z' l,.int .i64 (k:Int)] s=k2 [] s:=by
 have lI:∀(z:Bool)(K:AV->St->Option (AV×St))(s:St),ai c (.lenB .l) [jD z l] s K=K (.int .i64 (l.length:Int)) s:=λz K s=>by unfold jD;rw[bW];simp
 intro m;induction m with
 |zero=>
  intro k f hf h1;obtain⟨f,rfl⟩:∃g,f=g+1:=⟨f - 1,by omega⟩
  obtain rfl:k=l.length:=by omega
  rw[uM];simp[lI]
 |succ m ih=>
  intro k f hf h1;obtain⟨f,rfl⟩:∃g,f=g+1:=⟨f - 1,by omega⟩
  have h:k<l.length:=by omega
  have w:au .i64 ((k:Int)+1)=((k+1:Nat):Int):=wrap64 (by omega) (by unfold dM at hl;omega);rw[<-ih (k+1) f (by omega) (by omega),uM];unfold jD at lI ⊢;simp[lI,h,w,ai4]
theorem aaJ(hc:Sem c)(z z':Bool)(l:List (Rl))(hl:l.length<dM)(s:St):c 121 [jD z l,jD z' l] s=some (.bool true,s):=by
 have lI:∀(z:Bool)(K:AV->St->Option (AV×St))(s:St),ai c (.lenB .l) [jD z l] s K=K (.int .i64 (l.length:Int)) s:=λz K s=>by unfold jD;rw[bW];simp
 have L:=V9 (c:=c) z z' l hl (l.length+1) (λvs Kq=>eV vs λx4 vs=>gP vs (some (x4,Kq))) (λvs Kr=>gP vs (ai c .move [.bool true] Kr λx4 uF=>some (x4,uF))) s l.length 0 (l.length+1) (by omega) (by omega);rw[Gz hc (l.length+1) (r:=(.bool true,s)),ak (Plain.bool _) (aM.refl s)];rw[Ji];simp at L;simp[lI,L]
theorem aaK(hc:Sem c)(t t':aG)(h:t.dG t')(hl:t.cY.length<dM)(s:St)(hw:Wf s):c 171 [.agg t.cells,.agg t'.cells] s=some (.bool true,s):=by
 obtain⟨z,rfl⟩:=h;have cw:Wf (af s (.cells t.cells 0)):=bM hw;have x1:=(Grew.af cw (.cells ({ t with oz:=z }:aG).cells 0)).get (aC s (.cells t.cells 0));have x2:=aC (af s (.cells t.cells 0)) (.cells ({ t with oz:=z }:aG).cells 0);have S:=R3 hc t.oz z t.cY hl (af (af s (.cells t.cells 0)) (.cells ({ t with oz:=z }:aG).cells 0));rw[GF hc 1 (r:=(.bool true,af (af s (.cells t.cells 0)) (.cells ({ t with oz:=z }:aG).cells 0))),ak (Plain.bool _) ((bK hw).trans (bK cw))];rw[Jl];have a0:t.cells[0]? =some (.str t.name):=rfl;have a1:t.cells[1]? =some (.int .u8 t.sh):=rfl;have a2:t.cells[2]? =some (.int .i64 t.a):=rfl;have a3:t.cells[3]? =some (.int .i64 t.b):=rfl;have a4:t.cells[4]? =some (ints t.oz t.cY):=rfl;have a5:t.cells[5]? =some (.int .i64 t.x):=rfl;have a6:t.cells[6]? =some (.int .i64 t.y):=rfl;have b0:({ t with oz:=z }:aG).cells[0]? =some (.str t.name):=rfl;have b1:({ t with oz:=z }:aG).cells[1]? =some (.int .u8 t.sh):=rfl;have b2:({ t with oz:=z }:aG).cells[2]? =some (.int .i64 t.a):=rfl;have b3:({ t with oz:=z }:aG).cells[3]? =some (.int .i64 t.b):=rfl;have b4:({ t with oz:=z }:aG).cells[4]? =some (ints z t.cY):=rfl;have b5:({ t with oz:=z }:aG).cells[5]? =some (.int .i64 t.x):=rfl;have b6:({ t with oz:=z }:aG).cells[6]? =some (.int .i64 t.y):=rfl;simp[x1,x2,a0,a1,a2,a3,a4,a5,a6,b0,b1,b2,b3,b4,b5,b6,S]
theorem aaL(hc:Sem c)(t t':aQ)(h:t.dG t')(hl:t.tg.length<dM)(s:St)(hw:Wf s):c 172 [.agg t.cells,.agg t'.cells] s=some (.bool true,s):=by
 obtain⟨z,rfl⟩:=h;have cw:Wf (af s (.cells t.cells 0)):=bM hw;have x1:=(Grew.af cw (.cells ({ t with tz:=z }:aQ).cells 0)).get (aC s (.cells t.cells 0));have x2:=aC (af s (.cells t.cells 0)) (.cells ({ t with tz:=z }:aQ).cells 0);have S:=aaI hc t.tz z t.tg hl (af (af s (.cells t.cells 0)) (.cells ({ t with tz:=z }:aQ).cells 0));rw[GG hc 1 (r:=(.bool true,af (af s (.cells t.cells 0)) (.cells ({ t with tz:=z }:aQ).cells 0))),ak (Plain.bool _) ((bK hw).trans (bK cw))];rw[Jm];have a0:t.cells[0]? =some (.str t.name):=rfl;have b0:({ t with tz:=z }:aQ).cells[0]? =some (.str t.name):=rfl;have a1:t.cells[1]? =some (.str t.nL):=rfl;have b1:({ t with tz:=z }:aQ).cells[1]? =some (.str t.nL):=rfl;have a2:t.cells[2]? =some (.str t.kE):=rfl;have b2:({ t with tz:=z }:aQ).cells[2]? =some (.str t.kE):=rfl;have a3:t.cells[3]? =some (.int .i64 t.since):=rfl;have b3:({ t with tz:=z }:aQ).cells[3]? =some (.int .i64 t.since):=rfl;have a4:t.cells[4]? =some (.int .i64 t.side):=rfl;have b4:({ t with tz:=z }:aQ).cells[4]? =some (.int .i64 t.side):=rfl;have a5:t.cells[5]? =some (.str t.nM):=rfl;have b5:({ t with tz:=z }:aQ).cells[5]? =some (.str t.nM):=rfl;have a6:t.cells[6]? =some (.bool t.host):=rfl;have b6:({ t with tz:=z }:aQ).cells[6]? =some (.bool t.host):=rfl;have a7:t.cells[7]? =some (.bool t.access):=rfl;have b7:({ t with tz:=z }:aQ).cells[7]? =some (.bool t.access):=rfl;have a8:t.cells[8]? =some (fu t.tz t.tg):=rfl;have b8:({ t with tz:=z }:aQ).cells[8]? =some (fu z t.tg):=rfl;simp[x1,x2,a0,a1,a2,a3,a4,a5,a6,a7,a8,b0,b1,b2,b3,b4,b5,b6,b7,b8,S]
theorem UL(hc:Sem c)(z z':Bool)(l l':List (aG))(hl:l.length<dM)(UM:l'.length=l.length)(hs:∀(i:Nat)(t t':aG),l[i]? =some t->l'[i]? =some t'->t.dG t')(hr:∀t∈l,t.cY.length<dM)(F:Nat)(k1 k2)(s:St)(hw:Wf s):∀(m k f:Nat),m<f->k+m=l.length->iA c F k1 k2 f [tabs z l,tabs z' l',.int .i64 (k:Int)] s=k2 [] s:=by
 have lI:∀(z:Bool)(l:List (aG))(K:AV->St->Option (AV×St))(s:St),ai c (.lenB .l) [tabs z l] s K=K (.int .i64 (l.length:Int)) s:=λz l K s=>by unfold tabs;rw[bW];simp
 intro m;induction m with
 |zero=>
  intro k f hf h1;obtain⟨f,rfl⟩:∃g,f=g+1:=⟨f - 1,by omega⟩
  obtain rfl:k=l.length:=by omega
  rw[tL];simp[lI]
 |succ m ih=>
  intro k f hf h1;obtain⟨f,rfl⟩:∃g,f=g+1:=⟨f - 1,by omega⟩
  have h:k<l.length:=by omega
  have h':k<l'.length:=by omega
  have w:au .i64 ((k:Int)+1)=((k+1:Nat):Int):=wrap64 (by omega) (by unfold dM at hl;omega);have S:=aaK hc l[k] l'[k] (hs k _ _ (H1 h) (H1 h')) (hr _ (Zc6 h)) s hw;rw[<-ih (k+1) f (by omega) (by omega),tL];unfold tabs at lI ⊢;simp[lI,h,h',w,S,aG.len]
theorem Yf(hc:Sem c)(z z':Bool)(l l':List (aG))(hl:l.length<dM)(UM:l'.length=l.length)(hs:∀(i:Nat)(t t':aG),l[i]? =some t->l'[i]? =some t'->t.dG t')(hr:∀t∈l,t.cY.length<dM)(s:St)(hw:Wf s):c 117 [tabs z l,tabs z' l'] s=some (.bool true,s):=by
 have lI:∀(z:Bool)(l:List (aG))(K:AV->St->Option (AV×St))(s:St),ai c (.lenB .l) [tabs z l] s K=K (.int .i64 (l.length:Int)) s:=λz l K s=>by unfold tabs;rw[bW];simp
 have L:=UL hc z z' l l' hl UM hs hr (l.length+1) (λvs Kq=>eV vs λx4 vs=>gP vs (some (x4,Kq))) (λvs Kr=>gP vs (ai c .move [.bool true] Kr λx4 uF=>some (x4,uF))) s hw l.length 0 (l.length+1) (by omega) (by omega);rw[E9 hc (l.length+1) (r:=(.bool true,s)),ak (Plain.bool _) (aM.refl s)];rw[Ho];simp at L;simp[lI,UM,L]
theorem UN(hc:Sem c)(z z':Bool)(l l':List (aQ))(hl:l.length<dM)(UM:l'.length=l.length)(hs:∀(i:Nat)(t t':aQ),l[i]? =some t->l'[i]? =some t'->t.dG t')(hr:∀t∈l,t.tg.length<dM)(F:Nat)(k1 k2)(s:St)(hw:Wf s):∀(m k f:Nat),m<f->k+m=l.length->iB c F k1 k2 f [bC z l,bC z' l',.int .i64 (k:Int)] s=k2 [] s:=by
 have lI:∀(z:Bool)(l:List (aQ))(K:AV->St->Option (AV×St))(s:St),ai c (.lenB .l) [bC z l] s K=K (.int .i64 (l.length:Int)) s:=λz l K s=>by unfold bC;rw[bW];simp
 intro m;induction m with
 |zero=>
  intro k f hf h1;obtain⟨f,rfl⟩:∃g,f=g+1:=⟨f - 1,by omega⟩
  obtain rfl:k=l.length:=by omega
  rw[tM];simp[lI]
 |succ m ih=>
  intro k f hf h1;obtain⟨f,rfl⟩:∃g,f=g+1:=⟨f - 1,by omega⟩
  have h:k<l.length:=by omega
  have h':k<l'.length:=by omega
  have w:au .i64 ((k:Int)+1)=((k+1:Nat):Int):=wrap64 (by omega) (by unfold dM at hl;omega);have S:=aaL hc l[k] l'[k] (hs k _ _ (H1 h) (H1 h')) (hr _ (Zc6 h)) s hw;rw[<-ih (k+1) f (by omega) (by omega),tM];unfold bC at lI ⊢;simp[lI,h,h',w,S,aQ.len]
theorem Yg(hc:Sem c)(z z':Bool)(l l':List (aQ))(hl:l.length<dM)(UM:l'.length=l.length)(hs:∀(i:Nat)(t t':aQ),l[i]? =some t->l'[i]? =some t'->t.dG t')(hr:∀t∈l,t.tg.length<dM)(s:St)(hw:Wf s):c 118 [bC z l,bC z' l'] s=some (.bool true,s):=by
 have lI:∀(z:Bool)(l:List (aQ))(K:AV->St->Option (AV×St))(s:St),ai c (.lenB .l) [bC z l] s K=K (.int .i64 (l.length:Int)) s:=λz l K s=>by unfold bC;rw[bW];simp
 have L:=UN hc z z' l l' hl UM hs hr (l.length+1) (λvs Kq=>eV vs λx4 vs=>gP vs (some (x4,Kq))) (λvs Kr=>gP vs (ai c .move [.bool true] Kr λx4 uF=>some (x4,uF))) s hw l.length 0 (l.length+1) (by omega) (by omega);rw[Fa hc (l.length+1) (r:=(.bool true,s)),ak (Plain.bool _) (aM.refl s)];rw[Hp];simp at L;simp[lI,UM,L]
structure aR.dG(p p':aR):Prop where
 tl:p'.ts.length=p.ts.length
 ts:∀(i:Nat)(t t':aG),p.ts[i]? =some t->p'.ts[i]? =some t'->t.dG t'
 gl:p'.gs.length=p.gs.length
 gs:∀(i:Nat)(t t':aQ),p.gs[i]? =some t->p'.gs[i]? =some t'->t.dG t'
 ys:p'.ys=p.ys
 cs:p'.cs=p.cs
 rs:p'.rs=p.rs
theorem PS.dJ{s0 s:St}{Vs:List AV}{p:aR}(h:PS s0 s Vs p)(d:Nat):∃p',Go.Ai.dJ s (d+3) (.agg Vs)= .agg p'.cells/\p.dG p':=by obtain⟨V1,V2,V3,V4,V5,r1,r2,rfl,h1,h2,h3,h4,h5⟩:=h.all;obtain⟨z1,yd,e1,l1,k1⟩:=h1.dJ d;obtain⟨z2,gs',e2,l2,k2⟩:=h2.dJ d;obtain⟨z3,e3⟩:=ai1 h3 (d+1);obtain⟨z4,e4⟩:=SY h4 (d+1);obtain⟨z5,e5⟩:=ai2 h5 (d+1);refine⟨⟨z1,yd,z2,gs',z3,p.ys,z4,p.cs,z5,p.rs⟩,?_,⟨l1,k1,l2,k2,rfl,rfl,rfl⟩⟩;rw[JY];simp only[Zb4,Ze0,e1,e2,e3,e4,e5];rfl
structure aR.Big(p:aR):Prop where
 ts:p.ts.length<dM
 cY:∀t∈p.ts,t.cY.length<dM
 gs:p.gs.length<dM
 tg:∀t∈p.gs,t.tg.length<dM
 ys:p.ys.length<dM
 cs:p.cs.length<dM
 rs:p.rs.length<dM
theorem Wa(hc:Sem c)(p p':aR)(h:p.dG p')(hb:p.Big)(s:St)(hw:Wf s):c 76 [.agg p.cells,.agg p'.cells] s=some (.bool true,s):=by
 have cw:Wf (af s (.cells p.cells 0)):=bM hw;have cZ:Wf (af (af s (.cells p.cells 0)) (.cells p'.cells 0)):=bM cw;have x1:=(Grew.af cw (.cells p'.cells 0)).get (aC s (.cells p.cells 0));have x2:=aC (af s (.cells p.cells 0)) (.cells p'.cells 0);have S1:=Yf hc p.tz p'.tz p.ts p'.ts hb.ts h.tl h.ts hb.cY _ cZ;have S2:=Yg hc p.gz p'.gz p.gs p'.gs hb.gs h.gl h.gs hb.tg _ cZ;have S3:=abx hc p.yz p'.yz p.ys hb.ys (af (af s (.cells p.cells 0)) (.cells p'.cells 0));have S4:=R3 hc p.cz p'.cz p.cs hb.cs (af (af s (.cells p.cells 0)) (.cells p'.cells 0));have S5:=aaJ hc p.rz p'.rz p.rs hb.rs (af (af s (.cells p.cells 0)) (.cells p'.cells 0));rw[D3 hc 1 (r:=(.bool true,af (af s (.cells p.cells 0)) (.cells p'.cells 0))),ak (Plain.bool _) ((bK hw).trans (bK cw))];rw[Gx];have y3:p'.cells[2]? =some (cT p'.yz p.ys):=by rw[<-h.ys];rfl
 have y4:p'.cells[3]? =some (ints p'.cz p.cs):=by rw[<-h.cs];rfl
 have y5:p'.cells[4]? =some (jD p'.rz p.rs):=by rw[<-h.rs];rfl
 simp[-aR.c2,-aR.c3,-aR.c4,x1,x2,S1,S2,S3,S4,S5,y3,y4,y5,show p.cells[2]? =some (cT p.yz p.ys)from rfl,show p.cells[3]? =some (ints p.cz p.cs)from rfl,show p.cells[4]? =some (jD p.rz p.rs)from rfl]
theorem Wb(hc:Sem c)(p:aR)(hp:p.ic)(hr:∀r∈p.rs,r.Ok)(q1:Pos)(F:Nat)(st:St)(hw:Wf st)(hq:st.heap.get q1=some (.cells p.cells 0))(k1 k2):∀(m k:Nat),p.rs.length<=k+m->k<=p.rs.length->k<=64->
  gX c F k1 k2 (m+1) [.ptr q1 0,.int .i64 (k:Int)] st=if(fN p m k).2=0 then k2 [] st else k1 [.int .i64 (fN p m k).1,.int .i64 (fN p m k).2] st:=by
 have hl:=hp.rs;intro m;induction m with
 |zero=>
  intro k h3 h4 h64;obtain rfl:k=p.rs.length:=by omega
  rw[nJ];simp[fN,hq]
 |succ m ih=>
  intro k h3 h4 h64;by_cases h:k<p.rs.length
  . have w:au .i64 ((k:Int)+1)=((k+1:Nat):Int):=wrap64 (by omega) (by omega);obtain⟨n,hk⟩:∃n:Nat,p.rs[k].k=(n:Int):=⟨p.rs[k].k.toNat,by have:=(hr _ (Zc6 h)).1;omega⟩
    have hn:n<256:=(by have:=(hr _ (Zc6 h)).2;omega);have Og:=abw hc p hp p.rs[k] n hk hn st hw;have hS:yS p p.rs[k]=Je (kd n) p p.rs[k]:=(by unfold yS;rw[hk];rfl);rw[<-hS]at Og;rw[nJ,fN,H1 h];simp only;by_cases h5:yS p p.rs[k]=0
    .   simp only[h5,ne_eq,not_true,Ze1];by_cases h6:k=64
        .rw[Za4 h6];have h6i:decide ((64:Int)<=(k:Int))=true:=(by simp only[Zd3];omega);simp[jD,h,hq,Og,h5,h6i]
        .have g2:=ih (k+1) (by omega) (by omega) (by omega);simp only[h6,Ze1];rw[<-g2];have h6i:¬(64:Int)<=(k:Int):=(by omega);simp[jD,h,hq,Og,h5,h6i,w]
    .   simp only[ne_eq,h5,Zn3,Zf9,Ze1];simp[jD,h,hq,Og,h5]
  .obtain rfl:k=p.rs.length:=(by omega);rw[nJ];simp[fN,hq]
theorem aaM(hc:Sem c)(p:aR)(hp:p.ic)(hR:PG c p)(hr:∀r∈p.rs,r.Ok)(st:St)(hw:Wf st):c 105 [.agg p.cells] st=some (.tuple [.int .i64 (bI p).1,.int .i64 (bI p).2],st):=by
 have mH:Plain (.tuple [.int .i64 (bI p).1,.int .i64 (bI p).2]):=Plain.tuple (by simp[Plain.int]);have cw:Wf (af st (.cells p.cells 0)):=bM hw;have Im:=Grew.af hw (.cells p.cells 0);have eG:(af st (.cells p.cells 0)).heap.get st.next=some (.cells p.cells 0):=aC _ _;have B:=abv hc p hp hR _ cw;rw[I6 hc 101 (r:=(.tuple [.int .i64 (bI p).1,.int .i64 (bI p).2],af st (.cells p.cells 0))),ak mH Im.keeps];rw[LY];have L:∀k1 k2,gX c 101 k1 k2 101 [.ptr st.next 0,.int .i64 0] (af st (.cells p.cells 0))=if(fN p 100 0).2=0 then k2 [] (af st (.cells p.cells 0))else k1 [.int .i64 (fN p 100 0).1,.int .i64 (fN p 100 0).2] (af st (.cells p.cells 0)):=
   λk1 k2=>Wb hc p hp hr st.next 101 _ cw eG k1 k2 100 0 (by have:=hp.rs;omega) (by omega) (by omega)
 by_cases h:(fM p).2=0
 . have e:bI p=fN p 100 0:=(by unfold bI;rw[Za2 (by simp[h])]);rw[e];by_cases h2:(fN p 100 0).2=0
   .have:=Jf p 100 0 h2;simp[eG,B,h,L,h2,this]
   .simp[eG,B,h,L,h2]
 .have e:bI p=fM p:=(by unfold bI;rw[Za4 h]);rw[e];simp[eG,B,h]
theorem CL{α β:Type}{P:α->α->Prop}{l l':List α}(hl:l'.length=l.length)(hs:∀(i:Nat)(t t':α),l[i]? =some t->l'[i]? =some t'->P t t')(f:α->β)(hf:∀t t',P t t'->f t'=f t)(i:Nat):l'[i]?.map f=l[i]?.map f:=by
 by_cases h:i<l.length
 .have h':i<l'.length:=(by omega);rw[H1 h,H1 h'];simp only[Ze3,H0];exact hf _ _ (hs i _ _ (H1 h) (H1 h'))
 .rw[Zc4 (by omega),Zc4 (by omega)]
theorem aaN{t t':aG}(h:t.dG t'):lF t'=lF t:=by obtain⟨z,rfl⟩:=h;rfl
theorem KA{t t':aG}(h:t.dG t'):bh t'=bh t:=by obtain⟨z,rfl⟩:=h;rfl
theorem ae6{t t':aQ}(h:t.dG t'):fC t'=fC t:=by obtain⟨z,rfl⟩:=h;rfl
variable{p p':aR}
theorem aR.dG.nm(h:p.dG p')(s:List Nat):iX p'.ts s=iX p.ts s:=funext λi=>by
 unfold iX;rw[CL h.tl h.ts aG.name (λt t' k=>by obtain⟨z,rfl⟩:=k;rfl)]
theorem aR.dG.gm(h:p.dG p')(s:List Nat):iY p'.gs s=iY p.gs s:=funext λi=>by
 unfold iY;rw[CL h.gl h.gs aQ.name (λt t' k=>by obtain⟨z,rfl⟩:=k;rfl)]
theorem aR.dG.at(h:p.dG p'):∀(m k:Nat),eH p'.ts m k=eH p.ts m k
 |0,_=>rfl
 |m +1,k=>by
  have ih:=h.at m (k+1);unfold eH;by_cases hk:k<p.ts.length
  .have lB:k<p'.ts.length:=(by rw[h.tl];exact hk);have hs:=h.ts k _ _ (H1 hk) (H1 lB);have hn:p'.ts[k].name=p.ts[k].name:=(by obtain⟨z,e⟩:=hs;rw[e]);rw[H1 hk,H1 lB];simp only[aaN hs,hn,h.nm,ih]
  .have lB:¬k<p'.ts.length:=(by rw[h.tl];exact hk);rw[Zc4 (by omega),Zc4 (by omega)]
theorem aR.dG.rj(h:p.dG p'):bA p'.ts=bA p.ts:=by unfold bA;rw[h.tl,h.at]
theorem aR.dG.gsAt(h:p.dG p'):∀(m k:Nat),gW p'.gs m k=gW p.gs m k
 |0,_=>rfl
 |m +1,k=>by
  have ih:=h.gsAt m (k+1);unfold gW;by_cases hk:k<p.gs.length
  .have lB:k<p'.gs.length:=(by rw[h.gl];exact hk);have hs:=h.gs k _ _ (H1 hk) (H1 lB);have hn:p'.gs[k].name=p.gs[k].name:=(by obtain⟨z,e⟩:=hs;rw[e]);rw[H1 hk,H1 lB];simp only[ae6 hs,hn,h.gm,ih]
  .have lB:¬k<p'.gs.length:=(by rw[h.gl];exact hk);rw[Zc4 (by omega),Zc4 (by omega)]
theorem aR.dG.unk(h:p.dG p')(t:Ty):lf p'.gs t=lf p.gs t:=by unfold lf;rw[h.gm,h.gm,h.gl]
theorem aR.dG.tyAt(h:p.dG p')(ts:List Ty):∀(m k:Nat),fQ p'.gs ts m k=fQ p.gs ts m k
 |0,_=>rfl
 |m+1,k=>by
  have ih:=h.tyAt ts m (k+1);unfold fQ;cases ts[k]? with
  |none=>rfl
  |some t=>simp only[h.gl,h.unk,ih]
theorem aR.dG.roll(h:p.dG p'):bV p'.gs p'.ys=bV p.gs p.ys:=by unfold bV;rw[h.ys,h.gsAt,h.tyAt]
theorem aR.dG.sum(h:p.dG p'):aO p'.ts=aO p.ts:=by
 unfold aO;congr 1;refine Zi4 λi=> ?_
 rw[Zb5,Zb5];exact CL h.tl h.ts bh (λt t' k=>KA k) i
theorem aR.dG.basis(h:p.dG p'):fM p'=fM p:=by unfold fM;rw[h.rj,h.roll,h.cs,h.gl,h.sum]
theorem aR.dG.gi(h:p.dG p')(s:List Nat):Go.Proofs.YtgjikjcfjddloaaGreatDoor.gi p' s=Go.Proofs.YtgjikjcfjddloaaGreatDoor.gi p s:=by unfold Go.Proofs.YtgjikjcfjddloaaGreatDoor.gi;rw[h.gm,h.gl]
theorem aR.dG.ti(h:p.dG p')(s:List Nat):Go.Proofs.YtgjikjcfjddloaaGreatDoor.ti p' s=Go.Proofs.YtgjikjcfjddloaaGreatDoor.ti p s:=by unfold Go.Proofs.YtgjikjcfjddloaaGreatDoor.ti;rw[h.nm,h.tl]
theorem aR.dG.vD(h:p.dG p')(i:Int):Go.Proofs.YtgjikjcfjddloaaGreatDoor.vD p' i=Go.Proofs.YtgjikjcfjddloaaGreatDoor.vD p i:=by
 unfold Go.Proofs.YtgjikjcfjddloaaGreatDoor.vD;have:=CL h.tl h.ts bh (λt t' k=>KA k) i.toNat;cases h1:p.ts[i.toNat]? with
 |none=>rw[h1]at this;cases h2:p'.ts[i.toNat]? with
  |none=>rfl
  |some t=>rw[h2]at this;cases this
 |some t=>rw[h1]at this;cases h2:p'.ts[i.toNat]? with
  |none=>rw[h2]at this;cases this
  |some t'=>rw[h2]at this;simp only[Ze3,H0]at this;simp only[this]
theorem aR.dG.rule(h:p.dG p')(r:Rl):yS p' r=yS p r:=by
 unfold yS Je aaA UK;simp only[h.gi,h.ti,h.vD]
theorem aR.dG.jD(h:p.dG p'):∀(m k:Nat),fN p' m k=fN p m k
 |0,_=>rfl
 |m+1,k=>by
  have ih:=h.jD m (k+1);unfold fN;rw[h.rs];cases p.rs[k]? with
  |none=>rfl
  |some r=>simp only[h.rule,ih]
theorem aR.dG.check(h:p.dG p'):bI p'=bI p:=by unfold bI;rw[h.basis,h.jD]
def D4(p:aR)(m:Nat):Bool:=decide (p.ts.length<=m)&&decide (p.gs.length<=m)&&decide (p.ys.length<=m)&&decide (p.cs.length<=m)&&decide (p.rs.length<=m)
theorem ahi{p:aR}(h:D4 p 100=true)(cQ:∀t∈p.ts,t.Ok):p.ic:=by
 unfold D4 at h;simp only[Za9,Zd3]at h;exact⟨h.1.1.1.1,h.1.1.1.2,h.1.1.2,h.1.2,h.2,cQ⟩
theorem ajY(hc:Sem c)(p:aR)(m:Nat)(st:St)(hw:Wf st):c 69 [.agg p.cells,.int .i64 (m:Int)] st=some (.bool (D4 p m),st):=by
 have hp:=aC st (.cells p.cells 0);rw[Px hc 1 (r:=(.bool (D4 p m),af st (.cells p.cells 0))),ak (Plain.bool _) (bK hw)];rw[SL];unfold D4;by_cases h1:p.ts.length<=m
 . by_cases h2:p.gs.length<=m
   . by_cases h3:p.ys.length<=m
     .  by_cases h4:p.cs.length<=m
        .by_cases h5:p.rs.length<=m<;>simp[h1,h2,h3,h4,h5]
        .simp[h1,h2,h3,h4]
     .  simp[h1,h2,h3]
   .simp[h1,h2]
 .simp[h1]
end
section
open Go Go.Ai Go.Proofs
section
variable{p p':aR}
theorem aR.dG.symm(h:p.dG p'):p'.dG p where
 tl:=h.tl.symm
 ts i t t' h1 h2:=by obtain⟨z,rfl⟩:=h.ts i t' t h2 h1;exact⟨t'.oz,rfl⟩
 gl:=h.gl.symm
 gs i t t' h1 h2:=by obtain⟨z,rfl⟩:=h.gs i t' t h2 h1;exact⟨t'.tz,rfl⟩
 ys:=h.ys.symm
 cs:=h.cs.symm
 rs:=h.rs.symm
theorem aR.dG.trans{q:aR}(h:p.dG p')(k:p'.dG q):p.dG q where
 tl:=k.tl.trans h.tl
 ts i t t' h1 h2:=by
  have hi:i<p'.ts.length:=by rw[h.tl];exact(H5.1 h1).1
  have e:=H1 hi;obtain⟨z,e1⟩:=h.ts i _ _ h1 e;obtain⟨z2,e2⟩:=k.ts i _ _ e h2;exact⟨z2,by rw[e2,e1]⟩
 gl:=k.gl.trans h.gl
 gs i t t' h1 h2:=by
  have hi:i<p'.gs.length:=by rw[h.gl];exact(H5.1 h1).1
  have e:=H1 hi;obtain⟨z,e1⟩:=h.gs i _ _ h1 e;obtain⟨z2,e2⟩:=k.gs i _ _ e h2;exact⟨z2,by rw[e2,e1]⟩
 ys:=k.ys.trans h.ys
 cs:=k.cs.trans h.cs
 rs:=k.rs.trans h.rs
theorem aR.dG.tab(h:p.dG p'){t':aG}(ht:t'∈p'.ts):∃t∈p.ts,t.dG t':=by
 obtain⟨i,hi,rfl⟩:=Zg9.1 ht;have Cb:i<p.ts.length:=by rw[<-h.tl];exact hi
 exact⟨p.ts[i],Zc6 Cb,h.ts i _ _ (H1 Cb) (H1 hi)⟩
theorem aR.dG.bO(h:p.dG p'){t':aQ}(ht:t'∈p'.gs):∃t∈p.gs,t.dG t':=by
 obtain⟨i,hi,rfl⟩:=Zg9.1 ht;have Cb:i<p.gs.length:=by rw[<-h.gl];exact hi
 exact⟨p.gs[i],Zc6 Cb,h.gs i _ _ (H1 Cb) (H1 hi)⟩
theorem aR.dG.Nz(h:p.dG p')(hp:p.ic):p'.ic where
 ts:=by rw[h.tl];exact hp.ts
 gs:=by rw[h.gl];exact hp.gs
 ys:=by rw[h.ys];exact hp.ys
 cs:=by rw[h.cs];exact hp.cs
 rs:=by rw[h.rs];exact hp.rs
 ok t ht:=by obtain⟨u,hu,z,rfl⟩:=h.tab ht;have:=hp.ok u hu;exact⟨this.1,this.2⟩
theorem aR.dG.real(h:p.dG p')(hp:p.Real):p'.Real where
 ts:=by rw[h.tl];exact hp.ts
 tab t ht:=by obtain⟨u,hu,z,rfl⟩:=h.tab ht;have:=hp.tab u hu;exact⟨this.1,this.2⟩
 gs:=by rw[h.gl];exact hp.gs
 bO t ht:=by obtain⟨u,hu,z,rfl⟩:=h.bO ht;have:=hp.bO u hu;exact⟨this.1,this.2,this.3,this.4,this.5⟩
 ys:=by rw[h.ys];exact hp.ys
 cs:=by rw[h.cs];exact hp.cs
 rs:=by rw[h.rs];exact hp.rs
theorem aR.Real.akO(hp:p.Real)(hk:∀t∈p.ts,t.Ok):p.Big where
 ts:=by have:=hp.ts;unfold dM;omega
 cY t ht:=(hk t ht).2
 gs:=by have:=hp.gs;unfold dM;omega
 tg t ht:=by have h:=(hp.bO t ht).tg;have h:t.tg.length<=1048576:=h;unfold dM;omega
 ys:=by have h:=hp.ys;have h:p.ys.length<=1048576:=h;unfold dM;omega
 cs:=by have h:=hp.cs;have h:p.cs.length<=1048576:=h;unfold dM;omega
 rs:=by have h:=hp.rs;have h:p.rs.length<=1048576:=h;unfold dM;omega
theorem UO(s:St)(d es:Nat)(z:Bool)(l:List (List AV)):dJ s d (ro es z l)=ro es z l:=by unfold ro;split<;>cases d<;>rfl
theorem QM(s:St)(d:Nat)(p:aR):dJ s (d+1) (.agg p.cells)= .agg p.cells:=by
 rw[JY];simp only[aR.cells,tabs,bC,cT,ints,jD,Zb4,Ze0,UO]
theorem ahj(t:aG){v:AV}(h:bR v):∀x∈t.ay v,bR x:=λx hx=>by simp only[aG.ay,Za7,Zd0,Zh3]at hx;rcases hx with rfl|rfl|rfl|rfl|rfl|rfl|rfl<;>first|exact h|exact bR.str _|exact bR.int _ _
theorem ahk(t:aQ){v:AV}(h:bR v):∀x∈t.ay v,bR x:=λx hx=>by simp only[aQ.ay,Za7,Zd0,Zh3]at hx;rcases hx with rfl|rfl|rfl|rfl|rfl|rfl|rfl|rfl|rfl<;>first|exact h|exact bR.str _|exact bR.int _ _|exact bR.bool _
theorem Dz{α:Type}{f:α->List AV}(h:∀a,∀x∈f a,bR x)(l:List α):∀r∈l.map f,∀x∈r,bR x:=λr hr x hx=>by obtain⟨a,_,rfl⟩:=Zf2.1 hr;exact h a x hx
theorem Xu(i:Int):∀x∈cq i,bR x:=λx hx=>by simp only[cq,Za7,Zd0,Zh3]at hx;subst hx;exact bR.int _ _
theorem ae7(i:List Nat):∀x∈iT i,bR x:=λx hx=>by simp only[iT,Za7,Zd0,Zh3]at hx;subst hx;exact bR.str _
theorem ai5(t:Ty):∀x∈t.cells,bR x:=λx hx=>by simp only[Ty.cells,Za7,Zd0,Zh3]at hx;rcases hx with rfl|rfl|rfl<;>first|exact bR.str _|exact bR.int _ _
theorem ai6(t:Rl):∀x∈t.cells,bR x:=λx hx=>by simp only[Rl.cells,Za7,Zd0,Zh3]at hx;rcases hx with rfl|rfl|rfl|rfl|rfl|rfl<;>first|exact bR.str _|exact bR.int _ _
end
section
variable{s s1:St}
theorem TS.gR{V:AV}{ts:List aG}{rows:List (List AV)}(hw:Wf s)(h:TS (emptyAt s) s1 V ts rows):TS s (gR s s1) V ts rows where
 out:=Mk.gR hw h.out (λr hr x hx=>by
  obtain⟨i,hi,rfl⟩:=Zg9.1 hr;have ht:i<ts.length:=by rw[<-h.len];exact hi
  obtain⟨v,e,M,_⟩:=h.yc i _ _ (H1 ht) (H1 hi);rw[e]at hx;exact ahj _ M.own.bare x hx)
 len:=h.len
 yc i t r hi hr:=by
  obtain⟨v,e,M,n⟩:=h.yc i t r hi hr;exact⟨v,e,Mk.gR hw M (Dz Xu _),n⟩
theorem GS.gR{V:AV}{ts:List aQ}{rows:List (List AV)}(hw:Wf s)(h:GS (emptyAt s) s1 V ts rows):GS s (gR s s1) V ts rows where
 out:=Mk.gR hw h.out (λr hr x hx=>by
  obtain⟨i,hi,rfl⟩:=Zg9.1 hr;have ht:i<ts.length:=by rw[<-h.len];exact hi
  obtain⟨v,e,M,_⟩:=h.yc i _ _ (H1 ht) (H1 hi);rw[e]at hx;exact ahk _ M.own.bare x hx)
 len:=h.len
 yc i t r hi hr:=by
  obtain⟨v,e,M,n⟩:=h.yc i t r hi hr;exact⟨v,e,Mk.gR hw M (Dz ae7 _),n⟩
theorem PS.gR{Vs:List AV}{p:aR}(hw:Wf s)(h:PS (emptyAt s) s1 Vs p):PS s (gR s s1) Vs p:=by
 obtain⟨V1,V2,V3,V4,V5,r1,r2,e,h1,h2,h3,h4,h5⟩:=h.all;exact⟨RE hw h.aN.wf h.aN.next,V1,V2,V3,V4,V5,r1,r2,e,TS.gR hw h1,GS.gR hw h2,Mk.gR hw h3 (Dz ai5 _),Mk.gR hw h4 (Dz Xu _),Mk.gR hw h5 (Dz ai6 _)⟩
theorem PS.bare{s0:St}{Vs:List AV}{p:aR}(h:PS s0 s Vs p):∀V∈Vs,bR V:=λV hV=>by
 obtain⟨V1,V2,V3,V4,V5,r1,r2,rfl,h1,h2,h3,h4,h5⟩:=h.all;simp only[Za7,Zd0,Zh3]at hV;rcases hV with rfl|rfl|rfl|rfl|rfl
 .exact h1.out.own.bare
 .exact h2.out.own.bare
 .exact h3.own.bare
 .exact h4.own.bare
 .exact h5.own.bare
end
variable{c:ah}
theorem adx(hc:Sem c)(z z2:Bool)(gs:List aQ)(ts:List Ty)(hl:gs.length<=100)(p:Pos)(st:St)(hw:Wf st)(hp:st.heap.get p=some (.cells [bC z gs,cT z2 ts] 0))(F:Nat)(k1 k2):∀(m k:Nat),gs.length<=k+m->k<=gs.length->
  gU c F k1 k2 (m+1) [.ptr p 0,.int .i64 (k:Int)] st=if(gW gs m k).2=0 then k2 [.ptr p 0] st else k1 [.int .i64 (gW gs m k).1,.int .i64 (gW gs m k).2] st:=by
 intro m;induction m with
 |zero=>
  intro k h1 h2;obtain rfl:k=gs.length:=by omega
  rw[ri];simp[gW,hp]
 |succ m ih=>
  intro k h1 h2;rw[ri];by_cases h:k<gs.length
  . have w:au .i64 ((k:Int)+1)=((k+1:Nat):Int):=wrap64 (by omega) (by omega);have hch:=aat hc gs[k] st hw;have qh:k<=gs.length:=(by omega);have hm:min k gs.length=k:=(by omega);have RL:=UF hc (z&&gs.isEmpty) (gs.take k) gs[k].name (by unfold dM;simp;omega) st;rw[show(gs.take k).length=k by simp;omega,aau qh]at RL;simp only[bC,Zk8]at RL;rw[gW,H1 h];simp only;by_cases h3:fC gs[k]=0
    .   have e3:¬fC gs[k]≠0:=(by rw[h3];simp);by_cases h4:0<=scan (iY gs gs[k].name) k 0
        .simp only[e3,h4,Ze1,Zf9];simp[bC,hp,h,qh,hch,h3,h4,RL]
        . by_cases h5:64<=k
          .have h6:(64:Int)<=k:=(by omega);simp only[e3,h4,h5,Ze1,Zf9];simp[bC,hp,h,qh,hch,h3,h4,h6,RL]
          .have h6:¬(64:Int)<=k:=(by omega);simp only[e3,h4,h5,Ze1];rw[<-ih (k+1) (by omega) (by omega)];simp[bC,hp,h,qh,hch,h3,h4,h6,RL,w]
    .   simp[bC,hp,h,hch,h3]
  .obtain rfl:k=gs.length:=(by omega);simp[gW,hp]
theorem ady (hc : Sem c)(z z2:Bool)(gs:List aQ)(ts:List Ty)(hl:gs.length<=100)(kF:ts.length<=100)(p:Pos)(F:Nat)(k1 k4):∀(m k:Nat)(st:St),Wf st->st.heap.get p=some (.cells [bC z gs,cT z2 ts] 0)->ts.length<=k+m->k<=ts.length->
  ∃st',Grew st st'/\gS c F k1 k4 (m+1) [.ptr p 0,.int .i64 (k:Int)] st=if(fQ gs ts m k).2=0 then k4 [] st' else k1 [.int .i64 (fQ gs ts m k).1,.int .i64 (fQ gs ts m k).2] st':=by
 intro m;induction m with
 |zero=>
  intro k st hw hp h1 h2;obtain rfl:k=ts.length:=by omega
  refine⟨st,Grew.refl hw,?_⟩;rw[lD];simp[fQ,hp]
 |succ m ih   =>
  intro k st hw hp h1 h2;by_cases h:k<ts.length
  . have w:au     .i64 ((k:Int)+1)=((k+1:Nat):Int):=wrap64 (by omega) (by omega);have wg:au .i64 ((gs.length:Int)+(k:Int))=(gs.length:Int)+k:=wrap64 (by omega) (by omega);have cw:Wf (af st (.cells ts[k].cells 0)):=bM hw;have hg:=Grew.af hw (.cells ts[k].cells 0);have eG:(af st (.cells ts[k].cells 0)).heap.get p=some (.cells [bC z gs,cT z2 ts] 0):=hg.get hp;have ha:=UF hc z gs ts[k].a (by unfold dM;omega) (af st (.cells ts[k].cells 0));have hb:=UF hc z gs ts[k].b (by unfold dM;omega) (af st (.cells ts[k].cells 0));have V0:¬256<=k:=(by omega);have Mx:¬(256:Int)<=k:=(by omega);obtain⟨st',g1,g2⟩:=ih (k+1) _ cw eG (by omega) (by omega);have Xo:Il ts[k]=true->(ts[k].k=1\/(¬ts[k].k=1/\ts[k].k=2)):=λq=>by
        simp only[Il,Zi0,Zd3]at q;by_cases e:ts[k].k=1
        .exact .inl e
        .exact .inr ⟨e,q.resolve_left e⟩
    have hkf:Il ts[k]=false->(¬ts[k].k=1/\¬ts[k].k=2):=λq=>by simpa [Il]using q
    rw[lD,fQ,H1 h];simp only;by_cases h0:k=0
    .   have hk :¬0<k:=(by omega);have ep:nk ts k=none:=(by simp[nk,h0]);rw[ep];clear h0 ih;simp only[YE,su,Bool.or_false,Zd4,Ze1,V0];cases q1:Il ts[k]
        .obtain⟨f1,f2⟩:=hkf q1;refine⟨_,hg,?_⟩;simp[cT,hp,eG,h,wg,f1,f2]
        . have f:=Xo q1;cases q2:aD ts[k].a ts[k].b
          .refine⟨_,hg,?_⟩;rcases f with f|⟨f,f2⟩<;>simp[cT,hp,eG,h,wg,q2, *]
          . cases q3:lf gs ts[k]
            .have q4:=q3;simp only[lf,Zm4,Zh7]at q4;obtain⟨n1,n2⟩:=q4;refine⟨st',hg.trans g1,?_⟩;simp only[q1,q2,Zb9,Bool.or_false,Zd4,Ze1];rw[<-g2];rcases f with f|⟨f,f2⟩<;>simp[cT,hp,eG,h,wg,q2,ha,hb,n1,n2,hk,Mx,w, *]
            . refine⟨_,hg,?_⟩;by_cases n1:scan (iY gs ts[k].a) gs.length 0<0
              .rcases f with f|⟨f,f2⟩<;>simp[cT,hp,eG,h,wg,q2,ha,hb,n1,hk,Mx,w, *]
              .have n2:scan (iY gs ts[k].b) gs.length 0<0:=(by simpa [lf,n1]using q3);rcases f with f|⟨f,f2⟩<;>simp[cT,hp,eG,h,wg,q2,ha,hb,n1,n2,hk,Mx,w, *]
    .   have hk : 0<k:=(by omega);have qy:k - 1<ts.length:=(by omega);have wk:au .i64 ((k:Int) - 1)=((k - 1:Nat):Int):=(by rw[wrap64 (by omega) (by omega)];omega);have ep:nk ts k=some ts[k - 1]:=(by rw[nk,Za2 h0,H1 qy]);have b1:=Xk hc ts[k] ts[k - 1] (af st (.cells ts[k].cells 0)) cw;have b2:=Xk hc ts[k - 1] ts[k] (af st (.cells ts[k].cells 0)) cw;rw[ep];clear ih;simp only[YE,su,V0,Ze1];cases q1:Il ts[k]
        .obtain⟨f1,f2⟩:=hkf q1;refine⟨_,hg,?_⟩;simp[cT,hp,eG,h,wg,f1,f2]
        . have f:=Xo q1;cases q2:aD ts[k].a ts[k].b
          .refine⟨_,hg,?_⟩;rcases f with f|⟨f,f2⟩<;>simp[cT,hp,eG,h,wg,q2, *]
          . cases q5:fy ts[k] ts[k - 1]
            . cases q3:lf gs ts[k]
              . have q4:=q3;simp only[lf,Zm4,Zh7]at q4;obtain⟨n1,n2⟩:=q4;cases q6:fy ts[k - 1] ts[k]
                .refine⟨_,hg,?_⟩;rcases f with f|⟨f,f2⟩<;>simp[cT,hp,eG,h,wg,q2,ha,hb,n1,n2,hk,qy,wk,b1,b2,Mx,w, *]
                .refine⟨st',hg.trans g1,?_⟩;simp only[q1,q2,q5,Zb9,Zd4,Ze1,Bool.or_false];rw[<-g2];rcases f with f|⟨f,f2⟩<;>simp[cT,hp,eG,h,wg,q2,ha,hb,n1,n2,hk,qy,wk,b1,b2,Mx,w, *]
              . refine⟨_,hg,?_⟩;by_cases n1:scan (iY gs ts[k].a) gs.length 0<0
                .rcases f with f|⟨f,f2⟩<;>simp[cT,hp,eG,h,wg,q2,ha,hb,n1,hk,qy,wk,b1,b2,Mx,w, *]
                .have n2:scan (iY gs ts[k].b) gs.length 0<0:=(by simpa [lf,n1]using q3);rcases f with f|⟨f,f2⟩<;>simp[cT,hp,eG,h,wg,q2,ha,hb,n1,n2,hk,qy,wk,b1,b2,Mx,w, *]
            .refine⟨_,hg,?_⟩;rcases f with f|⟨f,f2⟩<;>simp[cT,hp,eG,h,wg,q2,hk,qy,wk,b1,b2, *]
  .obtain rfl:k=ts.length:=(by omega);refine⟨st,Grew.refl hw,?_⟩;rw[lD];simp[fQ,hp]
theorem adz(hc:Sem c)(z z2:Bool)(gs:List aQ)(ts:List Ty)(hl:gs.length<=100)(kF:ts.length<=100)(st:St)(hw:Wf st):c 233 [.agg [bC z gs,cT z2 ts]] st=some (.tuple [.int .i64 (bV gs ts).1,.int .i64 (bV gs ts).2],st):=by
 have mH:Plain (.tuple [.int .i64 (bV gs ts).1,.int .i64 (bV gs ts).2]):=Plain.tuple (by simp[Plain.int]);have cw:Wf (af st (.cells [bC z gs,cT z2 ts] 0)):=bM hw;have Im:=Grew.af hw (.cells [bC z gs,cT z2 ts] 0);have eG:(af st (.cells [bC z gs,cT z2 ts] 0)).heap.get st.next=some (.cells [bC z gs,cT z2 ts] 0):=aC _ _;have L0:=λk1 k2=>adx hc z z2 gs ts hl st.next _ cw eG 102 k1 k2 101 0 (by omega) (by omega)
 by_cases h:(gW gs 101 0).2=0
 . have e:bV gs ts=fQ gs ts 101 0:=(by rw[bV,Za2 (by simp[h])]);obtain⟨st',g1,g2⟩:=ady hc z z2 gs ts hl kF st.next 102 (λvs aha=>eV vs λx2 vs=>eV vs λx3 vs=>gP vs (some (.tuple [x2,x3],aha))) (λvs ahb=>gP vs (
     ai c .move [(.int .i64 0)] ahb λx2 ahd=>ai c .move [(.int .i64 0)] ahd λx3 ahe=>some (.tuple [x2,x3],ahe))) 101 0 _ cw eG (by omega) (by omega)
   rw[tH hc 102 (r:=(.tuple [.int .i64 (bV gs ts).1,.int .i64 (bV gs ts).2],st')),ak mH (Im.trans g1).keeps];rw[vr,e];simp[h]at L0 g2 ⊢;rw[L0];simp[g2];by_cases h2:(fQ gs ts 101 0).2=0
   .have:=Mn gs ts 101 0 h2;simp[h2,this]
   .simp[h2]
 .have e:bV gs ts=gW gs 101 0:=(by rw[bV,Za4 h]);rw[tH hc 102 (r:=(.tuple [.int .i64 (bV gs ts).1,.int .i64 (bV gs ts).2],af st (.cells [bC z gs,cT z2 ts] 0))),ak mH Im.keeps];rw[vr,e];simp[h]at L0 ⊢;rw[L0];simp
theorem aaO(hc:Sem c)(z z2:Bool)(gs:List aQ)(ts:List Ty)(hl:gs.length<=100)(kF:ts.length<=100)(s:St)(hw:Wf s):c 130 [.agg [bC z gs,cT z2 ts]] s=some (.tuple [.int .i64 (bV gs ts).1,.int .i64 (bV gs ts).2],s):=by
 have Km:Wf (af s (.cells [bC z gs,cT z2 ts] 0)):=bM hw;obtain⟨v,s',h1,h2,_⟩:=V6 hc z z2 gs ts hl kF _ Km;have Y8:cut [bC z gs,cT z2 ts] 0 2=some [bC z gs,cT z2 ts]:=bJ rfl;rw[NQ hc 1 (r:=(.tuple [.int .i64 (bV gs ts).1,.int .i64 (bV gs ts).2],s')),ak (Plain.tuple (by simp[Plain.int])) ((bK hw).trans h2)];rw[QO];simp[Y8,h1]
theorem aci(hc:Sem c){p:aR}(hp:p.ic):PG c p:=⟨λst hw=>aaO hc p.gz p.yz p.gs p.ys hp.gs hp.ys st hw,λst hw=>adz hc p.gz p.yz p.gs p.ys hp.gs hp.ys st hw⟩
end
end Go.Proofs.YtgjikjcfjddloaaGreatDoor
section
end
namespace Go.Proofs.YtgjikjcfjddloaaGreatDoor
section
set_option linter.unusedSimpArgs false
open Go Go.Ai Go.Proofs
variable{c:ah}
def dl(cs:List AV)(n i:Nat):List AV:=aL (aL cs i ((cs.drop (i+1)).take (n - 1 - i))) (n - 1) [.int .i64 0]
section
variable{s:St}{b:Pos}{cs:List AV}{n i cp:Nat}
end
end
noncomputable section
open Go Go.Ai Go.Proofs
def iU(f:FuncId):List AV->St->Option (AV×St):=LJ (run yV gg) f 4
def Hx:ff:=Ar [(329,N5),(18,QE),(45,iU 45),(59,iU 59),(49,iU 49),(96,iU 96),(88,iU 88),(69,iU 69),(72,iU 72),(76,iU 76),(103,iU 103),(105,iU 105),(114,iU 114),(112,iU 112),(111,iU 111),(164,KQ),(65,iU 65),(128,iU 128),(292,idxS),(296,YL)]
def bB(c:ah):Prop:=c=run Hx gg
theorem bB.o0{c:ah}(hc:bB c)(F:Nat){f:FuncId}{args:List AV}{st:St}{r:AV×St}(s:Sh)(hk:(wP (Hx f)&& !wP (gg.get (key f))&&(fe (gA f).code s).isEmpty)=true)
  {k:O2} (hd:DO c F (Yw []) (gA f) s args st=k) (h:k=some r):c f args st=some (tidy st r):=by
 subst hc;exact ab3 s hk hd h
theorem bB.o1{c:ah}(hc:bB c)(F:Nat){f:FuncId}{args:List AV}{st:St}{r:AV×St}(Ls:Un->List Q2->Nat->Q2)(s:Sh)(hk:(wP (Hx f)&& !wP (gg.get (key f))&&Nat.beq (fe (gA f).code s).length 1)=true)
  (hs:(Vn (gj (gA f) s 0).2&&Nat.beq (lpJ (gj (gA f) s 0).2) 0)=true) (h0:∀K' vs st,o7 Ls (gA f) s 0 K' 0 vs st=none)
  (h1:∀K' n vs st,o7 Ls (gA f) s 0 K' (n+1) vs st=JT (den c F (o7 Ls (gA f) s) (gj (gA f) s 0).1 (lpB (gj (gA f) s 0).2)) (lpI (gj (gA f) s 0).2) (lpO (gj (gA f) s 0).2) K' (o7 Ls (gA f) s 0 K' n) vs st)
  {k:O2} (hd:DO c F (o7 Ls (gA f) s) (gA f) s args st=k) (h:k=some r):c f args st=some (tidy st r):=by
 subst hc;exact ab4 Ls s hk hs h0 h1 hd h
theorem bB.oL{c:ah}(hc:bB c)(F:Nat){f:FuncId}{args:List AV}{st:St}{r:AV×St}(Ls:Un->List Q2->Nat->Q2)(s:Sh)(n:Nat)(hk:(wP (Hx f)&& !wP (gg.get (key f))&&Nat.beq (fe (gA f).code s).length n)=true)
  (hL:∀i,i<n->AN c F (o7 Ls (gA f) s) (gj (gA f) s i).1 (gj (gA f) s i).2) {k:O2} (hd:DO c F (o7 Ls (gA f) s) (gA f) s args st=k) (h:k=some r):c f args st=some (tidy st r):=by
 subst hc;exact Vx Ls s n hk hL hd h
theorem bB.at{c:ah}(hc:bB c){f:FuncId}{s:List AV->St->Option (AV×St)}{args:List AV}{st:St}{r:AV×St}(ho:Hx f=some s)(h:s args st=some r):c f args st=some r:=by subst hc;exact T7 ho h
section
variable{c:ah}{s0 s:St}{Vs:List AV}{p:aR}
theorem ai7(hc:bB c)(v:AV)(s:St):c 164 [v] s=some (v,s):=hc.at (s:=KQ) rfl rfl
theorem ai8(hc:bB c)(args:List AV)(s:St)(r:AV×St)(h:iU 65 args s=some r):c 65 args s=some r:=hc.at (s:=iU 65) rfl h
theorem acj(hc:bB c)(args:List AV)(s:St)(r:AV×St)(h:iU 128 args s=some r):c 128 args s=some r:=hc.at (s:=iU 128) rfl h
theorem ai9(hc:bB c)(a:List Nat)(b:Int)(s:St):c 292 [.str a,.int .u8 b] s=some (.int .i64 (Lib.indexByte (a.map UInt8.ofNat) b.toNat.toUInt8),s):=hc.at (s:=idxS) rfl rfl
theorem aja(hc:bB c)(a:List Nat)(b:Int)(s:St):c 296 [.str a,.int .u8 b] s=some (.int .i64 (Lib.countByte (a.map UInt8.ofNat) b.toNat.toUInt8),s):=hc.at (s:=YL) rfl rfl
theorem ae8(hc:bB c)(s:St):c 18 [] s=some (.bool true,s):=hc.at (s:=QE) rfl rfl
theorem PO(hc:bB c)(h:PS s0 s Vs p)(hp:p.ic)(hr:∀r∈p.rs,r.Ok):c 45 [.agg Vs] s=some (.tuple [.int .i64 (bI p).1,.int .i64 (bI p).2],s):=by
 obtain⟨p',e,S⟩:=h.dJ 1;refine hc.at (s:=iU 45) rfl (iG ?_ (bR.tuple (by intro v hv;simp at hv;rcases hv with rfl|rfl<;>exact bR.int _ _)));rw[Zb4,Ze0,e, <-S.check];exact Yc rfl p' (S.Nz hp) (aci rfl (S.Nz hp)) (by rw[S.rs];exact hr) (emptyAt s) (gQ s)
theorem PS.tabs(h:PS s0 s Vs p):∃V1 z p',Vs[0]? =some V1/\Go.Ai.dJ s 4 V1=Go.Proofs.YtgjikjcfjddloaaGreatDoor.tabs z p'.ts/\p.dG p':=by
 obtain⟨V1,V2,V3,V4,V5,r1,r2,rfl,h1,h2,h3,h4,h5⟩:=h.all;obtain⟨z,yd,e,l,k⟩:=h1.dJ 2;exact⟨V1,z,{ p with ts:=yd },rfl,e,⟨l,k,rfl,λi t t' a b=>by rw[a]at b;cases b;exact⟨t.tz,rfl⟩,rfl,rfl,rfl⟩⟩
theorem Xv(hc:bB c)(h:PS s0 s Vs p)(cQ:∀t∈p.ts,t.Ok)(hv:(bA p.ts).2=0){V1:AV}(e1:Vs[0]? =some V1):c 59 [V1] s=some (.int .i64 (aO p.ts),s):=by
 obtain⟨V,z,p',e,ez,S⟩:=h.tabs;rw[e1]at e;cases e;refine hc.at (s:=iU 59) rfl (iG ?_ (bR.int _ _));rw[Zb4,Ze0,ez];have:=CJ (c:=run yV gg) rfl z p'.ts (λt ht=>by obtain⟨u,hu,z,rfl⟩:=S.tab ht;have:=cQ u hu;exact⟨this.1,this.2⟩) (emptyAt s) (gQ s);rw[this,S.rj,Za4 hv,S.sum]
theorem ae9(hc:bB c)(h:PS s0 s Vs p)(cQ:∀t∈p.ts,t.Ok)(hv:(bA p.ts).2=0){V1:AV}(e1:Vs[0]? =some V1){k:Nat}(hk:k<p.ts.length):c 49 [V1,.int .i64 (k:Int)] s=some (.int .i64 (aO (p.ts.take k)),s):=by
 obtain⟨V,z,p',e,ez,S⟩:=h.tabs;rw[e1]at e;cases e;refine hc.at (s:=iU 49) rfl (iG ?_ (bR.int _ _));rw[Zb4,Zb4,Ze0,ez,tU];have:=aao (c:=run yV gg) rfl z p'.ts (λt ht=>by obtain⟨u,hu,z,rfl⟩:=S.tab ht;have:=cQ u hu;exact⟨this.1,this.2⟩) k (emptyAt s) (gQ s);rw[this];unfold yR;rw[S.tl,S.rj,Za2 (by omega)];have e:∀l:List aG,aO l=(l.map bh).sum:=λ_=>rfl
 rw[e,e,Zk8,Zk8,Zj1];have:p'.ts.map bh=p.ts.map bh:=Zi4 λi=>by rw[Zb5,Zb5];exact CL S.tl S.ts bh (λt t' h=>KA h) i
 rw[this]
theorem ack{t:aG}{v:AV}(hM:Mk 1 s0 s v (t.cY.map cq)):∃t':aG,dJ s 4 (.agg (t.ay v))= .agg t'.cells/\t.dG t':=by
 obtain⟨z,hz⟩:=SY hM 2;refine⟨{ t with oz:=z },?_,⟨z,rfl⟩⟩;rw[JY];simp only[aG.ay,aG.cells,Zb4,Ze0,z7,tU,hz]
theorem adA(hc:bB c){t:aG}{v:AV}(hM:Mk 1 s0 s v (t.cY.map cq))(cQ:t.Ok):c 96 [.agg (t.ay v)] s=some (.int .i64 (lF t),s):=by
 obtain⟨t',e,S⟩:=ack hM;refine hc.at (s:=iU 96) rfl (iG ?_ (bR.int _ _));rw[Zb4,Ze0,e,aal (c:=run yV gg) rfl t' (by obtain⟨z,rfl⟩:=S;exact⟨cQ.1,cQ.2⟩) (emptyAt s) (gQ s),aaN S]
theorem afa(hc:bB c){t:aG}{v:AV}(hM:Mk 1 s0 s v (t.cY.map cq)):c 88 [.agg (t.ay v)] s=some (.int .i64 (bh t),s):=by
 obtain⟨t',e,S⟩:=ack hM;refine hc.at (s:=iU 88) rfl (iG ?_ (bR.int _ _));rw[Zb4,Ze0,e,Kj (c:=run yV gg) rfl t' (emptyAt s) (gQ s),KA S]
end
end
noncomputable section
open Go Go.Ai Go.Proofs
attribute [local go_sem ↓] aT jK ev JZ uD getLT oO AX FX nB nC zb tr tu tA oc od oe oh om oq tB tC ot ou ov ow oA yO yP yQ
attribute [local go_sem] aT jK ev
section
variable(c:ah)(F:Nat)(x0 x1 x2 x3 x4 x5 x6 x7 x8 x9 pY qo:AV)(s:St)
def pP:Sh:=(sq sl (sq (sq sl (sc (sq sl sl) sl)) (sq (sq sl (sb (sp 0 [0,1,12,13] [(1,[4]),(2,[])] (sq sl (sq (sc sl sl) (sq (sb (sq sl (sq sl (sc (sq sl sl) sl)))) sl)))))) (sq sl sl))))
def yC:PX 16 pP:=⟨_,by conv=>lhs;reduce⟩
def xj:PL 16 pP 0:=⟨_,by conv=>lhs;reduce⟩
def iM(k1 k2:Q2):Nat->Q2
 |0,_,_=>none
 |n+1,vs,s=>eg c F bf (iM k1 k2 n) [k1,k2] xj.1 vs s
def mj(k1 k2:Q2)(n:Nat)(vs:List AV)(s:St):=(by dsimp only[iM,xj,go_sem,Int.reduceOfNat]:iM c F k1 k2 (n+1) vs s=_)
def pQ:Un->List Q2->Nat->Q2
 |.z,[k1,k2]=>iM c F k1 k2
 |_,_=>λ_=>eO
def sK:O2:=aT c F (pQ c F) yC.1 [x0,x1] s
def Jp:=(by dsimp only[sK,yC, ↓pQ,go_sem,Int.reduceOfNat]:sK c F x0 x1 s=_)
def yD:Sh:=(sq sl (sq (sq sl (sc (sq sl sl) sl)) (sq sl sl)))
def yE:PX 20 yD:=⟨_,by conv=>lhs;reduce⟩
def sL:O2:=aT c F bf yE.1 [x0] s
def yF:=(by dsimp only[sL,yE,go_sem,Int.reduceOfNat]:sL c F x0 s=_)
def GJ:Sh:=(sq sl (sq sl sl))
def GK:PX 22 GJ:=⟨_,by conv=>lhs;reduce⟩
def CM:O2:=aT c F bf GK.1 [x0,x1] s
def GL:=(by dsimp only[CM,GK,go_sem,Int.reduceOfNat]:CM c F x0 x1 s=_)
def PR:Sh:=(sq sl (sq sl (sq sl sl)))
def PT:PX 53 PR:=⟨_,by conv=>lhs;reduce⟩
def MB:O2:=aT c F bf PT.1 [x0,x1] s
def PU:=(by dsimp only[MB,PT,go_sem,Int.reduceOfNat]:MB c F x0 x1 s=_)
def KB:Sh:=(sq sl (sq (sq sl (sq sl (sc (sq sl sl) sl))) (sq sl sl)))
def KC:PX 57 KB:=⟨_,by conv=>lhs;reduce⟩
def GM:O2:=aT c F bf KC.1 [x0,x1,x2] s
def CN:=(by dsimp only[GM,KC,go_sem,Int.reduceOfNat]:GM c F x0 x1 x2 s=_)
def uO:Sh:=(sq sl (sq sl sl))
def uP:PX 60 uO:=⟨_,by conv=>lhs;reduce⟩
def nV:O2:=aT c F bf uP.1 [x0,x1] s
def Fb:=(by dsimp only[nV,uP,go_sem,Int.reduceOfNat]:nV c F x0 x1 s=_)
def pR:Sh:=(sq sl (sq (sq sl (sb (sp 0 [0,1,7,8] [(1,[4]),(2,[])] (sq sl (sq (sc sl sl) (sq (sb (sq sl (sq sl (sc (sq sl sl) sl)))) sl)))))) (sq sl sl)))
def yG:PX 62 pR:=⟨_,by conv=>lhs;reduce⟩
def xk:PL 62 pR 0:=⟨_,by conv=>lhs;reduce⟩
def iN(k1 k2:Q2):Nat->Q2
 |0,_,_=>none
 |n+1,vs,s=>eg c F bf (iN k1 k2 n) [k1,k2] xk.1 vs s
def mo(k1 k2:Q2)(n:Nat)(vs:List AV)(s:St):=(by dsimp only[iN,xk,go_sem,Int.reduceOfNat,Int.reduceNegSucc]:iN c F k1 k2 (n+1) vs s=_)
def pS:Un->List Q2->Nat->Q2
 |.z,[k1,k2]=>iN c F k1 k2
 |_,_=>λ_=>eO
def sM:O2:=aT c F (pS c F) yG.1 [x0,x1] s
def Jq:=(by dsimp only[sM,yG, ↓pS,go_sem,Int.reduceOfNat,Int.reduceNegSucc]:sM c F x0 x1 s=_)
def PV:Sh:=(sq sl (sq (sq sl (sc (sq sl sl) sl)) (sq sl sl)))
def PW:PX 64 PV:=⟨_,by conv=>lhs;reduce⟩
def MD:O2:=aT c F bf PW.1 [x0] s
def aaP:=(by dsimp only[MD,PW,go_sem,Int.reduceOfNat]:MD c F x0 s=_)
def GN:Sh:=(sq sl (sq (sq sl (sc (sq sl sl) sl)) (sq sl (sq sl (sq (sq sl (sb (sp 0 [2,8,9,23,24,25] [(1,[6,7]),(2,[])] (sq sl (sq (sc sl sl) (sj [2,8,9,23,24,25] (sb (sq sl (sq (sb (sq sl (sc (sq sl sl) (sq sl (sc (sq sl sl) (sq sl (sc (sq sl sl) sl))))))) (sq sl (sc sl sl))))) sl)))))) (sq sl sl))))))
def PY:PX 93 GN:=⟨_,by conv=>lhs;reduce⟩
def NA:PL 93 GN 0:=⟨_,by conv=>lhs;reduce⟩
def oE(k1 k2:Q2):Nat->Q2
 |0,_,_=>none
 |n+1,vs,s=>eg c F bf (oE k1 k2 n) [k1,k2] NA.1 vs s
def fR(k1 k2:Q2)(n:Nat)(vs:List AV)(s:St):=(by dsimp only[oE,NA,go_sem,Int.reduceOfNat,Int.reduceNegSucc]:oE c F k1 k2 (n+1) vs s=_)
def GO:Un->List Q2->Nat->Q2
 |.z,[k1,k2]=>oE c F k1 k2
 |_,_=>λ_=>eO
def ME:O2:=aT c F (GO c F) PY.1 [x0,x1,x2] s
def GP:=(by dsimp only[ME,PY, ↓GO,go_sem,Int.reduceOfNat,Int.reduceNegSucc]:ME c F x0 x1 x2 s=_)
end
section
variable{c:ah}(hc:bB c)(F:Nat){x0 x1 x2 x3 x4 x5 x6 x7 x8 x9 pY qo:AV}{s:St}{r:AV×St}
include hc
theorem GQ(h:sK c F x0 x1 s=some r):c 16 [x0,x1] s=some (tidy s r):=hc.o1 F (pQ c F) pP (by kernel_rfl) (by kernel_rfl) (λ_ _ _=>by kernel_rfl) (λ_ _ _ _=>by kernel_rfl) (by kernel_rfl) h
theorem vO(h:sL c F x0 s=some r):c 20 [x0] s=some (tidy s r):=hc.o0 F yD (by kernel_rfl) (by kernel_rfl) h
theorem DA(h:CM c F x0 x1 s=some r):c 22 [x0,x1] s=some (tidy s r):=hc.o0 F GJ (by kernel_rfl) (by kernel_rfl) h
theorem KD(h:MB c F x0 x1 s=some r):c 53 [x0,x1] s=some (tidy s r):=hc.o0 F PR (by kernel_rfl) (by kernel_rfl) h
theorem zl(h:GM c F x0 x1 x2 s=some r):c 57 [x0,x1,x2] s=some (tidy s r):=hc.o0 F KB (by kernel_rfl) (by kernel_rfl) h
theorem DB(h:nV c F x0 x1 s=some r):c 60 [x0,x1] s=some (tidy s r):=hc.o0 F uO (by kernel_rfl) (by kernel_rfl) h
theorem GR(h:sM c F x0 x1 s=some r):c 62 [x0,x1] s=some (tidy s r):=hc.o1 F (pS c F) pR (by kernel_rfl) (by kernel_rfl) (λ_ _ _=>by kernel_rfl) (λ_ _ _ _=>by kernel_rfl) (by kernel_rfl) h
theorem Wc(h:MD c F x0 s=some r):c 64 [x0] s=some (tidy s r):=hc.o0 F PV (by kernel_rfl) (by kernel_rfl) h
theorem CO(h:ME c F x0 x1 x2 s=some r):c 93 [x0,x1,x2] s=some (tidy s r):=hc.o1 F (GO c F) GN (by kernel_rfl) (by kernel_rfl) (λ_ _ _=>by kernel_rfl) (λ_ _ _ _=>by kernel_rfl) (by kernel_rfl) h
end
end
section
open Go Go.Ai Go.Proofs
variable{c:ah}
def rowM(i:Nat):List AV:=[.int .i64 (i:Int)]
def tabZ:List AV:=[.str [],.int .u8 0,.int .i64 0,.int .i64 0,.av,.int .i64 0,.int .i64 0]
def tabV(nm:List Nat)(sh a b:Int)(x:Nat)(v:AV):List AV:=[.str nm,.int .u8 sh,.int .i64 a,.int .i64 b,v,.int .i64 (x:Int),.int .i64 (255 - (x:Int))]
def opnC(x i:Nat):Bool:=decide (x / 2 ^ i % 2=1)&&decide (0<x % 3)
def opnN(x k:Nat):List Nat:=(List.range k).filter (opnC x)
structure TI(st s:St)(p4 p5:Pos)(nm:List Nat)(sh a b:Int)(x k:Nat)(v:AV):Prop where
 out:Mk 1 st s v ((opnN x k).map rowM)
 h4:s.heap.get p4=some (.cells tabZ 0)
 h5:s.heap.get p5=some (.cells (tabV nm sh a b x v) 0)
 n4:dY v≠some p4
 n5:dY v≠some p5
end
section
open Go Go.Ai Go.Proofs
variable{c:ah}
theorem MF{st s:St}{p:Pos}(h0:Wf st)(h:Grew st s)(hp:st.next.toNat<=p.toNat)(C8:p.toNat<s.next.toNat)(b:AB):Grew st (cR s p b):=
 ⟨JX h.wf C8,λq x hq=>by have:=h0 _ _ hq;rw[cu (λe=>by rw[e]at hp;omega)];exact h.get hq,by rw[y9];exact h.next⟩
end
end Go.Proofs.YtgjikjcfjddloaaGreatDoor
