/- Functions of the program, plainly, and what they answer. -/
import Derived.Test.YtlkadmkojjceiaaGreatDoorKLawA
import Derived.Test.YtlkadmkojjceiaaGreatDoorRows
set_option linter.all false
set_option maxRecDepth 100000
set_option maxHeartbeats 4000000
namespace Go.Proofs.YtlkadmkojjceiaaGreatDoor
section
open Go Go.Ai Go.Proofs
variable{c:ah}
theorem stW{R:Type}(hc:Sem c){p:aR}{r:Rl}{q2 q3:Pos}{s:St}{n:Nat}(hw:Wf s)(hn:n<256)(hk:r.k=(n:Int))(hp:p.iO)(p2:s.heap.get q2=some (.cells p.cells 0))(p3:s.heap.get q3=some (.cells r.cells 0))(K:AV->AV->St->Option R):
  (ai c (.fieldA 0) [(.ptr q3 0)] s λx9 s3=>
   ai c (.load none) [x9] s3 λB5 s4=>
   ai c .move [B5] s4 λx5 s5=>
   ai c .move [x5] s5 λIb s6=>
   ai c (.callF 138) [Ib] s6 λx12 s7=>
   ai c (.bin .eql .num) [x12,(.str [])] s7 λx13 s8=>
   K x5 x13 s8)=K (.int .u8 (n:Int)) (.bool (decide ((kd n).w=[]))) s:=by
 have W:=aaV hc n hn s hw;simp[p3,hk,W]
theorem stWt{R:Type}(hc:Sem c){p:aR}{r:Rl}{q2 q3:Pos}{s:St}{n:Nat}(hw:Wf s)(hn:n<256)(hk:r.k=(n:Int))(hp:p.iO)(p2:s.heap.get q2=some (.cells p.cells 0))(p3:s.heap.get q3=some (.cells r.cells 0))(K:AV->St->Option R):
   (ai c (.fieldA 1) [(.ptr q3 0)] s λx14 s10=>
    ai c (.load none) [x14] s10 λx15 s11=>
    ai c (.bin .lss .num) [x15,(.int .i64 0)] s11 λx16 s12=>
    ai c .move [x16] s12 λx17 s13=>
    bh c x17 false (.fieldA 1) [(.ptr q3 0)] s13 λEe s14=>
    bh c x17 false (.load none) [Ee] s14 λx19 s15=>
    bh c x17 false (.bin .gtr .num) [x19,(.int .i64 1000)] s15 λx20 Ef=>
    ai c .pick [x17,(.bool true),x20] Ef λx21 Eg=>
    K x21 Eg)=K (.bool (decide (r.wt<0\/1000<r.wt))) s:=by
 by_cases h1:r.wt<0
 .simp[p3,h1]
 .simp[p3,h1]
theorem stP1{R:Type}(hc:Sem c){p:aR}{r:Rl}{q2 q3:Pos}{s:St}{n:Nat}(hw:Wf s)(hn:n<256)(hk:r.k=(n:Int))(hp:p.iO)(p2:s.heap.get q2=some (.cells p.cells 0))(p3:s.heap.get q3=some (.cells r.cells 0))(K:AV->St->Option R):
   (ai c (.fieldA 2) [(.ptr q3 0)] s λx22 Eh=>
    ai c (.load none) [x22] Eh λx23 Ei=>
    ai c (.bin .neq .num) [x23,(.str [])] Ei λx24 s21=>
    ai c .move [x24] s21 λx25 s22=>
    bh c x25 true .move [(.int .u8 (n:Int))] s22 λx26 s23=>
    bh c x25 true (.callF 139) [x26] s23 λx27 s24=>
    bh c x25 true (.un .not) [x27] s24 λx28 s25=>
    ai c .pick [x25,x28,(.bool false)] s25 λXv s26=>
    ai c .move [Xv] s26 λKf s27=>
    bh c Kf true .move [(.int .u8 (n:Int))] s27 λXx s28=>
    bh c Kf true (.callF 140) [Xx] s28 λXy s29=>
    bh c Kf true (.un .not) [Xy] s29 λx33 Xt=>
    ai c .pick [Kf,x33,(.bool false)] Xt λx34 Xu=>
    ai c .move [x34] Xu λx35 Xw=>
    bh c x35 true .move [(.int .u8 (n:Int))] Xw λx36 R1=>
    bh c x35 true (.bin .neq .num) [x36,(.int .u8 17)] R1 λx37 R2=>
    ai c .pick [x35,x37,(.bool false)] R2 λx38 R3=>
    K x38 R3)=K (.bool (decide (r.a≠[])&& !ji n&& !sk n&&decide (n≠17))) s:=by
 have T1:=Ed hc (n:Int) s;have T2:=XE hc (n:Int) s;by_cases h:r.a=[]
 .simp[p3,h]
 . cases h1:ji (n:Int)with
   |true=>simp[p3,h,T1,h1]
   |false=>
    cases h2:sk (n:Int)with
    |true=>simp[p3,h,T1,T2,h1,h2]
    |   false=>
        have e:decide ((n:Int)=17)=decide (n=17):=(by by_cases hh:n=17<;>simp[hh];omega);simp[p3,h,T1,T2,h1,h2,e]
theorem stP2{R:Type}(hc:Sem c){p:aR}{r:Rl}{q2 q3:Pos}{s:St}{n:Nat}(hw:Wf s)(hn:n<256)(hk:r.k=(n:Int))(hp:p.iO)(p2:s.heap.get q2=some (.cells p.cells 0))(p3:s.heap.get q3=some (.cells r.cells 0))(b:Bool)(K:AV->St->Option R):
  (ai c .move [(.bool b)] s λUz s36=>
    bh c Uz false (.fieldA 3) [(.ptr q3 0)] s36 λx40 s37=>
    bh c Uz false (.load none) [x40] s37 λx41 s38=>
    bh c Uz false (.bin .neq .num) [x41,(.str [])] s38 λx42 s39=>
    bh c Uz false .move [x42] s39 λx43 s40=>
    bh c x43 true .move [(.int .u8 (n:Int))] s40 λx44 s41=>
    bh c x43 true (.callF 139) [x44] s41 λx45 s42=>
    bh c x43 true (.un .not) [x45] s42 λx46 s43=>
    bh c Uz false .pick [x43,x46,(.bool false)] s43 λx47 s44=>
    ai c .pick [Uz,(.bool true),x47] s44 λx48 s45=>
    K x48 s45)=K (.bool (b||(decide (r.b≠[])&& !ji n))) s:=by
 have T1:=Ed hc (n:Int) s;cases b with
 |true=>simp
 |false=>
  by_cases h:r.b=[]
  .simp[p3,h]
  .simp[p3,h,T1]
theorem stP3{R:Type}(hc:Sem c){p:aR}{r:Rl}{q2 q3:Pos}{s:St}{n:Nat}(hw:Wf s)(hn:n<256)(hk:r.k=(n:Int))(hp:p.iO)(p2:s.heap.get q2=some (.cells p.cells 0))(p3:s.heap.get q3=some (.cells r.cells 0))(b:Bool)(K:AV->St->Option R):
  (ai c .move [(.bool b)] s λUA s46=>
    bh c UA false (.fieldA 4) [(.ptr q3 0)] s46 λx50 s47=>
    bh c UA false (.load none) [x50] s47 λx51 s48=>
    bh c UA false (.bin .neq .num) [x51,(.str [])] s48 λx52 s49=>
    bh c UA false .move [x52] s49 λx53 s50=>
    bh c x53 true .move [(.int .u8 (n:Int))] s50 λx54 s51=>
    bh c x53 true (.callF 141) [x54] s51 λx55 s52=>
    bh c x53 true (.bin .eql .num) [x55,(.int .i64 0)] s52 λx56 s53=>
    bh c UA false .pick [x53,x56,(.bool false)] s53 λx57 s54=>
    ai c .pick [UA,(.bool true),x57] s54 λx58 s55=>
    K x58 s55)=K (.bool (b||(decide (r.t≠[])&&decide (oa n=0)))) s:=by
 have T1:=O7 hc (n:Int) s;cases b with
 |true=>simp
 |false=>
  by_cases h:r.t=[]
  .simp[p3,h]
  .simp[p3,h,T1]
theorem stP4{R:Type}(hc:Sem c){p:aR}{r:Rl}{q2 q3:Pos}{s:St}{n:Nat}(hw:Wf s)(hn:n<256)(hk:r.k=(n:Int))(hp:p.iO)(p2:s.heap.get q2=some (.cells p.cells 0))(p3:s.heap.get q3=some (.cells r.cells 0))(b:Bool)(K:AV->St->Option R):
  (ai c .move [(.bool b)] s λUB s56=>
    bh c UB false (.fieldA 5) [(.ptr q3 0)] s56 λx60 s57=>
    bh c UB false (.load none) [x60] s57 λx61 s58=>
    bh c UB false (.bin .neq .num) [x61,(.int .i64 0)] s58 λx62 s59=>
    bh c UB false .move [x62] s59 λx63 s60=>
    bh c x63 true .move [(.int .u8 (n:Int))] s60 λx64 s61=>
    bh c x63 true (.callF 142) [x64] s61 λx65 s62=>
    bh c x63 true (.un .not) [x65] s62 λx66 s63=>
    bh c UB false .pick [x63,x66,(.bool false)] s63 λx67 s64=>
    ai c .pick [UB,(.bool true),x67] s64 λx68 s65=>
    K x68 s65)=K (.bool (b||(decide (r.n≠0)&& !IV n))) s:=by
 have T1:=O6 hc (n:Int) s;cases b with
 |true=>simp
 |false=>
  by_cases h:r.n=0
  .simp[p3,h]
  .simp[p3,h,T1]
theorem stA{R:Type}(hc:Sem c){p:aR}{r:Rl}{q2 q3:Pos}{s:St}{n:Nat}(hw:Wf s)(hn:n<256)(hk:r.k=(n:Int))(hp:p.iO)(p2:s.heap.get q2=some (.cells p.cells 0))(p3:s.heap.get q3=some (.cells r.cells 0))(K:AV->St->Option R):
  (ai c .move [(.int .u8 (n:Int))] s λx69 s67=>
    ai c (.callF 139) [x69] s67 λx70 s68=>
    ai c .move [x70] s68 λx71 s69=>
    bh c x71 false .move [(.int .u8 (n:Int))] s69 λx72 s70=>
    bh c x71 false (.callF 140) [x72] s70 λx73 s71=>
    ai c .pick [x71,(.bool true),x73] s71 λSm s72=>
    ai c .move [Sm] s72 λUC s73=>
    bh c UC true .move [(.int .u8 (n:Int))] s73 λx76 s74=>
    bh c UC true (.bin .eql .num) [x76,(.int .u8 10)] s74 λx77 s75=>
    bh c UC true .move [x77] s75 λx78 s76=>
    bh c x78 true (.fieldA 2) [(.ptr q3 0)] s76 λx79 s77=>
    bh c x78 true (.load none) [x79] s77 λx80 s78=>
    bh c x78 true (.bin .eql .num) [x80,(.str [])] s78 λx81 s79=>
    bh c UC true .pick [x78,x81,(.bool false)] s79 λx82 Sk=>
    bh c UC true (.un .not) [x82] Sk λx83 Sl=>
    ai c .pick [UC,x83,(.bool false)] Sl λx84 Sn=>
    ai c .move [x84] Sn λSx So=>
    bh c Sx true (.fieldA 1) [(.ptr q2 0)] So λx86 Sp=>
    bh c Sx true (.load none) [x86] Sp λx87 Sq=>
    bh c Sx true (.fieldA 2) [(.ptr q3 0)] Sq λx88 s86=>
    bh c Sx true (.load none) [x88] s86 λx89 s87=>
    bh c Sx true (.callF 143) [x87,x89] s87 λx90 s88=>
    bh c Sx true (.bin .lss .num) [x90,(.int .i64 0)] s88 λx91 s89=>
    ai c .pick [Sx,x91,(.bool false)] s89 λx92 s90=>
    K x92 s90)=K (.bool ((ji n||sk n)&& !(decide (n=10)&&decide (r.a=[]))&&decide (gi p r.a<0))) s:=by
 have T1:=Ed hc (n:Int) s;have T2:=XE hc (n:Int) s;have A:c 143 [aX p.gz p.gs,.str r.a] s=some (.int .i64 (gi p r.a),s):=MI hc p.gz p.gs r.a (by have:=hp.gs;unfold cw;omega) s;have e:((n:Int)=10)=(n=10):=by apply propext;omega
 cases h1:ji (n:Int)with
 |true=>
  by_cases h3:n=10
  . by_cases h4:r.a=[]
    .   simp[p2,p3,T1,h1,h3,h4]
        try simp_all
    .   simp[p2,p3,T1,h1,h3,h4,A]
        try simp_all
  .simp[p2,p3,T1,h1,e,h3,A]
 |false   =>
  cases h2:sk (n:Int)with
  | true=>
    by_cases h3:n=10
    .   by_cases h4:r.a=[]
        . simp[p2,p3,T1,T2,h1,h2,h3,h4]
          try simp_all
        . simp[p2,p3,T1,T2,h1,h2,h3,h4,A]
          try simp_all
    .   simp[p2,p3,T1,T2,h1,h2,e,h3,A]
  |false=>simp[p2,p3,T1,T2,h1,h2]
theorem stB{R:Type}(hc:Sem c){p:aR}{r:Rl}{q2 q3:Pos}{s:St}{n:Nat}(hw:Wf s)(hn:n<256)(hk:r.k=(n:Int))(hp:p.iO)(p2:s.heap.get q2=some (.cells p.cells 0))(p3:s.heap.get q3=some (.cells r.cells 0))(K:AV->St->Option R):
  (ai c .move [(.int .u8 (n:Int))] s λx93 s92=>
   ai c (.callF 139) [x93] s92 λx94 s93=>
   ai c .move [x94] s93 λSy s94=>
   bh c Sy true (.fieldA 1) [(.ptr q2 0)] s94 λx96 s95=>
   bh c Sy true (.load none) [x96] s95 λx97 s96=>
   bh c Sy true (.fieldA 3) [(.ptr q3 0)] s96 λx98 s97=>
   bh c Sy true (.load none) [x98] s97 λx99 s98=>
   bh c Sy true (.callF 143) [x97,x99] s98 λx100 s99=>
   bh c Sy true (.bin .lss .num) [x100,(.int .i64 0)] s99 λx101 s100=>
   ai c .pick [Sy,x101,(.bool false)] s100 λx102 s101=>
   K x102 s101)=K (.bool (ji n&&decide (gi p r.b<0))) s:=by
 have T1:=Ed hc (n:Int) s;have A:c 143 [aX p.gz p.gs,.str r.b] s=some (.int .i64 (gi p r.b),s):=MI hc p.gz p.gs r.b (by have:=hp.gs;unfold cw;omega) s;cases h1:ji (n:Int)<;>simp[p2,p3,T1,h1,A]
theorem stN{R:Type}(hc:Sem c){p:aR}{r:Rl}{q2 q3:Pos}{s:St}{n:Nat}(hw:Wf s)(hn:n<256)(hk:r.k=(n:Int))(hp:p.iO)(p2:s.heap.get q2=some (.cells p.cells 0))(p3:s.heap.get q3=some (.cells r.cells 0))(K:AV->St->Option R):
   (ai c .move [(.int .u8 (n:Int))] s λx103 s103=>
    ai c (.bin .eql .num) [x103,(.int .u8 17)] s103 λx104 s104=>
    ai c .move [x104] s104 λSz s105=>
    bh c Sz true (.fieldA 2) [(.ptr q3 0)] s105 λx106 s106=>
    bh c Sz true (.load none) [x106] s106 λx107 s107=>
    bh c Sz true (.callF 144) [x107] s107 λx108 s108=>
    bh c Sz true (.un .not) [x108] s108 λx109 s109=>
    ai c .pick [Sz,x109,(.bool false)] s109 λx110 s110=>
    K x110 s110)=K (.bool (decide (n=17)&& !dP r.a)) s:=by
 have A:=zO hc r.a s;have e:((n:Int)=17)=(n=17):=by apply propext;omega
 by_cases h1:n=17
 .simp[p3,e,h1,A]
 .simp[p3,e,h1]
theorem stD{R:Type}(hc:Sem c){p:aR}{r:Rl}{q2 q3:Pos}{s:St}{n:Nat}(hw:Wf s)(hn:n<256)(hk:r.k=(n:Int))(hp:p.iO)(p2:s.heap.get q2=some (.cells p.cells 0))(p3:s.heap.get q3=some (.cells r.cells 0))(K:AV->St->Option R):
  (ai c .move [(.int .u8 (n:Int))] s λx111 s112=>
   ai c (.callF 139) [x111] s112 λx112 s113=>
   ai c .move [x112] s113 λNT s114=>
   bh c NT true (.fieldA 2) [(.ptr q3 0)] s114 λx114 s115=>
   bh c NT true (.load none) [x114] s115 λx115 s116=>
   bh c NT true (.fieldA 3) [(.ptr q3 0)] s116 λx116 s117=>
   bh c NT true (.load none) [x116] s117 λx117 s118=>
   bh c NT true (.bin .eql .num) [x115,x117] s118 λx118 s119=>
   ai c .pick [NT,x118,(.bool false)] s119 λx119 s120=>
   K x119 s120)=K (.bool (ji n&&decide (r.a=r.b))) s:=by
 have T1:=Ed hc (n:Int) s;cases h1:ji (n:Int)<;>simp[p3,T1,h1]
theorem stT{R:Type}(hc:Sem c){p:aR}{r:Rl}{q2 q3:Pos}{s:St}{n:Nat}(hw:Wf s)(hn:n<256)(hk:r.k=(n:Int))(hp:p.iO)(p2:s.heap.get q2=some (.cells p.cells 0))(p3:s.heap.get q3=some (.cells r.cells 0))(K:AV->AV->St->Option R):
   (ai c (.fieldA 0) [(.ptr q2 0)] s λx120 s122=>
     ai c (.load none) [x120] s122 λx121 s123=>
     ai c (.fieldA 4) [(.ptr q3 0)] s123 λx122 s124=>
     ai c (.load none) [x122] s124 λx123 s125=>
     ai c (.callF 145) [x121,x123] s125 λx124 s126=>
     ai c .move [x124] s126 λx6 s127=>
     ai c .move [(.int .u8 (n:Int))] s127 λx125 s128=>
     ai c (.callF 141) [x125] s128 λx126 s129=>
     ai c (.bin .eql .num) [x126,(.int .i64 1)] s129 λx127 s130=>
     ai c .move [x127] s130 λZr s131=>
     bh c Zr true .move [x6] s131 λx129 s132=>
     bh c Zr true (.bin .lss .num) [x129,(.int .i64 0)] s132 λx130 s133=>
     ai c .pick [Zr,x130,(.bool false)] s133 λx131 s134=>
     ai c .move [x131] s134 λIW s135=>
     bh c IW false .move [(.int .u8 (n:Int))] s135 λx133 s136=>
     bh c IW false (.callF 141) [x133] s136 λx134 s137=>
     bh c IW false (.bin .eql .num) [x134,(.int .i64 2)] s137 λx135 s138=>
     bh c IW false .move [x135] s138 λVI s139=>
     bh c VI true (.fieldA 4) [(.ptr q3 0)] s139 λx137 s140=>
     bh c VI true (.load none) [x137] s140 λx138 s141=>
     bh c VI true (.bin .neq .num) [x138,(.str [])] s141 λx139 Zs=>
     bh c IW false .pick [VI,x139,(.bool false)] Zs λx140 Zt=>
     bh c IW false .move [x140] Zt λZu Zv=>
     bh c Zu true .move [x6] Zv λx142 Zw=>
     bh c Zu true (.bin .lss .num) [x142,(.int .i64 0)] Zw λx143 s146=>
     bh c IW false .pick [Zu,x143,(.bool false)] s146 λx144 s147=>
     ai c .pick [IW,(.bool true),x144] s147 λx145 s148=>
     K x6 x145 s148)=K (.int .i64 (ti p r.t)) (.bool ((decide (oa n=1)&&decide (ti p r.t<0))||(decide (oa n=2)&&decide (r.t≠[])&&decide (ti p r.t<0)))) s:=by
 have T1:=O7 hc (n:Int) s;have A:c 145 [tabs p.tz p.ts,.str r.t] s=some (.int .i64 (ti p r.t),s):=VH hc p.tz p.ts r.t hp.ts s;by_cases h1:oa (n:Int)=1
 . by_cases h2:ti p r.t<0
   .simp[p2,p3,T1,h1,h2,A]
   .simp[p2,p3,T1,h1,h2,A]
 . by_cases h3:oa (n:Int)=2
   . by_cases h4:r.t=[]
     .  rw[h4]at A;simp[p2,p3,T1,h1,h3,h4,A]
     .  simp[p2,p3,T1,h1,h3,h4,A]
   .simp[p2,p3,T1,h1,h3,A]
theorem acD(hc:Sem c){p:aR}{r:Rl}{q2 q3:Pos}{s:St}{n:Nat}(hw:Wf s)(hn:n<256)(hk:r.k=(n:Int))(hp:p.iO)(p2:s.heap.get q2=some (.cells p.cells 0))(p3:s.heap.get q3=some (.cells r.cells 0))(sw:(kd n).lo=if n=4 then 1 else 0)(aaj:(kd n).pn=decide (n=7))(hnum:IV (n:Int)=(kd n).n)(ht:n=7->0<=ti p r.t)
   (x2 x3 x5 x6:AV) (e2:x2= .ptr q2 0) (e3:x3= .ptr q3 0) (e5:x5= .int .u8 (n:Int)) (e6:x6= .int .i64 (ti p r.t)):
   (ai c .move [(.int .i64 0)] s λx7 s150=>
   ai c .move [(.int .i64 24)] s150 λx8 s151=>
   vu (λj152=>
   ai c .move [x5] s151 λx146 s154=>
   ai c (.bin .eql .num) [x146,(.int .u8 4)] s154 λx147 s155=>
   HG x147 (
   ai c .move [(.int .i64 1)] s155 λx7 s156=>
   j152 [x2,x3,x5,x6,x7,x8] s156) (
   j152 [x2,x3,x5,x6,x7,x8] s155))
   (λvs s153=>dO vs λx2 vs=>dO vs λx3 vs=>dO vs λx5 vs=>dO vs λx6 vs=>dO vs λx7 vs=>dO vs λx8 vs=>fG vs (
   vu (λj157=>
   ai c .move [x5] s153 λx148 s159=>
   ai c (.bin .eql .num) [x148,(.int .u8 7)] s159 λx149 s160=>
   HG x149 (
   ai c (.fieldA 0) [x2] s160 λx150 s161=>
   ai c (.load none) [x150] s161 λx151 s162=>
   ai c .move [x6] s162 λx152 s163=>
   ai c (.idxA 7 none) [x151,x152] s163 λx153 s164=>
   ai c (.load (some 7)) [x153] s164 λx154 s165=>
   ai c (.callF 118) [x154] s165 λx155 s166=>
   ai c (.bin .sub .num) [x155,(.int .i64 1)] s166 λx156 s167=>
   ai c .move [x156] s167 λx8 s168=>
   j157 [x3,x5,x7,x8] s168) (
   j157 [x3,x5,x7,x8] s160))
   (λvs s158=>dO vs λx3 vs=>dO vs λx5 vs=>dO vs λx7 vs=>dO vs λx8 vs=>fG vs (
   ai c .move [x5] s158 λx157 s169=>
   ai c (.callF 142) [x157] s169 λx158 s170=>
   ai c .move [x158] s170 λK7 s171=>
   bh c K7 true (.fieldA 5) [x3] s171 λx160 s172=>
   bh c K7 true (.load none) [x160] s172 λx161 s173=>
   bh c K7 true .move [x7] s173 λx162 s174=>
   bh c K7 true (.bin .lss .num) [x161,x162] s174 λx163 s175=>
   bh c K7 true .move [x163] s175 λSA s176=>
   bh c SA false (.fieldA 5) [x3] s176 λx165 s177=>
   bh c SA false (.load none) [x165] s177 λx166 s178=>
   bh c SA false .move [x8] s178 λx167 s179=>
   bh c SA false (.bin .gtr .num) [x166,x167] s179 λx168 s180=>
   bh c K7 true .pick [SA,(.bool true),x168] s180 λx169 s181=>
   ai c .pick [K7,x169,(.bool false)] s181 λx170 s182=>
   HG x170 (
   ai c .move [(.int .i64 42)] s182 λx4 s183=>
   some (x4,s183)) (
   ai c .move [(.int .i64 0)] s182 λx4 s184=>
   some (x4,s184)))))))=some (.int .i64 (tT (kd n) r (if(kd n).pn=true then qF p (ti p r.t) - 1 else 24)),s):=by
 subst e2 e3 e5 e6;have T4:=O6 hc (n:Int) s;rw[hnum]at T4;have Gp:=FQ (P:=gI p.ts r.t) p.ts.length 0;unfold tT;rw[sw,aaj];clear sw aaj hnum;by_cases h4:n=4
 . have d4:decide ((n:Int)=4)=true:=(by simp only[Zc2];omega);have d7:decide ((n:Int)=7)=false:=(by simp only[Zf8];omega);have n7:decide (n=7)=false:=(by simp only[Zf8];omega);rw[Za7 h4,n7];clear h4 n7;cases hm:(kd n).n with
   |false=>simp[dB,p2,p3,T4,d4,d7,hm]
   | true=>
     by_cases e1:r.n<1
     .  simp[dB,p2,p3,T4,d4,d7,hm,e1]
     .  by_cases e2:24<r.n
        .simp[dB,p2,p3,T4,d4,d7,hm,e1,e2]
        .simp[dB,p2,p3,T4,d4,d7,hm,e1,e2]
 . have d4:decide ((n:Int)=4)=false:=(by simp only[Zf8];omega);rw[Za4 h4];clear h4;by_cases h7:n=7
   . have d7:decide ((n:Int)=7)=true:=(by simp only[Zc2];omega);have n7:decide (n=7)=true:=(by simp only[Zc2];exact h7);have Oe:=ht h7;rw[n7];clear ht h7 n7;obtain⟨i,hi⟩:∃i:Nat,ti p r.t=(i:Int):=⟨(ti p r.t).toNat,by omega⟩
     have jz:i<p.ts.length:=(by have:=(Gp Oe).2.1;unfold ti at hi;rw[hi]at this;simpa using this);have S:=FO hc p.ts[i] s hw;have b:=wA p.ts[i];have w2:aB .i64 (cv p.ts[i] - 1)=cv p.ts[i] - 1:=wrap64 (by omega) (by omega);have e3:qF p (i:Int)=cv p.ts[i]:=(by simp[qF,jz]);rw[hi,e3];clear hi e3 Oe Gp;cases hm:(kd n).n with
     |false=>simp[dB,p2,p3,T4,d4,d7,tabs,jz,S,w2,hm]
     |  true=>
        by_cases e1:r.n<0
        .simp[dB,p2,p3,T4,d4,d7,tabs,jz,S,w2,hm,e1]
        . by_cases e2:cv p.ts[i] - 1<r.n
          .simp[dB,p2,p3,T4,d4,d7,tabs,jz,S,w2,hm,e1,e2]
          .simp[dB,p2,p3,T4,d4,d7,tabs,jz,S,w2,hm,e1,e2]
   . have d7:decide ((n:Int)=7)=false:=(by simp only[Zf8];omega);have n7:decide (n=7)=false:=(by simp only[Zf8];exact h7);rw[n7];clear h7 n7 ht Gp;cases hm:(kd n).n with
     |false=>simp[dB,p2,p3,T4,d4,d7,hm]
     |  true=>
        by_cases e1:r.n<0
        .simp[dB,p2,p3,T4,d4,d7,hm,e1]
        . by_cases e2:24<r.n
          .simp[dB,p2,p3,T4,d4,d7,hm,e1,e2]
          .simp[dB,p2,p3,T4,d4,d7,hm,e1,e2]
end
section
open Go Go.Ai Go.Proofs
variable{c:ah}
structure Flags(n:Nat):Prop where
 two:ji (n:Int)=(kd n).b
 num:IV (n:Int)=(kd n).n
 t0:oa (n:Int)=0↔(kd n).t=0
 t1:oa (n:Int)=1↔(kd n).t=116
 t2:oa (n:Int)=2↔(kd n).t=101
 a0:(ji (n:Int)=false/\sk (n:Int)=false/\n≠17)↔(kd n).a=0
 a1:((ji (n:Int)||sk (n:Int))=true/\n≠10)↔(kd n).a=103
 a2:n=10↔(kd n).a=101
 a3:n=17↔(kd n).a=100
 o10:n=10->sk (n:Int)=true
 lo:(kd n).lo=if n=4 then 1 else 0
 pn:(kd n).pn=decide (n=7)
 s7:n=7->(kd n).t=116
theorem flags{n:Nat}(h:(kd n).w≠[]):Flags n:=by
 have h18:n<=18:=by apply Zi2;intro h2;apply h;unfold kd;split<;>first|rfl|omega
 have:n=0\/n=1\/n=2\/n=3\/n=4\/n=5\/n=6\/n=7\/n=8\/n=9\/n=10\/n=11\/n=12\/n=13\/n=14\/n=15\/n=16\/n=17\/n=18:=by omega
 rcases this with rfl|rfl|rfl|rfl|rfl|rfl|rfl|rfl|rfl|rfl|rfl|rfl|rfl|rfl|rfl|rfl|rfl|rfl|rfl
 .exact absurd rfl h
 all_goals exact⟨by decide,by decide,by decide,by decide,by decide,by decide,by decide,by decide,by decide,by decide,by decide,by decide,by decide⟩
theorem To(hc:Sem c)(p:aR)(hp:p.iO)(r:Rl)(n:Nat)(hk:r.k=(n:Int))(hn:n<256)(st:St)(hw:Wf st):
   c 109 [.agg p.cells,.agg r.cells] st=some (.int .i64 (CX (kd n) p r),st):=by
 have bM:Wf (af st (.cells p.cells 0)):=bt hw;have uu:=Grew.af bM (.cells r.cells 0);have hg:=(Grew.af hw (.cells p.cells 0)).trans uu;have eB:=hg.wf;have p2:=uu.get (aE st (.cells p.cells 0));have p3:=aE (af st (.cells p.cells 0)) (.cells r.cells 0);rw[CR hc 1 (r:=(.int .i64 (CX (kd n) p r),af (af st (.cells p.cells 0)) (.cells r.cells 0))),aA (Plain.int _ _) hg.keeps];rw[Fz,um,um,bZ];simp only[AV.cells];generalize af (af st (.cells p.cells 0)) (.cells r.cells 0)=s at*
 generalize (af st (.cells p.cells 0)).next=q3 at*
 generalize st.next=q2 at*
 rw[stW hc eB hn hk hp p2 p3];unfold CX;by_cases h0:(kd n).w=[]
 .rw[Za7 h0,Za3 h0,pO,bZ]
 have fl:=flags h0;rw[Za4 h0,Za5 h0,pP];rw[stWt hc eB hn hk hp p2 p3];by_cases h1:r.wt<0\/1000<r.wt
 .rw[Za7 h1,Za3 h1,pO,bZ]
 rw[Za4 h1,Za5 h1,pP];rw[stP1 hc eB hn hk hp p2 p3,stP2 hc eB hn hk hp p2 p3,stP3 hc eB hn hk hp p2 p3,stP4 hc eB hn hk hp p2 p3];have ep:(((decide (r.a≠[])&& !ji n&& !sk n&&decide (n≠17))||(decide (r.b≠[])&& !ji n))||(decide (r.t≠[])&&decide (oa n=0))||(decide (r.n≠0)&& !IV n))= !ym (kd n) r:=by
   (unfold ym;rw[<-fl.two, <-fl.num];have t0:=fl.t0;have a0:=fl.a0;have:decide (oa (n:Int)=0)= !decide ((kd n).t≠0):=(by simp[t0]);rw[this];have:(!ji (n:Int)&& !sk (n:Int)&&decide (n≠17))= !decide ((kd n).a≠0):=by simp only[ne_eq, <-a0];cases ji (n:Int)<;>cases sk (n:Int)<;>simp);rw[Bool.and_assoc,Bool.and_assoc, <-Bool.and_assoc (!ji (n:Int)),this];cases decide ((kd n).a≠0)<;>cases ji (n:Int)<;>cases decide ((kd n).t≠0)<;>cases IV (n:Int)<;>by_cases h3:r.a=[]<;>by_cases h4:r.b=[]<;>by_cases h5:r.t=[]<;>by_cases h6:r.n=0<;>simp[h3,h4,h5,h6]
 rw[ep];cases h2:ym (kd n) r with
 |false=>rw[Zl0,pO,bZ,Za7 rfl]
 |true=>
 rw[Zm3,pP,Za4 (by simp)];rw[stA hc eB hn hk hp p2 p3];have ea:((ji (n:Int)||sk (n:Int))&& !(decide (n=10)&&decide (r.a=[]))&&decide (gi p r.a<0))=decide (((kd n).a=103/\gi p r.a<0)\/((kd n).a=101/\r.a≠[]/\gi p r.a<0)):=by
   rw[Zi3,Zc2, <-fl.a1, <-fl.a2];by_cases GN:n=10
   .have h11:=fl.o10 GN;have Ow:(ji (n:Int)||sk (n:Int))=true:=(by rw[h11,Bool.or_true]);rw[Ow];by_cases h3:r.a=[]<;>simp[h3,GN]
   .simp only[GN,Zn7,Bool.false_and,Zl0,Zi8,ne_eq,Zk8,Zn5,false_and,Zg6];cases ji (n:Int)||sk (n:Int)<;>simp
 rw[ea];by_cases h3:((kd n).a=103/\gi p r.a<0)\/((kd n).a=101/\r.a≠[]/\gi p r.a<0)
 .rw[Za3 h3,pO,bZ,Za7 (h3.elim .inl λh=>.inr (.inl h))]
 rw[Za5 h3,pP];rw[stB hc eB hn hk hp p2 p3];rw[fl.two];by_cases h4:(kd n).b=true/\gi p r.b<0
 .have:((kd n).b&&decide (gi p r.b<0))=true:=(by simp[h4]);rw[this,pO,bZ,Za7 (.inr (.inr h4))]
 have:((kd n).b&&decide (gi p r.b<0))=false:=by
   cases hb:(kd n).b
   .rfl
   .simp[hb]at h4;simp;exact h4
 rw[this,pP,Za4 (λh=>h.elim (λh=>h3 (.inl h)) λh=>h.elim (λh=>h3 (.inr h)) h4)];rw[stN hc eB hn hk hp p2 p3];unfold Sr;simp only[<-fl.a3];by_cases h5:n=17/\dP r.a=false
 .have:(decide (n=17)&& !dP r.a)=true:=(by simp[h5]);rw[this,pO,bZ,Za7 h5]
 have:(decide (n=17)&& !dP r.a)=false:=by
   by_cases h17:n=17
   . cases hb:dP r.a
     .exact absurd ⟨h17,hb⟩ h5
     .simp
   .simp[h17]
 rw[this,pP,Za4 h5];rw[stD hc eB hn hk hp p2 p3,fl.two];by_cases h6:(kd n).b=true/\r.a=r.b
 .have:((kd n).b&&decide (r.a=r.b))=true:=(by simp[h6]);rw[this,pO,bZ,Za7 h6]
 have:((kd n).b&&decide (r.a=r.b))=false:=by
   cases hb:(kd n).b
   .rfl
   .simp[hb]at h6;simp;exact h6
 rw[this,pP,Za4 h6];rw[stT hc eB hn hk hp p2 p3];unfold MM;simp only[<-fl.t1, <-fl.t2];by_cases h7:(oa (n:Int)=1/\ti p r.t<0)\/(oa (n:Int)=2/\r.t≠[]/\ti p r.t<0)
 . have:((decide (oa (n:Int)=1)&&decide (ti p r.t<0))||(decide (oa (n:Int)=2)&&decide (r.t≠[])&&decide (ti p r.t<0)))=true:=by
     rcases h7 with⟨a,b⟩|⟨a,b,d⟩<;>simp[*]
   rw[this,pO,bZ,Za7 h7]
 have:((decide (oa (n:Int)=1)&&decide (ti p r.t<0))||(decide (oa (n:Int)=2)&&decide (r.t≠[])&&decide (ti p r.t<0)))=false:=by apply Bool.eq_false_iff.2;intro e;apply h7;simpa [and_assoc]using e
 rw[this,pP,Za4 h7];have ht:n=7->0<=ti p r.t:=λe=>by
   apply Zi2;intro e2;exact h7 (.inl ⟨fl.t1.2 (fl.s7 e),by omega⟩)
 exact acD hc eB hn hk hp p2 p3 fl.lo fl.pn fl.num ht _ _ _ _ rfl rfl rfl rfl
end
section
open Go Go.Ai Go.Proofs
theorem bC{Q:List AV->Prop}{Qs:List (List AV->Prop)}{ps:List (List AV)}(h:Ap (Q::Qs) ps):∃p qs,ps=p::qs/\Q p/\Ap Qs qs:=by
 cases ps with
 |nil=>exact h.elim
 |cons p qs=>exact⟨p,qs,rfl,h⟩
theorem xq{ps:List (List AV)}(h:Ap [] ps):ps=[]:=by
 cases ps with
 |nil=>rfl
 |cons p qs=>exact h.elim
section
variable{H:Type}{enc:TypeId×Value->H}{w:World}{base:Nat}{spare:Nat->Bool}{held:Bool}
abbrev yo(enc:TypeId×Value->H)(w:World)(base:Nat)(spare:Nat->Bool)(held:Bool)(t:TypeId)(Q:List AV->Prop):Prop:=tA enc Tryz.prog w base spare held t Q
abbrev l7(k:IntKind)(vs:List AV):Prop:=∃i,vs=[.int k i]/\(Lit.int k i).wf=true
abbrev tC(vs:List AV):Prop:=∃s,vs=[.str s]/\s.length<=maxLen/\∀x∈s,x<256
abbrev SB(vs:List AV):Prop:=∃b,vs=[.bool b]
theorem zA:yo enc w base spare held 3 (l7 .i64):=BZ (by kernel_rfl)
theorem wF:yo enc w base spare held 9 tC:=W4 (by kernel_rfl)
theorem XF:yo enc w base spare held 4 SB:=Vi (by kernel_rfl)
theorem aaW:yo enc w base spare held 97 (l7 .u8):=BZ (by kernel_rfl)
theorem o_tk:yo enc w base spare held 155 (l7 .u8):=BZ (by kernel_rfl)
theorem o_rk:yo enc w base spare held 105 (l7 .u8):=BZ (by kernel_rfl)
theorem o_ty:yo enc w base spare held 157 λvs=>∃t:Ty,vs=t.cells:=by
 refine tA.mono (HQ [9,9,155] (Qs:=[tC,tC,l7 .u8]) (by kernel_rfl) (by kernel_rfl) (by kernel_rfl) ⟨wF,wF,o_tk,trivial⟩) λvs h=> ?_
 obtain⟨ps,rfl,m0⟩:=h;obtain⟨p0,q0,rfl,⟨a,rfl,ha,_⟩,m1⟩:=bC m0;obtain⟨p0,q0,rfl,⟨b,rfl,hb,_⟩,m2⟩:=bC m1;obtain⟨p0,q0,rfl,⟨k,rfl,hk⟩,m3⟩:=bC m2;obtain rfl:=xq m3;exact⟨⟨a,b,k⟩,rfl⟩
theorem acE{i:Int}(h:(Lit.int .u8 i).wf=true):0<=i/\i<256:=by
 simp only[Lit.wf,Za2,Zc2]at h;have h1:IntKind.u8.min=0:=by decide
 have h2:IntKind.u8.max=255:=by decide
 omega
theorem o_rl:yo enc w base spare held 107 λvs=>∃t:Rl,vs=t.cells/\t.Ok:=by
 refine tA.mono (HQ [105,3,9,9,9,3] (Qs:=[l7 .u8,l7 .i64,tC,tC,tC,l7 .i64]) (by kernel_rfl) (by kernel_rfl) (by kernel_rfl) ⟨o_rk,zA,wF,wF,wF,zA,trivial⟩) λvs h=> ?_
 obtain⟨ps,rfl,m0⟩:=h;obtain⟨p0,q0,rfl,⟨k,rfl,hk⟩,m1⟩:=bC m0;obtain⟨p0,q0,rfl,⟨wt,rfl,_⟩,m2⟩:=bC m1;obtain⟨p0,q0,rfl,⟨a,rfl,ha,_⟩,m3⟩:=bC m2;obtain⟨p0,q0,rfl,⟨b,rfl,hb,_⟩,m4⟩:=bC m3;obtain⟨p0,q0,rfl,⟨t,rfl,ht,_⟩,m5⟩:=bC m4;obtain⟨p0,q0,rfl,⟨n,rfl,_⟩,m6⟩:=bC m5;obtain rfl:=xq m6;exact⟨⟨k,wt,a,b,t,n⟩,rfl,acE hk⟩
end
abbrev jL:Nat:=1048576
abbrev ju(i:Int):List AV:=[.int .i64 i]
abbrev yM(s:List Nat):List AV:=[.str s]
def aD.az(t:aD)(v:AV):List AV:=[.str t.name,.int .u8 t.sh,.int .i64 t.a,.int .i64 t.b,v,.int .i64 t.x,.int .i64 t.y]
theorem aD.NO(t:aD){v:AV}(h:aQ [v]=true):aQ (t.az v)=true:=by
 simp only[aQ]at h;unfold aD.az;simp only[aQ,AV.one,h,Zi9,Zi8]at*
structure TS(s0 s:St)(V:AV)(ts:List aD)(rows:List (List AV)):Prop where
 out:Mk 7 s0 s V rows
 len:rows.length=ts.length
 wY:∀(i:Nat)(t:aD)(r:List AV),ts[i]? =some t->rows[i]? =some r->∃v,r=t.az v/\Mk 1 s0 s v (t.cg.map ju)/\∀b,dL v=some b->dL V≠some b
structure GS(s0 s:St)(V:AV)(ts:List aG)(rows:List (List AV)):Prop where
 out:Mk 9 s0 s V rows
 len:rows.length=ts.length
 wY:∀(i:Nat)(t:aG)(r:List AV),ts[i]? =some t->rows[i]? =some r->∃v,r=t.az v/\Mk 1 s0 s v (t.tg.map yM)/\∀b,dL v=some b->dL V≠some b
structure PS(s0 s:St)(Vs:List AV)(p:aR):Prop where
 aY:Grew s0 s
 all:∃V1 V2 V3 V4 V5 r1 r2,Vs=[V1,V2,V3,V4,V5]/\TS s0 s V1 p.ts r1/\GS s0 s V2 p.gs r2/\Mk 3 s0 s V3 (p.ys.map Ty.cells)/\Mk 1 s0 s V4 (p.cs.map ju)/\Mk 6 s0 s V5 (p.rs.map Rl.cells)
structure aD.Real(t:aD):Prop where
 name:∀x∈t.name,x<256
 cg:t.cg.length<=jL
structure aG.Real(g:aG):Prop where
 name:∀x∈g.name,x<256
 ku:∀x∈g.ku,x<256
 iH:∀x∈g.iH,x<256
 kz:∀x∈g.kz,x<256
 tg:g.tg.length<=jL
theorem TS.vD{s0 s1 s s':St}{V:AV}{ts:List aD}{rows:List (List AV)}(h:TS s1 s V ts rows)(h0:Wf s0)(Me:Grew s0 s1)(hg:Grew s0 s')(hk:∀q b,s1.next.toNat<=q.toNat->s.heap.get q=some b->s'.heap.get q=some b):TS s0 s' V ts rows:=
 ⟨Mk.vD h.out h0 Me hg hk,h.len,λi t r hi hr=>by obtain⟨v,e1,e2,e3⟩:=h.wY i t r hi hr;exact⟨v,e1,Mk.vD e2 h0 Me hg hk,e3⟩⟩
theorem GS.vD{s0 s1 s s':St}{V:AV}{ts:List aG}{rows:List (List AV)}(h:GS s1 s V ts rows)(h0:Wf s0)(Me:Grew s0 s1)(hg:Grew s0 s')(hk:∀q b,s1.next.toNat<=q.toNat->s.heap.get q=some b->s'.heap.get q=some b):GS s0 s' V ts rows:=
 ⟨Mk.vD h.out h0 Me hg hk,h.len,λi t r hi hr=>by obtain⟨v,e1,e2,e3⟩:=h.wY i t r hi hr;exact⟨v,e1,Mk.vD e2 h0 Me hg hk,e3⟩⟩
structure aR.Real(p:aR):Prop where
 ts:p.ts.length<=1000
 tab:∀t∈p.ts,t.Real
 gs:p.gs.length<=1000
 bh:∀t∈p.gs,t.Real
 ys:p.ys.length<=jL
 cs:p.cs.length<=jL
 rs:p.rs.length<=jL
theorem VJ(z:Bool)(l:List Ty):dK 3 (bR z l):=dK.ro λr hr v hv=>by simp only[Zf1]at hr;obtain⟨g,_,rfl⟩:=hr;simp only[Ty.cells,Za0,Zc7,Zg6]at hv;rcases hv with rfl|rfl|rfl<;>first|exact dK.str _|exact dK.int _ _
theorem IX{R:Type}{p:Pos}{o:Nat}{h:T AB}{v:AV}(hv:((cellsOf (h.get p)).bind λcs=>cs[o]?)=some v)(ok:AV->Bool)(cJ:ok v=true)(K:AV->Option R):lX (.load none) [.ptr p o] h ok K=K v:=by
 unfold lX;have e:au.run (λ_=>none) .h (.load none) [.ptr p o]=none:=rfl;rw[e];simp only;rw[kV,hv];simp only[Zd6];rw[cJ]
theorem lC{p:Pos}{o:Nat}{h:T AB}{v:AV}(hv:((cellsOf (h.get p)).bind λcs=>cs[o]?)=some v)(hb:fj v v=true):mj (.load none) [.ptr p o] v (u5 [] h)=true:=by unfold mj;show(match au.run (λb=>h.get b) .h (.load none) [.ptr p o]with|some (.val u)=>fj u v|_=>false)=true;rw[kV,hv];exact hb
section
variable{H:Type}
theorem Zx(d:DataW H):1<=Rows.uptoBulk d:=by
 cases d with
 |lit l=>cases l<;>simp[Rows.uptoBulk]
 |_=>simp[Rows.uptoBulk]
theorem uY:∀l:List (DataW H),l.length<=Rows.uptoBulkAll l/\∀d∈l,Rows.uptoBulk d<=Rows.uptoBulkAll l
 |[]=>⟨Zk7 _,λd h=>by simp at h⟩
 |d::l=>by
  obtain⟨h1,h2⟩:=uY l;have h3:=Zx d;have e:Rows.uptoBulkAll (d::l)=Rows.uptoBulk d+Rows.uptoBulkAll l:=by simp[Rows.uptoBulkAll]
  rw[e];refine⟨by simp only[Ze6];omega,λx hx=> ?_⟩;rcases Za0.1 hx with rfl|hx
  .omega
  .have:=h2 x hx;omega
abbrev Qg(d:DataW H):Prop:=Rows.uptoBulk d<=jL
theorem Ej(e s:List (DataW H))(h:Qg (.slice e s)):e.length<=jL/\∀d∈e,Qg d:=by
 obtain⟨h1,h2⟩:=uY e;have e1:Rows.uptoBulk (.slice e s)=Rows.uptoBulkAll e+Rows.uptoBulkAll s+1:=by simp[Rows.uptoBulk]
 have h:Rows.uptoBulk (.slice e s)<=1048576:=h;rw[e1]at h;exact⟨show e.length<=1048576 by omega,λd hd=>show Rows.uptoBulk d<=1048576 by have:=h2 d hd;omega⟩
theorem SC(ps:List (DataW H))(h:Qg (.agg ps)):∀d∈ps,Qg d:=λd hd=>by
 obtain⟨h1,h2⟩:=uY ps;have e1:Rows.uptoBulk (.agg ps)=Rows.uptoBulkAll ps+1:=by simp[Rows.uptoBulk]
 have h:Rows.uptoBulk (.agg ps)<=1048576:=h;rw[e1]at h;show Rows.uptoBulk d<=1048576;have:=h2 d hd;omega
end
section
variable{H:Type}{enc:TypeId×Value->H}{w:World}{base:Nat}{spare:Nat->Bool}{held:Bool}
abbrev wG(enc:TypeId×Value->H)(w:World)(base:Nat)(spare:Nat->Bool)(held:Bool)(t:TypeId)(Q:List AV->Prop):Prop:=bU Qg enc Tryz.prog w base spare held t Q
theorem tU{α:Type}{P:α->Prop}{cells:α->List AV}:∀(rs:List (List AV)),(∀r∈rs,∃t,r=cells t/\P t)->∃l:List α,rs=l.map cells/\∀t∈l,P t
 |[],_=>⟨[],rfl,by simp⟩
 |r::rs,h=>by
  obtain⟨t,rfl,ht⟩:=h r (by simp);obtain⟨l,rfl,hl⟩:=tU rs (λq hq=>h q (Za1 _ hq));exact⟨t::l,rfl,λq hq=>by
   rcases Za0.1 hq with rfl|hq
   .exact ht
   .exact hl q hq⟩
theorem MT:wG enc w base spare held 25 λvs=>∃z l,vs=[ints z l]/\l.length<=jL:=by
 refine bU.mono (mC (N:=jL) (es:=1) (Q:=l7 .i64) (by kernel_rfl) (by kernel_rfl) (by omega) (λvs h=>by obtain⟨i,rfl,_⟩:=h;rfl) Ej (bU.of zA)) λvs h=> ?_
 obtain⟨z,rs,rfl,h1,h2⟩:=h;obtain⟨l,rfl,_⟩:=tU (P:=λ_:Int=>True) (cells:=λi=>[AV.int .i64 i]) rs (λr hr=>by obtain⟨i,e,_⟩:=h1 r hr;exact⟨i,e,trivial⟩);exact⟨z,l,rfl,by simpa using h2⟩
theorem aaX:wG enc w base spare held 135 λvs=>∃z l,vs=[dD z l]/\l.length<=jL:=by
 refine bU.mono (mC (N:=jL) (es:=1) (Q:=tC) (by kernel_rfl) (by kernel_rfl) (by omega) (λvs h=>by obtain⟨i,rfl,_⟩:=h;rfl) Ej (bU.of wF)) λvs h=> ?_
 obtain⟨z,rs,rfl,h1,h2⟩:=h;obtain⟨l,rfl,_⟩:=tU (P:=λ_:List Nat=>True) (cells:=λi=>[AV.str i]) rs (λr hr=>by obtain⟨i,e,_⟩:=h1 r hr;exact⟨i,e,trivial⟩);exact⟨z,l,rfl,by simpa using h2⟩
theorem abF:wG enc w base spare held 99 λvs=>∃t:aD,vs=t.cells/\t.Ok/\t.Real:=by
 refine bU.mono (yC [9,97,3,3,25,3,3] (Qs:=[tC,l7 .u8,l7 .i64,l7 .i64,λvs=>∃z l,vs=[ints z l]/\l.length<=jL,l7 .i64,l7 .i64]) (by kernel_rfl) (by kernel_rfl) (by kernel_rfl) SC ⟨bU.of wF,bU.of aaW,bU.of zA,bU.of zA,MT,bU.of zA,bU.of zA,trivial⟩) λvs h=> ?_
 obtain⟨ps,rfl,m0⟩:=h;obtain⟨p0,q0,rfl,⟨s,rfl,hs,xW⟩,m1⟩:=bC m0;obtain⟨p0,q0,rfl,⟨k,rfl,_⟩,m2⟩:=bC m1;obtain⟨p0,q0,rfl,⟨a,rfl,_⟩,m3⟩:=bC m2;obtain⟨p0,q0,rfl,⟨b,rfl,_⟩,m4⟩:=bC m3;obtain⟨p0,q0,rfl,⟨z,l,rfl,hl⟩,m5⟩:=bC m4;obtain⟨p0,q0,rfl,⟨x,rfl,_⟩,m6⟩:=bC m5;obtain⟨p0,q0,rfl,⟨y,rfl,_⟩,m7⟩:=bC m6;obtain rfl:=xq m7;have jr:l.length<=1048576:=hl;exact⟨⟨s,k,a,b,z,l,x,y⟩,rfl,⟨by show s.length<cw;unfold maxLen at hs;unfold cw;omega,by show l.length<cw;unfold cw;omega⟩,⟨xW,hl⟩⟩
theorem abG:wG enc w base spare held 137 λvs=>∃t:aG,vs=t.cells/\t.Real:=by
 refine bU.mono (yC [9,9,9,3,3,9,4,4,135] (Qs:=[tC,tC,tC,l7 .i64,l7 .i64,tC,SB,SB,λvs=>∃z l,vs=[dD z l]/\l.length<=jL]) (by kernel_rfl) (by kernel_rfl) (by kernel_rfl) SC ⟨bU.of wF,bU.of wF,bU.of wF,bU.of zA,bU.of zA,bU.of wF,bU.of XF,bU.of XF,aaX,trivial⟩) λvs h=> ?_
 obtain⟨ps,rfl,m0⟩:=h;obtain⟨p0,q0,rfl,⟨name,rfl,_,gj⟩,m1⟩:=bC m0;obtain⟨p0,q0,rfl,⟨ku,rfl,_,acF⟩,m2⟩:=bC m1;obtain⟨p0,q0,rfl,⟨iH,rfl,_,abH⟩,m3⟩:=bC m2;obtain⟨p0,q0,rfl,⟨since,rfl,_⟩,m4⟩:=bC m3;obtain⟨p0,q0,rfl,⟨side,rfl,_⟩,m5⟩:=bC m4;obtain⟨p0,q0,rfl,⟨kz,rfl,_,acG⟩,m6⟩:=bC m5;obtain⟨p0,q0,rfl,⟨host,rfl⟩,m7⟩:=bC m6;obtain⟨p0,q0,rfl,⟨access,rfl⟩,m8⟩:=bC m7;obtain⟨p0,q0,rfl,⟨ztg,tg,rfl,htg⟩,m9⟩:=bC m8;obtain rfl:=xq m9;exact⟨⟨name,ku,iH,since,side,kz,host,access,ztg,tg⟩,rfl,⟨gj,acF,abH,acG,htg⟩⟩
theorem aaY:wG enc w base spare held 22 λvs=>∃(z:Bool) (l:List aD),vs=[tabs z l]/\(∀t∈l,t.Ok/\t.Real)/\l.length<=jL:=by
 refine bU.mono (mC (N:=jL) (es:=7) (by kernel_rfl) (by kernel_rfl) (by omega) (λvs h=>by obtain⟨t,rfl,_⟩:=h;rfl) Ej abF) λvs h=> ?_
 obtain⟨z,rs,rfl,h1,h2⟩:=h;obtain⟨l,rfl,hl⟩:=tU (P:=λt:aD=>t.Ok/\t.Real) (cells:=aD.cells) rs h1;exact⟨z,l,rfl,hl,by simpa using h2⟩
theorem aaZ:wG enc w base spare held 23 λvs=>∃(z:Bool) (l:List aG),vs=[aX z l]/\(∀t∈l,t.Real)/\l.length<=jL:=by
 refine bU.mono (mC (N:=jL) (es:=9) (by kernel_rfl) (by kernel_rfl) (by omega) (λvs h=>by obtain⟨t,rfl,_⟩:=h;rfl) Ej abG) λvs h=> ?_
 obtain⟨z,rs,rfl,h1,h2⟩:=h;obtain⟨l,rfl,hl⟩:=tU (P:=λt:aG=>t.Real) (cells:=aG.cells) rs h1;exact⟨z,l,rfl,hl,by simpa using h2⟩
theorem abI:wG enc w base spare held 24 λvs=>∃(z:Bool) (l:List Ty),vs=[bR z l]/\l.length<=jL:=by
 refine bU.mono (mC (N:=jL) (es:=3) (by kernel_rfl) (by kernel_rfl) (by omega) (λvs h=>by obtain⟨t,rfl⟩:=h;rfl) Ej (bU.of o_ty)) λvs h=> ?_
 obtain⟨z,rs,rfl,h1,h2⟩:=h;obtain⟨l,rfl,_⟩:=tU (P:=λ_:Ty=>True) (cells:=Ty.cells) rs (λr hr=>by obtain⟨t,e⟩:=h1 r hr;exact⟨t,e,trivial⟩);exact⟨z,l,rfl,by simpa using h2⟩
theorem abJ:wG enc w base spare held 26 λvs=>∃(z:Bool) (l:List Rl),vs=[gJ z l]/\(∀t∈l,t.Ok)/\l.length<=jL:=by
 refine bU.mono (mC (N:=jL) (es:=6) (by kernel_rfl) (by kernel_rfl) (by omega) (λvs h=>by obtain⟨t,rfl,_⟩:=h;rfl) Ej (bU.of o_rl)) λvs h=> ?_
 obtain⟨z,rs,rfl,h1,h2⟩:=h;obtain⟨l,rfl,hl⟩:=tU (P:=λt:Rl=>t.Ok) (cells:=Rl.cells) rs h1;exact⟨z,l,rfl,hl,by simpa using h2⟩
structure aR.Laid(p:aR):Prop where
 tab:∀t∈p.ts,t.Ok/\t.Real
 bh:∀t∈p.gs,t.Real
 rul:∀r∈p.rs,r.Ok
 ys:p.ys.length<=jL
 cs:p.cs.length<=jL
 rs:p.rs.length<=jL
theorem abe:wG enc w base spare held 28 λvs=>∃p:aR,vs=p.cells/\p.Laid:=by
 refine bU.mono (yC [22,23,24,25,26] (Qs:=[_,_,_,_,_]) (by kernel_rfl) (by kernel_rfl) (by kernel_rfl) SC ⟨aaY,aaZ,abI,MT,abJ,trivial⟩) λvs h=> ?_
 obtain⟨ps,rfl,m0⟩:=h;obtain⟨p0,q0,rfl,⟨z1,l1,rfl,h1,_⟩,m1⟩:=bC m0;obtain⟨p0,q0,rfl,⟨z2,l2,rfl,h2,_⟩,m2⟩:=bC m1;obtain⟨p0,q0,rfl,⟨z3,l3,rfl,h3⟩,m3⟩:=bC m2;obtain⟨p0,q0,rfl,⟨z4,l4,rfl,h4⟩,m4⟩:=bC m3;obtain⟨p0,q0,rfl,⟨z5,l5,rfl,h5,h6⟩,m5⟩:=bC m4;obtain rfl:=xq m5;exact⟨⟨z1,l1,z2,l2,z3,l3,z4,l4,z5,l5⟩,rfl,⟨h1,h2,h5,h3,h4,h6⟩⟩
end
section
variable{H:Type}{enc:TypeId×Value->H}{w:World}{base:Nat}{spare:Nat->Bool}{held:Bool}
end
variable{c:ah}
def aD.cj(t t':aD):Prop:=∃z,t'={ t with oz:=z }
def aG.cj(g g':aG):Prop:=∃z,g'={ g with tz:=z }
theorem SD{α:Type}(f:α->AV)(s:St)(d:Nat)(l:List α)(hf:∀a∈l,cu s d (f a)=f a):(l.map λa=>[f a]).map (λr=>r.map (cu s d))=l.map λa=>[f a]:=by
 rw[Zf5];refine Zi0 λa ha=> ?_
 simp only[Function.comp,Zb4,Zf0,hf a ha]
theorem Ek(s:St)(d:Nat)(k:IntKind)(i:Int):cu s d (.int k i)= .int k i:=by cases d<;>rfl
theorem El(s:St)(d:Nat)(l:List Nat):cu s d (.str l)= .str l:=by cases d<;>rfl
theorem Zy(s:St)(d:Nat)(b:Bool):cu s d (.bool b)= .bool b:=by cases d<;>rfl
theorem SE{s0 s:St}{v:AV}{l:List Int}(h:Mk 1 s0 s v (l.map ju))(d:Nat):∃z,cu s (d+1) v=ints z l:=by
 obtain⟨z,hz⟩:=h.own.cu (d:=d) h.row;refine⟨z,?_⟩;rw[hz];unfold ints;rw[SD (λi=>AV.int .i64 i) s d l λa _=>Ek s d _ _]
theorem Zz{s0 s:St}{v:AV}{l:List (List Nat)}(h:Mk 1 s0 s v (l.map yM))(d:Nat):∃z,cu s (d+1) v=dD z l:=by
 obtain⟨z,hz⟩:=h.own.cu (d:=d) h.row;refine⟨z,?_⟩;rw[hz];unfold dD;rw[SD (λi=>AV.str i) s d l λa _=>El s d _]
theorem aa0{s0 s:St}{v:AV}{l:List Ty}(h:Mk 3 s0 s v (l.map Ty.cells))(d:Nat):∃z,cu s (d+1) v=bR z l:=by
 obtain⟨z,hz⟩:=h.own.cu (d:=d) h.row;refine⟨z,?_⟩;rw[hz];unfold bR;rw[Zf5];congr 1;refine Zi0 λa _=> ?_
 simp only[Function.comp,Ty.cells,Zb4,Zf0,El,Ek]
theorem aa1{s0 s:St}{v:AV}{l:List Rl}(h:Mk 6 s0 s v (l.map Rl.cells))(d:Nat):∃z,cu s (d+1) v=gJ z l:=by
 obtain⟨z,hz⟩:=h.own.cu (d:=d) h.row;refine⟨z,?_⟩;rw[hz];unfold gJ;rw[Zf5];congr 1;refine Zi0 λa _=> ?_
 simp only[Function.comp,Rl.cells,Zb4,Zf0,El,Ek]
theorem K8{α:Type}(P:α->α->Prop)(cells:α->List AV)(g:List AV->List AV):∀(ts:List α)(rows:List (List AV)),rows.length=ts.length->(∀(i:Nat)(t:α)(r:List AV),ts[i]? =some t->rows[i]? =some r->∃t',P t t'/\g r=cells t')->
  ∃sI:List α,rows.map g=sI.map cells/\sI.length=ts.length/\∀(i:Nat)(t t':α),ts[i]? =some t->sI[i]? =some t'->P t t'
 |[],rows,hl,_=>⟨[],by rw[Za6 hl];rfl,rfl,λi t t' h=>by simp at h⟩
 |t::ts,[],hl,_=>by simp at hl
 |t::ts,r::rows,hl,h=>by
  obtain⟨t',h1,h2⟩:=h 0 t r rfl rfl;obtain⟨sI,k1,k2,k3⟩:=K8 P cells g ts rows (by simpa using hl) (λi t r h3 h4=>h (i+1) t r (by simpa using h3) (by simpa using h4));refine⟨t'::sI,by simp[h2,k1],by simp[k2],λi u u' h3 h4=> ?_⟩;cases i with
  |zero=>simp at h3 h4;subst h3;subst h4;exact h1
  |succ i=>exact k3 i u u' (by simpa using h3) (by simpa using h4)
theorem TS.cu{s0 s:St}{V:AV}{ts:List aD}{rows:List (List AV)}(h:TS s0 s V ts rows)(d:Nat):∃z sI,Go.Ai.cu s (d+2) V=tabs z sI/\sI.length=ts.length/\∀(i:Nat)(t t':aD),ts[i]? =some t->sI[i]? =some t'->t.cj t':=by
 obtain⟨z,hz⟩:=h.out.own.cu (d:=d+1) h.out.row;obtain⟨sI,k1,k2,k3⟩:=K8 aD.cj aD.cells (λr=>r.map (Go.Ai.cu s (d+1))) ts rows h.len λi t r hi hr=>by
  obtain⟨v,rfl,hM,_⟩:=h.wY i t r hi hr;obtain⟨z2,hz2⟩:=SE hM d;refine⟨{ t with oz:=z2 },⟨z2,rfl⟩,?_⟩;simp only[aD.az,aD.cells,Zb4,Zf0,El,Ek,hz2]
 refine⟨z,sI,?_,k2,k3⟩;rw[hz,k1];rfl
theorem GS.cu{s0 s:St}{V:AV}{ts:List aG}{rows:List (List AV)}(h:GS s0 s V ts rows)(d:Nat):∃z sI,Go.Ai.cu s (d+2) V=aX z sI/\sI.length=ts.length/\∀(i:Nat)(t t':aG),ts[i]? =some t->sI[i]? =some t'->t.cj t':=by
 obtain⟨z,hz⟩:=h.out.own.cu (d:=d+1) h.out.row;obtain⟨sI,k1,k2,k3⟩:=K8 aG.cj aG.cells (λr=>r.map (Go.Ai.cu s (d+1))) ts rows h.len λi t r hi hr=>by
  obtain⟨v,rfl,hM,_⟩:=h.wY i t r hi hr;obtain⟨z2,hz2⟩:=Zz hM d;refine⟨{ t with tz:=z2 },⟨z2,rfl⟩,?_⟩;simp only[aG.az,aG.cells,Zb4,Zf0,El,Ek,Zy,hz2]
 refine⟨z,sI,?_,k2,k3⟩;rw[hz,k1];rfl
end
noncomputable section
open Go Go.Ai Go.Proofs
attribute [local go_sem ↓] bg xJ ev Ug xX getLT xI KN OT vG vH HR HS HT HU DD DE DF DG DH DI HV HW DJ DK DM DN DO Mh Mi Mj
attribute [local go_sem] bg xJ ev
section
variable(c:ah)(F:Nat)(x0 x1 x2 x3 x4 x5 x6 x7 x8 x9 B5 Ib:AV)(s:St)
def qG:Sh:=(sq sl (sq sl sl))
def qH:PX 47 qG:=⟨_,by conv=>lhs;reduce⟩
def lD:O2:=bg c F bu qH.1 [x0] s
def A0:=(by dsimp only[lD,qH,go_sem,Int.reduceOfNat]:lD c F x0 s=_)
def qI:Sh:=(sq sl (sq sl sl))
def qJ:PX 49 qI:=⟨_,by conv=>lhs;reduce⟩
def lF:O2:=bg c F bu qJ.1 [x0,x1] s
def A3:=(by dsimp only[lF,qJ,go_sem,Int.reduceOfNat]:lF c F x0 x1 s=_)
def kA:Sh:=(sq sl (sq sl (sq (sq sl (sb (sp 0 [0,3,4] [(2,[3])] (sq (sq sl (sc sl sl)) (sq (sb sl) sl))))) (sq sl sl))))
def rJ:PX 96 kA:=⟨_,by conv=>lhs;reduce⟩
def qK:PL 96 kA 0:=⟨_,by conv=>lhs;reduce⟩
def fA(k2:Q2):Nat->Q2
 |0,_,_=>none
 |n+1,vs,s=>eU c F bu (fA k2 n) [k2] qK.1 vs s
def oK(k2:Q2)(n:Nat)(vs:List AV)(s:St):=(by dsimp only[fA,qK,go_sem,Int.reduceOfNat]:fA c F k2 (n+1) vs s=_)
def kB:Un->List Q2->Nat->Q2
 |.z,[k2]=>fA c F k2
 |_,_=>λ_=>fH
def mN:O2:=bg c F (kB c F) rJ.1 [x0] s
def Bp:=(by dsimp only[mN,rJ, ↓kB,go_sem,Int.reduceOfNat]:mN c F x0 s=_)
def kC:Sh:=(sq sl (sq sl (sq (sq sl (sb (sp 0 [0,3,4] [(2,[3])] (sq (sq sl (sc sl sl)) (sq (sb sl) sl))))) (sq sl sl))))
def rK:PX 97 kC:=⟨_,by conv=>lhs;reduce⟩
def qL:PL 97 kC 0:=⟨_,by conv=>lhs;reduce⟩
def fB(k2:Q2):Nat->Q2
 |0,_,_=>none
 |n+1,vs,s=>eU c F bu (fB k2 n) [k2] qL.1 vs s
def oM(k2:Q2)(n:Nat)(vs:List AV)(s:St):=(by dsimp only[fB,qL,go_sem,Int.reduceOfNat]:fB c F k2 (n+1) vs s=_)
def kD:Un->List Q2->Nat->Q2
 |.z,[k2]=>fB c F k2
 |_,_=>λ_=>fH
def mO:O2:=bg c F (kD c F) rK.1 [x0] s
def Bq:=(by dsimp only[mO,rK, ↓kD,go_sem,Int.reduceOfNat]:mO c F x0 s=_)
def mP:Sh:=(sq sl (sq sl (sq (sq sl (sb (sp 0 [0,3,4] [(2,[3])] (sq (sq sl (sc sl sl)) (sq (sb sl) sl))))) (sq sl sl))))
def uM:PX 98 mP:=⟨_,by conv=>lhs;reduce⟩
def sJ:PL 98 mP 0:=⟨_,by conv=>lhs;reduce⟩
def fX(k2:Q2):Nat->Q2
 |0,_,_=>none
 |n+1,vs,s=>eU c F bu (fX k2 n) [k2] sJ.1 vs s
def j5(k2:Q2)(n:Nat)(vs:List AV)(s:St):=(by dsimp only[fX,sJ,go_sem,Int.reduceOfNat]:fX c F k2 (n+1) vs s=_)
def mQ:Un->List Q2->Nat->Q2
 |.z,[k2]=>fX c F k2
 |_,_=>λ_=>fH
def pz:O2:=bg c F (mQ c F) uM.1 [x0] s
def Em:=(by dsimp only[pz,uM, ↓mQ,go_sem,Int.reduceOfNat]:pz c F x0 s=_)
def mR:Sh:=(sq sl (sq sl (sq (sq sl (sb (sp 0 [0,3,4] [(2,[3])] (sq (sq sl (sc sl sl)) (sq (sb sl) sl))))) (sq sl sl))))
def uN:PX 99 mR:=⟨_,by conv=>lhs;reduce⟩
def sK:PL 99 mR 0:=⟨_,by conv=>lhs;reduce⟩
def fY(k2:Q2):Nat->Q2
 |0,_,_=>none
 |n+1,vs,s=>eU c F bu (fY k2 n) [k2] sK.1 vs s
def j6(k2:Q2)(n:Nat)(vs:List AV)(s:St):=(by dsimp only[fY,sK,go_sem,Int.reduceOfNat]:fY c F k2 (n+1) vs s=_)
def mS:Un->List Q2->Nat->Q2
 |.z,[k2]=>fY c F k2
 |_,_=>λ_=>fH
def pE:O2:=bg c F (mS c F) uN.1 [x0] s
def En:=(by dsimp only[pE,uN, ↓mS,go_sem,Int.reduceOfNat]:pE c F x0 s=_)
def lH:Sh:=(sq sl (sq sl (sq (sq sl (sb (sp 0 [0,3,4] [(2,[3])] (sq (sq sl (sc sl sl)) (sq (sb sl) sl))))) (sq sl sl))))
def sL:PX 100 lH:=⟨_,by conv=>lhs;reduce⟩
def rL:PL 100 lH 0:=⟨_,by conv=>lhs;reduce⟩
def fI(k2:Q2):Nat->Q2
 |0,_,_=>none
 |n+1,vs,s=>eU c F bu (fI k2 n) [k2] rL.1 vs s
def jD(k2:Q2)(n:Nat)(vs:List AV)(s:St):=(by dsimp only[fI,rL,go_sem,Int.reduceOfNat]:fI c F k2 (n+1) vs s=_)
def lJ:Un->List Q2->Nat->Q2
 |.z,[k2]=>fI c F k2
 |_,_=>λ_=>fH
def ob:O2:=bg c F (lJ c F) sL.1 [x0] s
def CZ:=(by dsimp only[ob,sL, ↓lJ,go_sem,Int.reduceOfNat]:ob c F x0 s=_)
def kE:Sh:=(sq sl (sq (sq sl (sc (sq sl sl) sl)) (sq (sq sl (sb (sp 0 [0,1,5] [(1,[4]),(2,[])] (sq (sq sl (sc sl sl)) (sq (sb (sq sl (sc (sq sl sl) sl))) sl))))) (sq sl sl))))
def rM:PX 102 kE:=⟨_,by conv=>lhs;reduce⟩
def qM:PL 102 kE 0:=⟨_,by conv=>lhs;reduce⟩
def fC(k1 k2:Q2):Nat->Q2
 |0,_,_=>none
 |n+1,vs,s=>eU c F bu (fC k1 k2 n) [k1,k2] qM.1 vs s
def oN(k1 k2:Q2)(n:Nat)(vs:List AV)(s:St):=(by dsimp only[fC,qM,go_sem,Int.reduceOfNat]:fC c F k1 k2 (n+1) vs s=_)
def kF:Un->List Q2->Nat->Q2
 |.z,[k1,k2]=>fC c F k1 k2
 |_,_=>λ_=>fH
def mT:O2:=bg c F (kF c F) rM.1 [x0,x1] s
def Br:=(by dsimp only[mT,rM, ↓kF,go_sem,Int.reduceOfNat]:mT c F x0 x1 s=_)
def kG:Sh:=(sq sl (sq (sq sl (sc (sq sl sl) sl)) (sq (sq sl (sb (sp 0 [0,1,5] [(1,[4]),(2,[])] (sq (sq sl (sc sl sl)) (sq (sb (sq sl (sc (sq sl sl) sl))) sl))))) (sq sl sl))))
def rN:PX 103 kG:=⟨_,by conv=>lhs;reduce⟩
def qN:PL 103 kG 0:=⟨_,by conv=>lhs;reduce⟩
def fD(k1 k2:Q2):Nat->Q2
 |0,_,_=>none
 |n+1,vs,s=>eU c F bu (fD k1 k2 n) [k1,k2] qN.1 vs s
def oO(k1 k2:Q2)(n:Nat)(vs:List AV)(s:St):=(by dsimp only[fD,qN,go_sem,Int.reduceOfNat]:fD c F k1 k2 (n+1) vs s=_)
def kH:Un->List Q2->Nat->Q2
 |.z,[k1,k2]=>fD c F k1 k2
 |_,_=>λ_=>fH
def mU:O2:=bg c F (kH c F) rN.1 [x0,x1] s
def Bs:=(by dsimp only[mU,rN, ↓kH,go_sem,Int.reduceOfNat]:mU c F x0 x1 s=_)
def mV:Sh:=(sq sl (sq (sq sl (sc (sq sl sl) sl)) (sq (sq sl (sb (sp 0 [0,1,5] [(1,[4]),(2,[])] (sq (sq sl (sc sl sl)) (sq (sb (sq sl (sc (sq sl sl) sl))) sl))))) (sq sl sl))))
def uO:PX 104 mV:=⟨_,by conv=>lhs;reduce⟩
def sM:PL 104 mV 0:=⟨_,by conv=>lhs;reduce⟩
def fZ(k1 k2:Q2):Nat->Q2
 |0,_,_=>none
 |n+1,vs,s=>eU c F bu (fZ k1 k2 n) [k1,k2] sM.1 vs s
def qO(k1 k2:Q2)(n:Nat)(vs:List AV)(s:St):=(by dsimp only[fZ,sM,go_sem,Int.reduceOfNat]:fZ c F k1 k2 (n+1) vs s=_)
def mW:Un->List Q2->Nat->Q2
 |.z,[k1,k2]=>fZ c F k1 k2
 |_,_=>λ_=>fH
def pF:O2:=bg c F (mW c F) uO.1 [x0,x1] s
def Eo:=(by dsimp only[pF,uO, ↓mW,go_sem,Int.reduceOfNat]:pF c F x0 x1 s=_)
def mX:Sh:=(sq sl (sq (sq sl (sc (sq sl sl) sl)) (sq (sq sl (sb (sp 0 [0,1,5] [(1,[4]),(2,[])] (sq (sq sl (sc sl sl)) (sq (sb (sq sl (sc (sq sl sl) sl))) sl))))) (sq sl sl))))
def uP:PX 105 mX:=⟨_,by conv=>lhs;reduce⟩
def sN:PL 105 mX 0:=⟨_,by conv=>lhs;reduce⟩
def gb(k1 k2:Q2):Nat->Q2
 |0,_,_=>none
 |n+1,vs,s=>eU c F bu (gb k1 k2 n) [k1,k2] sN.1 vs s
def qP(k1 k2:Q2)(n:Nat)(vs:List AV)(s:St):=(by dsimp only[gb,sN,go_sem,Int.reduceOfNat]:gb c F k1 k2 (n+1) vs s=_)
def mY:Un->List Q2->Nat->Q2
 |.z,[k1,k2]=>gb c F k1 k2
 |_,_=>λ_=>fH
def pG:O2:=bg c F (mY c F) uP.1 [x0,x1] s
def Ep:=(by dsimp only[pG,uP, ↓mY,go_sem,Int.reduceOfNat]:pG c F x0 x1 s=_)
def lK:Sh:=(sq sl (sq (sq sl (sc (sq sl sl) sl)) (sq (sq sl (sb (sp 0 [0,1,5] [(1,[4]),(2,[])] (sq (sq sl (sc sl sl)) (sq (sb (sq sl (sc (sq sl sl) sl))) sl))))) (sq sl sl))))
def sO:PX 106 lK:=⟨_,by conv=>lhs;reduce⟩
def rO:PL 106 lK 0:=⟨_,by conv=>lhs;reduce⟩
def fJ(k1 k2:Q2):Nat->Q2
 |0,_,_=>none
 |n+1,vs,s=>eU c F bu (fJ k1 k2 n) [k1,k2] rO.1 vs s
def pY(k1 k2:Q2)(n:Nat)(vs:List AV)(s:St):=(by dsimp only[fJ,rO,go_sem,Int.reduceOfNat]:fJ c F k1 k2 (n+1) vs s=_)
def lM:Un->List Q2->Nat->Q2
 |.z,[k1,k2]=>fJ c F k1 k2
 |_,_=>λ_=>fH
def oc:O2:=bg c F (lM c F) sO.1 [x0,x1] s
def C0:=(by dsimp only[oc,sO, ↓lM,go_sem,Int.reduceOfNat]:oc c F x0 x1 s=_)
def sP:Sh:=(sq sl (sq sl (sq sl sl)))
def sQ:PX 132 sP:=⟨_,by conv=>lhs;reduce⟩
def od:O2:=bg c F bu sQ.1 [x0] s
def C6:=(by dsimp only[od,sQ,go_sem,Int.reduceOfNat]:od c F x0 s=_)
def sR:Sh:=(sq sl (sq sl (sq sl sl)))
def sS:PX 133 sR:=⟨_,by conv=>lhs;reduce⟩
def oe:O2:=bg c F bu sS.1 [x0] s
def C7:=(by dsimp only[oe,sS,go_sem,Int.reduceOfNat]:oe c F x0 s=_)
def sU:Sh:=(sq sl (sq sl sl))
def sV:PX 134 sU:=⟨_,by conv=>lhs;reduce⟩
def oh:O2:=bg c F bu sV.1 [x0,x1] s
def C8:=(by dsimp only[oh,sV,go_sem,Int.reduceOfNat]:oh c F x0 x1 s=_)
def sW:Sh:=(sq sl (sq sl sl))
def sX:PX 135 sW:=⟨_,by conv=>lhs;reduce⟩
def om:O2:=bg c F bu sX.1 [x0,x1] s
def C9:=(by dsimp only[om,sX,go_sem,Int.reduceOfNat]:om c F x0 x1 s=_)
def lN:Sh:=(sq sl (sq sl (sq (sq sl (sb (sp 0 [0,3,4] [(2,[3])] (sq (sq sl (sc sl sl)) (sq (sb sl) sl))))) (sq sl sl))))
def sY:PX 187 lN:=⟨_,by conv=>lhs;reduce⟩
def rP:PL 187 lN 0:=⟨_,by conv=>lhs;reduce⟩
def fK(k2:Q2):Nat->Q2
 |0,_,_=>none
 |n+1,vs,s=>eU c F bu (fK k2 n) [k2] rP.1 vs s
def jE(k2:Q2)(n:Nat)(vs:List AV)(s:St):=(by dsimp only[fK,rP,go_sem,Int.reduceOfNat]:fK c F k2 (n+1) vs s=_)
def lO:Un->List Q2->Nat->Q2
 |.z,[k2]=>fK c F k2
 |_,_=>λ_=>fH
def oo:O2:=bg c F (lO c F) sY.1 [x0] s
def Da:=(by dsimp only[oo,sY, ↓lO,go_sem,Int.reduceOfNat]:oo c F x0 s=_)
def lQ:Sh:=(sq sl (sq (sq sl (sc (sq sl sl) sl)) (sq (sq sl (sb (sp 0 [0,1,5] [(1,[4]),(2,[])] (sq (sq sl (sc sl sl)) (sq (sb (sq sl (sc (sq sl sl) sl))) sl))))) (sq sl sl))))
def sZ:PX 188 lQ:=⟨_,by conv=>lhs;reduce⟩
def rQ:PL 188 lQ 0:=⟨_,by conv=>lhs;reduce⟩
def fL(k1 k2:Q2):Nat->Q2
 |0,_,_=>none
 |n+1,vs,s=>eU c F bu (fL k1 k2 n) [k1,k2] rQ.1 vs s
def pZ(k1 k2:Q2)(n:Nat)(vs:List AV)(s:St):=(by dsimp only[fL,rQ,go_sem,Int.reduceOfNat]:fL c F k1 k2 (n+1) vs s=_)
def lR:Un->List Q2->Nat->Q2
 |.z,[k1,k2]=>fL c F k1 k2
 |_,_=>λ_=>fH
def oq:O2:=bg c F (lR c F) sZ.1 [x0,x1] s
def Db:=(by dsimp only[oq,sZ, ↓lR,go_sem,Int.reduceOfNat]:oq c F x0 x1 s=_)
end
section
variable{c:ah}(hc:Sem c)(F:Nat){x0 x1 x2 x3 x4 x5 x6 x7 x8 x9 B5 Ib:AV}{s:St}{r:AV×St}
include hc
theorem yN(h:lD c F x0 s=some r):c 47 [x0] s=some (tidy s r):=hc.o0 F qG (by kernel_rfl) (by kernel_rfl) h
theorem yO(h:lF c F x0 x1 s=some r):c 49 [x0,x1] s=some (tidy s r):=hc.o0 F qI (by kernel_rfl) (by kernel_rfl) h
theorem zB(h:mN c F x0 s=some r):c 96 [x0] s=some (tidy s r):=hc.o1 F (kB c F) kA (by kernel_rfl) (by kernel_rfl) (λ_ _ _=>by kernel_rfl) (λ_ _ _ _=>by kernel_rfl) (by kernel_rfl) h
theorem zC(h:mO c F x0 s=some r):c 97 [x0] s=some (tidy s r):=hc.o1 F (kD c F) kC (by kernel_rfl) (by kernel_rfl) (λ_ _ _=>by kernel_rfl) (λ_ _ _ _=>by kernel_rfl) (by kernel_rfl) h
theorem Bt(h:pz c F x0 s=some r):c 98 [x0] s=some (tidy s r):=hc.o1 F (mQ c F) mP (by kernel_rfl) (by kernel_rfl) (λ_ _ _=>by kernel_rfl) (λ_ _ _ _=>by kernel_rfl) (by kernel_rfl) h
theorem Bu(h:pE c F x0 s=some r):c 99 [x0] s=some (tidy s r):=hc.o1 F (mS c F) mR (by kernel_rfl) (by kernel_rfl) (λ_ _ _=>by kernel_rfl) (λ_ _ _ _=>by kernel_rfl) (by kernel_rfl) h
theorem A4(h:ob c F x0 s=some r):c 100 [x0] s=some (tidy s r):=hc.o1 F (lJ c F) lH (by kernel_rfl) (by kernel_rfl) (λ_ _ _=>by kernel_rfl) (λ_ _ _ _=>by kernel_rfl) (by kernel_rfl) h
theorem zD(h:mT c F x0 x1 s=some r):c 102 [x0,x1] s=some (tidy s r):=hc.o1 F (kF c F) kE (by kernel_rfl) (by kernel_rfl) (λ_ _ _=>by kernel_rfl) (λ_ _ _ _=>by kernel_rfl) (by kernel_rfl) h
theorem zE(h:mU c F x0 x1 s=some r):c 103 [x0,x1] s=some (tidy s r):=hc.o1 F (kH c F) kG (by kernel_rfl) (by kernel_rfl) (λ_ _ _=>by kernel_rfl) (λ_ _ _ _=>by kernel_rfl) (by kernel_rfl) h
theorem Bv(h:pF c F x0 x1 s=some r):c 104 [x0,x1] s=some (tidy s r):=hc.o1 F (mW c F) mV (by kernel_rfl) (by kernel_rfl) (λ_ _ _=>by kernel_rfl) (λ_ _ _ _=>by kernel_rfl) (by kernel_rfl) h
theorem Bw(h:pG c F x0 x1 s=some r):c 105 [x0,x1] s=some (tidy s r):=hc.o1 F (mY c F) mX (by kernel_rfl) (by kernel_rfl) (λ_ _ _=>by kernel_rfl) (λ_ _ _ _=>by kernel_rfl) (by kernel_rfl) h
theorem A5(h:oc c F x0 x1 s=some r):c 106 [x0,x1] s=some (tidy s r):=hc.o1 F (lM c F) lK (by kernel_rfl) (by kernel_rfl) (λ_ _ _=>by kernel_rfl) (λ_ _ _ _=>by kernel_rfl) (by kernel_rfl) h
theorem A6(h:od c F x0 s=some r):c 132 [x0] s=some (tidy s r):=hc.o0 F sP (by kernel_rfl) (by kernel_rfl) h
theorem A7(h:oe c F x0 s=some r):c 133 [x0] s=some (tidy s r):=hc.o0 F sR (by kernel_rfl) (by kernel_rfl) h
theorem A8(h:oh c F x0 x1 s=some r):c 134 [x0,x1] s=some (tidy s r):=hc.o0 F sU (by kernel_rfl) (by kernel_rfl) h
theorem A9(h:om c F x0 x1 s=some r):c 135 [x0,x1] s=some (tidy s r):=hc.o0 F sW (by kernel_rfl) (by kernel_rfl) h
theorem Ba(h:oo c F x0 s=some r):c 187 [x0] s=some (tidy s r):=hc.o1 F (lO c F) lN (by kernel_rfl) (by kernel_rfl) (λ_ _ _=>by kernel_rfl) (λ_ _ _ _=>by kernel_rfl) (by kernel_rfl) h
theorem Bb(h:oq c F x0 x1 s=some r):c 188 [x0,x1] s=some (tidy s r):=hc.o1 F (lR c F) lQ (by kernel_rfl) (by kernel_rfl) (λ_ _ _=>by kernel_rfl) (λ_ _ _ _=>by kernel_rfl) (by kernel_rfl) h
end
end
section
open Go Go.Ai Go.Proofs
variable{c:ah}
theorem abK(t:Ty)(H:Pos->Option AB)(n:Pos):au.run H n (.bin .neq (.struct [(0,.s),(1,.s),(2,.i)])) [.agg t.cells,.agg t.cells]=some (.val (.bool false)):=by
 simp[au.run,gx,mb,Ex,eqFields,Ty.cells,nth,tF,cB,iu,dA]
theorem abL(t:Rl)(H:Pos->Option AB)(n:Pos):au.run H n (.bin .neq (.struct [(0,.i),(1,.i),(2,.s),(3,.s),(4,.s),(5,.i)])) [.agg t.cells,.agg t.cells]=some (.val (.bool false)):=by
 simp[au.run,gx,mb,Ex,eqFields,Rl.cells,nth,tF,cB,iu,dA]
theorem aa2(t:Ty)(K:AV->Option (AV×St)):gu (.bin .neq (.struct [(0,.s),(1,.s),(2,.i)])) [.agg t.cells,.agg t.cells] K=K (.bool false):=cO K (abK t)
theorem aa3(t:Rl)(K:AV->Option (AV×St)):gu (.bin .neq (.struct [(0,.i),(1,.i),(2,.s),(3,.s),(4,.s),(5,.i)])) [.agg t.cells,.agg t.cells] K=K (.bool false):=cO K (abL t)
theorem PM(z z':Bool)(l:List (Int))(hl:l.length<cw)(F:Nat)(k1 k2)(s:St):∀(m k f:Nat),m<f->k+m=l.length->gb c F k1 k2 f [ints z l,ints z' l,.int .i64 (k:Int)] s=k2 [] s:=by
 have lI:∀(z:Bool)(K:AV->St->Option (AV×St))(s:St),ai c (.lenB .l) [ints z l] s K=K (.int .i64 (l.length:Int)) s:=λz K s=>by unfold ints;rw[bN];simp
 intro m;induction m with
 |zero=>
  intro k f hf h1;obtain⟨f,rfl⟩:∃g,f=g+1:=⟨f - 1,by omega⟩
  obtain rfl:k=l.length:=by omega
  rw[qP];simp[lI]
 |succ m ih=>
  intro k f hf h1;obtain⟨f,rfl⟩:∃g,f=g+1:=⟨f - 1,by omega⟩
  have h:k<l.length:=by omega
  have w:aB .i64 ((k:Int)+1)=((k+1:Nat):Int):=wrap64 (by omega) (by unfold cw at hl;omega);rw[<-ih (k+1) f (by omega) (by omega),qP];unfold ints at lI ⊢;simp[lI,h,w]
theorem Ki(hc:Sem c)(z z':Bool)(l:List (Int))(hl:l.length<cw)(s:St):c 105 [ints z l,ints z' l] s=some (.bool true,s):=by
 have lI:∀(z:Bool)(K:AV->St->Option (AV×St))(s:St),ai c (.lenB .l) [ints z l] s K=K (.int .i64 (l.length:Int)) s:=λz K s=>by unfold ints;rw[bN];simp
 have L:=PM (c:=c) z z' l hl (l.length+1) (λvs Ef=>dO vs λx4 vs=>fG vs (some (x4,Ef))) (λvs Eg=>fG vs (ai c .move [.bool true] Eg λx4 pR=>some (x4,pR))) s l.length 0 (l.length+1) (by omega) (by omega);rw[Bw hc (l.length+1) (r:=(.bool true,s)),aA (Plain.bool _) (aV.refl s)];rw[Ep];simp at L;simp[lI,L]
theorem NU(z z':Bool)(l:List (List Nat))(hl:l.length<cw)(F:Nat)(k1 k2)(s:St):∀(m k f:Nat),m<f->k+m=l.length->fL c F k1 k2 f [dD z l,dD z' l,.int .i64 (k:Int)] s=k2 [] s:=by
 have lI:∀(z:Bool)(K:AV->St->Option (AV×St))(s:St),ai c (.lenB .l) [dD z l] s K=K (.int .i64 (l.length:Int)) s:=λz K s=>by unfold dD;rw[bN];simp
 intro m;induction m with
 |zero=>
  intro k f hf h1;obtain⟨f,rfl⟩:∃g,f=g+1:=⟨f - 1,by omega⟩
  obtain rfl:k=l.length:=by omega
  rw[pZ];simp[lI]
 |succ m ih=>
  intro k f hf h1;obtain⟨f,rfl⟩:∃g,f=g+1:=⟨f - 1,by omega⟩
  have h:k<l.length:=by omega
  have w:aB .i64 ((k:Int)+1)=((k+1:Nat):Int):=wrap64 (by omega) (by unfold cw at hl;omega);rw[<-ih (k+1) f (by omega) (by omega),pZ];unfold dD at lI ⊢;simp[lI,h,w]
theorem SG(hc:Sem c)(z z':Bool)(l:List (List Nat))(hl:l.length<cw)(s:St):c 188 [dD z l,dD z' l] s=some (.bool true,s):=by
 have lI:∀(z:Bool)(K:AV->St->Option (AV×St))(s:St),ai c (.lenB .l) [dD z l] s K=K (.int .i64 (l.length:Int)) s:=λz K s=>by unfold dD;rw[bN];simp
 have L:=NU (c:=c) z z' l hl (l.length+1) (λvs Ef=>dO vs λx4 vs=>fG vs (some (x4,Ef))) (λvs Eg=>fG vs (ai c .move [.bool true] Eg λx4 pR=>some (x4,pR))) s l.length 0 (l.length+1) (by omega) (by omega);rw[Bb hc (l.length+1) (r:=(.bool true,s)),aA (Plain.bool _) (aV.refl s)];rw[Db];simp at L;simp[lI,L]
theorem PN(z z':Bool)(l:List (Ty))(hl:l.length<cw)(F:Nat)(k1 k2)(s:St):∀(m k f:Nat),m<f->k+m=l.length->fZ c F k1 k2 f [bR z l,bR z' l,.int .i64 (k:Int)] s=k2 [] s:=by
 have lI:∀(z:Bool)(K:AV->St->Option (AV×St))(s:St),ai c (.lenB .l) [bR z l] s K=K (.int .i64 (l.length:Int)) s:=λz K s=>by unfold bR;rw[bN];simp
 intro m;induction m with
 |zero=>
  intro k f hf h1;obtain⟨f,rfl⟩:∃g,f=g+1:=⟨f - 1,by omega⟩
  obtain rfl:k=l.length:=by omega
  rw[qO];simp[lI]
 |succ m ih=>
  intro k f hf h1;obtain⟨f,rfl⟩:∃g,f=g+1:=⟨f - 1,by omega⟩
  have h:k<l.length:=by omega
  have w:aB .i64 ((k:Int)+1)=((k+1:Nat):Int):=wrap64 (by omega) (by unfold cw at hl;omega);rw[<-ih (k+1) f (by omega) (by omega),qO];unfold bR at lI ⊢;simp[lI,h,w,aa2,Ty.len]
theorem Tp(hc:Sem c)(z z':Bool)(l:List (Ty))(hl:l.length<cw)(s:St):c 104 [bR z l,bR z' l] s=some (.bool true,s):=by
 have lI:∀(z:Bool)(K:AV->St->Option (AV×St))(s:St),ai c (.lenB .l) [bR z l] s K=K (.int .i64 (l.length:Int)) s:=λz K s=>by unfold bR;rw[bN];simp
 have L:=PN (c:=c) z z' l hl (l.length+1) (λvs Ef=>dO vs λx4 vs=>fG vs (some (x4,Ef))) (λvs Eg=>fG vs (ai c .move [.bool true] Eg λx4 pR=>some (x4,pR))) s l.length 0 (l.length+1) (by omega) (by omega);rw[Bv hc (l.length+1) (r:=(.bool true,s)),aA (Plain.bool _) (aV.refl s)];rw[Eo];simp at L;simp[lI,L]
theorem NV(z z':Bool)(l:List (Rl))(hl:l.length<cw)(F:Nat)(k1 k2)(s:St):∀(m k f:Nat),m<f->k+m=l.length->fJ c F k1 k2 f [gJ z l,gJ z' l,.int .i64 (k:Int)] s=k2 [] s:=by
 have lI:∀(z:Bool)(K:AV->St->Option (AV×St))(s:St),ai c (.lenB .l) [gJ z l] s K=K (.int .i64 (l.length:Int)) s:=λz K s=>by unfold gJ;rw[bN];simp
 intro m;induction m with
 |zero=>
  intro k f hf h1;obtain⟨f,rfl⟩:∃g,f=g+1:=⟨f - 1,by omega⟩
  obtain rfl:k=l.length:=by omega
  rw[pY];simp[lI]
 |succ m ih=>
  intro k f hf h1;obtain⟨f,rfl⟩:∃g,f=g+1:=⟨f - 1,by omega⟩
  have h:k<l.length:=by omega
  have w:aB .i64 ((k:Int)+1)=((k+1:Nat):Int):=wrap64 (by omega) (by unfold cw at hl;omega);rw[<-ih (k+1) f (by omega) (by omega),pY];unfold gJ at lI ⊢;simp[lI,h,w,aa3]
theorem SH(hc:Sem c)(z z':Bool)(l:List (Rl))(hl:l.length<cw)(s:St):c 106 [gJ z l,gJ z' l] s=some (.bool true,s):=by
 have lI:∀(z:Bool)(K:AV->St->Option (AV×St))(s:St),ai c (.lenB .l) [gJ z l] s K=K (.int .i64 (l.length:Int)) s:=λz K s=>by unfold gJ;rw[bN];simp
 have L:=NV (c:=c) z z' l hl (l.length+1) (λvs Ef=>dO vs λx4 vs=>fG vs (some (x4,Ef))) (λvs Eg=>fG vs (ai c .move [.bool true] Eg λx4 pR=>some (x4,pR))) s l.length 0 (l.length+1) (by omega) (by omega);rw[A5 hc (l.length+1) (r:=(.bool true,s)),aA (Plain.bool _) (aV.refl s)];rw[C0];simp at L;simp[lI,L]
theorem SI(hc:Sem c)(t t':aD)(h:t.cj t')(hl:t.cg.length<cw)(s:St)(hw:Wf s):c 134 [.agg t.cells,.agg t'.cells] s=some (.bool true,s):=by
 obtain⟨z,rfl⟩:=h;have bM:Wf (af s (.cells t.cells 0)):=bt hw;have x1:=(Grew.af bM (.cells ({ t with oz:=z }:aD).cells 0)).get (aE s (.cells t.cells 0));have x2:=aE (af s (.cells t.cells 0)) (.cells ({ t with oz:=z }:aD).cells 0);have S:=Ki hc t.oz z t.cg hl (af (af s (.cells t.cells 0)) (.cells ({ t with oz:=z }:aD).cells 0));rw[A8 hc 1 (r:=(.bool true,af (af s (.cells t.cells 0)) (.cells ({ t with oz:=z }:aD).cells 0))),aA (Plain.bool _) ((aZ hw).trans (aZ bM))];rw[C8];have a0:t.cells[0]? =some (.str t.name):=rfl;have a1:t.cells[1]? =some (.int .u8 t.sh):=rfl;have a2:t.cells[2]? =some (.int .i64 t.a):=rfl;have a3:t.cells[3]? =some (.int .i64 t.b):=rfl;have a4:t.cells[4]? =some (ints t.oz t.cg):=rfl;have a5:t.cells[5]? =some (.int .i64 t.x):=rfl;have a6:t.cells[6]? =some (.int .i64 t.y):=rfl;have b0:({ t with oz:=z }:aD).cells[0]? =some (.str t.name):=rfl;have b1:({ t with oz:=z }:aD).cells[1]? =some (.int .u8 t.sh):=rfl;have b2:({ t with oz:=z }:aD).cells[2]? =some (.int .i64 t.a):=rfl;have b3:({ t with oz:=z }:aD).cells[3]? =some (.int .i64 t.b):=rfl;have b4:({ t with oz:=z }:aD).cells[4]? =some (ints z t.cg):=rfl;have b5:({ t with oz:=z }:aD).cells[5]? =some (.int .i64 t.x):=rfl;have b6:({ t with oz:=z }:aD).cells[6]? =some (.int .i64 t.y):=rfl;simp[x1,x2,a0,a1,a2,a3,a4,a5,a6,b0,b1,b2,b3,b4,b5,b6,S]
theorem SJ(hc:Sem c)(t t':aG)(h:t.cj t')(hl:t.tg.length<cw)(s:St)(hw:Wf s):c 135 [.agg t.cells,.agg t'.cells] s=some (.bool true,s):=by
 obtain⟨z,rfl⟩:=h;have bM:Wf (af s (.cells t.cells 0)):=bt hw;have x1:=(Grew.af bM (.cells ({ t with tz:=z }:aG).cells 0)).get (aE s (.cells t.cells 0));have x2:=aE (af s (.cells t.cells 0)) (.cells ({ t with tz:=z }:aG).cells 0);have S:=SG hc t.tz z t.tg hl (af (af s (.cells t.cells 0)) (.cells ({ t with tz:=z }:aG).cells 0));rw[A9 hc 1 (r:=(.bool true,af (af s (.cells t.cells 0)) (.cells ({ t with tz:=z }:aG).cells 0))),aA (Plain.bool _) ((aZ hw).trans (aZ bM))];rw[C9];have a0:t.cells[0]? =some (.str t.name):=rfl;have b0:({ t with tz:=z }:aG).cells[0]? =some (.str t.name):=rfl;have a1:t.cells[1]? =some (.str t.ku):=rfl;have b1:({ t with tz:=z }:aG).cells[1]? =some (.str t.ku):=rfl;have a2:t.cells[2]? =some (.str t.iH):=rfl;have b2:({ t with tz:=z }:aG).cells[2]? =some (.str t.iH):=rfl;have a3:t.cells[3]? =some (.int .i64 t.since):=rfl;have b3:({ t with tz:=z }:aG).cells[3]? =some (.int .i64 t.since):=rfl;have a4:t.cells[4]? =some (.int .i64 t.side):=rfl;have b4:({ t with tz:=z }:aG).cells[4]? =some (.int .i64 t.side):=rfl;have a5:t.cells[5]? =some (.str t.kz):=rfl;have b5:({ t with tz:=z }:aG).cells[5]? =some (.str t.kz):=rfl;have a6:t.cells[6]? =some (.bool t.host):=rfl;have b6:({ t with tz:=z }:aG).cells[6]? =some (.bool t.host):=rfl;have a7:t.cells[7]? =some (.bool t.access):=rfl;have b7:({ t with tz:=z }:aG).cells[7]? =some (.bool t.access):=rfl;have a8:t.cells[8]? =some (dD t.tz t.tg):=rfl;have b8:({ t with tz:=z }:aG).cells[8]? =some (dD z t.tg):=rfl;simp[x1,x2,a0,a1,a2,a3,a4,a5,a6,a7,a8,b0,b1,b2,b3,b4,b5,b6,b7,b8,S]
theorem MN(hc:Sem c)(z z':Bool)(l l':List (aD))(hl:l.length<cw)(SK:l'.length=l.length)(hs:∀(i:Nat)(t t':aD),l[i]? =some t->l'[i]? =some t'->t.cj t')(hr:∀t∈l,t.cg.length<cw)(F:Nat)(k1 k2)(s:St)(hw:Wf s):∀(m k f:Nat),m<f->k+m=l.length->fC c F k1 k2 f [tabs z l,tabs z' l',.int .i64 (k:Int)] s=k2 [] s:=by
 have lI:∀(z:Bool)(l:List (aD))(K:AV->St->Option (AV×St))(s:St),ai c (.lenB .l) [tabs z l] s K=K (.int .i64 (l.length:Int)) s:=λz l K s=>by unfold tabs;rw[bN];simp
 intro m;induction m with
 |zero=>
  intro k f hf h1;obtain⟨f,rfl⟩:∃g,f=g+1:=⟨f - 1,by omega⟩
  obtain rfl:k=l.length:=by omega
  rw[oN];simp[lI]
 |succ m ih=>
  intro k f hf h1;obtain⟨f,rfl⟩:∃g,f=g+1:=⟨f - 1,by omega⟩
  have h:k<l.length:=by omega
  have h':k<l'.length:=by omega
  have w:aB .i64 ((k:Int)+1)=((k+1:Nat):Int):=wrap64 (by omega) (by unfold cw at hl;omega);have S:=SI hc l[k] l'[k] (hs k _ _ (H1 h) (H1 h')) (hr _ (Zc4 h)) s hw;rw[<-ih (k+1) f (by omega) (by omega),oN];unfold tabs at lI ⊢;simp[lI,h,h',w,S,aD.len]
theorem PO(hc:Sem c)(z z':Bool)(l l':List (aD))(hl:l.length<cw)(SK:l'.length=l.length)(hs:∀(i:Nat)(t t':aD),l[i]? =some t->l'[i]? =some t'->t.cj t')(hr:∀t∈l,t.cg.length<cw)(s:St)(hw:Wf s):c 102 [tabs z l,tabs z' l'] s=some (.bool true,s):=by
 have lI:∀(z:Bool)(l:List (aD))(K:AV->St->Option (AV×St))(s:St),ai c (.lenB .l) [tabs z l] s K=K (.int .i64 (l.length:Int)) s:=λz l K s=>by unfold tabs;rw[bN];simp
 have L:=MN hc z z' l l' hl SK hs hr (l.length+1) (λvs Ef=>dO vs λx4 vs=>fG vs (some (x4,Ef))) (λvs Eg=>fG vs (ai c .move [.bool true] Eg λx4 pR=>some (x4,pR))) s hw l.length 0 (l.length+1) (by omega) (by omega);rw[zD hc (l.length+1) (r:=(.bool true,s)),aA (Plain.bool _) (aV.refl s)];rw[Br];simp at L;simp[lI,SK,L]
theorem MO(hc:Sem c)(z z':Bool)(l l':List (aG))(hl:l.length<cw)(SK:l'.length=l.length)(hs:∀(i:Nat)(t t':aG),l[i]? =some t->l'[i]? =some t'->t.cj t')(hr:∀t∈l,t.tg.length<cw)(F:Nat)(k1 k2)(s:St)(hw:Wf s):∀(m k f:Nat),m<f->k+m=l.length->fD c F k1 k2 f [aX z l,aX z' l',.int .i64 (k:Int)] s=k2 [] s:=by
 have lI:∀(z:Bool)(l:List (aG))(K:AV->St->Option (AV×St))(s:St),ai c (.lenB .l) [aX z l] s K=K (.int .i64 (l.length:Int)) s:=λz l K s=>by unfold aX;rw[bN];simp
 intro m;induction m with
 |zero=>
  intro k f hf h1;obtain⟨f,rfl⟩:∃g,f=g+1:=⟨f - 1,by omega⟩
  obtain rfl:k=l.length:=by omega
  rw[oO];simp[lI]
 |succ m ih=>
  intro k f hf h1;obtain⟨f,rfl⟩:∃g,f=g+1:=⟨f - 1,by omega⟩
  have h:k<l.length:=by omega
  have h':k<l'.length:=by omega
  have w:aB .i64 ((k:Int)+1)=((k+1:Nat):Int):=wrap64 (by omega) (by unfold cw at hl;omega);have S:=SJ hc l[k] l'[k] (hs k _ _ (H1 h) (H1 h')) (hr _ (Zc4 h)) s hw;rw[<-ih (k+1) f (by omega) (by omega),oO];unfold aX at lI ⊢;simp[lI,h,h',w,S,aG.len]
theorem PR(hc:Sem c)(z z':Bool)(l l':List (aG))(hl:l.length<cw)(SK:l'.length=l.length)(hs:∀(i:Nat)(t t':aG),l[i]? =some t->l'[i]? =some t'->t.cj t')(hr:∀t∈l,t.tg.length<cw)(s:St)(hw:Wf s):c 103 [aX z l,aX z' l'] s=some (.bool true,s):=by
 have lI:∀(z:Bool)(l:List (aG))(K:AV->St->Option (AV×St))(s:St),ai c (.lenB .l) [aX z l] s K=K (.int .i64 (l.length:Int)) s:=λz l K s=>by unfold aX;rw[bN];simp
 have L:=MO hc z z' l l' hl SK hs hr (l.length+1) (λvs Ef=>dO vs λx4 vs=>fG vs (some (x4,Ef))) (λvs Eg=>fG vs (ai c .move [.bool true] Eg λx4 pR=>some (x4,pR))) s hw l.length 0 (l.length+1) (by omega) (by omega);rw[zE hc (l.length+1) (r:=(.bool true,s)),aA (Plain.bool _) (aV.refl s)];rw[Bs];simp at L;simp[lI,SK,L]
structure aR.cj(p p':aR):Prop where
 tl:p'.ts.length=p.ts.length
 ts:∀(i:Nat)(t t':aD),p.ts[i]? =some t->p'.ts[i]? =some t'->t.cj t'
 gl:p'.gs.length=p.gs.length
 gs:∀(i:Nat)(t t':aG),p.gs[i]? =some t->p'.gs[i]? =some t'->t.cj t'
 ys:p'.ys=p.ys
 cs:p'.cs=p.cs
 rs:p'.rs=p.rs
theorem PS.cu{s0 s:St}{Vs:List AV}{p:aR}(h:PS s0 s Vs p)(d:Nat):∃p',Go.Ai.cu s (d+3) (.agg Vs)= .agg p'.cells/\p.cj p':=by obtain⟨V1,V2,V3,V4,V5,r1,r2,rfl,h1,h2,h3,h4,h5⟩:=h.all;obtain⟨z1,sI,e1,l1,k1⟩:=h1.cu d;obtain⟨z2,gs',e2,l2,k2⟩:=h2.cu d;obtain⟨z3,e3⟩:=aa0 h3 (d+1);obtain⟨z4,e4⟩:=SE h4 (d+1);obtain⟨z5,e5⟩:=aa1 h5 (d+1);refine⟨⟨z1,sI,z2,gs',z3,p.ys,z4,p.cs,z5,p.rs⟩,?_,⟨l1,k1,l2,k2,rfl,rfl,rfl⟩⟩;rw[Nj];simp only[Zb4,Zf0,e1,e2,e3,e4,e5];rfl
structure aR.Big(p:aR):Prop where
 ts:p.ts.length<cw
 cg:∀t∈p.ts,t.cg.length<cw
 gs:p.gs.length<cw
 tg:∀t∈p.gs,t.tg.length<cw
 ys:p.ys.length<cw
 cs:p.cs.length<cw
 rs:p.rs.length<cw
theorem NW(hc:Sem c)(p p':aR)(h:p.cj p')(hb:p.Big)(s:St)(hw:Wf s):c 49 [.agg p.cells,.agg p'.cells] s=some (.bool true,s):=by
 have bM:Wf (af s (.cells p.cells 0)):=bt hw;have eB:Wf (af (af s (.cells p.cells 0)) (.cells p'.cells 0)):=bt bM;have x1:=(Grew.af bM (.cells p'.cells 0)).get (aE s (.cells p.cells 0));have x2:=aE (af s (.cells p.cells 0)) (.cells p'.cells 0);have S1:=PO hc p.tz p'.tz p.ts p'.ts hb.ts h.tl h.ts hb.cg _ eB;have S2:=PR hc p.gz p'.gz p.gs p'.gs hb.gs h.gl h.gs hb.tg _ eB;have S3:=Tp hc p.yz p'.yz p.ys hb.ys (af (af s (.cells p.cells 0)) (.cells p'.cells 0));have S4:=Ki hc p.cz p'.cz p.cs hb.cs (af (af s (.cells p.cells 0)) (.cells p'.cells 0));have S5:=SH hc p.rz p'.rz p.rs hb.rs (af (af s (.cells p.cells 0)) (.cells p'.cells 0));rw[yO hc 1 (r:=(.bool true,af (af s (.cells p.cells 0)) (.cells p'.cells 0))),aA (Plain.bool _) ((aZ hw).trans (aZ bM))];rw[A3];have y3:p'.cells[2]? =some (bR p'.yz p.ys):=by rw[<-h.ys];rfl
 have y4:p'.cells[3]? =some (ints p'.cz p.cs):=by rw[<-h.cs];rfl
 have y5:p'.cells[4]? =some (gJ p'.rz p.rs):=by rw[<-h.rs];rfl
 simp[-aR.c2,-aR.c3,-aR.c4,x1,x2,S1,S2,S3,S4,S5,y3,y4,y5,show p.cells[2]? =some (bR p.yz p.ys)from rfl,show p.cells[3]? =some (ints p.cz p.cs)from rfl,show p.cells[4]? =some (gJ p.rz p.rs)from rfl]
theorem NX(hc:Sem c)(p:aR)(hp:p.iO)(hr:∀r∈p.rs,r.Ok)(q1:Pos)(F:Nat)(st:St)(hw:Wf st)(hq:st.heap.get q1=some (.cells p.cells 0))(k1 k2):∀(m k:Nat),p.rs.length<=k+m->k<=p.rs.length->k<=64->
  eZ c F k1 k2 (m+1) [.ptr q1 0,.int .i64 (k:Int)] st=if(dX p m k).2=0 then k2 [] st else k1 [.int .i64 (dX p m k).1,.int .i64 (dX p m k).2] st:=by
 have hl:=hp.rs;intro m;induction m with
 |zero=>
  intro k h3 h4 h64;obtain rfl:k=p.rs.length:=by omega
  rw[kj];simp[dX,hq]
 |succ m ih=>
  intro k h3 h4 h64;by_cases h:k<p.rs.length
  . have w:aB .i64 ((k:Int)+1)=((k+1:Nat):Int):=wrap64 (by omega) (by omega);obtain⟨n,hk⟩:∃n:Nat,p.rs[k].k=(n:Int):=⟨p.rs[k].k.toNat,by have:=(hr _ (Zc4 h)).1;omega⟩
    have hn:n<256:=(by have:=(hr _ (Zc4 h)).2;omega);have Hp:=To hc p hp p.rs[k] n hk hn st hw;have hS:tB p p.rs[k]=CX (kd n) p p.rs[k]:=(by unfold tB;rw[hk];rfl);rw[<-hS]at Hp;rw[kj,dX,H1 h];simp only;by_cases h5:tB p p.rs[k]=0
    .   simp only[h5,ne_eq,not_true,Zd5];by_cases h6:k=64
        .rw[Za7 h6];have Su:decide ((64:Int)<=(k:Int))=true:=(by simp only[Zc2];omega);simp[gJ,h,hq,Hp,h5,Su]
        .have g2:=ih (k+1) (by omega) (by omega) (by omega);simp only[h6,Zd5];rw[<-g2];have Su:¬(64:Int)<=(k:Int):=(by omega);simp[gJ,h,hq,Hp,h5,Su,w]
    .   simp only[ne_eq,h5,Zk8,Ze5,Zd5];simp[gJ,h,hq,Hp,h5]
  .obtain rfl:k=p.rs.length:=(by omega);rw[kj];simp[dX,hq]
theorem SL(hc:Sem c)(p:aR)(hp:p.iO)(hR:IQ c p)(hr:∀r∈p.rs,r.Ok)(st:St)(hw:Wf st):c 53 [.agg p.cells] st=some (.tuple [.int .i64 (bX p).1,.int .i64 (bX p).2],st):=by
 have mo:Plain (.tuple [.int .i64 (bX p).1,.int .i64 (bX p).2]):=Plain.tuple (by simp[Plain.int]);have bM:Wf (af st (.cells p.cells 0)):=bt hw;have Ck:=Grew.af hw (.cells p.cells 0);have c9:(af st (.cells p.cells 0)).heap.get st.next=some (.cells p.cells 0):=aE _ _;have B:=Tn hc p hp hR _ bM;rw[CO hc 101 (r:=(.tuple [.int .i64 (bX p).1,.int .i64 (bX p).2],af st (.cells p.cells 0))),aA mo Ck.keeps];rw[Ft];have L:∀k1 k2,eZ c 101 k1 k2 101 [.ptr st.next 0,.int .i64 0] (af st (.cells p.cells 0))=if(dX p 100 0).2=0 then k2 [] (af st (.cells p.cells 0))else k1 [.int .i64 (dX p 100 0).1,.int .i64 (dX p 100 0).2] (af st (.cells p.cells 0)):=
   λk1 k2=>NX hc p hp hr st.next 101 _ bM c9 k1 k2 100 0 (by have:=hp.rs;omega) (by omega) (by omega)
 by_cases h:(eY p).2=0
 . have e:bX p=dX p 100 0:=(by unfold bX;rw[Za4 (by simp[h])]);rw[e];by_cases h2:(dX p 100 0).2=0
   .have:=CY p 100 0 h2;simp[c9,B,h,L,h2,this]
   .simp[c9,B,h,L,h2]
 .have e:bX p=eY p:=(by unfold bX;rw[Za7 h]);rw[e];simp[c9,B,h]
theorem Jp{α β:Type}{P:α->α->Prop}{l l':List α}(hl:l'.length=l.length)(hs:∀(i:Nat)(t t':α),l[i]? =some t->l'[i]? =some t'->P t t')(f:α->β)(hf:∀t t',P t t'->f t'=f t)(i:Nat):l'[i]?.map f=l[i]?.map f:=by
 by_cases h:i<l.length
 .have h':i<l'.length:=(by omega);rw[H1 h,H1 h'];simp only[Zd6,H0];exact hf _ _ (hs i _ _ (H1 h) (H1 h'))
 .rw[Zb1 (by omega),Zb1 (by omega)]
theorem ZA{t t':aD}(h:t.cj t'):qA t'=qA t:=by obtain⟨z,rfl⟩:=h;rfl
theorem UD{t t':aD}(h:t.cj t'):cv t'=cv t:=by obtain⟨z,rfl⟩:=h;rfl
theorem XG{t t':aG}(h:t.cj t'):eH t'=eH t:=by obtain⟨z,rfl⟩:=h;rfl
variable{p p':aR}
theorem aR.cj.nm(h:p.cj p')(s:List Nat):gI p'.ts s=gI p.ts s:=funext λi=>by
 unfold gI;rw[Jp h.tl h.ts aD.name (λt t' k=>by obtain⟨z,rfl⟩:=k;rfl)]
theorem aR.cj.gm(h:p.cj p')(s:List Nat):fW p'.gs s=fW p.gs s:=funext λi=>by
 unfold fW;rw[Jp h.gl h.gs aG.name (λt t' k=>by obtain⟨z,rfl⟩:=k;rfl)]
theorem aR.cj.at(h:p.cj p'):∀(m k:Nat),cS p'.ts m k=cS p.ts m k
 |0,_=>rfl
 |m +1,k=>by
  have ih:=h.at m (k+1);unfold cS;by_cases hk:k<p.ts.length
  .have je:k<p'.ts.length:=(by rw[h.tl];exact hk);have hs:=h.ts k _ _ (H1 hk) (H1 je);have hn:p'.ts[k].name=p.ts[k].name:=(by obtain⟨z,e⟩:=hs;rw[e]);rw[H1 hk,H1 je];simp only[ZA hs,hn,h.nm,ih]
  .have je:¬k<p'.ts.length:=(by rw[h.tl];exact hk);rw[Zb1 (by omega),Zb1 (by omega)]
theorem aR.cj.wE(h:p.cj p'):bf p'.ts=bf p.ts:=by unfold bf;rw[h.tl,h.at]
theorem aR.cj.gsAt(h:p.cj p'):∀(m k:Nat),fQ p'.gs m k=fQ p.gs m k
 |0,_=>rfl
 |m +1,k=>by
  have ih:=h.gsAt m (k+1);unfold fQ;by_cases hk:k<p.gs.length
  .have je:k<p'.gs.length:=(by rw[h.gl];exact hk);have hs:=h.gs k _ _ (H1 hk) (H1 je);have hn:p'.gs[k].name=p.gs[k].name:=(by obtain⟨z,e⟩:=hs;rw[e]);rw[H1 hk,H1 je];simp only[XG hs,hn,h.gm,ih]
  .have je:¬k<p'.gs.length:=(by rw[h.gl];exact hk);rw[Zb1 (by omega),Zb1 (by omega)]
theorem aR.cj.unk(h:p.cj p')(t:Ty):iZ p'.gs t=iZ p.gs t:=by unfold iZ;rw[h.gm,h.gm,h.gl]
theorem aR.cj.tyAt(h:p.cj p')(ts:List Ty):∀(m k:Nat),ee p'.gs ts m k=ee p.gs ts m k
 |0,_=>rfl
 |m+1,k=>by
  have ih:=h.tyAt ts m (k+1);unfold ee;cases ts[k]? with
  |none=>rfl
  |some t=>simp only[h.gl,h.unk,ih]
theorem aR.cj.roll(h:p.cj p'):bB p'.gs p'.ys=bB p.gs p.ys:=by unfold bB;rw[h.ys,h.gsAt,h.tyAt]
theorem aR.cj.sum(h:p.cj p'):bK p'.ts=bK p.ts:=by
 unfold bK;congr 1;refine Zi5 λi=> ?_
 rw[Zb7,Zb7];exact Jp h.tl h.ts cv (λt t' k=>UD k) i
theorem aR.cj.basis(h:p.cj p'):eY p'=eY p:=by unfold eY;rw[h.wE,h.roll,h.cs,h.gl,h.sum]
theorem aR.cj.gi(h:p.cj p')(s:List Nat):Go.Proofs.YtlkadmkojjceiaaGreatDoor.gi p' s=Go.Proofs.YtlkadmkojjceiaaGreatDoor.gi p s:=by unfold Go.Proofs.YtlkadmkojjceiaaGreatDoor.gi;rw[h.gm,h.gl]
theorem aR.cj.ti(h:p.cj p')(s:List Nat):Go.Proofs.YtlkadmkojjceiaaGreatDoor.ti p' s=Go.Proofs.YtlkadmkojjceiaaGreatDoor.ti p s:=by unfold Go.Proofs.YtlkadmkojjceiaaGreatDoor.ti;rw[h.nm,h.tl]
theorem aR.cj.qF(h:p.cj p')(i:Int):Go.Proofs.YtlkadmkojjceiaaGreatDoor.qF p' i=Go.Proofs.YtlkadmkojjceiaaGreatDoor.qF p i:=by
 unfold Go.Proofs.YtlkadmkojjceiaaGreatDoor.qF;have:=Jp h.tl h.ts cv (λt t' k=>UD k) i.toNat;cases h1:p.ts[i.toNat]? with
 |none=>rw[h1]at this;cases h2:p'.ts[i.toNat]? with
  |none=>rfl
  |some t=>rw[h2]at this;cases this
 |some t=>rw[h1]at this;cases h2:p'.ts[i.toNat]? with
  |none=>rw[h2]at this;cases this
  |some t'=>rw[h2]at this;simp only[Zd6,H0]at this;simp only[this]
theorem aR.cj.rule(h:p.cj p')(r:Rl):tB p' r=tB p r:=by
 unfold tB CX Sr MM;simp only[h.gi,h.ti,h.qF]
theorem aR.cj.gJ(h:p.cj p'):∀(m k:Nat),dX p' m k=dX p m k
 |0,_=>rfl
 |m+1,k=>by
  have ih:=h.gJ m (k+1);unfold dX;rw[h.rs];cases p.rs[k]? with
  |none=>rfl
  |some r=>simp only[h.rule,ih]
theorem aR.cj.check(h:p.cj p'):bX p'=bX p:=by unfold bX;rw[h.basis,h.gJ]
def yP(p:aR)(m:Nat):Bool:=decide (p.ts.length<=m)&&decide (p.gs.length<=m)&&decide (p.ys.length<=m)&&decide (p.cs.length<=m)&&decide (p.rs.length<=m)
theorem ZB{p:aR}(h:yP p 100=true)(cJ:∀t∈p.ts,t.Ok):p.iO:=by
 unfold yP at h;simp only[Za2,Zc2]at h;exact⟨h.1.1.1.1,h.1.1.1.2,h.1.1.2,h.1.2,h.2,cJ⟩
theorem abM(hc:Sem c)(p:aR)(m:Nat)(st:St)(hw:Wf st):c 44 [.agg p.cells,.int .i64 (m:Int)] st=some (.bool (yP p m),st):=by
 have hp:=aE st (.cells p.cells 0);rw[IK hc 1 (r:=(.bool (yP p m),af st (.cells p.cells 0))),aA (Plain.bool _) (aZ hw)];rw[KS];unfold yP;by_cases h1:p.ts.length<=m
 . by_cases h2:p.gs.length<=m
   . by_cases h3:p.ys.length<=m
     .  by_cases h4:p.cs.length<=m
        .by_cases h5:p.rs.length<=m<;>simp[h1,h2,h3,h4,h5]
        .simp[h1,h2,h3,h4]
     .  simp[h1,h2,h3]
   .simp[h1,h2]
 .simp[h1]
end
section
open Go Go.Ai Go.Proofs
section
variable{p p':aR}
theorem aR.cj.symm(h:p.cj p'):p'.cj p where
 tl:=h.tl.symm
 ts i t t' h1 h2:=by obtain⟨z,rfl⟩:=h.ts i t' t h2 h1;exact⟨t'.oz,rfl⟩
 gl:=h.gl.symm
 gs i t t' h1 h2:=by obtain⟨z,rfl⟩:=h.gs i t' t h2 h1;exact⟨t'.tz,rfl⟩
 ys:=h.ys.symm
 cs:=h.cs.symm
 rs:=h.rs.symm
theorem aR.cj.trans{q:aR}(h:p.cj p')(k:p'.cj q):p.cj q where
 tl:=k.tl.trans h.tl
 ts i t t' h1 h2:=by
  have hi:i<p'.ts.length:=by rw[h.tl];exact(H3.1 h1).1
  have e:=H1 hi;obtain⟨z,e1⟩:=h.ts i _ _ h1 e;obtain⟨z2,e2⟩:=k.ts i _ _ e h2;exact⟨z2,by rw[e2,e1]⟩
 gl:=k.gl.trans h.gl
 gs i t t' h1 h2:=by
  have hi:i<p'.gs.length:=by rw[h.gl];exact(H3.1 h1).1
  have e:=H1 hi;obtain⟨z,e1⟩:=h.gs i _ _ h1 e;obtain⟨z2,e2⟩:=k.gs i _ _ e h2;exact⟨z2,by rw[e2,e1]⟩
 ys:=k.ys.trans h.ys
 cs:=k.cs.trans h.cs
 rs:=k.rs.trans h.rs
theorem aR.cj.tab(h:p.cj p'){t':aD}(ht:t'∈p'.ts):∃t∈p.ts,t.cj t':=by
 obtain⟨i,hi,rfl⟩:=Zg8.1 ht;have wS:i<p.ts.length:=by rw[<-h.tl];exact hi
 exact⟨p.ts[i],Zc4 wS,h.ts i _ _ (H1 wS) (H1 hi)⟩
theorem aR.cj.bh(h:p.cj p'){t':aG}(ht:t'∈p'.gs):∃t∈p.gs,t.cj t':=by
 obtain⟨i,hi,rfl⟩:=Zg8.1 ht;have wS:i<p.gs.length:=by rw[<-h.gl];exact hi
 exact⟨p.gs[i],Zc4 wS,h.gs i _ _ (H1 wS) (H1 hi)⟩
theorem aR.cj.few(h:p.cj p')(hp:p.iO):p'.iO where
 ts:=by rw[h.tl];exact hp.ts
 gs:=by rw[h.gl];exact hp.gs
 ys:=by rw[h.ys];exact hp.ys
 cs:=by rw[h.cs];exact hp.cs
 rs:=by rw[h.rs];exact hp.rs
 ok t ht:=by obtain⟨u,hu,z,rfl⟩:=h.tab ht;have:=hp.ok u hu;exact⟨this.1,this.2⟩
theorem aR.cj.real(h:p.cj p')(hp:p.Real):p'.Real where
 ts:=by rw[h.tl];exact hp.ts
 tab t ht:=by obtain⟨u,hu,z,rfl⟩:=h.tab ht;have:=hp.tab u hu;exact⟨this.1,this.2⟩
 gs:=by rw[h.gl];exact hp.gs
 bh t ht:=by obtain⟨u,hu,z,rfl⟩:=h.bh ht;have:=hp.bh u hu;exact⟨this.1,this.2,this.3,this.4,this.5⟩
 ys:=by rw[h.ys];exact hp.ys
 cs:=by rw[h.cs];exact hp.cs
 rs:=by rw[h.rs];exact hp.rs
theorem aR.Real.acH(hp:p.Real)(hk:∀t∈p.ts,t.Ok):p.Big where
 ts:=by have:=hp.ts;unfold cw;omega
 cg t ht:=(hk t ht).2
 gs:=by have:=hp.gs;unfold cw;omega
 tg t ht:=by have h:=(hp.bh t ht).tg;have h:t.tg.length<=1048576:=h;unfold cw;omega
 ys:=by have h:=hp.ys;have h:p.ys.length<=1048576:=h;unfold cw;omega
 cs:=by have h:=hp.cs;have h:p.cs.length<=1048576:=h;unfold cw;omega
 rs:=by have h:=hp.rs;have h:p.rs.length<=1048576:=h;unfold cw;omega
theorem XH(s:St)(d es:Nat)(z:Bool)(l:List (List AV)):cu s d (ro es z l)=ro es z l:=by unfold ro;split<;>cases d<;>rfl
theorem Jq(s:St)(d:Nat)(p:aR):cu s (d+1) (.agg p.cells)= .agg p.cells:=by
 rw[Nj];simp only[aR.cells,tabs,aX,bR,ints,gJ,Zb4,Zf0,XH]
theorem ZC(t:aD){v:AV}(h:bO v):∀x∈t.az v,bO x:=λx hx=>by simp only[aD.az,Za0,Zc7,Zg6]at hx;rcases hx with rfl|rfl|rfl|rfl|rfl|rfl|rfl<;>first|exact h|exact bO.str _|exact bO.int _ _
theorem ZD(t:aG){v:AV}(h:bO v):∀x∈t.az v,bO x:=λx hx=>by simp only[aG.az,Za0,Zc7,Zg6]at hx;rcases hx with rfl|rfl|rfl|rfl|rfl|rfl|rfl|rfl|rfl<;>first|exact h|exact bO.str _|exact bO.int _ _|exact bO.bool _
theorem yp{α:Type}{f:α->List AV}(h:∀a,∀x∈f a,bO x)(l:List α):∀r∈l.map f,∀x∈r,bO x:=λr hr x hx=>by obtain⟨a,_,rfl⟩:=Zf1.1 hr;exact h a x hx
theorem O8(i:Int):∀x∈ju i,bO x:=λx hx=>by simp only[ju,Za0,Zc7,Zg6]at hx;subst hx;exact bO.int _ _
theorem XI(i:List Nat):∀x∈yM i,bO x:=λx hx=>by simp only[yM,Za0,Zc7,Zg6]at hx;subst hx;exact bO.str _
theorem aa4(t:Ty):∀x∈t.cells,bO x:=λx hx=>by simp only[Ty.cells,Za0,Zc7,Zg6]at hx;rcases hx with rfl|rfl|rfl<;>first|exact bO.str _|exact bO.int _ _
theorem aa5(t:Rl):∀x∈t.cells,bO x:=λx hx=>by simp only[Rl.cells,Za0,Zc7,Zg6]at hx;rcases hx with rfl|rfl|rfl|rfl|rfl|rfl<;>first|exact bO.str _|exact bO.int _ _
end
section
variable{s s1:St}
theorem TS.eT{V:AV}{ts:List aD}{rows:List (List AV)}(hw:Wf s)(h:TS (emptyAt s) s1 V ts rows):TS s (eT s s1) V ts rows where
 out:=Mk.eT hw h.out (λr hr x hx=>by
  obtain⟨i,hi,rfl⟩:=Zg8.1 hr;have ht:i<ts.length:=by rw[<-h.len];exact hi
  obtain⟨v,e,M,_⟩:=h.wY i _ _ (H1 ht) (H1 hi);rw[e]at hx;exact ZC _ M.own.bare x hx)
 len:=h.len
 wY i t r hi hr:=by
  obtain⟨v,e,M,n⟩:=h.wY i t r hi hr;exact⟨v,e,Mk.eT hw M (yp O8 _),n⟩
theorem GS.eT{V:AV}{ts:List aG}{rows:List (List AV)}(hw:Wf s)(h:GS (emptyAt s) s1 V ts rows):GS s (eT s s1) V ts rows where
 out:=Mk.eT hw h.out (λr hr x hx=>by
  obtain⟨i,hi,rfl⟩:=Zg8.1 hr;have ht:i<ts.length:=by rw[<-h.len];exact hi
  obtain⟨v,e,M,_⟩:=h.wY i _ _ (H1 ht) (H1 hi);rw[e]at hx;exact ZD _ M.own.bare x hx)
 len:=h.len
 wY i t r hi hr:=by
  obtain⟨v,e,M,n⟩:=h.wY i t r hi hr;exact⟨v,e,Mk.eT hw M (yp XI _),n⟩
theorem PS.eT{Vs:List AV}{p:aR}(hw:Wf s)(h:PS (emptyAt s) s1 Vs p):PS s (eT s s1) Vs p:=by
 obtain⟨V1,V2,V3,V4,V5,r1,r2,e,h1,h2,h3,h4,h5⟩:=h.all;exact⟨JZ hw h.aY.wf h.aY.next,V1,V2,V3,V4,V5,r1,r2,e,TS.eT hw h1,GS.eT hw h2,Mk.eT hw h3 (yp aa4 _),Mk.eT hw h4 (yp O8 _),Mk.eT hw h5 (yp aa5 _)⟩
theorem PS.bare{s0:St}{Vs:List AV}{p:aR}(h:PS s0 s Vs p):∀V∈Vs,bO V:=λV hV=>by
 obtain⟨V1,V2,V3,V4,V5,r1,r2,rfl,h1,h2,h3,h4,h5⟩:=h.all;simp only[Za0,Zc7,Zg6]at hV;rcases hV with rfl|rfl|rfl|rfl|rfl
 .exact h1.out.own.bare
 .exact h2.out.own.bare
 .exact h3.own.bare
 .exact h4.own.bare
 .exact h5.own.bare
end
variable{c:ah}
theorem VK(hc:Sem c)(z z2:Bool)(gs:List aG)(ts:List Ty)(hl:gs.length<=100)(p:Pos)(st:St)(hw:Wf st)(hp:st.heap.get p=some (.cells [aX z gs,bR z2 ts] 0))(F:Nat)(k1 k2):∀(m k:Nat),gs.length<=k+m->k<=gs.length->
  eW c F k1 k2 (m+1) [.ptr p 0,.int .i64 (k:Int)] st=if(fQ gs m k).2=0 then k2 [.ptr p 0] st else k1 [.int .i64 (fQ gs m k).1,.int .i64 (fQ gs m k).2] st:=by
 intro m;induction m with
 |zero=>
  intro k h1 h2;obtain rfl:k=gs.length:=by omega
  rw[nv];simp[fQ,hp]
 |succ m ih=>
  intro k h1 h2;rw[nv];by_cases h:k<gs.length
  . have w:aB .i64 ((k:Int)+1)=((k+1:Nat):Int):=wrap64 (by omega) (by omega);have hch:=R8 hc gs[k] st hw;have mq:k<=gs.length:=(by omega);have hm:min k gs.length=k:=(by omega);have J1:=MI hc (z&&gs.isEmpty) (gs.take k) gs[k].name (by unfold cw;simp;omega) st;rw[show(gs.take k).length=k by simp;omega,R9 mq]at J1;simp only[aX,List.map_take]at J1;rw[fQ,H1 h];simp only;by_cases h3:eH gs[k]=0
    .   have e3:¬eH gs[k]≠0:=(by rw[h3];simp);by_cases h4:0<=scan (fW gs gs[k].name) k 0
        .simp only[e3,h4,Zd5,Ze5];simp[aX,hp,h,mq,hch,h3,h4,J1]
        . by_cases h5:64<=k
          .have h6:(64:Int)<=k:=(by omega);simp only[e3,h4,h5,Zd5,Ze5];simp[aX,hp,h,mq,hch,h3,h4,h6,J1]
          .have h6:¬(64:Int)<=k:=(by omega);simp only[e3,h4,h5,Zd5];rw[<-ih (k+1) (by omega) (by omega)];simp[aX,hp,h,mq,hch,h3,h4,h6,J1,w]
    .   simp[aX,hp,h,hch,h3]
  .obtain rfl:k=gs.length:=(by omega);simp[fQ,hp]
theorem VL (hc:Sem c)(z z2:Bool)(gs:List aG)(ts:List Ty)(hl:gs.length<=100)(jr:ts.length<=100)(p:Pos)(F:Nat)(k1 k4):∀(m k:Nat)(st:St),Wf st->st.heap.get p=some (.cells [aX z gs,bR z2 ts] 0)->ts.length<=k+m->k<=ts.length->
  ∃st',Grew st st'/\eV c F k1 k4 (m+1) [.ptr p 0,.int .i64 (k:Int)] st=if(ee gs ts m k).2=0 then k4 [] st' else k1 [.int .i64 (ee gs ts m k).1,.int .i64 (ee gs ts m k).2] st':=by
 intro m;induction m with
 |zero=>
  intro k st hw hp h1 h2;obtain rfl:k=ts.length:=by omega
  refine⟨st,Grew.refl hw,?_⟩;rw[jg];simp[ee,hp]
 |succ m ih   =>
  intro k st hw hp h1 h2;by_cases h:k<ts.length
  . have w:aB     .i64 ((k:Int)+1)=((k+1:Nat):Int):=wrap64 (by omega) (by omega);have wg:aB .i64 ((gs.length:Int)+(k:Int))=(gs.length:Int)+k:=wrap64 (by omega) (by omega);have bM:Wf (af st (.cells ts[k].cells 0)):=bt hw;have hg:=Grew.af hw (.cells ts[k].cells 0);have c9:(af st (.cells ts[k].cells 0)).heap.get p=some (.cells [aX z gs,bR z2 ts] 0):=hg.get hp;have ha:=MI hc z gs ts[k].a (by unfold cw;omega) (af st (.cells ts[k].cells 0));have hb:=MI hc z gs ts[k].b (by unfold cw;omega) (af st (.cells ts[k].cells 0));have NQ:¬256<=k:=(by omega);have F9:¬(256:Int)<=k:=(by omega);obtain⟨st',g1,g2⟩:=ih (k+1) _ bM c9 (by omega) (by omega);have Ux:Cj ts[k]=true->(ts[k].k=1\/(¬ts[k].k=1/\ts[k].k=2)):=λq=>by
        simp only[Cj,Zg0,Zc2]at q;by_cases e:ts[k].k=1
        .exact .inl e
        .exact .inr ⟨e,q.resolve_left e⟩
    have hkf:Cj ts[k]=false->(¬ts[k].k=1/\¬ts[k].k=2):=λq=>by simpa [Cj]using q
    rw[jg,ee,H1 h];simp only;by_cases h0:k=0
    .   have hk :¬0<k:=(by omega);have ep:j4 ts k=none:=(by simp[j4,h0]);rw[ep];clear h0 ih;simp only[Qe,n9,Bool.or_false,Zd3,Zd5,NQ];cases q1:Cj ts[k]
        .obtain⟨f1,f2⟩:=hkf q1;refine⟨_,hg,?_⟩;simp[bR,hp,c9,h,wg,f1,f2]
        . have f:=Ux q1;cases q2:av ts[k].a ts[k].b
          .refine⟨_,hg,?_⟩;rcases f with f|⟨f,f2⟩<;>simp[bR,hp,c9,h,wg,q2, *]
          . cases q3:iZ gs ts[k]
            .have q4:=q3;simp only[iZ,Zk2,Zf8]at q4;obtain⟨n1,n2⟩:=q4;refine⟨st',hg.trans g1,?_⟩;simp only[q1,q2,Zm3,Bool.or_false,Zd3,Zd5];rw[<-g2];rcases f with f|⟨f,f2⟩<;>simp[bR,hp,c9,h,wg,q2,ha,hb,n1,n2,hk,F9,w, *]
            . refine⟨_,hg,?_⟩;by_cases n1:scan (fW gs ts[k].a) gs.length 0<0
              .rcases f with f|⟨f,f2⟩<;>simp[bR,hp,c9,h,wg,q2,ha,hb,n1,hk,F9,w, *]
              .have n2:scan (fW gs ts[k].b) gs.length 0<0:=(by simpa [iZ,n1]using q3);rcases f with f|⟨f,f2⟩<;>simp[bR,hp,c9,h,wg,q2,ha,hb,n1,n2,hk,F9,w, *]
    .   have hk : 0<k:=(by omega);have mL:k - 1<ts.length:=(by omega);have wk:aB .i64 ((k:Int) - 1)=((k - 1:Nat):Int):=(by rw[wrap64 (by omega) (by omega)];omega);have ep:j4 ts k=some ts[k - 1]:=(by rw[j4,Za4 h0,H1 mL]);have b1:=OY hc ts[k] ts[k - 1] (af st (.cells ts[k].cells 0)) bM;have b2:=OY hc ts[k - 1] ts[k] (af st (.cells ts[k].cells 0)) bM;rw[ep];clear ih;simp only[Qe,n9,NQ,Zd5];cases q1:Cj ts[k]
        .obtain⟨f1,f2⟩:=hkf q1;refine⟨_,hg,?_⟩;simp[bR,hp,c9,h,wg,f1,f2]
        . have f:=Ux q1;cases q2:av ts[k].a ts[k].b
          .refine⟨_,hg,?_⟩;rcases f with f|⟨f,f2⟩<;>simp[bR,hp,c9,h,wg,q2, *]
          . cases q5:dF ts[k] ts[k - 1]
            . cases q3:iZ gs ts[k]
              . have q4:=q3;simp only[iZ,Zk2,Zf8]at q4;obtain⟨n1,n2⟩:=q4;cases q6:dF ts[k - 1] ts[k]
                .refine⟨_,hg,?_⟩;rcases f with f|⟨f,f2⟩<;>simp[bR,hp,c9,h,wg,q2,ha,hb,n1,n2,hk,mL,wk,b1,b2,F9,w, *]
                .refine⟨st',hg.trans g1,?_⟩;simp only[q1,q2,q5,Zm3,Zd3,Zd5,Bool.or_false];rw[<-g2];rcases f with f|⟨f,f2⟩<;>simp[bR,hp,c9,h,wg,q2,ha,hb,n1,n2,hk,mL,wk,b1,b2,F9,w, *]
              . refine⟨_,hg,?_⟩;by_cases n1:scan (fW gs ts[k].a) gs.length 0<0
                .rcases f with f|⟨f,f2⟩<;>simp[bR,hp,c9,h,wg,q2,ha,hb,n1,hk,mL,wk,b1,b2,F9,w, *]
                .have n2:scan (fW gs ts[k].b) gs.length 0<0:=(by simpa [iZ,n1]using q3);rcases f with f|⟨f,f2⟩<;>simp[bR,hp,c9,h,wg,q2,ha,hb,n1,n2,hk,mL,wk,b1,b2,F9,w, *]
            .refine⟨_,hg,?_⟩;rcases f with f|⟨f,f2⟩<;>simp[bR,hp,c9,h,wg,q2,hk,mL,wk,b1,b2, *]
  .obtain rfl:k=ts.length:=(by omega);refine⟨st,Grew.refl hw,?_⟩;rw[jg];simp[ee,hp]
theorem VM(hc:Sem c)(z z2:Bool)(gs:List aG)(ts:List Ty)(hl:gs.length<=100)(jr:ts.length<=100)(st:St)(hw:Wf st):c 137 [.agg [aX z gs,bR z2 ts]] st=some (.tuple [.int .i64 (bB gs ts).1,.int .i64 (bB gs ts).2],st):=by
 have mo:Plain (.tuple [.int .i64 (bB gs ts).1,.int .i64 (bB gs ts).2]):=Plain.tuple (by simp[Plain.int]);have bM:Wf (af st (.cells [aX z gs,bR z2 ts] 0)):=bt hw;have Ck:=Grew.af hw (.cells [aX z gs,bR z2 ts] 0);have c9:(af st (.cells [aX z gs,bR z2 ts] 0)).heap.get st.next=some (.cells [aX z gs,bR z2 ts] 0):=aE _ _;have L0:=λk1 k2=>VK hc z z2 gs ts hl st.next _ bM c9 102 k1 k2 101 0 (by omega) (by omega)
 by_cases h:(fQ gs 101 0).2=0
 . have e:bB gs ts=ee gs ts 101 0:=(by rw[bB,Za4 (by simp[h])]);obtain⟨st',g1,g2⟩:=VL hc z z2 gs ts hl jr st.next 102 (λvs Zs=>dO vs λx2 vs=>dO vs λx3 vs=>fG vs (some (.tuple [x2,x3],Zs))) (λvs Zt=>fG vs (
     ai c .move [(.int .i64 0)] Zt λx2 Zv=>ai c .move [(.int .i64 0)] Zv λx3 Zw=>some (.tuple [x2,x3],Zw))) 101 0 _ bM c9 (by omega) (by omega)
   rw[oJ hc 102 (r:=(.tuple [.int .i64 (bB gs ts).1,.int .i64 (bB gs ts).2],st')),aA mo (Ck.trans g1).keeps];rw[qu,e];simp[h]at L0 g2 ⊢;rw[L0];simp[g2];by_cases h2:(ee gs ts 101 0).2=0
   .have:=FX gs ts 101 0 h2;simp[h2,this]
   .simp[h2]
 .have e:bB gs ts=fQ gs 101 0:=(by rw[bB,Za7 h]);rw[oJ hc 102 (r:=(.tuple [.int .i64 (bB gs ts).1,.int .i64 (bB gs ts).2],af st (.cells [aX z gs,bR z2 ts] 0))),aA mo Ck.keeps];rw[qu,e];simp[h]at L0 ⊢;rw[L0];simp
theorem SM(hc:Sem c)(z z2:Bool)(gs:List aG)(ts:List Ty)(hl:gs.length<=100)(jr:ts.length<=100)(s:St)(hw:Wf s):c 150 [.agg [aX z gs,bR z2 ts]] s=some (.tuple [.int .i64 (bB gs ts).1,.int .i64 (bB gs ts).2],s):=by
 have Eb:Wf (af s (.cells [aX z gs,bR z2 ts] 0)):=bt hw;obtain⟨v,s',h1,h2,_⟩:=NR hc z z2 gs ts hl jr _ Eb;have Wu:cut [aX z gs,bR z2 ts] 0 2=some [aX z gs,bR z2 ts]:=bV rfl;rw[GY hc 1 (r:=(.tuple [.int .i64 (bB gs ts).1,.int .i64 (bB gs ts).2],s')),aA (Plain.tuple (by simp[Plain.int])) ((aZ hw).trans h2)];rw[Ju];simp[Wu,h1]
theorem UE(hc:Sem c){p:aR}(hp:p.iO):IQ c p:=⟨λst hw=>SM hc p.gz p.yz p.gs p.ys hp.gs hp.ys st hw,λst hw=>VM hc p.gz p.yz p.gs p.ys hp.gs hp.ys st hw⟩
end
noncomputable section
open Go Go.Ai Go.Proofs
def mZ(f:FuncId):List AV->St->Option (AV×St):=Fp (run Co gg) f 4
def By:dw:=uZ [(327,G6),(12,Jl),(77,mZ 77),(72,mZ 72),(86,mZ 86),(129,mZ 129),(125,mZ 125),(44,mZ 44),(47,mZ 47),(49,mZ 49),(99,mZ 99),(53,mZ 53),(101,mZ 101),(111,mZ 111),(118,mZ 118)]
def gh(c:ah):Prop:=c=run By gg
theorem gh.o0{c:ah}(hc:gh c)(F:Nat){f:FuncId}{args:List AV}{st:St}{r:AV×St}(s:Sh)(hk:(ry (By f)&& !ry (gg.get (key f))&&(dn (gA f).code s).isEmpty)=true)
  {k:O2} (hd:yA c F (P7 []) (gA f) s args st=k) (h:k=some r):c f args st=some (tidy st r):=by
 subst hc;exact Uh s hk hd h
theorem gh.o1{c:ah}(hc:gh c)(F:Nat){f:FuncId}{args:List AV}{st:St}{r:AV×St}(Ls:Un->List Q2->Nat->Q2)(s:Sh)(hk:(ry (By f)&& !ry (gg.get (key f))&&Nat.beq (dn (gA f).code s).length 1)=true)
  (hs:(Ng (ey (gA f) s 0).2&&Nat.beq (WW (ey (gA f) s 0).2) 0)=true) (h0:∀K' vs st,lu Ls (gA f) s 0 K' 0 vs st=none)
  (h1:∀K' n vs st,lu Ls (gA f) s 0 K' (n+1) vs st=DA (den c F (lu Ls (gA f) s) (ey (gA f) s 0).1 (lpB (ey (gA f) s 0).2)) (lpI (ey (gA f) s 0).2) (WX (ey (gA f) s 0).2) K' (lu Ls (gA f) s 0 K' n) vs st)
  {k:O2} (hd:yA c F (lu Ls (gA f) s) (gA f) s args st=k) (h:k=some r):c f args st=some (tidy st r):=by
 subst hc;exact Ui Ls s hk hs h0 h1 hd h
theorem gh.oL{c:ah}(hc:gh c)(F:Nat){f:FuncId}{args:List AV}{st:St}{r:AV×St}(Ls:Un->List Q2->Nat->Q2)(s:Sh)(n:Nat)(hk:(ry (By f)&& !ry (gg.get (key f))&&Nat.beq (dn (gA f).code s).length n)=true)
  (hL:∀i,i<n->vw c F (lu Ls (gA f) s) (ey (gA f) s i).1 (ey (gA f) s i).2) {k:O2} (hd:yA c F (lu Ls (gA f) s) (gA f) s args st=k) (h:k=some r):c f args st=some (tidy st r):=by
 subst hc;exact Nm Ls s n hk hL hd h
theorem gh.at{c:ah}(hc:gh c){f:FuncId}{s:List AV->St->Option (AV×St)}{args:List AV}{st:St}{r:AV×St}(ho:By f=some s)(h:s args st=some r):c f args st=some r:=by subst hc;exact L5 ho h
section
variable{c:ah}{s0 s:St}{Vs:List AV}{p:aR}
theorem XJ(hc:gh c)(s:St):c 12 [] s=some (.bool true,s):=hc.at (s:=Jl) rfl rfl
theorem XK(hc:gh c)(h:PS s0 s Vs p)(hp:p.iO)(hr:∀r∈p.rs,r.Ok):c 77 [.agg Vs] s=some (.tuple [.int .i64 (bX p).1,.int .i64 (bX p).2],s):=by
 obtain⟨p',e,S⟩:=h.cu 1;refine hc.at (s:=mZ 77) rfl (ri ?_ (bO.tuple (by intro v hv;simp at hv;rcases hv with rfl|rfl<;>exact bO.int _ _)));rw[Zb4,Zf0,e, <-S.check];exact PJ rfl p' (S.few hp) (UE rfl (S.few hp)) (by rw[S.rs];exact hr) (emptyAt s) (nM s)
theorem PS.tabs(h:PS s0 s Vs p):∃V1 z p',Vs[0]? =some V1/\Go.Ai.cu s 4 V1=Go.Proofs.YtlkadmkojjceiaaGreatDoor.tabs z p'.ts/\p.cj p':=by
 obtain⟨V1,V2,V3,V4,V5,r1,r2,rfl,h1,h2,h3,h4,h5⟩:=h.all;obtain⟨z,sI,e,l,k⟩:=h1.cu 2;exact⟨V1,z,{ p with ts:=sI },rfl,e,⟨l,k,rfl,λi t t' a b=>by rw[a]at b;cases b;exact⟨t.tz,rfl⟩,rfl,rfl,rfl⟩⟩
theorem XL(hc:gh c)(h:PS s0 s Vs p)(cJ:∀t∈p.ts,t.Ok)(hv:(bf p.ts).2=0){V1:AV}(e1:Vs[0]? =some V1):c 72 [V1] s=some (.int .i64 (bK p.ts),s):=by
 obtain⟨V,z,p',e,ez,S⟩:=h.tabs;rw[e1]at e;cases e;refine hc.at (s:=mZ 72) rfl (ri ?_ (bO.int _ _));rw[Zb4,Zf0,ez];have:=xA (c:=run Co gg) rfl z p'.ts (λt ht=>by obtain⟨u,hu,z,rfl⟩:=S.tab ht;have:=cJ u hu;exact⟨this.1,this.2⟩) (emptyAt s) (nM s);rw[this,S.wE,Za7 hv,S.sum]
end
end
noncomputable section
open Go Go.Ai Go.Proofs
attribute [local go_sem ↓] bg xJ ev Ug xX getLT xI KN OT vG vH HR HS HT HU DD DE DF DG DH DI HV HW DJ DK DM DN DO Mh Mi Mj
attribute [local go_sem] bg xJ ev
section
variable(c:ah)(F:Nat)(x0 x1 x2 x3 x4 x5 x6 x7 x8 x9 B5 Ib:AV)(s:St)
def s9:Sh:=(sq sl (sq (sq sl (sc (sq sl sl) sl)) (sq sl sl)))
def td:PX 17 s9:=⟨_,by conv=>lhs;reduce⟩
def ot:O2:=bg c F bu td.1 [x0] s
def th:=(by dsimp only[ot,td,go_sem,Int.reduceOfNat]:ot c F x0 s=_)
def lS:Sh:=(sq sl (sq (sq sl (sc (sq sl sl) sl)) (sq (sq sl (sb (sp 0 [0,1,12,13] [(1,[4]),(2,[])] (sq sl (sq (sc sl sl) (sq (sb (sq sl (sq sl (sc (sq sl sl) sl)))) sl)))))) (sq sl sl))))
def tj:PX 21 lS:=⟨_,by conv=>lhs;reduce⟩
def rR:PL 21 lS 0:=⟨_,by conv=>lhs;reduce⟩
def fM(k1 k2:Q2):Nat->Q2
 |0,_,_=>none
 |n+1,vs,s=>eU c F bu (fM k1 k2 n) [k1,k2] rR.1 vs s
def jF(k1 k2:Q2)(n:Nat)(vs:List AV)(s:St):=(by dsimp only[fM,rR,go_sem,Int.reduceOfNat]:fM c F k1 k2 (n+1) vs s=_)
def lU:Un->List Q2->Nat->Q2
 |.z,[k1,k2]=>fM c F k1 k2
 |_,_=>λ_=>fH
def ou:O2:=bg c F (lU c F) tj.1 [x0,x1] s
def Dc:=(by dsimp only[ou,tj, ↓lU,go_sem,Int.reduceOfNat]:ou c F x0 x1 s=_)
def Bc:Sh:=(sq sl (sq sl sl))
def Bd:PX 33 Bc:=⟨_,by conv=>lhs;reduce⟩
def xB:O2:=bg c F bu Bd.1 [x0,x1] s
def K9:=(by dsimp only[xB,Bd,go_sem,Int.reduceOfNat]:xB c F x0 x1 s=_)
def Er:Sh:=(sq sl (sq (sq sl (sq sl (sc (sq sl sl) sl))) (sq sl sl)))
def Es:PX 80 Er:=⟨_,by conv=>lhs;reduce⟩
def Be:O2:=bg c F bu Es.1 [x0,x1,x2] s
def Et:=(by dsimp only[Be,Es,go_sem,Int.reduceOfNat]:Be c F x0 x1 x2 s=_)
def Bf:Sh:=(sq sl (sq (sq sl (sc (sq sl sl) sl)) (sq sl (sq sl (sq (sq sl (sb (sp 0 [2,8,9,23,24,25] [(1,[6,7]),(2,[])] (sq sl (sq (sc sl sl) (sj [2,8,9,23,24,25] (sb (sq sl (sq (sb (sq sl (sc (sq sl sl) (sq sl (sc (sq sl sl) (sq sl (sc (sq sl sl) sl))))))) (sq sl (sc sl sl))))) sl)))))) (sq sl sl))))))
def IY:PX 122 Bf:=⟨_,by conv=>lhs;reduce⟩
def GP:PL 122 Bf 0:=⟨_,by conv=>lhs;reduce⟩
def oP(k1 k2:Q2):Nat->Q2
 |0,_,_=>none
 |n+1,vs,s=>eU c F bu (oP k1 k2 n) [k1,k2] GP.1 vs s
def ir(k1 k2:Q2)(n:Nat)(vs:List AV)(s:St):=(by dsimp only[oP,GP,go_sem,Int.reduceOfNat,Int.reduceNegSucc]:oP c F k1 k2 (n+1) vs s=_)
def Bg:Un->List Q2->Nat->Q2
 |.z,[k1,k2]=>oP c F k1 k2
 |_,_=>λ_=>fH
def Gd:O2:=bg c F (Bg c F) IY.1 [x0,x1,x2] s
def IZ:=(by dsimp only[Gd,IY, ↓Bg,go_sem,Int.reduceOfNat,Int.reduceNegSucc]:Gd c F x0 x1 x2 s=_)
end
section
variable{c:ah}(hc:gh c)(F:Nat){x0 x1 x2 x3 x4 x5 x6 x7 x8 x9 B5 Ib:AV}{s:St}{r:AV×St}
include hc
theorem qQ(h:ot c F x0 s=some r):c 17 [x0] s=some (tidy s r):=hc.o0 F s9 (by kernel_rfl) (by kernel_rfl) h
theorem Bh(h:ou c F x0 x1 s=some r):c 21 [x0,x1] s=some (tidy s r):=hc.o1 F (lU c F) lS (by kernel_rfl) (by kernel_rfl) (λ_ _ _=>by kernel_rfl) (λ_ _ _ _=>by kernel_rfl) (by kernel_rfl) h
theorem I0(h:xB c F x0 x1 s=some r):c 33 [x0,x1] s=some (tidy s r):=hc.o0 F Bc (by kernel_rfl) (by kernel_rfl) h
theorem Bi(h:Be c F x0 x1 x2 s=some r):c 80 [x0,x1,x2] s=some (tidy s r):=hc.o0 F Er (by kernel_rfl) (by kernel_rfl) h
theorem Eu(h:Gd c F x0 x1 x2 s=some r):c 122 [x0,x1,x2] s=some (tidy s r):=hc.o1 F (Bg c F) Bf (by kernel_rfl) (by kernel_rfl) (λ_ _ _=>by kernel_rfl) (λ_ _ _ _=>by kernel_rfl) (by kernel_rfl) h
end
end
section
open Go Go.Ai Go.Proofs
variable{c:ah}
def rowM(i:Nat):List AV:=[.int .i64 (i:Int)]
def tabZ:List AV:=[.str [],.int .u8 0,.int .i64 0,.int .i64 0,.ax,.int .i64 0,.int .i64 0]
def tabV(nm:List Nat)(sh a b:Int)(x:Nat)(v:AV):List AV:=[.str nm,.int .u8 sh,.int .i64 a,.int .i64 b,v,.int .i64 (x:Int),.int .i64 (255 - (x:Int))]
def opnC(x i:Nat):Bool:=decide (x / 2 ^ i % 2=1)&&decide (0<x % 3)
def opnN(x k:Nat):List Nat:=(List.range k).filter (opnC x)
structure TI(st s:St)(p4 p5:Pos)(nm:List Nat)(sh a b:Int)(x k:Nat)(v:AV):Prop where
 out:Mk 1 st s v ((opnN x k).map rowM)
 h4:s.heap.get p4=some (.cells tabZ 0)
 h5:s.heap.get p5=some (.cells (tabV nm sh a b x v) 0)
 n4:dL v≠some p4
 n5:dL v≠some p5
end
section
open Go Go.Ai Go.Proofs
variable{c:ah}
theorem ZE{st s:St}{p:Pos}(h0:Wf st)(h:Grew st s)(hp:st.next.toNat<=p.toNat)(xO:p.toNat<s.next.toNat)(b:AB):Grew st (ei s p b):=
 ⟨DC h.wf xO,λq x hq=>by have:=h0 _ _ hq;rw[bT (λe=>by rw[e]at hp;omega)];exact h.get hq,by rw[An];exact h.next⟩
end
end Go.Proofs.YtlkadmkojjceiaaGreatDoor
