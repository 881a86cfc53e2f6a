/- An evaluator over plain values, its compiler from the model's functions and its relation to the model's worlds. -/
import Derived.Calls
import Derived.Orders
import Derived.Below
set_option linter.all false
set_option linter.unusedSectionVars false
set_option linter.deprecated false
namespace Go.Ai
section
inductive Pos where
 |h
 |o (p:Pos)
 |i (p:Pos)
 deriving DecidableEq,Inhabited
def Pos.toNat:Pos->Nat
 | .h=>1
 | .o p=>2*p.toNat
 | .i p=>2*p.toNat+1
def Pos.succ:Pos->Pos
 | .h=> .o .h
 | .o p=> .i p
 | .i p=> .o p.succ
def Pos.Y9:Nat->Nat->Pos
 |0,_=> .h
 |  f+1,n=>match Nat.ble n 1 with
    |true=> .h
    |false=>match Nat.beq (n % 2) 0 with
     |true=> .o (Pos.Y9 f (n / 2))
     |false=> .i (Pos.Y9 f (n / 2))
def key (n:Nat):Pos:=Pos.Y9 (n+1).log2 (n+1)
def Pos.beq:Pos->Pos->Bool
 | .h,.h=>true
 | .o a,.o b=>a.beq b
 | .i a,.i b=>a.beq b
 |_,_=>false
inductive T (α:Type) where
 |e
 |n (l:T α) (v:Option α) (r:T α)
 deriving Inhabited
def T.get {α:Type}:Pos->T α->Option α
 |_,.e=>none
 | .h,.n _ v _=>v
 | .o p,.n l _ _=>l.get p
 | .i p,.n _ _ r=>r.get p
def T.put {α:Type} (x:Option α):Pos->T α->T α
 | .h,.e=> .n .e x .e
 | .h,.n l _ r=> .n l x r
 | .o p,.e=> .n (T.put x p .e) none .e
 | .o p,.n l v r=> .n (T.put x p l) v r
 | .i p,.e=> .n .e none (T.put x p .e)
 | .i p,.n l v r=> .n l v (T.put x p r)
inductive AV where
 |bool (b:Bool)
 |int (k:IntKind) (n:Int)
 |str (s:List Nat)
 |dP
 |ptr (b:Pos) (off:Nat)
 |fp (xs:List (List AV)) (i j:Nat)
 |ah
 |slice (b:Pos) (off len:Nat) (cap:Option Nat) (es:Nat)
 |fl (xs:List (List AV)) (es:Nat)
 |mA
 |map (b:Pos)
 |func (f:FuncId) (first captured:List AV)
 |js
 |xG
 |iface (t:TypeId) (v:AV)
 |agg (l:List AV)
 |tuple (l:List AV)
 deriving Inhabited
inductive AB where
 |cells (cs:List AV) (fz:Nat)
 |map (es:List (AV×AV×Nat)) (clock:Nat)
 |jM (s:List Nat) (pos:Nat)
 |typed (t:TypeId) (cs:List AV)
 deriving Inhabited
def AV.cells:AV->List AV
 | .agg l=>l
 |v=>[v]
def AV.undef:AV:= .tuple []
def AV.one:AV->Bool
 | .agg _=>false
 | .tuple _=>false
 |_=>true
def aK:List AV->Bool
 |[]=>true
 |  v::l=>match v.one with
    |true=>aK l
    |false=>false
inductive cq where
 |val (v:AV)
 |aL (v:AV) (del:Option Pos) (set:Option (Pos×AB)) (new:Option AB)
 |call (f:FuncId) (args:List AV)
 deriving Inhabited
def nth {α:Type}:List α->Nat->Option α
 |[],_=>none
 |a::_,0=>some a
 |_::l,n+1=>nth l n
def cut {α:Type} (l:List α) (i n:Nat):Option (List α):=
 match Nat.ble (i+n) l.length with
 |true=>some ((l.drop i).take n)
 |false=>none
def aG {α:Type} (l:List α) (i:Nat) (vs:List α):List α:=l.take i++(vs++l.drop (i+vs.length))
def gK:List Nat->List Nat->Bool
 |[],[]=>true
 |  a::x,b::y=>match Nat.beq a b with
    |true=>gK x y
    |false=>false
 |_,_=>false
def aD:List Nat->List Nat->Bool
 |_,[]=>false
 |[],_::_=>true
 |  a::x,b::y=>match Nat.blt a b with
    |true=>true
    |false=>match Nat.beq a b with
     |true=>aD x y
     |false=>false
inductive PK where
 |b
 |i
 |s
 deriving Inhabited
inductive eH where
 |num
 |bool
 |ptr
 |slice
 |map
 |func
 |iface
 |struct (fs:List (Nat×PK))
 deriving Inhabited
inductive ah6 where
 |int (k:IntKind)
 |same
 |bytes
 |ofBytes
 deriving Inhabited
inductive LK where
 |s
 |l
 |m
 deriving Inhabited
inductive aC where
 |move
 |pick
 |alloc (zero:List AV)
 |box
 |build (zero:List AV) (places:List (Nat×Nat))
 |buildSlice (es len:Nat) (zero:List AV) (places:List Nat)
 |load (n:Option Nat)
 |store (n:Nat)
 |nilCheck
 |bin (op:BinOp) (q:eH)
 |un (op:UnOp)
 |conv (k:ah6)
 |mkIface (t:TypeId)
 |mkFunc (f:FuncId) (NR:Nat)
 |mkMap
 |lookup (pk:PK) (zero:AV) (ok:Bool)
 |mapSet (pk:PK)
 |mkSlice (es bytes:Nat) (zero:List AV)
 |sliceS (lo hi:Bool)
 |sliceL (es:Nat) (lo hi mx:Bool)
 |fieldA (off:Nat)
 |idxA (es:Nat) (arr:Option Nat)
 |field (off:Nat) (n:Option Nat)
 |idxS
 |extract (i:Nat)
 |callF (f:FuncId)
 |callV
 |lenB (k:LK)
 |capB
 |append (es bytes:Nat)
 |copyB (es:Nat)
 |minB
 |maxB
 |clearS (es:Nat) (zero:List AV)
 |rangeS
 |nextS
 |allocT (t:TypeId) (zero:List AV)
 |appendT (e:TypeId) (bytes:Nat)
 |toU
 |fromU (u:TypeId) (n:Nat)
 |sliceData
 |unsafeStr (e:TypeId)
 |bad
 deriving Inhabited
def AH (k:IntKind):Int:=match k with
 | .i8=> -128| .i16=> -32768| .i32=> -2147483648| .i64=> -9223372036854775808|_=>0
def hiI (k:IntKind):Int:=match k with
 | .i8=>127| .i16=>32767| .i32=>2147483647| .i64=>9223372036854775807
 | .u8=>255| .u16=>65535| .u32=>4294967295| .u64=>18446744073709551615
def ay (k:IntKind) (n:Int):Int:=
 match Int.decLe (AH k) n with
 |  .isTrue _=>match Int.decLe n (hiI k) with
    | .isTrue _=>n
    | .isFalse _=>k.wrap n
 | .isFalse _=>k.wrap n
def Ey (a b:IntKind):Bool:=match decEq a b with
 | .isTrue _=>true
 | .isFalse _=>false
def BC (a b:Int):Bool:=match Int.decEq a b with
 | .isTrue _=>true
 | .isFalse _=>false
def BD (a b:Int):Bool:=match Int.decLt a b with
 | .isTrue _=>true
 | .isFalse _=>false
def YO (a b:Int):Bool:=match Int.decLe a b with
 | .isTrue _=>true
 | .isFalse _=>false
def tU:PK->AV->AV->Option Bool
 | .b,.bool a,.bool b=>some (a==b)
 |  .i,.int k a,.int k' b=>match Ey k k' with
    |true=>some (BC a b)
    |false=>none
 | .s,.str a,.str b=>some (gK a b)
 |_,_,_=>none
def eqFields (xs ys:List AV):List (Nat×PK)->Option Bool
 |[]=>some true
 |  (o,pk)::fs=>match nth xs o,nth ys o with
    | some a,some b=>match tU pk a b with
      |some true=>eqFields xs ys fs
      |some false=>some false
      |none=>none
    |_,_=>none
def Kn:eH->AV->AV->Option Bool
 | .bool,.bool a,.bool b=>some (a==b)
 | .ptr,.dP,.dP=>some true
 | .ptr,.dP,.ptr _ _=>some false
 | .ptr,.ptr _ _,.dP=>some false
 | .ptr,.dP,.fp _ _ _=>some false
 | .ptr,.fp _ _ _,.dP=>some false
 |  .ptr,.ptr b o,.ptr b' o'=>match Pos.beq b b',Nat.beq o o' with
    |true,true=>some true
    |_,_=>none
 | .slice,.ah,.ah=>some true
 | .slice,.ah,.slice _ _ _ _ _=>some false
 | .slice,.slice _ _ _ _ _,.ah=>some false
 | .slice,.ah,.fl _ _=>some false
 | .slice,.fl _ _,.ah=>some false
 | .map,.mA,.mA=>some true
 | .map,.mA,.map _=>some false
 | .map,.map _,.mA=>some false
 | .func,.js,.js=>some true
 | .func,.js,.func _ _ _=>some false
 | .func,.func _ _ _,.js=>some false
 | .iface,.xG,.iface _ _=>some false
 | .iface,.iface _ _,.xG=>some false
 | .struct fs,.agg xs,.agg ys=>eqFields xs ys fs
 |_,_,_=>none
def nB (op:BinOp) (q:eH):AV->AV->Option AV
 |  .int k a,.int k' b=>match op with
    | .shl=>match BD b 0 with
      |true=>none
      |false=>some (.int k (ay k (a*2 ^ (min b.toNat k.bits))))
    | .shr=>match BD b 0 with
      |true=>none
      |false=>some (.int k (a.fdiv (2 ^ (min b.toNat k.bits))))
    | op=>match Ey k k' with
      |false=>none
      | true=>match op with
        | .add=>some (.int k (ay k (a+b)))
        | .sub=>some (.int k (ay k (a - b)))
        | .mul=>some (.int k (ay k (a*b)))
        | .quo=>match BC b 0 with
          |true=>none
          |false=>some (.int k (ay k (a.tdiv b)))
        | .rem=>match BC b 0 with
          |true=>none
          |false=>some (.int k (a.tmod b))
        | .and=>some (.int k (k.wrap (BitVec.ofInt k.bits a &&& BitVec.ofInt k.bits b).toNat))
        | .or=>some (.int k (k.wrap (BitVec.ofInt k.bits a ||| BitVec.ofInt k.bits b).toNat))
        | .xor=>some (.int k (k.wrap (BitVec.ofInt k.bits a ^^^ BitVec.ofInt k.bits b).toNat))
        | .andNot=>some (.int k (k.wrap (BitVec.ofInt k.bits a &&& ~~~BitVec.ofInt k.bits b).toNat))
        | .eql=>some (.bool (BC a b))
        | .neq=>some (.bool (!BC a b))
        | .lss=>some (.bool (BD a b))
        | .leq=>some (.bool (YO a b))
        | .gtr=>some (.bool (BD b a))
        | .geq=>some (.bool (YO b a))
        |_=>none
 |  .str a,.str b=>match op with
    | .add=>match Nat.ble (a.length+b.length) 9223372036854775807 with
      |true=>some (.str (a++b))
      |false=>none
    | .eql=>some (.bool (gK a b))
    | .neq=>some (.bool (!gK a b))
    | .lss=>some (.bool (aD a b))
    | .leq=>some (.bool (aD a b||gK a b))
    | .gtr=>some (.bool (!(aD a b||gK a b)))
    | .geq=>some (.bool (!aD a b))
    |_=>none
 |  x,y=>match op with
    | .eql=>match Kn q x y with
      |some b=>some (.bool b)
      |none=>none
    | .neq=>match Kn q x y with
      |some b=>some (.bool (!b))
      |none=>none
    |_=>none
def unA (op:UnOp):AV->Option AV
 |  .bool b=>match op with
    | .not=>some (.bool (!b))
    |_=>none
 |  .int k n=>match op with
    | .neg=>some (.int k (ay k (0 - n)))
    |_=>none
 |_=>none
def bJ (cells:List AV):List (Nat×Nat)->List AV->Option (List AV)
 |[],[]=>some cells
 |  (off,size)::ps,v::vs=>
    match Nat.beq v.cells.length size,Nat.ble (off+size) cells.length with
    |true,true=>bJ (aG cells off v.cells) ps vs
    |_,_=>none
 |_,_=>none
def bC {α:Type} (l:List α):Nat->List α
 |0=>[]
 |n+1=>l++bC l n
def vO:AV->Option Nat
 |  .int _ n=>match n with
    | .ofNat m=>some m
    | .negSucc _=>none
 |_=>none
def Ko (n:Nat):AV:= .int .i64 (.ofNat n)
def rows (es:Nat) (cs:List AV):Nat->List (List AV)
 |0=>[]
 |n+1=>cs.take es::rows es (cs.drop es) n
def bounds:(lo hi mx:Bool)->List AV->Option (Option Nat×Option Nat×Option Nat)
 |false,false,false,[]=>some (none,none,none)
 |  true,false,false,[a]=>match vO a with
    |some l=>some (some l,none,none)
    |none=>none
 |  false,true,false,[b]=>match vO b with
    |some h=>some (none,some h,none)
    |none=>none
 |  true,true,false,[a,b]=>match vO a,vO b with
    |some l,some h=>some (some l,some h,none)
    |_,_=>none
 |  false,true,true,[b,c]=>match vO b,vO c with
    |some h,some m=>some (none,some h,some m)
    |_,_=>none
 |  true,true,true,[a,b,c]=>match vO a,vO b,vO c with
    |some l,some h,some m=>some (some l,some h,some m)
    |_,_,_=>none
 |_,_,_,_=>none
def cA (es n:Nat) (H:Pos->Option AB):AV->Option (List AV)
 | .ah=>some []
 |  .slice b off _ _ _=>match Nat.beq (n*es) 0 with
    |true=>some []
    |false=>match H b with
     |some (.cells cs _)=>cut cs off (n*es)
     |_=>none
 |  .fl xs es'=>match Nat.beq es es',Nat.ble n xs.length with
    |true,true=>some (xs.take n).flatten
    |_,_=>none
 |  .str s=>match Nat.beq es 1,Nat.ble n s.length with
    |true,true=>some ((s.take n).map fun c=> .int .u8 (.ofNat c))
    |_,_=>none
 |_=>none
def dF:AV->Option Nat
 | .ah=>some 0
 | .slice _ _ n _ _=>some n
 | .fl xs _=>some xs.length
 | .str s=>some s.length
 |_=>none
def fH (pk:PK) (k:AV):List (AV×AV×Nat)->Nat->Option (Option (Nat×AV))
 |[],_=>some none
 |  (k',v,_)::es,i=>match tU pk k k' with
    |some true=>some (some (i,v))
    |some false=>fH pk k es (i+1)
    |none=>none
def Za:PK->AV->Bool
 | .b,.bool _=>true
 | .i,.int _ _=>true
 | .s,.str _=>true
 |_,_=>false
def oF (k v:AV):List (AV×AV×Nat)->Nat->List (AV×AV×Nat)
 |[],_=>[]
 |(_,_,born)::es,0=>(k,v,born)::es
 |e::es,i+1=>e::oF k v es i
def acu (s:List Nat) (pos:Nat):Option (Nat×Nat):=
 match nth s pos with
 |  some c=>match Nat.blt c 128 with
    |true=>some (c,1)
    |false=>none
 |none=>none
def bytesOf:List AV->Option (List Nat)
 |[]=>some []
 |  .int .u8 (.ofNat n)::l=>match Nat.blt n 256,bytesOf l with
    |true,some s=>some (n::s)
    |_,_=>none
 |_=>none
def Qn (_H:Pos->Option AB) (_next:Pos):List AV->Option cq
 |[x]=>some (.val x)
 |_=>none
def Vx (_H:Pos->Option AB) (_next:Pos):List AV->Option cq
 |  [c,a,b]=>match c with
    | .bool true=>some (.val a)
    | .bool false=>some (.val b)
    |_=>none
 |_=>none
def Kq (_H:Pos->Option AB) (next:Pos) (zero:List AV):List AV->Option cq
 |[]=>some (.aL (.ptr next 0) none none (some (.cells zero 0)))
 |_=>none
def TH (_H:Pos->Option AB) (next:Pos):List AV->Option cq
 |[x]=>some (.aL (.ptr next 0) none none (some (.cells x.cells 0)))
 |_=>none
def Kr (_H:Pos->Option AB) (_next:Pos) (zero:List AV) (places:List (Nat×Nat)):List AV->Option cq
 |  xs=>match bJ zero places xs with
    |some cs=>some (.val (.agg cs))
    |none=>none
def rO (_H:Pos->Option AB) (next:Pos) (es len:Nat) (zero:List AV) (places:List Nat):List AV->Option cq
 |  xs=>match bJ (bC zero len) (places.map fun i=>(i*es,es)) xs with
    |some cs=>some (.aL (.slice next 0 len (some len) es) none none (some (.cells cs 0)))
    |none=>none
def u6 (H :Pos->Option AB) (_next:Pos) (n:Option Nat):List AV->Option cq
 |  [p] =>match p with
    | .ptr b off=>match H b with
      | some (.cells cs _)=>match n with
        | none=>match nth cs off with
          |some v=>some (.val v)
          |none=>none
        | some n=>match cut cs off n with
          |some vs=>some (.val (.agg vs))
          |none=>none
      | some (.typed _ cs)=>match n with
        | none=>match nth cs off with
          |some v=>some (.val v)
          |none=>none
        | some n=>match cut cs off n with
          |some vs=>some (.val (.agg vs))
          |none=>none
      |_=>none
    | .fp xs i j=>match nth xs i with
      | some cs=>match n with
        | none=>match nth cs j with
          |some v=>some (.val v)
          |none=>none
        | some n=>match cut cs j n with
          |some vs=>some (.val (.agg vs))
          |none=>none
      |none=>none
    |_=>none
 |_=>none
def Ez (H:Pos->Option AB) (_next:Pos) (n:Nat):List AV->Option cq
 |  [p, v]=>match p with
    | .ptr b off=>match H b with
      | some (.cells cs fz)=>
        match Nat.beq v.cells.length n,Nat.ble (off+n) cs.length,Nat.ble fz off,aK v.cells with
        |true,true,true,true=>some (.aL .undef none (some (b,.cells (aG cs off v.cells) fz)) none)
        |_,_,_,_=>none
      | some (.typed t cs)=>
        match Nat.beq v.cells.length n,Nat.ble (off+n) cs.length,aK v.cells with
        |true,true,true=>some (.aL .undef none (some (b,.typed t (aG cs off v.cells))) none)
        |_,_,_=>none
      |_=>none
    |_=>none
 |_=>none
def H8 (_H:Pos->Option AB) (_next:Pos):List AV->Option cq
 |  [x]=>match x with
    | .ptr _ _=>some (.val x)
    | .fp _ _ _=>some (.val x)
    | .func _ _ _=>some (.val x)
    |_=>none
 |_=>none
def gP (_H:Pos->Option AB) (_next:Pos) (op:BinOp) (q:eH):List AV->Option cq
 |  [x,y]=>match nB op q x y with
    |some v=>some (.val v)
    |none=>none
 |_=>none
def adf (_H:Pos->Option AB) (_next:Pos) (op:UnOp):List AV->Option cq
 |  [x]=>match unA op x with
    |some v=>some (.val v)
    |none=>none
 |_=>none
def A3 (H:Pos->Option AB) (next:Pos) (k:ah6):List AV->Option cq
 |  [x] =>match k,x with
    | .int k,.int _ n=>some (.val (.int k (ay k n)))
    | .same,.str s=>some (.val (.str s))
    | .bytes,.str s=>some (.aL (.slice next 0 s.length none 1) none none (some (.cells (s.map fun c=> .int .u8 (.ofNat c)) 0)))
    | .ofBytes,.ah=>some (.val (.str []))
    | .ofBytes,.slice b off n _ _=>match Nat.beq n 0 with
      |true=>some (.val (.str []))
      | false=>match H b with
        |some (.cells cs _)=>match cut cs off n with
         |some l=>match bytesOf l with
          |some s=>some (.val (.str s))
          |none=>none
         |none=>none
        |_=>none
    |_,_=>none
 |_=>none
def Ks (_H:Pos->Option AB) (_next:Pos) (t:TypeId):List AV->Option cq
 |[x]=>some (.val (.iface t x))
 |_=>none
def BN (_H:Pos->Option AB) (_next:Pos) (f:FuncId) (NR:Nat):List AV->Option cq
 |xs=>some (.val (.func f (xs.take NR) (xs.drop NR)))
def Kt (_H:Pos->Option AB) (next:Pos):List AV->Option cq
 |_=>some (.aL (.map next) none none (some (.map [] 0)))
def l8 (H:Pos->Option AB) (_next:Pos) (pk:PK) (zero:AV) (ok:Bool):List AV->Option cq
 |  [m, k]=>
    match (match m with
      | .mA=>match Za pk k with
        |true=>some none
        |false=>none
      | .map b=>match H b with
        |some (.map es _)=>fH pk k es 0
        |_=>none
      |_=>none) with
    |some (some (_,v))=>some (.val (match ok with|true=> .tuple [v,.bool true]|false=>v))
    |some none=>some (.val (match ok with|true=> .tuple [zero,.bool false]|false=>zero))
    |none=>none
 |_=>none
def tV (H:Pos->Option AB) (_next:Pos) (pk:PK):List AV->Option cq
 |  [m, k,v]=>match m with
    | .map b=>match H b with
      | some (.map es clock)=>match Za pk k,fH pk k es 0 with
        |true,some (some (i,_))=>some (.aL .undef none (some (b,.map (oF k v es i) clock)) none)
        |true,some none=>some (.aL .undef none (some (b,.map (es++[(k,v,clock)]) (clock+1))) none)
        |_,_=>none
      |_=>none
    |_=>none
 |_=>none
def y7 (_H:Pos->Option AB) (next:Pos) (es bytes:Nat) (zero:List AV):List AV->Option cq
 |  [l,c]=>match vO l,vO c with
    | some l,some c=>match Nat.ble l c,Nat.ble (bytes*c) 281474976710656,Nat.ble c 9223372036854775807 with
      |true,true,true=>some (.aL (.slice next 0 l (some c) es) none none (some (.cells (bC zero c) 0)))
      |_,_,_=>none
    |_,_=>none
 |_=>none
def NS (_H:Pos->Option AB) (_next:Pos) (lo hi:Bool):List AV->Option cq
 |  x ::bs=>match x,bounds lo hi false bs with
    | .str s,some (l,h,_)=>
      let h:=h.getD s.length
      let l:=l.getD 0
      match Nat.ble l h,Nat.ble h s.length with
      |true,true=>some (.val (.str ((s.take h).drop l)))
      |_,_=>none
    |_,_=>none
 |_=>none
def gY (_H:Pos->Option AB) (_next:Pos) (es:Nat) (lo hi mx:Bool):List AV->Option cq
 |  x ::bs=>match x,bounds lo hi mx bs with
    | .slice b off len cap es',some (l,h,m)=>
      match Nat.beq es es',Nat.ble (l.getD 0) (h.getD len) with
      | true,true=>match cap,m with
        | some c,some m=>match Nat.ble (h.getD len) m,Nat.ble m c with
          |true,true=>some (.val (.slice b (off+l.getD 0*es) (h.getD len - l.getD 0) (some (m - l.getD 0)) es))
          |_,_=>none
        | some c,none=>match Nat.ble (h.getD len) c with
          |true=>some (.val (.slice b (off+l.getD 0*es) (h.getD len - l.getD 0) (some (c - l.getD 0)) es))
          |false=>none
        | none,some m=>match Nat.ble (h.getD len) m,Nat.ble m len with
          |true,true=>some (.val (.slice b (off+l.getD 0*es) (h.getD len - l.getD 0) (some (m - l.getD 0)) es))
          |_,_=>none
        | none,none=>match Nat.ble (h.getD len) len with
          |true=>some (.val (.slice b (off+l.getD 0*es) (h.getD len - l.getD 0) none es))
          |false=>none
      |_,_=>none
    | .fl xs es',some (l,h,m)=>
      match Nat.beq es es' with
      | true=>match m with
        | some m=>match Nat.beq (l.getD 0) 0,Nat.beq (h.getD xs.length) 0,Nat.beq m 0 with
          |true,true,true=>some (.val (.slice .h 0 0 (some 0) es))
          |_,_,_=>none
        | none=>match Nat.ble (l.getD 0) (h.getD xs.length),Nat.ble (h.getD xs.length) xs.length with
          |true,true=>some (.val (.fl ((xs.take (h.getD xs.length)).drop (l.getD 0)) es))
          |_,_=>none
      |false=>none
    | .ah,some (l,h,m)=>match Nat.beq (l.getD 0) 0,Nat.beq (h.getD 0) 0,Nat.beq (m.getD 0) 0 with
        |true,true,true=>some (.val .ah)
        |_,_,_=>none
    |_,_=>none
 |_=>none
def NT (_H:Pos->Option AB) (_next:Pos) (off:Nat):List AV->Option cq
 |  [x]=>match x with
    | .ptr b o=>some (.val (.ptr b (o+off)))
    | .fp xs i j=>some (.val (.fp xs i (j+off)))
    |_=>none
 |_=>none
def pG (_H:Pos->Option AB) (_next:Pos) (es:Nat) (arr:Option Nat):List AV->Option cq
 |  [x, i]=>match vO i with
    | some i=>match arr,x with
      | none,.slice b off len _ _=>match Nat.blt i len with
        |true=>some (.val (.ptr b (off+i*es)))
        |false=>none
      | none,.fl xs es'=>match Nat.blt i xs.length,Nat.beq es es' with
        |true,true=>some (.val (.fp xs i 0))
        |_,_=>none
      | some n,.ptr b off=>match Nat.blt i n with
        |true=>some (.val (.ptr b (off+i*es)))
        |false=>none
      |_,_=>none
    |none=>none
 |_=>none
def SQ (_H:Pos->Option AB) (_next:Pos) (off:Nat) (n:Option Nat):List AV->Option cq
 |  [x] =>match x with
    | .agg cs=>match n with
      | none=>match nth cs off with
        |some v=>some (.val v)
        |none=>none
      |some n=>some (.val (.agg ((cs.drop off).take n)))
    |_=>none
 |_=>none
def Qo (_H:Pos->Option AB) (_next:Pos):List AV->Option cq
 |  [x,i]=>match x,vO i with
    | .str s,some i=>match nth s i with
      |some c=>some (.val (.int .u8 (.ofNat c)))
      |none=>none
    |_,_=>none
 |_=>none
def DT (_H:Pos->Option AB) (_next:Pos) (i:Nat):List AV->Option cq
 |  [x]=>match x with
    | .tuple vs=>match nth vs i with
      |some v=>some (.val v)
      |none=>none
    |_=>none
 |_=>none
def SR (_H:Pos->Option AB) (_next:Pos) (f:FuncId):List AV->Option cq
 |xs=>some (.call f xs)
def SS (_H:Pos->Option AB) (_next:Pos):List AV->Option cq
 |  x::xs=>match x with
    | .func f first captured=>some (.call f (first++(xs++captured)))
    |_=>none
 |_=>none
def Jb (H:Pos->Option AB) (_next:Pos) (k:LK):List AV->Option cq
 |  [x]=>match k,x with
    | .m,.mA=>some (.val (Ko 0))
    | .m,.map b=>match H b with
      |some (.map es _)=>some (.val (Ko es.length))
      |_=>none
    | .s,.str s=>some (.val (Ko s.length))
    | .l,.ah=>some (.val (Ko 0))
    | .l,.slice _ _ n _ _=>some (.val (Ko n))
    | .l,.fl xs _=>some (.val (Ko xs.length))
    |_,_=>none
 |_=>none
def fK (H:  Pos->Option AB) (next:Pos) (es bytes:Nat):List AV->Option cq
 |  [s, x]=> match dF s,dF x with
    | some n,some m=>
      match Nat.ble ((2*(n+m)+768)*bytes) 281474976710656,Nat.ble (n+m) 9223372036854775807 with
      | true,true=>match Nat.beq m 0,s with
        |true,.slice b off n c es'=>some (.val (.slice b off n c es'))
        |true,.fl xs es'=>some (.val (.fl xs es'))
        |true,.ah=>some (.val .ah)
        |false,.ah=>match cA es m H x with
         |some new=>some (.aL (.slice next 0 m none es) none none (some (.cells new 0)))
         |none=>none
        |false,.slice b off n (some c) es'=>
         match Nat.ble (n+m) c with
         |  true=>match H b,cA es m H x with
            |some (.cells cs fz),some new=>match Nat.ble (off+(n+m)*es) cs.length,Nat.ble fz (off+n*es)&&Nat.beq es es',aK new with
             |true,true,true=>some (.aL (.slice b off (n+m) (some c) es) none (some (b,.cells (aG cs (off+n*es) new) fz)) none)
             |_,_,_=>none
            |_,_=>none
         |  false=>match cA es n H s,cA es m H x with
            |some c9,some new=>some (.aL (.slice next 0 (n+m) none es) none none (some (.cells (c9++new) 0)))
            |_,_=>none
        |false,.slice b off n none es'=>
         match H b,cA es n H s,cA es m H x with
         |  some (.cells _ fz),some c9,some new=>match Nat.ble fz (off+n*es)&&Nat.beq es es',aK new with
            |true,true=>some (.aL (.slice next 0 (n+m) none es) (some b) none (some (.cells (c9++new) (fz - off))))
            |_,_=>none
         |_,_,_=>none
        |_,_=>none
      |_,_=>none
    |_,_=>none
 |_=>none
def A4 (H : Pos->Option AB) (_next:Pos) (es:Nat):List AV->Option cq
 |  [d, x]=>match dF d,dF x with
    | some n,some m=>
      let k:=min m n
      match Nat.beq k 0 with
      | true=>match d with
        | .str _=>none
        |_=>some (.val (Ko 0))
      | false=>match d with
        | .slice b off _ _ _=>match H b,cA es k H x with
          | some (.cells cs fz),some new=>match Nat.ble (off+k*es) cs.length,Nat.ble fz off,aK new with
            |true,true,true=>some (.aL (Ko k) none (some (b,.cells (aG cs off new) fz)) none)
            |_,_,_=>none
          |_,_=>none
        |_=>none
    |_,_=>none
 |_=>none
def El (_H:Pos->Option AB) (_next:Pos):List AV->Option cq
 |  [x,y]=>match x,y with
    | .int k a,.int _ b=>some (.val (.int k (match BD b a with|true=>b|false=>a)))
    | .str a,.str b=>some (.val (.str (match aD a b||gK a b with|true=>a|false=>b)))
    |_,_=>none
 |_=>none
def Em (_H:Pos->Option AB) (_next:Pos):List AV->Option cq
 |  [x,y]=>match x,y with
    | .int k a,.int _ b=>some (.val (.int k (match BD a b with|true=>b|false=>a)))
    | .str a,.str b=>some (.val (.str (match aD a b with|true=>b|false=>a)))
    |_,_=>none
 |_=>none
def oc (H:Pos->Option AB) (_next:Pos) (es:Nat) (zero:List AV):List AV->Option cq
 |  [x] =>match x with
    | .ah=>some (.val .undef)
    | .slice b off n _ _=>match Nat.beq n 0 with
      |true=>some (.val .undef)
      | false=>match H b with
        |some (.cells cs fz)=>match Nat.ble (off+n*es) cs.length,Nat.ble fz off,aK (bC zero n) with
         |true,true,true=>some (.aL .undef none (some (b,.cells (aG cs off (bC zero n)) fz)) none)
         |_,_,_=>none
        |_=>none
    |_=>none
 |_=>none
def Gx (_H:Pos->Option AB) (next:Pos):List AV->Option cq
 |  [x]=>match x with
    | .str s=>some (.aL (.ptr next 0) none none (some (.jM s 0)))
    |_=>none
 |_=>none
def Ku (H:Pos->Option AB) (_next:Pos):List AV->Option cq
 |  [x] =>match x with
    | .ptr b 0=>match H b with
      | some (.jM s pos)=>match Nat.blt pos s.length with
        |true=>match acu s pos with
         |some (c,w)=>some (.aL (.tuple [.bool true,Ko pos,.int .i32 (.ofNat c)]) none (some (b,.jM s (pos+w))) none)
         |none=>none
        |false=>some (.val (.tuple [.bool false]))
      |_=>none
    |_=>none
 |_=>none
def Gy (_H:Pos->Option AB) (next:Pos) (t:TypeId) (zero:List AV):List AV->Option cq
 |[]=>some (.aL (.ptr next 0) none none (some (.typed t zero)))
 |_=>none
def u7 (H:Pos->Option AB) (next:Pos) (e:TypeId) (bytes:Nat):List AV->Option cq
 |  [s, x]=> match x with
    | .str u=>match s with
      | .ah=>match Nat.ble ((2*(0+u.length)+768)*bytes) 281474976710656,Nat.ble (0+u.length) 9223372036854775807 with
        |true,true=>match Nat.beq u.length 0 with
         |true=>some (.val .ah)
         |false=>some (.aL (.slice next 0 (0+u.length) none 1) none none (some (.typed e (u.map fun c=> .int .u8 (.ofNat c)))))
        |_,_=>none
      | .slice b 0 n none 1=>match Nat.ble ((2*(n+u.length)+768)*bytes) 281474976710656,Nat.ble (n+u.length) 9223372036854775807 with
        |true,true=>match Nat.beq u.length 0 with
         |true=>some (.val (.slice b 0 n none 1))
         |false=>match H b with
          |  some (.typed e' cs)=>match Nat.beq e e',cut cs 0 n with
             |true,some c9=>some (.aL (.slice next 0 (n+u.length) none 1) (some b) none (some (.typed e (c9++u.map fun c=> .int .u8 (.ofNat c)))))
             |_,_=>none
          |_=>none
        |_,_=>none
      |_=>none
    |_=>none
 |_=>none
def TJ (H:Pos->Option AB) (_next:Pos):List AV->Option cq
 |  [x] =>match x with
    | .dP=>some (.val .dP)
    | .ptr b off=>match H b with
      | some (.typed _ cs)=>match Nat.blt off cs.length with
        |true=>some (.val (.ptr b off))
        |false=>none
      |_=>none
    |_=>none
 |_=>none
def Kv (H:Pos->Option AB) (_next:Pos) (u:TypeId) (n:Nat):List AV->Option cq
 |  [x] =>match x with
    | .dP=>some (.val .dP)
    | .ptr b 0=>match H b with
      | some (.typed t cs)=>match Nat.beq t u,Nat.ble n cs.length with
        |true,true=>some (.val (.ptr b 0))
        |_,_=>none
      |_=>none
    |_=>none
 |_=>none
def tW (_H:Pos->Option AB) (_next:Pos):List AV->Option cq
 |  [x]=>match x with
    | .ah=>some (.val .dP)
    | .slice b off n _ _=>match Nat.beq n 0 with
      |true=>none
      |false=>some (.val (.ptr b off))
    |_=>none
 |_=>none
def pH (H :Pos->Option AB) (_next:Pos) (e:TypeId):List AV->Option cq
 |  [x, y]=> match y with
    | .int .i64 (.ofNat n)=>match Nat.beq n 0 with
      | true=>match x with
        | .dP=>some (.val (.str []))
        | .ptr _ _=>some (.val (.str []))
        |_=>none
      | false=>match x with
        | .ptr b 0=>match H b with
          |some (.typed e' cs)=>match Nat.beq e e',cut cs 0 n,Nat.ble n 9223372036854775807 with
           | true,some l,true=>match bytesOf l with
             |some s=>some (.aL (.str s) (some b) none none)
             |none=>none
           |_,_,_=>none
          |_=>none
        |_=>none
    |_=>none
 |_=>none
def aC.run (H:Pos->Option AB) (next:Pos):aC->List AV->Option cq
 | .move=>Qn H next
 | .pick=>Vx H next
 | .alloc zero=>Kq H next zero
 | .box=>TH H next
 | .build zero places=>Kr H next zero places
 | .buildSlice es len zero places=>rO H next es len zero places
 | .load n=>u6 H next n
 | .store n=>Ez H next n
 | .nilCheck=>H8 H next
 | .bin op q=>gP H next op q
 | .un op=>adf H next op
 | .conv k=>A3 H next k
 | .mkIface t=>Ks H next t
 | .mkFunc f NR=>BN H next f NR
 | .mkMap=>Kt H next
 | .lookup pk zero ok=>l8 H next pk zero ok
 | .mapSet pk=>tV H next pk
 | .mkSlice es bytes zero=>y7 H next es bytes zero
 | .sliceS lo hi=>NS H next lo hi
 | .sliceL es lo hi mx=>gY H next es lo hi mx
 | .fieldA off=>NT H next off
 | .idxA es arr=>pG H next es arr
 | .field off n=>SQ H next off n
 | .idxS=>Qo H next
 | .extract i=>DT H next i
 | .callF f=>SR H next f
 | .callV=>SS H next
 | .lenB k=>Jb H next k
 | .append es bytes=>fK H next es bytes
 | .copyB es=>A4 H next es
 | .minB=>El H next
 | .maxB=>Em H next
 | .clearS es zero=>oc H next es zero
 | .rangeS=>Gx H next
 | .nextS=>Ku H next
 | .allocT t zero=>Gy H next t zero
 | .appendT e bytes=>u7 H next e bytes
 | .toU=>TJ H next
 | .fromU u n=>Kv H next u n
 | .sliceData=>tW H next
 | .unsafeStr e=>pH H next e
 | .capB=>fun _=>none
 | .bad=>fun _=>none
inductive fB where
 |t (p:Pos)
 |c (v:AV)
 deriving Inhabited
inductive Cls where
 |pure
 |read
 |new
 |aL
 deriving Inhabited
structure bD where
 dst:Option Pos
 k:aC
 xs:List fB
 guard:Option (Pos×Bool)
 cls:Cls
 bE:Nat
 deriving Inhabited
inductive AC where
 |skip
 |region (ops:List bD)
 |draw (ops:List (Nat×bD))
 |seq (a b:AC)
 |cond (x:fB) (a b:AC)
 |block (id:Nat) (a:AC)
 |loop (a:AC)
 |exit (id:Nat)
 |ret
 deriving Inhabited
inductive NU where
 |tmp (p:Pos)
 |cell (p:Pos) (n:Option Nat)
 deriving Inhabited
structure cL where
 code:AC
 nparams:Nat
 results:List NU
 deriving Inhabited
abbrev Fr:=T AV
structure St where
 heap:T AB
 next:Pos
 deriving Inhabited
inductive lQ where
 |normal
 |exit (id:Nat)
 |ret
 deriving Inhabited
def BO (fr:Fr):fB->Option AV
 | .t p=>fr.get p
 | .c v=>some v
def ey (fr:Fr):List fB->Option (List AV)
 |[]=>some []
 |  x::xs=>match BO fr x with
    |some v=>match ey fr xs with
     |some vs=>some (v::vs)
     |none=>none
    |none=>none
def bM (fr:Fr):Option (Pos×Bool)->Option Bool
 |none=>some true
 |  some (p,want)=>match fr.get p with
    |some (.bool b)=>some (b==want)
    |some (.tuple _)=>some false
    |_=>none
def dc (fr:Fr) (d:Option Pos) (v:AV):Fr:=match d with
 |some p=>fr.put (some v) p
 |none=>fr
def EA (o:Option (Pos×AB)) (h:T AB):T AB:=match o with
 |some (b,x)=>h.put (some x) b
 |none=>h
def Cu (o:Option Pos) (h:T AB):T AB:=match o with
 |some b=>h.put none b
 |none=>h
def St.aL (st:St) (del:Option Pos) (set:Option (Pos×AB)) (new:Option AB):St:=
 match new with
 |some x=>{ heap:=T.put (some x) st.next (EA set (Cu del st.heap)),next:=st.next.succ }
 |none=>{ heap:=EA set (Cu del st.heap),next:=st.next }
abbrev ak:=FuncId->List AV->St->Option (AV×St)
def bP (call:ak) (k:aC) (xs:List AV) (st:St):Option (AV×St):=
 match k.run (fun b=>st.heap.get b) st.next xs with
 |some (.val v)=>some (v,st)
 |some (.aL v del set new)=>some (v,st.aL del set new)
 |some (.call f args)=>call f args st
 |none=>none
def jt (call:ak):List bD->Fr->St->Option (Fr×St)
 |[],fr,st=>some (fr,st)
 |  o::os,fr,st=>match bM fr o.guard with
    |some true=>match ey fr o.xs with
     |  some xs=>match bP call o.k xs st with
        |some (v,st')=>jt call os (dc fr o.dst v) st'
        |none=>none
     |none=>none
    |some false=>jt call os (dc fr o.dst .undef) st
    |none=>none
end
section
def fJ:AV->AV->Bool
 | .bool a,.bool b=>a==b
 | .int k a,.int k' b=>Ey k k'&&BC a b
 | .str a,.str b=>gK a b
 | .dP,.dP=>true
 | .ptr b o,.ptr b' o'=>Pos.beq b b'&&Nat.beq o o'
 | .ah,.ah=>true
 | .slice b o l none es,.slice b' o' l' none es'=>Pos.beq b b'&&Nat.beq o o'&&Nat.beq l l'&&Nat.beq es es'
 | .slice b o l (some c) es,.slice b' o' l' (some c') es'=>Pos.beq b b'&&Nat.beq o o'&&Nat.beq l l'&&Nat.beq c c'&&Nat.beq es es'
 | .mA,.mA=>true
 | .map b,.map b'=>Pos.beq b b'
 | .js,.js=>true
 | .xG,.xG=>true
 |_,_=>false
def xH:List AV->List AV->Bool
 |[],[]=>true
 |a::x,b::y=>fJ a b&&xH x y
 |_,_=>false
def Gz (f:AV->AV->Bool):List AV->List AV->Bool
 |[],[]=>true
 |a::x,b::y=>f a b&&Gz f x y
 |_,_=>false
def yf (f:AV->AV->Bool):List (List AV)->List (List AV)->Bool
 |[],[]=>true
 |a::x,b::y=>Gz f a b&&yf f x y
 |_,_=>false
def GC:Nat->AV->AV->Bool
 |d+1,.fl a n,.fl a' n'=>yf (GC d) a a'&&Nat.beq n n'
 |_,a,b=>fJ a b
def kK:AV->AV->Bool
 | .func f a b,.func f' a' b'=>Nat.beq f f'&&xH a a'&&xH b b'
 | .fl a n,.fl a' n'=>GC 3 (.fl a n) (.fl a' n')
 |a,b=>fJ a b
def oG:List AV->List AV->Bool
 |[],[]=>true
 |a::x,b::y=>kK a b&&oG x y
 |_,_=>false
def eC:AV->AV->Bool
 | .agg l,.agg l'=>oG l l'
 | .tuple l,.tuple l'=>oG l l'
 |a,b=>kK a b
inductive RC where
 |pure
 |new (id:Pos) (aE:AB)
 |aL (base:T AB) (h:T AB)
 deriving Inhabited
structure Rec where
 idx:Nat
 o:bD
 v:AV
 c:RC
 nx:Pos
 deriving Inhabited
def snap (bE:Nat) (h:T AB):List Rec->T AB
 |[]=>h
 |  r ::rs=>match r.c with
    | .new id aE=>match bE.testBit r.idx with
      |true=>(snap bE h rs).put (some aE) id
      |false=>snap bE h rs
    | .aL _ _=>h
    | .pure=>snap bE h rs
def jN:List (Pos×AB)->T AB->T AB
 |[],h=>h
 |(id,aE)::l,h=>(jN l h).put (some aE) id
def kL (k:aC) (xs:List AV) (v:AV) (h:T AB):Bool:=
 match k.run (fun b=>h.get b) .h xs with
 |some (.val u)=>eC u v
 |_=>false
def jW (bE:Nat) (k:aC) (xs:List AV) (v:AV):List (Pos×AB)->List Rec->Bool
 |_,[]=>true
 |  up,r::rs=>match r.c with
    | .new id aE=>match bE.testBit r.idx with
      |true=>jW bE k xs v ((id,aE)::up) rs
      |false=>jW bE k xs v up rs
    | .aL base _=>match bE.testBit r.idx with
      |true=>true
      |false=>kL k xs v (jN up (snap bE base rs))&&jW bE k xs v up rs
    | .pure=>jW bE k xs v up rs
def cW (call:ak):List (Nat×bD)->List Rec->T AB->Fr->St->Option (Fr×St)
 |[],_,_,fr,st=>some (fr,st)
 |  (j, o)::os,recs,base,fr,st=>match bM fr o.guard with
    |some false=>cW call os ({ idx:=j,o:=o,v:= .undef,c:= .pure,nx:=st.next }::recs) base (dc fr o.dst .undef) st
    | some true=>match ey fr o.xs with
      |none=>none
      | some xs=>match o.cls with
        | .new=>match o.k.run (fun _=>none) st.next xs with
          |some (.aL v none none (some aE))=>
           cW call os ({ idx:=j,o:=o,v:=v,c:= .new st.next aE,nx:=st.next.succ }::recs) base (dc fr o.dst v) { heap:=st.heap.put (some aE) st.next,next:=st.next.succ }
          |_=>none
        | .aL=>match bP call o.k xs st with
          |some (v,st')=>cW call os ({ idx:=j,o:=o,v:=v,c:= .aL base st'.heap,nx:=st'.next }::recs) st'.heap (dc fr o.dst v) st'
          |none=>none
        | _=>match o.k.run (fun _=>none) .h xs with
          |some (.val v)=>cW call os ({ idx:=j,o:=o,v:=v,c:= .pure,nx:=st.next }::recs) base (dc fr o.dst v) st
          |_=>match o.k.run (fun b=>(snap o.bE base recs).get b) .h xs with
           |some (.val v)=>match jW o.bE o.k xs v [] recs with
            |true=>cW call os ({ idx:=j,o:=o,v:=v,c:= .pure,nx:=st.next }::recs) base (dc fr o.dst v) st
            |false=>none
           |_=>none
    |none=>none
def bg (call:ak) (ih:AC->Fr->St->Option (lQ×Fr×St)):AC->Fr->St->Option (lQ×Fr×St)
 | .skip,fr,st=>some (.normal,fr,st)
 |  .region ops,fr,st=>match jt call ops fr st with
    |some (fr,st)=>some (.normal,fr,st)
    |none=>none
 |  .draw ops,fr,st=>match cW call ops [] st.heap fr st with
    |some (fr,st)=>some (.normal,fr,st)
    |none=>none
 |  .seq a b,fr,st=>match ih a fr st with
    |some (.normal,fr,st)=>ih b fr st
    |r=>r
 |  .cond x a b,fr,st=>match BO fr x with
    |some (.bool true)=>ih a fr st
    |some (.bool false)=>ih b fr st
    |_=>none
 |  .block id a,fr,st=>match ih a fr st with
    |some (.exit tj,fr,st)=>match Nat.beq tj id with
     |true=>some (.normal,fr,st)
     |false=>some (.exit tj,fr,st)
    |r=>r
 |  .loop a,fr,st=>match ih a fr st with
    |some (.normal,fr,st)=>ih (.loop a) fr st
    |r=>r
 | .exit id,fr,st=>some (.exit id,fr,st)
 | .ret,fr,st=>some (.ret,fr,st)
def exec (call:ak):Nat->AC->Fr->St->Option (lQ×Fr×St)
 |0=>fun _ _ _=>none
 |n+1=>bg call (exec call n)
def params:Nat->List AV->Fr->Fr
 |_,[],fr=>fr
 |i,v::vs,fr=>params (i+1) vs (fr.put (some v) (key i))
def fC (H:Pos->Option AB) (fr:Fr):List NU->Option (List AV)
 |[]=>some []
 |  .tmp p::rs=>match fr.get p with
    |some v=>match fC H fr rs with
     |some vs=>some (v::vs)
     |none=>none
    |none=>none
 |  .cell p n::rs=>match fr.get p with
    |some q=>match (aC.load n).run H .h [q] with
     |  some (.val v)=>match fC H fr rs with
        |some vs=>some (v::vs)
        |none=>none
     |_=>none
    |none=>none
def xg:List AV->AV
 |[v]=>v
 |vs=> .tuple vs
abbrev dQ:=FuncId->Option (List AV->St->Option (AV×St))
def od (O:dQ) (G:T cL) (m:Nat):Nat->ak
 |0=>fun _ _ _=>none
 |  d+  1=>fun f args st=>match O f with
    |some s=>s args st
    |none=>match G.get (key f) with
     |  some F=>match Nat.beq args.length F.nparams with
        |true=>match exec (od O G m d) m F.code (params 0 args .e) st with
         |some (.normal,fr,st')=>match fC (fun b=>st'.heap.get b) fr F.results with
          |some vs=>some (xg vs,st')
          |none=>none
         |some (.ret,fr,st')=>match fC (fun b=>st'.heap.get b) fr F.results with
          |some vs=>some (xg vs,st')
          |none=>none
         |_=>none
        |false=>none
     |none=>none
end
section
inductive TK where
 |bool
 |int (k:IntKind)
 |string
 |ptr (elem:Nat)
 |slice (elem:Nat)
 |array (n elem:Nat)
 |map (k e:Nat)
 |struct (fs:List (Nat×Nat×Bool))
 |func
 |iface
 |upt
 |other
 deriving Inhabited
structure TI where
 k:TK
 size:Nat
 bytes:Nat
 zero:Option (List AV)
 xj:Bool:=false
 deriving Inhabited
def Kw:Value->Option AV
 | .bool b=>some (.bool b)
 | .int k n=>some (.int k n)
 | .string s=>some (.str (s.data.toList.map UInt8.toNat))
 | .pointer none=>some .dP
 | .slice none 0 0=>some .ah
 | .map none=>some .mA
 | .func (.func f) ⟨[]⟩ ⟨[]⟩=>some (.func f [] [])
 | .nilFunc=>some .js
 | .nilIface=>some .xG
 |_=>none
def oe:List Value->Option (List AV)
 |[]=>some []
 |  v::vs=>match Kw v,oe vs with
    |some a,some as=>some (a::as)
    |_,_=>none
def Vy:Value->Option AV
 |  .agg cs=>match oe cs.toList with
    |some l=>some (.agg l)
    |none=>none
 |v=>Kw v
def pI:Operand->Option fB
 | .tmp t=>some (.t (key t))
 |  .const v=>match Vy v with
    |some a=>some (.c a)
    |none=>none
 | .func f=>some (.c (.func f [] []))
 | .global _=>none
def ju:List Operand->Option (List fB)
 |[]=>some []
 |  x::xs=>match pI x,ju xs with
    |some a,some as=>some (a::as)
    |_,_=>none
def TK.isAgg:TK->Bool
 | .struct _=>true
 | .array _ _=>true
 |_=>false
abbrev TT:=T TI
def y8 (tt:TT) (t:Nat):Option eH:=match tt.get (key t) with
 |  some ti=>match ti.k with
    | .bool=>some .bool
    | .int _=>some .num
    | .string=>some .num
    | .ptr _=>some .ptr
    | .slice _=>some .slice
    | .map _ _=>some .map
    | .func=>some .func
    | .iface=>some .iface
    | .struct fs=>match ti.xj,fields fs with
      |true,some l=>some (.struct l)
      |_,_=>none
    |_=>none
 |none=>none
where
 fields:List (Nat×Nat×Bool)->Option (List (Nat×PK))
  |[]=>some []
  |(off,t,named)::fs=>match named,tt.get (key t),fields fs with
   |true,some ti,some l=>match ti.k with
    | .bool=>some ((off,.b)::l)
    | .int _=>some ((off,.i)::l)
    | .string=>some ((off,.s)::l)
    |_=>none
   |_,_,_=>none
def y9 (ti:TI):Option Nat:=match ti.k.isAgg with
 |true=>some ti.size
 |false=>none
def akA (tt:TT) (t:Nat) (ti:TI):Bool:=match ti.k with
 |  .struct ((_,p,_)::_)=>match tt.get (key p) with
    |some pi=>match pi.k with
     | .ptr e=>Nat.beq e t
     |_=>false
    |none=>false
 |_=>false
def za:Option Operand->List Operand
 |some x=>[x]
 |none=>[]
def fL (tt:TT):Op->Option (aC×List fB×Cls)
 |  .move x=>match pI x with
    |some a=>some (.move,[a],.pure)
    |none=>none
 |  .assign x=>match pI x with
    |some a=>some (.move,[a],.pure)
    |none=>none
 |  .pick c a b=>match ju [c,a,b] with
    |some l=>some (.pick,l,.pure)
    |none=>none
 |  .alloc t=>match tt.get (key t) with
    |some ti=>match ti.zero with
     |  some z=>match akA tt t ti with
        |true=>some (.allocT t z,[],.aL)
        |false=>some (.alloc z,[],.new)
     |none=>none
    |none=>none
 |  .box _ x=>match pI x with
    |some a=>some (.box,[a],.new)
    |none=>none
 |  .build t ps=>match tt.get (key t),ju (ps.toList.map (·.2)) with
    |some ti,some l=>match ti.k,ti.zero with
     |  .struct fs,some z=>match places tt fs (ps.toList.map (·.1)),YP tt fs with
        |some p,true=>some (.build z p,l,.pure)
        |_,_=>none
     |  .array _ e,some z=>match tt.get (key e) with
        |some te=>some (.build z (ps.toList.map fun x=>(x.1*te.size,te.size)),l,.pure)
        |none=>none
     |_,_=>none
    |_,_=>none
 |  .buildSlice t len ps=>match tt.get (key t),ju (ps.toList.map (·.2)) with
    |some ti,some l=>match ti.k with
     |  .slice e=>match tt.get (key e) with
        | some te=>match te.zero,Nat.ble (len*te.size) 16777216 with
          |some z,true=>some (.buildSlice te.size len z (ps.toList.map (·.1)),l,.new)
          |_,_=>none
        |none=>none
     |_=>none
    |_,_=>none
 |  .load t a=>match tt.get (key t),pI a with
    |some ti,some a=>some (.load (y9 ti),[a],.read)
    |_,_=>none
 |  .store t a x=>match tt.get (key t),ju [a,x] with
    |some ti,some l=>some (.store ti.size,l,.aL)
    |_,_=>none
 |  .nilCheck x=>match pI x with
    |some a=>some (.nilCheck,[a],.pure)
    |none=>none
 |  .binOp op t x y _=>match y8 tt t,ju [x,y] with
    |some q,some l=>some (.bin op q,l,.pure)
    |none,some l=>match op with
     | .eql=>none
     | .neq=>none
     |_=>some (.bin op .num,l,.pure)
    |_,_=>none
 |  .unOp op _ x=>match pI x with
    |some a=>some (.un op,[a],.pure)
    |none=>none
 |  .convert src dst x=>match tt.get (key src),tt.get (key dst),pI x with
    |some s,some d,some a=>match s.k,d.k with
     | .int _,.int k=>some (.conv (.int k),[a],.pure)
     | .string,.string=>some (.conv .same,[a],.pure)
     |  .string,.slice e=>match tt.get (key e) with
        | some te=>match te.k with
          | .int .u8=>some (.conv .bytes,[a],.new)
          |_=>none
        |none=>none
     |  .slice e,.string=>match tt.get (key e) with
        | some te=>match te.k with
          | .int .u8=>some (.conv .ofBytes,[a],.read)
          |_=>none
        |none=>none
     |  .ptr e,.upt=>match tt.get (key e) with
        | some te=>match Nat.beq te.size 0 with
          |false=>some (.toU,[a],.aL)
          |true=>none
        |none=>none
     |  .upt,.ptr e=>match tt.get (key e) with
        | some te=>match Nat.beq te.size 0 with
          |false=>some (.fromU e te.size,[a],.aL)
          |true=>none
        |none=>none
     |_,_=>none
    |_,_,_=>none
 |  .makeInterface t x=>match tt.get (key t),pI x with
    |some ti,some a=>match ti.k with
     | .iface=>none
     | .other=>none
     |_=>some (.mkIface t,[a],.pure)
    |_,_=>none
 |  .makeFunc fn first captured=>match fn,ju (first.toList++captured.toList) with
    | .func f,some l=>some (.mkFunc f first.size,l,.pure)
    |_,_=>none
 |  .makeMap t r=>match tt.get (key t) with
    |some ti=>match ti.k,r with
     | .map _ _,none=>some (.mkMap,[],.new)
     | .map _ _,some (.const (.int _ _))=>some (.mkMap,[],.new)
     |_,_=>none
    |none=>none
 |  .makeSlice t l c=>match tt.get (key t),ju [l,c] with
    |some ti,some xs=>match ti.k with
     |  .slice e=>match tt.get (key e) with
        | some te=>match te.zero with
          |some z=>some (.mkSlice te.size te.bytes z,xs,.new)
          |none=>none
        |none=>none
     |_=>none
    |_,_=>none
 |  .slice t x lo hi mx=>match tt.get (key t),ju ([x]++za lo++za hi++za mx) with
    |some ti,some xs=>match ti.k with
     |  .string=>match mx with
        |none=>some (.sliceS lo.isSome hi.isSome,xs,.pure)
        |some _=>none
     |  .slice e=>match tt.get (key e) with
        |some te=>some (.sliceL te.size lo.isSome hi.isSome mx.isSome,xs,.pure)
        |none=>none
     |_=>none
    |_,_=>none
 |  .fieldAddr t x f=>match tt.get (key t),pI x with
    |some ti,some a=>match ti.k with
     |  .struct fs=>match nth fs f with
        | some (off,ft,_)=>match tt.get (key ft) with
          |some fi=>match Nat.beq fi.size 0 with
           |false=>some (.fieldA off,[a],.pure)
           |true=>none
          |none=>none
        |none=>none
     |_=>none
    |_,_=>none
 |  .field t x f=>match tt.get (key t),pI x with
    |some ti,some a=>match ti.k with
     |  .struct fs=>match nth fs f with
        | some (off,ft,_)=>match tt.get (key ft) with
          |some fi=>some (.field off (y9 fi),[a],.pure)
          |none=>none
        |none=>none
     |_=>none
    |_,_=>none
 |  .indexAddr t x ix=>match tt.get (key t),ju [x,ix] with
    |some ti,some l=>match ti.k with
     |  .slice e=>match tt.get (key e) with
        |some te=>some (.idxA te.size none,l,.pure)
        |none=>none
     |  .array n e=>match tt.get (key e) with
        |some te=>some (.idxA te.size (some n),l,.pure)
        |none=>none
     |_=>none
    |_,_=>none
 |  .index t x ix=>match tt.get (key t),ju [x,ix] with
    |some ti,some l=>match ti.k with
     | .string=>some (.idxS,l,.pure)
     |_=>none
    |_,_=>none
 |  .lookup t x ix ok=>match tt.get (key t),ju [x,ix] with
    |some ti,some l=>match ti.k with
     |  .map k e=>match tt.get (key k),tt.get (key e) with
        | some tk,some te=>match tk.k,te.zero with
          | .int _,some z=>some (.lookup .i (Jc te z) ok,l,.read)
          | .string,some z=>some (.lookup .s (Jc te z) ok,l,.read)
          | .bool,some z=>some (.lookup .b (Jc te z) ok,l,.read)
          |_,_=>none
        |_,_=>none
     |_=>none
    |_,_=>none
 | .mapUpdate t m k v=>adg tt t m k v
 | .insert t m k v=>adg tt t m k v
 |  .range t x=>match tt.get (key t),pI x with
    |some ti,some a=>match ti.k with
     | .string=>some (.rangeS,[a],.new)
     |_=>none
    |_,_=>none
 |  .next it isString=>match isString,pI it with
    |true,some a=>some (.nextS,[a],.aL)
    |_,_=>none
 |  .extract x i=>match pI x with
    |some a=>some (.extract i,[a],.pure)
    |none=>none
 |  .call c=>match ju c.args.toList with
    |none=>none
    |some xs =>match c.callee with
     | .value (.func f)=>some (.callF f,xs,.aL)
     |  .value x=>match pI x with
        |some a=>some (.callV,a::xs,.aL)
        |none=>none
     | .invoke _ _=>none
     |  .builtin b=>match b with
        | .len=>match c.argTypes.toList,xs with
          |t ::_,[_]=>match tt.get (key t) with
           | some ti=>match ti.k with
             | .string=>some (.lenB .s,xs,.pure)
             | .slice _=>some (.lenB .l,xs,.pure)
             | .map _ _=>some (.lenB .m,xs,.read)
             |_=>none
           |none=>none
          |_,_=>none
        | .append=>match c.argTypes.toList with
          |t ::t2::_=>match tt.get (key t),tt.get (key t2) with
           | some ti,some Mp=>match ti.k,Mp.k with
             |_,.int _=>none
             | .slice e,.string=>match tt.get (key e) with
               | some te=>match te.zero,te.k,Nat.beq te.size 1 with
                 |some _,.int .u8,true=>some (.appendT e te.bytes,xs,.aL)
                 |_,_,_=>none
               |none=>none
             | .slice e,_=>match tt.get (key e) with
               | some te=>match te.zero with
                 |some _=>some (.append te.size te.bytes,xs,.aL)
                 |none=>none
               |none=>none
             |_,_=>none
           |_,_=>none
          |_=>none
        | .copy=>match c.argTypes.toList with
          |t ::_=>match tt.get (key t) with
           | some ti=>match ti.k with
             | .slice e=>match tt.get (key e) with
               |some te=>some (.copyB te.size,xs,.aL)
               |none=>none
             |_=>none
           |none=>none
          |_=>none
        | .unsafeSliceData=>match xs with
          |[_]=>some (.sliceData,xs,.pure)
          |_=>none
        | .unsafeString=>match c.argTypes.toList with
          |[t, _]=>match tt.get (key t) with
           | some ti=>match ti.k with
             | .ptr e=>match tt.get (key e) with
               | some te=>match te.k,Nat.beq te.size 1 with
                 | .int .u8,true=>some (.unsafeStr e,xs,.aL)
                 |_,_=>none
               |none=>none
             |_=>none
           |none=>none
          |_=>none
        | .min=>match xs with
          |[_,_]=>some (.minB,xs,.pure)
          |_=>none
        | .max=>match xs with
          |[_,_]=>some (.maxB,xs,.pure)
          |_=>none
        | .clear=>match c.argTypes.toList with
          |t ::_=>match tt.get (key t) with
           | some ti=>match ti.k with
             | .slice e=>match tt.get (key e) with
               | some te=>match te.zero with
                 |some z=>some (.clearS te.size z,xs,.aL)
                 |none=>none
               |none=>none
             |_=>none
           |none=>none
          |_=>none
        |_=>none
 |_=>none
where
 YP (tt:TT):List (Nat×Nat×Bool)->Bool
  |[]=>true
  |  (_,t,_)::l=>match tt.get (key t) with
     |some _=>YP tt l
     |none=>false
 places (tt:TT) (fs:List (Nat×Nat×Bool)):List Nat->Option (List (Nat×Nat))
  |[]=>some []
  |  i ::is=>match nth fs i,places tt fs is with
     | some (off,t,_),some l=>match tt.get (key t) with
       |some ti=>some ((off,ti.size)::l)
       |none=>none
     |_,_=>none
 Jc (te:TI) (z:List AV):AV:=match te.k.isAgg with
  |true=> .agg z
  |  false=>match z with
     |[v]=>v
     |_=> .agg z
 adg (tt:TT) (t:Nat) (m k v:Operand):Option (aC×List fB×Cls):=
  match tt.get (key t),ju [m,k,v] with
  |  some ti,some l=>match ti.k with
     | .map kt _=>match tt.get (key kt) with
       |some tk=>match tk.k with
        | .int _=>some (.mapSet .i,l,.aL)
        | .string=>some (.mapSet .s,l,.aL)
        | .bool=>some (.mapSet .b,l,.aL)
        |_=>none
       |none=>none
     |_=>none
  |_,_=>none
def TL (ops:Array Oper):Option (Nat×Bool)->Option (Option (Pos×Bool))
 |none=>some none
 |  some (j,b)=>match ops[j]? with
    |some o=>match o.dst with
     |some d=>some (some (key d,b))
     |none=>none
    |none=>none
def Zb:List Oper->List Nat->List Nat
 |[],acc=>acc
 |o::os,acc=>Zb os (acc++[o.after.toList.foldl (fun s e=>match Region.binds .any e with
   |true=>s ||| 2 ^ e.on ||| (nth acc e.on).getD 0
   |false=>s) 0])
def zb (tt:TT) (nt:Nat) (ops:Array Oper):List Oper->List Nat->Option (List bD)
 |[],_=>some []
 |  o::os,bs=>match TL ops o.guard,zb tt nt ops os bs.tail,ah7 nt o.dst with
    |some g,some l,true=>match fL tt o.op with
     |some (k,xs,cls)=>some ({ dst:=o.dst.map key,k:=k,xs:=xs,guard:=g,cls:=cls,bE:=bs.headD 0 }::l)
     |none=>some ({ dst:=o.dst.map key,k:= .bad,xs:=[],guard:=g,cls:= .aL,bE:=bs.headD 0 }::l)
    |_,_,_=>none
where
 ah7 (nt:Nat):Option Tmp->Bool
  |none=>true
  |some d=>Nat.blt d nt
def bD.looks (o:bD):List Pos:=
 (match o.guard with|some (p,_)=>[p]|none=>[])++o.xs.filterMap fun| .t p=>some p| .c _=>none
def Jd (p:Pos):List Pos->Bool
 |[]=>false
 |q::l=>Pos.beq p q||Jd p l
def NV (a b:bD):Bool:=
 (match a.dst with
  |some d=> !Jd d b.looks&&(match b.dst with|some d'=> !Pos.beq d d'|none=>true)
  |none=>true)&&
 (match b.dst with
  |some d=> !Jd d a.looks
  |none=>true)
def xk:List (Nat×bD)->List (Nat×bD)->List (Nat×bD)
 |[],held=>held
 |  (i,o)::l,held=>match o.cls with
    | .aL=>held.filter (fun x=>o.bE.testBit x.1)++(i,o)::xk l (held.filter fun x=> !o.bE.testBit x.1)
    |_=>xk l (held++[(i,o)])
def EB:Nat->List bD->List (Nat×bD)
 |_,[]=>[]
 |i,o::os=>(i,o)::EB (i+1) os
def Je (m:Nat):Nat->List (Nat×bD)->Bool
 |seen,[]=>Nat.beq seen (2 ^ m - 1)
 |  seen,(i,o)::l=>Nat.blt i m&& !seen.testBit i&&Nat.beq (o.bE &&& seen) o.bE&&(match o.cls with| .aL=>Nat.beq o.bE seen|_=>true)&&
    (l.all fun x=>x.2.bE.testBit i||NV o x.2)&&Je m (seen ||| 2 ^ i) l
def BE (tt:TT) (nt:Nat):Code->Option AC
 | .skip=>some .skip
 |  .region _ ops draw=>match zb tt nt ops ops.toList (Zb ops.toList []) with
    |none=>none
    |some l=>match draw with
     |false=>some (.region l)
     |  true=>match Je l.length 0 (xk (EB 0 l) []) with
        |true=>some (.draw (xk (EB 0 l) []))
        |false=>none
 |  .seq a b=>match BE tt nt a,BE tt nt b with
    |some a,some b=>some (.seq a b)
    |_,_=>none
 |  .cond c a b=>match pI c,BE tt nt a,BE tt nt b with
    |some c,some a,some b=>some (.cond c a b)
    |_,_,_=>none
 |  .block id a=>match BE tt nt a with
    |some a=>some (.block id a)
    |none=>none
 |  .loop a=>match BE tt nt a with
    |some a=>some (.loop a)
    |none=>none
 | .exit id=>some (.exit id)
 | .ret=>some .ret
 | .refuse _=>some (.region [{ dst:=none,k:= .bad,xs:=[],guard:=none,cls:= .aL,bE:=0 }])
 |_=>none
def tX (tt:TT):List ResultVar->Option (List NU)
 |[]=>some []
 |  .tmp t::rs=>match tX tt rs with
    |some l=>some (.tmp (key t)::l)
    |none=>none
 |  .cell a t::rs=>match tt.get (key t),tX tt rs with
    |some ti,some l=>some (.cell (key a) (y9 ti)::l)
    |_,_=>none
def YQ (tt:TT) (f:Func):Option cL:=match f.body with
 |  some c=>match BE tt f.ntmps c,tX tt f.results.toList,Nat.ble (f.params.size+f.nfree) f.ntmps with
    |some a,some rs,true=>some { code:=a,nparams:=f.params.size+f.nfree,results:=rs }
    |_,_,_=>none
 |none=>none
end
section
structure Loc where
 aE:Nat
 base:Nat
 size:Nat
abbrev Cells:=Addr->Option Value
inductive av (ρ:Pos->Loc) (n:Nat) (C:Cells):AV->Value->Prop where
 |bool (b:Bool):av ρ n C (.bool b) (.bool b)
 |int (k:IntKind) (i:Int):av ρ n C (.int k i) (.int k i)
 |str (s:List Nat) (bs:ByteArray) (h:bs.data.toList.map UInt8.toNat=s):av ρ n C (.str s) (.string bs)
 |dP:av ρ n C .dP (.pointer none)
 |ptr (b:Pos) (off:Nat) (h:b.toNat<n):av ρ n C (.ptr b off) (.pointer (some ⟨(ρ b).aE,(ρ b).base+off,none⟩))
 |fp (xs:List (List AV)) (i j es:Nat) (aE base:Nat) (cell:Nat->Nat->Value)
  (hl: ∀(i:Nat) (cs:List AV),xs[i]? =some cs->cs.length=es)
  (hc: ∀(i j:Nat) (cs:List AV) (v:AV),xs[i]? =some cs->cs[j]? =some v->C ⟨aE,base+i*es+j,none⟩=some (cell i j))
  (hv: ∀(i j:Nat) (cs:List AV) (v:AV),xs[i]? =some cs->cs[j]? =some v->av ρ n C v (cell i j)):
  av ρ n C (.fp xs i j) (.pointer (some ⟨aE,base+i*es+j,none⟩))
 |ah:av ρ n C .ah (.slice none 0 0)
 |slice (b:Pos) (off len:Nat) (cap:Option Nat) (es aN:Nat) (a:Addr) (hl:len<=aN) (hc: ∀c,cap=some c->c=aN)
  (ha:aN≠0->b.toNat<n/\a=⟨(ρ b).aE,(ρ b).base+off,none⟩/\(ρ b).base+off+aN*es<=(ρ b).size)
  (hk:cap=none->b.toNat<n):
  av ρ n C (.slice b off len cap es) (.slice (some a) len aN)
 |fl (xs:List (List AV)) (es aN:Nat) (a:Addr) (cell:Nat->Nat->Value) (hl:xs.length<=aN)
  (hs:xs≠[]->a.spot=none)
  (ei: ∀(i:Nat) (cs:List AV),xs[i]? =some cs->cs.length=es)
  (hc: ∀(i j:Nat) (cs:List AV) (v:AV),xs[i]? =some cs->cs[j]? =some v->C ⟨a.block,a.off+i*es+j,none⟩=some (cell i j))
  (hv: ∀(i j:Nat) (cs:List AV) (v:AV),xs[i]? =some cs->cs[j]? =some v->av ρ n C v (cell i j)):
  av ρ n C (.fl xs es) (.slice (some a) xs.length aN)
 |mA:av ρ n C .mA (.map none)
 |map (b:Pos) (h:b.toNat<n):av ρ n C (.map b) (.map (some (ρ b).aE))
 |func (f:FuncId) (x y:List AV) (x' y':Array Value) (hx:x.length=x'.size) (hy:y.length=y'.size)
  (gZ: ∀(i:Nat) (v:AV) (v':Value),x[i]? =some v->x'[i]? =some v'->av ρ n C v v') (tY: ∀(i:Nat) (v:AV) (v':Value),y[i]? =some v->y'[i]? =some v'->av ρ n C v v'):
  av ρ n C (.func f x y) (.func (.func f) x' y')
 |js:av ρ n C .js .nilFunc
 |xG:av ρ n C .xG .nilIface
 |iface (t:TypeId) (v:AV) (x:Value) (h:av ρ n C v x):av ρ n C (.iface t v) (.iface t x)
 |agg (l:List AV) (cs:Array Value) (hl:l.length=cs.size) (h: ∀(i:Nat) (v:AV) (v':Value),l[i]? =some v->cs[i]? =some v'->av ρ n C v v'):
  av ρ n C (.agg l) (.agg cs)
 |tuple (l:List AV) (cs:Array Value) (hl:l.length=cs.size) (h: ∀(i:Nat) (v:AV) (v':Value),l[i]? =some v->cs[i]? =some v'->av ρ n C v v'):
  av ρ n C (.tuple l) (.tuple cs)
theorem av.mono {ρ ρ':Pos->Loc} {n n':Nat} {C:Cells} {v:AV} {x:Value} (h:av ρ n C v x)
  (aS: ∀b:Pos,b.toNat<n->ρ' b=ρ b) (hn:n<=n'):av ρ' n' C v x:=by
 induction h with
 |bool b=>exact .bool b
 |int k i=>exact .int k i
 |str s bs h=>exact .str s bs h
 |dP=>exact .dP
 |ptr b off h=>rw[<-aS b h];exact .ptr b off (by omega)
 |fp xs i j es aE base cell hl hc _ ih=>exact .fp xs i j es aE base cell hl hc ih
 |ah=>exact .ah
 |slice b off len cap es aN a hl hc ha hk=>
  refine .slice b off len cap es aN a hl hc (fun h0=> ?_) (fun h0=>by have:=hk h0;omega)
  obtain ⟨h1,h2,h3⟩:=ha h0
  rw[aS b h1];exact ⟨by omega,h2,h3⟩
 |fl xs es aN a cell hl hs ei hc _ ih=>exact .fl xs es aN a cell hl hs ei hc ih
 |mA=>exact .mA
 |map b h=>rw[<-aS b h];exact .map b (by omega)
 |func f x y x' y' hx hy _ _ ih1 ih2=>exact .func f x y x' y' hx hy ih1 ih2
 |js=>exact .js
 |xG=>exact .xG
 |iface t v x _ ih=>exact .iface t v x ih
 |agg l cs hl _ ih=>exact .agg l cs hl ih
 |tuple l cs hl _ ih=>exact .tuple l cs hl ih
def aA (ρ:Pos->Loc) (n:Nat) (C:Cells) (l:List AV) (xs:List Value):Prop:=
 l.length=xs.length/\ ∀(i:Nat) (v:AV) (x:Value),l[i]? =some v->xs[i]? =some x->av ρ n C v x
section
variable {ρ ρ' : Pos -> Loc} {n n' : Nat} {C : Cells}
theorem aA.mono {l:List AV} {xs:List Value} (h:aA ρ n C l xs) (aS: ∀b:Pos,b.toNat<n->ρ' b=ρ b) (hn:n<=n'):
 aA ρ' n' C l xs:=⟨h.1,fun i v x hv hx=>(h.2 i v x hv hx).mono aS hn⟩
theorem aA.nil:aA ρ n C [] []:=⟨rfl,fun _ _ _ h=>by simp at h⟩
theorem aA.cons {v:AV} {x:Value} {l:List AV} {xs:List Value} (h:av ρ n C v x) (hs:aA ρ n C l xs):aA ρ n C (v::l) (x::xs):=
 ⟨by simp[hs.1],fun i u y hu hy=>by
  cases i with
  |zero=>simp at hu hy;subst hu;subst hy;exact h
  |succ i=>simp at hu hy;exact hs.2 i u y hu hy⟩
theorem aA.cons_inv {v:AV} {l:List AV} {xs:List Value} (h:aA ρ n C (v::l) xs): ∃x yg,xs=x::yg/\av ρ n C v x/\aA ρ n C l yg:=by
 cases xs with
 |nil=>have:=h.1;simp at this
 |cons x yg=>
  exact ⟨x,yg,rfl,h.2 0 v x rfl rfl,by have:=h.1;simpa using this,fun i u y hu hy=>h.2 (i+1) u y (by simpa using hu) (by simpa using hy)⟩
theorem aA.su {xs:List Value} (h:aA ρ n C [] xs):xs=[]:=by
 have:=h.1;cases xs with
 |nil=>rfl
 |cons a b=>simp at this
theorem aA.append {l m:List AV} {xs ys:List Value} (h:aA ρ n C l xs) (k:aA ρ n C m ys):aA ρ n C (l++m) (xs++ys):=by
 refine ⟨by simp[h.1,k.1],fun i v x hv hx=> ?_⟩
 rcases Nat.lt_or_ge i l.length with hi|hi
 . rw[List.getElem?_append_left hi] at hv
   rw[List.getElem?_append_left (by rw[<-h.1];exact hi)] at hx
   exact h.2 i v x hv hx
 . rw[List.getElem?_append_right hi] at hv
   rw[List.getElem?_append_right (by rw[<-h.1];exact hi), <-h.1] at hx
   exact k.2 _ v x hv hx
theorem aA.take {l:List AV} {xs:List Value} (h:aA ρ n C l xs) (m:Nat):aA ρ n C (l.take m) (xs.take m):=by
 refine ⟨by simp[h.1],fun i v x hv hx=> ?_⟩
 rw[List.getElem?_take] at hv hx
 split at hv
 . rename_i hi;rw[if_pos hi] at hx;exact h.2 i v x hv hx
 . cases hv
theorem aA.drop {l:List AV} {xs:List Value} (h:aA ρ n C l xs) (m:Nat):aA ρ n C (l.drop m) (xs.drop m):=by
 refine ⟨by simp[h.1],fun i v x hv hx=> ?_⟩
 rw[List.getElem?_drop] at hv hx
 exact h.2 _ v x hv hx
theorem aA.aG {l vs:List AV} {xs ys:List Value} (h:aA ρ n C l xs) (k:aA ρ n C vs ys) (i:Nat):
  aA ρ n C (Go.Ai.aG l i vs) (Go.Ai.aG xs i ys):=by
 unfold Go.Ai.aG
 rw[k.1]
 exact (h.take i).append (k.append (h.drop _))
theorem aA.get {l:List AV} {xs:List Value} (h:aA ρ n C l xs) {i:Nat} {v:AV} (hv:l[i]? =some v): ∃x,xs[i]? =some x/\av ρ n C v x:=by
 have hi:i<xs.length:=by rw[<-h.1];exact (List.getElem?_eq_some_iff.1 hv).1
 exact ⟨xs[i],List.getElem?_eq_getElem hi,h.2 i v _ hv (List.getElem?_eq_getElem hi)⟩
theorem av.EC {l:List AV} {cs:Array Value} (h:aA ρ n C l cs.toList):av ρ n C (.agg l) (.agg cs):=
 .agg l cs (by simpa using h.1) fun i v x hv hx=>h.2 i v x hv (by simpa using hx)
theorem av.tZ {l:List AV} {cs:Array Value} (h:aA ρ n C l cs.toList):av ρ n C (.tuple l) (.tuple cs):=
 .tuple l cs (by simpa using h.1) fun i v x hv hx=>h.2 i v x hv (by simpa using hx)
theorem av.A5 {l:List AV} {x:Value} (h:av ρ n C (.agg l) x): ∃cs,x= .agg cs/\aA ρ n C l cs.toList:=by
 cases h with|agg _ cs hl h=>exact ⟨cs,rfl,by simpa using hl,fun i v x hv hx=>h i v x hv (by simpa using hx)⟩
theorem av.WR {l:List AV} {x:Value} (h:av ρ n C (.tuple l) x): ∃cs,x= .tuple cs/\aA ρ n C l cs.toList:=by
 cases h with|tuple _ cs hl h=>exact ⟨cs,rfl,by simpa using hl,fun i v x hv hx=>h i v x hv (by simpa using hx)⟩
theorem av.Ky {f:FuncId} {a b:List AV} {x:Value} (h:av ρ n C (.func f a b) x):
  ∃a' b',x= .func (.func f) a' b'/\aA ρ n C a a'.toList/\aA ρ n C b b'.toList:=by
 cases h with
 |func _ _ _ a' b' hx hy h1 h2=>exact ⟨a',b',rfl,⟨by simpa using hx,fun i v x hv hx=>h1 i v x hv (by simpa using hx)⟩,⟨by simpa using hy,fun i v x hv hx=>h2 i v x hv (by simpa using hx)⟩⟩
theorem av.cells {v:AV} {x:Value} (h:av ρ n C v x):aA ρ n C v.cells x.cells.toList:=by
 by_cases hv: ∃l,v= .agg l
 . obtain ⟨l,rfl⟩:=hv
   obtain ⟨cs,rfl,hs⟩:=h.A5
   exact hs
 . have h1:v.cells=[v]:=by cases v<;>first|rfl|exact absurd ⟨_,rfl⟩ hv
   have h2:x.cells= #[x]:=by cases h<;>first|rfl|exact absurd ⟨_,rfl⟩ hv
   rw[h1,h2];exact aA.cons h aA.nil
def lR (ρ:Pos->Loc) (n:Nat) (C:Cells) (L:Loc) (w:World):AB->Prop
 | .cells cs fz=> ∃(c:Array Value) (e:TypeId) (fr:Nat×Nat),w.heap[L.aE]? =some (.cells c e fr)/\c.size=L.size/\L.base+cs.length<=c.size/\
  aA ρ n C cs ((c.toList.drop L.base).take cs.length)/\ ∀i,fz<=i->L.base+i<c.size-> ¬(fr.1<=L.base+i/\L.base+i<fr.2)
 | .map es clock=> ∃(es':Array MapEntry),w.heap[L.aE]? =some (.map es' clock)/\es.length=es'.size/\
  ∀(i:Nat) (e:AV×AV×Nat) (e':MapEntry),es[i]? =some e->es'[i]? =some e'->av ρ n C e.1 e'.key/\av ρ n C e.2.1 e'.val/\e.2.2=e'.born
 | .jM s pos=> ∃(bs:ByteArray),w.heap[L.aE]? =some (.stringIter bs pos)/\bs.data.toList.map UInt8.toNat=s/\L.base=0
 | .typed t cs=> ∃(c:Array Value) (fr:Nat×Nat),w.heap[L.aE]? =some (.cells c t fr)/\c.size=L.size/\L.base+cs.length<=c.size/\
  aA ρ n C cs ((c.toList.drop L.base).take cs.length)/\(∀i,0<=i->L.base+i<c.size-> ¬(fr.1<=L.base+i/\L.base+i<fr.2))/\L.base=0
theorem lR.mono {L:Loc} {w:World} {x:AB} (h:lR ρ n C L w x) (aS: ∀b:Pos,b.toNat<n->ρ' b=ρ b) (hn:n<=n'):lR ρ' n' C L w x:=by
 cases x with
 |cells cs fz=>obtain ⟨c,e,fr,h1,h2,h3,h4,h5⟩:=h;exact ⟨c,e,fr,h1,h2,h3,h4.mono aS hn,h5⟩
 |map es clock=>obtain ⟨es',h1,h2,h3⟩:=h;exact ⟨es',h1,h2,fun i e e' he mB=>let ⟨a,b,c⟩:=h3 i e e' he mB;⟨a.mono aS hn,b.mono aS hn,c⟩⟩
 |jM s pos=>exact h
 |typed t cs=>obtain ⟨c,fr,h1,h2,h3,h4,h5⟩:=h;exact ⟨c,fr,h1,h2,h3,h4.mono aS hn,h5⟩
theorem lR.of_heap {L:Loc} {w w':World} {x:AB} (h:lR ρ n C L w x) (hw:w'.heap[L.aE]? =w.heap[L.aE]?):lR ρ n C L w' x:=by
 cases x with
 |cells cs fz=>obtain ⟨c,e,fr,h1,h2⟩:=h;exact ⟨c,e,fr,by rw[hw];exact h1,h2⟩
 |map es clock=>obtain ⟨es',h1,h2⟩:=h;exact ⟨es',by rw[hw];exact h1,h2⟩
 |jM s pos=>obtain ⟨bs,h1,h2⟩:=h;exact ⟨bs,by rw[hw];exact h1,h2⟩
 |typed t cs=>obtain ⟨c,fr,h1,h2⟩:=h;exact ⟨c,fr,by rw[hw];exact h1,h2⟩
end
structure bA (ρ:Pos->Loc) (C:Cells) (st:St) (w:World):Prop where
 live: ∀b x,st.heap.get b=some x->b.toNat<st.next.toNat/\(ρ b).aE<w.heap.size/\lR ρ st.next.toNat C (ρ b) w x
 inj: ∀b b' x x',st.heap.get b=some x->st.heap.get b'=some x'->(ρ b).aE=(ρ b').aE->b=b'
 cZ: ∀a v,C a=some v->w.cell? a=some v/\ ∀b x,st.heap.get b=some x->(ρ b).aE≠a.block
 whole: ∀a v,C a=some v-> ∀o,C ⟨a.block,o,none⟩=none->w.cell? ⟨a.block,o,none⟩=none
structure ni (ρ:Pos->Loc) (st:St) (w:World) (ρ':Pos->Loc) (st':St) (w':World):Prop where
 os:w'.os=w.os
 tape:w'.tape=w.tape
 output:w'.output=w.output
 size:w.heap.size<=w'.heap.size
 block: ∀k,k<w.heap.size->(∀b x,st.heap.get b=some x->(ρ b).aE≠k)->w'.heap[k]? =w.heap[k]?
 vP: ∀b x,st'.heap.get b=some x->(∃b' x',st.heap.get b'=some x'/\(ρ b').aE=(ρ' b).aE)\/w.heap.size<=(ρ' b).aE
theorem ni.refl (ρ:Pos->Loc) (st:St) (w:World):ni ρ st w ρ st w:=⟨rfl,rfl,rfl,Nat.le_refl _,fun _ _ _=>rfl,fun b x h=> .inl ⟨b,x,h,rfl⟩⟩
theorem ni.trans {ρ ig BP:Pos->Loc} {st bk yh:St} {w w1 w2:World} (h:ni ρ st w ig bk w1) (k:ni ig bk w1 BP yh w2):ni ρ st w BP yh w2 where
 os:=k.os.trans h.os
 tape:=k.tape.trans h.tape
 output:=k.output.trans h.output
 size:=Nat.le_trans h.size k.size
 block q hq hn:=by
  rw[k.block q (Nat.lt_of_lt_of_le hq h.size) fun b x hb e=> ?_,h.block q hq hn]
  rcases h.vP b x hb with ⟨b',x',h1,h2⟩|h1
  . exact hn b' x' h1 (h2.trans e)
  . rw[e] at h1;omega
 vP b x hb:=by
  rcases k.vP b x hb with ⟨b',x',h1,h2⟩|h1
  . rcases h.vP b' x' h1 with ⟨b'',x'',h3,h4⟩|h3
    . exact .inl ⟨b'',x'',h3,h4.trans h2⟩
    . right;rw[<-h2];exact h3
  . exact .inr (Nat.le_trans h.size h1)
def mC (ρ:Pos->Loc) (n:Nat) (C:Cells) (fr:Fr) (tmps:Array Value):Prop:=
 ∀p v,fr.get p=some v-> ∃x,tmps[p.toNat - 1]? =some x/\av ρ n C v x
theorem Pos.toNat_pos (p:Pos):0<p.toNat:=by
 induction p with
 |h=>simp[Pos.toNat]
 |o p ih=>simp[Pos.toNat];exact ih
 |i p ih=>simp[Pos.toNat]
theorem Pos.toNat_inj: ∀{p q:Pos},p.toNat=q.toNat->p=q
 | .h,.h,_=>rfl
 | .h,.o q,hq=>by have:=q.toNat_pos;simp[Pos.toNat] at hq;omega
 | .h,.i q,hq=>by have:=q.toNat_pos;simp[Pos.toNat] at hq;omega
 | .o p,.h,hq=>by have:=p.toNat_pos;simp[Pos.toNat] at hq;omega
 | .o p,.o q,hq=>by simp[Pos.toNat] at hq;rw[Pos.toNat_inj (p:=p) (q:=q) (by omega)]
 | .o p,.i q,hq=>by simp[Pos.toNat] at hq;omega
 | .i p,.h,hq=>by have:=p.toNat_pos;simp[Pos.toNat] at hq;omega
 | .i p,.o q,hq=>by simp[Pos.toNat] at hq;omega
 | .i p,.i q,hq=>by simp[Pos.toNat] at hq;rw[Pos.toNat_inj (p:=p) (q:=q) (by omega)]
theorem Pos.ax (p:Pos):p.succ.toNat=p.toNat+1:=by
 induction p with
 |h=>rfl
 |o p ih=>simp[Pos.succ,Pos.toNat]
 |i p ih=>simp[Pos.succ,Pos.toNat,ih];omega
theorem Pos.Kz: ∀(f m:Nat),0<m->m<2 ^ (f+1)->(Pos.Y9 f m).toNat=m
 |0,m,hp,hl=>by
  simp at hl
  have:m=1:=by omega
  subst this;rfl
 |f +   1,m,hp,hl=>by
  unfold Pos.Y9
  split
  . rename_i hb;have:=Nat.le_of_ble_eq_true hb;have:m=1:=by omega
    subst this;rfl
  . rename_i hb
    have h1:1<m:=by
        rcases Nat.lt_or_ge 1 m with hh|hh
        . exact hh
        . rw[Nat.ble_eq_true_of_le hh] at hb;cases hb
    have h2:m / 2<2 ^ (f+1):=by
        have:2 ^ (f+1+1)=2*2 ^ (f+1):=by rw[Nat.pow_succ];omega
        omega
    split
    .   rename_i he;have:=Nat.eq_of_beq_eq_true he
        simp only[Pos.toNat];rw[Pos.Kz f _ (by omega) h2];omega
    .   rename_i he;have:=Nat.ne_of_beq_eq_false he
        simp only[Pos.toNat];rw[Pos.Kz f _ (by omega) h2];omega
theorem iO (n:Nat):(key n).toNat=n+1:=Pos.Kz _ (n+1) (by omega) Nat.lt_log2_self
theorem T.cX {α:Type} (p:Pos):(T.e:T α).get p=none:=by cases p<;>rfl
theorem T.fq {α:Type} (x:Option α) (p:Pos) (t:T α):(T.put x p t).get p=x:=by
 induction p generalizing t with
 |h=>cases t<;>rfl
 |o p ih=>cases t<;>exact ih _
 |i p ih=>cases t<;>exact ih _
theorem T.bK {α:Type} (x:Option α) {p q:Pos} (h:p≠q) (t:T α):(T.put x p t).get q=t.get q:=by
 induction p generalizing q t with
 |h=>cases q with
  |h=>exact absurd rfl h
  |o q=>cases t<;>simp[T.put,T.get,T.cX]
  |i q=>cases t<;>simp[T.put,T.get,T.cX]
 |o p ih=>cases q with
  |h=>cases t<;>simp[T.put,T.get]
  | o q=>cases t with
    |e=>simp only[T.put,T.get];rw[ih (fun e=>h (by rw[e])),T.cX]
    |n l v r=>simp only[T.put,T.get];exact ih (fun e=>h (by rw[e])) l
  |i q=>cases t<;>simp[T.put,T.get,T.cX]
 |i p ih=>cases q with
  |h=>cases t<;>simp[T.put,T.get]
  |o q=>cases t<;>simp[T.put,T.get,T.cX]
  | i q=>cases t with
    |e=>simp only[T.put,T.get];rw[ih (fun e=>h (by rw[e])),T.cX]
    |n l v r=>simp only[T.put,T.get];exact ih (fun e=>h (by rw[e])) r
theorem Pos.beq_eq: ∀{p q:Pos},p.beq q=true↔p=q
 | .h,.h=>by simp[Pos.beq]
 | .h,.o q=>by simp[Pos.beq]
 | .h,.i q=>by simp[Pos.beq]
 | .o p,.h=>by simp[Pos.beq]
 | .o p,.o q=>by simp only[Pos.beq,Pos.o.injEq];exact Pos.beq_eq
 | .o p,.i q=>by simp[Pos.beq]
 | .i p,.h=>by simp[Pos.beq]
 | .i p,.o q=>by simp[Pos.beq]
 | .i p,.i q=>by simp only[Pos.beq,Pos.i.injEq];exact Pos.beq_eq
end
noncomputable section
section
variable {R : Type}
def ED {α:Type} (p:Pos):T α->Option α:=
 Pos.rec (motive:=fun _=>T α->Option α)
    (fun t=>T.rec (motive:=fun _=>Option α) none (fun _ v _ _ _=>v) t)
    (fun _ ih t=>T.rec (motive:=fun _=>Option α) none (fun l _ _ _ _=>ih l) t)
    (fun _ ih t=>T.rec (motive:=fun _=>Option α) none (fun _ _ r _ _=>ih r) t) p
def A7 {α:Type} (x:Option α) (p:Pos):T α->(T α->R)->R:=
 Pos.rec (motive:=fun _=>T α->(T α->R)->R)
    (fun t k=>T.rec (motive:=fun _=>R) (k (.n .e x .e)) (fun l _ r _ _=>k (.n l x r)) t)
    (fun _ ih t k=>T.rec (motive:=fun _=>R) (ih .e fun l=>k (.n l none .e)) (fun l v r _ _=>ih l fun l=>k (.n l v r)) t)
    (fun _ ih t k=>T.rec (motive:=fun _=>R) (ih .e fun r=>k (.n .e none r)) (fun l v r _ _=>ih r fun r=>k (.n l v r)) t) p
def oH (n:Nat) (k:Nat->R):R:=Nat.rec (motive:=fun _=>R) (k 0) (fun m _=>k (Nat.succ m)) n
def SU (n:Int) (k:Int->R):R:=match n with
 | .ofNat m=>oH m fun m=>k (.ofNat m)
 | .negSucc m=>oH m fun m=>k (.negSucc m)
def WS (b:Bool) (k:Bool->R):R:=match b with
 |true=>k true
 |false=>k false
def zc {α:Type} (l:List α):(List α->R)->R:=
 List.rec (motive:=fun _=>(List α->R)->R) (fun k=>k []) (fun a _ ih k=>ih fun t=>k (a::t)) l
def KA (p:Pos):(Pos->R)->R:=
 Pos.rec (motive:=fun _=>(Pos->R)->R) (fun k=>k .h) (fun _ ih k=>ih fun p=>k (.o p)) (fun _ ih k=>ih fun p=>k (.i p)) p
def Zc (o:Option Nat) (k:Option Nat->R):R:=match o with
 |none=>k none
 |some n=>oH n fun n=>k (some n)
def NW (v:AV) (k:AV->R):R:=match v with
 | .bool b=>WS b fun b=>k (.bool b)
 | .int i n=>SU n fun n=>k (.int i n)
 | .str s=>zc s fun s=>k (.str s)
 | .ptr b o=>KA b fun b=>oH o fun o=>k (.ptr b o)
 | .slice b o l c es=>KA b fun b=>oH o fun o=>oH l fun l=>Zc c fun c=>k (.slice b o l c es)
 | .map b=>KA b fun b=>k (.map b)
 | .func f x y=>zc x fun x=>zc y fun y=>k (.func f x y)
 | .agg l=>zc l fun l=>k (.agg l)
 |v=>k v
def Qp (l:List AV):(List AV->R)->R:=
 List.rec (motive:=fun _=>(List AV->R)->R) (fun k=>k []) (fun a _ ih k=>NW a fun a=>ih fun t=>k (a::t)) l
def rP (v:AV) (k:AV->R):R:=match v with
 | .tuple l=>Qp l fun l=>k (.tuple l)
 |v=>NW v k
def En (x:AB) (k:AB->R):R:=match x with
 | .cells cs fz=>zc cs fun cs=>oH fz fun fz=>k (.cells cs fz)
 | .map es c=>zc es fun es=>oH c fun c=>k (.map es c)
 | .jM s p=>oH p fun p=>k (.jM s p)
 | .typed t cs=>zc cs fun cs=>k (.typed t cs)
def YR (p:Pos):(Pos->R)->R:=
 Pos.rec (motive:=fun _=>(Pos->R)->R) (fun k=>k (.o .h)) (fun q _ k=>k (.i q)) (fun _ ih k=>ih fun p=>k (.o p)) p
variable (z : R)
def evK (fr:Fr) (x:fB) (k:AV->R):R:=match x with
 |  .t p=>match ED p fr with
    |some v=>k v
    |none=>z
 | .c v=>k v
def Vz (fr:Fr) (xs:List fB):(List AV->R)->R:=
 List.rec (motive:=fun _=>(List AV->R)->R) (fun k=>k []) (fun x _ ih k=>evK z fr x fun v=>ih fun vs=>k (v::vs)) xs
def Eo (fr:Fr) (g:Option (Pos×Bool)) (yes no:R):R:=match g with
 |none=>yes
 |  some (p,want)=>match ED p fr with
    |some (.bool b)=>match b==want with
     |true=>yes
     |false=>no
    |some (.tuple _)=>no
    |_=>z
def jX (fr:Fr) (d:Option Pos) (v:AV) (k:Fr->R):R:=match d with
 |some p=>A7 (some v) p fr k
 |none=>k fr
def delK (o:Option Pos) (h:T AB) (k:T AB->R):R:=match o with
 |some b=>A7 none b h k
 |none=>k h
def ago (o:Option (Pos×AB)) (h:T AB) (k:T AB->R):R:=match o with
 |some (b,x)=>En x fun x=>A7 (some x) b h k
 |none=>k h
abbrev DU (R:Type):=FuncId->List AV->St->(AV->St->R)->R
def agp (st:St) (del:Option Pos) (set:Option (Pos×AB)) (new:Option AB) (k:St->R):R:=
 delK del st.heap fun h=>ago set h fun h=>match new with
    |some x=>En x fun x=>A7 (some x) st.next h fun h=>YR st.next fun n=>k { heap:=h,next:=n }
    |none=>k { heap:=h,next:=st.next }
def Qq (call:DU R) (op:aC) (xs:List AV) (st:St) (k:AV->St->R):R:=
 match op.run (fun b=>ED b st.heap) st.next xs with
 |some (.val v)=>rP v fun v=>k v st
 |some (.aL v del set new)=>rP v fun v=>agp st del set new fun st=>k v st
 |some (.call f args)=>zc args fun args=>call f args st k
 |none=>z
def adh (call:DU R) (ops:List bD):Fr->St->(Fr->St->R)->R:=
 List.rec (motive:=fun _=>Fr->St->(Fr->St->R)->R) (fun fr st k=>k fr st)
    (fun o _ ih fr st k=>Eo z fr o.guard
     (Vz z fr o.xs fun xs=>Qq z call o.k xs st fun v st=>jX fr o.dst v fun fr=>ih fr st k)
     (jX fr o.dst .undef fun fr=>ih fr st k)) ops
def KB (bE:Nat) (h:T AB) (recs:List Rec):(T AB->R)->R:=
 List.rec (motive:=fun _=>(T AB->R)->R) (fun k=>k h)
    (fun r _ ih k=>match r.c with
     |  .new id aE=>match bE.testBit r.idx with
        |true=>ih fun h'=>A7 (some aE) id h' k
        |false=>ih k
     | .aL _ _=>k h
     | .pure=>ih k) recs
def Zd (h:T AB) (l:List (Pos×AB)):(T AB->R)->R:=
 List.rec (motive:=fun _=>(T AB->R)->R) (fun k=>k h) (fun x _ ih k=>ih fun h'=>A7 (some x.2) x.1 h' k) l
def Ze (op:aC) (xs:List AV) (v:AV) (h:T AB):Bool:=
 match op.run (fun b=>ED b h) .h xs with
 |some (.val u)=>eC u v
 |_=>false
def qq (bE:Nat) (op:aC) (xs:List AV) (v:AV):List (Pos×AB)->List Rec->Bool
 |_,[]=>true
 |  up,r::rs=>match r.c with
    | .new id aE=>match bE.testBit r.idx with
      |true=>qq bE op xs v ((id,aE)::up) rs
      |false=>qq bE op xs v up rs
    | .aL base _=>match bE.testBit r.idx with
      |true=>true
      |false=>(KB bE base rs fun h=>Zd h up fun h=>Ze op xs v h)&&qq bE op xs v up rs
    | .pure=>qq bE op xs v up rs
def KC (call:DU R) (ops:List (Nat×bD)):List Rec->T AB->Fr->St->(Fr->St->R)->R:=
 List.rec ( motive:=fun _=>List Rec->T AB->Fr->St->(Fr->St->R)->R)
    (fun _ _ fr st k=>k fr st)
    (fun jo _ ih recs base fr st k=>Eo z fr jo.2.guard
     (Vz  z fr jo.2.xs fun xs=>match jo.2.cls with
        | .new=>match jo.2.k.run (fun _=>none) st.next xs with
          |some (.aL v none none (some aE))=>rP v fun v=>En aE fun aE=>jX fr jo.2.dst v fun fr=>YR st.next fun n=>A7 (some aE) st.next st.heap fun h=>
              ih ({ idx:=jo.1,o:=jo.2,v:=v,c:= .new st.next aE,nx:=n }::recs) base fr { heap:=h,next:=n } k
          |_=>z
        | .aL=>Qq z call jo.2.k xs st fun v st'=>jX fr jo.2.dst v fun fr=>ih ({ idx:=jo.1,o:=jo.2,v:=v,c:= .aL base st'.heap,nx:=st'.next }::recs) st'.heap fr st' k
        | _ =>match jo.2.k.run (fun _=>none) .h xs with
          |some (.val v)=>rP v fun v=>jX fr jo.2.dst v fun fr=>ih ({ idx:=jo.1,o:=jo.2,v:=v,c:= .pure,nx:=st.next }::recs) base fr st k
          | _ =>KB jo.2.bE base recs fun h=>match jo.2.k.run (fun b=>ED b h) .h xs with
            | some (.val v)=>rP v fun v=>match qq jo.2.bE jo.2.k xs v [] recs with
              |true=>jX fr jo.2.dst v fun fr=>ih ({ idx:=jo.1,o:=jo.2,v:=v,c:= .pure,nx:=st.next }::recs) base fr st k
              |false=>z
            |_=>z)
     (jX fr jo.2.dst .undef fun fr=>ih ({ idx:=jo.1,o:=jo.2,v:= .undef,c:= .pure,nx:=st.next }::recs) base fr st k)) ops
abbrev YS (R:Type):=AC->Fr->St->(Fr->St->R)->(Nat->Fr->St->R)->(Fr->St->R)->R
def qt (call:DU R) (ih:YS R):YS R
 | .skip,fr,st,kn,_,_=>kn fr st
 | .region ops,fr,st,kn,_,_=>adh z call ops fr st kn
 | .draw ops,fr,st,kn,_,_=>KC z call ops [] st.heap fr st kn
 | .seq a b,fr,st,kn,kx,kr=>ih a fr st (fun fr st=>ih b fr st kn kx kr) kx kr
 |  .cond x a b,fr,st,kn,kx,kr=>evK z fr x fun v=>match v with
    | .bool true=>ih a fr st kn kx kr
    | .bool false=>ih b fr st kn kx kr
    |_=>z
 | .block id a,fr,st,kn,kx,kr=>ih a fr st kn (fun tj fr st=>match Nat.beq tj id with
     |true=>kn fr st
     |false=>kx tj fr st) kr
 | .loop a,fr,st,kn,kx,kr=>ih a fr st (fun fr st=>ih (.loop a) fr st kn kx kr) kx kr
 | .exit id,fr,st,_,kx,_=>kx id fr st
 | .ret,fr,st,_,_,kr=>kr fr st
def YT (call:DU R) (n:Nat):YS R:=
 Nat.rec (motive:=fun _=>YS R) (fun _ _ _ _ _ _=>z) (fun _ ih=>qt z call ih) n
def Qr (vs:List AV):Nat->Fr->(Fr->R)->R:=
 List.rec (motive:=fun _=>Nat->Fr->(Fr->R)->R) (fun _ fr k=>k fr)
    (fun v _ ih i fr k=>A7 (some v) (key i) fr fun fr=>ih (i+1) fr k) vs
def A8 (st:St) (fr:Fr) (rs:List NU) (k:AV->R):R:=
 match fC (fun b=>ED b st.heap) fr rs with
 |  some vs=>Qp vs fun vs=>match vs with
    |[v]=>k v
    |vs=>k (.tuple vs)
 |none=>z
def Qt (O:dQ  ) (G:T cL) (m:Nat) (d:Nat):DU R:=
 Nat.rec (motive:=fun _=>DU R) (fun _ _ _ _=>z)
    (fun _ ih f args st k=>match O f with
     |  some s=>match s args st with
        |some (v,st')=>rP v fun v=>k v st'
        |none=>z
     |  none=>match ED (key f) G with
        |some F=>match Nat.beq args.length F.nparams with
         |true=>Qr args 0 .e fun fr=>YT z ih m F.code fr st
              (fun fr st=>A8 z st fr F.results fun v=>k v st)
              (fun _ _ _=>z)
              (fun fr st=>A8 z st fr F.results fun v=>k v st)
         |false=>z
        |none=>z) d
end
end
end Go.Ai
