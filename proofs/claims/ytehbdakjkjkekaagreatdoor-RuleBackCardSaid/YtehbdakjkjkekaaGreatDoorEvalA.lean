/- An evaluator over plain values, its compiler from the model's functions and its relation to the model's worlds. -/
import Derived.Calls
import Derived.Orders
import Derived.Below
set_option linter.all false
set_option linter.unusedSectionVars false
set_option linter.deprecated false
section
namespace Go.Ai
inductive Pos where
 |h
 |o (p:Pos)
 |i (p:Pos)
 deriving DecidableEq,Inhabited
def Pos.toNat:Pos->Nat
 | .h=>1
 | .o p=>2*p.toNat
 | .i p=>2*p.toNat+1
def Pos.succ:Pos->Pos
 | .h=> .o .h
 | .o p=> .i p
 | .i p=> .o p.succ
def Pos.Lr:Nat->Nat->Pos
 |0,_=> .h
 |  f+1,n=>match Nat.ble n 1 with
    |true=> .h
    |false=>match Nat.beq (n % 2) 0 with
     |true=> .o (Pos.Lr f (n / 2))
     |false=> .i (Pos.Lr f (n / 2))
def key (n:Nat):Pos:=Pos.Lr (n+1).log2 (n+1)
def Pos.beq:Pos->Pos->Bool
 | .h,.h=>true
 | .o a,.o b=>a.beq b
 | .i a,.i b=>a.beq b
 |_,_=>false
inductive T (α:Type) where
 |e
 |n (l:T α) (v:Option α) (r:T α)
 deriving Inhabited
def T.get {α:Type}:Pos->T α->Option α
 |_,.e=>none
 | .h,.n _ v _=>v
 | .o p,.n l _ _=>l.get p
 | .i p,.n _ _ r=>r.get p
def T.put {α:Type} (x:Option α):Pos->T α->T α
 | .h,.e=> .n .e x .e
 | .h,.n l _ r=> .n l x r
 | .o p,.e=> .n (T.put x p .e) none .e
 | .o p,.n l v r=> .n (T.put x p l) v r
 | .i p,.e=> .n .e none (T.put x p .e)
 | .i p,.n l v r=> .n l v (T.put x p r)
inductive AV where
 |bool (b:Bool)
 |int (k:IntKind) (n:Int)
 |str (s:List Nat)
 |bF
 |ptr (b:Pos) (off:Nat)
 |fp (xs:List (List AV)) (i j:Nat)
 |ai
 |slice (b:Pos) (off len:Nat) (cap:Option Nat) (es:Nat)
 |fl (xs:List (List AV)) (es:Nat)
 |gh
 |map (b:Pos)
 |func (f:FuncId) (first captured:List AV)
 |av
 |lp
 |iface (t:TypeId) (v:AV)
 |agg (l:List AV)
 |tuple (l:List AV)
 deriving Inhabited
inductive AB where
 |cells (cs:List AV) (fz:Nat)
 |map (es:List (AV×AV×Nat)) (clock:Nat)
 |iK (s:List Nat) (pos:Nat)
 |typed (t:TypeId) (cs:List AV)
 deriving Inhabited
def AV.cells:AV->List AV
 | .agg l=>l
 |v=>[v]
def AV.undef:AV:= .tuple []
def AV.one:AV->Bool
 | .agg _=>false
 | .tuple _=>false
 |_=>true
def aX:List AV->Bool
 |[]=>true
 |  v::l=>match v.one with
    |true=>aX l
    |false=>false
inductive b6 where
 |val (v:AV)
 |aE (v:AV) (del:Option Pos) (set:Option (Pos×AB)) (new:Option AB)
 |call (f:FuncId) (args:List AV)
 deriving Inhabited
def nth {α:Type}:List α->Nat->Option α
 |[],_=>none
 |a::_,0=>some a
 |_::l,n+1=>nth l n
def cut {α:Type} (l:List α) (i n:Nat):Option (List α):=
 match Nat.ble (i+n) l.length with
 |true=>some ((l.drop i).take n)
 |false=>none
def aO {α:Type} (l:List α) (i:Nat) (vs:List α):List α:=l.take i++(vs++l.drop (i+vs.length))
def fT:List Nat->List Nat->Bool
 |[],[]=>true
 |  a::x,b::y=>match Nat.beq a b with
    |true=>fT x y
    |false=>false
 |_,_=>false
def dY:List Nat->List Nat->Bool
 |_,[]=>false
 |[],_::_=>true
 |  a::x,b::y=>match Nat.blt a b with
    |true=>true
    |false=>match Nat.beq a b with
     |true=>dY x y
     |false=>false
inductive PK where
 |b
 |i
 |s
 deriving Inhabited
inductive iI where
 |num
 |bool
 |ptr
 |slice
 |map
 |func
 |iface
 |struct (fs:List (Nat×PK))
 deriving Inhabited
inductive Xx where
 |int (k:IntKind)
 |same
 |bytes
 |ofBytes
 deriving Inhabited
inductive LK where
 |s
 |l
 |m
 deriving Inhabited
inductive aB where
 |move
 |pick
 |alloc (zero:List AV)
 |box
 |build (zero:List AV) (places:List (Nat×Nat))
 |buildSlice (es len:Nat) (zero:List AV) (places:List Nat)
 |load (n:Option Nat)
 |store (n:Nat)
 |nilCheck
 |bin (op:BinOp) (q:iI)
 |un (op:UnOp)
 |conv (k:Xx)
 |mkIface (t:TypeId)
 |mkFunc (f:FuncId) (Di:Nat)
 |mkMap
 |lookup (pk:PK) (zero:AV) (ok:Bool)
 |mapSet (pk:PK)
 |mkSlice (es bytes:Nat) (zero:List AV)
 |sliceS (lo hi:Bool)
 |sliceL (es:Nat) (lo hi mx:Bool)
 |fieldA (off:Nat)
 |idxA (es:Nat) (arr:Option Nat)
 |field (off:Nat) (n:Option Nat)
 |idxS
 |extract (i:Nat)
 |callF (f:FuncId)
 |callV
 |lenB (k:LK)
 |capB
 |append (es bytes:Nat)
 |copyB (es:Nat)
 |minB
 |maxB
 |clearS (es:Nat) (zero:List AV)
 |rangeS
 |nextS
 |allocT (t:TypeId) (zero:List AV)
 |appendT (e:TypeId) (bytes:Nat)
 |toU
 |fromU (u:TypeId) (n:Nat)
 |sliceData
 |unsafeStr (e:TypeId)
 |bad
 deriving Inhabited
def sI (k:IntKind):Int:=match k with
 | .i8=> -128| .i16=> -32768| .i32=> -2147483648| .i64=> -9223372036854775808|_=>0
def OI (k:IntKind):Int:=match k with
 | .i8=>127| .i16=>32767| .i32=>2147483647| .i64=>9223372036854775807
 | .u8=>255| .u16=>65535| .u32=>4294967295| .u64=>18446744073709551615
def aW (k:IntKind) (n:Int):Int:=
 match Int.decLe (sI k) n with
 |  .isTrue _=>match Int.decLe n (OI k) with
    | .isTrue _=>n
    | .isFalse _=>k.wrap n
 | .isFalse _=>k.wrap n
def wh (a b:IntKind):Bool:=match decEq a b with
 | .isTrue _=>true
 | .isFalse _=>false
def qm (a b:Int):Bool:=match Int.decEq a b with
 | .isTrue _=>true
 | .isFalse _=>false
def tT (a b:Int):Bool:=match Int.decLt a b with
 | .isTrue _=>true
 | .isFalse _=>false
def K9 (a b:Int):Bool:=match Int.decLe a b with
 | .isTrue _=>true
 | .isFalse _=>false
def uU:PK->AV->AV->Option Bool
 | .b,.bool a,.bool b=>some (a==b)
 |  .i,.int k a,.int k' b=>match wh k k' with
    |true=>some (qm a b)
    |false=>none
 | .s,.str a,.str b=>some (fT a b)
 |_,_,_=>none
def eqFields (xs ys:List AV):List (Nat×PK)->Option Bool
 |[]=>some true
 |  (o,pk)::fs=>match nth xs o,nth ys o with
    | some a,some b=>match uU pk a b with
      |some true=>eqFields xs ys fs
      |some false=>some false
      |none=>none
    |_,_=>none
def yQ:iI->AV->AV->Option Bool
 | .bool,.bool a,.bool b=>some (a==b)
 | .ptr,.bF,.bF=>some true
 | .ptr,.bF,.ptr _ _=>some false
 | .ptr,.ptr _ _,.bF=>some false
 | .ptr,.bF,.fp _ _ _=>some false
 | .ptr,.fp _ _ _,.bF=>some false
 |  .ptr,.ptr b o,.ptr b' o'=>match Pos.beq b b',Nat.beq o o' with
    |true,true=>some true
    |_,_=>none
 | .slice,.ai,.ai=>some true
 | .slice,.ai,.slice _ _ _ _ _=>some false
 | .slice,.slice _ _ _ _ _,.ai=>some false
 | .slice,.ai,.fl _ _=>some false
 | .slice,.fl _ _,.ai=>some false
 | .map,.gh,.gh=>some true
 | .map,.gh,.map _=>some false
 | .map,.map _,.gh=>some false
 | .func,.av,.av=>some true
 | .func,.av,.func _ _ _=>some false
 | .func,.func _ _ _,.av=>some false
 | .iface,.lp,.iface _ _=>some false
 | .iface,.iface _ _,.lp=>some false
 | .struct fs,.agg xs,.agg ys=>eqFields xs ys fs
 |_,_,_=>none
def mz (op:BinOp) (q:iI):AV->AV->Option AV
 |  .int k a,.int k' b=>match op with
    | .shl=>match tT b 0 with
      |true=>none
      |false=>some (.int k (aW k (a*2 ^ (min b.toNat k.bits))))
    | .shr=>match tT b 0 with
      |true=>none
      |false=>some (.int k (a.fdiv (2 ^ (min b.toNat k.bits))))
    | op=>match wh k k' with
      |false=>none
      | true=>match op with
        | .add=>some (.int k (aW k (a+b)))
        | .sub=>some (.int k (aW k (a - b)))
        | .mul=>some (.int k (aW k (a*b)))
        | .quo=>match qm b 0 with
          |true=>none
          |false=>some (.int k (aW k (a.tdiv b)))
        | .rem=>match qm b 0 with
          |true=>none
          |false=>some (.int k (a.tmod b))
        | .and=>some (.int k (k.wrap (BitVec.ofInt k.bits a &&& BitVec.ofInt k.bits b).toNat))
        | .or=>some (.int k (k.wrap (BitVec.ofInt k.bits a ||| BitVec.ofInt k.bits b).toNat))
        | .xor=>some (.int k (k.wrap (BitVec.ofInt k.bits a ^^^ BitVec.ofInt k.bits b).toNat))
        | .andNot=>some (.int k (k.wrap (BitVec.ofInt k.bits a &&& ~~~BitVec.ofInt k.bits b).toNat))
        | .eql=>some (.bool (qm a b))
        | .neq=>some (.bool (!qm a b))
        | .lss=>some (.bool (tT a b))
        | .leq=>some (.bool (K9 a b))
        | .gtr=>some (.bool (tT b a))
        | .geq=>some (.bool (K9 b a))
        |_=>none
 |  .str a,.str b=>match op with
    | .add=>match Nat.ble (a.length+b.length) 9223372036854775807 with
      |true=>some (.str (a++b))
      |false=>none
    | .eql=>some (.bool (fT a b))
    | .neq=>some (.bool (!fT a b))
    | .lss=>some (.bool (dY a b))
    | .leq=>some (.bool (dY a b||fT a b))
    | .gtr=>some (.bool (!(dY a b||fT a b)))
    | .geq=>some (.bool (!dY a b))
    |_=>none
 |  x,y=>match op with
    | .eql=>match yQ q x y with
      |some b=>some (.bool b)
      |none=>none
    | .neq=>match yQ q x y with
      |some b=>some (.bool (!b))
      |none=>none
    |_=>none
def unA (op:UnOp):AV->Option AV
 |  .bool b=>match op with
    | .not=>some (.bool (!b))
    |_=>none
 |  .int k n=>match op with
    | .neg=>some (.int k (aW k (0 - n)))
    |_=>none
 |_=>none
def fk (cells:List AV):List (Nat×Nat)->List AV->Option (List AV)
 |[],[]=>some cells
 |  (off,size)::ps,v::vs=>
    match Nat.beq v.cells.length size,Nat.ble (off+size) cells.length with
    |true,true=>fk (aO cells off v.cells) ps vs
    |_,_=>none
 |_,_=>none
def cV {α:Type} (l:List α):Nat->List α
 |0=>[]
 |n+1=>l++cV l n
def pR:AV->Option Nat
 |  .int _ n=>match n with
    | .ofNat m=>some m
    | .negSucc _=>none
 |_=>none
def Bg (n:Nat):AV:= .int .i64 (.ofNat n)
def rows (es:Nat) (cs:List AV):Nat->List (List AV)
 |0=>[]
 |n+1=>cs.take es::rows es (cs.drop es) n
def bounds:(lo hi mx:Bool)->List AV->Option (Option Nat×Option Nat×Option Nat)
 |false,false,false,[]=>some (none,none,none)
 |  true,false,false,[a]=>match pR a with
    |some l=>some (some l,none,none)
    |none=>none
 |  false,true,false,[b]=>match pR b with
    |some h=>some (none,some h,none)
    |none=>none
 |  true,true,false,[a,b]=>match pR a,pR b with
    |some l,some h=>some (some l,some h,none)
    |_,_=>none
 |  false,true,true,[b,c]=>match pR b,pR c with
    |some h,some m=>some (none,some h,some m)
    |_,_=>none
 |  true,true,true,[a,b,c]=>match pR a,pR b,pR c with
    |some l,some h,some m=>some (some l,some h,some m)
    |_,_,_=>none
 |_,_,_,_=>none
def ec (es n:Nat) (H:Pos->Option AB):AV->Option (List AV)
 | .ai=>some []
 |  .slice b off _ _ _=>match Nat.beq (n*es) 0 with
    |true=>some []
    |false=>match H b with
     |some (.cells cs _)=>cut cs off (n*es)
     |_=>none
 |  .fl xs es'=>match Nat.beq es es',Nat.ble n xs.length with
    |true,true=>some (xs.take n).flatten
    |_,_=>none
 |  .str s=>match Nat.beq es 1,Nat.ble n s.length with
    |true,true=>some ((s.take n).map fun c=> .int .u8 (.ofNat c))
    |_,_=>none
 |_=>none
def fH:AV->Option Nat
 | .ai=>some 0
 | .slice _ _ n _ _=>some n
 | .fl xs _=>some xs.length
 | .str s=>some s.length
 |_=>none
def qo (pk:PK) (k:AV):List (AV×AV×Nat)->Nat->Option (Option (Nat×AV))
 |[],_=>some none
 |  (k',v,_)::es,i=>match uU pk k k' with
    |some true=>some (some (i,v))
    |some false=>qo pk k es (i+1)
    |none=>none
def UO:PK->AV->Bool
 | .b,.bool _=>true
 | .i,.int _ _=>true
 | .s,.str _=>true
 |_,_=>false
def mA (k v:AV):List (AV×AV×Nat)->Nat->List (AV×AV×Nat)
 |[],_=>[]
 |(_,_,born)::es,0=>(k,v,born)::es
 |e::es,i+1=>e::mA k v es i
def OJ (s:List Nat) (pos:Nat):Option (Nat×Nat):=
 match nth s pos with
 |  some c=>match Nat.blt c 128 with
    |true=>some (c,1)
    |false=>none
 |none=>none
def bytesOf:List AV->Option (List Nat)
 |[]=>some []
 |  .int .u8 (.ofNat n)::l=>match Nat.blt n 256,bytesOf l with
    |true,some s=>some (n::s)
    |_,_=>none
 |_=>none
def EF (_H:Pos->Option AB) (_next:Pos):List AV->Option b6
 |[x]=>some (.val x)
 |_=>none
def I9 (_H:Pos->Option AB) (_next:Pos):List AV->Option b6
 |  [c,a,b]=>match c with
    | .bool true=>some (.val a)
    | .bool false=>some (.val b)
    |_=>none
 |_=>none
def Bh (_H:Pos->Option AB) (next:Pos) (zero:List AV):List AV->Option b6
 |[]=>some (.aE (.ptr next 0) none none (some (.cells zero 0)))
 |_=>none
def G8 (_H:Pos->Option AB) (next:Pos):List AV->Option b6
 |[x]=>some (.aE (.ptr next 0) none none (some (.cells x.cells 0)))
 |_=>none
def Bi (_H:Pos->Option AB) (_next:Pos) (zero:List AV) (places:List (Nat×Nat)):List AV->Option b6
 |  xs=>match fk zero places xs with
    |some cs=>some (.val (.agg cs))
    |none=>none
def oq (_H:Pos->Option AB) (next:Pos) (es len:Nat) (zero:List AV) (places:List Nat):List AV->Option b6
 |  xs=>match fk (cV zero len) (places.map fun i=>(i*es,es)) xs with
    |some cs=>some (.aE (.slice next 0 len (some len) es) none none (some (.cells cs 0)))
    |none=>none
def pq (H :Pos->Option AB) (_next:Pos) (n:Option Nat):List AV->Option b6
 |  [p] =>match p with
    | .ptr b off=>match H b with
      | some (.cells cs _)=>match n with
        | none=>match nth cs off with
          |some v=>some (.val v)
          |none=>none
        | some n=>match cut cs off n with
          |some vs=>some (.val (.agg vs))
          |none=>none
      | some (.typed _ cs)=>match n with
        | none=>match nth cs off with
          |some v=>some (.val v)
          |none=>none
        | some n=>match cut cs off n with
          |some vs=>some (.val (.agg vs))
          |none=>none
      |_=>none
    | .fp xs i j=>match nth xs i with
      | some cs=>match n with
        | none=>match nth cs j with
          |some v=>some (.val v)
          |none=>none
        | some n=>match cut cs j n with
          |some vs=>some (.val (.agg vs))
          |none=>none
      |none=>none
    |_=>none
 |_=>none
def tj (H:Pos->Option AB) (_next:Pos) (n:Nat):List AV->Option b6
 |  [p, v]=>match p with
    | .ptr b off=>match H b with
      | some (.cells cs fz)=>
        match Nat.beq v.cells.length n,Nat.ble (off+n) cs.length,Nat.ble fz off,aX v.cells with
        |true,true,true,true=>some (.aE .undef none (some (b,.cells (aO cs off v.cells) fz)) none)
        |_,_,_,_=>none
      | some (.typed t cs)=>
        match Nat.beq v.cells.length n,Nat.ble (off+n) cs.length,aX v.cells with
        |true,true,true=>some (.aE .undef none (some (b,.typed t (aO cs off v.cells))) none)
        |_,_,_=>none
      |_=>none
    |_=>none
 |_=>none
def yR (_H:Pos->Option AB) (_next:Pos):List AV->Option b6
 |  [x]=>match x with
    | .ptr _ _=>some (.val x)
    | .fp _ _ _=>some (.val x)
    | .func _ _ _=>some (.val x)
    |_=>none
 |_=>none
def gD (_H:Pos->Option AB) (_next:Pos) (op:BinOp) (q:iI):List AV->Option b6
 |  [x,y]=>match mz op q x y with
    |some v=>some (.val v)
    |none=>none
 |_=>none
def PV (_H:Pos->Option AB) (_next:Pos) (op:UnOp):List AV->Option b6
 |  [x]=>match unA op x with
    |some v=>some (.val v)
    |none=>none
 |_=>none
def qQ (H:Pos->Option AB) (next:Pos) (k:Xx):List AV->Option b6
 |  [x] =>match k,x with
    | .int k,.int _ n=>some (.val (.int k (aW k n)))
    | .same,.str s=>some (.val (.str s))
    | .bytes,.str s=>some (.aE (.slice next 0 s.length none 1) none none (some (.cells (s.map fun c=> .int .u8 (.ofNat c)) 0)))
    | .ofBytes,.ai=>some (.val (.str []))
    | .ofBytes,.slice b off n _ _=>match Nat.beq n 0 with
      |true=>some (.val (.str []))
      | false=>match H b with
        |some (.cells cs _)=>match cut cs off n with
         |some l=>match bytesOf l with
          |some s=>some (.val (.str s))
          |none=>none
         |none=>none
        |_=>none
    |_,_=>none
 |_=>none
def Bj (_H:Pos->Option AB) (_next:Pos) (t:TypeId):List AV->Option b6
 |[x]=>some (.val (.iface t x))
 |_=>none
def Dj (_H:Pos->Option AB) (_next:Pos) (f:FuncId) (Di:Nat):List AV->Option b6
 |xs=>some (.val (.func f (xs.take Di) (xs.drop Di)))
def Bk (_H:Pos->Option AB) (next:Pos):List AV->Option b6
 |_=>some (.aE (.map next) none none (some (.map [] 0)))
def uj (H:Pos->Option AB) (_next:Pos) (pk:PK) (zero:AV) (ok:Bool):List AV->Option b6
 |  [m, k]=>
    match (match m with
      | .gh=>match UO pk k with
        |true=>some none
        |false=>none
      | .map b=>match H b with
        |some (.map es _)=>qo pk k es 0
        |_=>none
      |_=>none) with
    |some (some (_,v))=>some (.val (match ok with|true=> .tuple [v,.bool true]|false=>v))
    |some none=>some (.val (match ok with|true=> .tuple [zero,.bool false]|false=>zero))
    |none=>none
 |_=>none
def uk (H:Pos->Option AB) (_next:Pos) (pk:PK):List AV->Option b6
 |  [m, k,v]=>match m with
    | .map b=>match H b with
      | some (.map es clock)=>match UO pk k,qo pk k es 0 with
        |true,some (some (i,_))=>some (.aE .undef none (some (b,.map (mA k v es i) clock)) none)
        |true,some none=>some (.aE .undef none (some (b,.map (es++[(k,v,clock)]) (clock+1))) none)
        |_,_=>none
      |_=>none
    |_=>none
 |_=>none
def vE (_H:Pos->Option AB) (next:Pos) (es bytes:Nat) (zero:List AV):List AV->Option b6
 |  [l,c]=>match pR l,pR c with
    | some l,some c=>match Nat.ble l c,Nat.ble (bytes*c) 281474976710656,Nat.ble c 9223372036854775807 with
      |true,true,true=>some (.aE (.slice next 0 l (some c) es) none none (some (.cells (cV zero c) 0)))
      |_,_,_=>none
    |_,_=>none
 |_=>none
def xT (_H:Pos->Option AB) (_next:Pos) (lo hi:Bool):List AV->Option b6
 |  x ::bs=>match x,bounds lo hi false bs with
    | .str s,some (l,h,_)=>
      let h:=h.getD s.length
      let l:=l.getD 0
      match Nat.ble l h,Nat.ble h s.length with
      |true,true=>some (.val (.str ((s.take h).drop l)))
      |_,_=>none
    |_,_=>none
 |_=>none
def oP (_H:Pos->Option AB) (_next:Pos) (es:Nat) (lo hi mx:Bool):List AV->Option b6
 |  x ::bs=>match x,bounds lo hi mx bs with
    | .slice b off len cap es',some (l,h,m)=>
      match Nat.beq es es',Nat.ble (l.getD 0) (h.getD len) with
      | true,true=>match cap,m with
        | some c,some m=>match Nat.ble (h.getD len) m,Nat.ble m c with
          |true,true=>some (.val (.slice b (off+l.getD 0*es) (h.getD len - l.getD 0) (some (m - l.getD 0)) es))
          |_,_=>none
        | some c,none=>match Nat.ble (h.getD len) c with
          |true=>some (.val (.slice b (off+l.getD 0*es) (h.getD len - l.getD 0) (some (c - l.getD 0)) es))
          |false=>none
        | none,some m=>match Nat.ble (h.getD len) m,Nat.ble m len with
          |true,true=>some (.val (.slice b (off+l.getD 0*es) (h.getD len - l.getD 0) (some (m - l.getD 0)) es))
          |_,_=>none
        | none,none=>match Nat.ble (h.getD len) len with
          |true=>some (.val (.slice b (off+l.getD 0*es) (h.getD len - l.getD 0) none es))
          |false=>none
      |_,_=>none
    | .fl xs es',some (l,h,m)=>
      match Nat.beq es es' with
      | true=>match m with
        | some m=>match Nat.beq (l.getD 0) 0,Nat.beq (h.getD xs.length) 0,Nat.beq m 0 with
          |true,true,true=>some (.val (.slice .h 0 0 (some 0) es))
          |_,_,_=>none
        | none=>match Nat.ble (l.getD 0) (h.getD xs.length),Nat.ble (h.getD xs.length) xs.length with
          |true,true=>some (.val (.fl ((xs.take (h.getD xs.length)).drop (l.getD 0)) es))
          |_,_=>none
      |false=>none
    | .ai,some (l,h,m)=>match Nat.beq (l.getD 0) 0,Nat.beq (h.getD 0) 0,Nat.beq (m.getD 0) 0 with
        |true,true,true=>some (.val .ai)
        |_,_,_=>none
    |_,_=>none
 |_=>none
def Dk (_H:Pos->Option AB) (_next:Pos) (off:Nat):List AV->Option b6
 |  [x]=>match x with
    | .ptr b o=>some (.val (.ptr b (o+off)))
    | .fp xs i j=>some (.val (.fp xs i (j+off)))
    |_=>none
 |_=>none
def pz (_H:Pos->Option AB) (_next:Pos) (es:Nat) (arr:Option Nat):List AV->Option b6
 |  [x, i]=>match pR i with
    | some i=>match arr,x with
      | none,.slice b off len _ _=>match Nat.blt i len with
        |true=>some (.val (.ptr b (off+i*es)))
        |false=>none
      | none,.fl xs es'=>match Nat.blt i xs.length,Nat.beq es es' with
        |true,true=>some (.val (.fp xs i 0))
        |_,_=>none
      | some n,.ptr b off=>match Nat.blt i n with
        |true=>some (.val (.ptr b (off+i*es)))
        |false=>none
      |_,_=>none
    |none=>none
 |_=>none
def F1 (_H:Pos->Option AB) (_next:Pos) (off:Nat) (n:Option Nat):List AV->Option b6
 |  [x] =>match x with
    | .agg cs=>match n with
      | none=>match nth cs off with
        |some v=>some (.val v)
        |none=>none
      |some n=>some (.val (.agg ((cs.drop off).take n)))
    |_=>none
 |_=>none
def EG (_H:Pos->Option AB) (_next:Pos):List AV->Option b6
 |  [x,i]=>match x,pR i with
    | .str s,some i=>match nth s i with
      |some c=>some (.val (.int .u8 (.ofNat c)))
      |none=>none
    |_,_=>none
 |_=>none
def vF (_H:Pos->Option AB) (_next:Pos) (i:Nat):List AV->Option b6
 |  [x]=>match x with
    | .tuple vs=>match nth vs i with
      |some v=>some (.val v)
      |none=>none
    |_=>none
 |_=>none
def F2 (_H:Pos->Option AB) (_next:Pos) (f:FuncId):List AV->Option b6
 |xs=>some (.call f xs)
def F3 (_H:Pos->Option AB) (_next:Pos):List AV->Option b6
 |  x::xs=>match x with
    | .func f first captured=>some (.call f (first++(xs++captured)))
    |_=>none
 |_=>none
def zA (H:Pos->Option AB) (_next:Pos) (k:LK):List AV->Option b6
 |  [x]=>match k,x with
    | .m,.gh=>some (.val (Bg 0))
    | .m,.map b=>match H b with
      |some (.map es _)=>some (.val (Bg es.length))
      |_=>none
    | .s,.str s=>some (.val (Bg s.length))
    | .l,.ai=>some (.val (Bg 0))
    | .l,.slice _ _ n _ _=>some (.val (Bg n))
    | .l,.fl xs _=>some (.val (Bg xs.length))
    |_,_=>none
 |_=>none
def gW (H:  Pos->Option AB) (next:Pos) (es bytes:Nat):List AV->Option b6
 |  [s, x]=> match fH s,fH x with
    | some n,some m=>
      match Nat.ble ((2*(n+m)+768)*bytes) 281474976710656,Nat.ble (n+m) 9223372036854775807 with
      | true,true=>match Nat.beq m 0,s with
        |true,.slice b off n c es'=>some (.val (.slice b off n c es'))
        |true,.fl xs es'=>some (.val (.fl xs es'))
        |true,.ai=>some (.val .ai)
        |false,.ai=>match ec es m H x with
         |some new=>some (.aE (.slice next 0 m none es) none none (some (.cells new 0)))
         |none=>none
        |false,.slice b off n (some c) es'=>
         match Nat.ble (n+m) c with
         |  true=>match H b,ec es m H x with
            |some (.cells cs fz),some new=>match Nat.ble (off+(n+m)*es) cs.length,Nat.ble fz (off+n*es)&&Nat.beq es es',aX new with
             |true,true,true=>some (.aE (.slice b off (n+m) (some c) es) none (some (b,.cells (aO cs (off+n*es) new) fz)) none)
             |_,_,_=>none
            |_,_=>none
         |  false=>match ec es n H s,ec es m H x with
            |some cm,some new=>some (.aE (.slice next 0 (n+m) none es) none none (some (.cells (cm++new) 0)))
            |_,_=>none
        |false,.slice b off n none es'=>
         match H b,ec es n H s,ec es m H x with
         |  some (.cells _ fz),some cm,some new=>match Nat.ble fz (off+n*es)&&Nat.beq es es',aX new with
            |true,true=>some (.aE (.slice next 0 (n+m) none es) (some b) none (some (.cells (cm++new) (fz - off))))
            |_,_=>none
         |_,_,_=>none
        |_,_=>none
      |_,_=>none
    |_,_=>none
 |_=>none
def tq (H : Pos->Option AB) (_next:Pos) (es:Nat):List AV->Option b6
 |  [d, x]=>match fH d,fH x with
    | some n,some m=>
      let k:=min m n
      match Nat.beq k 0 with
      | true=>match d with
        | .str _=>none
        |_=>some (.val (Bg 0))
      | false=>match d with
        | .slice b off _ _ _=>match H b,ec es k H x with
          | some (.cells cs fz),some new=>match Nat.ble (off+k*es) cs.length,Nat.ble fz off,aX new with
            |true,true,true=>some (.aE (Bg k) none (some (b,.cells (aO cs off new) fz)) none)
            |_,_,_=>none
          |_,_=>none
        |_=>none
    |_,_=>none
 |_=>none
def zB (_H:Pos->Option AB) (_next:Pos):List AV->Option b6
 |  [x,y]=>match x,y with
    | .int k a,.int _ b=>some (.val (.int k (match tT b a with|true=>b|false=>a)))
    | .str a,.str b=>some (.val (.str (match dY a b||fT a b with|true=>a|false=>b)))
    |_,_=>none
 |_=>none
def zC (_H:Pos->Option AB) (_next:Pos):List AV->Option b6
 |  [x,y]=>match x,y with
    | .int k a,.int _ b=>some (.val (.int k (match tT a b with|true=>b|false=>a)))
    | .str a,.str b=>some (.val (.str (match dY a b with|true=>b|false=>a)))
    |_,_=>none
 |_=>none
def qR (H:Pos->Option AB) (_next:Pos) (es:Nat) (zero:List AV):List AV->Option b6
 |  [x] =>match x with
    | .ai=>some (.val .undef)
    | .slice b off n _ _=>match Nat.beq n 0 with
      |true=>some (.val .undef)
      | false=>match H b with
        |some (.cells cs fz)=>match Nat.ble (off+n*es) cs.length,Nat.ble fz off,aX (cV zero n) with
         |true,true,true=>some (.aE .undef none (some (b,.cells (aO cs off (cV zero n)) fz)) none)
         |_,_,_=>none
        |_=>none
    |_=>none
 |_=>none
def xU (_H:Pos->Option AB) (next:Pos):List AV->Option b6
 |  [x]=>match x with
    | .str s=>some (.aE (.ptr next 0) none none (some (.iK s 0)))
    |_=>none
 |_=>none
def Bl (H:Pos->Option AB) (_next:Pos):List AV->Option b6
 |  [x] =>match x with
    | .ptr b 0=>match H b with
      | some (.iK s pos)=>match Nat.blt pos s.length with
        |true=>match OJ s pos with
         |some (c,w)=>some (.aE (.tuple [.bool true,Bg pos,.int .i32 (.ofNat c)]) none (some (b,.iK s (pos+w))) none)
         |none=>none
        |false=>some (.val (.tuple [.bool false]))
      |_=>none
    |_=>none
 |_=>none
def xV (_H:Pos->Option AB) (next:Pos) (t:TypeId) (zero:List AV):List AV->Option b6
 |[]=>some (.aE (.ptr next 0) none none (some (.typed t zero)))
 |_=>none
def lO (H:Pos->Option AB) (next:Pos) (e:TypeId) (bytes:Nat):List AV->Option b6
 |  [s, x]=> match x with
    | .str u=>match s with
      | .ai=>match Nat.ble ((2*(0+u.length)+768)*bytes) 281474976710656,Nat.ble (0+u.length) 9223372036854775807 with
        |true,true=>match Nat.beq u.length 0 with
         |true=>some (.val .ai)
         |false=>some (.aE (.slice next 0 (0+u.length) none 1) none none (some (.typed e (u.map fun c=> .int .u8 (.ofNat c)))))
        |_,_=>none
      | .slice b 0 n none 1=>match Nat.ble ((2*(n+u.length)+768)*bytes) 281474976710656,Nat.ble (n+u.length) 9223372036854775807 with
        |true,true=>match Nat.beq u.length 0 with
         |true=>some (.val (.slice b 0 n none 1))
         |false=>match H b with
          |  some (.typed e' cs)=>match Nat.beq e e',cut cs 0 n with
             |true,some cm=>some (.aE (.slice next 0 (n+u.length) none 1) (some b) none (some (.typed e (cm++u.map fun c=> .int .u8 (.ofNat c)))))
             |_,_=>none
          |_=>none
        |_,_=>none
      |_=>none
    |_=>none
 |_=>none
def Dl (H:Pos->Option AB) (_next:Pos):List AV->Option b6
 |  [x] =>match x with
    | .bF=>some (.val .bF)
    | .ptr b off=>match H b with
      | some (.typed _ cs)=>match Nat.blt off cs.length with
        |true=>some (.val (.ptr b off))
        |false=>none
      |_=>none
    |_=>none
 |_=>none
def wj (H:Pos->Option AB) (_next:Pos) (u:TypeId) (n:Nat):List AV->Option b6
 |  [x] =>match x with
    | .bF=>some (.val .bF)
    | .ptr b 0=>match H b with
      | some (.typed t cs)=>match Nat.beq t u,Nat.ble n cs.length with
        |true,true=>some (.val (.ptr b 0))
        |_,_=>none
      |_=>none
    |_=>none
 |_=>none
def mR (_H:Pos->Option AB) (_next:Pos):List AV->Option b6
 |  [x]=>match x with
    | .ai=>some (.val .bF)
    | .slice b off n _ _=>match Nat.beq n 0 with
      |true=>none
      |false=>some (.val (.ptr b off))
    |_=>none
 |_=>none
def jx (H :Pos->Option AB) (_next:Pos) (e:TypeId):List AV->Option b6
 |  [x, y]=> match y with
    | .int .i64 (.ofNat n)=>match Nat.beq n 0 with
      | true=>match x with
        | .bF=>some (.val (.str []))
        | .ptr _ _=>some (.val (.str []))
        |_=>none
      | false=>match x with
        | .ptr b 0=>match H b with
          |some (.typed e' cs)=>match Nat.beq e e',cut cs 0 n,Nat.ble n 9223372036854775807 with
           | true,some l,true=>match bytesOf l with
             |some s=>some (.aE (.str s) (some b) none none)
             |none=>none
           |_,_,_=>none
          |_=>none
        |_=>none
    |_=>none
 |_=>none
def aB.run (H:Pos->Option AB) (next:Pos):aB->List AV->Option b6
 | .move=>EF H next
 | .pick=>I9 H next
 | .alloc zero=>Bh H next zero
 | .box=>G8 H next
 | .build zero places=>Bi H next zero places
 | .buildSlice es len zero places=>oq H next es len zero places
 | .load n=>pq H next n
 | .store n=>tj H next n
 | .nilCheck=>yR H next
 | .bin op q=>gD H next op q
 | .un op=>PV H next op
 | .conv k=>qQ H next k
 | .mkIface t=>Bj H next t
 | .mkFunc f Di=>Dj H next f Di
 | .mkMap=>Bk H next
 | .lookup pk zero ok=>uj H next pk zero ok
 | .mapSet pk=>uk H next pk
 | .mkSlice es bytes zero=>vE H next es bytes zero
 | .sliceS lo hi=>xT H next lo hi
 | .sliceL es lo hi mx=>oP H next es lo hi mx
 | .fieldA off=>Dk H next off
 | .idxA es arr=>pz H next es arr
 | .field off n=>F1 H next off n
 | .idxS=>EG H next
 | .extract i=>vF H next i
 | .callF f=>F2 H next f
 | .callV=>F3 H next
 | .lenB k=>zA H next k
 | .append es bytes=>gW H next es bytes
 | .copyB es=>tq H next es
 | .minB=>zB H next
 | .maxB=>zC H next
 | .clearS es zero=>qR H next es zero
 | .rangeS=>xU H next
 | .nextS=>Bl H next
 | .allocT t zero=>xV H next t zero
 | .appendT e bytes=>lO H next e bytes
 | .toU=>Dl H next
 | .fromU u n=>wj H next u n
 | .sliceData=>mR H next
 | .unsafeStr e=>jx H next e
 | .capB=>fun _=>none
 | .bad=>fun _=>none
inductive jy where
 |t (p:Pos)
 |c (v:AV)
 deriving Inhabited
inductive OK where
 |pure
 |read
 |new
 |aE
 deriving Inhabited
structure bE where
 dst:Option Pos
 k:aB
 xs:List jy
 guard:Option (Pos×Bool)
 cls:OK
 bG:Nat
 deriving Inhabited
inductive AC where
 |skip
 |region (ops:List bE)
 |draw (ops:List (Nat×bE))
 |seq (a b:AC)
 |cond (x:jy) (a b:AC)
 |block (id:Nat) (a:AC)
 |loop (a:AC)
 |exit (id:Nat)
 |ret
 deriving Inhabited
inductive G9 where
 |tmp (p:Pos)
 |cell (p:Pos) (n:Option Nat)
 deriving Inhabited
structure aN where
 code:AC
 nparams:Nat
 results:List G9
 deriving Inhabited
abbrev Fr:=T AV
structure St where
 heap:T AB
 next:Pos
 deriving Inhabited
inductive lQ where
 |normal
 |exit (id:Nat)
 |ret
 deriving Inhabited
def um (fr:Fr):jy->Option AV
 | .t p=>fr.get p
 | .c v=>some v
def dK (fr:Fr):List jy->Option (List AV)
 |[]=>some []
 |  x::xs=>match um fr x with
    |some v=>match dK fr xs with
     |some vs=>some (v::vs)
     |none=>none
    |none=>none
def bI (fr:Fr):Option (Pos×Bool)->Option Bool
 |none=>some true
 |  some (p,want)=>match fr.get p with
    |some (.bool b)=>some (b==want)
    |some (.tuple _)=>some false
    |_=>none
def cJ (fr:Fr) (d:Option Pos) (v:AV):Fr:=match d with
 |some p=>fr.put (some v) p
 |none=>fr
def wk (o:Option (Pos×AB)) (h:T AB):T AB:=match o with
 |some (b,x)=>h.put (some x) b
 |none=>h
def uV (o:Option Pos) (h:T AB):T AB:=match o with
 |some b=>h.put none b
 |none=>h
def St.aE (st:St) (del:Option Pos) (set:Option (Pos×AB)) (new:Option AB):St:=
 match new with
 |some x=>{ heap:=T.put (some x) st.next (wk set (uV del st.heap)),next:=st.next.succ }
 |none=>{ heap:=wk set (uV del st.heap),next:=st.next }
abbrev ak:=FuncId->List AV->St->Option (AV×St)
def bS (call:ak) (k:aB) (xs:List AV) (st:St):Option (AV×St):=
 match k.run (fun b=>st.heap.get b) st.next xs with
 |some (.val v)=>some (v,st)
 |some (.aE v del set new)=>some (v,st.aE del set new)
 |some (.call f args)=>call f args st
 |none=>none
def iw (call:ak):List bE->Fr->St->Option (Fr×St)
 |[],fr,st=>some (fr,st)
 |  o::os,fr,st=>match bI fr o.guard with
    |some true=>match dK fr o.xs with
     |  some xs=>match bS call o.k xs st with
        |some (v,st')=>iw call os (cJ fr o.dst v) st'
        |none=>none
     |none=>none
    |some false=>iw call os (cJ fr o.dst .undef) st
    |none=>none
end Go.Ai
end
section
namespace Go.Ai
def kH:AV->AV->Bool
 | .bool a,.bool b=>a==b
 | .int k a,.int k' b=>wh k k'&&qm a b
 | .str a,.str b=>fT a b
 | .bF,.bF=>true
 | .ptr b o,.ptr b' o'=>Pos.beq b b'&&Nat.beq o o'
 | .ai,.ai=>true
 | .slice b o l none es,.slice b' o' l' none es'=>Pos.beq b b'&&Nat.beq o o'&&Nat.beq l l'&&Nat.beq es es'
 | .slice b o l (some c) es,.slice b' o' l' (some c') es'=>Pos.beq b b'&&Nat.beq o o'&&Nat.beq l l'&&Nat.beq c c'&&Nat.beq es es'
 | .gh,.gh=>true
 | .map b,.map b'=>Pos.beq b b'
 | .av,.av=>true
 | .lp,.lp=>true
 |_,_=>false
def qD:List AV->List AV->Bool
 |[],[]=>true
 |a::x,b::y=>kH a b&&qD x y
 |_,_=>false
def EH (f:AV->AV->Bool):List AV->List AV->Bool
 |[],[]=>true
 |a::x,b::y=>f a b&&EH f x y
 |_,_=>false
def vO (f:AV->AV->Bool):List (List AV)->List (List AV)->Bool
 |[],[]=>true
 |a::x,b::y=>EH f a b&&vO f x y
 |_,_=>false
def He:Nat->AV->AV->Bool
 |d+1,.fl a n,.fl a' n'=>vO (He d) a a'&&Nat.beq n n'
 |_,a,b=>kH a b
def qU:AV->AV->Bool
 | .func f a b,.func f' a' b'=>Nat.beq f f'&&qD a a'&&qD b b'
 | .fl a n,.fl a' n'=>He 3 (.fl a n) (.fl a' n')
 |a,b=>kH a b
def oQ:List AV->List AV->Bool
 |[],[]=>true
 |a::x,b::y=>qU a b&&oQ x y
 |_,_=>false
def ki:AV->AV->Bool
 | .agg l,.agg l'=>oQ l l'
 | .tuple l,.tuple l'=>oQ l l'
 |a,b=>qU a b
inductive RC where
 |pure
 |new (id:Pos) (aA:AB)
 |aE (base:T AB) (h:T AB)
 deriving Inhabited
structure Rec where
 idx:Nat
 o:bE
 v:AV
 c:RC
 nx:Pos
 deriving Inhabited
def snap (bG:Nat) (h:T AB):List Rec->T AB
 |[]=>h
 |  r ::rs=>match r.c with
    | .new id aA=>match bG.testBit r.idx with
      |true=>(snap bG h rs).put (some aA) id
      |false=>snap bG h rs
    | .aE _ _=>h
    | .pure=>snap bG h rs
def fo:List (Pos×AB)->T AB->T AB
 |[],h=>h
 |(id,aA)::l,h=>(fo l h).put (some aA) id
def fL (k:aB) (xs:List AV) (v:AV) (h:T AB):Bool:=
 match k.run (fun b=>h.get b) .h xs with
 |some (.val u)=>ki u v
 |_=>false
def iV (bG:Nat) (k:aB) (xs:List AV) (v:AV):List (Pos×AB)->List Rec->Bool
 |_,[]=>true
 |  up,r::rs=>match r.c with
    | .new id aA=>match bG.testBit r.idx with
      |true=>iV bG k xs v ((id,aA)::up) rs
      |false=>iV bG k xs v up rs
    | .aE base _=>match bG.testBit r.idx with
      |true=>true
      |false=>fL k xs v (fo up (snap bG base rs))&&iV bG k xs v up rs
    | .pure=>iV bG k xs v up rs
def cH (call:ak):List (Nat×bE)->List Rec->T AB->Fr->St->Option (Fr×St)
 |[],_,_,fr,st=>some (fr,st)
 |  (j, o)::os,recs,base,fr,st=>match bI fr o.guard with
    |some false=>cH call os ({ idx:=j,o:=o,v:= .undef,c:= .pure,nx:=st.next }::recs) base (cJ fr o.dst .undef) st
    | some true=>match dK fr o.xs with
      |none=>none
      | some xs=>match o.cls with
        | .new=>match o.k.run (fun _=>none) st.next xs with
          |some (.aE v none none (some aA))=>
           cH call os ({ idx:=j,o:=o,v:=v,c:= .new st.next aA,nx:=st.next.succ }::recs) base (cJ fr o.dst v) { heap:=st.heap.put (some aA) st.next,next:=st.next.succ }
          |_=>none
        | .aE=>match bS call o.k xs st with
          |some (v,st')=>cH call os ({ idx:=j,o:=o,v:=v,c:= .aE base st'.heap,nx:=st'.next }::recs) st'.heap (cJ fr o.dst v) st'
          |none=>none
        | _=>match o.k.run (fun _=>none) .h xs with
          |some (.val v)=>cH call os ({ idx:=j,o:=o,v:=v,c:= .pure,nx:=st.next }::recs) base (cJ fr o.dst v) st
          |_=>match o.k.run (fun b=>(snap o.bG base recs).get b) .h xs with
           |some (.val v)=>match iV o.bG o.k xs v [] recs with
            |true=>cH call os ({ idx:=j,o:=o,v:=v,c:= .pure,nx:=st.next }::recs) base (cJ fr o.dst v) st
            |false=>none
           |_=>none
    |none=>none
def aQ (call:ak) (ih:AC->Fr->St->Option (lQ×Fr×St)):AC->Fr->St->Option (lQ×Fr×St)
 | .skip,fr,st=>some (.normal,fr,st)
 |  .region ops,fr,st=>match iw call ops fr st with
    |some (fr,st)=>some (.normal,fr,st)
    |none=>none
 |  .draw ops,fr,st=>match cH call ops [] st.heap fr st with
    |some (fr,st)=>some (.normal,fr,st)
    |none=>none
 |  .seq a b,fr,st=>match ih a fr st with
    |some (.normal,fr,st)=>ih b fr st
    |r=>r
 |  .cond x a b,fr,st=>match um fr x with
    |some (.bool true)=>ih a fr st
    |some (.bool false)=>ih b fr st
    |_=>none
 |  .block id a,fr,st=>match ih a fr st with
    |some (.exit oK,fr,st)=>match Nat.beq oK id with
     |true=>some (.normal,fr,st)
     |false=>some (.exit oK,fr,st)
    |r=>r
 |  .loop a,fr,st=>match ih a fr st with
    |some (.normal,fr,st)=>ih (.loop a) fr st
    |r=>r
 | .exit id,fr,st=>some (.exit id,fr,st)
 | .ret,fr,st=>some (.ret,fr,st)
def exec (call:ak):Nat->AC->Fr->St->Option (lQ×Fr×St)
 |0=>fun _ _ _=>none
 |n+1=>aQ call (exec call n)
def params:Nat->List AV->Fr->Fr
 |_,[],fr=>fr
 |i,v::vs,fr=>params (i+1) vs (fr.put (some v) (key i))
def eV (H:Pos->Option AB) (fr:Fr):List G9->Option (List AV)
 |[]=>some []
 |  .tmp p::rs=>match fr.get p with
    |some v=>match eV H fr rs with
     |some vs=>some (v::vs)
     |none=>none
    |none=>none
 |  .cell p n::rs=>match fr.get p with
    |some q=>match (aB.load n).run H .h [q] with
     |  some (.val v)=>match eV H fr rs with
        |some vs=>some (v::vs)
        |none=>none
     |_=>none
    |none=>none
def rD:List AV->AV
 |[v]=>v
 |vs=> .tuple vs
abbrev eE:=FuncId->Option (List AV->St->Option (AV×St))
def lR (O:eE) (G:T aN) (m:Nat):Nat->ak
 |0=>fun _ _ _=>none
 |  d+  1=>fun f args st=>match O f with
    |some s=>s args st
    |none=>match G.get (key f) with
     |  some F=>match Nat.beq args.length F.nparams with
        |true=>match exec (lR O G m d) m F.code (params 0 args .e) st with
         |some (.normal,fr,st')=>match eV (fun b=>st'.heap.get b) fr F.results with
          |some vs=>some (rD vs,st')
          |none=>none
         |some (.ret,fr,st')=>match eV (fun b=>st'.heap.get b) fr F.results with
          |some vs=>some (rD vs,st')
          |none=>none
         |_=>none
        |false=>none
     |none=>none
end Go.Ai
end
section
namespace Go.Ai
inductive TK where
 |bool
 |int (k:IntKind)
 |string
 |ptr (elem:Nat)
 |slice (elem:Nat)
 |array (n elem:Nat)
 |map (k e:Nat)
 |struct (fs:List (Nat×Nat×Bool))
 |func
 |iface
 |RH
 |other
 deriving Inhabited
structure TI where
 k:TK
 size:Nat
 bytes:Nat
 zero:Option (List AV)
 uW:Bool:=false
 deriving Inhabited
def Bm:Value->Option AV
 | .bool b=>some (.bool b)
 | .int k n=>some (.int k n)
 | .string s=>some (.str (s.data.toList.map UInt8.toNat))
 | .pointer none=>some .bF
 | .slice none 0 0=>some .ai
 | .map none=>some .gh
 | .func (.func f) ⟨[]⟩ ⟨[]⟩=>some (.func f [] [])
 | .nilFunc=>some .av
 | .nilIface=>some .lp
 |_=>none
def nE:List Value->Option (List AV)
 |[]=>some []
 |  v::vs=>match Bm v,nE vs with
    |some a,some as=>some (a::as)
    |_,_=>none
def Ja:Value->Option AV
 |  .agg cs=>match nE cs.toList with
    |some l=>some (.agg l)
    |none=>none
 |v=>Bm v
def mS:Operand->Option jy
 | .tmp t=>some (.t (key t))
 |  .const v=>match Ja v with
    |some a=>some (.c a)
    |none=>none
 | .func f=>some (.c (.func f [] []))
 | .global _=>none
def iy:List Operand->Option (List jy)
 |[]=>some []
 |  x::xs=>match mS x,iy xs with
    |some a,some as=>some (a::as)
    |_,_=>none
def TK.isAgg:TK->Bool
 | .struct _=>true
 | .array _ _=>true
 |_=>false
abbrev TT:=T TI
def rE (tt:TT) (t:Nat):Option iI:=match tt.get (key t) with
 |  some ti=>match ti.k with
    | .bool=>some .bool
    | .int _=>some .num
    | .string=>some .num
    | .ptr _=>some .ptr
    | .slice _=>some .slice
    | .map _ _=>some .map
    | .func=>some .func
    | .iface=>some .iface
    | .struct fs=>match ti.uW,fields fs with
      |true,some l=>some (.struct l)
      |_,_=>none
    |_=>none
 |none=>none
where
 fields:List (Nat×Nat×Bool)->Option (List (Nat×PK))
  |[]=>some []
  |(off,t,named)::fs=>match named,tt.get (key t),fields fs with
   |true,some ti,some l=>match ti.k with
    | .bool=>some ((off,.b)::l)
    | .int _=>some ((off,.i)::l)
    | .string=>some ((off,.s)::l)
    |_=>none
   |_,_,_=>none
def rF (ti:TI):Option Nat:=match ti.k.isAgg with
 |true=>some ti.size
 |false=>none
def afs (tt:TT) (t:Nat) (ti:TI):Bool:=match ti.k with
 |  .struct ((_,p,_)::_)=>match tt.get (key p) with
    |some pi=>match pi.k with
     | .ptr e=>Nat.beq e t
     |_=>false
    |none=>false
 |_=>false
def rG:Option Operand->List Operand
 |some x=>[x]
 |none=>[]
def fA (tt:TT):Op->Option (aB×List jy×OK)
 |  .move x=>match mS x with
    |some a=>some (.move,[a],.pure)
    |none=>none
 |  .assign x=>match mS x with
    |some a=>some (.move,[a],.pure)
    |none=>none
 |  .pick c a b=>match iy [c,a,b] with
    |some l=>some (.pick,l,.pure)
    |none=>none
 |  .alloc t=>match tt.get (key t) with
    |some ti=>match ti.zero with
     |  some z=>match afs tt t ti with
        |true=>some (.allocT t z,[],.aE)
        |false=>some (.alloc z,[],.new)
     |none=>none
    |none=>none
 |  .box _ x=>match mS x with
    |some a=>some (.box,[a],.new)
    |none=>none
 |  .build t ps=>match tt.get (key t),iy (ps.toList.map (·.2)) with
    |some ti,some l=>match ti.k,ti.zero with
     |  .struct fs,some z=>match places tt fs (ps.toList.map (·.1)),La tt fs with
        |some p,true=>some (.build z p,l,.pure)
        |_,_=>none
     |  .array _ e,some z=>match tt.get (key e) with
        |some te=>some (.build z (ps.toList.map fun x=>(x.1*te.size,te.size)),l,.pure)
        |none=>none
     |_,_=>none
    |_,_=>none
 |  .buildSlice t len ps=>match tt.get (key t),iy (ps.toList.map (·.2)) with
    |some ti,some l=>match ti.k with
     |  .slice e=>match tt.get (key e) with
        | some te=>match te.zero,Nat.ble (len*te.size) 16777216 with
          |some z,true=>some (.buildSlice te.size len z (ps.toList.map (·.1)),l,.new)
          |_,_=>none
        |none=>none
     |_=>none
    |_,_=>none
 |  .load t a=>match tt.get (key t),mS a with
    |some ti,some a=>some (.load (rF ti),[a],.read)
    |_,_=>none
 |  .store t a x=>match tt.get (key t),iy [a,x] with
    |some ti,some l=>some (.store ti.size,l,.aE)
    |_,_=>none
 |  .nilCheck x=>match mS x with
    |some a=>some (.nilCheck,[a],.pure)
    |none=>none
 |  .binOp op t x y _=>match rE tt t,iy [x,y] with
    |some q,some l=>some (.bin op q,l,.pure)
    |none,some l=>match op with
     | .eql=>none
     | .neq=>none
     |_=>some (.bin op .num,l,.pure)
    |_,_=>none
 |  .unOp op _ x=>match mS x with
    |some a=>some (.un op,[a],.pure)
    |none=>none
 |  .convert src dst x=>match tt.get (key src),tt.get (key dst),mS x with
    |some s,some d,some a=>match s.k,d.k with
     | .int _,.int k=>some (.conv (.int k),[a],.pure)
     | .string,.string=>some (.conv .same,[a],.pure)
     |  .string,.slice e=>match tt.get (key e) with
        | some te=>match te.k with
          | .int .u8=>some (.conv .bytes,[a],.new)
          |_=>none
        |none=>none
     |  .slice e,.string=>match tt.get (key e) with
        | some te=>match te.k with
          | .int .u8=>some (.conv .ofBytes,[a],.read)
          |_=>none
        |none=>none
     |  .ptr e,.RH=>match tt.get (key e) with
        | some te=>match Nat.beq te.size 0 with
          |false=>some (.toU,[a],.aE)
          |true=>none
        |none=>none
     |  .RH,.ptr e=>match tt.get (key e) with
        | some te=>match Nat.beq te.size 0 with
          |false=>some (.fromU e te.size,[a],.aE)
          |true=>none
        |none=>none
     |_,_=>none
    |_,_,_=>none
 |  .makeInterface t x=>match tt.get (key t),mS x with
    |some ti,some a=>match ti.k with
     | .iface=>none
     | .other=>none
     |_=>some (.mkIface t,[a],.pure)
    |_,_=>none
 |  .makeFunc fn first captured=>match fn,iy (first.toList++captured.toList) with
    | .func f,some l=>some (.mkFunc f first.size,l,.pure)
    |_,_=>none
 |  .makeMap t r=>match tt.get (key t) with
    |some ti=>match ti.k,r with
     | .map _ _,none=>some (.mkMap,[],.new)
     | .map _ _,some (.const (.int _ _))=>some (.mkMap,[],.new)
     |_,_=>none
    |none=>none
 |  .makeSlice t l c=>match tt.get (key t),iy [l,c] with
    |some ti,some xs=>match ti.k with
     |  .slice e=>match tt.get (key e) with
        | some te=>match te.zero with
          |some z=>some (.mkSlice te.size te.bytes z,xs,.new)
          |none=>none
        |none=>none
     |_=>none
    |_,_=>none
 |  .slice t x lo hi mx=>match tt.get (key t),iy ([x]++rG lo++rG hi++rG mx) with
    |some ti,some xs=>match ti.k with
     |  .string=>match mx with
        |none=>some (.sliceS lo.isSome hi.isSome,xs,.pure)
        |some _=>none
     |  .slice e=>match tt.get (key e) with
        |some te=>some (.sliceL te.size lo.isSome hi.isSome mx.isSome,xs,.pure)
        |none=>none
     |_=>none
    |_,_=>none
 |  .fieldAddr t x f=>match tt.get (key t),mS x with
    |some ti,some a=>match ti.k with
     |  .struct fs=>match nth fs f with
        | some (off,ft,_)=>match tt.get (key ft) with
          |some fi=>match Nat.beq fi.size 0 with
           |false=>some (.fieldA off,[a],.pure)
           |true=>none
          |none=>none
        |none=>none
     |_=>none
    |_,_=>none
 |  .field t x f=>match tt.get (key t),mS x with
    |some ti,some a=>match ti.k with
     |  .struct fs=>match nth fs f with
        | some (off,ft,_)=>match tt.get (key ft) with
          |some fi=>some (.field off (rF fi),[a],.pure)
          |none=>none
        |none=>none
     |_=>none
    |_,_=>none
 |  .indexAddr t x ix=>match tt.get (key t),iy [x,ix] with
    |some ti,some l=>match ti.k with
     |  .slice e=>match tt.get (key e) with
        |some te=>some (.idxA te.size none,l,.pure)
        |none=>none
     |  .array n e=>match tt.get (key e) with
        |some te=>some (.idxA te.size (some n),l,.pure)
        |none=>none
     |_=>none
    |_,_=>none
 |  .index t x ix=>match tt.get (key t),iy [x,ix] with
    |some ti,some l=>match ti.k with
     | .string=>some (.idxS,l,.pure)
     |_=>none
    |_,_=>none
 |  .lookup t x ix ok=>match tt.get (key t),iy [x,ix] with
    |some ti,some l=>match ti.k with
     |  .map k e=>match tt.get (key k),tt.get (key e) with
        | some tk,some te=>match tk.k,te.zero with
          | .int _,some z=>some (.lookup .i (zD te z) ok,l,.read)
          | .string,some z=>some (.lookup .s (zD te z) ok,l,.read)
          | .bool,some z=>some (.lookup .b (zD te z) ok,l,.read)
          |_,_=>none
        |_,_=>none
     |_=>none
    |_,_=>none
 | .mapUpdate t m k v=>PW tt t m k v
 | .insert t m k v=>PW tt t m k v
 |  .range t x=>match tt.get (key t),mS x with
    |some ti,some a=>match ti.k with
     | .string=>some (.rangeS,[a],.new)
     |_=>none
    |_,_=>none
 |  .next it isString=>match isString,mS it with
    |true,some a=>some (.nextS,[a],.aE)
    |_,_=>none
 |  .extract x i=>match mS x with
    |some a=>some (.extract i,[a],.pure)
    |none=>none
 |  .call c=>match iy c.args.toList with
    |none=>none
    |some xs =>match c.callee with
     | .value (.func f)=>some (.callF f,xs,.aE)
     |  .value x=>match mS x with
        |some a=>some (.callV,a::xs,.aE)
        |none=>none
     | .invoke _ _=>none
     |  .builtin b=>match b with
        | .len=>match c.argTypes.toList,xs with
          |t ::_,[_]=>match tt.get (key t) with
           | some ti=>match ti.k with
             | .string=>some (.lenB .s,xs,.pure)
             | .slice _=>some (.lenB .l,xs,.pure)
             | .map _ _=>some (.lenB .m,xs,.read)
             |_=>none
           |none=>none
          |_,_=>none
        | .append=>match c.argTypes.toList with
          |t ::t2::_=>match tt.get (key t),tt.get (key t2) with
           | some ti,some CJ=>match ti.k,CJ.k with
             |_,.int _=>none
             | .slice e,.string=>match tt.get (key e) with
               | some te=>match te.zero,te.k,Nat.beq te.size 1 with
                 |some _,.int .u8,true=>some (.appendT e te.bytes,xs,.aE)
                 |_,_,_=>none
               |none=>none
             | .slice e,_=>match tt.get (key e) with
               | some te=>match te.zero with
                 |some _=>some (.append te.size te.bytes,xs,.aE)
                 |none=>none
               |none=>none
             |_,_=>none
           |_,_=>none
          |_=>none
        | .copy=>match c.argTypes.toList with
          |t ::_=>match tt.get (key t) with
           | some ti=>match ti.k with
             | .slice e=>match tt.get (key e) with
               |some te=>some (.copyB te.size,xs,.aE)
               |none=>none
             |_=>none
           |none=>none
          |_=>none
        | .unsafeSliceData=>match xs with
          |[_]=>some (.sliceData,xs,.pure)
          |_=>none
        | .unsafeString=>match c.argTypes.toList with
          |[t, _]=>match tt.get (key t) with
           | some ti=>match ti.k with
             | .ptr e=>match tt.get (key e) with
               | some te=>match te.k,Nat.beq te.size 1 with
                 | .int .u8,true=>some (.unsafeStr e,xs,.aE)
                 |_,_=>none
               |none=>none
             |_=>none
           |none=>none
          |_=>none
        | .min=>match xs with
          |[_,_]=>some (.minB,xs,.pure)
          |_=>none
        | .max=>match xs with
          |[_,_]=>some (.maxB,xs,.pure)
          |_=>none
        | .clear=>match c.argTypes.toList with
          |t ::_=>match tt.get (key t) with
           | some ti=>match ti.k with
             | .slice e=>match tt.get (key e) with
               | some te=>match te.zero with
                 |some z=>some (.clearS te.size z,xs,.aE)
                 |none=>none
               |none=>none
             |_=>none
           |none=>none
          |_=>none
        |_=>none
 |_=>none
where
 La (tt:TT):List (Nat×Nat×Bool)->Bool
  |[]=>true
  |  (_,t,_)::l=>match tt.get (key t) with
     |some _=>La tt l
     |none=>false
 places (tt:TT) (fs:List (Nat×Nat×Bool)):List Nat->Option (List (Nat×Nat))
  |[]=>some []
  |  i ::is=>match nth fs i,places tt fs is with
     | some (off,t,_),some l=>match tt.get (key t) with
       |some ti=>some ((off,ti.size)::l)
       |none=>none
     |_,_=>none
 zD (te:TI) (z:List AV):AV:=match te.k.isAgg with
  |true=> .agg z
  |  false=>match z with
     |[v]=>v
     |_=> .agg z
 PW (tt:TT) (t:Nat) (m k v:Operand):Option (aB×List jy×OK):=
  match tt.get (key t),iy [m,k,v] with
  |  some ti,some l=>match ti.k with
     | .map kt _=>match tt.get (key kt) with
       |some tk=>match tk.k with
        | .int _=>some (.mapSet .i,l,.aE)
        | .string=>some (.mapSet .s,l,.aE)
        | .bool=>some (.mapSet .b,l,.aE)
        |_=>none
       |none=>none
     |_=>none
  |_,_=>none
def Hf (ops:Array Oper):Option (Nat×Bool)->Option (Option (Pos×Bool))
 |none=>some none
 |  some (j,b)=>match ops[j]? with
    |some o=>match o.dst with
     |some d=>some (some (key d,b))
     |none=>none
    |none=>none
def Lt:List Oper->List Nat->List Nat
 |[],acc=>acc
 |o::os,acc=>Lt os (acc++[o.after.toList.foldl (fun s e=>match Region.binds .any e with
   |true=>s ||| 2 ^ e.on ||| (nth acc e.on).getD 0
   |false=>s) 0])
def rH (tt:TT) (nt:Nat) (ops:Array Oper):List Oper->List Nat->Option (List bE)
 |[],_=>some []
 |  o::os,bs=>match Hf ops o.guard,rH tt nt ops os bs.tail,Xy nt o.dst with
    |some g,some l,true=>match fA tt o.op with
     |some (k,xs,cls)=>some ({ dst:=o.dst.map key,k:=k,xs:=xs,guard:=g,cls:=cls,bG:=bs.headD 0 }::l)
     |none=>some ({ dst:=o.dst.map key,k:= .bad,xs:=[],guard:=g,cls:= .aE,bG:=bs.headD 0 }::l)
    |_,_,_=>none
where
 Xy (nt:Nat):Option Tmp->Bool
  |none=>true
  |some d=>Nat.blt d nt
def bE.looks (o:bE):List Pos:=
 (match o.guard with|some (p,_)=>[p]|none=>[])++o.xs.filterMap fun| .t p=>some p| .c _=>none
def zE (p:Pos):List Pos->Bool
 |[]=>false
 |q::l=>Pos.beq p q||zE p l
def Dm (a b:bE):Bool:=
 (match a.dst with
  |some d=> !zE d b.looks&&(match b.dst with|some d'=> !Pos.beq d d'|none=>true)
  |none=>true)&&
 (match b.dst with
  |some d=> !zE d a.looks
  |none=>true)
def qp:List (Nat×bE)->List (Nat×bE)->List (Nat×bE)
 |[],held=>held
 |  (i,o)::l,held=>match o.cls with
    | .aE=>held.filter (fun x=>o.bG.testBit x.1)++(i,o)::qp l (held.filter fun x=> !o.bG.testBit x.1)
    |_=>qp l (held++[(i,o)])
def wm:Nat->List bE->List (Nat×bE)
 |_,[]=>[]
 |i,o::os=>(i,o)::wm (i+1) os
def zF (m:Nat):Nat->List (Nat×bE)->Bool
 |seen,[]=>Nat.beq seen (2 ^ m - 1)
 |  seen,(i,o)::l=>Nat.blt i m&& !seen.testBit i&&Nat.beq (o.bG &&& seen) o.bG&&(match o.cls with| .aE=>Nat.beq o.bG seen|_=>true)&&
    (l.all fun x=>x.2.bG.testBit i||Dm o x.2)&&zF m (seen ||| 2 ^ i) l
def tU (tt:TT) (nt:Nat):Code->Option AC
 | .skip=>some .skip
 |  .region _ ops draw=>match rH tt nt ops ops.toList (Lt ops.toList []) with
    |none=>none
    |some l=>match draw with
     |false=>some (.region l)
     |  true=>match zF l.length 0 (qp (wm 0 l) []) with
        |true=>some (.draw (qp (wm 0 l) []))
        |false=>none
 |  .seq a b=>match tU tt nt a,tU tt nt b with
    |some a,some b=>some (.seq a b)
    |_,_=>none
 |  .cond c a b=>match mS c,tU tt nt a,tU tt nt b with
    |some c,some a,some b=>some (.cond c a b)
    |_,_,_=>none
 |  .block id a=>match tU tt nt a with
    |some a=>some (.block id a)
    |none=>none
 |  .loop a=>match tU tt nt a with
    |some a=>some (.loop a)
    |none=>none
 | .exit id=>some (.exit id)
 | .ret=>some .ret
 | .refuse _=>some (.region [{ dst:=none,k:= .bad,xs:=[],guard:=none,cls:= .aE,bG:=0 }])
 |_=>none
def oR (tt:TT):List ResultVar->Option (List G9)
 |[]=>some []
 |  .tmp t::rs=>match oR tt rs with
    |some l=>some (.tmp (key t)::l)
    |none=>none
 |  .cell a t::rs=>match tt.get (key t),oR tt rs with
    |some ti,some l=>some (.cell (key a) (rF ti)::l)
    |_,_=>none
def aj (tt:TT) (f:Func):Option aN:=match f.body with
 |  some c=>match tU tt f.ntmps c,oR tt f.results.toList,Nat.ble (f.params.size+f.nfree) f.ntmps with
    |some a,some rs,true=>some { code:=a,nparams:=f.params.size+f.nfree,results:=rs }
    |_,_,_=>none
 |none=>none
end Go.Ai
end
section
namespace Go.Ai
structure Loc where
 aA:Nat
 base:Nat
 size:Nat
abbrev Cells:=Addr->Option Value
inductive ax (ρ:Pos->Loc) (n:Nat) (C:Cells):AV->Value->Prop where
 |bool (b:Bool):ax ρ n C (.bool b) (.bool b)
 |int (k:IntKind) (i:Int):ax ρ n C (.int k i) (.int k i)
 |str (s:List Nat) (bs:ByteArray) (h:bs.data.toList.map UInt8.toNat=s):ax ρ n C (.str s) (.string bs)
 |bF:ax ρ n C .bF (.pointer none)
 |ptr (b:Pos) (off:Nat) (h:b.toNat<n):ax ρ n C (.ptr b off) (.pointer (some ⟨(ρ b).aA,(ρ b).base+off,none⟩))
 |fp (xs:List (List AV)) (i j es:Nat) (aA base:Nat) (cell:Nat->Nat->Value)
  (hl: ∀(i:Nat) (cs:List AV),xs[i]? =some cs->cs.length=es)
  (hc: ∀(i j:Nat) (cs:List AV) (v:AV),xs[i]? =some cs->cs[j]? =some v->C ⟨aA,base+i*es+j,none⟩=some (cell i j))
  (hv: ∀(i j:Nat) (cs:List AV) (v:AV),xs[i]? =some cs->cs[j]? =some v->ax ρ n C v (cell i j)):
  ax ρ n C (.fp xs i j) (.pointer (some ⟨aA,base+i*es+j,none⟩))
 |ai:ax ρ n C .ai (.slice none 0 0)
 |slice (b:Pos) (off len:Nat) (cap:Option Nat) (es aH:Nat) (a:Addr) (hl:len<=aH) (hc: ∀c,cap=some c->c=aH)
  (ha:aH≠0->b.toNat<n/\a=⟨(ρ b).aA,(ρ b).base+off,none⟩/\(ρ b).base+off+aH*es<=(ρ b).size)
  (hk:cap=none->b.toNat<n):
  ax ρ n C (.slice b off len cap es) (.slice (some a) len aH)
 |fl (xs:List (List AV)) (es aH:Nat) (a:Addr) (cell:Nat->Nat->Value) (hl:xs.length<=aH)
  (hs:xs≠[]->a.spot=none)
  (fE: ∀(i:Nat) (cs:List AV),xs[i]? =some cs->cs.length=es)
  (hc: ∀(i j:Nat) (cs:List AV) (v:AV),xs[i]? =some cs->cs[j]? =some v->C ⟨a.block,a.off+i*es+j,none⟩=some (cell i j))
  (hv: ∀(i j:Nat) (cs:List AV) (v:AV),xs[i]? =some cs->cs[j]? =some v->ax ρ n C v (cell i j)):
  ax ρ n C (.fl xs es) (.slice (some a) xs.length aH)
 |gh:ax ρ n C .gh (.map none)
 |map (b:Pos) (h:b.toNat<n):ax ρ n C (.map b) (.map (some (ρ b).aA))
 |func (f:FuncId) (x y:List AV) (x' y':Array Value) (hx:x.length=x'.size) (hy:y.length=y'.size)
  (gv: ∀(i:Nat) (v:AV) (v':Value),x[i]? =some v->x'[i]? =some v'->ax ρ n C v v') (pO: ∀(i:Nat) (v:AV) (v':Value),y[i]? =some v->y'[i]? =some v'->ax ρ n C v v'):
  ax ρ n C (.func f x y) (.func (.func f) x' y')
 |av:ax ρ n C .av .nilFunc
 |lp:ax ρ n C .lp .nilIface
 |iface (t:TypeId) (v:AV) (x:Value) (h:ax ρ n C v x):ax ρ n C (.iface t v) (.iface t x)
 |agg (l:List AV) (cs:Array Value) (hl:l.length=cs.size) (h: ∀(i:Nat) (v:AV) (v':Value),l[i]? =some v->cs[i]? =some v'->ax ρ n C v v'):
  ax ρ n C (.agg l) (.agg cs)
 |tuple (l:List AV) (cs:Array Value) (hl:l.length=cs.size) (h: ∀(i:Nat) (v:AV) (v':Value),l[i]? =some v->cs[i]? =some v'->ax ρ n C v v'):
  ax ρ n C (.tuple l) (.tuple cs)
theorem ax.mono {ρ ρ':Pos->Loc} {n n':Nat} {C:Cells} {v:AV} {x:Value} (h:ax ρ n C v x)
  (aL: ∀b:Pos,b.toNat<n->ρ' b=ρ b) (hn:n<=n'):ax ρ' n' C v x:=by
 induction h with
 |bool b=>exact .bool b
 |int k i=>exact .int k i
 |str s bs h=>exact .str s bs h
 |bF=>exact .bF
 |ptr b off h=>rw[<-aL b h];exact .ptr b off (by omega)
 |fp xs i j es aA base cell hl hc _ ih=>exact .fp xs i j es aA base cell hl hc ih
 |ai=>exact .ai
 |slice b off len cap es aH a hl hc ha hk=>
  refine .slice b off len cap es aH a hl hc (fun h0=> ?_) (fun h0=>by have:=hk h0;omega)
  obtain ⟨h1,h2,h3⟩:=ha h0
  rw[aL b h1];exact ⟨by omega,h2,h3⟩
 |fl xs es aH a cell hl hs fE hc _ ih=>exact .fl xs es aH a cell hl hs fE hc ih
 |gh=>exact .gh
 |map b h=>rw[<-aL b h];exact .map b (by omega)
 |func f x y x' y' hx hy _ _ RI RJ=>exact .func f x y x' y' hx hy RI RJ
 |av=>exact .av
 |lp=>exact .lp
 |iface t v x _ ih=>exact .iface t v x ih
 |agg l cs hl _ ih=>exact .agg l cs hl ih
 |tuple l cs hl _ ih=>exact .tuple l cs hl ih
def aq (ρ:Pos->Loc) (n:Nat) (C:Cells) (l:List AV) (xs:List Value):Prop:=
 l.length=xs.length/\ ∀(i:Nat) (v:AV) (x:Value),l[i]? =some v->xs[i]? =some x->ax ρ n C v x
section
variable {ρ ρ' : Pos -> Loc} {n n' : Nat} {C : Cells}
theorem aq.mono {l:List AV} {xs:List Value} (h:aq ρ n C l xs) (aL: ∀b:Pos,b.toNat<n->ρ' b=ρ b) (hn:n<=n'):
 aq ρ' n' C l xs:=⟨h.1,fun i v x hv hx=>(h.2 i v x hv hx).mono aL hn⟩
theorem aq.nil:aq ρ n C [] []:=⟨rfl,fun _ _ _ h=>by simp at h⟩
theorem aq.cons {v:AV} {x:Value} {l:List AV} {xs:List Value} (h:ax ρ n C v x) (hs:aq ρ n C l xs):aq ρ n C (v::l) (x::xs):=
 ⟨by simp[hs.1],fun i u y hu hy=>by
  cases i with
  |zero=>simp at hu hy;subst hu;subst hy;exact h
  |succ i=>simp at hu hy;exact hs.2 i u y hu hy⟩
theorem aq.cons_inv {v:AV} {l:List AV} {xs:List Value} (h:aq ρ n C (v::l) xs): ∃x pY,xs=x::pY/\ax ρ n C v x/\aq ρ n C l pY:=by
 cases xs with
 |nil=>have:=h.1;simp at this
 |cons x pY=>
  exact ⟨x,pY,rfl,h.2 0 v x rfl rfl,by have:=h.1;simpa using this,fun i u y hu hy=>h.2 (i+1) u y (by simpa using hu) (by simpa using hy)⟩
theorem aq.iE {xs:List Value} (h:aq ρ n C [] xs):xs=[]:=by
 have:=h.1;cases xs with
 |nil=>rfl
 |cons a b=>simp at this
theorem aq.append {l m:List AV} {xs ys:List Value} (h:aq ρ n C l xs) (k:aq ρ n C m ys):aq ρ n C (l++m) (xs++ys):=by
 refine ⟨by simp[h.1,k.1],fun i v x hv hx=> ?_⟩
 rcases Nat.lt_or_ge i l.length with hi|hi
 . rw[List.getElem?_append_left hi] at hv
   rw[List.getElem?_append_left (by rw[<-h.1];exact hi)] at hx
   exact h.2 i v x hv hx
 . rw[List.getElem?_append_right hi] at hv
   rw[List.getElem?_append_right (by rw[<-h.1];exact hi), <-h.1] at hx
   exact k.2 _ v x hv hx
theorem aq.take {l:List AV} {xs:List Value} (h:aq ρ n C l xs) (m:Nat):aq ρ n C (l.take m) (xs.take m):=by
 refine ⟨by simp[h.1],fun i v x hv hx=> ?_⟩
 rw[List.getElem?_take] at hv hx
 split at hv
 . rename_i hi;rw[if_pos hi] at hx;exact h.2 i v x hv hx
 . cases hv
theorem aq.drop {l:List AV} {xs:List Value} (h:aq ρ n C l xs) (m:Nat):aq ρ n C (l.drop m) (xs.drop m):=by
 refine ⟨by simp[h.1],fun i v x hv hx=> ?_⟩
 rw[List.getElem?_drop] at hv hx
 exact h.2 _ v x hv hx
theorem aq.aO {l vs:List AV} {xs ys:List Value} (h:aq ρ n C l xs) (k:aq ρ n C vs ys) (i:Nat):
  aq ρ n C (Go.Ai.aO l i vs) (Go.Ai.aO xs i ys):=by
 unfold Go.Ai.aO
 rw[k.1]
 exact (h.take i).append (k.append (h.drop _))
theorem aq.get {l:List AV} {xs:List Value} (h:aq ρ n C l xs) {i:Nat} {v:AV} (hv:l[i]? =some v): ∃x,xs[i]? =some x/\ax ρ n C v x:=by
 have hi:i<xs.length:=by rw[<-h.1];exact (List.getElem?_eq_some_iff.1 hv).1
 exact ⟨xs[i],List.getElem?_eq_getElem hi,h.2 i v _ hv (List.getElem?_eq_getElem hi)⟩
theorem ax.rI {l:List AV} {cs:Array Value} (h:aq ρ n C l cs.toList):ax ρ n C (.agg l) (.agg cs):=
 .agg l cs (by simpa using h.1) fun i v x hv hx=>h.2 i v x hv (by simpa using hx)
theorem ax.jQ {l:List AV} {cs:Array Value} (h:aq ρ n C l cs.toList):ax ρ n C (.tuple l) (.tuple cs):=
 .tuple l cs (by simpa using h.1) fun i v x hv hx=>h.2 i v x hv (by simpa using hx)
theorem ax.tr {l:List AV} {x:Value} (h:ax ρ n C (.agg l) x): ∃cs,x= .agg cs/\aq ρ n C l cs.toList:=by
 cases h with|agg _ cs hl h=>exact ⟨cs,rfl,by simpa using hl,fun i v x hv hx=>h i v x hv (by simpa using hx)⟩
theorem ax.JJ {l:List AV} {x:Value} (h:ax ρ n C (.tuple l) x): ∃cs,x= .tuple cs/\aq ρ n C l cs.toList:=by
 cases h with|tuple _ cs hl h=>exact ⟨cs,rfl,by simpa using hl,fun i v x hv hx=>h i v x hv (by simpa using hx)⟩
theorem ax.Bn {f:FuncId} {a b:List AV} {x:Value} (h:ax ρ n C (.func f a b) x):
  ∃a' b',x= .func (.func f) a' b'/\aq ρ n C a a'.toList/\aq ρ n C b b'.toList:=by
 cases h with
 |func _ _ _ a' b' hx hy h1 h2=>exact ⟨a',b',rfl,⟨by simpa using hx,fun i v x hv hx=>h1 i v x hv (by simpa using hx)⟩,⟨by simpa using hy,fun i v x hv hx=>h2 i v x hv (by simpa using hx)⟩⟩
theorem ax.cells {v:AV} {x:Value} (h:ax ρ n C v x):aq ρ n C v.cells x.cells.toList:=by
 by_cases hv: ∃l,v= .agg l
 . obtain ⟨l,rfl⟩:=hv
   obtain ⟨cs,rfl,hs⟩:=h.tr
   exact hs
 . have h1:v.cells=[v]:=by cases v<;>first|rfl|exact absurd ⟨_,rfl⟩ hv
   have h2:x.cells= #[x]:=by cases h<;>first|rfl|exact absurd ⟨_,rfl⟩ hv
   rw[h1,h2];exact aq.cons h aq.nil
def kj (ρ:Pos->Loc) (n:Nat) (C:Cells) (L:Loc) (w:World):AB->Prop
 | .cells cs fz=> ∃(c:Array Value) (e:TypeId) (fr:Nat×Nat),w.heap[L.aA]? =some (.cells c e fr)/\c.size=L.size/\L.base+cs.length<=c.size/\
  aq ρ n C cs ((c.toList.drop L.base).take cs.length)/\ ∀i,fz<=i->L.base+i<c.size-> ¬(fr.1<=L.base+i/\L.base+i<fr.2)
 | .map es clock=> ∃(es':Array MapEntry),w.heap[L.aA]? =some (.map es' clock)/\es.length=es'.size/\
  ∀(i:Nat) (e:AV×AV×Nat) (e':MapEntry),es[i]? =some e->es'[i]? =some e'->ax ρ n C e.1 e'.key/\ax ρ n C e.2.1 e'.val/\e.2.2=e'.born
 | .iK s pos=> ∃(bs:ByteArray),w.heap[L.aA]? =some (.stringIter bs pos)/\bs.data.toList.map UInt8.toNat=s/\L.base=0
 | .typed t cs=> ∃(c:Array Value) (fr:Nat×Nat),w.heap[L.aA]? =some (.cells c t fr)/\c.size=L.size/\L.base+cs.length<=c.size/\
  aq ρ n C cs ((c.toList.drop L.base).take cs.length)/\(∀i,0<=i->L.base+i<c.size-> ¬(fr.1<=L.base+i/\L.base+i<fr.2))/\L.base=0
theorem kj.mono {L:Loc} {w:World} {x:AB} (h:kj ρ n C L w x) (aL: ∀b:Pos,b.toNat<n->ρ' b=ρ b) (hn:n<=n'):kj ρ' n' C L w x:=by
 cases x with
 |cells cs fz=>obtain ⟨c,e,fr,h1,h2,h3,h4,h5⟩:=h;exact ⟨c,e,fr,h1,h2,h3,h4.mono aL hn,h5⟩
 |map es clock=>obtain ⟨es',h1,h2,h3⟩:=h;exact ⟨es',h1,h2,fun i e e' he kJ=>let ⟨a,b,c⟩:=h3 i e e' he kJ;⟨a.mono aL hn,b.mono aL hn,c⟩⟩
 |iK s pos=>exact h
 |typed t cs=>obtain ⟨c,fr,h1,h2,h3,h4,h5⟩:=h;exact ⟨c,fr,h1,h2,h3,h4.mono aL hn,h5⟩
theorem kj.of_heap {L:Loc} {w w':World} {x:AB} (h:kj ρ n C L w x) (hw:w'.heap[L.aA]? =w.heap[L.aA]?):kj ρ n C L w' x:=by
 cases x with
 |cells cs fz=>obtain ⟨c,e,fr,h1,h2⟩:=h;exact ⟨c,e,fr,by rw[hw];exact h1,h2⟩
 |map es clock=>obtain ⟨es',h1,h2⟩:=h;exact ⟨es',by rw[hw];exact h1,h2⟩
 |iK s pos=>obtain ⟨bs,h1,h2⟩:=h;exact ⟨bs,by rw[hw];exact h1,h2⟩
 |typed t cs=>obtain ⟨c,fr,h1,h2⟩:=h;exact ⟨c,fr,by rw[hw];exact h1,h2⟩
end
structure bn (ρ:Pos->Loc) (C:Cells) (st:St) (w:World):Prop where
 live: ∀b x,st.heap.get b=some x->b.toNat<st.next.toNat/\(ρ b).aA<w.heap.size/\kj ρ st.next.toNat C (ρ b) w x
 inj: ∀b b' x x',st.heap.get b=some x->st.heap.get b'=some x'->(ρ b).aA=(ρ b').aA->b=b'
 cj: ∀a v,C a=some v->w.cell? a=some v/\ ∀b x,st.heap.get b=some x->(ρ b).aA≠a.block
 whole: ∀a v,C a=some v-> ∀o,C ⟨a.block,o,none⟩=none->w.cell? ⟨a.block,o,none⟩=none
structure jY (ρ:Pos->Loc) (st:St) (w:World) (ρ':Pos->Loc) (st':St) (w':World):Prop where
 os:w'.os=w.os
 tape:w'.tape=w.tape
 output:w'.output=w.output
 size:w.heap.size<=w'.heap.size
 block: ∀k,k<w.heap.size->(∀b x,st.heap.get b=some x->(ρ b).aA≠k)->w'.heap[k]? =w.heap[k]?
 pS: ∀b x,st'.heap.get b=some x->(∃b' x',st.heap.get b'=some x'/\(ρ b').aA=(ρ' b).aA)\/w.heap.size<=(ρ' b).aA
theorem jY.refl (ρ:Pos->Loc) (st:St) (w:World):jY ρ st w ρ st w:=⟨rfl,rfl,rfl,Nat.le_refl _,fun _ _ _=>rfl,fun b x h=> .inl ⟨b,x,h,rfl⟩⟩
theorem jY.trans {ρ gF uo:Pos->Loc} {st bu u6:St} {w w1 w2:World} (h:jY ρ st w gF bu w1) (k:jY gF bu w1 uo u6 w2):jY ρ st w uo u6 w2 where
 os:=k.os.trans h.os
 tape:=k.tape.trans h.tape
 output:=k.output.trans h.output
 size:=Nat.le_trans h.size k.size
 block q hq hn:=by
  rw[k.block q (Nat.lt_of_lt_of_le hq h.size) fun b x hb e=> ?_,h.block q hq hn]
  rcases h.pS b x hb with ⟨b',x',h1,h2⟩|h1
  . exact hn b' x' h1 (h2.trans e)
  . rw[e] at h1;omega
 pS b x hb:=by
  rcases k.pS b x hb with ⟨b',x',h1,h2⟩|h1
  . rcases h.pS b' x' h1 with ⟨b'',x'',h3,h4⟩|h3
    . exact .inl ⟨b'',x'',h3,h4.trans h2⟩
    . right;rw[<-h2];exact h3
  . exact .inr (Nat.le_trans h.size h1)
def kK (ρ:Pos->Loc) (n:Nat) (C:Cells) (fr:Fr) (tmps:Array Value):Prop:=
 ∀p v,fr.get p=some v-> ∃x,tmps[p.toNat - 1]? =some x/\ax ρ n C v x
theorem Pos.toNat_pos (p:Pos):0<p.toNat:=by
 induction p with
 |h=>simp[Pos.toNat]
 |o p ih=>simp[Pos.toNat];exact ih
 |i p ih=>simp[Pos.toNat]
theorem Pos.toNat_inj: ∀{p q:Pos},p.toNat=q.toNat->p=q
 | .h,.h,_=>rfl
 | .h,.o q,hq=>by have:=q.toNat_pos;simp[Pos.toNat] at hq;omega
 | .h,.i q,hq=>by have:=q.toNat_pos;simp[Pos.toNat] at hq;omega
 | .o p,.h,hq=>by have:=p.toNat_pos;simp[Pos.toNat] at hq;omega
 | .o p,.o q,hq=>by simp[Pos.toNat] at hq;rw[Pos.toNat_inj (p:=p) (q:=q) (by omega)]
 | .o p,.i q,hq=>by simp[Pos.toNat] at hq;omega
 | .i p,.h,hq=>by have:=p.toNat_pos;simp[Pos.toNat] at hq;omega
 | .i p,.o q,hq=>by simp[Pos.toNat] at hq;omega
 | .i p,.i q,hq=>by simp[Pos.toNat] at hq;rw[Pos.toNat_inj (p:=p) (q:=q) (by omega)]
theorem Pos.az (p:Pos):p.succ.toNat=p.toNat+1:=by
 induction p with
 |h=>rfl
 |o p ih=>simp[Pos.succ,Pos.toNat]
 |i p ih=>simp[Pos.succ,Pos.toNat,ih];omega
theorem Pos.Bo: ∀(f m:Nat),0<m->m<2 ^ (f+1)->(Pos.Lr f m).toNat=m
 |0,m,hp,hl=>by
  simp at hl
  have:m=1:=by omega
  subst this;rfl
 |f +   1,m,hp,hl=>by
  unfold Pos.Lr
  split
  . rename_i hb;have:=Nat.le_of_ble_eq_true hb;have:m=1:=by omega
    subst this;rfl
  . rename_i hb
    have h1:1<m:=by
        rcases Nat.lt_or_ge 1 m with hh|hh
        . exact hh
        . rw[Nat.ble_eq_true_of_le hh] at hb;cases hb
    have h2:m / 2<2 ^ (f+1):=by
        have:2 ^ (f+1+1)=2*2 ^ (f+1):=by rw[Nat.pow_succ];omega
        omega
    split
    .   rename_i he;have:=Nat.eq_of_beq_eq_true he
        simp only[Pos.toNat];rw[Pos.Bo f _ (by omega) h2];omega
    .   rename_i he;have:=Nat.ne_of_beq_eq_false he
        simp only[Pos.toNat];rw[Pos.Bo f _ (by omega) h2];omega
theorem gX (n:Nat):(key n).toNat=n+1:=Pos.Bo _ (n+1) (by omega) Nat.lt_log2_self
theorem T.cG {α:Type} (p:Pos):(T.e:T α).get p=none:=by cases p<;>rfl
theorem T.dZ {α:Type} (x:Option α) (p:Pos) (t:T α):(T.put x p t).get p=x:=by
 induction p generalizing t with
 |h=>cases t<;>rfl
 |o p ih=>cases t<;>exact ih _
 |i p ih=>cases t<;>exact ih _
theorem T.bq {α:Type} (x:Option α) {p q:Pos} (h:p≠q) (t:T α):(T.put x p t).get q=t.get q:=by
 induction p generalizing q t with
 |h=>cases q with
  |h=>exact absurd rfl h
  |o q=>cases t<;>simp[T.put,T.get,T.cG]
  |i q=>cases t<;>simp[T.put,T.get,T.cG]
 |o p ih=>cases q with
  |h=>cases t<;>simp[T.put,T.get]
  | o q=>cases t with
    |e=>simp only[T.put,T.get];rw[ih (fun e=>h (by rw[e])),T.cG]
    |n l v r=>simp only[T.put,T.get];exact ih (fun e=>h (by rw[e])) l
  |i q=>cases t<;>simp[T.put,T.get,T.cG]
 |i p ih=>cases q with
  |h=>cases t<;>simp[T.put,T.get]
  |o q=>cases t<;>simp[T.put,T.get,T.cG]
  | i q=>cases t with
    |e=>simp only[T.put,T.get];rw[ih (fun e=>h (by rw[e])),T.cG]
    |n l v r=>simp only[T.put,T.get];exact ih (fun e=>h (by rw[e])) r
theorem Pos.beq_eq: ∀{p q:Pos},p.beq q=true↔p=q
 | .h,.h=>by simp[Pos.beq]
 | .h,.o q=>by simp[Pos.beq]
 | .h,.i q=>by simp[Pos.beq]
 | .o p,.h=>by simp[Pos.beq]
 | .o p,.o q=>by simp only[Pos.beq,Pos.o.injEq];exact Pos.beq_eq
 | .o p,.i q=>by simp[Pos.beq]
 | .i p,.h=>by simp[Pos.beq]
 | .i p,.o q=>by simp[Pos.beq]
 | .i p,.i q=>by simp only[Pos.beq,Pos.i.injEq];exact Pos.beq_eq
end Go.Ai
end
section
noncomputable section
namespace Go.Ai
section
variable {R : Type}
def wo {α:Type} (p:Pos):T α->Option α:=
 Pos.rec (motive:=fun _=>T α->Option α)
    (fun t=>T.rec (motive:=fun _=>Option α) none (fun _ v _ _ _=>v) t)
    (fun _ ih t=>T.rec (motive:=fun _=>Option α) none (fun l _ _ _ _=>ih l) t)
    (fun _ ih t=>T.rec (motive:=fun _=>Option α) none (fun _ _ r _ _=>ih r) t) p
def tu {α:Type} (x:Option α) (p:Pos):T α->(T α->R)->R:=
 Pos.rec (motive:=fun _=>T α->(T α->R)->R)
    (fun t k=>T.rec (motive:=fun _=>R) (k (.n .e x .e)) (fun l _ r _ _=>k (.n l x r)) t)
    (fun _ ih t k=>T.rec (motive:=fun _=>R) (ih .e fun l=>k (.n l none .e)) (fun l v r _ _=>ih l fun l=>k (.n l v r)) t)
    (fun _ ih t k=>T.rec (motive:=fun _=>R) (ih .e fun r=>k (.n .e none r)) (fun l v r _ _=>ih r fun r=>k (.n l v r)) t) p
def mB (n:Nat) (k:Nat->R):R:=Nat.rec (motive:=fun _=>R) (k 0) (fun m _=>k (Nat.succ m)) n
def F4 (n:Int) (k:Int->R):R:=match n with
 | .ofNat m=>mB m fun m=>k (.ofNat m)
 | .negSucc m=>mB m fun m=>k (.negSucc m)
def JK (b:Bool) (k:Bool->R):R:=match b with
 |true=>k true
 |false=>k false
def rJ {α:Type} (l:List α):(List α->R)->R:=
 List.rec (motive:=fun _=>(List α->R)->R) (fun k=>k []) (fun a _ ih k=>ih fun t=>k (a::t)) l
def Bp (p:Pos):(Pos->R)->R:=
 Pos.rec (motive:=fun _=>(Pos->R)->R) (fun k=>k .h) (fun _ ih k=>ih fun p=>k (.o p)) (fun _ ih k=>ih fun p=>k (.i p)) p
def Lu (o:Option Nat) (k:Option Nat->R):R:=match o with
 |none=>k none
 |some n=>mB n fun n=>k (some n)
def Dn (v:AV) (k:AV->R):R:=match v with
 | .bool b=>JK b fun b=>k (.bool b)
 | .int i n=>F4 n fun n=>k (.int i n)
 | .str s=>rJ s fun s=>k (.str s)
 | .ptr b o=>Bp b fun b=>mB o fun o=>k (.ptr b o)
 | .slice b o l c es=>Bp b fun b=>mB o fun o=>mB l fun l=>Lu c fun c=>k (.slice b o l c es)
 | .map b=>Bp b fun b=>k (.map b)
 | .func f x y=>rJ x fun x=>rJ y fun y=>k (.func f x y)
 | .agg l=>rJ l fun l=>k (.agg l)
 |v=>k v
def EI (l:List AV):(List AV->R)->R:=
 List.rec (motive:=fun _=>(List AV->R)->R) (fun k=>k []) (fun a _ ih k=>Dn a fun a=>ih fun t=>k (a::t)) l
def ot (v:AV) (k:AV->R):R:=match v with
 | .tuple l=>EI l fun l=>k (.tuple l)
 |v=>Dn v k
def vP (x:AB) (k:AB->R):R:=match x with
 | .cells cs fz=>rJ cs fun cs=>mB fz fun fz=>k (.cells cs fz)
 | .map es c=>rJ es fun es=>mB c fun c=>k (.map es c)
 | .iK s p=>mB p fun p=>k (.iK s p)
 | .typed t cs=>rJ cs fun cs=>k (.typed t cs)
def Lb (p:Pos):(Pos->R)->R:=
 Pos.rec (motive:=fun _=>(Pos->R)->R) (fun k=>k (.o .h)) (fun q _ k=>k (.i q)) (fun _ ih k=>ih fun p=>k (.o p)) p
variable (z : R)
def RL (fr:Fr) (x:jy) (k:AV->R):R:=match x with
 |  .t p=>match wo p fr with
    |some v=>k v
    |none=>z
 | .c v=>k v
def Jb (fr:Fr) (xs:List jy):(List AV->R)->R:=
 List.rec (motive:=fun _=>(List AV->R)->R) (fun k=>k []) (fun x _ ih k=>RL z fr x fun v=>ih fun vs=>k (v::vs)) xs
def vQ (fr:Fr) (g:Option (Pos×Bool)) (yes no:R):R:=match g with
 |none=>yes
 |  some (p,want)=>match wo p fr with
    |some (.bool b)=>match b==want with
     |true=>yes
     |false=>no
    |some (.tuple _)=>no
    |_=>z
def iW (fr:Fr) (d:Option Pos) (v:AV) (k:Fr->R):R:=match d with
 |some p=>tu (some v) p fr k
 |none=>k fr
def delK (o:Option Pos) (h:T AB) (k:T AB->R):R:=match o with
 |some b=>tu none b h k
 |none=>k h
def UP (o:Option (Pos×AB)) (h:T AB) (k:T AB->R):R:=match o with
 |some (b,x)=>vP x fun x=>tu (some x) b h k
 |none=>k h
abbrev vG (R:Type):=FuncId->List AV->St->(AV->St->R)->R
def UQ (st:St) (del:Option Pos) (set:Option (Pos×AB)) (new:Option AB) (k:St->R):R:=
 delK del st.heap fun h=>UP set h fun h=>match new with
    |some x=>vP x fun x=>tu (some x) st.next h fun h=>Lb st.next fun n=>k { heap:=h,next:=n }
    |none=>k { heap:=h,next:=st.next }
def EJ (call:vG R) (op:aB) (xs:List AV) (st:St) (k:AV->St->R):R:=
 match op.run (fun b=>wo b st.heap) st.next xs with
 |some (.val v)=>ot v fun v=>k v st
 |some (.aE v del set new)=>ot v fun v=>UQ st del set new fun st=>k v st
 |some (.call f args)=>rJ args fun args=>call f args st k
 |none=>z
def PX (call:vG R) (ops:List bE):Fr->St->(Fr->St->R)->R:=
 List.rec (motive:=fun _=>Fr->St->(Fr->St->R)->R) (fun fr st k=>k fr st)
    (fun o _ ih fr st k=>vQ z fr o.guard
     (Jb z fr o.xs fun xs=>EJ z call o.k xs st fun v st=>iW fr o.dst v fun fr=>ih fr st k)
     (iW fr o.dst .undef fun fr=>ih fr st k)) ops
def Bq (bG:Nat) (h:T AB) (recs:List Rec):(T AB->R)->R:=
 List.rec (motive:=fun _=>(T AB->R)->R) (fun k=>k h)
    (fun r _ ih k=>match r.c with
     |  .new id aA=>match bG.testBit r.idx with
        |true=>ih fun h'=>tu (some aA) id h' k
        |false=>ih k
     | .aE _ _=>k h
     | .pure=>ih k) recs
def Lv (h:T AB) (l:List (Pos×AB)):(T AB->R)->R:=
 List.rec (motive:=fun _=>(T AB->R)->R) (fun k=>k h) (fun x _ ih k=>ih fun h'=>tu (some x.2) x.1 h' k) l
def Lw (op:aB) (xs:List AV) (v:AV) (h:T AB):Bool:=
 match op.run (fun b=>wo b h) .h xs with
 |some (.val u)=>ki u v
 |_=>false
def nF (bG:Nat) (op:aB) (xs:List AV) (v:AV):List (Pos×AB)->List Rec->Bool
 |_,[]=>true
 |  up,r::rs=>match r.c with
    | .new id aA=>match bG.testBit r.idx with
      |true=>nF bG op xs v ((id,aA)::up) rs
      |false=>nF bG op xs v up rs
    | .aE base _=>match bG.testBit r.idx with
      |true=>true
      |false=>(Bq bG base rs fun h=>Lv h up fun h=>Lw op xs v h)&&nF bG op xs v up rs
    | .pure=>nF bG op xs v up rs
def Br (call:vG R) (ops:List (Nat×bE)):List Rec->T AB->Fr->St->(Fr->St->R)->R:=
 List.rec ( motive:=fun _=>List Rec->T AB->Fr->St->(Fr->St->R)->R)
    (fun _ _ fr st k=>k fr st)
    (fun jo _ ih recs base fr st k=>vQ z fr jo.2.guard
     (Jb  z fr jo.2.xs fun xs=>match jo.2.cls with
        | .new=>match jo.2.k.run (fun _=>none) st.next xs with
          |some (.aE v none none (some aA))=>ot v fun v=>vP aA fun aA=>iW fr jo.2.dst v fun fr=>Lb st.next fun n=>tu (some aA) st.next st.heap fun h=>
              ih ({ idx:=jo.1,o:=jo.2,v:=v,c:= .new st.next aA,nx:=n }::recs) base fr { heap:=h,next:=n } k
          |_=>z
        | .aE=>EJ z call jo.2.k xs st fun v st'=>iW fr jo.2.dst v fun fr=>ih ({ idx:=jo.1,o:=jo.2,v:=v,c:= .aE base st'.heap,nx:=st'.next }::recs) st'.heap fr st' k
        | _ =>match jo.2.k.run (fun _=>none) .h xs with
          |some (.val v)=>ot v fun v=>iW fr jo.2.dst v fun fr=>ih ({ idx:=jo.1,o:=jo.2,v:=v,c:= .pure,nx:=st.next }::recs) base fr st k
          | _ =>Bq jo.2.bG base recs fun h=>match jo.2.k.run (fun b=>wo b h) .h xs with
            | some (.val v)=>ot v fun v=>match nF jo.2.bG jo.2.k xs v [] recs with
              |true=>iW fr jo.2.dst v fun fr=>ih ({ idx:=jo.1,o:=jo.2,v:=v,c:= .pure,nx:=st.next }::recs) base fr st k
              |false=>z
            |_=>z)
     (iW fr jo.2.dst .undef fun fr=>ih ({ idx:=jo.1,o:=jo.2,v:= .undef,c:= .pure,nx:=st.next }::recs) base fr st k)) ops
abbrev Lc (R:Type):=AC->Fr->St->(Fr->St->R)->(Nat->Fr->St->R)->(Fr->St->R)->R
def nG (call:vG R) (ih:Lc R):Lc R
 | .skip,fr,st,kn,_,_=>kn fr st
 | .region ops,fr,st,kn,_,_=>PX z call ops fr st kn
 | .draw ops,fr,st,kn,_,_=>Br z call ops [] st.heap fr st kn
 | .seq a b,fr,st,kn,kx,kr=>ih a fr st (fun fr st=>ih b fr st kn kx kr) kx kr
 |  .cond x a b,fr,st,kn,kx,kr=>RL z fr x fun v=>match v with
    | .bool true=>ih a fr st kn kx kr
    | .bool false=>ih b fr st kn kx kr
    |_=>z
 | .block id a,fr,st,kn,kx,kr=>ih a fr st kn (fun oK fr st=>match Nat.beq oK id with
     |true=>kn fr st
     |false=>kx oK fr st) kr
 | .loop a,fr,st,kn,kx,kr=>ih a fr st (fun fr st=>ih (.loop a) fr st kn kx kr) kx kr
 | .exit id,fr,st,_,kx,_=>kx id fr st
 | .ret,fr,st,_,_,kr=>kr fr st
def Ld (call:vG R) (n:Nat):Lc R:=
 Nat.rec (motive:=fun _=>Lc R) (fun _ _ _ _ _ _=>z) (fun _ ih=>nG z call ih) n
def EK (vs:List AV):Nat->Fr->(Fr->R)->R:=
 List.rec (motive:=fun _=>Nat->Fr->(Fr->R)->R) (fun _ fr k=>k fr)
    (fun v _ ih i fr k=>tu (some v) (key i) fr fun fr=>ih (i+1) fr k) vs
def tv (st:St) (fr:Fr) (rs:List G9) (k:AV->R):R:=
 match eV (fun b=>wo b st.heap) fr rs with
 |  some vs=>EI vs fun vs=>match vs with
    |[v]=>k v
    |vs=>k (.tuple vs)
 |none=>z
def EL (O:eE  ) (G:T aN) (m:Nat) (d:Nat):vG R:=
 Nat.rec (motive:=fun _=>vG R) (fun _ _ _ _=>z)
    (fun _ ih f args st k=>match O f with
     |  some s=>match s args st with
        |some (v,st')=>ot v fun v=>k v st'
        |none=>z
     |  none=>match wo (key f) G with
        |some F=>match Nat.beq args.length F.nparams with
         |true=>EK args 0 .e fun fr=>Ld z ih m F.code fr st
              (fun fr st=>tv z st fr F.results fun v=>k v st)
              (fun _ _ _=>z)
              (fun fr st=>tv z st fr F.results fun v=>k v st)
         |false=>z
        |none=>z) d
end
end Go.Ai
end
