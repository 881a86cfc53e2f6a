/- An evaluator over plain values, its compiler from the model's functions and its relation to the model's worlds. -/
import Derived.Calls
import Derived.Orders
import Derived.Below
set_option linter.all false
set_option linter.unusedSectionVars false
set_option linter.deprecated false
section
namespace Go.Ai
inductive Pos where
  | h
  | o (p : Pos)
  | i (p : Pos)
  deriving DecidableEq, Inhabited
def Pos.toNat : Pos -> Nat
  | .h => 1
  | .o p => 2 * p.toNat
  | .i p => 2 * p.toNat + 1
def Pos.succ : Pos -> Pos
  | .h => .o .h
  | .o p => .i p
  | .i p => .o p.succ
def Pos.KK : Nat -> Nat -> Pos
  | 0, _ => .h
  | f + 1, n => match Nat.ble n 1 with
    | true => .h
    | false => match Nat.beq (n % 2) 0 with
      | true => .o (Pos.KK f (n / 2))
      | false => .i (Pos.KK f (n / 2))
def key (n : Nat) : Pos := Pos.KK (n + 1).log2 (n + 1)
def Pos.beq : Pos -> Pos -> Bool
  | .h, .h => true
  | .o a, .o b => a.beq b
  | .i a, .i b => a.beq b
  | _, _ => false
inductive T (α : Type) where
  | e
  | n (l : T α) (v : Option α) (r : T α)
  deriving Inhabited
def T.get {α : Type} : Pos -> T α -> Option α
  | _, .e => none
  | .h, .n _ v _ => v
  | .o p, .n l _ _ => l.get p
  | .i p, .n _ _ r => r.get p
def T.put {α : Type} (x : Option α) : Pos -> T α -> T α
  | .h, .e => .n .e x .e
  | .h, .n l _ r => .n l x r
  | .o p, .e => .n (T.put x p .e) none .e
  | .o p, .n l v r => .n (T.put x p l) v r
  | .i p, .e => .n .e none (T.put x p .e)
  | .i p, .n l v r => .n l v (T.put x p r)
inductive AV where
  | bool (b : Bool)
  | int (k : IntKind) (n : Int)
  | str (s : List Nat)
  | cU
  | ptr (b : Pos) (off : Nat)
  | fp (xs : List (List AV)) (i j : Nat)
  | av
  | slice (b : Pos) (off len : Nat) (cap : Option Nat) (es : Nat)
  | fl (xs : List (List AV)) (es : Nat)
  | iy
  | map (b : Pos)
  | func (f : FuncId) (first captured : List AV)
  | aq
  | qU
  | iface (t : TypeId) (v : AV)
  | agg (l : List AV)
  | tuple (l : List AV)
  deriving Inhabited
inductive AB where
  | cells (cs : List AV) (fz : Nat)
  | map (es : List (AV × AV × Nat)) (clock : Nat)
  | j8 (s : List Nat) (pos : Nat)
  deriving Inhabited
def AV.cells : AV -> List AV
  | .agg l => l
  | v => [v]
def AV.undef : AV := .tuple []
def AV.one : AV -> Bool
  | .agg _ => false
  | .tuple _ => false
  | _ => true
def cY : List AV -> Bool
  | [] => true
  | v :: l => match v.one with
    | true => cY l
    | false => false
inductive dz where
  | val (v : AV)
  | aN (v : AV) (del : Option Pos) (set : Option (Pos × AB)) (new : Option AB)
  | call (f : FuncId) (args : List AV)
  deriving Inhabited
def nth {α : Type} : List α -> Nat -> Option α
  | [], _ => none
  | a :: _, 0 => some a
  | _ :: l, n + 1 => nth l n
def cut {α : Type} (l : List α) (i n : Nat) : Option (List α) :=
  match Nat.ble (i + n) l.length with
  | true => some ((l.drop i).take n)
  | false => none
def bg {α : Type} (l : List α) (i : Nat) (vs : List α) : List α := l.take i ++ (vs ++ l.drop (i + vs.length))
def ia : List Nat -> List Nat -> Bool
  | [], [] => true
  | a :: x, b :: y => match Nat.beq a b with
    | true => ia x y
    | false => false
  | _, _ => false
def aA : List Nat -> List Nat -> Bool
  | _, [] => false
  | [], _ :: _ => true
  | a :: x, b :: y => match Nat.blt a b with
    | true => true
    | false => match Nat.beq a b with
      | true => aA x y
      | false => false
inductive PK where
  | b
  | i
  | s
  deriving Inhabited
inductive fI where
  | num
  | bool
  | ptr
  | slice
  | map
  | func
  | iface
  | struct (fs : List (Nat × PK))
  deriving Inhabited
inductive U9 where
  | int (k : IntKind)
  | same
  | bytes
  | ofBytes
  deriving Inhabited
inductive LK where
  | s
  | l
  | m
  deriving Inhabited
inductive aE where
  | move
  | pick
  | alloc (zero : List AV)
  | box
  | build (zero : List AV) (places : List (Nat × Nat))
  | buildSlice (es len : Nat) (zero : List AV) (places : List Nat)
  | load (n : Option Nat)
  | store (n : Nat)
  | nilCheck
  | bin (op : BinOp) (q : fI)
  | un (op : UnOp)
  | conv (k : U9)
  | mkIface (t : TypeId)
  | mkFunc (f : FuncId) (CS : Nat)
  | mkMap
  | lookup (pk : PK) (zero : AV) (ok : Bool)
  | mapSet (pk : PK)
  | mkSlice (es bytes : Nat) (zero : List AV)
  | sliceS (lo hi : Bool)
  | sliceL (es : Nat) (lo hi mx : Bool)
  | fieldA (off : Nat)
  | idxA (es : Nat) (arr : Option Nat)
  | field (off : Nat) (n : Option Nat)
  | idxS
  | extract (i : Nat)
  | callF (f : FuncId)
  | callV
  | lenB (k : LK)
  | capB
  | append (es bytes : Nat)
  | copyB (es : Nat)
  | minB
  | maxB
  | clearS (es : Nat) (zero : List AV)
  | rangeS
  | nextS
  | bad
  deriving Inhabited
def uf (k : IntKind) : Int := match k with
  | .i8 => -128 | .i16 => -32768 | .i32 => -2147483648 | .i64 => -9223372036854775808 | _ => 0
def N0 (k : IntKind) : Int := match k with
  | .i8 => 127 | .i16 => 32767 | .i32 => 2147483647 | .i64 => 9223372036854775807
  | .u8 => 255 | .u16 => 65535 | .u32 => 4294967295 | .u64 => 18446744073709551615
def aM (k : IntKind) (n : Int) : Int :=
  match Int.decLe (uf k) n with
  | .isTrue _ => match Int.decLe n (N0 k) with
    | .isTrue _ => n
    | .isFalse _ => k.wrap n
  | .isFalse _ => k.wrap n
def w7 (a b : IntKind) : Bool := match decEq a b with
  | .isTrue _ => true
  | .isFalse _ => false
def uV (a b : Int) : Bool := match Int.decEq a b with
  | .isTrue _ => true
  | .isFalse _ => false
def yB (a b : Int) : Bool := match Int.decLt a b with
  | .isTrue _ => true
  | .isFalse _ => false
def Ku (a b : Int) : Bool := match Int.decLe a b with
  | .isTrue _ => true
  | .isFalse _ => false
def uu : PK -> AV -> AV -> Option Bool
  | .b, .bool a, .bool b => some (a == b)
  | .i, .int k a, .int k' b => match w7 k k' with
    | true => some (uV a b)
    | false => none
  | .s, .str a, .str b => some (ia a b)
  | _, _, _ => none
def eqFields (xs ys : List AV) : List (Nat × PK) -> Option Bool
  | [] => some true
  | (o, pk) :: fs => match nth xs o, nth ys o with
    | some a, some b => match uu pk a b with
      | some true => eqFields xs ys fs
      | some false => some false
      | none => none
    | _, _ => none
def Fc : fI -> AV -> AV -> Option Bool
  | .bool, .bool a, .bool b => some (a == b)
  | .ptr, .cU, .cU => some true
  | .ptr, .cU, .ptr _ _ => some false
  | .ptr, .ptr _ _, .cU => some false
  | .ptr, .cU, .fp _ _ _ => some false
  | .ptr, .fp _ _ _, .cU => some false
  | .slice, .av, .av => some true
  | .slice, .av, .slice _ _ _ _ _ => some false
  | .slice, .slice _ _ _ _ _, .av => some false
  | .slice, .av, .fl _ _ => some false
  | .slice, .fl _ _, .av => some false
  | .map, .iy, .iy => some true
  | .map, .iy, .map _ => some false
  | .map, .map _, .iy => some false
  | .func, .aq, .aq => some true
  | .func, .aq, .func _ _ _ => some false
  | .func, .func _ _ _, .aq => some false
  | .iface, .qU, .iface _ _ => some false
  | .iface, .iface _ _, .qU => some false
  | .struct fs, .agg xs, .agg ys => eqFields xs ys fs
  | _, _, _ => none
def o9 (op : BinOp) (q : fI) : AV -> AV -> Option AV
  | .int k a, .int k' b => match op with
    | .shl => match yB b 0 with
      | true => none
      | false => some (.int k (aM k (a * 2 ^ (min b.toNat k.bits))))
    | .shr => match yB b 0 with
      | true => none
      | false => some (.int k (a.fdiv (2 ^ (min b.toNat k.bits))))
    | op => match w7 k k' with
      | false => none
      | true => match op with
        | .add => some (.int k (aM k (a + b)))
        | .sub => some (.int k (aM k (a - b)))
        | .mul => some (.int k (aM k (a * b)))
        | .quo => match uV b 0 with
          | true => none
          | false => some (.int k (aM k (a.tdiv b)))
        | .rem => match uV b 0 with
          | true => none
          | false => some (.int k (a.tmod b))
        | .and => some (.int k (k.wrap (BitVec.ofInt k.bits a &&& BitVec.ofInt k.bits b).toNat))
        | .or => some (.int k (k.wrap (BitVec.ofInt k.bits a ||| BitVec.ofInt k.bits b).toNat))
        | .xor => some (.int k (k.wrap (BitVec.ofInt k.bits a ^^^ BitVec.ofInt k.bits b).toNat))
        | .andNot => some (.int k (k.wrap (BitVec.ofInt k.bits a &&& ~~~BitVec.ofInt k.bits b).toNat))
        | .eql => some (.bool (uV a b))
        | .neq => some (.bool (!uV a b))
        | .lss => some (.bool (yB a b))
        | .leq => some (.bool (Ku a b))
        | .gtr => some (.bool (yB b a))
        | .geq => some (.bool (Ku b a))
        | _ => none
  | .str a, .str b => match op with
    | .add => match Nat.ble (a.length + b.length) 9223372036854775807 with
      | true => some (.str (a ++ b))
      | false => none
    | .eql => some (.bool (ia a b))
    | .neq => some (.bool (!ia a b))
    | .lss => some (.bool (aA a b))
    | .leq => some (.bool (aA a b || ia a b))
    | .gtr => some (.bool (!(aA a b || ia a b)))
    | .geq => some (.bool (!aA a b))
    | _ => none
  | x, y => match op with
    | .eql => match Fc q x y with
      | some b => some (.bool b)
      | none => none
    | .neq => match Fc q x y with
      | some b => some (.bool (!b))
      | none => none
    | _ => none
def unA (op : UnOp) : AV -> Option AV
  | .bool b => match op with
    | .not => some (.bool (!b))
    | _ => none
  | .int k n => match op with
    | .neg => some (.int k (aM k (0 - n)))
    | _ => none
  | _ => none
def cL (cells : List AV) : List (Nat × Nat) -> List AV -> Option (List AV)
  | [], [] => some cells
  | (off, size) :: ps, v :: vs =>
    match Nat.beq v.cells.length size, Nat.ble (off + size) cells.length with
    | true, true => cL (bg cells off v.cells) ps vs
    | _, _ => none
  | _, _ => none
def cv {α : Type} (l : List α) : Nat -> List α
  | 0 => []
  | n + 1 => l ++ cv l n
def qV : AV -> Option Nat
  | .int _ n => match n with
    | .ofNat m => some m
    | .negSucc _ => none
  | _ => none
def AL (n : Nat) : AV := .int .i64 (.ofNat n)
def rows (es : Nat) (cs : List AV) : Nat -> List (List AV)
  | 0 => []
  | n + 1 => cs.take es :: rows es (cs.drop es) n
def bounds : (lo hi mx : Bool) -> List AV -> Option (Option Nat × Option Nat × Option Nat)
  | false, false, false, [] => some (none, none, none)
  | true, false, false, [a] => match qV a with
    | some l => some (some l, none, none)
    | none => none
  | false, true, false, [b] => match qV b with
    | some h => some (none, some h, none)
    | none => none
  | true, true, false, [a, b] => match qV a, qV b with
    | some l, some h => some (some l, some h, none)
    | _, _ => none
  | false, true, true, [b, c] => match qV b, qV c with
    | some h, some m => some (none, some h, some m)
    | _, _ => none
  | true, true, true, [a, b, c] => match qV a, qV b, qV c with
    | some l, some h, some m => some (some l, some h, some m)
    | _, _, _ => none
  | _, _, _, _ => none
def eV (es n : Nat) (H : Pos -> Option AB) : AV -> Option (List AV)
  | .av => some []
  | .slice b off _ _ _ => match Nat.beq (n * es) 0 with
    | true => some []
    | false => match H b with
      | some (.cells cs _) => cut cs off (n * es)
      | _ => none
  | .fl xs bR => match Nat.beq es bR, Nat.ble n xs.length with
    | true, true => some (xs.take n).flatten
    | _, _ => none
  | .str s => match Nat.beq es 1, Nat.ble n s.length with
    | true, true => some ((s.take n).map fun c => .int .u8 (.ofNat c))
    | _, _ => none
  | _ => none
def eH : AV -> Option Nat
  | .av => some 0
  | .slice _ _ n _ _ => some n
  | .fl xs _ => some xs.length
  | .str s => some s.length
  | _ => none
def iV (pk : PK) (k : AV) : List (AV × AV × Nat) -> Nat -> Option (Option (Nat × AV))
  | [], _ => some none
  | (k', v, _) :: es, i => match uu pk k k' with
    | some true => some (some (i, v))
    | some false => iV pk k es (i + 1)
    | none => none
def OY : PK -> AV -> Bool
  | .b, .bool _ => true
  | .i, .int _ _ => true
  | .s, .str _ => true
  | _, _ => false
def mQ (k v : AV) : List (AV × AV × Nat) -> Nat -> List (AV × AV × Nat)
  | [], _ => []
  | (_, _, born) :: es, 0 => (k, v, born) :: es
  | e :: es, i + 1 => e :: mQ k v es i
def N1 (s : List Nat) (pos : Nat) : Option (Nat × Nat) :=
  match nth s pos with
  | some c => match Nat.blt c 128 with
    | true => some (c, 1)
    | false => none
  | none => none
def bytesOf : List AV -> Option (List Nat)
  | [] => some []
  | .int .u8 (.ofNat n) :: l => match Nat.blt n 256, bytesOf l with
    | true, some s => some (n :: s)
    | _, _ => none
  | _ => none
def Eb (_H : Pos -> Option AB) (_next : Pos) : List AV -> Option dz
  | [x] => some (.val x)
  | _ => none
def Ii (_H : Pos -> Option AB) (_next : Pos) : List AV -> Option dz
  | [c, a, b] => match c with
    | .bool true => some (.val a)
    | .bool false => some (.val b)
    | _ => none
  | _ => none
def AM (_H : Pos -> Option AB) (next : Pos) (zero : List AV) : List AV -> Option dz
  | [] => some (.aN (.ptr next 0) none none (some (.cells zero 0)))
  | _ => none
def Gm (_H : Pos -> Option AB) (next : Pos) : List AV -> Option dz
  | [x] => some (.aN (.ptr next 0) none none (some (.cells x.cells 0)))
  | _ => none
def AN (_H : Pos -> Option AB) (_next : Pos) (zero : List AV) (places : List (Nat × Nat)) : List AV -> Option dz
  | xs => match cL zero places xs with
    | some cs => some (.val (.agg cs))
    | none => none
def oI (_H : Pos -> Option AB) (next : Pos) (es len : Nat) (zero : List AV) (places : List Nat) : List AV -> Option dz
  | xs => match cL (cv zero len) (places.map fun i => (i * es, es)) xs with
    | some cs => some (.aN (.slice next 0 len (some len) es) none none (some (.cells cs 0)))
    | none => none
def qF (H : Pos -> Option AB) (_next : Pos) (n : Option Nat) : List AV -> Option dz
  | [p] => match p with
    | .ptr b off => match H b with
      | some (.cells cs _) => match n with
        | none => match nth cs off with
          | some v => some (.val v)
          | none => none
        | some n => match cut cs off n with
          | some vs => some (.val (.agg vs))
          | none => none
      | _ => none
    | .fp xs i j => match nth xs i with
      | some cs => match n with
        | none => match nth cs j with
          | some v => some (.val v)
          | none => none
        | some n => match cut cs j n with
          | some vs => some (.val (.agg vs))
          | none => none
      | none => none
    | _ => none
  | _ => none
def w8 (H : Pos -> Option AB) (_next : Pos) (n : Nat) : List AV -> Option dz
  | [p, v] => match p with
    | .ptr b off => match H b with
      | some (.cells cs fz) =>
        match Nat.beq v.cells.length n, Nat.ble (off + n) cs.length, Nat.ble fz off, cY v.cells with
        | true, true, true, true => some (.aN .undef none (some (b, .cells (bg cs off v.cells) fz)) none)
        | _, _, _, _ => none
      | _ => none
    | _ => none
  | _ => none
def zn (_H : Pos -> Option AB) (_next : Pos) : List AV -> Option dz
  | [x] => match x with
    | .ptr _ _ => some (.val x)
    | .fp _ _ _ => some (.val x)
    | .func _ _ _ => some (.val x)
    | _ => none
  | _ => none
def jA (_H : Pos -> Option AB) (_next : Pos) (op : BinOp) (q : fI) : List AV -> Option dz
  | [x, y] => match o9 op q x y with
    | some v => some (.val v)
    | none => none
  | _ => none
def OZ (_H : Pos -> Option AB) (_next : Pos) (op : UnOp) : List AV -> Option dz
  | [x] => match unA op x with
    | some v => some (.val v)
    | none => none
  | _ => none
def uv (H : Pos -> Option AB) (next : Pos) (k : U9) : List AV -> Option dz
  | [x] => match k, x with
    | .int k, .int _ n => some (.val (.int k (aM k n)))
    | .same, .str s => some (.val (.str s))
    | .bytes, .str s => some (.aN (.slice next 0 s.length none 1) none none (some (.cells (s.map fun c => .int .u8 (.ofNat c)) 0)))
    | .ofBytes, .av => some (.val (.str []))
    | .ofBytes, .slice b off n _ _ => match Nat.beq n 0 with
      | true => some (.val (.str []))
      | false => match H b with
        | some (.cells cs _) => match cut cs off n with
          | some l => match bytesOf l with
            | some s => some (.val (.str s))
            | none => none
          | none => none
        | _ => none
    | _, _ => none
  | _ => none
def AO (_H : Pos -> Option AB) (_next : Pos) (t : TypeId) : List AV -> Option dz
  | [x] => some (.val (.iface t x))
  | _ => none
def yC (_H : Pos -> Option AB) (_next : Pos) (f : FuncId) (CS : Nat) : List AV -> Option dz
  | xs => some (.val (.func f (xs.take CS) (xs.drop CS)))
def AP (_H : Pos -> Option AB) (next : Pos) : List AV -> Option dz
  | _ => some (.aN (.map next) none none (some (.map [] 0)))
def sj (H : Pos -> Option AB) (_next : Pos) (pk : PK) (zero : AV) (ok : Bool) : List AV -> Option dz
  | [m, k] =>
    match (match m with
      | .iy => match OY pk k with
        | true => some none
        | false => none
      | .map b => match H b with
        | some (.map es _) => iV pk k es 0
        | _ => none
      | _ => none) with
    | some (some (_, v)) => some (.val (match ok with | true => .tuple [v, .bool true] | false => v))
    | some none => some (.val (match ok with | true => .tuple [zero, .bool false] | false => zero))
    | none => none
  | _ => none
def sr (H : Pos -> Option AB) (_next : Pos) (pk : PK) : List AV -> Option dz
  | [m, k, v] => match m with
    | .map b => match H b with
      | some (.map es clock) => match OY pk k, iV pk k es 0 with
        | true, some (some (i, _)) => some (.aN .undef none (some (b, .map (mQ k v es i) clock)) none)
        | true, some none => some (.aN .undef none (some (b, .map (es ++ [(k, v, clock)]) (clock + 1))) none)
        | _, _ => none
      | _ => none
    | _ => none
  | _ => none
def wq (_H : Pos -> Option AB) (next : Pos) (es bytes : Nat) (zero : List AV) : List AV -> Option dz
  | [l, c] => match qV l, qV c with
    | some l, some c => match Nat.ble l c, Nat.ble (bytes * c) 281474976710656, Nat.ble c 9223372036854775807 with
      | true, true, true => some (.aN (.slice next 0 l (some c) es) none none (some (.cells (cv zero c) 0)))
      | _, _, _ => none
    | _, _ => none
  | _ => none
def CT (_H : Pos -> Option AB) (_next : Pos) (lo hi : Bool) : List AV -> Option dz
  | x :: bs => match x, bounds lo hi false bs with
    | .str s, some (l, h, _) =>
      let h := h.getD s.length
      let l := l.getD 0
      match Nat.ble l h, Nat.ble h s.length with
      | true, true => some (.val (.str ((s.take h).drop l)))
      | _, _ => none
    | _, _ => none
  | _ => none
def nT (_H : Pos -> Option AB) (_next : Pos) (es : Nat) (lo hi mx : Bool) : List AV -> Option dz
  | x :: bs => match x, bounds lo hi mx bs with
    | .slice b off len cap bR, some (l, h, m) =>
      match Nat.beq es bR, Nat.ble (l.getD 0) (h.getD len) with
      | true, true => match cap, m with
        | some c, some m => match Nat.ble (h.getD len) m, Nat.ble m c with
          | true, true => some (.val (.slice b (off + l.getD 0 * es) (h.getD len - l.getD 0) (some (m - l.getD 0)) es))
          | _, _ => none
        | some c, none => match Nat.ble (h.getD len) c with
          | true => some (.val (.slice b (off + l.getD 0 * es) (h.getD len - l.getD 0) (some (c - l.getD 0)) es))
          | false => none
        | none, some m => match Nat.ble (h.getD len) m, Nat.ble m len with
          | true, true => some (.val (.slice b (off + l.getD 0 * es) (h.getD len - l.getD 0) (some (m - l.getD 0)) es))
          | _, _ => none
        | none, none => match Nat.ble (h.getD len) len with
          | true => some (.val (.slice b (off + l.getD 0 * es) (h.getD len - l.getD 0) none es))
          | false => none
      | _, _ => none
    | .fl xs bR, some (l, h, m) =>
      match Nat.beq es bR with
      | true => match m with
        | some m => match Nat.beq (l.getD 0) 0, Nat.beq (h.getD xs.length) 0, Nat.beq m 0 with
          | true, true, true => some (.val (.slice .h 0 0 (some 0) es))
          | _, _, _ => none
        | none => match Nat.ble (l.getD 0) (h.getD xs.length), Nat.ble (h.getD xs.length) xs.length with
          | true, true => some (.val (.fl ((xs.take (h.getD xs.length)).drop (l.getD 0)) es))
          | _, _ => none
      | false => none
    | .av, some (l, h, m) => match Nat.beq (l.getD 0) 0, Nat.beq (h.getD 0) 0, Nat.beq (m.getD 0) 0 with
        | true, true, true => some (.val .av)
        | _, _, _ => none
    | _, _ => none
  | _ => none
def CU (_H : Pos -> Option AB) (_next : Pos) (off : Nat) : List AV -> Option dz
  | [x] => match x with
    | .ptr b o => some (.val (.ptr b (o + off)))
    | .fp xs i j => some (.val (.fp xs i (j + off)))
    | _ => none
  | _ => none
def qG (_H : Pos -> Option AB) (_next : Pos) (es : Nat) (arr : Option Nat) : List AV -> Option dz
  | [x, i] => match qV i with
    | some i => match arr, x with
      | none, .slice b off len _ _ => match Nat.blt i len with
        | true => some (.val (.ptr b (off + i * es)))
        | false => none
      | none, .fl xs bR => match Nat.blt i xs.length, Nat.beq es bR with
        | true, true => some (.val (.fp xs i 0))
        | _, _ => none
      | some n, .ptr b off => match Nat.blt i n with
        | true => some (.val (.ptr b (off + i * es)))
        | false => none
      | _, _ => none
    | none => none
  | _ => none
def Fe (_H : Pos -> Option AB) (_next : Pos) (off : Nat) (n : Option Nat) : List AV -> Option dz
  | [x] => match x with
    | .agg cs => match n with
      | none => match nth cs off with
        | some v => some (.val v)
        | none => none
      | some n => some (.val (.agg ((cs.drop off).take n)))
    | _ => none
  | _ => none
def Ec (_H : Pos -> Option AB) (_next : Pos) : List AV -> Option dz
  | [x, i] => match x, qV i with
    | .str s, some i => match nth s i with
      | some c => some (.val (.int .u8 (.ofNat c)))
      | none => none
    | _, _ => none
  | _ => none
def wu (_H : Pos -> Option AB) (_next : Pos) (i : Nat) : List AV -> Option dz
  | [x] => match x with
    | .tuple vs => match nth vs i with
      | some v => some (.val v)
      | none => none
    | _ => none
  | _ => none
def Ff (_H : Pos -> Option AB) (_next : Pos) (f : FuncId) : List AV -> Option dz
  | xs => some (.call f xs)
def Fg (_H : Pos -> Option AB) (_next : Pos) : List AV -> Option dz
  | x :: xs => match x with
    | .func f first captured => some (.call f (first ++ (xs ++ captured)))
    | _ => none
  | _ => none
def zR (H : Pos -> Option AB) (_next : Pos) (k : LK) : List AV -> Option dz
  | [x] => match k, x with
    | .m, .iy => some (.val (AL 0))
    | .m, .map b => match H b with
      | some (.map es _) => some (.val (AL es.length))
      | _ => none
    | .s, .str s => some (.val (AL s.length))
    | .l, .av => some (.val (AL 0))
    | .l, .slice _ _ n _ _ => some (.val (AL n))
    | .l, .fl xs _ => some (.val (AL xs.length))
    | _, _ => none
  | _ => none
def ld (H : Pos -> Option AB) (next : Pos) (es bytes : Nat) : List AV -> Option dz
  | [s, x] => match eH s, eH x with
    | some n, some m =>
      match Nat.ble ((2 * (n + m) + 768) * bytes) 281474976710656, Nat.ble (n + m) 9223372036854775807 with
      | true, true => match Nat.beq m 0, s with
        | true, .slice b off n c bR => some (.val (.slice b off n c bR))
        | true, .fl xs bR => some (.val (.fl xs bR))
        | true, .av => some (.val .av)
        | false, .av => match eV es m H x with
          | some new => some (.aN (.slice next 0 m none es) none none (some (.cells new 0)))
          | none => none
        | false, .slice b off n (some c) bR =>
          match Nat.ble (n + m) c with
          | true => match H b, eV es m H x with
            | some (.cells cs fz), some new => match Nat.ble (off + (n + m) * es) cs.length, Nat.ble fz (off + n * es) && Nat.beq es bR, cY new with
              | true, true, true => some (.aN (.slice b off (n + m) (some c) es) none (some (b, .cells (bg cs (off + n * es) new) fz)) none)
              | _, _, _ => none
            | _, _ => none
          | false => match eV es n H s, eV es m H x with
            | some ic, some new => some (.aN (.slice next 0 (n + m) none es) none none (some (.cells (ic ++ new) 0)))
            | _, _ => none
        | false, .slice b off n none bR =>
          match H b, eV es n H s, eV es m H x with
          | some (.cells _ fz), some ic, some new => match Nat.ble fz (off + n * es) && Nat.beq es bR, cY new with
            | true, true => some (.aN (.slice next 0 (n + m) none es) (some b) none (some (.cells (ic ++ new) (fz - off))))
            | _, _ => none
          | _, _, _ => none
        | _, _ => none
      | _, _ => none
    | _, _ => none
  | _ => none
def uw (H : Pos -> Option AB) (_next : Pos) (es : Nat) : List AV -> Option dz
  | [d, x] => match eH d, eH x with
    | some n, some m =>
      let k := min m n
      match Nat.beq k 0 with
      | true => match d with
        | .str _ => none
        | _ => some (.val (AL 0))
      | false => match d with
        | .slice b off _ _ _ => match H b, eV es k H x with
          | some (.cells cs fz), some new => match Nat.ble (off + k * es) cs.length, Nat.ble fz off, cY new with
            | true, true, true => some (.aN (AL k) none (some (b, .cells (bg cs off new) fz)) none)
            | _, _, _ => none
          | _, _ => none
        | _ => none
    | _, _ => none
  | _ => none
def wP (_H : Pos -> Option AB) (_next : Pos) : List AV -> Option dz
  | [x, y] => match x, y with
    | .int k a, .int _ b => some (.val (.int k (match yB b a with | true => b | false => a)))
    | .str a, .str b => some (.val (.str (match aA a b || ia a b with | true => a | false => b)))
    | _, _ => none
  | _ => none
def wQ (_H : Pos -> Option AB) (_next : Pos) : List AV -> Option dz
  | [x, y] => match x, y with
    | .int k a, .int _ b => some (.val (.int k (match yB a b with | true => b | false => a)))
    | .str a, .str b => some (.val (.str (match aA a b with | true => b | false => a)))
    | _, _ => none
  | _ => none
def su (H : Pos -> Option AB) (_next : Pos) (es : Nat) (zero : List AV) : List AV -> Option dz
  | [x] => match x with
    | .av => some (.val .undef)
    | .slice b off n _ _ => match Nat.beq n 0 with
      | true => some (.val .undef)
      | false => match H b with
        | some (.cells cs fz) => match Nat.ble (off + n * es) cs.length, Nat.ble fz off, cY (cv zero n) with
          | true, true, true => some (.aN .undef none (some (b, .cells (bg cs off (cv zero n)) fz)) none)
          | _, _, _ => none
        | _ => none
    | _ => none
  | _ => none
def yD (_H : Pos -> Option AB) (next : Pos) : List AV -> Option dz
  | [x] => match x with
    | .str s => some (.aN (.ptr next 0) none none (some (.j8 s 0)))
    | _ => none
  | _ => none
def AQ (H : Pos -> Option AB) (_next : Pos) : List AV -> Option dz
  | [x] => match x with
    | .ptr b 0 => match H b with
      | some (.j8 s pos) => match Nat.blt pos s.length with
        | true => match N1 s pos with
          | some (c, w) => some (.aN (.tuple [.bool true, AL pos, .int .i32 (.ofNat c)]) none (some (b, .j8 s (pos + w))) none)
          | none => none
        | false => some (.val (.tuple [.bool false]))
      | _ => none
    | _ => none
  | _ => none
def aE.run (H : Pos -> Option AB) (next : Pos) : aE -> List AV -> Option dz
  | .move => Eb H next
  | .pick => Ii H next
  | .alloc zero => AM H next zero
  | .box => Gm H next
  | .build zero places => AN H next zero places
  | .buildSlice es len zero places => oI H next es len zero places
  | .load n => qF H next n
  | .store n => w8 H next n
  | .nilCheck => zn H next
  | .bin op q => jA H next op q
  | .un op => OZ H next op
  | .conv k => uv H next k
  | .mkIface t => AO H next t
  | .mkFunc f CS => yC H next f CS
  | .mkMap => AP H next
  | .lookup pk zero ok => sj H next pk zero ok
  | .mapSet pk => sr H next pk
  | .mkSlice es bytes zero => wq H next es bytes zero
  | .sliceS lo hi => CT H next lo hi
  | .sliceL es lo hi mx => nT H next es lo hi mx
  | .fieldA off => CU H next off
  | .idxA es arr => qG H next es arr
  | .field off n => Fe H next off n
  | .idxS => Ec H next
  | .extract i => wu H next i
  | .callF f => Ff H next f
  | .callV => Fg H next
  | .lenB k => zR H next k
  | .append es bytes => ld H next es bytes
  | .copyB es => uw H next es
  | .minB => wP H next
  | .maxB => wQ H next
  | .clearS es zero => su H next es zero
  | .rangeS => yD H next
  | .nextS => AQ H next
  | .capB => fun _ => none
  | .bad => fun _ => none
inductive jW where
  | t (p : Pos)
  | c (v : AV)
  deriving Inhabited
inductive N3 where
  | pure
  | read
  | new
  | aN
  deriving Inhabited
structure bI where
  dst : Option Pos
  k : aE
  xs : List jW
  guard : Option (Pos × Bool)
  cls : N3
  bL : Nat
  deriving Inhabited
inductive AC where
  | skip
  | region (ops : List bI)
  | draw (ops : List (Nat × bI))
  | seq (a b : AC)
  | cond (x : jW) (a b : AC)
  | block (id : Nat) (a : AC)
  | loop (a : AC)
  | exit (id : Nat)
  | ret
  deriving Inhabited
inductive Gn where
  | tmp (p : Pos)
  | cell (p : Pos) (n : Option Nat)
  deriving Inhabited
structure aK where
  code : AC
  nparams : Nat
  results : List Gn
  deriving Inhabited
abbrev Fr := T AV
structure St where
  heap : T AB
  next : Pos
  deriving Inhabited
inductive mD where
  | normal
  | exit (id : Nat)
  | ret
  deriving Inhabited
def vn (fr : Fr) : jW -> Option AV
  | .t p => fr.get p
  | .c v => some v
def eC (fr : Fr) : List jW -> Option (List AV)
  | [] => some []
  | x :: xs => match vn fr x with
    | some v => match eC fr xs with
      | some vs => some (v :: vs)
      | none => none
    | none => none
def bQ (fr : Fr) : Option (Pos × Bool) -> Option Bool
  | none => some true
  | some (p, want) => match fr.get p with
    | some (.bool b) => some (b == want)
    | some (.tuple _) => some false
    | _ => none
def dh (fr : Fr) (d : Option Pos) (v : AV) : Fr := match d with
  | some p => fr.put (some v) p
  | none => fr
def zo (o : Option (Pos × AB)) (h : T AB) : T AB := match o with
  | some (b, x) => h.put (some x) b
  | none => h
def w9 (o : Option Pos) (h : T AB) : T AB := match o with
  | some b => h.put none b
  | none => h
def St.aN (st : St) (del : Option Pos) (set : Option (Pos × AB)) (new : Option AB) : St :=
  match new with
  | some x => { heap := T.put (some x) st.next (zo set (w9 del st.heap)), next := st.next.succ }
  | none => { heap := zo set (w9 del st.heap), next := st.next }
abbrev ai := FuncId -> List AV -> St -> Option (AV × St)
def cP (call : ai) (k : aE) (xs : List AV) (st : St) : Option (AV × St) :=
  match k.run (fun b => st.heap.get b) st.next xs with
  | some (.val v) => some (v, st)
  | some (.aN v del set new) => some (v, st.aN del set new)
  | some (.call f args) => call f args st
  | none => none
def jy (call : ai) : List bI -> Fr -> St -> Option (Fr × St)
  | [], fr, st => some (fr, st)
  | o :: os, fr, st => match bQ fr o.guard with
    | some true => match eC fr o.xs with
      | some xs => match cP call o.k xs st with
        | some (v, st') => jy call os (dh fr o.dst v) st'
        | none => none
      | none => none
    | some false => jy call os (dh fr o.dst .undef) st
    | none => none
end Go.Ai
end
section
namespace Go.Ai
def iF : AV -> AV -> Bool
  | .bool a, .bool b => a == b
  | .int k a, .int k' b => w7 k k' && uV a b
  | .str a, .str b => ia a b
  | .cU, .cU => true
  | .ptr b o, .ptr b' o' => Pos.beq b b' && Nat.beq o o'
  | .av, .av => true
  | .slice b o l none es, .slice b' o' l' none bR => Pos.beq b b' && Nat.beq o o' && Nat.beq l l' && Nat.beq es bR
  | .slice b o l (some c) es, .slice b' o' l' (some c') bR => Pos.beq b b' && Nat.beq o o' && Nat.beq l l' && Nat.beq c c' && Nat.beq es bR
  | .iy, .iy => true
  | .map b, .map b' => Pos.beq b b'
  | .aq, .aq => true
  | .qU, .qU => true
  | _, _ => false
def rU : List AV -> List AV -> Bool
  | [], [] => true
  | a :: x, b :: y => iF a b && rU x y
  | _, _ => false
def yE (f : AV -> AV -> Bool) : List AV -> List AV -> Bool
  | [], [] => true
  | a :: x, b :: y => f a b && yE f x y
  | _, _ => false
def sw (f : AV -> AV -> Bool) : List (List AV) -> List (List AV) -> Bool
  | [], [] => true
  | a :: x, b :: y => yE f a b && sw f x y
  | _, _ => false
def yF : Nat -> AV -> AV -> Bool
  | d + 1, .fl a n, .fl a' n' => sw (yF d) a a' && Nat.beq n n'
  | _, a, b => iF a b
def o3 : AV -> AV -> Bool
  | .func f a b, .func f' a' b' => Nat.beq f f' && rU a a' && rU b b'
  | .fl a n, .fl a' n' => yF 3 (.fl a n) (.fl a' n')
  | a, b => iF a b
def mR : List AV -> List AV -> Bool
  | [], [] => true
  | a :: x, b :: y => o3 a b && mR x y
  | _, _ => false
def gL : AV -> AV -> Bool
  | .agg l, .agg l' => mR l l'
  | .tuple l, .tuple l' => mR l l'
  | a, b => o3 a b
inductive RC where
  | pure
  | new (id : Pos) (aF : AB)
  | aN (base : T AB) (h : T AB)
  deriving Inhabited
structure Rec where
  idx : Nat
  o : bI
  v : AV
  c : RC
  nx : Pos
  deriving Inhabited
def snap (bL : Nat) (h : T AB) : List Rec -> T AB
  | [] => h
  | r :: rs => match r.c with
    | .new id aF => match bL.testBit r.idx with
      | true => (snap bL h rs).put (some aF) id
      | false => snap bL h rs
    | .aN _ _ => h
    | .pure => snap bL h rs
def fN : List (Pos × AB) -> T AB -> T AB
  | [], h => h
  | (id, aF) :: l, h => (fN l h).put (some aF) id
def fP (k : aE) (xs : List AV) (v : AV) (h : T AB) : Bool :=
  match k.run (fun b => h.get b) .h xs with
  | some (.val u) => gL u v
  | _ => false
def jG (bL : Nat) (k : aE) (xs : List AV) (v : AV) : List (Pos × AB) -> List Rec -> Bool
  | _, [] => true
  | up, r :: rs => match r.c with
    | .new id aF => match bL.testBit r.idx with
      | true => jG bL k xs v ((id, aF) :: up) rs
      | false => jG bL k xs v up rs
    | .aN base _ => match bL.testBit r.idx with
      | true => true
      | false => fP k xs v (fN up (snap bL base rs)) && jG bL k xs v up rs
    | .pure => jG bL k xs v up rs
def dc (call : ai) : List (Nat × bI) -> List Rec -> T AB -> Fr -> St -> Option (Fr × St)
  | [], _, _, fr, st => some (fr, st)
  | (j, o) :: os, recs, base, fr, st => match bQ fr o.guard with
    | some false => dc call os ({ idx := j, o := o, v := .undef, c := .pure, nx := st.next } :: recs) base (dh fr o.dst .undef) st
    | some true => match eC fr o.xs with
      | none => none
      | some xs => match o.cls with
        | .new => match o.k.run (fun _ => none) st.next xs with
          | some (.aN v none none (some aF)) =>
            dc call os ({ idx := j, o := o, v := v, c := .new st.next aF, nx := st.next.succ } :: recs) base (dh fr o.dst v) { heap := st.heap.put (some aF) st.next, next := st.next.succ }
          | _ => none
        | .aN => match cP call o.k xs st with
          | some (v, st') => dc call os ({ idx := j, o := o, v := v, c := .aN base st'.heap, nx := st'.next } :: recs) st'.heap (dh fr o.dst v) st'
          | none => none
        | _ => match o.k.run (fun _ => none) .h xs with
          | some (.val v) => dc call os ({ idx := j, o := o, v := v, c := .pure, nx := st.next } :: recs) base (dh fr o.dst v) st
          | _ => match o.k.run (fun b => (snap o.bL base recs).get b) .h xs with
            | some (.val v) => match jG o.bL o.k xs v [] recs with
              | true => dc call os ({ idx := j, o := o, v := v, c := .pure, nx := st.next } :: recs) base (dh fr o.dst v) st
              | false => none
            | _ => none
    | none => none
def aQ (call : ai) (ih : AC -> Fr -> St -> Option (mD × Fr × St)) : AC -> Fr -> St -> Option (mD × Fr × St)
  | .skip, fr, st => some (.normal, fr, st)
  | .region ops, fr, st => match jy call ops fr st with
    | some (fr, st) => some (.normal, fr, st)
    | none => none
  | .draw ops, fr, st => match dc call ops [] st.heap fr st with
    | some (fr, st) => some (.normal, fr, st)
    | none => none
  | .seq a b, fr, st => match ih a fr st with
    | some (.normal, fr, st) => ih b fr st
    | r => r
  | .cond x a b, fr, st => match vn fr x with
    | some (.bool true) => ih a fr st
    | some (.bool false) => ih b fr st
    | _ => none
  | .block id a, fr, st => match ih a fr st with
    | some (.exit pK, fr, st) => match Nat.beq pK id with
      | true => some (.normal, fr, st)
      | false => some (.exit pK, fr, st)
    | r => r
  | .loop a, fr, st => match ih a fr st with
    | some (.normal, fr, st) => ih (.loop a) fr st
    | r => r
  | .exit id, fr, st => some (.exit id, fr, st)
  | .ret, fr, st => some (.ret, fr, st)
def exec (call : ai) : Nat -> AC -> Fr -> St -> Option (mD × Fr × St)
  | 0 => fun _ _ _ => none
  | n + 1 => aQ call (exec call n)
def params : Nat -> List AV -> Fr -> Fr
  | _, [], fr => fr
  | i, v :: vs, fr => params (i + 1) vs (fr.put (some v) (key i))
def fC (H : Pos -> Option AB) (fr : Fr) : List Gn -> Option (List AV)
  | [] => some []
  | .tmp p :: rs => match fr.get p with
    | some v => match fC H fr rs with
      | some vs => some (v :: vs)
      | none => none
    | none => none
  | .cell p n :: rs => match fr.get p with
    | some q => match (aE.load n).run H .h [q] with
      | some (.val v) => match fC H fr rs with
        | some vs => some (v :: vs)
        | none => none
      | _ => none
    | none => none
def sO : List AV -> AV
  | [v] => v
  | vs => .tuple vs
abbrev fy := FuncId -> Option (List AV -> St -> Option (AV × St))
def mE (O : fy) (G : T aK) (m : Nat) : Nat -> ai
  | 0 => fun _ _ _ => none
  | d + 1 => fun f args st => match O f with
    | some s => s args st
    | none => match G.get (key f) with
      | some F => match Nat.beq args.length F.nparams with
        | true => match exec (mE O G m d) m F.code (params 0 args .e) st with
          | some (.normal, fr, st') => match fC (fun b => st'.heap.get b) fr F.results with
            | some vs => some (sO vs, st')
            | none => none
          | some (.ret, fr, st') => match fC (fun b => st'.heap.get b) fr F.results with
            | some vs => some (sO vs, st')
            | none => none
          | _ => none
        | false => none
      | none => none
end Go.Ai
end
section
namespace Go.Ai
inductive TK where
  | bool
  | int (k : IntKind)
  | string
  | ptr (elem : Nat)
  | slice (elem : Nat)
  | array (n elem : Nat)
  | map (k e : Nat)
  | struct (fs : List (Nat × Nat × Bool))
  | func
  | iface
  | other
  deriving Inhabited
structure TI where
  k : TK
  size : Nat
  bytes : Nat
  zero : Option (List AV)
  vN : Bool := false
  deriving Inhabited
def AR : Value -> Option AV
  | .bool b => some (.bool b)
  | .int k n => some (.int k n)
  | .string s => some (.str (s.data.toList.map UInt8.toNat))
  | .pointer none => some .cU
  | .slice none 0 0 => some .av
  | .map none => some .iy
  | .func (.func f) ⟨[]⟩ ⟨[]⟩ => some (.func f [] [])
  | .nilFunc => some .aq
  | .nilIface => some .qU
  | _ => none
def nU : List Value -> Option (List AV)
  | [] => some []
  | v :: vs => match AR v, nU vs with
    | some a, some as => some (a :: as)
    | _, _ => none
def Ij : Value -> Option AV
  | .agg cs => match nU cs.toList with
    | some l => some (.agg l)
    | none => none
  | v => AR v
def nw : Operand -> Option jW
  | .tmp t => some (.t (key t))
  | .const v => match Ij v with
    | some a => some (.c a)
    | none => none
  | .func f => some (.c (.func f [] []))
  | .global _ => none
def iW : List Operand -> Option (List jW)
  | [] => some []
  | x :: xs => match nw x, iW xs with
    | some a, some as => some (a :: as)
    | _, _ => none
def TK.isAgg : TK -> Bool
  | .struct _ => true
  | .array _ _ => true
  | _ => false
abbrev TT := T TI
def sP (tt : TT) (t : Nat) : Option fI := match tt.get (key t) with
  | some ti => match ti.k with
    | .bool => some .bool
    | .int _ => some .num
    | .string => some .num
    | .ptr _ => some .ptr
    | .slice _ => some .slice
    | .map _ _ => some .map
    | .func => some .func
    | .iface => some .iface
    | .struct fs => match ti.vN, fields fs with
      | true, some l => some (.struct l)
      | _, _ => none
    | _ => none
  | none => none
where
  fields : List (Nat × Nat × Bool) -> Option (List (Nat × PK))
    | [] => some []
    | (off, t, named) :: fs => match named, tt.get (key t), fields fs with
      | true, some ti, some l => match ti.k with
        | .bool => some ((off, .b) :: l)
        | .int _ => some ((off, .i) :: l)
        | .string => some ((off, .s) :: l)
        | _ => none
      | _, _, _ => none
def sQ (ti : TI) : Option Nat := match ti.k.isAgg with
  | true => some ti.size
  | false => none
def sR : Option Operand -> List Operand
  | some x => [x]
  | none => []
def fS (tt : TT) : Op -> Option (aE × List jW × N3)
  | .move x => match nw x with
    | some a => some (.move, [a], .pure)
    | none => none
  | .assign x => match nw x with
    | some a => some (.move, [a], .pure)
    | none => none
  | .pick c a b => match iW [c, a, b] with
    | some l => some (.pick, l, .pure)
    | none => none
  | .alloc t => match tt.get (key t) with
    | some ti => match ti.zero with
      | some z => some (.alloc z, [], .new)
      | none => none
    | none => none
  | .box _ x => match nw x with
    | some a => some (.box, [a], .new)
    | none => none
  | .build t ps => match tt.get (key t), iW (ps.toList.map (·.2)) with
    | some ti, some l => match ti.k, ti.zero with
      | .struct fs, some z => match places tt fs (ps.toList.map (·.1)), Kv tt fs with
        | some p, true => some (.build z p, l, .pure)
        | _, _ => none
      | .array _ e, some z => match tt.get (key e) with
        | some te => some (.build z (ps.toList.map fun x => (x.1 * te.size, te.size)), l, .pure)
        | none => none
      | _, _ => none
    | _, _ => none
  | .buildSlice t len ps => match tt.get (key t), iW (ps.toList.map (·.2)) with
    | some ti, some l => match ti.k with
      | .slice e => match tt.get (key e) with
        | some te => match te.zero, Nat.ble (len * te.size) 16777216 with
          | some z, true => some (.buildSlice te.size len z (ps.toList.map (·.1)), l, .new)
          | _, _ => none
        | none => none
      | _ => none
    | _, _ => none
  | .load t a => match tt.get (key t), nw a with
    | some ti, some a => some (.load (sQ ti), [a], .read)
    | _, _ => none
  | .store t a x => match tt.get (key t), iW [a, x] with
    | some ti, some l => some (.store ti.size, l, .aN)
    | _, _ => none
  | .nilCheck x => match nw x with
    | some a => some (.nilCheck, [a], .pure)
    | none => none
  | .binOp op t x y _ => match sP tt t, iW [x, y] with
    | some q, some l => some (.bin op q, l, .pure)
    | none, some l => match op with
      | .eql => none
      | .neq => none
      | _ => some (.bin op .num, l, .pure)
    | _, _ => none
  | .unOp op _ x => match nw x with
    | some a => some (.un op, [a], .pure)
    | none => none
  | .convert src dst x => match tt.get (key src), tt.get (key dst), nw x with
    | some s, some d, some a => match s.k, d.k with
      | .int _, .int k => some (.conv (.int k), [a], .pure)
      | .string, .string => some (.conv .same, [a], .pure)
      | .string, .slice e => match tt.get (key e) with
        | some te => match te.k with
          | .int .u8 => some (.conv .bytes, [a], .new)
          | _ => none
        | none => none
      | .slice e, .string => match tt.get (key e) with
        | some te => match te.k with
          | .int .u8 => some (.conv .ofBytes, [a], .read)
          | _ => none
        | none => none
      | _, _ => none
    | _, _, _ => none
  | .makeInterface t x => match tt.get (key t), nw x with
    | some ti, some a => match ti.k with
      | .iface => none
      | .other => none
      | _ => some (.mkIface t, [a], .pure)
    | _, _ => none
  | .makeFunc fn first captured => match fn, iW (first.toList ++ captured.toList) with
    | .func f, some l => some (.mkFunc f first.size, l, .pure)
    | _, _ => none
  | .makeMap t r => match tt.get (key t) with
    | some ti => match ti.k, r with
      | .map _ _, none => some (.mkMap, [], .new)
      | .map _ _, some (.const (.int _ _)) => some (.mkMap, [], .new)
      | _, _ => none
    | none => none
  | .makeSlice t l c => match tt.get (key t), iW [l, c] with
    | some ti, some xs => match ti.k with
      | .slice e => match tt.get (key e) with
        | some te => match te.zero with
          | some z => some (.mkSlice te.size te.bytes z, xs, .new)
          | none => none
        | none => none
      | _ => none
    | _, _ => none
  | .slice t x lo hi mx => match tt.get (key t), iW ([x] ++ sR lo ++ sR hi ++ sR mx) with
    | some ti, some xs => match ti.k with
      | .string => match mx with
        | none => some (.sliceS lo.isSome hi.isSome, xs, .pure)
        | some _ => none
      | .slice e => match tt.get (key e) with
        | some te => some (.sliceL te.size lo.isSome hi.isSome mx.isSome, xs, .pure)
        | none => none
      | _ => none
    | _, _ => none
  | .fieldAddr t x f => match tt.get (key t), nw x with
    | some ti, some a => match ti.k with
      | .struct fs => match nth fs f with
        | some (off, ft, _) => match tt.get (key ft) with
          | some fi => match Nat.beq fi.size 0 with
            | false => some (.fieldA off, [a], .pure)
            | true => none
          | none => none
        | none => none
      | _ => none
    | _, _ => none
  | .field t x f => match tt.get (key t), nw x with
    | some ti, some a => match ti.k with
      | .struct fs => match nth fs f with
        | some (off, ft, _) => match tt.get (key ft) with
          | some fi => some (.field off (sQ fi), [a], .pure)
          | none => none
        | none => none
      | _ => none
    | _, _ => none
  | .indexAddr t x ix => match tt.get (key t), iW [x, ix] with
    | some ti, some l => match ti.k with
      | .slice e => match tt.get (key e) with
        | some te => some (.idxA te.size none, l, .pure)
        | none => none
      | .array n e => match tt.get (key e) with
        | some te => some (.idxA te.size (some n), l, .pure)
        | none => none
      | _ => none
    | _, _ => none
  | .index t x ix => match tt.get (key t), iW [x, ix] with
    | some ti, some l => match ti.k with
      | .string => some (.idxS, l, .pure)
      | _ => none
    | _, _ => none
  | .lookup t x ix ok => match tt.get (key t), iW [x, ix] with
    | some ti, some l => match ti.k with
      | .map k e => match tt.get (key k), tt.get (key e) with
        | some tk, some te => match tk.k, te.zero with
          | .int _, some z => some (.lookup .i (zS te z) ok, l, .read)
          | .string, some z => some (.lookup .s (zS te z) ok, l, .read)
          | .bool, some z => some (.lookup .b (zS te z) ok, l, .read)
          | _, _ => none
        | _, _ => none
      | _ => none
    | _, _ => none
  | .mapUpdate t m k v => O0 tt t m k v
  | .insert t m k v => O0 tt t m k v
  | .range t x => match tt.get (key t), nw x with
    | some ti, some a => match ti.k with
      | .string => some (.rangeS, [a], .new)
      | _ => none
    | _, _ => none
  | .next it isString => match isString, nw it with
    | true, some a => some (.nextS, [a], .aN)
    | _, _ => none
  | .extract x i => match nw x with
    | some a => some (.extract i, [a], .pure)
    | none => none
  | .call c => match iW c.args.toList with
    | none => none
    | some xs => match c.callee with
      | .value (.func f) => some (.callF f, xs, .aN)
      | .value x => match nw x with
        | some a => some (.callV, a :: xs, .aN)
        | none => none
      | .invoke _ _ => none
      | .builtin b => match b with
        | .len => match c.argTypes.toList, xs with
          | t :: _, [_] => match tt.get (key t) with
            | some ti => match ti.k with
              | .string => some (.lenB .s, xs, .pure)
              | .slice _ => some (.lenB .l, xs, .pure)
              | .map _ _ => some (.lenB .m, xs, .read)
              | _ => none
            | none => none
          | _, _ => none
        | .append => match c.argTypes.toList with
          | t :: t2 :: _ => match tt.get (key t), tt.get (key t2) with
            | some ti, some Gp => match ti.k, Gp.k with
              | _, .int _ => none
              | .slice e, _ => match tt.get (key e) with
                | some te => match te.zero with
                  | some _ => some (.append te.size te.bytes, xs, .aN)
                  | none => none
                | none => none
              | _, _ => none
            | _, _ => none
          | _ => none
        | .copy => match c.argTypes.toList with
          | t :: _ => match tt.get (key t) with
            | some ti => match ti.k with
              | .slice e => match tt.get (key e) with
                | some te => some (.copyB te.size, xs, .aN)
                | none => none
              | _ => none
            | none => none
          | _ => none
        | .min => match xs with
          | [_, _] => some (.minB, xs, .pure)
          | _ => none
        | .max => match xs with
          | [_, _] => some (.maxB, xs, .pure)
          | _ => none
        | .clear => match c.argTypes.toList with
          | t :: _ => match tt.get (key t) with
            | some ti => match ti.k with
              | .slice e => match tt.get (key e) with
                | some te => match te.zero with
                  | some z => some (.clearS te.size z, xs, .aN)
                  | none => none
                | none => none
              | _ => none
            | none => none
          | _ => none
        | _ => none
  | _ => none
where
  Kv (tt : TT) : List (Nat × Nat × Bool) -> Bool
    | [] => true
    | (_, t, _) :: l => match tt.get (key t) with
      | some _ => Kv tt l
      | none => false
  places (tt : TT) (fs : List (Nat × Nat × Bool)) : List Nat -> Option (List (Nat × Nat))
    | [] => some []
    | i :: is => match nth fs i, places tt fs is with
      | some (off, t, _), some l => match tt.get (key t) with
        | some ti => some ((off, ti.size) :: l)
        | none => none
      | _, _ => none
  zS (te : TI) (z : List AV) : AV := match te.k.isAgg with
    | true => .agg z
    | false => match z with
      | [v] => v
      | _ => .agg z
  O0 (tt : TT) (t : Nat) (m k v : Operand) : Option (aE × List jW × N3) :=
    match tt.get (key t), iW [m, k, v] with
    | some ti, some l => match ti.k with
      | .map kt _ => match tt.get (key kt) with
        | some tk => match tk.k with
          | .int _ => some (.mapSet .i, l, .aN)
          | .string => some (.mapSet .s, l, .aN)
          | .bool => some (.mapSet .b, l, .aN)
          | _ => none
        | none => none
      | _ => none
    | _, _ => none
def Gq (ops : Array Oper) : Option (Nat × Bool) -> Option (Option (Pos × Bool))
  | none => some none
  | some (j, b) => match ops[j]? with
    | some o => match o.dst with
      | some d => some (some (key d, b))
      | none => none
    | none => none
def KL : List Oper -> List Nat -> List Nat
  | [], acc => acc
  | o :: os, acc => KL os (acc ++ [o.after.toList.foldl (fun s e => match Region.binds .any e with
      | true => s ||| 2 ^ e.on ||| (nth acc e.on).getD 0
      | false => s) 0])
def sS (tt : TT) (nt : Nat) (ops : Array Oper) : List Oper -> List Nat -> Option (List bI)
  | [], _ => some []
  | o :: os, bs => match Gq ops o.guard, sS tt nt ops os bs.tail, Va nt o.dst with
    | some g, some l, true => match fS tt o.op with
      | some (k, xs, cls) => some ({ dst := o.dst.map key, k := k, xs := xs, guard := g, cls := cls, bL := bs.headD 0 } :: l)
      | none => some ({ dst := o.dst.map key, k := .bad, xs := [], guard := g, cls := .aN, bL := bs.headD 0 } :: l)
    | _, _, _ => none
where
  Va (nt : Nat) : Option Tmp -> Bool
    | none => true
    | some d => Nat.blt d nt
def bI.looks (o : bI) : List Pos :=
  (match o.guard with | some (p, _) => [p] | none => []) ++ o.xs.filterMap fun | .t p => some p | .c _ => none
def zT (p : Pos) : List Pos -> Bool
  | [] => false
  | q :: l => Pos.beq p q || zT p l
def CV (a b : bI) : Bool :=
  (match a.dst with
   | some d => !zT d b.looks && (match b.dst with | some d' => !Pos.beq d d' | none => true)
   | none => true) &&
  (match b.dst with
   | some d => !zT d a.looks
   | none => true)
def rK : List (Nat × bI) -> List (Nat × bI) -> List (Nat × bI)
  | [], held => held
  | (i, o) :: l, held => match o.cls with
    | .aN => held.filter (fun x => o.bL.testBit x.1) ++ (i, o) :: rK l (held.filter fun x => !o.bL.testBit x.1)
    | _ => rK l (held ++ [(i, o)])
def xe : Nat -> List bI -> List (Nat × bI)
  | _, [] => []
  | i, o :: os => (i, o) :: xe (i + 1) os
def zU (m : Nat) : Nat -> List (Nat × bI) -> Bool
  | seen, [] => Nat.beq seen (2 ^ m - 1)
  | seen, (i, o) :: l => Nat.blt i m && !seen.testBit i && Nat.beq (o.bL &&& seen) o.bL && (match o.cls with | .aN => Nat.beq o.bL seen | _ => true) &&
    (l.all fun x => x.2.bL.testBit i || CV o x.2) && zU m (seen ||| 2 ^ i) l
def uW (tt : TT) (nt : Nat) : Code -> Option AC
  | .skip => some .skip
  | .region _ ops draw => match sS tt nt ops ops.toList (KL ops.toList []) with
    | none => none
    | some l => match draw with
      | false => some (.region l)
      | true => match zU l.length 0 (rK (xe 0 l) []) with
        | true => some (.draw (rK (xe 0 l) []))
        | false => none
  | .seq a b => match uW tt nt a, uW tt nt b with
    | some a, some b => some (.seq a b)
    | _, _ => none
  | .cond c a b => match nw c, uW tt nt a, uW tt nt b with
    | some c, some a, some b => some (.cond c a b)
    | _, _, _ => none
  | .block id a => match uW tt nt a with
    | some a => some (.block id a)
    | none => none
  | .loop a => match uW tt nt a with
    | some a => some (.loop a)
    | none => none
  | .exit id => some (.exit id)
  | .ret => some .ret
  | _ => none
def p6 (tt : TT) : List ResultVar -> Option (List Gn)
  | [] => some []
  | .tmp t :: rs => match p6 tt rs with
    | some l => some (.tmp (key t) :: l)
    | none => none
  | .cell a t :: rs => match tt.get (key t), p6 tt rs with
    | some ti, some l => some (.cell (key a) (sQ ti) :: l)
    | _, _ => none
def ak (tt : TT) (f : Func) : Option aK := match f.body with
  | some c => match uW tt f.ntmps c, p6 tt f.results.toList, Nat.ble (f.params.size + f.nfree) f.ntmps with
    | some a, some rs, true => some { code := a, nparams := f.params.size + f.nfree, results := rs }
    | _, _, _ => none
  | none => none
end Go.Ai
end
section
namespace Go.Ai
structure Loc where
  aF : Nat
  base : Nat
  size : Nat
abbrev Cells := Addr -> Option Value
inductive ax (ρ : Pos -> Loc) (n : Nat) (C : Cells) : AV -> Value -> Prop where
  | bool (b : Bool) : ax ρ n C (.bool b) (.bool b)
  | int (k : IntKind) (i : Int) : ax ρ n C (.int k i) (.int k i)
  | str (s : List Nat) (bs : ByteArray) (h : bs.data.toList.map UInt8.toNat = s) : ax ρ n C (.str s) (.string bs)
  | cU : ax ρ n C .cU (.pointer none)
  | ptr (b : Pos) (off : Nat) (h : b.toNat < n) : ax ρ n C (.ptr b off) (.pointer (some ⟨(ρ b).aF, (ρ b).base + off, none⟩))
  | fp (xs : List (List AV)) (i j es : Nat) (aF base : Nat) (cell : Nat -> Nat -> Value)
      (hl : ∀ (i : Nat) (cs : List AV), xs[i]? = some cs -> cs.length = es)
      (hc : ∀ (i j : Nat) (cs : List AV) (v : AV), xs[i]? = some cs -> cs[j]? = some v -> C ⟨aF, base + i * es + j, none⟩ = some (cell i j))
      (hv : ∀ (i j : Nat) (cs : List AV) (v : AV), xs[i]? = some cs -> cs[j]? = some v -> ax ρ n C v (cell i j)) :
      ax ρ n C (.fp xs i j) (.pointer (some ⟨aF, base + i * es + j, none⟩))
  | av : ax ρ n C .av (.slice none 0 0)
  | slice (b : Pos) (off len : Nat) (cap : Option Nat) (es aU : Nat) (a : Addr) (hl : len <= aU) (hc : ∀ c, cap = some c -> c = aU)
      (ha : aU ≠ 0 -> b.toNat < n /\ a = ⟨(ρ b).aF, (ρ b).base + off, none⟩ /\ (ρ b).base + off + aU * es <= (ρ b).size)
      (hk : cap = none -> b.toNat < n) :
      ax ρ n C (.slice b off len cap es) (.slice (some a) len aU)
  | fl (xs : List (List AV)) (es aU : Nat) (a : Addr) (cell : Nat -> Nat -> Value) (hl : xs.length <= aU)
      (hs : xs ≠ [] -> a.spot = none)
      (gG : ∀ (i : Nat) (cs : List AV), xs[i]? = some cs -> cs.length = es)
      (hc : ∀ (i j : Nat) (cs : List AV) (v : AV), xs[i]? = some cs -> cs[j]? = some v -> C ⟨a.block, a.off + i * es + j, none⟩ = some (cell i j))
      (hv : ∀ (i j : Nat) (cs : List AV) (v : AV), xs[i]? = some cs -> cs[j]? = some v -> ax ρ n C v (cell i j)) :
      ax ρ n C (.fl xs es) (.slice (some a) xs.length aU)
  | iy : ax ρ n C .iy (.map none)
  | map (b : Pos) (h : b.toNat < n) : ax ρ n C (.map b) (.map (some (ρ b).aF))
  | func (f : FuncId) (x y : List AV) (x' y' : Array Value) (hx : x.length = x'.size) (hy : y.length = y'.size)
      (mZ : ∀ (i : Nat) (v : AV) (v' : Value), x[i]? = some v -> x'[i]? = some v' -> ax ρ n C v v') (sx : ∀ (i : Nat) (v : AV) (v' : Value), y[i]? = some v -> y'[i]? = some v' -> ax ρ n C v v') :
      ax ρ n C (.func f x y) (.func (.func f) x' y')
  | aq : ax ρ n C .aq .nilFunc
  | qU : ax ρ n C .qU .nilIface
  | iface (t : TypeId) (v : AV) (x : Value) (h : ax ρ n C v x) : ax ρ n C (.iface t v) (.iface t x)
  | agg (l : List AV) (cs : Array Value) (hl : l.length = cs.size) (h : ∀ (i : Nat) (v : AV) (v' : Value), l[i]? = some v -> cs[i]? = some v' -> ax ρ n C v v') :
      ax ρ n C (.agg l) (.agg cs)
  | tuple (l : List AV) (cs : Array Value) (hl : l.length = cs.size) (h : ∀ (i : Nat) (v : AV) (v' : Value), l[i]? = some v -> cs[i]? = some v' -> ax ρ n C v v') :
      ax ρ n C (.tuple l) (.tuple cs)
theorem ax.mono {ρ ρ' : Pos -> Loc} {n n' : Nat} {C : Cells} {v : AV} {x : Value} (h : ax ρ n C v x)
    (aY : ∀ b : Pos, b.toNat < n -> ρ' b = ρ b) (hn : n <= n') : ax ρ' n' C v x := by
  induction h with
  | bool b => exact .bool b
  | int k i => exact .int k i
  | str s bs h => exact .str s bs h
  | cU => exact .cU
  | ptr b off h => rw [<- aY b h]; exact .ptr b off (by omega)
  | fp xs i j es aF base cell hl hc _ ih => exact .fp xs i j es aF base cell hl hc ih
  | av => exact .av
  | slice b off len cap es aU a hl hc ha hk =>
    refine .slice b off len cap es aU a hl hc (fun h0 => ?_) (fun h0 => by have := hk h0; omega)
    obtain ⟨h1, h2, h3⟩ := ha h0
    rw [aY b h1]; exact ⟨by omega, h2, h3⟩
  | fl xs es aU a cell hl hs gG hc _ ih => exact .fl xs es aU a cell hl hs gG hc ih
  | iy => exact .iy
  | map b h => rw [<- aY b h]; exact .map b (by omega)
  | func f x y x' y' hx hy _ _ ZY ZZ => exact .func f x y x' y' hx hy ZY ZZ
  | aq => exact .aq
  | qU => exact .qU
  | iface t v x _ ih => exact .iface t v x ih
  | agg l cs hl _ ih => exact .agg l cs hl ih
  | tuple l cs hl _ ih => exact .tuple l cs hl ih
def ay (ρ : Pos -> Loc) (n : Nat) (C : Cells) (l : List AV) (xs : List Value) : Prop :=
  l.length = xs.length /\ ∀ (i : Nat) (v : AV) (x : Value), l[i]? = some v -> xs[i]? = some x -> ax ρ n C v x
section
variable {ρ ρ' : Pos -> Loc} {n n' : Nat} {C : Cells}
theorem ay.mono {l : List AV} {xs : List Value} (h : ay ρ n C l xs) (aY : ∀ b : Pos, b.toNat < n -> ρ' b = ρ b) (hn : n <= n') :
    ay ρ' n' C l xs := ⟨h.1, fun i v x hv hx => (h.2 i v x hv hx).mono aY hn⟩
theorem ay.nil : ay ρ n C [] [] := ⟨rfl, fun _ _ _ h => by simp at h⟩
theorem ay.cons {v : AV} {x : Value} {l : List AV} {xs : List Value} (h : ax ρ n C v x) (hs : ay ρ n C l xs) : ay ρ n C (v :: l) (x :: xs) :=
  ⟨by simp [hs.1], fun i u y hu hy => by
    cases i with
    | zero => simp at hu hy; subst hu; subst hy; exact h
    | succ i => simp at hu hy; exact hs.2 i u y hu hy⟩
theorem ay.cons_inv {v : AV} {l : List AV} {xs : List Value} (h : ay ρ n C (v :: l) xs) : ∃ x sy, xs = x :: sy /\ ax ρ n C v x /\ ay ρ n C l sy := by
  cases xs with
  | nil => have := h.1; simp at this
  | cons x sy =>
    exact ⟨x, sy, rfl, h.2 0 v x rfl rfl, by have := h.1; simpa using this, fun i u y hu hy => h.2 (i + 1) u y (by simpa using hu) (by simpa using hy)⟩
theorem ay.o4 {xs : List Value} (h : ay ρ n C [] xs) : xs = [] := by
  have := h.1; cases xs with
  | nil => rfl
  | cons a b => simp at this
theorem ay.append {l m : List AV} {xs ys : List Value} (h : ay ρ n C l xs) (k : ay ρ n C m ys) : ay ρ n C (l ++ m) (xs ++ ys) := by
  refine ⟨by simp [h.1, k.1], fun i v x hv hx => ?_⟩
  rcases Nat.lt_or_ge i l.length with hi | hi
  . rw [List.getElem?_append_left hi] at hv
    rw [List.getElem?_append_left (by rw [<- h.1]; exact hi)] at hx
    exact h.2 i v x hv hx
  . rw [List.getElem?_append_right hi] at hv
    rw [List.getElem?_append_right (by rw [<- h.1]; exact hi), <- h.1] at hx
    exact k.2 _ v x hv hx
theorem ay.take {l : List AV} {xs : List Value} (h : ay ρ n C l xs) (m : Nat) : ay ρ n C (l.take m) (xs.take m) := by
  refine ⟨by simp [h.1], fun i v x hv hx => ?_⟩
  rw [List.getElem?_take] at hv hx
  split at hv
  . rename_i hi; rw [if_pos hi] at hx; exact h.2 i v x hv hx
  . cases hv
theorem ay.drop {l : List AV} {xs : List Value} (h : ay ρ n C l xs) (m : Nat) : ay ρ n C (l.drop m) (xs.drop m) := by
  refine ⟨by simp [h.1], fun i v x hv hx => ?_⟩
  rw [List.getElem?_drop] at hv hx
  exact h.2 _ v x hv hx
theorem ay.bg {l vs : List AV} {xs ys : List Value} (h : ay ρ n C l xs) (k : ay ρ n C vs ys) (i : Nat) :
    ay ρ n C (Go.Ai.bg l i vs) (Go.Ai.bg xs i ys) := by
  unfold Go.Ai.bg
  rw [k.1]
  exact (h.take i).append (k.append (h.drop _))
theorem ay.get {l : List AV} {xs : List Value} (h : ay ρ n C l xs) {i : Nat} {v : AV} (hv : l[i]? = some v) : ∃ x, xs[i]? = some x /\ ax ρ n C v x := by
  have hi : i < xs.length := by rw [<- h.1]; exact (List.getElem?_eq_some_iff.1 hv).1
  exact ⟨xs[i], List.getElem?_eq_getElem hi, h.2 i v _ hv (List.getElem?_eq_getElem hi)⟩
theorem ax.zV {l : List AV} {cs : Array Value} (h : ay ρ n C l cs.toList) : ax ρ n C (.agg l) (.agg cs) :=
  .agg l cs (by simpa using h.1) fun i v x hv hx => h.2 i v x hv (by simpa using hx)
theorem ax.p7 {l : List AV} {cs : Array Value} (h : ay ρ n C l cs.toList) : ax ρ n C (.tuple l) (.tuple cs) :=
  .tuple l cs (by simpa using h.1) fun i v x hv hx => h.2 i v x hv (by simpa using hx)
theorem ax.ux {l : List AV} {x : Value} (h : ax ρ n C (.agg l) x) : ∃ cs, x = .agg cs /\ ay ρ n C l cs.toList := by
  cases h with | agg _ cs hl h => exact ⟨cs, rfl, by simpa using hl, fun i v x hv hx => h i v x hv (by simpa using hx)⟩
theorem ax.I0 {l : List AV} {x : Value} (h : ax ρ n C (.tuple l) x) : ∃ cs, x = .tuple cs /\ ay ρ n C l cs.toList := by
  cases h with | tuple _ cs hl h => exact ⟨cs, rfl, by simpa using hl, fun i v x hv hx => h i v x hv (by simpa using hx)⟩
theorem ax.AS {f : FuncId} {a b : List AV} {x : Value} (h : ax ρ n C (.func f a b) x) :
    ∃ a' b', x = .func (.func f) a' b' /\ ay ρ n C a a'.toList /\ ay ρ n C b b'.toList := by
  cases h with
  | func _ _ _ a' b' hx hy h1 h2 => exact ⟨a', b', rfl, ⟨by simpa using hx, fun i v x hv hx => h1 i v x hv (by simpa using hx)⟩, ⟨by simpa using hy, fun i v x hv hx => h2 i v x hv (by simpa using hx)⟩⟩
theorem ax.cells {v : AV} {x : Value} (h : ax ρ n C v x) : ay ρ n C v.cells x.cells.toList := by
  by_cases hv : ∃ l, v = .agg l
  . obtain ⟨l, rfl⟩ := hv
    obtain ⟨cs, rfl, hs⟩ := h.ux
    exact hs
  . have h1 : v.cells = [v] := by cases v <;> first | rfl | exact absurd ⟨_, rfl⟩ hv
    have h2 : x.cells = #[x] := by cases h <;> first | rfl | exact absurd ⟨_, rfl⟩ hv
    rw [h1, h2]; exact ay.cons h ay.nil
def mh (ρ : Pos -> Loc) (n : Nat) (C : Cells) (L : Loc) (w : World) : AB -> Prop
  | .cells cs fz => ∃ (c : Array Value) (e : TypeId) (fr : Nat × Nat), w.heap[L.aF]? = some (.cells c e fr) /\ c.size = L.size /\ L.base + cs.length <= c.size /\
      ay ρ n C cs ((c.toList.drop L.base).take cs.length) /\ ∀ i, fz <= i -> L.base + i < c.size -> ¬ (fr.1 <= L.base + i /\ L.base + i < fr.2)
  | .map es clock => ∃ (bR : Array MapEntry), w.heap[L.aF]? = some (.map bR clock) /\ es.length = bR.size /\
      ∀ (i : Nat) (e : AV × AV × Nat) (e' : MapEntry), es[i]? = some e -> bR[i]? = some e' -> ax ρ n C e.1 e'.key /\ ax ρ n C e.2.1 e'.val /\ e.2.2 = e'.born
  | .j8 s pos => ∃ (bs : ByteArray), w.heap[L.aF]? = some (.stringIter bs pos) /\ bs.data.toList.map UInt8.toNat = s /\ L.base = 0
theorem mh.mono {L : Loc} {w : World} {x : AB} (h : mh ρ n C L w x) (aY : ∀ b : Pos, b.toNat < n -> ρ' b = ρ b) (hn : n <= n') : mh ρ' n' C L w x := by
  cases x with
  | cells cs fz => obtain ⟨c, e, fr, h1, h2, h3, h4, h5⟩ := h; exact ⟨c, e, fr, h1, h2, h3, h4.mono aY hn, h5⟩
  | map es clock => obtain ⟨bR, h1, h2, h3⟩ := h; exact ⟨bR, h1, h2, fun i e e' he oJ => let ⟨a, b, c⟩ := h3 i e e' he oJ; ⟨a.mono aY hn, b.mono aY hn, c⟩⟩
  | j8 s pos => exact h
theorem mh.of_heap {L : Loc} {w w' : World} {x : AB} (h : mh ρ n C L w x) (hw : w'.heap[L.aF]? = w.heap[L.aF]?) : mh ρ n C L w' x := by
  cases x with
  | cells cs fz => obtain ⟨c, e, fr, h1, h2⟩ := h; exact ⟨c, e, fr, by rw [hw]; exact h1, h2⟩
  | map es clock => obtain ⟨bR, h1, h2⟩ := h; exact ⟨bR, by rw [hw]; exact h1, h2⟩
  | j8 s pos => obtain ⟨bs, h1, h2⟩ := h; exact ⟨bs, by rw [hw]; exact h1, h2⟩
end
structure cw (ρ : Pos -> Loc) (C : Cells) (st : St) (w : World) : Prop where
  live : ∀ b x, st.heap.get b = some x -> b.toNat < st.next.toNat /\ (ρ b).aF < w.heap.size /\ mh ρ st.next.toNat C (ρ b) w x
  inj : ∀ b b' x x', st.heap.get b = some x -> st.heap.get b' = some x' -> (ρ b).aF = (ρ b').aF -> b = b'
  fD : ∀ a v, C a = some v -> w.cell? a = some v /\ ∀ b x, st.heap.get b = some x -> (ρ b).aF ≠ a.block
structure ny (ρ : Pos -> Loc) (st : St) (w : World) (ρ' : Pos -> Loc) (st' : St) (w' : World) : Prop where
  os : w'.os = w.os
  tape : w'.tape = w.tape
  output : w'.output = w.output
  size : w.heap.size <= w'.heap.size
  block : ∀ k, k < w.heap.size -> (∀ b x, st.heap.get b = some x -> (ρ b).aF ≠ k) -> w'.heap[k]? = w.heap[k]?
  rV : ∀ b x, st'.heap.get b = some x -> (∃ b' x', st.heap.get b' = some x' /\ (ρ b').aF = (ρ' b).aF) \/ w.heap.size <= (ρ' b).aF
theorem ny.refl (ρ : Pos -> Loc) (st : St) (w : World) : ny ρ st w ρ st w := ⟨rfl, rfl, rfl, Nat.le_refl _, fun _ _ _ => rfl, fun b x h => .inl ⟨b, x, h, rfl⟩⟩
theorem ny.trans {ρ ig vo : Pos -> Loc} {st ct yG : St} {w w1 w2 : World} (h : ny ρ st w ig ct w1) (k : ny ig ct w1 vo yG w2) : ny ρ st w vo yG w2 where
  os := k.os.trans h.os
  tape := k.tape.trans h.tape
  output := k.output.trans h.output
  size := Nat.le_trans h.size k.size
  block q hq hn := by
    rw [k.block q (Nat.lt_of_lt_of_le hq h.size) fun b x hb e => ?_, h.block q hq hn]
    rcases h.rV b x hb with ⟨b', x', h1, h2⟩ | h1
    . exact hn b' x' h1 (h2.trans e)
    . rw [e] at h1; omega
  rV b x hb := by
    rcases k.rV b x hb with ⟨b', x', h1, h2⟩ | h1
    . rcases h.rV b' x' h1 with ⟨b'', x'', h3, h4⟩ | h3
      . exact .inl ⟨b'', x'', h3, h4.trans h2⟩
      . right; rw [<- h2]; exact h3
    . exact .inr (Nat.le_trans h.size h1)
def lC (ρ : Pos -> Loc) (n : Nat) (C : Cells) (fr : Fr) (tmps : Array Value) : Prop :=
  ∀ p v, fr.get p = some v -> ∃ x, tmps[p.toNat - 1]? = some x /\ ax ρ n C v x
theorem Pos.toNat_pos (p : Pos) : 0 < p.toNat := by
  induction p with
  | h => simp [Pos.toNat]
  | o p ih => simp [Pos.toNat]; exact ih
  | i p ih => simp [Pos.toNat]
theorem Pos.toNat_inj : ∀ {p q : Pos}, p.toNat = q.toNat -> p = q
  | .h, .h, _ => rfl
  | .h, .o q, hq => by have := q.toNat_pos; simp [Pos.toNat] at hq; omega
  | .h, .i q, hq => by have := q.toNat_pos; simp [Pos.toNat] at hq; omega
  | .o p, .h, hq => by have := p.toNat_pos; simp [Pos.toNat] at hq; omega
  | .o p, .o q, hq => by simp [Pos.toNat] at hq; rw [Pos.toNat_inj (p := p) (q := q) (by omega)]
  | .o p, .i q, hq => by simp [Pos.toNat] at hq; omega
  | .i p, .h, hq => by have := p.toNat_pos; simp [Pos.toNat] at hq; omega
  | .i p, .o q, hq => by simp [Pos.toNat] at hq; omega
  | .i p, .i q, hq => by simp [Pos.toNat] at hq; rw [Pos.toNat_inj (p := p) (q := q) (by omega)]
theorem Pos.aL (p : Pos) : p.succ.toNat = p.toNat + 1 := by
  induction p with
  | h => rfl
  | o p ih => simp [Pos.succ, Pos.toNat]
  | i p ih => simp [Pos.succ, Pos.toNat, ih]; omega
theorem Pos.AT : ∀ (f m : Nat), 0 < m -> m < 2 ^ (f + 1) -> (Pos.KK f m).toNat = m
  | 0, m, hp, hl => by
    simp at hl
    have : m = 1 := by omega
    subst this; rfl
  | f + 1, m, hp, hl => by
    unfold Pos.KK
    split
    . rename_i hb; have := Nat.le_of_ble_eq_true hb; have : m = 1 := by omega
      subst this; rfl
    . rename_i hb
      have h1 : 1 < m := by
        rcases Nat.lt_or_ge 1 m with hh | hh
        . exact hh
        . rw [Nat.ble_eq_true_of_le hh] at hb; cases hb
      have h2 : m / 2 < 2 ^ (f + 1) := by
        have : 2 ^ (f + 1 + 1) = 2 * 2 ^ (f + 1) := by rw [Nat.pow_succ]; omega
        omega
      split
      . rename_i he; have := Nat.eq_of_beq_eq_true he
        simp only [Pos.toNat]; rw [Pos.AT f _ (by omega) h2]; omega
      . rename_i he; have := Nat.ne_of_beq_eq_false he
        simp only [Pos.toNat]; rw [Pos.AT f _ (by omega) h2]; omega
theorem iG (n : Nat) : (key n).toNat = n + 1 := Pos.AT _ (n + 1) (by omega) Nat.lt_log2_self
theorem T.fO {α : Type} (p : Pos) : (T.e : T α).get p = none := by cases p <;> rfl
theorem T.fQ {α : Type} (x : Option α) (p : Pos) (t : T α) : (T.put x p t).get p = x := by
  induction p generalizing t with
  | h => cases t <;> rfl
  | o p ih => cases t <;> exact ih _
  | i p ih => cases t <;> exact ih _
theorem T.bT {α : Type} (x : Option α) {p q : Pos} (h : p ≠ q) (t : T α) : (T.put x p t).get q = t.get q := by
  induction p generalizing q t with
  | h => cases q with
    | h => exact absurd rfl h
    | o q => cases t <;> simp [T.put, T.get, T.fO]
    | i q => cases t <;> simp [T.put, T.get, T.fO]
  | o p ih => cases q with
    | h => cases t <;> simp [T.put, T.get]
    | o q => cases t with
      | e => simp only [T.put, T.get]; rw [ih (fun e => h (by rw [e])), T.fO]
      | n l v r => simp only [T.put, T.get]; exact ih (fun e => h (by rw [e])) l
    | i q => cases t <;> simp [T.put, T.get, T.fO]
  | i p ih => cases q with
    | h => cases t <;> simp [T.put, T.get]
    | o q => cases t <;> simp [T.put, T.get, T.fO]
    | i q => cases t with
      | e => simp only [T.put, T.get]; rw [ih (fun e => h (by rw [e])), T.fO]
      | n l v r => simp only [T.put, T.get]; exact ih (fun e => h (by rw [e])) r
theorem Pos.beq_eq : ∀ {p q : Pos}, p.beq q = true ↔ p = q
  | .h, .h => by simp [Pos.beq]
  | .h, .o q => by simp [Pos.beq]
  | .h, .i q => by simp [Pos.beq]
  | .o p, .h => by simp [Pos.beq]
  | .o p, .o q => by simp only [Pos.beq, Pos.o.injEq]; exact Pos.beq_eq
  | .o p, .i q => by simp [Pos.beq]
  | .i p, .h => by simp [Pos.beq]
  | .i p, .o q => by simp [Pos.beq]
  | .i p, .i q => by simp only [Pos.beq, Pos.i.injEq]; exact Pos.beq_eq
end Go.Ai
end
section
noncomputable section
namespace Go.Ai
section
variable {R : Type}
def xg {α : Type} (p : Pos) : T α -> Option α :=
  Pos.rec (motive := fun _ => T α -> Option α)
    (fun t => T.rec (motive := fun _ => Option α) none (fun _ v _ _ _ => v) t)
    (fun _ ih t => T.rec (motive := fun _ => Option α) none (fun l _ _ _ _ => ih l) t)
    (fun _ ih t => T.rec (motive := fun _ => Option α) none (fun _ _ r _ _ => ih r) t) p
def uy {α : Type} (x : Option α) (p : Pos) : T α -> (T α -> R) -> R :=
  Pos.rec (motive := fun _ => T α -> (T α -> R) -> R)
    (fun t k => T.rec (motive := fun _ => R) (k (.n .e x .e)) (fun l _ r _ _ => k (.n l x r)) t)
    (fun _ ih t k => T.rec (motive := fun _ => R) (ih .e fun l => k (.n l none .e)) (fun l v r _ _ => ih l fun l => k (.n l v r)) t)
    (fun _ ih t k => T.rec (motive := fun _ => R) (ih .e fun r => k (.n .e none r)) (fun l v r _ _ => ih r fun r => k (.n l v r)) t) p
def mS (n : Nat) (k : Nat -> R) : R := Nat.rec (motive := fun _ => R) (k 0) (fun m _ => k (Nat.succ m)) n
def Fh (n : Int) (k : Int -> R) : R := match n with
  | .ofNat m => mS m fun m => k (.ofNat m)
  | .negSucc m => mS m fun m => k (.negSucc m)
def I5 (b : Bool) (k : Bool -> R) : R := match b with
  | true => k true
  | false => k false
def vp {α : Type} (l : List α) : (List α -> R) -> R :=
  List.rec (motive := fun _ => (List α -> R) -> R) (fun k => k []) (fun a _ ih k => ih fun t => k (a :: t)) l
def AU (p : Pos) : (Pos -> R) -> R :=
  Pos.rec (motive := fun _ => (Pos -> R) -> R) (fun k => k .h) (fun _ ih k => ih fun p => k (.o p)) (fun _ ih k => ih fun p => k (.i p)) p
def KM (o : Option Nat) (k : Option Nat -> R) : R := match o with
  | none => k none
  | some n => mS n fun n => k (some n)
def CW (v : AV) (k : AV -> R) : R := match v with
  | .bool b => I5 b fun b => k (.bool b)
  | .int i n => Fh n fun n => k (.int i n)
  | .str s => vp s fun s => k (.str s)
  | .ptr b o => AU b fun b => mS o fun o => k (.ptr b o)
  | .slice b o l c es => AU b fun b => mS o fun o => mS l fun l => KM c fun c => k (.slice b o l c es)
  | .map b => AU b fun b => k (.map b)
  | .func f x y => vp x fun x => vp y fun y => k (.func f x y)
  | .agg l => vp l fun l => k (.agg l)
  | v => k v
def Ed (l : List AV) : (List AV -> R) -> R :=
  List.rec (motive := fun _ => (List AV -> R) -> R) (fun k => k []) (fun a _ ih k => CW a fun a => ih fun t => k (a :: t)) l
def oK (v : AV) (k : AV -> R) : R := match v with
  | .tuple l => Ed l fun l => k (.tuple l)
  | v => CW v k
def wR (x : AB) (k : AB -> R) : R := match x with
  | .cells cs fz => vp cs fun cs => mS fz fun fz => k (.cells cs fz)
  | .map es c => vp es fun es => mS c fun c => k (.map es c)
  | .j8 s p => mS p fun p => k (.j8 s p)
def Kw (p : Pos) : (Pos -> R) -> R :=
  Pos.rec (motive := fun _ => (Pos -> R) -> R) (fun k => k (.o .h)) (fun q _ k => k (.i q)) (fun _ ih k => ih fun p => k (.o p)) p
variable (z : R)
def Qf (fr : Fr) (x : jW) (k : AV -> R) : R := match x with
  | .t p => match xg p fr with
    | some v => k v
    | none => z
  | .c v => k v
def Ik (fr : Fr) (xs : List jW) : (List AV -> R) -> R :=
  List.rec (motive := fun _ => (List AV -> R) -> R) (fun k => k []) (fun x _ ih k => Qf z fr x fun v => ih fun vs => k (v :: vs)) xs
def wS (fr : Fr) (g : Option (Pos × Bool)) (yes no : R) : R := match g with
  | none => yes
  | some (p, want) => match xg p fr with
    | some (.bool b) => match b == want with
      | true => yes
      | false => no
    | some (.tuple _) => no
    | _ => z
def jH (fr : Fr) (d : Option Pos) (v : AV) (k : Fr -> R) : R := match d with
  | some p => uy (some v) p fr k
  | none => k fr
def Z0 (o : Option Pos) (h : T AB) (k : T AB -> R) : R := match o with
  | some b => uy none b h k
  | none => k h
def SA (o : Option (Pos × AB)) (h : T AB) (k : T AB -> R) : R := match o with
  | some (b, x) => wR x fun x => uy (some x) b h k
  | none => k h
abbrev wz (R : Type) := FuncId -> List AV -> St -> (AV -> St -> R) -> R
def SB (st : St) (del : Option Pos) (set : Option (Pos × AB)) (new : Option AB) (k : St -> R) : R :=
  Z0 del st.heap fun h => SA set h fun h => match new with
    | some x => wR x fun x => uy (some x) st.next h fun h => Kw st.next fun n => k { heap := h, next := n }
    | none => k { heap := h, next := st.next }
def Ee (call : wz R) (op : aE) (xs : List AV) (st : St) (k : AV -> St -> R) : R :=
  match op.run (fun b => xg b st.heap) st.next xs with
  | some (.val v) => oK v fun v => k v st
  | some (.aN v del set new) => oK v fun v => SB st del set new fun st => k v st
  | some (.call f args) => vp args fun args => call f args st k
  | none => z
def O1 (call : wz R) (ops : List bI) : Fr -> St -> (Fr -> St -> R) -> R :=
  List.rec (motive := fun _ => Fr -> St -> (Fr -> St -> R) -> R) (fun fr st k => k fr st)
    (fun o _ ih fr st k => wS z fr o.guard
      (Ik z fr o.xs fun xs => Ee z call o.k xs st fun v st => jH fr o.dst v fun fr => ih fr st k)
      (jH fr o.dst .undef fun fr => ih fr st k)) ops
def AW (bL : Nat) (h : T AB) (recs : List Rec) : (T AB -> R) -> R :=
  List.rec (motive := fun _ => (T AB -> R) -> R) (fun k => k h)
    (fun r _ ih k => match r.c with
      | .new id aF => match bL.testBit r.idx with
        | true => ih fun h' => uy (some aF) id h' k
        | false => ih k
      | .aN _ _ => k h
      | .pure => ih k) recs
def KN (h : T AB) (l : List (Pos × AB)) : (T AB -> R) -> R :=
  List.rec (motive := fun _ => (T AB -> R) -> R) (fun k => k h) (fun x _ ih k => ih fun h' => uy (some x.2) x.1 h' k) l
def KO (op : aE) (xs : List AV) (v : AV) (h : T AB) : Bool :=
  match op.run (fun b => xg b h) .h xs with
  | some (.val u) => gL u v
  | _ => false
def nV (bL : Nat) (op : aE) (xs : List AV) (v : AV) : List (Pos × AB) -> List Rec -> Bool
  | _, [] => true
  | up, r :: rs => match r.c with
    | .new id aF => match bL.testBit r.idx with
      | true => nV bL op xs v ((id, aF) :: up) rs
      | false => nV bL op xs v up rs
    | .aN base _ => match bL.testBit r.idx with
      | true => true
      | false => (AW bL base rs fun h => KN h up fun h => KO op xs v h) && nV bL op xs v up rs
    | .pure => nV bL op xs v up rs
def AX (call : wz R) (ops : List (Nat × bI)) : List Rec -> T AB -> Fr -> St -> (Fr -> St -> R) -> R :=
  List.rec (motive := fun _ => List Rec -> T AB -> Fr -> St -> (Fr -> St -> R) -> R)
    (fun _ _ fr st k => k fr st)
    (fun jo _ ih recs base fr st k => wS z fr jo.2.guard
      (Ik z fr jo.2.xs fun xs => match jo.2.cls with
        | .new => match jo.2.k.run (fun _ => none) st.next xs with
          | some (.aN v none none (some aF)) => oK v fun v => wR aF fun aF => jH fr jo.2.dst v fun fr => Kw st.next fun n => uy (some aF) st.next st.heap fun h =>
              ih ({ idx := jo.1, o := jo.2, v := v, c := .new st.next aF, nx := n } :: recs) base fr { heap := h, next := n } k
          | _ => z
        | .aN => Ee z call jo.2.k xs st fun v st' => jH fr jo.2.dst v fun fr => ih ({ idx := jo.1, o := jo.2, v := v, c := .aN base st'.heap, nx := st'.next } :: recs) st'.heap fr st' k
        | _ => match jo.2.k.run (fun _ => none) .h xs with
          | some (.val v) => oK v fun v => jH fr jo.2.dst v fun fr => ih ({ idx := jo.1, o := jo.2, v := v, c := .pure, nx := st.next } :: recs) base fr st k
          | _ => AW jo.2.bL base recs fun h => match jo.2.k.run (fun b => xg b h) .h xs with
            | some (.val v) => oK v fun v => match nV jo.2.bL jo.2.k xs v [] recs with
              | true => jH fr jo.2.dst v fun fr => ih ({ idx := jo.1, o := jo.2, v := v, c := .pure, nx := st.next } :: recs) base fr st k
              | false => z
            | _ => z)
      (jH fr jo.2.dst .undef fun fr => ih ({ idx := jo.1, o := jo.2, v := .undef, c := .pure, nx := st.next } :: recs) base fr st k)) ops
abbrev Ky (R : Type) := AC -> Fr -> St -> (Fr -> St -> R) -> (Nat -> Fr -> St -> R) -> (Fr -> St -> R) -> R
def nW (call : wz R) (ih : Ky R) : Ky R
  | .skip, fr, st, kn, _, _ => kn fr st
  | .region ops, fr, st, kn, _, _ => O1 z call ops fr st kn
  | .draw ops, fr, st, kn, _, _ => AX z call ops [] st.heap fr st kn
  | .seq a b, fr, st, kn, kx, kr => ih a fr st (fun fr st => ih b fr st kn kx kr) kx kr
  | .cond x a b, fr, st, kn, kx, kr => Qf z fr x fun v => match v with
    | .bool true => ih a fr st kn kx kr
    | .bool false => ih b fr st kn kx kr
    | _ => z
  | .block id a, fr, st, kn, kx, kr => ih a fr st kn (fun pK fr st => match Nat.beq pK id with
      | true => kn fr st
      | false => kx pK fr st) kr
  | .loop a, fr, st, kn, kx, kr => ih a fr st (fun fr st => ih (.loop a) fr st kn kx kr) kx kr
  | .exit id, fr, st, _, kx, _ => kx id fr st
  | .ret, fr, st, _, _, kr => kr fr st
def Kz (call : wz R) (n : Nat) : Ky R :=
  Nat.rec (motive := fun _ => Ky R) (fun _ _ _ _ _ _ => z) (fun _ ih => nW z call ih) n
def Ef (vs : List AV) : Nat -> Fr -> (Fr -> R) -> R :=
  List.rec (motive := fun _ => Nat -> Fr -> (Fr -> R) -> R) (fun _ fr k => k fr)
    (fun v _ ih i fr k => uy (some v) (key i) fr fun fr => ih (i + 1) fr k) vs
def uz (st : St) (fr : Fr) (rs : List Gn) (k : AV -> R) : R :=
  match fC (fun b => xg b st.heap) fr rs with
  | some vs => Ed vs fun vs => match vs with
    | [v] => k v
    | vs => k (.tuple vs)
  | none => z
def Eg (O : fy) (G : T aK) (m : Nat) (d : Nat) : wz R :=
  Nat.rec (motive := fun _ => wz R) (fun _ _ _ _ => z)
    (fun _ ih f args st k => match O f with
      | some s => match s args st with
        | some (v, st') => oK v fun v => k v st'
        | none => z
      | none => match xg (key f) G with
        | some F => match Nat.beq args.length F.nparams with
          | true => Ef args 0 .e fun fr => Kz z ih m F.code fr st
              (fun fr st => uz z st fr F.results fun v => k v st)
              (fun _ _ _ => z)
              (fun fr st => uz z st fr F.results fun v => k v st)
          | false => z
        | none => z) d
end
end Go.Ai
end
