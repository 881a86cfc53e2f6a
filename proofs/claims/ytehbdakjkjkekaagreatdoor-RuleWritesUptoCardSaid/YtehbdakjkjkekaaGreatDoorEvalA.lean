/- An evaluator over plain values, its compiler from the model's functions and its relation to the model's worlds. -/
import Derived.Calls
import Derived.Orders
import Derived.Below
set_option linter.all false
set_option linter.unusedSectionVars false
set_option linter.deprecated false
section
namespace Go.Ai
inductive Pos where
  | h
  | o (p : Pos)
  | i (p : Pos)
  deriving DecidableEq, Inhabited
def Pos.toNat : Pos -> Nat
  | .h => 1
  | .o p => 2 * p.toNat
  | .i p => 2 * p.toNat + 1
def Pos.succ : Pos -> Pos
  | .h => .o .h
  | .o p => .i p
  | .i p => .o p.succ
def Pos.ofGo : Nat -> Nat -> Pos
  | 0, _ => .h
  | f + 1, n => match Nat.ble n 1 with
    | true => .h
    | false => match Nat.beq (n % 2) 0 with
      | true => .o (Pos.ofGo f (n / 2))
      | false => .i (Pos.ofGo f (n / 2))
def key (n : Nat) : Pos := Pos.ofGo (n + 1).log2 (n + 1)
def Pos.beq : Pos -> Pos -> Bool
  | .h, .h => true
  | .o a, .o b => a.beq b
  | .i a, .i b => a.beq b
  | _, _ => false
inductive T (α : Type) where
  | e
  | n (l : T α) (v : Option α) (r : T α)
  deriving Inhabited
def T.get {α : Type} : Pos -> T α -> Option α
  | _, .e => none
  | .h, .n _ v _ => v
  | .o p, .n l _ _ => l.get p
  | .i p, .n _ _ r => r.get p
def T.put {α : Type} (x : Option α) : Pos -> T α -> T α
  | .h, .e => .n .e x .e
  | .h, .n l _ r => .n l x r
  | .o p, .e => .n (T.put x p .e) none .e
  | .o p, .n l v r => .n (T.put x p l) v r
  | .i p, .e => .n .e none (T.put x p .e)
  | .i p, .n l v r => .n l v (T.put x p r)
inductive AV where
  | bool (b : Bool)
  | int (k : IntKind) (n : Int)
  | str (s : List Nat)
  | nilp
  | ptr (b : Pos) (off : Nat)
  | fp (xs : List (List AV)) (i j : Nat)
  | nils
  | slice (b : Pos) (off len : Nat) (cap : Option Nat) (es : Nat)
  | fl (xs : List (List AV)) (es : Nat)
  | nilm
  | map (b : Pos)
  | func (f : FuncId) (first captured : List AV)
  | nilf
  | nili
  | iface (t : TypeId) (v : AV)
  | agg (l : List AV)
  | tuple (l : List AV)
  deriving Inhabited
inductive AB where
  | cells (cs : List AV) (fz : Nat)
  | map (es : List (AV × AV × Nat)) (clock : Nat)
  | siter (s : List Nat) (pos : Nat)
  | typed (t : TypeId) (cs : List AV)
  deriving Inhabited
def AV.cells : AV -> List AV
  | .agg l => l
  | v => [v]
def AV.undef : AV := .tuple []
def AV.one : AV -> Bool
  | .agg _ => false
  | .tuple _ => false
  | _ => true
def allOne : List AV -> Bool
  | [] => true
  | v :: l => match v.one with
    | true => allOne l
    | false => false
inductive ARes where
  | val (v : AV)
  | eff (v : AV) (del : Option Pos) (set : Option (Pos × AB)) (new : Option AB)
  | call (f : FuncId) (args : List AV)
  deriving Inhabited
def nth {α : Type} : List α -> Nat -> Option α
  | [], _ => none
  | a :: _, 0 => some a
  | _ :: l, n + 1 => nth l n
def cut {α : Type} (l : List α) (i n : Nat) : Option (List α) :=
  match Nat.ble (i + n) l.length with
  | true => some ((l.drop i).take n)
  | false => none
def splice {α : Type} (l : List α) (i : Nat) (vs : List α) : List α := l.take i ++ (vs ++ l.drop (i + vs.length))
def beqNats : List Nat -> List Nat -> Bool
  | [], [] => true
  | a :: x, b :: y => match Nat.beq a b with
    | true => beqNats x y
    | false => false
  | _, _ => false
def lessNats : List Nat -> List Nat -> Bool
  | _, [] => false
  | [], _ :: _ => true
  | a :: x, b :: y => match Nat.blt a b with
    | true => true
    | false => match Nat.beq a b with
      | true => lessNats x y
      | false => false
inductive PK where
  | b
  | i
  | s
  deriving Inhabited
inductive EqK where
  | num
  | bool
  | ptr
  | slice
  | map
  | func
  | iface
  | struct (fs : List (Nat × PK))
  deriving Inhabited
inductive ConvK where
  | int (k : IntKind)
  | same
  | bytes
  | ofBytes
  deriving Inhabited
inductive LK where
  | s
  | l
  | m
  deriving Inhabited
inductive OpK where
  | move
  | pick
  | alloc (zero : List AV)
  | box
  | build (zero : List AV) (places : List (Nat × Nat))
  | buildSlice (es len : Nat) (zero : List AV) (places : List Nat)
  | load (n : Option Nat)
  | store (n : Nat)
  | nilCheck
  | bin (op : BinOp) (q : EqK)
  | un (op : UnOp)
  | conv (k : ConvK)
  | mkIface (t : TypeId)
  | mkFunc (f : FuncId) (mE : Nat)
  | mkMap
  | lookup (pk : PK) (zero : AV) (ok : Bool)
  | mapSet (pk : PK)
  | mkSlice (es bytes : Nat) (zero : List AV)
  | sliceS (lo hi : Bool)
  | sliceL (es : Nat) (lo hi mx : Bool)
  | fieldA (off : Nat)
  | idxA (es : Nat) (arr : Option Nat)
  | field (off : Nat) (n : Option Nat)
  | idxS
  | extract (i : Nat)
  | callF (f : FuncId)
  | callV
  | lenB (k : LK)
  | capB
  | append (es bytes : Nat)
  | copyB (es : Nat)
  | minB
  | maxB
  | clearS (es : Nat) (zero : List AV)
  | rangeS
  | nextS
  | allocT (t : TypeId) (zero : List AV)
  | appendT (e : TypeId) (bytes : Nat)
  | toU
  | fromU (u : TypeId) (n : Nat)
  | sliceData
  | unsafeStr (e : TypeId)
  | bad
  deriving Inhabited
def loI (k : IntKind) : Int := match k with
  | .i8 => -128 | .i16 => -32768 | .i32 => -2147483648 | .i64 => -9223372036854775808 | _ => 0
def hiI (k : IntKind) : Int := match k with
  | .i8 => 127 | .i16 => 32767 | .i32 => 2147483647 | .i64 => 9223372036854775807
  | .u8 => 255 | .u16 => 65535 | .u32 => 4294967295 | .u64 => 18446744073709551615
def wrapI (k : IntKind) (n : Int) : Int :=
  match Int.decLe (loI k) n with
  | .isTrue _ => match Int.decLe n (hiI k) with
    | .isTrue _ => n
    | .isFalse _ => k.wrap n
  | .isFalse _ => k.wrap n
def eqKind (a b : IntKind) : Bool := match decEq a b with
  | .isTrue _ => true
  | .isFalse _ => false
def intEq (a b : Int) : Bool := match Int.decEq a b with
  | .isTrue _ => true
  | .isFalse _ => false
def intLt (a b : Int) : Bool := match Int.decLt a b with
  | .isTrue _ => true
  | .isFalse _ => false
def intLe (a b : Int) : Bool := match Int.decLe a b with
  | .isTrue _ => true
  | .isFalse _ => false
def eqPK : PK -> AV -> AV -> Option Bool
  | .b, .bool a, .bool b => some (a == b)
  | .i, .int k a, .int k' b => match eqKind k k' with
    | true => some (intEq a b)
    | false => none
  | .s, .str a, .str b => some (beqNats a b)
  | _, _, _ => none
def eqFields (xs ys : List AV) : List (Nat × PK) -> Option Bool
  | [] => some true
  | (o, pk) :: fs => match nth xs o, nth ys o with
    | some a, some b => match eqPK pk a b with
      | some true => eqFields xs ys fs
      | some false => some false
      | none => none
    | _, _ => none
def eqBy : EqK -> AV -> AV -> Option Bool
  | .bool, .bool a, .bool b => some (a == b)
  | .ptr, .nilp, .nilp => some true
  | .ptr, .nilp, .ptr _ _ => some false
  | .ptr, .ptr _ _, .nilp => some false
  | .ptr, .nilp, .fp _ _ _ => some false
  | .ptr, .fp _ _ _, .nilp => some false
  | .ptr, .ptr b o, .ptr b' o' => match Pos.beq b b', Nat.beq o o' with
    | true, true => some true
    | _, _ => none
  | .slice, .nils, .nils => some true
  | .slice, .nils, .slice _ _ _ _ _ => some false
  | .slice, .slice _ _ _ _ _, .nils => some false
  | .slice, .nils, .fl _ _ => some false
  | .slice, .fl _ _, .nils => some false
  | .map, .nilm, .nilm => some true
  | .map, .nilm, .map _ => some false
  | .map, .map _, .nilm => some false
  | .func, .nilf, .nilf => some true
  | .func, .nilf, .func _ _ _ => some false
  | .func, .func _ _ _, .nilf => some false
  | .iface, .nili, .iface _ _ => some false
  | .iface, .iface _ _, .nili => some false
  | .struct fs, .agg xs, .agg ys => eqFields xs ys fs
  | _, _, _ => none
def binA (op : BinOp) (q : EqK) : AV -> AV -> Option AV
  | .int k a, .int k' b => match op with
    | .shl => match intLt b 0 with
      | true => none
      | false => some (.int k (wrapI k (a * 2 ^ (min b.toNat k.bits))))
    | .shr => match intLt b 0 with
      | true => none
      | false => some (.int k (a.fdiv (2 ^ (min b.toNat k.bits))))
    | op => match eqKind k k' with
      | false => none
      | true => match op with
        | .add => some (.int k (wrapI k (a + b)))
        | .sub => some (.int k (wrapI k (a - b)))
        | .mul => some (.int k (wrapI k (a * b)))
        | .quo => match intEq b 0 with
          | true => none
          | false => some (.int k (wrapI k (a.tdiv b)))
        | .rem => match intEq b 0 with
          | true => none
          | false => some (.int k (a.tmod b))
        | .and => some (.int k (k.wrap (BitVec.ofInt k.bits a &&& BitVec.ofInt k.bits b).toNat))
        | .or => some (.int k (k.wrap (BitVec.ofInt k.bits a ||| BitVec.ofInt k.bits b).toNat))
        | .xor => some (.int k (k.wrap (BitVec.ofInt k.bits a ^^^ BitVec.ofInt k.bits b).toNat))
        | .andNot => some (.int k (k.wrap (BitVec.ofInt k.bits a &&& ~~~BitVec.ofInt k.bits b).toNat))
        | .eql => some (.bool (intEq a b))
        | .neq => some (.bool (!intEq a b))
        | .lss => some (.bool (intLt a b))
        | .leq => some (.bool (intLe a b))
        | .gtr => some (.bool (intLt b a))
        | .geq => some (.bool (intLe b a))
        | _ => none
  | .str a, .str b => match op with
    | .add => match Nat.ble (a.length + b.length) 9223372036854775807 with
      | true => some (.str (a ++ b))
      | false => none
    | .eql => some (.bool (beqNats a b))
    | .neq => some (.bool (!beqNats a b))
    | .lss => some (.bool (lessNats a b))
    | .leq => some (.bool (lessNats a b || beqNats a b))
    | .gtr => some (.bool (!(lessNats a b || beqNats a b)))
    | .geq => some (.bool (!lessNats a b))
    | _ => none
  | x, y => match op with
    | .eql => match eqBy q x y with
      | some b => some (.bool b)
      | none => none
    | .neq => match eqBy q x y with
      | some b => some (.bool (!b))
      | none => none
    | _ => none
def unA (op : UnOp) : AV -> Option AV
  | .bool b => match op with
    | .not => some (.bool (!b))
    | _ => none
  | .int k n => match op with
    | .neg => some (.int k (wrapI k (0 - n)))
    | _ => none
  | _ => none
def fillA (cells : List AV) : List (Nat × Nat) -> List AV -> Option (List AV)
  | [], [] => some cells
  | (off, size) :: ps, v :: vs =>
    match Nat.beq v.cells.length size, Nat.ble (off + size) cells.length with
    | true, true => fillA (splice cells off v.cells) ps vs
    | _, _ => none
  | _, _ => none
def repeatL {α : Type} (l : List α) : Nat -> List α
  | 0 => []
  | n + 1 => l ++ repeatL l n
def asIx : AV -> Option Nat
  | .int _ n => match n with
    | .ofNat m => some m
    | .negSucc _ => none
  | _ => none
def intV (n : Nat) : AV := .int .i64 (.ofNat n)
def rows (es : Nat) (cs : List AV) : Nat -> List (List AV)
  | 0 => []
  | n + 1 => cs.take es :: rows es (cs.drop es) n
def bounds : (lo hi mx : Bool) -> List AV -> Option (Option Nat × Option Nat × Option Nat)
  | false, false, false, [] => some (none, none, none)
  | true, false, false, [a] => match asIx a with
    | some l => some (some l, none, none)
    | none => none
  | false, true, false, [b] => match asIx b with
    | some h => some (none, some h, none)
    | none => none
  | true, true, false, [a, b] => match asIx a, asIx b with
    | some l, some h => some (some l, some h, none)
    | _, _ => none
  | false, true, true, [b, c] => match asIx b, asIx c with
    | some h, some m => some (none, some h, some m)
    | _, _ => none
  | true, true, true, [a, b, c] => match asIx a, asIx b, asIx c with
    | some l, some h, some m => some (some l, some h, some m)
    | _, _, _ => none
  | _, _, _, _ => none
def firstA (es n : Nat) (H : Pos -> Option AB) : AV -> Option (List AV)
  | .nils => some []
  | .slice b off _ _ _ => match Nat.beq (n * es) 0 with
    | true => some []
    | false => match H b with
      | some (.cells cs _) => cut cs off (n * es)
      | _ => none
  | .fl xs es' => match Nat.beq es es', Nat.ble n xs.length with
    | true, true => some (xs.take n).flatten
    | _, _ => none
  | .str s => match Nat.beq es 1, Nat.ble n s.length with
    | true, true => some ((s.take n).map fun c => .int .u8 (.ofNat c))
    | _, _ => none
  | _ => none
def lenA : AV -> Option Nat
  | .nils => some 0
  | .slice _ _ n _ _ => some n
  | .fl xs _ => some xs.length
  | .str s => some s.length
  | _ => none
def findA (pk : PK) (k : AV) : List (AV × AV × Nat) -> Nat -> Option (Option (Nat × AV))
  | [], _ => some none
  | (k', v, _) :: es, i => match eqPK pk k k' with
    | some true => some (some (i, v))
    | some false => findA pk k es (i + 1)
    | none => none
def isPK : PK -> AV -> Bool
  | .b, .bool _ => true
  | .i, .int _ _ => true
  | .s, .str _ => true
  | _, _ => false
def setEntry (k v : AV) : List (AV × AV × Nat) -> Nat -> List (AV × AV × Nat)
  | [], _ => []
  | (_, _, born) :: es, 0 => (k, v, born) :: es
  | e :: es, i + 1 => e :: setEntry k v es i
def decodeA (s : List Nat) (pos : Nat) : Option (Nat × Nat) :=
  match nth s pos with
  | some c => match Nat.blt c 128 with
    | true => some (c, 1)
    | false => none
  | none => none
def bytesOf : List AV -> Option (List Nat)
  | [] => some []
  | .int .u8 (.ofNat n) :: l => match Nat.blt n 256, bytesOf l with
    | true, some s => some (n :: s)
    | _, _ => none
  | _ => none
def runMove (_H : Pos -> Option AB) (_next : Pos) : List AV -> Option ARes
  | [x] => some (.val x)
  | _ => none
def runPick (_H : Pos -> Option AB) (_next : Pos) : List AV -> Option ARes
  | [c, a, b] => match c with
    | .bool true => some (.val a)
    | .bool false => some (.val b)
    | _ => none
  | _ => none
def runAlloc (_H : Pos -> Option AB) (next : Pos) (zero : List AV) : List AV -> Option ARes
  | [] => some (.eff (.ptr next 0) none none (some (.cells zero 0)))
  | _ => none
def runBox (_H : Pos -> Option AB) (next : Pos) : List AV -> Option ARes
  | [x] => some (.eff (.ptr next 0) none none (some (.cells x.cells 0)))
  | _ => none
def runBuild (_H : Pos -> Option AB) (_next : Pos) (zero : List AV) (places : List (Nat × Nat)) : List AV -> Option ARes
  | xs => match fillA zero places xs with
    | some cs => some (.val (.agg cs))
    | none => none
def runBuildSlice (_H : Pos -> Option AB) (next : Pos) (es len : Nat) (zero : List AV) (places : List Nat) : List AV -> Option ARes
  | xs => match fillA (repeatL zero len) (places.map fun i => (i * es, es)) xs with
    | some cs => some (.eff (.slice next 0 len (some len) es) none none (some (.cells cs 0)))
    | none => none
def runLoad (H : Pos -> Option AB) (_next : Pos) (n : Option Nat) : List AV -> Option ARes
  | [p] => match p with
    | .ptr b off => match H b with
      | some (.cells cs _) => match n with
        | none => match nth cs off with
          | some v => some (.val v)
          | none => none
        | some n => match cut cs off n with
          | some vs => some (.val (.agg vs))
          | none => none
      | some (.typed _ cs) => match n with
        | none => match nth cs off with
          | some v => some (.val v)
          | none => none
        | some n => match cut cs off n with
          | some vs => some (.val (.agg vs))
          | none => none
      | _ => none
    | .fp xs i j => match nth xs i with
      | some cs => match n with
        | none => match nth cs j with
          | some v => some (.val v)
          | none => none
        | some n => match cut cs j n with
          | some vs => some (.val (.agg vs))
          | none => none
      | none => none
    | _ => none
  | _ => none
def runStore (H : Pos -> Option AB) (_next : Pos) (n : Nat) : List AV -> Option ARes
  | [p, v] => match p with
    | .ptr b off => match H b with
      | some (.cells cs fz) =>
        match Nat.beq v.cells.length n, Nat.ble (off + n) cs.length, Nat.ble fz off, allOne v.cells with
        | true, true, true, true => some (.eff .undef none (some (b, .cells (splice cs off v.cells) fz)) none)
        | _, _, _, _ => none
      | some (.typed t cs) =>
        match Nat.beq v.cells.length n, Nat.ble (off + n) cs.length, allOne v.cells with
        | true, true, true => some (.eff .undef none (some (b, .typed t (splice cs off v.cells))) none)
        | _, _, _ => none
      | _ => none
    | _ => none
  | _ => none
def runNilCheck (_H : Pos -> Option AB) (_next : Pos) : List AV -> Option ARes
  | [x] => match x with
    | .ptr _ _ => some (.val x)
    | .fp _ _ _ => some (.val x)
    | .func _ _ _ => some (.val x)
    | _ => none
  | _ => none
def runBin (_H : Pos -> Option AB) (_next : Pos) (op : BinOp) (q : EqK) : List AV -> Option ARes
  | [x, y] => match binA op q x y with
    | some v => some (.val v)
    | none => none
  | _ => none
def runUn (_H : Pos -> Option AB) (_next : Pos) (op : UnOp) : List AV -> Option ARes
  | [x] => match unA op x with
    | some v => some (.val v)
    | none => none
  | _ => none
def runConv (H : Pos -> Option AB) (next : Pos) (k : ConvK) : List AV -> Option ARes
  | [x] => match k, x with
    | .int k, .int _ n => some (.val (.int k (wrapI k n)))
    | .same, .str s => some (.val (.str s))
    | .bytes, .str s => some (.eff (.slice next 0 s.length none 1) none none (some (.cells (s.map fun c => .int .u8 (.ofNat c)) 0)))
    | .ofBytes, .nils => some (.val (.str []))
    | .ofBytes, .slice b off n _ _ => match Nat.beq n 0 with
      | true => some (.val (.str []))
      | false => match H b with
        | some (.cells cs _) => match cut cs off n with
          | some l => match bytesOf l with
            | some s => some (.val (.str s))
            | none => none
          | none => none
        | _ => none
    | _, _ => none
  | _ => none
def runMkIface (_H : Pos -> Option AB) (_next : Pos) (t : TypeId) : List AV -> Option ARes
  | [x] => some (.val (.iface t x))
  | _ => none
def runMkFunc (_H : Pos -> Option AB) (_next : Pos) (f : FuncId) (mE : Nat) : List AV -> Option ARes
  | xs => some (.val (.func f (xs.take mE) (xs.drop mE)))
def runMkMap (_H : Pos -> Option AB) (next : Pos) : List AV -> Option ARes
  | _ => some (.eff (.map next) none none (some (.map [] 0)))
def runLookup (H : Pos -> Option AB) (_next : Pos) (pk : PK) (zero : AV) (ok : Bool) : List AV -> Option ARes
  | [m, k] =>
    match (match m with
      | .nilm => match isPK pk k with
        | true => some none
        | false => none
      | .map b => match H b with
        | some (.map es _) => findA pk k es 0
        | _ => none
      | _ => none) with
    | some (some (_, v)) => some (.val (match ok with | true => .tuple [v, .bool true] | false => v))
    | some none => some (.val (match ok with | true => .tuple [zero, .bool false] | false => zero))
    | none => none
  | _ => none
def runMapSet (H : Pos -> Option AB) (_next : Pos) (pk : PK) : List AV -> Option ARes
  | [m, k, v] => match m with
    | .map b => match H b with
      | some (.map es clock) => match isPK pk k, findA pk k es 0 with
        | true, some (some (i, _)) => some (.eff .undef none (some (b, .map (setEntry k v es i) clock)) none)
        | true, some none => some (.eff .undef none (some (b, .map (es ++ [(k, v, clock)]) (clock + 1))) none)
        | _, _ => none
      | _ => none
    | _ => none
  | _ => none
def runMkSlice (_H : Pos -> Option AB) (next : Pos) (es bytes : Nat) (zero : List AV) : List AV -> Option ARes
  | [l, c] => match asIx l, asIx c with
    | some l, some c => match Nat.ble l c, Nat.ble (bytes * c) 281474976710656, Nat.ble c 9223372036854775807 with
      | true, true, true => some (.eff (.slice next 0 l (some c) es) none none (some (.cells (repeatL zero c) 0)))
      | _, _, _ => none
    | _, _ => none
  | _ => none
def runSliceS (_H : Pos -> Option AB) (_next : Pos) (lo hi : Bool) : List AV -> Option ARes
  | x :: bs => match x, bounds lo hi false bs with
    | .str s, some (l, h, _) =>
      let h := h.getD s.length
      let l := l.getD 0
      match Nat.ble l h, Nat.ble h s.length with
      | true, true => some (.val (.str ((s.take h).drop l)))
      | _, _ => none
    | _, _ => none
  | _ => none
def runSliceL (_H : Pos -> Option AB) (_next : Pos) (es : Nat) (lo hi mx : Bool) : List AV -> Option ARes
  | x :: bs => match x, bounds lo hi mx bs with
    | .slice b off len cap es', some (l, h, m) =>
      match Nat.beq es es', Nat.ble (l.getD 0) (h.getD len) with
      | true, true => match cap, m with
        | some c, some m => match Nat.ble (h.getD len) m, Nat.ble m c with
          | true, true => some (.val (.slice b (off + l.getD 0 * es) (h.getD len - l.getD 0) (some (m - l.getD 0)) es))
          | _, _ => none
        | some c, none => match Nat.ble (h.getD len) c with
          | true => some (.val (.slice b (off + l.getD 0 * es) (h.getD len - l.getD 0) (some (c - l.getD 0)) es))
          | false => none
        | none, some m => match Nat.ble (h.getD len) m, Nat.ble m len with
          | true, true => some (.val (.slice b (off + l.getD 0 * es) (h.getD len - l.getD 0) (some (m - l.getD 0)) es))
          | _, _ => none
        | none, none => match Nat.ble (h.getD len) len with
          | true => some (.val (.slice b (off + l.getD 0 * es) (h.getD len - l.getD 0) none es))
          | false => none
      | _, _ => none
    | .fl xs es', some (l, h, m) =>
      match Nat.beq es es' with
      | true => match m with
        | some m => match Nat.beq (l.getD 0) 0, Nat.beq (h.getD xs.length) 0, Nat.beq m 0 with
          | true, true, true => some (.val (.slice .h 0 0 (some 0) es))
          | _, _, _ => none
        | none => match Nat.ble (l.getD 0) (h.getD xs.length), Nat.ble (h.getD xs.length) xs.length with
          | true, true => some (.val (.fl ((xs.take (h.getD xs.length)).drop (l.getD 0)) es))
          | _, _ => none
      | false => none
    | .nils, some (l, h, m) => match Nat.beq (l.getD 0) 0, Nat.beq (h.getD 0) 0, Nat.beq (m.getD 0) 0 with
        | true, true, true => some (.val .nils)
        | _, _, _ => none
    | _, _ => none
  | _ => none
def runFieldA (_H : Pos -> Option AB) (_next : Pos) (off : Nat) : List AV -> Option ARes
  | [x] => match x with
    | .ptr b o => some (.val (.ptr b (o + off)))
    | .fp xs i j => some (.val (.fp xs i (j + off)))
    | _ => none
  | _ => none
def runIdxA (_H : Pos -> Option AB) (_next : Pos) (es : Nat) (arr : Option Nat) : List AV -> Option ARes
  | [x, i] => match asIx i with
    | some i => match arr, x with
      | none, .slice b off len _ _ => match Nat.blt i len with
        | true => some (.val (.ptr b (off + i * es)))
        | false => none
      | none, .fl xs es' => match Nat.blt i xs.length, Nat.beq es es' with
        | true, true => some (.val (.fp xs i 0))
        | _, _ => none
      | some n, .ptr b off => match Nat.blt i n with
        | true => some (.val (.ptr b (off + i * es)))
        | false => none
      | _, _ => none
    | none => none
  | _ => none
def runField (_H : Pos -> Option AB) (_next : Pos) (off : Nat) (n : Option Nat) : List AV -> Option ARes
  | [x] => match x with
    | .agg cs => match n with
      | none => match nth cs off with
        | some v => some (.val v)
        | none => none
      | some n => some (.val (.agg ((cs.drop off).take n)))
    | _ => none
  | _ => none
def runIdxS (_H : Pos -> Option AB) (_next : Pos) : List AV -> Option ARes
  | [x, i] => match x, asIx i with
    | .str s, some i => match nth s i with
      | some c => some (.val (.int .u8 (.ofNat c)))
      | none => none
    | _, _ => none
  | _ => none
def runExtract (_H : Pos -> Option AB) (_next : Pos) (i : Nat) : List AV -> Option ARes
  | [x] => match x with
    | .tuple vs => match nth vs i with
      | some v => some (.val v)
      | none => none
    | _ => none
  | _ => none
def runCallF (_H : Pos -> Option AB) (_next : Pos) (f : FuncId) : List AV -> Option ARes
  | xs => some (.call f xs)
def runCallV (_H : Pos -> Option AB) (_next : Pos) : List AV -> Option ARes
  | x :: xs => match x with
    | .func f first captured => some (.call f (first ++ (xs ++ captured)))
    | _ => none
  | _ => none
def runLenB (H : Pos -> Option AB) (_next : Pos) (k : LK) : List AV -> Option ARes
  | [x] => match k, x with
    | .m, .nilm => some (.val (intV 0))
    | .m, .map b => match H b with
      | some (.map es _) => some (.val (intV es.length))
      | _ => none
    | .s, .str s => some (.val (intV s.length))
    | .l, .nils => some (.val (intV 0))
    | .l, .slice _ _ n _ _ => some (.val (intV n))
    | .l, .fl xs _ => some (.val (intV xs.length))
    | _, _ => none
  | _ => none
def runAppend (H : Pos -> Option AB) (next : Pos) (es bytes : Nat) : List AV -> Option ARes
  | [s, x] => match lenA s, lenA x with
    | some n, some m =>
      match Nat.ble ((2 * (n + m) + 768) * bytes) 281474976710656, Nat.ble (n + m) 9223372036854775807 with
      | true, true => match Nat.beq m 0, s with
        | true, .slice b off n c es' => some (.val (.slice b off n c es'))
        | true, .fl xs es' => some (.val (.fl xs es'))
        | true, .nils => some (.val .nils)
        | false, .nils => match firstA es m H x with
          | some new => some (.eff (.slice next 0 m none es) none none (some (.cells new 0)))
          | none => none
        | false, .slice b off n (some c) es' =>
          match Nat.ble (n + m) c with
          | true => match H b, firstA es m H x with
            | some (.cells cs fz), some new => match Nat.ble (off + (n + m) * es) cs.length, Nat.ble fz (off + n * es) && Nat.beq es es', allOne new with
              | true, true, true => some (.eff (.slice b off (n + m) (some c) es) none (some (b, .cells (splice cs (off + n * es) new) fz)) none)
              | _, _, _ => none
            | _, _ => none
          | false => match firstA es n H s, firstA es m H x with
            | some aK, some new => some (.eff (.slice next 0 (n + m) none es) none none (some (.cells (aK ++ new) 0)))
            | _, _ => none
        | false, .slice b off n none es' =>
          match H b, firstA es n H s, firstA es m H x with
          | some (.cells _ fz), some aK, some new => match Nat.ble fz (off + n * es) && Nat.beq es es', allOne new with
            | true, true => some (.eff (.slice next 0 (n + m) none es) (some b) none (some (.cells (aK ++ new) (fz - off))))
            | _, _ => none
          | _, _, _ => none
        | _, _ => none
      | _, _ => none
    | _, _ => none
  | _ => none
def runCopyB (H : Pos -> Option AB) (_next : Pos) (es : Nat) : List AV -> Option ARes
  | [d, x] => match lenA d, lenA x with
    | some n, some m =>
      let k := min m n
      match Nat.beq k 0 with
      | true => match d with
        | .str _ => none
        | _ => some (.val (intV 0))
      | false => match d with
        | .slice b off _ _ _ => match H b, firstA es k H x with
          | some (.cells cs fz), some new => match Nat.ble (off + k * es) cs.length, Nat.ble fz off, allOne new with
            | true, true, true => some (.eff (intV k) none (some (b, .cells (splice cs off new) fz)) none)
            | _, _, _ => none
          | _, _ => none
        | _ => none
    | _, _ => none
  | _ => none
def runMinB (_H : Pos -> Option AB) (_next : Pos) : List AV -> Option ARes
  | [x, y] => match x, y with
    | .int k a, .int _ b => some (.val (.int k (match intLt b a with | true => b | false => a)))
    | .str a, .str b => some (.val (.str (match lessNats a b || beqNats a b with | true => a | false => b)))
    | _, _ => none
  | _ => none
def runMaxB (_H : Pos -> Option AB) (_next : Pos) : List AV -> Option ARes
  | [x, y] => match x, y with
    | .int k a, .int _ b => some (.val (.int k (match intLt a b with | true => b | false => a)))
    | .str a, .str b => some (.val (.str (match lessNats a b with | true => b | false => a)))
    | _, _ => none
  | _ => none
def runClearS (H : Pos -> Option AB) (_next : Pos) (es : Nat) (zero : List AV) : List AV -> Option ARes
  | [x] => match x with
    | .nils => some (.val .undef)
    | .slice b off n _ _ => match Nat.beq n 0 with
      | true => some (.val .undef)
      | false => match H b with
        | some (.cells cs fz) => match Nat.ble (off + n * es) cs.length, Nat.ble fz off, allOne (repeatL zero n) with
          | true, true, true => some (.eff .undef none (some (b, .cells (splice cs off (repeatL zero n)) fz)) none)
          | _, _, _ => none
        | _ => none
    | _ => none
  | _ => none
def runRangeS (_H : Pos -> Option AB) (next : Pos) : List AV -> Option ARes
  | [x] => match x with
    | .str s => some (.eff (.ptr next 0) none none (some (.siter s 0)))
    | _ => none
  | _ => none
def runNextS (H : Pos -> Option AB) (_next : Pos) : List AV -> Option ARes
  | [x] => match x with
    | .ptr b 0 => match H b with
      | some (.siter s pos) => match Nat.blt pos s.length with
        | true => match decodeA s pos with
          | some (c, w) => some (.eff (.tuple [.bool true, intV pos, .int .i32 (.ofNat c)]) none (some (b, .siter s (pos + w))) none)
          | none => none
        | false => some (.val (.tuple [.bool false]))
      | _ => none
    | _ => none
  | _ => none
def runAllocT (_H : Pos -> Option AB) (next : Pos) (t : TypeId) (zero : List AV) : List AV -> Option ARes
  | [] => some (.eff (.ptr next 0) none none (some (.typed t zero)))
  | _ => none
def runAppendT (H : Pos -> Option AB) (next : Pos) (e : TypeId) (bytes : Nat) : List AV -> Option ARes
  | [s, x] => match x with
    | .str u => match s with
      | .nils => match Nat.ble ((2 * (0 + u.length) + 768) * bytes) 281474976710656, Nat.ble (0 + u.length) 9223372036854775807 with
        | true, true => match Nat.beq u.length 0 with
          | true => some (.val .nils)
          | false => some (.eff (.slice next 0 (0 + u.length) none 1) none none (some (.typed e (u.map fun c => .int .u8 (.ofNat c)))))
        | _, _ => none
      | .slice b 0 n none 1 => match Nat.ble ((2 * (n + u.length) + 768) * bytes) 281474976710656, Nat.ble (n + u.length) 9223372036854775807 with
        | true, true => match Nat.beq u.length 0 with
          | true => some (.val (.slice b 0 n none 1))
          | false => match H b with
            | some (.typed e' cs) => match Nat.beq e e', cut cs 0 n with
              | true, some aK => some (.eff (.slice next 0 (n + u.length) none 1) (some b) none (some (.typed e (aK ++ u.map fun c => .int .u8 (.ofNat c)))))
              | _, _ => none
            | _ => none
        | _, _ => none
      | _ => none
    | _ => none
  | _ => none
def runToU (H : Pos -> Option AB) (_next : Pos) : List AV -> Option ARes
  | [x] => match x with
    | .nilp => some (.val .nilp)
    | .ptr b off => match H b with
      | some (.typed _ cs) => match Nat.blt off cs.length with
        | true => some (.val (.ptr b off))
        | false => none
      | _ => none
    | _ => none
  | _ => none
def runFromU (H : Pos -> Option AB) (_next : Pos) (u : TypeId) (n : Nat) : List AV -> Option ARes
  | [x] => match x with
    | .nilp => some (.val .nilp)
    | .ptr b 0 => match H b with
      | some (.typed t cs) => match Nat.beq t u, Nat.ble n cs.length with
        | true, true => some (.val (.ptr b 0))
        | _, _ => none
      | _ => none
    | _ => none
  | _ => none
def runSliceData (_H : Pos -> Option AB) (_next : Pos) : List AV -> Option ARes
  | [x] => match x with
    | .nils => some (.val .nilp)
    | .slice b off n _ _ => match Nat.beq n 0 with
      | true => none
      | false => some (.val (.ptr b off))
    | _ => none
  | _ => none
def runUnsafeStr (H : Pos -> Option AB) (_next : Pos) (e : TypeId) : List AV -> Option ARes
  | [x, y] => match y with
    | .int .i64 (.ofNat n) => match Nat.beq n 0 with
      | true => match x with
        | .nilp => some (.val (.str []))
        | .ptr _ _ => some (.val (.str []))
        | _ => none
      | false => match x with
        | .ptr b 0 => match H b with
          | some (.typed e' cs) => match Nat.beq e e', cut cs 0 n, Nat.ble n 9223372036854775807 with
            | true, some l, true => match bytesOf l with
              | some s => some (.eff (.str s) (some b) none none)
              | none => none
            | _, _, _ => none
          | _ => none
        | _ => none
    | _ => none
  | _ => none
def OpK.run (H : Pos -> Option AB) (next : Pos) : OpK -> List AV -> Option ARes
  | .move => runMove H next
  | .pick => runPick H next
  | .alloc zero => runAlloc H next zero
  | .box => runBox H next
  | .build zero places => runBuild H next zero places
  | .buildSlice es len zero places => runBuildSlice H next es len zero places
  | .load n => runLoad H next n
  | .store n => runStore H next n
  | .nilCheck => runNilCheck H next
  | .bin op q => runBin H next op q
  | .un op => runUn H next op
  | .conv k => runConv H next k
  | .mkIface t => runMkIface H next t
  | .mkFunc f mE => runMkFunc H next f mE
  | .mkMap => runMkMap H next
  | .lookup pk zero ok => runLookup H next pk zero ok
  | .mapSet pk => runMapSet H next pk
  | .mkSlice es bytes zero => runMkSlice H next es bytes zero
  | .sliceS lo hi => runSliceS H next lo hi
  | .sliceL es lo hi mx => runSliceL H next es lo hi mx
  | .fieldA off => runFieldA H next off
  | .idxA es arr => runIdxA H next es arr
  | .field off n => runField H next off n
  | .idxS => runIdxS H next
  | .extract i => runExtract H next i
  | .callF f => runCallF H next f
  | .callV => runCallV H next
  | .lenB k => runLenB H next k
  | .append es bytes => runAppend H next es bytes
  | .copyB es => runCopyB H next es
  | .minB => runMinB H next
  | .maxB => runMaxB H next
  | .clearS es zero => runClearS H next es zero
  | .rangeS => runRangeS H next
  | .nextS => runNextS H next
  | .allocT t zero => runAllocT H next t zero
  | .appendT e bytes => runAppendT H next e bytes
  | .toU => runToU H next
  | .fromU u n => runFromU H next u n
  | .sliceData => runSliceData H next
  | .unsafeStr e => runUnsafeStr H next e
  | .capB => fun _ => none
  | .bad => fun _ => none
inductive AOpd where
  | t (p : Pos)
  | c (v : AV)
  deriving Inhabited
inductive Cls where
  | pure
  | read
  | new
  | eff
  deriving Inhabited
structure AOper where
  dst : Option Pos
  k : OpK
  xs : List AOpd
  guard : Option (Pos × Bool)
  cls : Cls
  bef : Nat
  deriving Inhabited
inductive AC where
  | skip
  | region (ops : List AOper)
  | draw (ops : List (Nat × AOper))
  | seq (a b : AC)
  | cond (x : AOpd) (a b : AC)
  | block (id : Nat) (a : AC)
  | loop (a : AC)
  | exit (id : Nat)
  | ret
  deriving Inhabited
inductive ARV where
  | tmp (p : Pos)
  | cell (p : Pos) (n : Option Nat)
  deriving Inhabited
structure AFunc where
  code : AC
  nparams : Nat
  results : List ARV
  deriving Inhabited
abbrev Fr := T AV
structure St where
  heap : T AB
  next : Pos
  deriving Inhabited
inductive AExit where
  | normal
  | exit (id : Nat)
  | ret
  deriving Inhabited
def evA (fr : Fr) : AOpd -> Option AV
  | .t p => fr.get p
  | .c v => some v
def evsA (fr : Fr) : List AOpd -> Option (List AV)
  | [] => some []
  | x :: xs => match evA fr x with
    | some v => match evsA fr xs with
      | some vs => some (v :: vs)
      | none => none
    | none => none
def wantedA (fr : Fr) : Option (Pos × Bool) -> Option Bool
  | none => some true
  | some (p, want) => match fr.get p with
    | some (.bool b) => some (b == want)
    | some (.tuple _) => some false
    | _ => none
def setDst (fr : Fr) (d : Option Pos) (v : AV) : Fr := match d with
  | some p => fr.put (some v) p
  | none => fr
def putO (o : Option (Pos × AB)) (h : T AB) : T AB := match o with
  | some (b, x) => h.put (some x) b
  | none => h
def delO (o : Option Pos) (h : T AB) : T AB := match o with
  | some b => h.put none b
  | none => h
def St.eff (st : St) (del : Option Pos) (set : Option (Pos × AB)) (new : Option AB) : St :=
  match new with
  | some x => { heap := T.put (some x) st.next (putO set (delO del st.heap)), next := st.next.succ }
  | none => { heap := putO set (delO del st.heap), next := st.next }
abbrev CallA := FuncId -> List AV -> St -> Option (AV × St)
def stepA (call : CallA) (k : OpK) (xs : List AV) (st : St) : Option (AV × St) :=
  match k.run (fun b => st.heap.get b) st.next xs with
  | some (.val v) => some (v, st)
  | some (.eff v del set new) => some (v, st.eff del set new)
  | some (.call f args) => call f args st
  | none => none
def opsA (call : CallA) : List AOper -> Fr -> St -> Option (Fr × St)
  | [], fr, st => some (fr, st)
  | o :: os, fr, st => match wantedA fr o.guard with
    | some true => match evsA fr o.xs with
      | some xs => match stepA call o.k xs st with
        | some (v, st') => opsA call os (setDst fr o.dst v) st'
        | none => none
      | none => none
    | some false => opsA call os (setDst fr o.dst .undef) st
    | none => none
end Go.Ai
end
section
namespace Go.Ai
def beqFlat : AV -> AV -> Bool
  | .bool a, .bool b => a == b
  | .int k a, .int k' b => eqKind k k' && intEq a b
  | .str a, .str b => beqNats a b
  | .nilp, .nilp => true
  | .ptr b o, .ptr b' o' => Pos.beq b b' && Nat.beq o o'
  | .nils, .nils => true
  | .slice b o l none es, .slice b' o' l' none es' => Pos.beq b b' && Nat.beq o o' && Nat.beq l l' && Nat.beq es es'
  | .slice b o l (some c) es, .slice b' o' l' (some c') es' => Pos.beq b b' && Nat.beq o o' && Nat.beq l l' && Nat.beq c c' && Nat.beq es es'
  | .nilm, .nilm => true
  | .map b, .map b' => Pos.beq b b'
  | .nilf, .nilf => true
  | .nili, .nili => true
  | _, _ => false
def beqFlats : List AV -> List AV -> Bool
  | [], [] => true
  | a :: x, b :: y => beqFlat a b && beqFlats x y
  | _, _ => false
def beqBy (f : AV -> AV -> Bool) : List AV -> List AV -> Bool
  | [], [] => true
  | a :: x, b :: y => f a b && beqBy f x y
  | _, _ => false
def beqRows (f : AV -> AV -> Bool) : List (List AV) -> List (List AV) -> Bool
  | [], [] => true
  | a :: x, b :: y => beqBy f a b && beqRows f x y
  | _, _ => false
def beqFl : Nat -> AV -> AV -> Bool
  | d + 1, .fl a n, .fl a' n' => beqRows (beqFl d) a a' && Nat.beq n n'
  | _, a, b => beqFlat a b
def beqDeep : AV -> AV -> Bool
  | .func f a b, .func f' a' b' => Nat.beq f f' && beqFlats a a' && beqFlats b b'
  | .fl a n, .fl a' n' => beqFl 3 (.fl a n) (.fl a' n')
  | a, b => beqFlat a b
def beqDeeps : List AV -> List AV -> Bool
  | [], [] => true
  | a :: x, b :: y => beqDeep a b && beqDeeps x y
  | _, _ => false
def beqAV : AV -> AV -> Bool
  | .agg l, .agg l' => beqDeeps l l'
  | .tuple l, .tuple l' => beqDeeps l l'
  | a, b => beqDeep a b
inductive RC where
  | pure
  | new (id : Pos) (blk : AB)
  | eff (base : T AB) (h : T AB)
  deriving Inhabited
structure Rec where
  idx : Nat
  o : AOper
  v : AV
  c : RC
  nx : Pos
  deriving Inhabited
def snap (bef : Nat) (h : T AB) : List Rec -> T AB
  | [] => h
  | r :: rs => match r.c with
    | .new id blk => match bef.testBit r.idx with
      | true => (snap bef h rs).put (some blk) id
      | false => snap bef h rs
    | .eff _ _ => h
    | .pure => snap bef h rs
def putUp : List (Pos × AB) -> T AB -> T AB
  | [], h => h
  | (id, blk) :: l, h => (putUp l h).put (some blk) id
def readsAs (k : OpK) (xs : List AV) (v : AV) (h : T AB) : Bool :=
  match k.run (fun b => h.get b) .h xs with
  | some (.val u) => beqAV u v
  | _ => false
def readBack (bef : Nat) (k : OpK) (xs : List AV) (v : AV) : List (Pos × AB) -> List Rec -> Bool
  | _, [] => true
  | up, r :: rs => match r.c with
    | .new id blk => match bef.testBit r.idx with
      | true => readBack bef k xs v ((id, blk) :: up) rs
      | false => readBack bef k xs v up rs
    | .eff base _ => match bef.testBit r.idx with
      | true => true
      | false => readsAs k xs v (putUp up (snap bef base rs)) && readBack bef k xs v up rs
    | .pure => readBack bef k xs v up rs
def drawA (call : CallA) : List (Nat × AOper) -> List Rec -> T AB -> Fr -> St -> Option (Fr × St)
  | [], _, _, fr, st => some (fr, st)
  | (j, o) :: os, recs, base, fr, st => match wantedA fr o.guard with
    | some false => drawA call os ({ idx := j, o := o, v := .undef, c := .pure, nx := st.next } :: recs) base (setDst fr o.dst .undef) st
    | some true => match evsA fr o.xs with
      | none => none
      | some xs => match o.cls with
        | .new => match o.k.run (fun _ => none) st.next xs with
          | some (.eff v none none (some blk)) =>
            drawA call os ({ idx := j, o := o, v := v, c := .new st.next blk, nx := st.next.succ } :: recs) base (setDst fr o.dst v) { heap := st.heap.put (some blk) st.next, next := st.next.succ }
          | _ => none
        | .eff => match stepA call o.k xs st with
          | some (v, st') => drawA call os ({ idx := j, o := o, v := v, c := .eff base st'.heap, nx := st'.next } :: recs) st'.heap (setDst fr o.dst v) st'
          | none => none
        | _ => match o.k.run (fun _ => none) .h xs with
          | some (.val v) => drawA call os ({ idx := j, o := o, v := v, c := .pure, nx := st.next } :: recs) base (setDst fr o.dst v) st
          | _ => match o.k.run (fun b => (snap o.bef base recs).get b) .h xs with
            | some (.val v) => match readBack o.bef o.k xs v [] recs with
              | true => drawA call os ({ idx := j, o := o, v := v, c := .pure, nx := st.next } :: recs) base (setDst fr o.dst v) st
              | false => none
            | _ => none
    | none => none
def execStep (call : CallA) (ih : AC -> Fr -> St -> Option (AExit × Fr × St)) : AC -> Fr -> St -> Option (AExit × Fr × St)
  | .skip, fr, st => some (.normal, fr, st)
  | .region ops, fr, st => match opsA call ops fr st with
    | some (fr, st) => some (.normal, fr, st)
    | none => none
  | .draw ops, fr, st => match drawA call ops [] st.heap fr st with
    | some (fr, st) => some (.normal, fr, st)
    | none => none
  | .seq a b, fr, st => match ih a fr st with
    | some (.normal, fr, st) => ih b fr st
    | r => r
  | .cond x a b, fr, st => match evA fr x with
    | some (.bool true) => ih a fr st
    | some (.bool false) => ih b fr st
    | _ => none
  | .block id a, fr, st => match ih a fr st with
    | some (.exit fN, fr, st) => match Nat.beq fN id with
      | true => some (.normal, fr, st)
      | false => some (.exit fN, fr, st)
    | r => r
  | .loop a, fr, st => match ih a fr st with
    | some (.normal, fr, st) => ih (.loop a) fr st
    | r => r
  | .exit id, fr, st => some (.exit id, fr, st)
  | .ret, fr, st => some (.ret, fr, st)
def exec (call : CallA) : Nat -> AC -> Fr -> St -> Option (AExit × Fr × St)
  | 0 => fun _ _ _ => none
  | n + 1 => execStep call (exec call n)
def params : Nat -> List AV -> Fr -> Fr
  | _, [], fr => fr
  | i, v :: vs, fr => params (i + 1) vs (fr.put (some v) (key i))
def resultsA (H : Pos -> Option AB) (fr : Fr) : List ARV -> Option (List AV)
  | [] => some []
  | .tmp p :: rs => match fr.get p with
    | some v => match resultsA H fr rs with
      | some vs => some (v :: vs)
      | none => none
    | none => none
  | .cell p n :: rs => match fr.get p with
    | some q => match (OpK.load n).run H .h [q] with
      | some (.val v) => match resultsA H fr rs with
        | some vs => some (v :: vs)
        | none => none
      | _ => none
    | none => none
def packA : List AV -> AV
  | [v] => v
  | vs => .tuple vs
abbrev Oracle := FuncId -> Option (List AV -> St -> Option (AV × St))
def callA (O : Oracle) (G : T AFunc) (m : Nat) : Nat -> CallA
  | 0 => fun _ _ _ => none
  | d + 1 => fun f args st => match O f with
    | some s => s args st
    | none => match G.get (key f) with
      | some F => match Nat.beq args.length F.nparams with
        | true => match exec (callA O G m d) m F.code (params 0 args .e) st with
          | some (.normal, fr, st') => match resultsA (fun b => st'.heap.get b) fr F.results with
            | some vs => some (packA vs, st')
            | none => none
          | some (.ret, fr, st') => match resultsA (fun b => st'.heap.get b) fr F.results with
            | some vs => some (packA vs, st')
            | none => none
          | _ => none
        | false => none
      | none => none
end Go.Ai
end
section
namespace Go.Ai
inductive TK where
  | bool
  | int (k : IntKind)
  | string
  | ptr (elem : Nat)
  | slice (elem : Nat)
  | array (n elem : Nat)
  | map (k e : Nat)
  | struct (fs : List (Nat × Nat × Bool))
  | func
  | iface
  | upt
  | other
  deriving Inhabited
structure TI where
  k : TK
  size : Nat
  bytes : Nat
  zero : Option (List AV)
  eqPlainStruct : Bool := false
  deriving Inhabited
def scalarOf : Value -> Option AV
  | .bool b => some (.bool b)
  | .int k n => some (.int k n)
  | .string s => some (.str (s.data.toList.map UInt8.toNat))
  | .pointer none => some .nilp
  | .slice none 0 0 => some .nils
  | .map none => some .nilm
  | .func (.func f) ⟨[]⟩ ⟨[]⟩ => some (.func f [] [])
  | .nilFunc => some .nilf
  | .nilIface => some .nili
  | _ => none
def scalarsOf : List Value -> Option (List AV)
  | [] => some []
  | v :: vs => match scalarOf v, scalarsOf vs with
    | some a, some as => some (a :: as)
    | _, _ => none
def constOf : Value -> Option AV
  | .agg cs => match scalarsOf cs.toList with
    | some l => some (.agg l)
    | none => none
  | v => scalarOf v
def cOpd : Operand -> Option AOpd
  | .tmp t => some (.t (key t))
  | .const v => match constOf v with
    | some a => some (.c a)
    | none => none
  | .func f => some (.c (.func f [] []))
  | .global _ => none
def cOpds : List Operand -> Option (List AOpd)
  | [] => some []
  | x :: xs => match cOpd x, cOpds xs with
    | some a, some as => some (a :: as)
    | _, _ => none
def TK.isAgg : TK -> Bool
  | .struct _ => true
  | .array _ _ => true
  | _ => false
abbrev TT := T TI
def eqKOf (tt : TT) (t : Nat) : Option EqK := match tt.get (key t) with
  | some ti => match ti.k with
    | .bool => some .bool
    | .int _ => some .num
    | .string => some .num
    | .ptr _ => some .ptr
    | .slice _ => some .slice
    | .map _ _ => some .map
    | .func => some .func
    | .iface => some .iface
    | .struct fs => match ti.eqPlainStruct, fields fs with
      | true, some l => some (.struct l)
      | _, _ => none
    | _ => none
  | none => none
where
  fields : List (Nat × Nat × Bool) -> Option (List (Nat × PK))
    | [] => some []
    | (off, t, named) :: fs => match named, tt.get (key t), fields fs with
      | true, some ti, some l => match ti.k with
        | .bool => some ((off, .b) :: l)
        | .int _ => some ((off, .i) :: l)
        | .string => some ((off, .s) :: l)
        | _ => none
      | _, _, _ => none
def loadN (ti : TI) : Option Nat := match ti.k.isAgg with
  | true => some ti.size
  | false => none
def isBld (tt : TT) (t : Nat) (ti : TI) : Bool := match ti.k with
  | .struct ((_, p, _) :: _) => match tt.get (key p) with
    | some pi => match pi.k with
      | .ptr e => Nat.beq e t
      | _ => false
    | none => false
  | _ => false
def optOpd : Option Operand -> List Operand
  | some x => [x]
  | none => []
def cOp (tt : TT) : Op -> Option (OpK × List AOpd × Cls)
  | .move x => match cOpd x with
    | some a => some (.move, [a], .pure)
    | none => none
  | .assign x => match cOpd x with
    | some a => some (.move, [a], .pure)
    | none => none
  | .pick c a b => match cOpds [c, a, b] with
    | some l => some (.pick, l, .pure)
    | none => none
  | .alloc t => match tt.get (key t) with
    | some ti => match ti.zero with
      | some z => match isBld tt t ti with
        | true => some (.allocT t z, [], .eff)
        | false => some (.alloc z, [], .new)
      | none => none
    | none => none
  | .box _ x => match cOpd x with
    | some a => some (.box, [a], .new)
    | none => none
  | .build t ps => match tt.get (key t), cOpds (ps.toList.map (·.2)) with
    | some ti, some l => match ti.k, ti.zero with
      | .struct fs, some z => match places tt fs (ps.toList.map (·.1)), allIn tt fs with
        | some p, true => some (.build z p, l, .pure)
        | _, _ => none
      | .array _ e, some z => match tt.get (key e) with
        | some te => some (.build z (ps.toList.map fun x => (x.1 * te.size, te.size)), l, .pure)
        | none => none
      | _, _ => none
    | _, _ => none
  | .buildSlice t len ps => match tt.get (key t), cOpds (ps.toList.map (·.2)) with
    | some ti, some l => match ti.k with
      | .slice e => match tt.get (key e) with
        | some te => match te.zero, Nat.ble (len * te.size) 16777216 with
          | some z, true => some (.buildSlice te.size len z (ps.toList.map (·.1)), l, .new)
          | _, _ => none
        | none => none
      | _ => none
    | _, _ => none
  | .load t a => match tt.get (key t), cOpd a with
    | some ti, some a => some (.load (loadN ti), [a], .read)
    | _, _ => none
  | .store t a x => match tt.get (key t), cOpds [a, x] with
    | some ti, some l => some (.store ti.size, l, .eff)
    | _, _ => none
  | .nilCheck x => match cOpd x with
    | some a => some (.nilCheck, [a], .pure)
    | none => none
  | .binOp op t x y _ => match eqKOf tt t, cOpds [x, y] with
    | some q, some l => some (.bin op q, l, .pure)
    | none, some l => match op with
      | .eql => none
      | .neq => none
      | _ => some (.bin op .num, l, .pure)
    | _, _ => none
  | .unOp op _ x => match cOpd x with
    | some a => some (.un op, [a], .pure)
    | none => none
  | .convert src dst x => match tt.get (key src), tt.get (key dst), cOpd x with
    | some s, some d, some a => match s.k, d.k with
      | .int _, .int k => some (.conv (.int k), [a], .pure)
      | .string, .string => some (.conv .same, [a], .pure)
      | .string, .slice e => match tt.get (key e) with
        | some te => match te.k with
          | .int .u8 => some (.conv .bytes, [a], .new)
          | _ => none
        | none => none
      | .slice e, .string => match tt.get (key e) with
        | some te => match te.k with
          | .int .u8 => some (.conv .ofBytes, [a], .read)
          | _ => none
        | none => none
      | .ptr e, .upt => match tt.get (key e) with
        | some te => match Nat.beq te.size 0 with
          | false => some (.toU, [a], .eff)
          | true => none
        | none => none
      | .upt, .ptr e => match tt.get (key e) with
        | some te => match Nat.beq te.size 0 with
          | false => some (.fromU e te.size, [a], .eff)
          | true => none
        | none => none
      | _, _ => none
    | _, _, _ => none
  | .makeInterface t x => match tt.get (key t), cOpd x with
    | some ti, some a => match ti.k with
      | .iface => none
      | .other => none
      | _ => some (.mkIface t, [a], .pure)
    | _, _ => none
  | .makeFunc fn first captured => match fn, cOpds (first.toList ++ captured.toList) with
    | .func f, some l => some (.mkFunc f first.size, l, .pure)
    | _, _ => none
  | .makeMap t r => match tt.get (key t) with
    | some ti => match ti.k, r with
      | .map _ _, none => some (.mkMap, [], .new)
      | .map _ _, some (.const (.int _ _)) => some (.mkMap, [], .new)
      | _, _ => none
    | none => none
  | .makeSlice t l c => match tt.get (key t), cOpds [l, c] with
    | some ti, some xs => match ti.k with
      | .slice e => match tt.get (key e) with
        | some te => match te.zero with
          | some z => some (.mkSlice te.size te.bytes z, xs, .new)
          | none => none
        | none => none
      | _ => none
    | _, _ => none
  | .slice t x lo hi mx => match tt.get (key t), cOpds ([x] ++ optOpd lo ++ optOpd hi ++ optOpd mx) with
    | some ti, some xs => match ti.k with
      | .string => match mx with
        | none => some (.sliceS lo.isSome hi.isSome, xs, .pure)
        | some _ => none
      | .slice e => match tt.get (key e) with
        | some te => some (.sliceL te.size lo.isSome hi.isSome mx.isSome, xs, .pure)
        | none => none
      | _ => none
    | _, _ => none
  | .fieldAddr t x f => match tt.get (key t), cOpd x with
    | some ti, some a => match ti.k with
      | .struct fs => match nth fs f with
        | some (off, ft, _) => match tt.get (key ft) with
          | some fi => match Nat.beq fi.size 0 with
            | false => some (.fieldA off, [a], .pure)
            | true => none
          | none => none
        | none => none
      | _ => none
    | _, _ => none
  | .field t x f => match tt.get (key t), cOpd x with
    | some ti, some a => match ti.k with
      | .struct fs => match nth fs f with
        | some (off, ft, _) => match tt.get (key ft) with
          | some fi => some (.field off (loadN fi), [a], .pure)
          | none => none
        | none => none
      | _ => none
    | _, _ => none
  | .indexAddr t x ix => match tt.get (key t), cOpds [x, ix] with
    | some ti, some l => match ti.k with
      | .slice e => match tt.get (key e) with
        | some te => some (.idxA te.size none, l, .pure)
        | none => none
      | .array n e => match tt.get (key e) with
        | some te => some (.idxA te.size (some n), l, .pure)
        | none => none
      | _ => none
    | _, _ => none
  | .index t x ix => match tt.get (key t), cOpds [x, ix] with
    | some ti, some l => match ti.k with
      | .string => some (.idxS, l, .pure)
      | _ => none
    | _, _ => none
  | .lookup t x ix ok => match tt.get (key t), cOpds [x, ix] with
    | some ti, some l => match ti.k with
      | .map k e => match tt.get (key k), tt.get (key e) with
        | some tk, some te => match tk.k, te.zero with
          | .int _, some z => some (.lookup .i (zeroAV te z) ok, l, .read)
          | .string, some z => some (.lookup .s (zeroAV te z) ok, l, .read)
          | .bool, some z => some (.lookup .b (zeroAV te z) ok, l, .read)
          | _, _ => none
        | _, _ => none
      | _ => none
    | _, _ => none
  | .mapUpdate t m k v => cSet tt t m k v
  | .insert t m k v => cSet tt t m k v
  | .range t x => match tt.get (key t), cOpd x with
    | some ti, some a => match ti.k with
      | .string => some (.rangeS, [a], .new)
      | _ => none
    | _, _ => none
  | .next it isString => match isString, cOpd it with
    | true, some a => some (.nextS, [a], .eff)
    | _, _ => none
  | .extract x i => match cOpd x with
    | some a => some (.extract i, [a], .pure)
    | none => none
  | .call c => match cOpds c.args.toList with
    | none => none
    | some xs => match c.callee with
      | .value (.func f) => some (.callF f, xs, .eff)
      | .value x => match cOpd x with
        | some a => some (.callV, a :: xs, .eff)
        | none => none
      | .invoke _ _ => none
      | .builtin b => match b with
        | .len => match c.argTypes.toList, xs with
          | t :: _, [_] => match tt.get (key t) with
            | some ti => match ti.k with
              | .string => some (.lenB .s, xs, .pure)
              | .slice _ => some (.lenB .l, xs, .pure)
              | .map _ _ => some (.lenB .m, xs, .read)
              | _ => none
            | none => none
          | _, _ => none
        | .append => match c.argTypes.toList with
          | t :: t2 :: _ => match tt.get (key t), tt.get (key t2) with
            | some ti, some l9 => match ti.k, l9.k with
              | _, .int _ => none
              | .slice e, .string => match tt.get (key e) with
                | some te => match te.zero, te.k, Nat.beq te.size 1 with
                  | some _, .int .u8, true => some (.appendT e te.bytes, xs, .eff)
                  | _, _, _ => none
                | none => none
              | .slice e, _ => match tt.get (key e) with
                | some te => match te.zero with
                  | some _ => some (.append te.size te.bytes, xs, .eff)
                  | none => none
                | none => none
              | _, _ => none
            | _, _ => none
          | _ => none
        | .copy => match c.argTypes.toList with
          | t :: _ => match tt.get (key t) with
            | some ti => match ti.k with
              | .slice e => match tt.get (key e) with
                | some te => some (.copyB te.size, xs, .eff)
                | none => none
              | _ => none
            | none => none
          | _ => none
        | .unsafeSliceData => match xs with
          | [_] => some (.sliceData, xs, .pure)
          | _ => none
        | .unsafeString => match c.argTypes.toList with
          | [t, _] => match tt.get (key t) with
            | some ti => match ti.k with
              | .ptr e => match tt.get (key e) with
                | some te => match te.k, Nat.beq te.size 1 with
                  | .int .u8, true => some (.unsafeStr e, xs, .eff)
                  | _, _ => none
                | none => none
              | _ => none
            | none => none
          | _ => none
        | .min => match xs with
          | [_, _] => some (.minB, xs, .pure)
          | _ => none
        | .max => match xs with
          | [_, _] => some (.maxB, xs, .pure)
          | _ => none
        | .clear => match c.argTypes.toList with
          | t :: _ => match tt.get (key t) with
            | some ti => match ti.k with
              | .slice e => match tt.get (key e) with
                | some te => match te.zero with
                  | some z => some (.clearS te.size z, xs, .eff)
                  | none => none
                | none => none
              | _ => none
            | none => none
          | _ => none
        | _ => none
  | _ => none
where
  allIn (tt : TT) : List (Nat × Nat × Bool) -> Bool
    | [] => true
    | (_, t, _) :: l => match tt.get (key t) with
      | some _ => allIn tt l
      | none => false
  places (tt : TT) (fs : List (Nat × Nat × Bool)) : List Nat -> Option (List (Nat × Nat))
    | [] => some []
    | i :: is => match nth fs i, places tt fs is with
      | some (off, t, _), some l => match tt.get (key t) with
        | some ti => some ((off, ti.size) :: l)
        | none => none
      | _, _ => none
  zeroAV (te : TI) (z : List AV) : AV := match te.k.isAgg with
    | true => .agg z
    | false => match z with
      | [v] => v
      | _ => .agg z
  cSet (tt : TT) (t : Nat) (m k v : Operand) : Option (OpK × List AOpd × Cls) :=
    match tt.get (key t), cOpds [m, k, v] with
    | some ti, some l => match ti.k with
      | .map kt _ => match tt.get (key kt) with
        | some tk => match tk.k with
          | .int _ => some (.mapSet .i, l, .eff)
          | .string => some (.mapSet .s, l, .eff)
          | .bool => some (.mapSet .b, l, .eff)
          | _ => none
        | none => none
      | _ => none
    | _, _ => none
def cGuard (ops : Array Oper) : Option (Nat × Bool) -> Option (Option (Pos × Bool))
  | none => some none
  | some (j, b) => match ops[j]? with
    | some o => match o.dst with
      | some d => some (some (key d, b))
      | none => none
    | none => none
def befs : List Oper -> List Nat -> List Nat
  | [], acc => acc
  | o :: os, acc => befs os (acc ++ [o.after.toList.foldl (fun s e => match Region.binds .any e with
      | true => s ||| 2 ^ e.on ||| (nth acc e.on).getD 0
      | false => s) 0])
def cOpers (tt : TT) (nt : Nat) (ops : Array Oper) : List Oper -> List Nat -> Option (List AOper)
  | [], _ => some []
  | o :: os, bs => match cGuard ops o.guard, cOpers tt nt ops os bs.tail, dstIn nt o.dst with
    | some g, some l, true => match cOp tt o.op with
      | some (k, xs, cls) => some ({ dst := o.dst.map key, k := k, xs := xs, guard := g, cls := cls, bef := bs.headD 0 } :: l)
      | none => some ({ dst := o.dst.map key, k := .bad, xs := [], guard := g, cls := .eff, bef := bs.headD 0 } :: l)
    | _, _, _ => none
where
  dstIn (nt : Nat) : Option Tmp -> Bool
    | none => true
    | some d => Nat.blt d nt
def AOper.looks (o : AOper) : List Pos :=
  (match o.guard with | some (p, _) => [p] | none => []) ++ o.xs.filterMap fun | .t p => some p | .c _ => none
def memPos (p : Pos) : List Pos -> Bool
  | [] => false
  | q :: l => Pos.beq p q || memPos p l
def apartA (a b : AOper) : Bool :=
  (match a.dst with
   | some d => !memPos d b.looks && (match b.dst with | some d' => !Pos.beq d d' | none => true)
   | none => true) &&
  (match b.dst with
   | some d => !memPos d a.looks
   | none => true)
def lateO : List (Nat × AOper) -> List (Nat × AOper) -> List (Nat × AOper)
  | [], held => held
  | (i, o) :: l, held => match o.cls with
    | .eff => held.filter (fun x => o.bef.testBit x.1) ++ (i, o) :: lateO l (held.filter fun x => !o.bef.testBit x.1)
    | _ => lateO l (held ++ [(i, o)])
def numb : Nat -> List AOper -> List (Nat × AOper)
  | _, [] => []
  | i, o :: os => (i, o) :: numb (i + 1) os
def drawOk (m : Nat) : Nat -> List (Nat × AOper) -> Bool
  | seen, [] => Nat.beq seen (2 ^ m - 1)
  | seen, (i, o) :: l => Nat.blt i m && !seen.testBit i && Nat.beq (o.bef &&& seen) o.bef && (match o.cls with | .eff => Nat.beq o.bef seen | _ => true) &&
    (l.all fun x => x.2.bef.testBit i || apartA o x.2) && drawOk m (seen ||| 2 ^ i) l
def cCode (tt : TT) (nt : Nat) : Code -> Option AC
  | .skip => some .skip
  | .region _ ops draw => match cOpers tt nt ops ops.toList (befs ops.toList []) with
    | none => none
    | some l => match draw with
      | false => some (.region l)
      | true => match drawOk l.length 0 (lateO (numb 0 l) []) with
        | true => some (.draw (lateO (numb 0 l) []))
        | false => none
  | .seq a b => match cCode tt nt a, cCode tt nt b with
    | some a, some b => some (.seq a b)
    | _, _ => none
  | .cond c a b => match cOpd c, cCode tt nt a, cCode tt nt b with
    | some c, some a, some b => some (.cond c a b)
    | _, _, _ => none
  | .block id a => match cCode tt nt a with
    | some a => some (.block id a)
    | none => none
  | .loop a => match cCode tt nt a with
    | some a => some (.loop a)
    | none => none
  | .exit id => some (.exit id)
  | .ret => some .ret
  | .refuse _ => some (.region [{ dst := none, k := .bad, xs := [], guard := none, cls := .eff, bef := 0 }])
  | _ => none
def cResults (tt : TT) : List ResultVar -> Option (List ARV)
  | [] => some []
  | .tmp t :: rs => match cResults tt rs with
    | some l => some (.tmp (key t) :: l)
    | none => none
  | .cell a t :: rs => match tt.get (key t), cResults tt rs with
    | some ti, some l => some (.cell (key a) (loadN ti) :: l)
    | _, _ => none
def cFunc (tt : TT) (f : Func) : Option AFunc := match f.body with
  | some c => match cCode tt f.ntmps c, cResults tt f.results.toList, Nat.ble (f.params.size + f.nfree) f.ntmps with
    | some a, some rs, true => some { code := a, nparams := f.params.size + f.nfree, results := rs }
    | _, _, _ => none
  | none => none
end Go.Ai
end
section
namespace Go.Ai
structure Loc where
  blk : Nat
  base : Nat
  size : Nat
abbrev Cells := Addr -> Option Value
inductive VRel (ρ : Pos -> Loc) (n : Nat) (C : Cells) : AV -> Value -> Prop where
  | bool (b : Bool) : VRel ρ n C (.bool b) (.bool b)
  | int (k : IntKind) (i : Int) : VRel ρ n C (.int k i) (.int k i)
  | str (s : List Nat) (bs : ByteArray) (h : bs.data.toList.map UInt8.toNat = s) : VRel ρ n C (.str s) (.string bs)
  | nilp : VRel ρ n C .nilp (.pointer none)
  | ptr (b : Pos) (off : Nat) (h : b.toNat < n) : VRel ρ n C (.ptr b off) (.pointer (some ⟨(ρ b).blk, (ρ b).base + off, none⟩))
  | fp (xs : List (List AV)) (i j es : Nat) (blk base : Nat) (cell : Nat -> Nat -> Value)
      (hl : ∀ (i : Nat) (cs : List AV), xs[i]? = some cs -> cs.length = es)
      (hc : ∀ (i j : Nat) (cs : List AV) (v : AV), xs[i]? = some cs -> cs[j]? = some v -> C ⟨blk, base + i * es + j, none⟩ = some (cell i j))
      (hv : ∀ (i j : Nat) (cs : List AV) (v : AV), xs[i]? = some cs -> cs[j]? = some v -> VRel ρ n C v (cell i j)) :
      VRel ρ n C (.fp xs i j) (.pointer (some ⟨blk, base + i * es + j, none⟩))
  | nils : VRel ρ n C .nils (.slice none 0 0)
  | slice (b : Pos) (off len : Nat) (cap : Option Nat) (es aj : Nat) (a : Addr) (hl : len <= aj) (hc : ∀ c, cap = some c -> c = aj)
      (ha : aj ≠ 0 -> b.toNat < n /\ a = ⟨(ρ b).blk, (ρ b).base + off, none⟩ /\ (ρ b).base + off + aj * es <= (ρ b).size)
      (hk : cap = none -> b.toNat < n) :
      VRel ρ n C (.slice b off len cap es) (.slice (some a) len aj)
  | fl (xs : List (List AV)) (es aj : Nat) (a : Addr) (cell : Nat -> Nat -> Value) (hl : xs.length <= aj)
      (hs : xs ≠ [] -> a.spot = none)
      (cg : ∀ (i : Nat) (cs : List AV), xs[i]? = some cs -> cs.length = es)
      (hc : ∀ (i j : Nat) (cs : List AV) (v : AV), xs[i]? = some cs -> cs[j]? = some v -> C ⟨a.block, a.off + i * es + j, none⟩ = some (cell i j))
      (hv : ∀ (i j : Nat) (cs : List AV) (v : AV), xs[i]? = some cs -> cs[j]? = some v -> VRel ρ n C v (cell i j)) :
      VRel ρ n C (.fl xs es) (.slice (some a) xs.length aj)
  | nilm : VRel ρ n C .nilm (.map none)
  | map (b : Pos) (h : b.toNat < n) : VRel ρ n C (.map b) (.map (some (ρ b).blk))
  | func (f : FuncId) (x y : List AV) (x' y' : Array Value) (hx : x.length = x'.size) (hy : y.length = y'.size)
      (cj : ∀ (i : Nat) (v : AV) (v' : Value), x[i]? = some v -> x'[i]? = some v' -> VRel ρ n C v v') (fY : ∀ (i : Nat) (v : AV) (v' : Value), y[i]? = some v -> y'[i]? = some v' -> VRel ρ n C v v') :
      VRel ρ n C (.func f x y) (.func (.func f) x' y')
  | nilf : VRel ρ n C .nilf .nilFunc
  | nili : VRel ρ n C .nili .nilIface
  | iface (t : TypeId) (v : AV) (x : Value) (h : VRel ρ n C v x) : VRel ρ n C (.iface t v) (.iface t x)
  | agg (l : List AV) (cs : Array Value) (hl : l.length = cs.size) (h : ∀ (i : Nat) (v : AV) (v' : Value), l[i]? = some v -> cs[i]? = some v' -> VRel ρ n C v v') :
      VRel ρ n C (.agg l) (.agg cs)
  | tuple (l : List AV) (cs : Array Value) (hl : l.length = cs.size) (h : ∀ (i : Nat) (v : AV) (v' : Value), l[i]? = some v -> cs[i]? = some v' -> VRel ρ n C v v') :
      VRel ρ n C (.tuple l) (.tuple cs)
theorem VRel.mono {ρ ρ' : Pos -> Loc} {n n' : Nat} {C : Cells} {v : AV} {x : Value} (h : VRel ρ n C v x)
    (ak : ∀ b : Pos, b.toNat < n -> ρ' b = ρ b) (hn : n <= n') : VRel ρ' n' C v x := by
  induction h with
  | bool b => exact .bool b
  | int k i => exact .int k i
  | str s bs h => exact .str s bs h
  | nilp => exact .nilp
  | ptr b off h => rw [<- ak b h]; exact .ptr b off (by omega)
  | fp xs i j es blk base cell hl hc _ ih => exact .fp xs i j es blk base cell hl hc ih
  | nils => exact .nils
  | slice b off len cap es aj a hl hc ha hk =>
    refine .slice b off len cap es aj a hl hc (fun h0 => ?_) (fun h0 => by have := hk h0; omega)
    obtain ⟨h1, h2, h3⟩ := ha h0
    rw [ak b h1]; exact ⟨by omega, h2, h3⟩
  | fl xs es aj a cell hl hs cg hc _ ih => exact .fl xs es aj a cell hl hs cg hc ih
  | nilm => exact .nilm
  | map b h => rw [<- ak b h]; exact .map b (by omega)
  | func f x y x' y' hx hy _ _ F3 F4 => exact .func f x y x' y' hx hy F3 F4
  | nilf => exact .nilf
  | nili => exact .nili
  | iface t v x _ ih => exact .iface t v x ih
  | agg l cs hl _ ih => exact .agg l cs hl ih
  | tuple l cs hl _ ih => exact .tuple l cs hl ih
def VsRel (ρ : Pos -> Loc) (n : Nat) (C : Cells) (l : List AV) (xs : List Value) : Prop :=
  l.length = xs.length /\ ∀ (i : Nat) (v : AV) (x : Value), l[i]? = some v -> xs[i]? = some x -> VRel ρ n C v x
section
variable {ρ ρ' : Pos -> Loc} {n n' : Nat} {C : Cells}
theorem VsRel.mono {l : List AV} {xs : List Value} (h : VsRel ρ n C l xs) (ak : ∀ b : Pos, b.toNat < n -> ρ' b = ρ b) (hn : n <= n') :
    VsRel ρ' n' C l xs := ⟨h.1, fun i v x hv hx => (h.2 i v x hv hx).mono ak hn⟩
theorem VsRel.nil : VsRel ρ n C [] [] := ⟨rfl, fun _ _ _ h => by simp at h⟩
theorem VsRel.cons {v : AV} {x : Value} {l : List AV} {xs : List Value} (h : VRel ρ n C v x) (hs : VsRel ρ n C l xs) : VsRel ρ n C (v :: l) (x :: xs) :=
  ⟨by simp [hs.1], fun i u y hu hy => by
    cases i with
    | zero => simp at hu hy; subst hu; subst hy; exact h
    | succ i => simp at hu hy; exact hs.2 i u y hu hy⟩
theorem VsRel.cons_inv {v : AV} {l : List AV} {xs : List Value} (h : VsRel ρ n C (v :: l) xs) : ∃ x gi, xs = x :: gi /\ VRel ρ n C v x /\ VsRel ρ n C l gi := by
  cases xs with
  | nil => have := h.1; simp at this
  | cons x gi =>
    exact ⟨x, gi, rfl, h.2 0 v x rfl rfl, by have := h.1; simpa using this, fun i u y hu hy => h.2 (i + 1) u y (by simpa using hu) (by simpa using hy)⟩
theorem VsRel.nil_inv {xs : List Value} (h : VsRel ρ n C [] xs) : xs = [] := by
  have := h.1; cases xs with
  | nil => rfl
  | cons a b => simp at this
theorem VsRel.append {l m : List AV} {xs ys : List Value} (h : VsRel ρ n C l xs) (k : VsRel ρ n C m ys) : VsRel ρ n C (l ++ m) (xs ++ ys) := by
  refine ⟨by simp [h.1, k.1], fun i v x hv hx => ?_⟩
  rcases Nat.lt_or_ge i l.length with hi | hi
  . rw [List.getElem?_append_left hi] at hv
    rw [List.getElem?_append_left (by rw [<- h.1]; exact hi)] at hx
    exact h.2 i v x hv hx
  . rw [List.getElem?_append_right hi] at hv
    rw [List.getElem?_append_right (by rw [<- h.1]; exact hi), <- h.1] at hx
    exact k.2 _ v x hv hx
theorem VsRel.take {l : List AV} {xs : List Value} (h : VsRel ρ n C l xs) (m : Nat) : VsRel ρ n C (l.take m) (xs.take m) := by
  refine ⟨by simp [h.1], fun i v x hv hx => ?_⟩
  rw [List.getElem?_take] at hv hx
  split at hv
  . rename_i hi; rw [if_pos hi] at hx; exact h.2 i v x hv hx
  . cases hv
theorem VsRel.drop {l : List AV} {xs : List Value} (h : VsRel ρ n C l xs) (m : Nat) : VsRel ρ n C (l.drop m) (xs.drop m) := by
  refine ⟨by simp [h.1], fun i v x hv hx => ?_⟩
  rw [List.getElem?_drop] at hv hx
  exact h.2 _ v x hv hx
theorem VsRel.splice {l vs : List AV} {xs ys : List Value} (h : VsRel ρ n C l xs) (k : VsRel ρ n C vs ys) (i : Nat) :
    VsRel ρ n C (Go.Ai.splice l i vs) (Go.Ai.splice xs i ys) := by
  unfold Go.Ai.splice
  rw [k.1]
  exact (h.take i).append (k.append (h.drop _))
theorem VsRel.get {l : List AV} {xs : List Value} (h : VsRel ρ n C l xs) {i : Nat} {v : AV} (hv : l[i]? = some v) : ∃ x, xs[i]? = some x /\ VRel ρ n C v x := by
  have hi : i < xs.length := by rw [<- h.1]; exact (List.getElem?_eq_some_iff.1 hv).1
  exact ⟨xs[i], List.getElem?_eq_getElem hi, h.2 i v _ hv (List.getElem?_eq_getElem hi)⟩
theorem VRel.agg_of {l : List AV} {cs : Array Value} (h : VsRel ρ n C l cs.toList) : VRel ρ n C (.agg l) (.agg cs) :=
  .agg l cs (by simpa using h.1) fun i v x hv hx => h.2 i v x hv (by simpa using hx)
theorem VRel.tuple_of {l : List AV} {cs : Array Value} (h : VsRel ρ n C l cs.toList) : VRel ρ n C (.tuple l) (.tuple cs) :=
  .tuple l cs (by simpa using h.1) fun i v x hv hx => h.2 i v x hv (by simpa using hx)
theorem VRel.agg_inv {l : List AV} {x : Value} (h : VRel ρ n C (.agg l) x) : ∃ cs, x = .agg cs /\ VsRel ρ n C l cs.toList := by
  cases h with | agg _ cs hl h => exact ⟨cs, rfl, by simpa using hl, fun i v x hv hx => h i v x hv (by simpa using hx)⟩
theorem VRel.tuple_inv {l : List AV} {x : Value} (h : VRel ρ n C (.tuple l) x) : ∃ cs, x = .tuple cs /\ VsRel ρ n C l cs.toList := by
  cases h with | tuple _ cs hl h => exact ⟨cs, rfl, by simpa using hl, fun i v x hv hx => h i v x hv (by simpa using hx)⟩
theorem VRel.func_inv {f : FuncId} {a b : List AV} {x : Value} (h : VRel ρ n C (.func f a b) x) :
    ∃ a' b', x = .func (.func f) a' b' /\ VsRel ρ n C a a'.toList /\ VsRel ρ n C b b'.toList := by
  cases h with
  | func _ _ _ a' b' hx hy h1 h2 => exact ⟨a', b', rfl, ⟨by simpa using hx, fun i v x hv hx => h1 i v x hv (by simpa using hx)⟩, ⟨by simpa using hy, fun i v x hv hx => h2 i v x hv (by simpa using hx)⟩⟩
theorem VRel.cells {v : AV} {x : Value} (h : VRel ρ n C v x) : VsRel ρ n C v.cells x.cells.toList := by
  by_cases hv : ∃ l, v = .agg l
  . obtain ⟨l, rfl⟩ := hv
    obtain ⟨cs, rfl, hs⟩ := h.agg_inv
    exact hs
  . have h1 : v.cells = [v] := by cases v <;> first | rfl | exact absurd ⟨_, rfl⟩ hv
    have h2 : x.cells = #[x] := by cases h <;> first | rfl | exact absurd ⟨_, rfl⟩ hv
    rw [h1, h2]; exact VsRel.cons h VsRel.nil
def BRel (ρ : Pos -> Loc) (n : Nat) (C : Cells) (L : Loc) (w : World) : AB -> Prop
  | .cells cs fz => ∃ (c : Array Value) (e : TypeId) (fr : Nat × Nat), w.heap[L.blk]? = some (.cells c e fr) /\ c.size = L.size /\ L.base + cs.length <= c.size /\
      VsRel ρ n C cs ((c.toList.drop L.base).take cs.length) /\ ∀ i, fz <= i -> L.base + i < c.size -> ¬ (fr.1 <= L.base + i /\ L.base + i < fr.2)
  | .map es clock => ∃ (es' : Array MapEntry), w.heap[L.blk]? = some (.map es' clock) /\ es.length = es'.size /\
      ∀ (i : Nat) (e : AV × AV × Nat) (e' : MapEntry), es[i]? = some e -> es'[i]? = some e' -> VRel ρ n C e.1 e'.key /\ VRel ρ n C e.2.1 e'.val /\ e.2.2 = e'.born
  | .siter s pos => ∃ (bs : ByteArray), w.heap[L.blk]? = some (.stringIter bs pos) /\ bs.data.toList.map UInt8.toNat = s /\ L.base = 0
  | .typed t cs => ∃ (c : Array Value) (fr : Nat × Nat), w.heap[L.blk]? = some (.cells c t fr) /\ c.size = L.size /\ L.base + cs.length <= c.size /\
      VsRel ρ n C cs ((c.toList.drop L.base).take cs.length) /\ (∀ i, 0 <= i -> L.base + i < c.size -> ¬ (fr.1 <= L.base + i /\ L.base + i < fr.2)) /\ L.base = 0
theorem BRel.mono {L : Loc} {w : World} {x : AB} (h : BRel ρ n C L w x) (ak : ∀ b : Pos, b.toNat < n -> ρ' b = ρ b) (hn : n <= n') : BRel ρ' n' C L w x := by
  cases x with
  | cells cs fz => obtain ⟨c, e, fr, h1, h2, h3, h4, h5⟩ := h; exact ⟨c, e, fr, h1, h2, h3, h4.mono ak hn, h5⟩
  | map es clock => obtain ⟨es', h1, h2, h3⟩ := h; exact ⟨es', h1, h2, fun i e e' he dZ => let ⟨a, b, c⟩ := h3 i e e' he dZ; ⟨a.mono ak hn, b.mono ak hn, c⟩⟩
  | siter s pos => exact h
  | typed t cs => obtain ⟨c, fr, h1, h2, h3, h4, h5⟩ := h; exact ⟨c, fr, h1, h2, h3, h4.mono ak hn, h5⟩
theorem BRel.of_heap {L : Loc} {w w' : World} {x : AB} (h : BRel ρ n C L w x) (hw : w'.heap[L.blk]? = w.heap[L.blk]?) : BRel ρ n C L w' x := by
  cases x with
  | cells cs fz => obtain ⟨c, e, fr, h1, h2⟩ := h; exact ⟨c, e, fr, by rw [hw]; exact h1, h2⟩
  | map es clock => obtain ⟨es', h1, h2⟩ := h; exact ⟨es', by rw [hw]; exact h1, h2⟩
  | siter s pos => obtain ⟨bs, h1, h2⟩ := h; exact ⟨bs, by rw [hw]; exact h1, h2⟩
  | typed t cs => obtain ⟨c, fr, h1, h2⟩ := h; exact ⟨c, fr, by rw [hw]; exact h1, h2⟩
end
structure WRel (ρ : Pos -> Loc) (C : Cells) (st : St) (w : World) : Prop where
  live : ∀ b x, st.heap.get b = some x -> b.toNat < st.next.toNat /\ (ρ b).blk < w.heap.size /\ BRel ρ st.next.toNat C (ρ b) w x
  inj : ∀ b b' x x', st.heap.get b = some x -> st.heap.get b' = some x' -> (ρ b).blk = (ρ b').blk -> b = b'
  froz : ∀ a v, C a = some v -> w.cell? a = some v /\ ∀ b x, st.heap.get b = some x -> (ρ b).blk ≠ a.block
  whole : ∀ a v, C a = some v -> ∀ o, C ⟨a.block, o, none⟩ = none -> w.cell? ⟨a.block, o, none⟩ = none
structure Evo (ρ : Pos -> Loc) (st : St) (w : World) (ρ' : Pos -> Loc) (st' : St) (w' : World) : Prop where
  os : w'.os = w.os
  tape : w'.tape = w.tape
  output : w'.output = w.output
  size : w.heap.size <= w'.heap.size
  block : ∀ k, k < w.heap.size -> (∀ b x, st.heap.get b = some x -> (ρ b).blk ≠ k) -> w'.heap[k]? = w.heap[k]?
  orig : ∀ b x, st'.heap.get b = some x -> (∃ b' x', st.heap.get b' = some x' /\ (ρ b').blk = (ρ' b).blk) \/ w.heap.size <= (ρ' b).blk
theorem Evo.refl (ρ : Pos -> Loc) (st : St) (w : World) : Evo ρ st w ρ st w := ⟨rfl, rfl, rfl, Nat.le_refl _, fun _ _ _ => rfl, fun b x h => .inl ⟨b, x, h, rfl⟩⟩
theorem Evo.trans {ρ b6 iN : Pos -> Loc} {st aH mF : St} {w w1 w2 : World} (h : Evo ρ st w b6 aH w1) (k : Evo b6 aH w1 iN mF w2) : Evo ρ st w iN mF w2 where
  os := k.os.trans h.os
  tape := k.tape.trans h.tape
  output := k.output.trans h.output
  size := Nat.le_trans h.size k.size
  block q hq hn := by
    rw [k.block q (Nat.lt_of_lt_of_le hq h.size) fun b x hb e => ?_, h.block q hq hn]
    rcases h.orig b x hb with ⟨b', x', h1, h2⟩ | h1
    . exact hn b' x' h1 (h2.trans e)
    . rw [e] at h1; omega
  orig b x hb := by
    rcases k.orig b x hb with ⟨b', x', h1, h2⟩ | h1
    . rcases h.orig b' x' h1 with ⟨b'', x'', h3, h4⟩ | h3
      . exact .inl ⟨b'', x'', h3, h4.trans h2⟩
      . right; rw [<- h2]; exact h3
    . exact .inr (Nat.le_trans h.size h1)
def FRel (ρ : Pos -> Loc) (n : Nat) (C : Cells) (fr : Fr) (tmps : Array Value) : Prop :=
  ∀ p v, fr.get p = some v -> ∃ x, tmps[p.toNat - 1]? = some x /\ VRel ρ n C v x
theorem Pos.toNat_pos (p : Pos) : 0 < p.toNat := by
  induction p with
  | h => simp [Pos.toNat]
  | o p ih => simp [Pos.toNat]; exact ih
  | i p ih => simp [Pos.toNat]
theorem Pos.toNat_inj : ∀ {p q : Pos}, p.toNat = q.toNat -> p = q
  | .h, .h, _ => rfl
  | .h, .o q, hq => by have := q.toNat_pos; simp [Pos.toNat] at hq; omega
  | .h, .i q, hq => by have := q.toNat_pos; simp [Pos.toNat] at hq; omega
  | .o p, .h, hq => by have := p.toNat_pos; simp [Pos.toNat] at hq; omega
  | .o p, .o q, hq => by simp [Pos.toNat] at hq; rw [Pos.toNat_inj (p := p) (q := q) (by omega)]
  | .o p, .i q, hq => by simp [Pos.toNat] at hq; omega
  | .i p, .h, hq => by have := p.toNat_pos; simp [Pos.toNat] at hq; omega
  | .i p, .o q, hq => by simp [Pos.toNat] at hq; omega
  | .i p, .i q, hq => by simp [Pos.toNat] at hq; rw [Pos.toNat_inj (p := p) (q := q) (by omega)]
theorem Pos.toNat_succ (p : Pos) : p.succ.toNat = p.toNat + 1 := by
  induction p with
  | h => rfl
  | o p ih => simp [Pos.succ, Pos.toNat]
  | i p ih => simp [Pos.succ, Pos.toNat, ih]; omega
theorem Pos.toNat_ofGo : ∀ (f m : Nat), 0 < m -> m < 2 ^ (f + 1) -> (Pos.ofGo f m).toNat = m
  | 0, m, hp, hl => by
    simp at hl
    have : m = 1 := by omega
    subst this; rfl
  | f + 1, m, hp, hl => by
    unfold Pos.ofGo
    split
    . rename_i hb; have := Nat.le_of_ble_eq_true hb; have : m = 1 := by omega
      subst this; rfl
    . rename_i hb
      have h1 : 1 < m := by
        rcases Nat.lt_or_ge 1 m with hh | hh
        . exact hh
        . rw [Nat.ble_eq_true_of_le hh] at hb; cases hb
      have h2 : m / 2 < 2 ^ (f + 1) := by
        have : 2 ^ (f + 1 + 1) = 2 * 2 ^ (f + 1) := by rw [Nat.pow_succ]; omega
        omega
      split
      . rename_i he; have := Nat.eq_of_beq_eq_true he
        simp only [Pos.toNat]; rw [Pos.toNat_ofGo f _ (by omega) h2]; omega
      . rename_i he; have := Nat.ne_of_beq_eq_false he
        simp only [Pos.toNat]; rw [Pos.toNat_ofGo f _ (by omega) h2]; omega
theorem key_toNat (n : Nat) : (key n).toNat = n + 1 := Pos.toNat_ofGo _ (n + 1) (by omega) Nat.lt_log2_self
theorem T.get_e {α : Type} (p : Pos) : (T.e : T α).get p = none := by cases p <;> rfl
theorem T.get_put {α : Type} (x : Option α) (p : Pos) (t : T α) : (T.put x p t).get p = x := by
  induction p generalizing t with
  | h => cases t <;> rfl
  | o p ih => cases t <;> exact ih _
  | i p ih => cases t <;> exact ih _
theorem T.get_put_ne {α : Type} (x : Option α) {p q : Pos} (h : p ≠ q) (t : T α) : (T.put x p t).get q = t.get q := by
  induction p generalizing q t with
  | h => cases q with
    | h => exact absurd rfl h
    | o q => cases t <;> simp [T.put, T.get, T.get_e]
    | i q => cases t <;> simp [T.put, T.get, T.get_e]
  | o p ih => cases q with
    | h => cases t <;> simp [T.put, T.get]
    | o q => cases t with
      | e => simp only [T.put, T.get]; rw [ih (fun e => h (by rw [e])), T.get_e]
      | n l v r => simp only [T.put, T.get]; exact ih (fun e => h (by rw [e])) l
    | i q => cases t <;> simp [T.put, T.get, T.get_e]
  | i p ih => cases q with
    | h => cases t <;> simp [T.put, T.get]
    | o q => cases t <;> simp [T.put, T.get, T.get_e]
    | i q => cases t with
      | e => simp only [T.put, T.get]; rw [ih (fun e => h (by rw [e])), T.get_e]
      | n l v r => simp only [T.put, T.get]; exact ih (fun e => h (by rw [e])) r
theorem Pos.beq_eq : ∀ {p q : Pos}, p.beq q = true ↔ p = q
  | .h, .h => by simp [Pos.beq]
  | .h, .o q => by simp [Pos.beq]
  | .h, .i q => by simp [Pos.beq]
  | .o p, .h => by simp [Pos.beq]
  | .o p, .o q => by simp only [Pos.beq, Pos.o.injEq]; exact Pos.beq_eq
  | .o p, .i q => by simp [Pos.beq]
  | .i p, .h => by simp [Pos.beq]
  | .i p, .o q => by simp [Pos.beq]
  | .i p, .i q => by simp only [Pos.beq, Pos.i.injEq]; exact Pos.beq_eq
end Go.Ai
end
section
noncomputable section
namespace Go.Ai
section
variable {R : Type}
def getR {α : Type} (p : Pos) : T α -> Option α :=
  Pos.rec (motive := fun _ => T α -> Option α)
    (fun t => T.rec (motive := fun _ => Option α) none (fun _ v _ _ _ => v) t)
    (fun _ ih t => T.rec (motive := fun _ => Option α) none (fun l _ _ _ _ => ih l) t)
    (fun _ ih t => T.rec (motive := fun _ => Option α) none (fun _ _ r _ _ => ih r) t) p
def putK {α : Type} (x : Option α) (p : Pos) : T α -> (T α -> R) -> R :=
  Pos.rec (motive := fun _ => T α -> (T α -> R) -> R)
    (fun t k => T.rec (motive := fun _ => R) (k (.n .e x .e)) (fun l _ r _ _ => k (.n l x r)) t)
    (fun _ ih t k => T.rec (motive := fun _ => R) (ih .e fun l => k (.n l none .e)) (fun l v r _ _ => ih l fun l => k (.n l v r)) t)
    (fun _ ih t k => T.rec (motive := fun _ => R) (ih .e fun r => k (.n .e none r)) (fun l v r _ _ => ih r fun r => k (.n l v r)) t) p
def forceNat (n : Nat) (k : Nat -> R) : R := Nat.rec (motive := fun _ => R) (k 0) (fun m _ => k (Nat.succ m)) n
def forceInt (n : Int) (k : Int -> R) : R := match n with
  | .ofNat m => forceNat m fun m => k (.ofNat m)
  | .negSucc m => forceNat m fun m => k (.negSucc m)
def forceBool (b : Bool) (k : Bool -> R) : R := match b with
  | true => k true
  | false => k false
def forceL {α : Type} (l : List α) : (List α -> R) -> R :=
  List.rec (motive := fun _ => (List α -> R) -> R) (fun k => k []) (fun a _ ih k => ih fun t => k (a :: t)) l
def forcePos (p : Pos) : (Pos -> R) -> R :=
  Pos.rec (motive := fun _ => (Pos -> R) -> R) (fun k => k .h) (fun _ ih k => ih fun p => k (.o p)) (fun _ ih k => ih fun p => k (.i p)) p
def forceO (o : Option Nat) (k : Option Nat -> R) : R := match o with
  | none => k none
  | some n => forceNat n fun n => k (some n)
def forceF (v : AV) (k : AV -> R) : R := match v with
  | .bool b => forceBool b fun b => k (.bool b)
  | .int i n => forceInt n fun n => k (.int i n)
  | .str s => forceL s fun s => k (.str s)
  | .ptr b o => forcePos b fun b => forceNat o fun o => k (.ptr b o)
  | .slice b o l c es => forcePos b fun b => forceNat o fun o => forceNat l fun l => forceO c fun c => k (.slice b o l c es)
  | .map b => forcePos b fun b => k (.map b)
  | .func f x y => forceL x fun x => forceL y fun y => k (.func f x y)
  | .agg l => forceL l fun l => k (.agg l)
  | v => k v
def forceFs (l : List AV) : (List AV -> R) -> R :=
  List.rec (motive := fun _ => (List AV -> R) -> R) (fun k => k []) (fun a _ ih k => forceF a fun a => ih fun t => k (a :: t)) l
def forceV (v : AV) (k : AV -> R) : R := match v with
  | .tuple l => forceFs l fun l => k (.tuple l)
  | v => forceF v k
def forceAB (x : AB) (k : AB -> R) : R := match x with
  | .cells cs fz => forceL cs fun cs => forceNat fz fun fz => k (.cells cs fz)
  | .map es c => forceL es fun es => forceNat c fun c => k (.map es c)
  | .siter s p => forceNat p fun p => k (.siter s p)
  | .typed t cs => forceL cs fun cs => k (.typed t cs)
def succK (p : Pos) : (Pos -> R) -> R :=
  Pos.rec (motive := fun _ => (Pos -> R) -> R) (fun k => k (.o .h)) (fun q _ k => k (.i q)) (fun _ ih k => ih fun p => k (.o p)) p
variable (z : R)
def evK (fr : Fr) (x : AOpd) (k : AV -> R) : R := match x with
  | .t p => match getR p fr with
    | some v => k v
    | none => z
  | .c v => k v
def evsK (fr : Fr) (xs : List AOpd) : (List AV -> R) -> R :=
  List.rec (motive := fun _ => (List AV -> R) -> R) (fun k => k []) (fun x _ ih k => evK z fr x fun v => ih fun vs => k (v :: vs)) xs
def wantedK (fr : Fr) (g : Option (Pos × Bool)) (yes no : R) : R := match g with
  | none => yes
  | some (p, want) => match getR p fr with
    | some (.bool b) => match b == want with
      | true => yes
      | false => no
    | some (.tuple _) => no
    | _ => z
def setDstK (fr : Fr) (d : Option Pos) (v : AV) (k : Fr -> R) : R := match d with
  | some p => putK (some v) p fr k
  | none => k fr
def delK (o : Option Pos) (h : T AB) (k : T AB -> R) : R := match o with
  | some b => putK none b h k
  | none => k h
def setK (o : Option (Pos × AB)) (h : T AB) (k : T AB -> R) : R := match o with
  | some (b, x) => forceAB x fun x => putK (some x) b h k
  | none => k h
abbrev CallK (R : Type) := FuncId -> List AV -> St -> (AV -> St -> R) -> R
def effK (st : St) (del : Option Pos) (set : Option (Pos × AB)) (new : Option AB) (k : St -> R) : R :=
  delK del st.heap fun h => setK set h fun h => match new with
    | some x => forceAB x fun x => putK (some x) st.next h fun h => succK st.next fun n => k { heap := h, next := n }
    | none => k { heap := h, next := st.next }
def stepK (call : CallK R) (op : OpK) (xs : List AV) (st : St) (k : AV -> St -> R) : R :=
  match op.run (fun b => getR b st.heap) st.next xs with
  | some (.val v) => forceV v fun v => k v st
  | some (.eff v del set new) => forceV v fun v => effK st del set new fun st => k v st
  | some (.call f args) => forceL args fun args => call f args st k
  | none => z
def opsK (call : CallK R) (ops : List AOper) : Fr -> St -> (Fr -> St -> R) -> R :=
  List.rec (motive := fun _ => Fr -> St -> (Fr -> St -> R) -> R) (fun fr st k => k fr st)
    (fun o _ ih fr st k => wantedK z fr o.guard
      (evsK z fr o.xs fun xs => stepK z call o.k xs st fun v st => setDstK fr o.dst v fun fr => ih fr st k)
      (setDstK fr o.dst .undef fun fr => ih fr st k)) ops
def snapK (bef : Nat) (h : T AB) (recs : List Rec) : (T AB -> R) -> R :=
  List.rec (motive := fun _ => (T AB -> R) -> R) (fun k => k h)
    (fun r _ ih k => match r.c with
      | .new id blk => match bef.testBit r.idx with
        | true => ih fun h' => putK (some blk) id h' k
        | false => ih k
      | .eff _ _ => k h
      | .pure => ih k) recs
def putUpK (h : T AB) (l : List (Pos × AB)) : (T AB -> R) -> R :=
  List.rec (motive := fun _ => (T AB -> R) -> R) (fun k => k h) (fun x _ ih k => ih fun h' => putK (some x.2) x.1 h' k) l
def readsAsK (op : OpK) (xs : List AV) (v : AV) (h : T AB) : Bool :=
  match op.run (fun b => getR b h) .h xs with
  | some (.val u) => beqAV u v
  | _ => false
def readBackK (bef : Nat) (op : OpK) (xs : List AV) (v : AV) : List (Pos × AB) -> List Rec -> Bool
  | _, [] => true
  | up, r :: rs => match r.c with
    | .new id blk => match bef.testBit r.idx with
      | true => readBackK bef op xs v ((id, blk) :: up) rs
      | false => readBackK bef op xs v up rs
    | .eff base _ => match bef.testBit r.idx with
      | true => true
      | false => (snapK bef base rs fun h => putUpK h up fun h => readsAsK op xs v h) && readBackK bef op xs v up rs
    | .pure => readBackK bef op xs v up rs
def drawK (call : CallK R) (ops : List (Nat × AOper)) : List Rec -> T AB -> Fr -> St -> (Fr -> St -> R) -> R :=
  List.rec (motive := fun _ => List Rec -> T AB -> Fr -> St -> (Fr -> St -> R) -> R)
    (fun _ _ fr st k => k fr st)
    (fun jo _ ih recs base fr st k => wantedK z fr jo.2.guard
      (evsK z fr jo.2.xs fun xs => match jo.2.cls with
        | .new => match jo.2.k.run (fun _ => none) st.next xs with
          | some (.eff v none none (some blk)) => forceV v fun v => forceAB blk fun blk => setDstK fr jo.2.dst v fun fr => succK st.next fun n => putK (some blk) st.next st.heap fun h =>
              ih ({ idx := jo.1, o := jo.2, v := v, c := .new st.next blk, nx := n } :: recs) base fr { heap := h, next := n } k
          | _ => z
        | .eff => stepK z call jo.2.k xs st fun v st' => setDstK fr jo.2.dst v fun fr => ih ({ idx := jo.1, o := jo.2, v := v, c := .eff base st'.heap, nx := st'.next } :: recs) st'.heap fr st' k
        | _ => match jo.2.k.run (fun _ => none) .h xs with
          | some (.val v) => forceV v fun v => setDstK fr jo.2.dst v fun fr => ih ({ idx := jo.1, o := jo.2, v := v, c := .pure, nx := st.next } :: recs) base fr st k
          | _ => snapK jo.2.bef base recs fun h => match jo.2.k.run (fun b => getR b h) .h xs with
            | some (.val v) => forceV v fun v => match readBackK jo.2.bef jo.2.k xs v [] recs with
              | true => setDstK fr jo.2.dst v fun fr => ih ({ idx := jo.1, o := jo.2, v := v, c := .pure, nx := st.next } :: recs) base fr st k
              | false => z
            | _ => z)
      (setDstK fr jo.2.dst .undef fun fr => ih ({ idx := jo.1, o := jo.2, v := .undef, c := .pure, nx := st.next } :: recs) base fr st k)) ops
abbrev ExecK (R : Type) := AC -> Fr -> St -> (Fr -> St -> R) -> (Nat -> Fr -> St -> R) -> (Fr -> St -> R) -> R
def execStepK (call : CallK R) (ih : ExecK R) : ExecK R
  | .skip, fr, st, kn, _, _ => kn fr st
  | .region ops, fr, st, kn, _, _ => opsK z call ops fr st kn
  | .draw ops, fr, st, kn, _, _ => drawK z call ops [] st.heap fr st kn
  | .seq a b, fr, st, kn, kx, kr => ih a fr st (fun fr st => ih b fr st kn kx kr) kx kr
  | .cond x a b, fr, st, kn, kx, kr => evK z fr x fun v => match v with
    | .bool true => ih a fr st kn kx kr
    | .bool false => ih b fr st kn kx kr
    | _ => z
  | .block id a, fr, st, kn, kx, kr => ih a fr st kn (fun fN fr st => match Nat.beq fN id with
      | true => kn fr st
      | false => kx fN fr st) kr
  | .loop a, fr, st, kn, kx, kr => ih a fr st (fun fr st => ih (.loop a) fr st kn kx kr) kx kr
  | .exit id, fr, st, _, kx, _ => kx id fr st
  | .ret, fr, st, _, _, kr => kr fr st
def execK (call : CallK R) (n : Nat) : ExecK R :=
  Nat.rec (motive := fun _ => ExecK R) (fun _ _ _ _ _ _ => z) (fun _ ih => execStepK z call ih) n
def paramsK (vs : List AV) : Nat -> Fr -> (Fr -> R) -> R :=
  List.rec (motive := fun _ => Nat -> Fr -> (Fr -> R) -> R) (fun _ fr k => k fr)
    (fun v _ ih i fr k => putK (some v) (key i) fr fun fr => ih (i + 1) fr k) vs
def resultsK (st : St) (fr : Fr) (rs : List ARV) (k : AV -> R) : R :=
  match resultsA (fun b => getR b st.heap) fr rs with
  | some vs => forceFs vs fun vs => match vs with
    | [v] => k v
    | vs => k (.tuple vs)
  | none => z
def callK (O : Oracle) (G : T AFunc) (m : Nat) (d : Nat) : CallK R :=
  Nat.rec (motive := fun _ => CallK R) (fun _ _ _ _ => z)
    (fun _ ih f args st k => match O f with
      | some s => match s args st with
        | some (v, st') => forceV v fun v => k v st'
        | none => z
      | none => match getR (key f) G with
        | some F => match Nat.beq args.length F.nparams with
          | true => paramsK args 0 .e fun fr => execK z ih m F.code fr st
              (fun fr st => resultsK z st fr F.results fun v => k v st)
              (fun _ _ _ => z)
              (fun fr st => resultsK z st fr F.results fun v => k v st)
          | false => z
        | none => z) d
end
end Go.Ai
end
