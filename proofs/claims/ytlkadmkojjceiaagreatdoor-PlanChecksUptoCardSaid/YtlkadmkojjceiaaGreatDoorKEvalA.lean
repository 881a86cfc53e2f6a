/- An evaluator over plain values, its compiler and its relation to worlds. -/
import Derived.Orders
import Derived.Below
set_option linter.all false
def H0:=@Option.some.injEq
def H1:=@List.getElem?_eq_getElem
def H2:=@Nat.eq_of_beq_eq_true
def H3:=@List.getElem?_eq_some_iff
def H4:=@Nat.le_of_ble_eq_true
def H5:=@Nat.le_refl
def Za0:=@List.mem_cons
def Za1:=@List.mem_cons_of_mem
def Za2:=@Bool.and_eq_true
def Za3:=@decide_eq_true
def Za4:=@if_neg
def Za5:=@decide_eq_false
def Za6:=@List.eq_nil_of_length_eq_zero
def Za7:=@if_pos
def Za8:=@Prod.mk.injEq
def Za9:=@Nat.ne_of_beq_eq_false
def Zb0:=@List.getElem?_take
def Zb1:=@List.getElem?_eq_none
def Zb2:=@List.take_succ_eq_append_getElem
def Zb3:=@List.drop_eq_getElem_cons
def Zb4:=@List.map_cons
def Zb5:=@Nat.lt_of_lt_of_le
def Zb6:=@Array.getElem?_eq_some_iff
def Zb7:=@List.getElem?_map
def Zb8:=@List.mem_of_getElem?
def Zb9:=@List.mem_cons_self
def Zc0:=@List.mem_singleton
def Zc1:=@Nat.le_trans
def Zc2:=@decide_eq_true_eq
def Zc3:=@List.getElem?_append_left
def Zc4:=@List.getElem_mem
def Zc5:=@List.getElem?_append_right
def Zc6:=@List.getElem?_drop
def Zc7:=@List.not_mem_nil
def Zc8:=@Nat.zero_add
def Zc9:=@List.drop_zero
def Zd0:=@Array.getElem?_setIfInBounds_ne
def Zd1:=@List.length_map
def Zd2:=@List.mem_append
def Zd3:=@Bool.false_eq_true
def Zd4:=@List.all_eq_true
def Zd5:=@if_false
def Zd6:=@Option.map_some
def Zd7:=@List.getD_eq_getElem?_getD
def Zd8:=@Bool.true_and
def Zd9:=@Nat.add_sub_cancel
def Ze0:=@Array.getElem?_eq_getElem
def Ze1:=@Option.bind_some
def Ze2:=@List.length_append
def Ze3:=@List.getElem?_cons_zero
def Ze4:=@Array.length_toList
def Ze5:=@if_true
def Ze6:=@List.length_cons
def Ze7:=@List.cons_append
def Ze8:=@Option.map_eq_some_iff
def Ze9:=@Array.getElem?_toList
def Zf0:=@List.map_nil
def Zf1:=@List.mem_map
def Zf2:=@List.drop_append_of_le_length
def Zf3:=@List.take_of_length_le
def Zf4:=@List.append_nil
def Zf5:=@List.map_map
def Zf6:=@List.flatten_cons
def Zf7:=@List.getElem?_cons_succ
def Zf8:=@decide_eq_false_iff_not
def Zf9:=@Array.getElem?_append_left
def Zg0:=@Bool.or_eq_true
def Zg1:=@Nat.le_max_right
def Zg2:=@of_decide_eq_true
def Zg3:=@Bool.not_eq_true'
def Zg4:=@Option.some.inj
def Zg5:=@List.nil_append
def Zg6:=@or_false
def Zg7:=@Nat.mul_le_mul_right
def Zg8:=@List.mem_iff_getElem
def Zg9:=@Array.getD_eq_getD_getElem?
def Zh0:=@Nat.add_assoc
def Zh1:=@List.map_append
def Zh2:=@List.cons.injEq
def Zh3:=@Nat.le_max_left
def Zh4:=@List.mem_append_right
def Zh5:=@Nat.lt_or_ge
def Zh6:=@Nat.add_zero
def Zh7:=@Nat.add_mul
def Zh8:=@List.mem_append_left
def Zh9:=@List.append_assoc
def Zi0:=@List.map_congr_left
def Zi1:=@List.mem_iff_getElem?
def Zi2:=@Classical.byContradiction
def Zi3:=@Bool.eq_iff_iff
def Zi4:=@Function.comp_def
def Zi5:=@List.ext_getElem?
def Zi6:=@Nat.succ_mul
def Zi7:=@decide_true
def Zi8:=@Bool.and_true
def Zi9:=@Bool.and_self
def Zj0:=@Option.getD_some
def Zj1:=@List.length_take
def Zj2:=@Nat.mod_eq_of_lt
def Zj3:=@Nat.min_eq_left
def Zj4:=@List.take_left'
def Zj5:=@Array.getElem?_setIfInBounds
def Zj6:=@Array.mem_of_getElem?
def Zj7:=@List.take_append_drop
def Zj8:=@List.getElem_take
def Zj9:=@Nat.mul_one
def Zk0:=@Array.mem_toList_iff
def Zk1:=@List.range_eq_range'
def Zk2:=@Bool.or_eq_false_iff
def Zk3:=@List.take_length
def Zk4:=@of_decide_eq_false
def Zk5:=@Array.ext'
def Zk6:=@List.mem_filterMap
def Zk7:=@Nat.zero_le
def Zk8:=@not_false_eq_true
def Zk9:=@Nat.sub_zero
def Zl0:=@Bool.not_false
def Zl1:=@List.size_toArray
def Zl2:=@List.drop_drop
def Zl3:=@List.drop_eq_nil_of_le
def Zl4:=@List.flatMap_cons
def Zl5:=@Array.getElem?_modify
def Zl6:=@UInt8.lt_iff_toNat_lt
def Zl7:=@Nat.le_add_right
def Zl8:=@Array.eq_empty_of_size_eq_zero
def Zl9:=@List.range'_succ
def Zm0:=@List.getElem_map
def Zm1:=@Nat.lt_irrefl
def Zm2:=@List.all_cons
def Zm3:=@Bool.not_true
def Zm4:=@Array.toList_extract
def Zm5:=@Nat.one_mul
def Zm6:=@List.length_nil
def Zm7:=@List.getElem?_range
def Zm8:=@Nat.sub_self
def Zm9:=@Array.toList_setIfInBounds
def Zn0:=@Nat.mod_eq_sub_mod
def Zn1:=@Nat.eq_zero_or_pos
def Zn2:=@List.take_take
def Zn3:=@List.take_add_one
def Zn4:=@Array.toList_map
def Zn5:=@and_true
def Zn6:=@List.drop_length
def Zn7:=@decide_false
def Zn8:=@beq_iff_eq
def Zn9:=@UInt8.toNat_inj
def Zo0:=@List.foldl_cons
def Zo1:=@List.mem_filter
def Zo2:=@List.nodup_cons
namespace Go.Ai
section
inductive Pos where
 |h
 |o (p:Pos)
 |i (p:Pos)
 deriving DecidableEq,Inhabited
def Pos.toNat:Pos->Nat
 |.h=>1
 |.o p=>2*p.toNat
 |.i p=>2*p.toNat+1
def Pos.succ:Pos->Pos
 |.h=>.o .h
 |.o p=>.i p
 |.i p=>.o p.succ
def Pos.Qm:Nat->Nat->Pos
 |0,_=>.h
 |  f+1,n=>match Nat.ble n 1 with
    |true=>.h
    |false=>match Nat.beq (n % 2) 0 with
     |true=>.o (Pos.Qm f (n / 2))
     |false=>.i (Pos.Qm f (n / 2))
def key(n:Nat):Pos:=Pos.Qm (n+1).log2 (n+1)
def Pos.beq:Pos->Pos->Bool
 |.h,.h=>true
 |.o a,.o b=>a.beq b
 |.i a,.i b=>a.beq b
 |_,_=>false
inductive T(α:Type) where
 |e
 |n (l:T α) (v:Option α) (r:T α)
 deriving Inhabited
def T.get{α:Type}:Pos->T α->Option α
 |_,.e=>none
 |.h,.n _ v _=>v
 |.o p,.n l _ _=>l.get p
 |.i p,.n _ _ r=>r.get p
def T.put{α:Type}(x:Option α):Pos->T α->T α
 |.h,.e=>.n .e x .e
 |.h,.n l _ r=>.n l x r
 |.o p,.e=>.n (T.put x p .e) none .e
 |.o p,.n l v r=>.n (T.put x p l) v r
 |.i p,.e=>.n .e none (T.put x p .e)
 |.i p,.n l v r=>.n l v (T.put x p r)
inductive AV where
 |bool (b:Bool)
 |int (k:IntKind) (n:Int)
 |str (s:List Nat)
 |fU
 |ptr (b:Pos) (off:Nat)
 |fp (xs:List (List AV)) (i j:Nat)
 |ax
 |slice (b:Pos) (off len:Nat) (cap:Option Nat) (es:Nat)
 |fl (xs:List (List AV)) (es:Nat)
 |l9
 |map (b:Pos)
 |func (f:FuncId) (first captured:List AV)
 |gV
 |tE
 |iface (t:TypeId) (v:AV)
 |agg (l:List AV)
 |tuple (l:List AV)
 deriving Inhabited
inductive AB where
 |cells (cs:List AV) (fz:Nat)
 |map (es:List (AV×AV×Nat)) (clock:Nat)
 |gW (s:List Nat) (pos:Nat)
 |typed (t:TypeId) (cs:List AV)
 deriving Inhabited
def AV.cells:AV->List AV
 |.agg l=>l
 |v=>[v]
def AV.undef:AV:= .tuple []
def AV.one:AV->Bool
 |.agg _=>false
 |.tuple _=>false
 |_=>true
def aQ:List AV->Bool
 |[]=>true
 |  v::l=>match v.one with
    |true=>aQ l
    |false=>false
inductive bW where
 |val (v:AV)
 |aC (v:AV) (del:Option Pos) (set:Option (Pos×AB)) (new:Option AB)
 |call (f:FuncId) (args:List AV)
 deriving Inhabited
def nth{α:Type}:List α->Nat->Option α
 |[],_=>none
 |a::_,0=>some a
 |_::l,n+1=>nth l n
def cut{α:Type}(l:List α)(i n:Nat):Option (List α):=
 match Nat.ble (i+n) l.length with
 |true=>some ((l.drop i).take n)
 |false=>none
def aI{α:Type}(l:List α)(i:Nat)(vs:List α):List α:=l.take i++(vs++l.drop (i+vs.length))
def gw:List Nat->List Nat->Bool
 |[],[]=>true
 |  a::x,b::y=>match Nat.beq a b with
    |true=>gw x y
    |false=>false
 |_,_=>false
def av:List Nat->List Nat->Bool
 |_,[]=>false
 |[],_::_=>true
 |  a::x,b::y=>match Nat.blt a b with
    |true=>true
    |false=>match Nat.beq a b with
     |true=>av x y
     |false=>false
inductive PK where
 |b
 |i
 |s
 deriving Inhabited
inductive eA where
 |num
 |bool
 |ptr
 |slice
 |map
 |func
 |iface
 |struct (fs:List (Nat×PK))
 deriving Inhabited
inductive ZM where
 |int (k:IntKind)
 |same
 |bytes
 |ofBytes
 deriving Inhabited
inductive LK where
 |s
 |l
 |m
 deriving Inhabited
inductive au where
 |move
 |pick
 |alloc (zero:List AV)
 |box
 |build (zero:List AV) (places:List (Nat×Nat))
 |buildSlice (es len:Nat) (zero:List AV) (places:List Nat)
 |load (n:Option Nat)
 |store (n:Nat)
 |nilCheck
 |bin (op:BinOp) (q:eA)
 |un (op:UnOp)
 |conv (k:ZM)
 |mkIface (t:TypeId)
 |mkFunc (f:FuncId) (G9:Nat)
 |mkMap
 |lookup (pk:PK) (zero:AV) (ok:Bool)
 |mapSet (pk:PK)
 |mkSlice (es bytes:Nat) (zero:List AV)
 |sliceS (lo hi:Bool)
 |sliceL (es:Nat) (lo hi mx:Bool)
 |fieldA (off:Nat)
 |idxA (es:Nat) (arr:Option Nat)
 |field (off:Nat) (n:Option Nat)
 |idxS
 |extract (i:Nat)
 |callF (f:FuncId)
 |callV
 |lenB (k:LK)
 |capB
 |append (es bytes:Nat)
 |copyB (es:Nat)
 |minB
 |maxB
 |clearS (es:Nat) (zero:List AV)
 |rangeS
 |nextS
 |allocT (t:TypeId) (zero:List AV)
 |appendT (e:TypeId) (bytes:Nat)
 |toU
 |fromU (u:TypeId) (n:Nat)
 |sliceData
 |unsafeStr (e:TypeId)
 |bad
 deriving Inhabited
def Qn(k:IntKind):Int:=match k with
 |.i8=> -128|.i16=> -32768|.i32=> -2147483648|.i64=> -9223372036854775808|_=>0
def Qo(k:IntKind):Int:=match k with
 |.i8=>127|.i16=>32767|.i32=>2147483647|.i64=>9223372036854775807
 |.u8=>255|.u16=>65535|.u32=>4294967295|.u64=>18446744073709551615
def aB(k:IntKind)(n:Int):Int:=
 match Int.decLe (Qn k) n with
 |  .isTrue _=>match Int.decLe n (Qo k)with
    |.isTrue _=>n
    |.isFalse _=>k.wrap n
 |.isFalse _=>k.wrap n
def zP(a b:IntKind):Bool:=match decEq a b with
 |.isTrue _=>true
 |.isFalse _=>false
def xD(a b:Int):Bool:=match Int.decEq a b with
 |.isTrue _=>true
 |.isFalse _=>false
def BA(a b:Int):Bool:=match Int.decLt a b with
 |.isTrue _=>true
 |.isFalse _=>false
def PZ(a b:Int):Bool:=match Int.decLe a b with
 |.isTrue _=>true
 |.isFalse _=>false
def tF:PK->AV->AV->Option Bool
 |.b,.bool a,.bool b=>some (a==b)
 |  .i,.int k a,.int k' b=>match zP k k' with
    |true=>some (xD a b)
    |false=>none
 |.s,.str a,.str b=>some (gw a b)
 |_,_,_=>none
def eqFields(xs ys:List AV):List (Nat×PK)->Option Bool
 |[]=>some true
 |  (o,pk)::fs=>match nth xs o,nth ys o with
    | some a,some b=>match tF pk a b with
      |some true=>eqFields xs ys fs
      |some false=>some false
      |none=>none
    |_,_=>none
def Ex:eA->AV->AV->Option Bool
 |.bool,.bool a,.bool b=>some (a==b)
 |.ptr,.fU,.fU=>some true
 |.ptr,.fU,.ptr _ _=>some false
 |.ptr,.ptr _ _,.fU=>some false
 |.ptr,.fU,.fp _ _ _=>some false
 |.ptr,.fp _ _ _,.fU=>some false
 |  .ptr,.ptr b o,.ptr b' o'=>match Pos.beq b b',Nat.beq o o' with
    |true,true=>some true
    |_,_=>none
 |.slice,.ax,.ax=>some true
 |.slice,.ax,.slice _ _ _ _ _=>some false
 |.slice,.slice _ _ _ _ _,.ax=>some false
 |.slice,.ax,.fl _ _=>some false
 |.slice,.fl _ _,.ax=>some false
 |.map,.l9,.l9=>some true
 |.map,.l9,.map _=>some false
 |.map,.map _,.l9=>some false
 |.func,.gV,.gV=>some true
 |.func,.gV,.func _ _ _=>some false
 |.func,.func _ _ _,.gV=>some false
 |.iface,.tE,.iface _ _=>some false
 |.iface,.iface _ _,.tE=>some false
 |.struct fs,.agg xs,.agg ys=>eqFields xs ys fs
 |_,_,_=>none
def mb (op:BinOp)(q:eA):AV->AV->Option AV
 |  .int k a,.int k' b=>match op with
    | .shl=>match BA b 0 with
      |true=>none
      |false=>some (.int k (aB k (a*2 ^ (min b.toNat k.bits))))
    | .shr=>match BA b 0 with
      |true=>none
      |false=>some (.int k (a.fdiv (2 ^ (min b.toNat k.bits))))
    | op=>match zP k k' with
      |false=>none
      | true=>match op with
        |.add=>some (.int k (aB k (a+b)))
        |.sub=>some (.int k (aB k (a - b)))
        |.mul=>some (.int k (aB k (a*b)))
        | .quo=>match xD b 0 with
          |true=>none
          |false=>some (.int k (aB k (a.tdiv b)))
        | .rem=>match xD b 0 with
          |true=>none
          |false=>some (.int k (a.tmod b))
        |.and=>some (.int k (k.wrap (BitVec.ofInt k.bits a &&& BitVec.ofInt k.bits b).toNat))
        |.or=>some (.int k (k.wrap (BitVec.ofInt k.bits a ||| BitVec.ofInt k.bits b).toNat))
        |.xor=>some (.int k (k.wrap (BitVec.ofInt k.bits a ^^^ BitVec.ofInt k.bits b).toNat))
        |.andNot=>some (.int k (k.wrap (BitVec.ofInt k.bits a &&& ~~~BitVec.ofInt k.bits b).toNat))
        |.eql=>some (.bool (xD a b))
        |.neq=>some (.bool (!xD a b))
        |.lss=>some (.bool (BA a b))
        |.leq=>some (.bool (PZ a b))
        |.gtr=>some (.bool (BA b a))
        |.geq=>some (.bool (PZ b a))
        |_=>none
 |  .str a,.str b=>match op with
    | .add=>match Nat.ble (a.length+b.length) 9223372036854775807 with
      |true=>some (.str (a++b))
      |false=>none
    |.eql=>some (.bool (gw a b))
    |.neq=>some (.bool (!gw a b))
    |.lss=>some (.bool (av a b))
    |.leq=>some (.bool (av a b||gw a b))
    |.gtr=>some (.bool (!(av a b||gw a b)))
    |.geq=>some (.bool (!av a b))
    |_=>none
 |  x,y=>match op with
    | .eql=>match Ex q x y with
      |some b=>some (.bool b)
      |none=>none
    | .neq=>match Ex q x y with
      |some b=>some (.bool (!b))
      |none=>none
    |_=>none
def unA(op:UnOp):AV->Option AV
 |  .bool b=>match op with
    |.not=>some (.bool (!b))
    |_=>none
 |  .int k n=>match op with
    |.neg=>some (.int k (aB k (0 - n)))
    |_=>none
 |_=>none
def bP(cells:List AV):List (Nat×Nat)->List AV->Option (List AV)
 |[],[]=>some cells
 |  (off,size)::ps,v::vs=>
    match Nat.beq v.cells.length size,Nat.ble (off+size) cells.length with
    |true,true=>bP (aI cells off v.cells) ps vs
    |_,_=>none
 |_,_=>none
def bD{α:Type}(l:List α):Nat->List α
 |0=>[]
 |n+1=>l++bD l n
def rS:AV->Option Nat
 |  .int _ n=>match n with
    |.ofNat m=>some m
    |.negSucc _=>none
 |_=>none
def Ey(n:Nat):AV:= .int .i64 (.ofNat n)
def rows(es:Nat)(cs:List AV):Nat->List (List AV)
 |0=>[]
 |n+1=>cs.take es::rows es (cs.drop es) n
def bounds:(lo hi mx:Bool)->List AV->Option (Option Nat×Option Nat×Option Nat)
 |false,false,false,[]=>some (none,none,none)
 |  true,false,false,[a]=>match rS a with
    |some l=>some (some l,none,none)
    |none=>none
 |  false,true,false,[b]=>match rS b with
    |some h=>some (none,some h,none)
    |none=>none
 |  true,true,false,[a,b]=>match rS a,rS b with
    |some l,some h=>some (some l,some h,none)
    |_,_=>none
 |  false,true,true,[b,c]=>match rS b,rS c with
    |some h,some m=>some (none,some h,some m)
    |_,_=>none
 |  true,true,true,[a,b,c]=>match rS a,rS b,rS c with
    |some l,some h,some m=>some (some l,some h,some m)
    |_,_,_=>none
 |_,_,_,_=>none
def bS(es n:Nat)(H:Pos->Option AB):AV->Option (List AV)
 |.ax=>some []
 |  .slice b off _ _ _=>match Nat.beq (n*es) 0 with
    |true=>some []
    |false=>match H b with
     |some (.cells cs _)=>cut cs off (n*es)
     |_=>none
 |  .fl xs es'=>match Nat.beq es es',Nat.ble n xs.length with
    |true,true=>some (xs.take n).flatten
    |_,_=>none
 |  .str s=>match Nat.beq es 1,Nat.ble n s.length with
    |true,true=>some ((s.take n).map λc=>.int .u8 (.ofNat c))
    |_,_=>none
 |_=>none
def cI:AV->Option Nat
 |.ax=>some 0
 |.slice _ _ n _ _=>some n
 |.fl xs _=>some xs.length
 |.str s=>some s.length
 |_=>none
def gX(pk:PK)(k:AV):List (AV×AV×Nat)->Nat->Option (Option (Nat×AV))
 |[],_=>some none
 |  (k',v,_)::es,i=>match tF pk k k' with
    |some true=>some (some (i,v))
    |some false=>gX pk k es (i+1)
    |none=>none
def UL:PK->AV->Bool
 |.b,.bool _=>true
 |.i,.int _ _=>true
 |.s,.str _=>true
 |_,_=>false
def kY(k v:AV):List (AV×AV×Nat)->Nat->List (AV×AV×Nat)
 |[],_=>[]
 |(_,_,born)::es,0=>(k,v,born)::es
 |e::es,i+1=>e::kY k v es i
def Tz(s:List Nat)(pos:Nat):Option (Nat×Nat):=
 match nth s pos with
 |  some c=>match Nat.blt c 128 with
    |true=>some (c,1)
    |false=>none
 |none=>none
def bytesOf:List AV->Option (List Nat)
 |[]=>some []
 |  .int .u8 (.ofNat n)::l=>match Nat.blt n 256,bytesOf l with
    |true,some s=>some (n::s)
    |_,_=>none
 |_=>none
def I7(_H:Pos->Option AB)(_next:Pos):List AV->Option bW
 |[x]=>some (.val x)
 |_=>none
def MU(_H:Pos->Option AB)(_next:Pos):List AV->Option bW
 |  [c,a,b]=>match c with
    |.bool true=>some (.val a)
    |.bool false=>some (.val b)
    |_=>none
 |_=>none
def Ez(_H:Pos->Option AB)(next:Pos)(zero:List AV):List AV->Option bW
 |[]=>some (.aC (.ptr next 0) none none (some (.cells zero 0)))
 |_=>none
def Lj(_H:Pos->Option AB)(next:Pos):List AV->Option bW
 |[x]=>some (.aC (.ptr next 0) none none (some (.cells x.cells 0)))
 |_=>none
def EA(_H:Pos->Option AB)(_next:Pos)(zero:List AV)(places:List (Nat×Nat)):List AV->Option bW
 |  xs=>match bP zero places xs with
    |some cs=>some (.val (.agg cs))
    |none=>none
def ow(_H:Pos->Option AB)(next:Pos)(es len:Nat)(zero:List AV)(places:List Nat):List AV->Option bW
 |  xs=>match bP (bD zero len) (places.map λi=>(i*es,es)) xs with
    |some cs=>some (.aC (.slice next 0 len (some len) es) none none (some (.cells cs 0)))
    |none=>none
def qU (H :Pos->Option AB)(_next:Pos)(n:Option Nat):List AV->Option bW
 |  [p] =>match p with
    | .ptr b off=>match H b with
      | some (.cells cs _)=>match n with
        | none=>match nth cs off with
          |some v=>some (.val v)
          |none=>none
        | some n=>match cut cs off n with
          |some vs=>some (.val (.agg vs))
          |none=>none
      | some (.typed _ cs)=>match n with
        | none=>match nth cs off with
          |some v=>some (.val v)
          |none=>none
        | some n=>match cut cs off n with
          |some vs=>some (.val (.agg vs))
          |none=>none
      |_=>none
    | .fp xs i j=>match nth xs i with
      | some cs=>match n with
        | none=>match nth cs j with
          |some v=>some (.val v)
          |none=>none
        | some n=>match cut cs j n with
          |some vs=>some (.val (.agg vs))
          |none=>none
      |none=>none
    |_=>none
 |_=>none
def zQ (H:Pos->Option AB)(_next:Pos)(n:Nat):List AV->Option bW
 |  [p, v]=>match p with
    | .ptr b off=>match H b with
      | some (.cells cs fz)=>
        match Nat.beq v.cells.length n,Nat.ble (off+n) cs.length,Nat.ble fz off,aQ v.cells with
        |true,true,true,true=>some (.aC .undef none (some (b,.cells (aI cs off v.cells) fz)) none)
        |_,_,_,_=>none
      | some (.typed t cs)=>
        match Nat.beq v.cells.length n,Nat.ble (off+n) cs.length,aQ v.cells with
        |true,true,true=>some (.aC .undef none (some (b,.typed t (aI cs off v.cells))) none)
        |_,_,_=>none
      |_=>none
    |_=>none
 |_=>none
def Cp(_H:Pos->Option AB)(_next:Pos):List AV->Option bW
 |  [x]=>match x with
    |.ptr _ _=>some (.val x)
    |.fp _ _ _=>some (.val x)
    |.func _ _ _=>some (.val x)
    |_=>none
 |_=>none
def gx(_H:Pos->Option AB)(_next:Pos)(op:BinOp)(q:eA):List AV->Option bW
 |  [x,y]=>match mb op q x y with
    |some v=>some (.val v)
    |none=>none
 |_=>none
def UM(_H:Pos->Option AB)(_next:Pos)(op:UnOp):List AV->Option bW
 |  [x]=>match unA op x with
    |some v=>some (.val v)
    |none=>none
 |_=>none
def wZ (H:Pos->Option AB)(next:Pos)(k:ZM):List AV->Option bW
 |  [x] =>match k,x with
    |.int k,.int _ n=>some (.val (.int k (aB k n)))
    |.same,.str s=>some (.val (.str s))
    |.bytes,.str s=>some (.aC (.slice next 0 s.length none 1) none none (some (.cells (s.map λc=>.int .u8 (.ofNat c)) 0)))
    |.ofBytes,.ax=>some (.val (.str []))
    | .ofBytes,.slice b off n _ _=>match Nat.beq n 0 with
      |true=>some (.val (.str []))
      | false=>match H b with
        |some (.cells cs _)=>match cut cs off n with
         |some l=>match bytesOf l with
          |some s=>some (.val (.str s))
          |none=>none
         |none=>none
        |_=>none
    |_,_=>none
 |_=>none
def EB(_H:Pos->Option AB)(_next:Pos)(t:TypeId):List AV->Option bW
 |[x]=>some (.val (.iface t x))
 |_=>none
def BB(_H:Pos->Option AB)(_next:Pos)(f:FuncId)(G9:Nat):List AV->Option bW
 |xs=>some (.val (.func f (xs.take G9) (xs.drop G9)))
def EC(_H:Pos->Option AB)(next:Pos):List AV->Option bW
 |_=>some (.aC (.map next) none none (some (.map [] 0)))
def tY (H:Pos->Option AB)(_next:Pos)(pk:PK)(zero:AV)(ok:Bool):List AV->Option bW
 |  [m, k]=>
    match (match m with
      | .l9=>match UL pk k with
        |true=>some none
        |false=>none
      | .map b=>match H b with
        |some (.map es _)=>gX pk k es 0
        |_=>none
      |_=>none)with
    |some (some (_,v))=>some (.val (match ok with|true=>.tuple [v,.bool true]|false=>v))
    |some none=>some (.val (match ok with|true=>.tuple [zero,.bool false]|false=>zero))
    |none=>none
 |_=>none
def tZ (H:Pos->Option AB)(_next:Pos)(pk:PK):List AV->Option bW
 |  [m, k,v]=>match m with
    | .map b=>match H b with
      | some (.map es clock)=>match UL pk k,gX pk k es 0 with
        |true,some (some (i,_))=>some (.aC .undef none (some (b,.map (kY k v es i) clock)) none)
        |true,some none=>some (.aC .undef none (some (b,.map (es++[(k,v,clock)]) (clock+1))) none)
        |_,_=>none
      |_=>none
    |_=>none
 |_=>none
def u0(_H:Pos->Option AB)(next:Pos)(es bytes:Nat)(zero:List AV):List AV->Option bW
 |  [l,c]=>match rS l,rS c with
    | some l,some c=>match Nat.ble l c,Nat.ble (bytes*c) 281474976710656,Nat.ble c 9223372036854775807 with
      |true,true,true=>some (.aC (.slice next 0 l (some c) es) none none (some (.cells (bD zero c) 0)))
      |_,_,_=>none
    |_,_=>none
 |_=>none
def He(_H:Pos->Option AB)(_next:Pos)(lo hi:Bool):List AV->Option bW
 |  x ::bs=>match x,bounds lo hi false bs with
    | .str s,some (l,h,_)=>
      let h:=h.getD s.length
      let l:=l.getD 0
      match Nat.ble l h,Nat.ble h s.length with
      |true,true=>some (.val (.str ((s.take h).drop l)))
      |_,_=>none
    |_,_=>none
 |_=>none
def ni (_H:Pos->Option AB)(_next:Pos)(es:Nat)(lo hi mx:Bool):List AV->Option bW
 |  x ::bs=>match x,bounds lo hi mx bs with
    | .slice b off len cap es',some (l,h,m)=>
      match Nat.beq es es',Nat.ble (l.getD 0) (h.getD len)with
      | true,true=>match cap,m with
        | some c,some m=>match Nat.ble (h.getD len) m,Nat.ble m c with
          |true,true=>some (.val (.slice b (off+l.getD 0*es) (h.getD len - l.getD 0) (some (m - l.getD 0)) es))
          |_,_=>none
        | some c,none=>match Nat.ble (h.getD len) c with
          |true=>some (.val (.slice b (off+l.getD 0*es) (h.getD len - l.getD 0) (some (c - l.getD 0)) es))
          |false=>none
        | none,some m=>match Nat.ble (h.getD len) m,Nat.ble m len with
          |true,true=>some (.val (.slice b (off+l.getD 0*es) (h.getD len - l.getD 0) (some (m - l.getD 0)) es))
          |_,_=>none
        | none,none=>match Nat.ble (h.getD len) len with
          |true=>some (.val (.slice b (off+l.getD 0*es) (h.getD len - l.getD 0) none es))
          |false=>none
      |_,_=>none
    | .fl xs es',some (l,h,m)=>
      match Nat.beq es es' with
      | true=>match m with
        | some m=>match Nat.beq (l.getD 0) 0,Nat.beq (h.getD xs.length) 0,Nat.beq m 0 with
          |true,true,true=>some (.val (.slice .h 0 0 (some 0) es))
          |_,_,_=>none
        | none=>match Nat.ble (l.getD 0) (h.getD xs.length),Nat.ble (h.getD xs.length) xs.length with
          |true,true=>some (.val (.fl ((xs.take (h.getD xs.length)).drop (l.getD 0)) es))
          |_,_=>none
      |false=>none
    | .ax,some (l,h,m)=>match Nat.beq (l.getD 0) 0,Nat.beq (h.getD 0) 0,Nat.beq (m.getD 0) 0 with
        |true,true,true=>some (.val .ax)
        |_,_,_=>none
    |_,_=>none
 |_=>none
def Hf(_H:Pos->Option AB)(_next:Pos)(off:Nat):List AV->Option bW
 |  [x]=>match x with
    |.ptr b o=>some (.val (.ptr b (o+off)))
    |.fp xs i j=>some (.val (.fp xs i (j+off)))
    |_=>none
 |_=>none
def mg (_H:Pos->Option AB)(_next:Pos)(es:Nat)(arr:Option Nat):List AV->Option bW
 |  [x, i]=>match rS i with
    | some i=>match arr,x with
      | none,.slice b off len _ _=>match Nat.blt i len with
        |true=>some (.val (.ptr b (off+i*es)))
        |false=>none
      | none,.fl xs es'=>match Nat.blt i xs.length,Nat.beq es es' with
        |true,true=>some (.val (.fp xs i 0))
        |_,_=>none
      | some n,.ptr b off=>match Nat.blt i n with
        |true=>some (.val (.ptr b (off+i*es)))
        |false=>none
      |_,_=>none
    |none=>none
 |_=>none
def Kn (_H:Pos->Option AB)(_next:Pos)(off:Nat)(n:Option Nat):List AV->Option bW
 |  [x] =>match x with
    | .agg cs=>match n with
      | none=>match nth cs off with
        |some v=>some (.val v)
        |none=>none
      |some n=>some (.val (.agg ((cs.drop off).take n)))
    |_=>none
 |_=>none
def I8(_H:Pos->Option AB)(_next:Pos):List AV->Option bW
 |  [x,i]=>match x,rS i with
    | .str s,some i=>match nth s i with
      |some c=>some (.val (.int .u8 (.ofNat c)))
      |none=>none
    |_,_=>none
 |_=>none
def zm(_H:Pos->Option AB)(_next:Pos)(i:Nat):List AV->Option bW
 |  [x]=>match x with
    | .tuple vs=>match nth vs i with
      |some v=>some (.val v)
      |none=>none
    |_=>none
 |_=>none
def Ko(_H:Pos->Option AB)(_next:Pos)(f:FuncId):List AV->Option bW
 |xs=>some (.call f xs)
def Kp(_H:Pos->Option AB)(_next:Pos):List AV->Option bW
 |  x::xs=>match x with
    |.func f first captured=>some (.call f (first++(xs++captured)))
    |_=>none
 |_=>none
def Dg(H:Pos->Option AB)(_next:Pos)(k:LK):List AV->Option bW
 |  [x]=>match k,x with
    |.m,.l9=>some (.val (Ey 0))
    | .m,.map b=>match H b with
      |some (.map es _)=>some (.val (Ey es.length))
      |_=>none
    |.s,.str s=>some (.val (Ey s.length))
    |.l,.ax=>some (.val (Ey 0))
    |.l,.slice _ _ n _ _=>some (.val (Ey n))
    |.l,.fl xs _=>some (.val (Ey xs.length))
    |_,_=>none
 |_=>none
def eI (H:  Pos->Option AB)(next:Pos)(es bytes:Nat):List AV->Option bW
 |  [s, x]=> match cI s,cI x with
    | some n,some m=>
      match Nat.ble ((2*(n+m)+768)*bytes) 281474976710656,Nat.ble (n+m) 9223372036854775807 with
      | true,true=>match Nat.beq m 0,s with
        |true,.slice b off n c es'=>some (.val (.slice b off n c es'))
        |true,.fl xs es'=>some (.val (.fl xs es'))
        |true,.ax=>some (.val .ax)
        |false,.ax=>match bS es m H x with
         |some new=>some (.aC (.slice next 0 m none es) none none (some (.cells new 0)))
         |none=>none
        |false,.slice b off n (some c) es'=>
         match Nat.ble (n+m) c with
         |  true=>match H b,bS es m H x with
            |some (.cells cs fz),some new=>match Nat.ble (off+(n+m)*es) cs.length,Nat.ble fz (off+n*es)&&Nat.beq es es',aQ new with
             |true,true,true=>some (.aC (.slice b off (n+m) (some c) es) none (some (b,.cells (aI cs (off+n*es) new) fz)) none)
             |_,_,_=>none
            |_,_=>none
         |  false=>match bS es n H s,bS es m H x with
            |some cT,some new=>some (.aC (.slice next 0 (n+m) none es) none none (some (.cells (cT++new) 0)))
            |_,_=>none
        |false,.slice b off n none es'=>
         match H b,bS es n H s,bS es m H x with
         |  some (.cells _ fz),some cT,some new=>match Nat.ble fz (off+n*es)&&Nat.beq es es',aQ new with
            |true,true=>some (.aC (.slice next 0 (n+m) none es) (some b) none (some (.cells (cT++new) (fz - off))))
            |_,_=>none
         |_,_,_=>none
        |_,_=>none
      |_,_=>none
    |_,_=>none
 |_=>none
def w5 (H : Pos->Option AB)(_next:Pos)(es:Nat):List AV->Option bW
 |  [d, x]=>match cI d,cI x with
    | some n,some m=>
      let k:=min m n
      match Nat.beq k 0 with
      | true=>match d with
        |.str _=>none
        |_=>some (.val (Ey 0))
      | false=>match d with
        | .slice b off _ _ _=>match H b,bS es k H x with
          | some (.cells cs fz),some new=>match Nat.ble (off+k*es) cs.length,Nat.ble fz off,aQ new with
            |true,true,true=>some (.aC (Ey k) none (some (b,.cells (aI cs off new) fz)) none)
            |_,_,_=>none
          |_,_=>none
        |_=>none
    |_,_=>none
 |_=>none
def zH(_H:Pos->Option AB)(_next:Pos):List AV->Option bW
 |  [x,y]=>match x,y with
    |.int k a,.int _ b=>some (.val (.int k (match BA b a with|true=>b|false=>a)))
    |.str a,.str b=>some (.val (.str (match av a b||gw a b with|true=>a|false=>b)))
    |_,_=>none
 |_=>none
def zI(_H:Pos->Option AB)(_next:Pos):List AV->Option bW
 |  [x,y]=>match x,y with
    |.int k a,.int _ b=>some (.val (.int k (match BA a b with|true=>b|false=>a)))
    |.str a,.str b=>some (.val (.str (match av a b with|true=>b|false=>a)))
    |_,_=>none
 |_=>none
def ua (H:Pos->Option AB)(_next:Pos)(es:Nat)(zero:List AV):List AV->Option bW
 |  [x] =>match x with
    |.ax=>some (.val .undef)
    | .slice b off n _ _=>match Nat.beq n 0 with
      |true=>some (.val .undef)
      | false=>match H b with
        |some (.cells cs fz)=>match Nat.ble (off+n*es) cs.length,Nat.ble fz off,aQ (bD zero n)with
         |true,true,true=>some (.aC .undef none (some (b,.cells (aI cs off (bD zero n)) fz)) none)
         |_,_,_=>none
        |_=>none
    |_=>none
 |_=>none
def BC(_H:Pos->Option AB)(next:Pos):List AV->Option bW
 |  [x]=>match x with
    |.str s=>some (.aC (.ptr next 0) none none (some (.gW s 0)))
    |_=>none
 |_=>none
def ED (H:Pos->Option AB)(_next:Pos):List AV->Option bW
 |  [x] =>match x with
    | .ptr b 0=>match H b with
      | some (.gW s pos)=>match Nat.blt pos s.length with
        |true=>match Tz s pos with
         |some (c,w)=>some (.aC (.tuple [.bool true,Ey pos,.int .i32 (.ofNat c)]) none (some (b,.gW s (pos+w))) none)
         |none=>none
        |false=>some (.val (.tuple [.bool false]))
      |_=>none
    |_=>none
 |_=>none
def BD(_H:Pos->Option AB)(next:Pos)(t:TypeId)(zero:List AV):List AV->Option bW
 |[]=>some (.aC (.ptr next 0) none none (some (.typed t zero)))
 |_=>none
def qV (H:Pos->Option AB)(next:Pos)(e:TypeId)(bytes:Nat):List AV->Option bW
 |  [s, x]=> match x with
    | .str u=>match s with
      | .ax=>match Nat.ble ((2*(0+u.length)+768)*bytes) 281474976710656,Nat.ble (0+u.length) 9223372036854775807 with
        |true,true=>match Nat.beq u.length 0 with
         |true=>some (.val .ax)
         |false=>some (.aC (.slice next 0 (0+u.length) none 1) none none (some (.typed e (u.map λc=>.int .u8 (.ofNat c)))))
        |_,_=>none
      | .slice b 0 n none 1=>match Nat.ble ((2*(n+u.length)+768)*bytes) 281474976710656,Nat.ble (n+u.length) 9223372036854775807 with
        |true,true=>match Nat.beq u.length 0 with
         |true=>some (.val (.slice b 0 n none 1))
         |false=>match H b with
          |  some (.typed e' cs)=>match Nat.beq e e',cut cs 0 n with
             |true,some cT=>some (.aC (.slice next 0 (n+u.length) none 1) (some b) none (some (.typed e (cT++u.map λc=>.int .u8 (.ofNat c)))))
             |_,_=>none
          |_=>none
        |_,_=>none
      |_=>none
    |_=>none
 |_=>none
def Ll (H:Pos->Option AB)(_next:Pos):List AV->Option bW
 |  [x] =>match x with
    |.fU=>some (.val .fU)
    | .ptr b off=>match H b with
      | some (.typed _ cs)=>match Nat.blt off cs.length with
        |true=>some (.val (.ptr b off))
        |false=>none
      |_=>none
    |_=>none
 |_=>none
def EE (H:Pos->Option AB)(_next:Pos)(u:TypeId)(n:Nat):List AV->Option bW
 |  [x] =>match x with
    |.fU=>some (.val .fU)
    | .ptr b 0=>match H b with
      | some (.typed t cs)=>match Nat.beq t u,Nat.ble n cs.length with
        |true,true=>some (.val (.ptr b 0))
        |_,_=>none
      |_=>none
    |_=>none
 |_=>none
def p8(_H:Pos->Option AB)(_next:Pos):List AV->Option bW
 |  [x]=>match x with
    |.ax=>some (.val .fU)
    | .slice b off n _ _=>match Nat.beq n 0 with
      |true=>none
      |false=>some (.val (.ptr b off))
    |_=>none
 |_=>none
def mh (H :Pos->Option AB)(_next:Pos)(e:TypeId):List AV->Option bW
 |  [x, y]=> match y with
    | .int .i64 (.ofNat n)=>match Nat.beq n 0 with
      | true=>match x with
        |.fU=>some (.val (.str []))
        |.ptr _ _=>some (.val (.str []))
        |_=>none
      | false=>match x with
        | .ptr b 0=>match H b with
          |some (.typed e' cs)=>match Nat.beq e e',cut cs 0 n,Nat.ble n 9223372036854775807 with
           | true,some l,true=>match bytesOf l with
             |some s=>some (.aC (.str s) (some b) none none)
             |none=>none
           |_,_,_=>none
          |_=>none
        |_=>none
    |_=>none
 |_=>none
def au.run(H:Pos->Option AB)(next:Pos):au->List AV->Option bW
 |.move=>I7 H next
 |.pick=>MU H next
 |.alloc zero=>Ez H next zero
 |.box=>Lj H next
 |.build zero places=>EA H next zero places
 |.buildSlice es len zero places=>ow H next es len zero places
 |.load n=>qU H next n
 |.store n=>zQ H next n
 |.nilCheck=>Cp H next
 |.bin op q=>gx H next op q
 |.un op=>UM H next op
 |.conv k=>wZ H next k
 |.mkIface t=>EB H next t
 |.mkFunc f G9=>BB H next f G9
 |.mkMap=>EC H next
 |.lookup pk zero ok=>tY H next pk zero ok
 |.mapSet pk=>tZ H next pk
 |.mkSlice es bytes zero=>u0 H next es bytes zero
 |.sliceS lo hi=>He H next lo hi
 |.sliceL es lo hi mx=>ni H next es lo hi mx
 |.fieldA off=>Hf H next off
 |.idxA es arr=>mg H next es arr
 |.field off n=>Kn H next off n
 |.idxS=>I8 H next
 |.extract i=>zm H next i
 |.callF f=>Ko H next f
 |.callV=>Kp H next
 |.lenB k=>Dg H next k
 |.append es bytes=>eI H next es bytes
 |.copyB es=>w5 H next es
 |.minB=>zH H next
 |.maxB=>zI H next
 |.clearS es zero=>ua H next es zero
 |.rangeS=>BC H next
 |.nextS=>ED H next
 |.allocT t zero=>BD H next t zero
 |.appendT e bytes=>qV H next e bytes
 |.toU=>Ll H next
 |.fromU u n=>EE H next u n
 |.sliceData=>p8 H next
 |.unsafeStr e=>mh H next e
 |.capB=>λ_=>none
 |.bad=>λ_=>none
inductive dh where
 |t (p:Pos)
 |c (v:AV)
 deriving Inhabited
inductive TA where
 |pure
 |read
 |new
 |aC
 deriving Inhabited
structure aU where
 dst:Option Pos
 k:au
 xs:List dh
 guard:Option (Pos×Bool)
 cls:TA
 bl:Nat
 deriving Inhabited
inductive AC where
 |skip
 |region (ops:List aU)
 |draw (ops:List (Nat×aU))
 |seq (a b:AC)
 |cond (x:dh) (a b:AC)
 |block (id:Nat) (a:AC)
 |loop (a:AC)
 |exit (id:Nat)
 |ret
 deriving Inhabited
inductive xL where
 |tmp (p:Pos)
 |cell (p:Pos) (n:Option Nat)
 deriving Inhabited
structure b9 where
 code:AC
 nparams:Nat
 results:List xL
 deriving Inhabited
abbrev Fr:=T AV
structure St where
 heap:T AB
 next:Pos
 deriving Inhabited
inductive gY where
 |normal
 |exit (id:Nat)
 |ret
 deriving Inhabited
def xM(fr:Fr):dh->Option AV
 |.t p=>fr.get p
 |.c v=>some v
def di(fr:Fr):List dh->Option (List AV)
 |[]=>some []
 |  x::xs=>match xM fr x with
    |some v=>match di fr xs with
     |some vs=>some (v::vs)
     |none=>none
    |none=>none
def bA(fr:Fr):Option (Pos×Bool)->Option Bool
 |none=>some true
 |  some (p,want)=>match fr.get p with
    |some (.bool b)=>some (b==want)
    |some (.tuple _)=>some false
    |_=>none
def cA(fr:Fr)(d:Option Pos)(v:AV):Fr:=match d with
 |some p=>fr.put (some v) p
 |none=>fr
def EF(o:Option (Pos×AB))(h:T AB):T AB:=match o with
 |some (b,x)=>h.put (some x) b
 |none=>h
def Cq(o:Option Pos)(h:T AB):T AB:=match o with
 |some b=>h.put none b
 |none=>h
def St.aC(st:St)(del:Option Pos)(set:Option (Pos×AB))(new:Option AB):St:=
 match new with
 |some x=>{ heap:=T.put (some x) st.next (EF set (Cq del st.heap)),next:=st.next.succ }
 |none=>{ heap:=EF set (Cq del st.heap),next:=st.next }
abbrev ah:=FuncId->List AV->St->Option (AV×St)
def bQ(call:ah)(k:au)(xs:List AV)(st:St):Option (AV×St):=
 match k.run (λb=>st.heap.get b) st.next xs with
 |some (.val v)=>some (v,st)
 |some (.aC v del set new)=>some (v,st.aC del set new)
 |some (.call f args)=>call f args st
 |none=>none
def gM (call:ah):List aU->Fr->St->Option (Fr×St)
 |[],fr,st=>some (fr,st)
 |  o::os,fr,st=>match bA fr o.guard with
    |some true=>match di fr o.xs with
     |  some xs=>match bQ call o.k xs st with
        |some (v,st')=>gM call os (cA fr o.dst v) st'
        |none=>none
     |none=>none
    |some false=>gM call os (cA fr o.dst .undef) st
    |none=>none
def jq:AV->AV->Bool
 |.bool a,.bool b=>a==b
 |.int k a,.int k' b=>zP k k'&&xD a b
 |.str a,.str b=>gw a b
 |.fU,.fU=>true
 |.ptr b o,.ptr b' o'=>Pos.beq b b'&&Nat.beq o o'
 |.ax,.ax=>true
 |.slice b o l none es,.slice b' o' l' none es'=>Pos.beq b b'&&Nat.beq o o'&&Nat.beq l l'&&Nat.beq es es'
 |.slice b o l (some c) es,.slice b' o' l' (some c') es'=>Pos.beq b b'&&Nat.beq o o'&&Nat.beq l l'&&Nat.beq c c'&&Nat.beq es es'
 |.l9,.l9=>true
 |.map b,.map b'=>Pos.beq b b'
 |.gV,.gV=>true
 |.tE,.tE=>true
 |_,_=>false
def tG:List AV->List AV->Bool
 |[],[]=>true
 |a::x,b::y=>jq a b&&tG x y
 |_,_=>false
def BE(f:AV->AV->Bool):List AV->List AV->Bool
 |[],[]=>true
 |a::x,b::y=>f a b&&BE f x y
 |_,_=>false
def ud(f:AV->AV->Bool):List (List AV)->List (List AV)->Bool
 |[],[]=>true
 |a::x,b::y=>BE f a b&&ud f x y
 |_,_=>false
def BF:Nat->AV->AV->Bool
 |d+1,.fl a n,.fl a' n'=>ud (BF d) a a'&&Nat.beq n n'
 |_,a,b=>jq a b
def w6:AV->AV->Bool
 |.func f a b,.func f' a' b'=>Nat.beq f f'&&tG a a'&&tG b b'
 |.fl a n,.fl a' n'=>BF 3 (.fl a n) (.fl a' n')
 |a,b=>jq a b
def p9:List AV->List AV->Bool
 |[],[]=>true
 |a::x,b::y=>w6 a b&&p9 x y
 |_,_=>false
def fj:AV->AV->Bool
 |.agg l,.agg l'=>p9 l l'
 |.tuple l,.tuple l'=>p9 l l'
 |a,b=>w6 a b
inductive RC where
 |pure
 |new (id:Pos) (aq:AB)
 |aC (base:T AB) (h:T AB)
 deriving Inhabited
structure Rec where
 idx:Nat
 o:aU
 v:AV
 c:RC
 nx:Pos
 deriving Inhabited
def snap(bl:Nat)(h:T AB):List Rec->T AB
 |[]=>h
 |  r ::rs=>match r.c with
    | .new id aq=>match bl.testBit r.idx with
      |true=>(snap bl h rs).put (some aq) id
      |false=>snap bl h rs
    |.aC _ _=>h
    |.pure=>snap bl h rs
def u5:List (Pos×AB)->T AB->T AB
 |[],h=>h
 |(id,aq)::l,h=>(u5 l h).put (some aq) id
def mj(k:au)(xs:List AV)(v:AV)(h:T AB):Bool:=
 match k.run (λb=>h.get b) .h xs with
 |some (.val u)=>fj u v
 |_=>false
def iP(bl:Nat)(k:au)(xs:List AV)(v:AV):List (Pos×AB)->List Rec->Bool
 |_,[]=>true
 |  up,r::rs=>match r.c with
    | .new id aq=>match bl.testBit r.idx with
      |true=>iP bl k xs v ((id,aq)::up) rs
      |false=>iP bl k xs v up rs
    | .aC base _=>match bl.testBit r.idx with
      |true=>true
      |false=>mj k xs v (u5 up (snap bl base rs))&&iP bl k xs v up rs
    |.pure=>iP bl k xs v up rs
def cr (call:ah):List (Nat×aU)->List Rec->T AB->Fr->St->Option (Fr×St)
 |[],_,_,fr,st=>some (fr,st)
 |  (j, o)::os,recs,base,fr,st=>match bA fr o.guard with
    |some false=>cr call os ({ idx:=j,o:=o,v:= .undef,c:= .pure,nx:=st.next }::recs) base (cA fr o.dst .undef) st
    | some true=>match di fr o.xs with
      |none=>none
      | some xs=>match o.cls with
        | .new=>match o.k.run (λ_=>none) st.next xs with
          |some (.aC v none none (some aq))=>
           cr call os ({ idx:=j,o:=o,v:=v,c:= .new st.next aq,nx:=st.next.succ }::recs) base (cA fr o.dst v) { heap:=st.heap.put (some aq) st.next,next:=st.next.succ }
          |_=>none
        | .aC=>match bQ call o.k xs st with
          |some (v,st')=>cr call os ({ idx:=j,o:=o,v:=v,c:= .aC base st'.heap,nx:=st'.next }::recs) st'.heap (cA fr o.dst v) st'
          |none=>none
        | _=>match o.k.run (λ_=>none) .h xs with
          |some (.val v)=>cr call os ({ idx:=j,o:=o,v:=v,c:= .pure,nx:=st.next }::recs) base (cA fr o.dst v) st
          |_=>match o.k.run (λb=>(snap o.bl base recs).get b) .h xs with
           |some (.val v)=>match iP o.bl o.k xs v [] recs with
            |true=>cr call os ({ idx:=j,o:=o,v:=v,c:= .pure,nx:=st.next }::recs) base (cA fr o.dst v) st
            |false=>none
           |_=>none
    |none=>none
def aO(call:ah)(ih:AC->Fr->St->Option (gY×Fr×St)):AC->Fr->St->Option (gY×Fr×St)
 |.skip,fr,st=>some (.normal,fr,st)
 |  .region ops,fr,st=>match gM call ops fr st with
    |some (fr,st)=>some (.normal,fr,st)
    |none=>none
 |  .draw ops,fr,st=>match cr call ops [] st.heap fr st with
    |some (fr,st)=>some (.normal,fr,st)
    |none=>none
 |  .seq a b,fr,st=>match ih a fr st with
    |some (.normal,fr,st)=>ih b fr st
    |r=>r
 |  .cond x a b,fr,st=>match xM fr x with
    |some (.bool true)=>ih a fr st
    |some (.bool false)=>ih b fr st
    |_=>none
 |  .block id a,fr,st=>match ih a fr st with
    |some (.exit pJ,fr,st)=>match Nat.beq pJ id with
     |true=>some (.normal,fr,st)
     |false=>some (.exit pJ,fr,st)
    |r=>r
 |  .loop a,fr,st=>match ih a fr st with
    |some (.normal,fr,st)=>ih (.loop a) fr st
    |r=>r
 |.exit id,fr,st=>some (.exit id,fr,st)
 |.ret,fr,st=>some (.ret,fr,st)
def exec(call:ah):Nat->AC->Fr->St->Option (gY×Fr×St)
 |0=>λ_ _ _=>none
 |n+1=>aO call (exec call n)
def params:Nat->List AV->Fr->Fr
 |_,[],fr=>fr
 |i,v::vs,fr=>params (i+1) vs (fr.put (some v) (key i))
def bY (H:Pos->Option AB)(fr:Fr):List xL->Option (List AV)
 |[]=>some []
 |  .tmp p::rs=>match fr.get p with
    |some v=>match bY H fr rs with
     |some vs=>some (v::vs)
     |none=>none
    |none=>none
 |  .cell p n::rs=>match fr.get p with
    |some q=>match (au.load n).run H .h [q]with
     |  some (.val v)=>match bY H fr rs with
        |some vs=>some (v::vs)
        |none=>none
     |_=>none
    |none=>none
def fk:List AV->AV
 |[v]=>v
 |vs=>.tuple vs
abbrev dw:=FuncId->Option (List AV->St->Option (AV×St))
def nC (O:dw)(G:T b9)(m:Nat):Nat->ah
 |0=>λ_ _ _=>none
 |  d+  1=>λf args st=>match O f with
    |some s=>s args st
    |none=>match G.get (key f)with
     |  some F=>match Nat.beq args.length F.nparams with
        |true=>match exec (nC O G m d) m F.code (params 0 args .e) st with
         |some (.normal,fr,st')=>match bY (λb=>st'.heap.get b) fr F.results with
          |some vs=>some (fk vs,st')
          |none=>none
         |some (.ret,fr,st')=>match bY (λb=>st'.heap.get b) fr F.results with
          |some vs=>some (fk vs,st')
          |none=>none
         |_=>none
        |false=>none
     |none=>none
inductive TK where
 |bool
 |int (k:IntKind)
 |string
 |ptr (elem:Nat)
 |slice (elem:Nat)
 |array (n elem:Nat)
 |map (k e:Nat)
 |struct (fs:List (Nat×Nat×Bool))
 |func
 |iface
 |V7
 |other
 deriving Inhabited
structure TI where
 k:TK
 size:Nat
 bytes:Nat
 zero:Option (List AV)
 tr:Bool:=false
 deriving Inhabited
def EG:Value->Option AV
 |.bool b=>some (.bool b)
 |.int k n=>some (.int k n)
 |.string s=>some (.str (s.data.toList.map UInt8.toNat))
 |.pointer none=>some .fU
 |.slice none 0 0=>some .ax
 |.map none=>some .l9
 |.func (.func f) ⟨[]⟩ ⟨[]⟩=>some (.func f [] [])
 |.nilFunc=>some .gV
 |.nilIface=>some .tE
 |_=>none
def kQ:List Value->Option (List AV)
 |[]=>some []
 |  v::vs=>match EG v,kQ vs with
    |some a,some as=>some (a::as)
    |_,_=>none
def MV:Value->Option AV
 |  .agg cs=>match kQ cs.toList with
    |some l=>some (.agg l)
    |none=>none
 |v=>EG v
def jd:Operand->Option dh
 |.tmp t=>some (.t (key t))
 |  .const v=>match MV v with
    |some a=>some (.c a)
    |none=>none
 |.func f=>some (.c (.func f [] []))
 |.global _=>none
def gL:List Operand->Option (List dh)
 |[]=>some []
 |  x::xs=>match jd x,gL xs with
    |some a,some as=>some (a::as)
    |_,_=>none
def TK.isAgg:TK->Bool
 |.struct _=>true
 |.array _ _=>true
 |_=>false
abbrev TT:=T TI
def u6(tt:TT)(t:Nat):Option eA:=match tt.get (key t)with
 |  some ti=>match ti.k with
    |.bool=>some .bool
    |.int _=>some .num
    |.string=>some .num
    |.ptr _=>some .ptr
    |.slice _=>some .slice
    |.map _ _=>some .map
    |.func=>some .func
    |.iface=>some .iface
    | .struct fs=>match ti.tr,fields fs with
      |true,some l=>some (.struct l)
      |_,_=>none
    |_=>none
 |none=>none
where
 fields:List (Nat×Nat×Bool)->Option (List (Nat×PK))
  |[]=>some []
  |(off,t,named)::fs=>match named,tt.get (key t),fields fs with
   |true,some ti,some l=>match ti.k with
    |.bool=>some ((off,.b)::l)
    |.int _=>some ((off,.i)::l)
    |.string=>some ((off,.s)::l)
    |_=>none
   |_,_,_=>none
def u7(ti:TI):Option Nat:=match ti.k.isAgg with
 |true=>some ti.size
 |false=>none
def abT(tt:TT)(t:Nat)(ti:TI):Bool:=match ti.k with
 |  .struct ((_,p,_)::_)=>match tt.get (key p)with
    |some pi=>match pi.k with
     |.ptr e=>Nat.beq e t
     |_=>false
    |none=>false
 |_=>false
def u9:Option Operand->List Operand
 |some x=>[x]
 |none=>[]
def eJ (tt:TT):Op->Option (au×List dh×TA)
 |  .move x=>match jd x with
    |some a=>some (.move,[a],.pure)
    |none=>none
 |  .assign x=>match jd x with
    |some a=>some (.move,[a],.pure)
    |none=>none
 |  .pick c a b=>match gL [c,a,b]with
    |some l=>some (.pick,l,.pure)
    |none=>none
 |  .alloc t=>match tt.get (key t)with
    |some ti=>match ti.zero with
     |  some z=>match abT tt t ti with
        |true=>some (.allocT t z,[],.aC)
        |false=>some (.alloc z,[],.new)
     |none=>none
    |none=>none
 |  .box _ x=>match jd x with
    |some a=>some (.box,[a],.new)
    |none=>none
 |  .build t ps=>match tt.get (key t),gL (ps.toList.map (·.2))with
    |some ti,some l=>match ti.k,ti.zero with
     |  .struct fs,some z=>match places tt fs (ps.toList.map (·.1)),P0 tt fs with
        |some p,true=>some (.build z p,l,.pure)
        |_,_=>none
     |  .array _ e,some z=>match tt.get (key e)with
        |some te=>some (.build z (ps.toList.map λx=>(x.1*te.size,te.size)),l,.pure)
        |none=>none
     |_,_=>none
    |_,_=>none
 |  .buildSlice t len ps=>match tt.get (key t),gL (ps.toList.map (·.2))with
    |some ti,some l=>match ti.k with
     |  .slice e=>match tt.get (key e)with
        | some te=>match te.zero,Nat.ble (len*te.size) 16777216 with
          |some z,true=>some (.buildSlice te.size len z (ps.toList.map (·.1)),l,.new)
          |_,_=>none
        |none=>none
     |_=>none
    |_,_=>none
 |  .load t a=>match tt.get (key t),jd a with
    |some ti,some a=>some (.load (u7 ti),[a],.read)
    |_,_=>none
 |  .store t a x=>match tt.get (key t),gL [a,x]with
    |some ti,some l=>some (.store ti.size,l,.aC)
    |_,_=>none
 |  .nilCheck x=>match jd x with
    |some a=>some (.nilCheck,[a],.pure)
    |none=>none
 |  .binOp op t x y _=>match u6 tt t,gL [x,y]with
    |some q,some l=>some (.bin op q,l,.pure)
    |none,some l=>match op with
     |.eql=>none
     |.neq=>none
     |_=>some (.bin op .num,l,.pure)
    |_,_=>none
 |  .unOp op _ x=>match jd x with
    |some a=>some (.un op,[a],.pure)
    |none=>none
 |  .convert src dst x=>match tt.get (key src),tt.get (key dst),jd x with
    |some s,some d,some a=>match s.k,d.k with
     |.int _,.int k=>some (.conv (.int k),[a],.pure)
     |.string,.string=>some (.conv .same,[a],.pure)
     |  .string,.slice e=>match tt.get (key e)with
        | some te=>match te.k with
          |.int .u8=>some (.conv .bytes,[a],.new)
          |_=>none
        |none=>none
     |  .slice e,.string=>match tt.get (key e)with
        | some te=>match te.k with
          |.int .u8=>some (.conv .ofBytes,[a],.read)
          |_=>none
        |none=>none
     |  .ptr e,.V7=>match tt.get (key e)with
        | some te=>match Nat.beq te.size 0 with
          |false=>some (.toU,[a],.aC)
          |true=>none
        |none=>none
     |  .V7,.ptr e=>match tt.get (key e)with
        | some te=>match Nat.beq te.size 0 with
          |false=>some (.fromU e te.size,[a],.aC)
          |true=>none
        |none=>none
     |_,_=>none
    |_,_,_=>none
 |  .makeInterface t x=>match tt.get (key t),jd x with
    |some ti,some a=>match ti.k with
     |.iface=>none
     |.other=>none
     |_=>some (.mkIface t,[a],.pure)
    |_,_=>none
 |  .makeFunc fn first captured=>match fn,gL (first.toList++captured.toList)with
    |.func f,some l=>some (.mkFunc f first.size,l,.pure)
    |_,_=>none
 |  .makeMap t r=>match tt.get (key t)with
    |some ti=>match ti.k,r with
     |.map _ _,none=>some (.mkMap,[],.new)
     |.map _ _,some (.const (.int _ _))=>some (.mkMap,[],.new)
     |_,_=>none
    |none=>none
 |  .makeSlice t l c=>match tt.get (key t),gL [l,c]with
    |some ti,some xs=>match ti.k with
     |  .slice e=>match tt.get (key e)with
        | some te=>match te.zero with
          |some z=>some (.mkSlice te.size te.bytes z,xs,.new)
          |none=>none
        |none=>none
     |_=>none
    |_,_=>none
 |  .slice t x lo hi mx=>match tt.get (key t),gL ([x]++u9 lo++u9 hi++u9 mx)with
    |some ti,some xs=>match ti.k with
     |  .string=>match mx with
        |none=>some (.sliceS lo.isSome hi.isSome,xs,.pure)
        |some _=>none
     |  .slice e=>match tt.get (key e)with
        |some te=>some (.sliceL te.size lo.isSome hi.isSome mx.isSome,xs,.pure)
        |none=>none
     |_=>none
    |_,_=>none
 |  .fieldAddr t x f=>match tt.get (key t),jd x with
    |some ti,some a=>match ti.k with
     |  .struct fs=>match nth fs f with
        | some (off,ft,_)=>match tt.get (key ft)with
          |some fi=>match Nat.beq fi.size 0 with
           |false=>some (.fieldA off,[a],.pure)
           |true=>none
          |none=>none
        |none=>none
     |_=>none
    |_,_=>none
 |  .field t x f=>match tt.get (key t),jd x with
    |some ti,some a=>match ti.k with
     |  .struct fs=>match nth fs f with
        | some (off,ft,_)=>match tt.get (key ft)with
          |some fi=>some (.field off (u7 fi),[a],.pure)
          |none=>none
        |none=>none
     |_=>none
    |_,_=>none
 |  .indexAddr t x ix=>match tt.get (key t),gL [x,ix]with
    |some ti,some l=>match ti.k with
     |  .slice e=>match tt.get (key e)with
        |some te=>some (.idxA te.size none,l,.pure)
        |none=>none
     |  .array n e=>match tt.get (key e)with
        |some te=>some (.idxA te.size (some n),l,.pure)
        |none=>none
     |_=>none
    |_,_=>none
 |  .index t x ix=>match tt.get (key t),gL [x,ix]with
    |some ti,some l=>match ti.k with
     |.string=>some (.idxS,l,.pure)
     |_=>none
    |_,_=>none
 |  .lookup t x ix ok=>match tt.get (key t),gL [x,ix]with
    |some ti,some l=>match ti.k with
     |  .map k e=>match tt.get (key k),tt.get (key e)with
        | some tk,some te=>match tk.k,te.zero with
          |.int _,some z=>some (.lookup .i (Dh te z) ok,l,.read)
          |.string,some z=>some (.lookup .s (Dh te z) ok,l,.read)
          |.bool,some z=>some (.lookup .b (Dh te z) ok,l,.read)
          |_,_=>none
        |_,_=>none
     |_=>none
    |_,_=>none
 |.mapUpdate t m k v=>UN tt t m k v
 |.insert t m k v=>UN tt t m k v
 |  .range t x=>match tt.get (key t),jd x with
    |some ti,some a=>match ti.k with
     |.string=>some (.rangeS,[a],.new)
     |_=>none
    |_,_=>none
 |  .next it isString=>match isString,jd it with
    |true,some a=>some (.nextS,[a],.aC)
    |_,_=>none
 |  .extract x i=>match jd x with
    |some a=>some (.extract i,[a],.pure)
    |none=>none
 |  .call c=>match gL c.args.toList with
    |none=>none
    |some xs =>match c.callee with
     |.value (.func f)=>some (.callF f,xs,.aC)
     |  .value x=>match jd x with
        |some a=>some (.callV,a::xs,.aC)
        |none=>none
     |.invoke _ _=>none
     |  .builtin b=>match b with
        | .len=>match c.argTypes.toList,xs with
          |t ::_,[_]=>match tt.get (key t)with
           | some ti=>match ti.k with
             |.string=>some (.lenB .s,xs,.pure)
             |.slice _=>some (.lenB .l,xs,.pure)
             |.map _ _=>some (.lenB .m,xs,.read)
             |_=>none
           |none=>none
          |_,_=>none
        | .append=>match c.argTypes.toList with
          |t ::t2::_=>match tt.get (key t),tt.get (key t2)with
           | some ti,some Gk=>match ti.k,Gk.k with
             |_,.int _=>none
             | .slice e,.string=>match tt.get (key e)with
               | some te=>match te.zero,te.k,Nat.beq te.size 1 with
                 |some _,.int .u8,true=>some (.appendT e te.bytes,xs,.aC)
                 |_,_,_=>none
               |none=>none
             | .slice e,_=>match tt.get (key e)with
               | some te=>match te.zero with
                 |some _=>some (.append te.size te.bytes,xs,.aC)
                 |none=>none
               |none=>none
             |_,_=>none
           |_,_=>none
          |_=>none
        | .copy=>match c.argTypes.toList with
          |t ::_=>match tt.get (key t)with
           | some ti=>match ti.k with
             | .slice e=>match tt.get (key e)with
               |some te=>some (.copyB te.size,xs,.aC)
               |none=>none
             |_=>none
           |none=>none
          |_=>none
        | .unsafeSliceData=>match xs with
          |[_]=>some (.sliceData,xs,.pure)
          |_=>none
        | .unsafeString=>match c.argTypes.toList with
          |[t, _]=>match tt.get (key t)with
           | some ti=>match ti.k with
             | .ptr e=>match tt.get (key e)with
               | some te=>match te.k,Nat.beq te.size 1 with
                 |.int .u8,true=>some (.unsafeStr e,xs,.aC)
                 |_,_=>none
               |none=>none
             |_=>none
           |none=>none
          |_=>none
        | .min=>match xs with
          |[_,_]=>some (.minB,xs,.pure)
          |_=>none
        | .max=>match xs with
          |[_,_]=>some (.maxB,xs,.pure)
          |_=>none
        | .clear=>match c.argTypes.toList with
          |t ::_=>match tt.get (key t)with
           | some ti=>match ti.k with
             | .slice e=>match tt.get (key e)with
               | some te=>match te.zero with
                 |some z=>some (.clearS te.size z,xs,.aC)
                 |none=>none
               |none=>none
             |_=>none
           |none=>none
          |_=>none
        |_=>none
 |_=>none
where
 P0 (tt:TT):List (Nat×Nat×Bool)->Bool
  |[]=>true
  |  (_,t,_)::l=>match tt.get (key t)with
     |some _=>P0 tt l
     |none=>false
 places (tt:TT) (fs:List (Nat×Nat×Bool)):List Nat->Option (List (Nat×Nat))
  |[]=>some []
  |  i ::is=>match nth fs i,places tt fs is with
     | some (off,t,_),some l=>match tt.get (key t)with
       |some ti=>some ((off,ti.size)::l)
       |none=>none
     |_,_=>none
 Dh (te:TI) (z:List AV):AV:=match te.k.isAgg with
  |true=>.agg z
  |  false=>match z with
     |[v]=>v
     |_=>.agg z
 UN (tt:TT) (t:Nat) (m k v:Operand):Option (au×List dh×TA):=
  match tt.get (key t),gL [m,k,v]with
  |  some ti,some l=>match ti.k with
     | .map kt _=>match tt.get (key kt)with
       |some tk=>match tk.k with
        |.int _=>some (.mapSet .i,l,.aC)
        |.string=>some (.mapSet .s,l,.aC)
        |.bool=>some (.mapSet .b,l,.aC)
        |_=>none
       |none=>none
     |_=>none
  |_,_=>none
def Lm(ops:Array Oper):Option (Nat×Bool)->Option (Option (Pos×Bool))
 |none=>some none
 |  some (j,b)=>match ops[j]? with
    |some o=>match o.dst with
     |some d=>some (some (key d,b))
     |none=>none
    |none=>none
def Qp:List Oper->List Nat->List Nat
 |[],acc=>acc
 |o::os,acc=>Qp os (acc++[o.after.toList.foldl (λs e=>match Region.binds .any e with
   |true=>s ||| 2 ^ e.on ||| (nth acc e.on).getD 0
   |false=>s) 0])
def kR(tt:TT)(nt:Nat)(ops:Array Oper):List Oper->List Nat->Option (List aU)
 |[],_=>some []
 |  o::os,bs=>match Lm ops o.guard,kR tt nt ops os bs.tail,ZN nt o.dst with
    |some g,some l,true=>match eJ tt o.op with
     |some (k,xs,cls)=>some ({ dst:=o.dst.map key,k:=k,xs:=xs,guard:=g,cls:=cls,bl:=bs.headD 0 }::l)
     |none=>some ({ dst:=o.dst.map key,k:= .bad,xs:=[],guard:=g,cls:= .aC,bl:=bs.headD 0 }::l)
    |_,_,_=>none
where
 ZN (nt:Nat):Option Tmp->Bool
  |none=>true
  |some d=>Nat.blt d nt
def aU.looks(o:aU):List Pos:=
 (match o.guard with|some (p,_)=>[p]|none=>[])++o.xs.filterMap λ|.t p=>some p|.c _=>none
def Di(p:Pos):List Pos->Bool
 |[]=>false
 |q::l=>Pos.beq p q||Di p l
def Hg(a b:aU):Bool:=
 (match a.dst with
  |some d=> !Di d b.looks&&(match b.dst with|some d'=> !Pos.beq d d'|none=>true)
  |none=>true)&&
 (match b.dst with
  |some d=> !Di d a.looks
  |none=>true)
def tu:List (Nat×aU)->List (Nat×aU)->List (Nat×aU)
 |[],held=>held
 |  (i,o)::l,held=>match o.cls with
    |.aC=>held.filter (λx=>o.bl.testBit x.1)++(i,o)::tu l (held.filter λx=> !o.bl.testBit x.1)
    |_=>tu l (held++[(i,o)])
def zR:Nat->List aU->List (Nat×aU)
 |_,[]=>[]
 |i,o::os=>(i,o)::zR (i+1) os
def Dj(m:Nat):Nat->List (Nat×aU)->Bool
 |seen,[]=>Nat.beq seen (2 ^ m - 1)
 |  seen,(i,o)::l=>Nat.blt i m&& !seen.testBit i&&Nat.beq (o.bl &&& seen) o.bl&&(match o.cls with|.aC=>Nat.beq o.bl seen|_=>true)&&
    (l.all λx=>x.2.bl.testBit i||Hg o x.2)&&Dj m (seen ||| 2 ^ i) l
def pK (tt:TT)(nt:Nat):Code->Option AC
 |.skip=>some .skip
 |  .region _ ops draw=>match kR tt nt ops ops.toList (Qp ops.toList [])with
    |none=>none
    |some l=>match draw with
     |false=>some (.region l)
     |  true=>match Dj l.length 0 (tu (zR 0 l) [])with
        |true=>some (.draw (tu (zR 0 l) []))
        |false=>none
 |  .seq a b=>match pK tt nt a,pK tt nt b with
    |some a,some b=>some (.seq a b)
    |_,_=>none
 |  .cond c a b=>match jd c,pK tt nt a,pK tt nt b with
    |some c,some a,some b=>some (.cond c a b)
    |_,_,_=>none
 |  .block id a=>match pK tt nt a with
    |some a=>some (.block id a)
    |none=>none
 |  .loop a=>match pK tt nt a with
    |some a=>some (.loop a)
    |none=>none
 |.exit id=>some (.exit id)
 |.ret=>some .ret
 |.refuse _=>some (.region [{ dst:=none,k:= .bad,xs:=[],guard:=none,cls:= .aC,bl:=0 }])
 |_=>none
def jP(tt:TT):List ResultVar->Option (List xL)
 |[]=>some []
 |  .tmp t::rs=>match jP tt rs with
    |some l=>some (.tmp (key t)::l)
    |none=>none
 |  .cell a t::rs=>match tt.get (key t),jP tt rs with
    |some ti,some l=>some (.cell (key a) (u7 ti)::l)
    |_,_=>none
def P1(tt:TT)(f:Func):Option b9:=match f.body with
 |  some c=>match pK tt f.ntmps c,jP tt f.results.toList,Nat.ble (f.params.size+f.nfree) f.ntmps with
    |some a,some rs,true=>some { code:=a,nparams:=f.params.size+f.nfree,results:=rs }
    |_,_,_=>none
 |none=>none
structure Loc where
 aq:Nat
 base:Nat
 size:Nat
abbrev Cells:=Addr->Option Value
inductive aj(ρ:Pos->Loc)(n:Nat)(C:Cells):AV->Value->Prop where
 |bool (b:Bool):aj ρ n C (.bool b) (.bool b)
 |int (k:IntKind) (i:Int):aj ρ n C (.int k i) (.int k i)
 |str (s:List Nat) (bs:ByteArray) (h:bs.data.toList.map UInt8.toNat=s):aj ρ n C (.str s) (.string bs)
 |fU:aj ρ n C .fU (.pointer none)
 |ptr (b:Pos) (off:Nat) (h:b.toNat<n):aj ρ n C (.ptr b off) (.pointer (some ⟨(ρ b).aq,(ρ b).base+off,none⟩))
 |fp (xs:List (List AV)) (i j es:Nat) (aq base:Nat) (cell:Nat->Nat->Value)
  (hl:∀(i:Nat)(cs:List AV),xs[i]? =some cs->cs.length=es)
  (hc:∀(i j:Nat)(cs:List AV)(v:AV),xs[i]? =some cs->cs[j]? =some v->C ⟨aq,base+i*es+j,none⟩=some (cell i j))
  (hv:∀(i j:Nat)(cs:List AV)(v:AV),xs[i]? =some cs->cs[j]? =some v->aj ρ n C v (cell i j)):
  aj ρ n C (.fp xs i j) (.pointer (some ⟨aq,base+i*es+j,none⟩))
 |ax:aj ρ n C .ax (.slice none 0 0)
 |slice (b:Pos) (off len:Nat) (cap:Option Nat) (es aF:Nat) (a:Addr) (hl:len<=aF) (hc:∀c,cap=some c->c=aF)
  (ha:aF≠0->b.toNat<n/\a=⟨(ρ b).aq,(ρ b).base+off,none⟩/\(ρ b).base+off+aF*es<=(ρ b).size)
  (hk:cap=none->b.toNat<n):
  aj ρ n C (.slice b off len cap es) (.slice (some a) len aF)
 |fl (xs:List (List AV)) (es aF:Nat) (a:Addr) (cell:Nat->Nat->Value) (hl:xs.length<=aF)
  (hs:xs≠[]->a.spot=none)
  (cU:∀(i:Nat)(cs:List AV),xs[i]? =some cs->cs.length=es)
  (hc:∀(i j:Nat)(cs:List AV)(v:AV),xs[i]? =some cs->cs[j]? =some v->C ⟨a.block,a.off+i*es+j,none⟩=some (cell i j))
  (hv:∀(i j:Nat)(cs:List AV)(v:AV),xs[i]? =some cs->cs[j]? =some v->aj ρ n C v (cell i j)):
  aj ρ n C (.fl xs es) (.slice (some a) xs.length aF)
 |l9:aj ρ n C .l9 (.map none)
 |map (b:Pos) (h:b.toNat<n):aj ρ n C (.map b) (.map (some (ρ b).aq))
 |func (f:FuncId) (x y:List AV) (x' y':Array Value) (hx:x.length=x'.size) (hy:y.length=y'.size)
  (fE:∀(i:Nat)(v:AV)(v':Value),x[i]? =some v->x'[i]? =some v'->aj ρ n C v v') (zS:∀(i:Nat)(v:AV)(v':Value),y[i]? =some v->y'[i]? =some v'->aj ρ n C v v'):
  aj ρ n C (.func f x y) (.func (.func f) x' y')
 |gV:aj ρ n C .gV .nilFunc
 |tE:aj ρ n C .tE .nilIface
 |iface (t:TypeId) (v:AV) (x:Value) (h:aj ρ n C v x):aj ρ n C (.iface t v) (.iface t x)
 |agg (l:List AV) (cs:Array Value) (hl:l.length=cs.size) (h:∀(i:Nat)(v:AV)(v':Value),l[i]? =some v->cs[i]? =some v'->aj ρ n C v v'):
  aj ρ n C (.agg l) (.agg cs)
 |tuple (l:List AV) (cs:Array Value) (hl:l.length=cs.size) (h:∀(i:Nat)(v:AV)(v':Value),l[i]? =some v->cs[i]? =some v'->aj ρ n C v v'):
  aj ρ n C (.tuple l) (.tuple cs)
theorem aj.mono{ρ ρ':Pos->Loc}{n n':Nat}{C:Cells}{v:AV}{x:Value}(h:aj ρ n C v x)
  (aL:∀b:Pos,b.toNat<n->ρ' b=ρ b) (hn:n<=n'):aj ρ' n' C v x:=by
 induction h with
 |bool b=>exact .bool b
 |int k i=>exact .int k i
 |str s bs h=>exact .str s bs h
 |fU=>exact .fU
 |ptr b off h=>rw[<-aL b h];exact .ptr b off (by omega)
 |fp xs i j es aq base cell hl hc _ ih=>exact .fp xs i j es aq base cell hl hc ih
 |ax=>exact .ax
 |slice b off len cap es aF a hl hc ha hk=>
  refine .slice b off len cap es aF a hl hc (λh0=> ?_) (λh0=>by have:=hk h0;omega);obtain⟨h1,h2,h3⟩:=ha h0;rw[aL b h1];exact⟨by omega,h2,h3⟩
 |fl xs es aF a cell hl hs cU hc _ ih=>exact .fl xs es aF a cell hl hs cU hc ih
 |l9=>exact .l9
 |map b h=>rw[<-aL b h];exact .map b (by omega)
 |func f x y x' y' hx hy _ _ V8 V9=>exact .func f x y x' y' hx hy V8 V9
 |gV=>exact .gV
 |tE=>exact .tE
 |iface t v x _ ih=>exact .iface t v x ih
 |agg l cs hl _ ih=>exact .agg l cs hl ih
 |tuple l cs hl _ ih=>exact .tuple l cs hl ih
def ak(ρ:Pos->Loc)(n:Nat)(C:Cells)(l:List AV)(xs:List Value):Prop:=
 l.length=xs.length/\∀(i:Nat)(v:AV)(x:Value),l[i]? =some v->xs[i]? =some x->aj ρ n C v x
section
variable{ρ ρ':Pos->Loc}{n n':Nat}{C:Cells}
theorem ak.mono{l:List AV}{xs:List Value}(h:ak ρ n C l xs)(aL:∀b:Pos,b.toNat<n->ρ' b=ρ b)(hn:n<=n'):
 ak ρ' n' C l xs:=⟨h.1,λi v x hv hx=>(h.2 i v x hv hx).mono aL hn⟩
theorem ak.nil:ak ρ n C [] []:=⟨rfl,λ_ _ _ h=>by simp at h⟩
theorem ak.cons{v:AV}{x:Value}{l:List AV}{xs:List Value}(h:aj ρ n C v x)(hs:ak ρ n C l xs):ak ρ n C (v::l) (x::xs):=
 ⟨by simp[hs.1],λi u y hu hy=>by
  cases i with
  |zero=>simp at hu hy;subst hu;subst hy;exact h
  |succ i=>simp at hu hy;exact hs.2 i u y hu hy⟩
theorem ak.cons_inv{v:AV}{l:List AV}{xs:List Value}(h:ak ρ n C (v::l) xs):∃x sr,xs=x::sr/\aj ρ n C v x/\ak ρ n C l sr:=by
 cases xs with
 |nil=>have:=h.1;simp at this
 |cons x sr=>
  exact⟨x,sr,rfl,h.2 0 v x rfl rfl,by have:=h.1;simpa using this,λi u y hu hy=>h.2 (i+1) u y (by simpa using hu) (by simpa using hy)⟩
theorem ak.kK{xs:List Value}(h:ak ρ n C [] xs):xs=[]:=by
 have:=h.1;cases xs with
 |nil=>rfl
 |cons a b=>simp at this
theorem ak.append{l m:List AV}{xs ys:List Value}(h:ak ρ n C l xs)(k:ak ρ n C m ys):ak ρ n C (l++m) (xs++ys):=by
 refine⟨by simp[h.1,k.1],λi v x hv hx=> ?_⟩;rcases Zh5 i l.length with hi|hi
 .rw[Zc3 hi]at hv;rw[Zc3 (by rw[<-h.1];exact hi)]at hx;exact h.2 i v x hv hx
 .rw[Zc5 hi]at hv;rw[Zc5 (by rw[<-h.1];exact hi), <-h.1]at hx;exact k.2 _ v x hv hx
theorem ak.take{l:List AV}{xs:List Value}(h:ak ρ n C l xs)(m:Nat):ak ρ n C (l.take m) (xs.take m):=by
 refine⟨by simp[h.1],λi v x hv hx=> ?_⟩;rw[Zb0]at hv hx;split at hv
 .rename_i hi;rw[Za7 hi]at hx;exact h.2 i v x hv hx
 .cases hv
theorem ak.drop{l:List AV}{xs:List Value}(h:ak ρ n C l xs)(m:Nat):ak ρ n C (l.drop m) (xs.drop m):=by refine⟨by simp[h.1],λi v x hv hx=> ?_⟩;rw[Zc6]at hv hx;exact h.2 _ v x hv hx
theorem ak.aI{l vs:List AV}{xs ys:List Value}(h:ak ρ n C l xs)(k:ak ρ n C vs ys)(i:Nat):
  ak ρ n C (Go.Ai.aI l i vs) (Go.Ai.aI xs i ys):=by
 unfold Go.Ai.aI;rw[k.1];exact(h.take i).append (k.append (h.drop _))
theorem ak.get{l:List AV}{xs:List Value}(h:ak ρ n C l xs){i:Nat}{v:AV}(hv:l[i]? =some v):∃x,xs[i]? =some x/\aj ρ n C v x:=by
 have hi:i<xs.length:=by rw[<-h.1];exact(H3.1 hv).1
 exact⟨xs[i],H1 hi,h.2 i v _ hv (H1 hi)⟩
theorem aj.zT{l:List AV}{cs:Array Value}(h:ak ρ n C l cs.toList):aj ρ n C (.agg l) (.agg cs):=
 .agg l cs (by simpa using h.1) λi v x hv hx=>h.2 i v x hv (by simpa using hx)
theorem aj.qa{l:List AV}{cs:Array Value}(h:ak ρ n C l cs.toList):aj ρ n C (.tuple l) (.tuple cs):=
 .tuple l cs (by simpa using h.1) λi v x hv hx=>h.2 i v x hv (by simpa using hx)
theorem aj.zJ{l:List AV}{x:Value}(h:aj ρ n C (.agg l) x):∃cs,x= .agg cs/\ak ρ n C l cs.toList:=by
 cases h with|agg _ cs hl h=>exact⟨cs,rfl,by simpa using hl,λi v x hv hx=>h i v x hv (by simpa using hx)⟩
theorem aj.N8{l:List AV}{x:Value}(h:aj ρ n C (.tuple l) x):∃cs,x= .tuple cs/\ak ρ n C l cs.toList:=by
 cases h with|tuple _ cs hl h=>exact⟨cs,rfl,by simpa using hl,λi v x hv hx=>h i v x hv (by simpa using hx)⟩
theorem aj.zU{f:FuncId}{a b:List AV}{x:Value}(h:aj ρ n C (.func f a b) x):
  ∃a' b',x= .func (.func f) a' b'/\ak ρ n C a a'.toList/\ak ρ n C b b'.toList:=by
 cases h with
 |func _ _ _ a' b' hx hy h1 h2=>exact⟨a',b',rfl,⟨by simpa using hx,λi v x hv hx=>h1 i v x hv (by simpa using hx)⟩,⟨by simpa using hy,λi v x hv hx=>h2 i v x hv (by simpa using hx)⟩⟩
theorem aj.cells{v:AV}{x:Value}(h:aj ρ n C v x):ak ρ n C v.cells x.cells.toList:=by
 by_cases hv:∃l,v= .agg l
 .obtain⟨l,rfl⟩:=hv;obtain⟨cs,rfl,hs⟩:=h.zJ;exact hs
 .have h1:v.cells=[v]:=(by cases v<;>first|rfl|exact absurd ⟨_,rfl⟩ hv);have h2:x.cells= #[x]:=(by cases h<;>first|rfl|exact absurd ⟨_,rfl⟩ hv);rw[h1,h2];exact ak.cons h ak.nil
def jQ(ρ:Pos->Loc)(n:Nat)(C:Cells)(L:Loc)(w:World):AB->Prop
 |.cells cs fz=>∃(c:Array Value) (e:TypeId) (fr:Nat×Nat),w.heap[L.aq]? =some (.cells c e fr)/\c.size=L.size/\L.base+cs.length<=c.size/\
  ak ρ n C cs ((c.toList.drop L.base).take cs.length)/\∀i,fz<=i->L.base+i<c.size->¬(fr.1<=L.base+i/\L.base+i<fr.2)
 |.map es clock=>∃(es':Array MapEntry),w.heap[L.aq]? =some (.map es' clock)/\es.length=es'.size/\
  ∀(i:Nat)(e:AV×AV×Nat)(e':MapEntry),es[i]? =some e->es'[i]? =some e'->aj ρ n C e.1 e'.key/\aj ρ n C e.2.1 e'.val/\e.2.2=e'.born
 |.gW s pos=>∃(bs:ByteArray),w.heap[L.aq]? =some (.stringIter bs pos)/\bs.data.toList.map UInt8.toNat=s/\L.base=0
 |.typed t cs=>∃(c:Array Value) (fr:Nat×Nat),w.heap[L.aq]? =some (.cells c t fr)/\c.size=L.size/\L.base+cs.length<=c.size/\
  ak ρ n C cs ((c.toList.drop L.base).take cs.length)/\(∀i,0<=i->L.base+i<c.size->¬(fr.1<=L.base+i/\L.base+i<fr.2))/\L.base=0
theorem jQ.mono{L:Loc}{w:World}{x:AB}(h:jQ ρ n C L w x)(aL:∀b:Pos,b.toNat<n->ρ' b=ρ b)(hn:n<=n'):jQ ρ' n' C L w x:=by
 cases x with
 |cells cs fz=>obtain⟨c,e,fr,h1,h2,h3,h4,h5⟩:=h;exact⟨c,e,fr,h1,h2,h3,h4.mono aL hn,h5⟩
 |map es clock=>obtain⟨es',h1,h2,h3⟩:=h;exact⟨es',h1,h2,λi e e' he iT=>let⟨a,b,c⟩:=h3 i e e' he iT;⟨a.mono aL hn,b.mono aL hn,c⟩⟩
 |gW s pos=>exact h
 |typed t cs=>obtain⟨c,fr,h1,h2,h3,h4,h5⟩:=h;exact⟨c,fr,h1,h2,h3,h4.mono aL hn,h5⟩
theorem jQ.of_heap{L:Loc}{w w':World}{x:AB}(h:jQ ρ n C L w x)(hw:w'.heap[L.aq]? =w.heap[L.aq]?):jQ ρ n C L w' x:=by
 cases x with
 |cells cs fz=>obtain⟨c,e,fr,h1,h2⟩:=h;exact⟨c,e,fr,by rw[hw];exact h1,h2⟩
 |map es clock=>obtain⟨es',h1,h2⟩:=h;exact⟨es',by rw[hw];exact h1,h2⟩
 |gW s pos=>obtain⟨bs,h1,h2⟩:=h;exact⟨bs,by rw[hw];exact h1,h2⟩
 |typed t cs=>obtain⟨c,fr,h1,h2⟩:=h;exact⟨c,fr,by rw[hw];exact h1,h2⟩
end
structure aM(ρ:Pos->Loc)(C:Cells)(st:St)(w:World):Prop where
 live:∀b x,st.heap.get b=some x->b.toNat<st.next.toNat/\(ρ b).aq<w.heap.size/\jQ ρ st.next.toNat C (ρ b) w x
 inj:∀b b' x x',st.heap.get b=some x->st.heap.get b'=some x'->(ρ b).aq=(ρ b').aq->b=b'
 cL:∀a v,C a=some v->w.cell? a=some v/\∀b x,st.heap.get b=some x->(ρ b).aq≠a.block
 whole:∀a v,C a=some v->∀o,C ⟨a.block,o,none⟩=none->w.cell? ⟨a.block,o,none⟩=none
structure iy(ρ:Pos->Loc)(st:St)(w:World)(ρ':Pos->Loc)(st':St)(w':World):Prop where
 os:w'.os=w.os
 tape:w'.tape=w.tape
 output:w'.output=w.output
 size:w.heap.size<=w'.heap.size
 block:∀k,k<w.heap.size->(∀b x,st.heap.get b=some x->(ρ b).aq≠k)->w'.heap[k]? =w.heap[k]?
 kZ:∀b x,st'.heap.get b=some x->(∃b' x',st.heap.get b'=some x'/\(ρ b').aq=(ρ' b).aq)\/w.heap.size<=(ρ' b).aq
theorem iy.refl(ρ:Pos->Loc)(st:St)(w:World):iy ρ st w ρ st w:=⟨rfl,rfl,rfl,H5 _,λ_ _ _=>rfl,λb x h=>.inl ⟨b,x,h,rfl⟩⟩
theorem iy.trans{ρ cV jR:Pos->Loc}{st aJ iU:St}{w w1 w2:World}(h:iy ρ st w cV aJ w1)(k:iy cV aJ w1 jR iU w2):iy ρ st w jR iU w2 where
 os:=k.os.trans h.os
 tape:=k.tape.trans h.tape
 output:=k.output.trans h.output
 size:=Zc1 h.size k.size
 block q hq hn:=by
  rw[k.block q (Zb5 hq h.size) λb x hb e=> ?_,h.block q hq hn];rcases h.kZ b x hb with⟨b',x',h1,h2⟩|h1
  .exact hn b' x' h1 (h2.trans e)
  .rw[e]at h1;omega
 kZ b x hb:=by
  rcases k.kZ b x hb with⟨b',x',h1,h2⟩|h1
  . rcases h.kZ b' x' h1 with⟨b'',x'',h3,h4⟩|h3
    .exact .inl ⟨b'',x'',h3,h4.trans h2⟩
    .right;rw[<-h2];exact h3
  .exact .inr (Zc1 h.size h1)
def eg(ρ:Pos->Loc)(n:Nat)(C:Cells)(fr:Fr)(tmps:Array Value):Prop:=
 ∀p v,fr.get p=some v->∃x,tmps[p.toNat - 1]? =some x/\aj ρ n C v x
theorem Pos.toNat_pos(p:Pos):0<p.toNat:=by
 induction p with
 |h=>simp[Pos.toNat]
 |o p ih=>simp[Pos.toNat];exact ih
 |i p ih=>simp[Pos.toNat]
theorem Pos.toNat_inj:∀{p q:Pos},p.toNat=q.toNat->p=q
 |.h,.h,_=>rfl
 |.h,.o q,hq=>by have:=q.toNat_pos;simp[Pos.toNat]at hq;omega
 |.h,.i q,hq=>by have:=q.toNat_pos;simp[Pos.toNat]at hq;omega
 |.o p,.h,hq=>by have:=p.toNat_pos;simp[Pos.toNat]at hq;omega
 |.o p,.o q,hq=>by simp[Pos.toNat]at hq;rw[Pos.toNat_inj (p:=p) (q:=q) (by omega)]
 |.o p,.i q,hq=>by simp[Pos.toNat]at hq;omega
 |.i p,.h,hq=>by have:=p.toNat_pos;simp[Pos.toNat]at hq;omega
 |.i p,.o q,hq=>by simp[Pos.toNat]at hq;omega
 |.i p,.i q,hq=>by simp[Pos.toNat]at hq;rw[Pos.toNat_inj (p:=p) (q:=q) (by omega)]
theorem Pos.ay(p:Pos):p.succ.toNat=p.toNat+1:=by
 induction p with
 |h=>rfl
 |o p ih=>simp[Pos.succ,Pos.toNat]
 |i p ih=>simp[Pos.succ,Pos.toNat,ih];omega
theorem Pos.EH:∀(f m:Nat),0<m->m<2 ^ (f+1)->(Pos.Qm f m).toNat=m
 |0,m,hp,hl=>by
  simp at hl;have:m=1:=by omega
  subst this;rfl
 |f +   1,m,hp,hl=>by
  unfold Pos.Qm;split
  . (rename_i hb;have:=H4 hb;have:m=1:=by omega);subst this;rfl
  . rename_i hb;have h1:1<m:=by
        rcases Zh5 1 m with hh|hh
        .exact hh
        .rw[Nat.ble_eq_true_of_le hh]at hb;cases hb
    have h2:m / 2<2 ^ (f+1):=(by have:2 ^ (f+1+1)=2*2 ^ (f+1):=(by rw[Nat.pow_succ];omega);omega);split
    .   rename_i he;have:=H2 he;simp only[Pos.toNat];rw[Pos.EH f _ (by omega) h2];omega
    .   rename_i he;have:=Za9 he;simp only[Pos.toNat];rw[Pos.EH f _ (by omega) h2];omega
theorem dM(n:Nat):(key n).toNat=n+1:=Pos.EH _ (n+1) (by omega) Nat.lt_log2_self
theorem T.cR{α:Type}(p:Pos):(T.e:T α).get p=none:=by cases p<;>rfl
theorem T.dJ{α:Type}(x:Option α)(p:Pos)(t:T α):(T.put x p t).get p=x:=by
 induction p generalizing t with
 |h=>cases t<;>rfl
 |o p ih=>cases t<;>exact ih _
 |i p ih=>cases t<;>exact ih _
theorem T.bk{α:Type}(x:Option α){p q:Pos}(h:p≠q)(t:T α):(T.put x p t).get q=t.get q:=by
 induction p generalizing q t with
 |h=>cases q with
  |h=>exact absurd rfl h
  |o q=>cases t<;>simp[T.put,T.get,T.cR]
  |i q=>cases t<;>simp[T.put,T.get,T.cR]
 |o p ih=>cases q with
  |h=>cases t<;>simp[T.put,T.get]
  | o q=>cases t with
    |e=>simp only[T.put,T.get];rw[ih (λe=>h (by rw[e])),T.cR]
    |n l v r=>simp only[T.put,T.get];exact ih (λe=>h (by rw[e])) l
  |i q=>cases t<;>simp[T.put,T.get,T.cR]
 |i p ih=>cases q with
  |h=>cases t<;>simp[T.put,T.get]
  |o q=>cases t<;>simp[T.put,T.get,T.cR]
  | i q=>cases t with
    |e=>simp only[T.put,T.get];rw[ih (λe=>h (by rw[e])),T.cR]
    |n l v r=>simp only[T.put,T.get];exact ih (λe=>h (by rw[e])) r
theorem Pos.beq_eq:∀{p q:Pos},p.beq q=true↔p=q
 |.h,.h=>by simp[Pos.beq]
 |.h,.o q=>by simp[Pos.beq]
 |.h,.i q=>by simp[Pos.beq]
 |.o p,.h=>by simp[Pos.beq]
 |.o p,.o q=>by simp only[Pos.beq,Pos.o.injEq];exact Pos.beq_eq
 |.o p,.i q=>by simp[Pos.beq]
 |.i p,.h=>by simp[Pos.beq]
 |.i p,.o q=>by simp[Pos.beq]
 |.i p,.i q=>by simp only[Pos.beq,Pos.i.injEq];exact Pos.beq_eq
end
noncomputable section
section
variable{R:Type}
def jS{α:Type}(p:Pos):T α->Option α:=
 Pos.rec (motive:=λ_=>T α->Option α)
    (λt=>T.rec (motive:=λ_=>Option α) none (λ_ v _ _ _=>v) t)
    (λ_ ih t=>T.rec (motive:=λ_=>Option α) none (λl _ _ _ _=>ih l) t)
    (λ_ ih t=>T.rec (motive:=λ_=>Option α) none (λ_ _ r _ _=>ih r) t) p
def k8{α:Type}(x:Option α)(p:Pos):T α->(T α->R)->R:=
 Pos.rec (motive:=λ_=>T α->(T α->R)->R)
    (λt k=>T.rec (motive:=λ_=>R) (k (.n .e x .e)) (λl _ r _ _=>k (.n l x r)) t)
    (λ_ ih t k=>T.rec (motive:=λ_=>R) (ih .e λl=>k (.n l none .e)) (λl v r _ _=>ih l λl=>k (.n l v r)) t)
    (λ_ ih t k=>T.rec (motive:=λ_=>R) (ih .e λr=>k (.n .e none r)) (λl v r _ _=>ih r λr=>k (.n l v r)) t) p
def k9(n:Nat)(k:Nat->R):R:=Nat.rec (motive:=λ_=>R) (k 0) (λm _=>k (Nat.succ m)) n
def Kq(n:Int)(k:Int->R):R:=match n with
 |.ofNat m=>k9 m λm=>k (.ofNat m)
 |.negSucc m=>k9 m λm=>k (.negSucc m)
def N9(b:Bool)(k:Bool->R):R:=match b with
 |true=>k true
 |false=>k false
def ve{α:Type}(l:List α):(List α->R)->R:=
 List.rec (motive:=λ_=>(List α->R)->R) (λk=>k []) (λa _ ih k=>ih λt=>k (a::t)) l
def EI(p:Pos):(Pos->R)->R:=
 Pos.rec (motive:=λ_=>(Pos->R)->R) (λk=>k .h) (λ_ ih k=>ih λp=>k (.o p)) (λ_ ih k=>ih λp=>k (.i p)) p
def Qq(o:Option Nat)(k:Option Nat->R):R:=match o with
 |none=>k none
 |some n=>k9 n λn=>k (some n)
def Hh(v:AV)(k:AV->R):R:=match v with
 |.bool b=>N9 b λb=>k (.bool b)
 |.int i n=>Kq n λn=>k (.int i n)
 |.str s=>ve s λs=>k (.str s)
 |.ptr b o=>EI b λb=>k9 o λo=>k (.ptr b o)
 |.slice b o l c es=>EI b λb=>k9 o λo=>k9 l λl=>Qq c λc=>k (.slice b o l c es)
 |.map b=>EI b λb=>k (.map b)
 |.func f x y=>ve x λx=>ve y λy=>k (.func f x y)
 |.agg l=>ve l λl=>k (.agg l)
 |v=>k v
def I9(l:List AV):(List AV->R)->R:=
 List.rec (motive:=λ_=>(List AV->R)->R) (λk=>k []) (λa _ ih k=>Hh a λa=>ih λt=>k (a::t)) l
def oA(v:AV)(k:AV->R):R:=match v with
 |.tuple l=>I9 l λl=>k (.tuple l)
 |v=>Hh v k
def zK(x:AB)(k:AB->R):R:=match x with
 |.cells cs fz=>ve cs λcs=>k9 fz λfz=>k (.cells cs fz)
 |.map es c=>ve es λes=>k9 c λc=>k (.map es c)
 |.gW s p=>k9 p λp=>k (.gW s p)
 |.typed t cs=>ve cs λcs=>k (.typed t cs)
def Ln(p:Pos):(Pos->R)->R:=
 Pos.rec (motive:=λ_=>(Pos->R)->R) (λk=>k (.o .h)) (λq _ k=>k (.i q)) (λ_ ih k=>ih λp=>k (.o p)) p
variable(z:R)
def Oa(fr:Fr)(x:dh)(k:AV->R):R:=match x with
 |  .t p=>match jS p fr with
    |some v=>k v
    |none=>z
 |.c v=>k v
def Kr(fr:Fr)(xs:List dh):(List AV->R)->R:=
 List.rec (motive:=λ_=>(List AV->R)->R) (λk=>k []) (λx _ ih k=>Oa z fr x λv=>ih λvs=>k (v::vs)) xs
def zL(fr:Fr)(g:Option (Pos×Bool))(yes no:R):R:=match g with
 |none=>yes
 |  some (p,want)=>match jS p fr with
    |some (.bool b)=>match b==want with
     |true=>yes
     |false=>no
    |some (.tuple _)=>no
    |_=>z
def iQ(fr:Fr)(d:Option Pos)(v:AV)(k:Fr->R):R:=match d with
 |some p=>k8 (some v) p fr k
 |none=>k fr
def delK(o:Option Pos)(h:T AB)(k:T AB->R):R:=match o with
 |some b=>k8 none b h k
 |none=>k h
def X6(o:Option (Pos×AB))(h:T AB)(k:T AB->R):R:=match o with
 |some (b,x)=>zK x λx=>k8 (some x) b h k
 |none=>k h
abbrev gp(R:Type):=FuncId->List AV->St->(AV->St->R)->R
def X7(st:St)(del:Option Pos)(set:Option (Pos×AB))(new:Option AB)(k:St->R):R:=
 delK del st.heap λh=>X6 set h λh=>match new with
    |some x=>zK x λx=>k8 (some x) st.next h λh=>Ln st.next λn=>k { heap:=h,next:=n }
    |none=>k { heap:=h,next:=st.next }
def Ja(call:gp R)(op:au)(xs:List AV)(st:St)(k:AV->St->R):R:=
 match op.run (λb=>jS b st.heap) st.next xs with
 |some (.val v)=>oA v λv=>k v st
 |some (.aC v del set new)=>oA v λv=>X7 st del set new λst=>k v st
 |some (.call f args)=>ve args λargs=>call f args st k
 |none=>z
def MW(call:gp R)(ops:List aU):Fr->St->(Fr->St->R)->R:=
 List.rec (motive:=λ_=>Fr->St->(Fr->St->R)->R) (λfr st k=>k fr st)
    (λo _ ih fr st k=>zL z fr o.guard
     (Kr z fr o.xs λxs=>Ja z call o.k xs st λv st=>iQ fr o.dst v λfr=>ih fr st k)
     (iQ fr o.dst .undef λfr=>ih fr st k)) ops
def EJ (bl:Nat)(h:T AB)(recs:List Rec):(T AB->R)->R:=
 List.rec (motive:=λ_=>(T AB->R)->R) (λk=>k h)
    (fun r _ ih k=>match r.c with
     |  .new id aq=>match bl.testBit r.idx with
        |true=>ih λh'=>k8 (some aq) id h' k
        |false=>ih k
     |.aC _ _=>k h
     |.pure=>ih k) recs
def Qr(h:T AB)(l:List (Pos×AB)):(T AB->R)->R:=
 List.rec (motive:=λ_=>(T AB->R)->R) (λk=>k h) (λx _ ih k=>ih λh'=>k8 (some x.2) x.1 h' k) l
def Qt(op:au)(xs:List AV)(v:AV)(h:T AB):Bool:=
 match op.run (λb=>jS b h) .h xs with
 |some (.val u)=>fj u v
 |_=>false
def nj(bl:Nat)(op:au)(xs:List AV)(v:AV):List (Pos×AB)->List Rec->Bool
 |_,[]=>true
 |  up,r::rs=>match r.c with
    | .new id aq=>match bl.testBit r.idx with
      |true=>nj bl op xs v ((id,aq)::up) rs
      |false=>nj bl op xs v up rs
    | .aC base _=>match bl.testBit r.idx with
      |true=>true
      |false=>(EJ bl base rs λh=>Qr h up λh=>Qt op xs v h)&&nj bl op xs v up rs
    |.pure=>nj bl op xs v up rs
def EK (call:gp R)(ops:List (Nat×aU)):List Rec->T AB->Fr->St->(Fr->St->R)->R:=
 List.rec ( motive:=λ_=>List Rec->T AB->Fr->St->(Fr->St->R)->R)
    (λ_ _ fr st k=>k fr st)
    (fun jo _ ih recs base fr st k=>zL z fr jo.2.guard
     (Kr  z fr jo.2.xs λxs=>match jo.2.cls with
        | .new=>match jo.2.k.run (λ_=>none) st.next xs with
          |some (.aC v none none (some aq))=>oA v λv=>zK aq λaq=>iQ fr jo.2.dst v λfr=>Ln st.next λn=>k8 (some aq) st.next st.heap λh=>
              ih ({ idx:=jo.1,o:=jo.2,v:=v,c:= .new st.next aq,nx:=n }::recs) base fr { heap:=h,next:=n } k
          |_=>z
        |.aC=>Ja z call jo.2.k xs st λv st'=>iQ fr jo.2.dst v λfr=>ih ({ idx:=jo.1,o:=jo.2,v:=v,c:= .aC base st'.heap,nx:=st'.next }::recs) st'.heap fr st' k
        | _ =>match jo.2.k.run (λ_=>none) .h xs with
          |some (.val v)=>oA v λv=>iQ fr jo.2.dst v λfr=>ih ({ idx:=jo.1,o:=jo.2,v:=v,c:= .pure,nx:=st.next }::recs) base fr st k
          | _ =>EJ jo.2.bl base recs λh=>match jo.2.k.run (λb=>jS b h) .h xs with
            | some (.val v)=>oA v λv=>match nj jo.2.bl jo.2.k xs v [] recs with
              |true=>iQ fr jo.2.dst v λfr=>ih ({ idx:=jo.1,o:=jo.2,v:=v,c:= .pure,nx:=st.next }::recs) base fr st k
              |false=>z
            |_=>z)
     (iQ fr jo.2.dst .undef λfr=>ih ({ idx:=jo.1,o:=jo.2,v:= .undef,c:= .pure,nx:=st.next }::recs) base fr st k)) ops
abbrev P2(R:Type):=AC->Fr->St->(Fr->St->R)->(Nat->Fr->St->R)->(Fr->St->R)->R
def nk(call:gp R)(ih:P2 R):P2 R
 |.skip,fr,st,kn,_,_=>kn fr st
 |.region ops,fr,st,kn,_,_=>MW z call ops fr st kn
 |.draw ops,fr,st,kn,_,_=>EK z call ops [] st.heap fr st kn
 |.seq a b,fr,st,kn,kx,kr=>ih a fr st (λfr st=>ih b fr st kn kx kr) kx kr
 |  .cond x a b,fr,st,kn,kx,kr=>Oa z fr x λv=>match v with
    |.bool true=>ih a fr st kn kx kr
    |.bool false=>ih b fr st kn kx kr
    |_=>z
 | .block id a,fr,st,kn,kx,kr=>ih a fr st kn (λpJ fr st=>match Nat.beq pJ id with
     |true=>kn fr st
     |false=>kx pJ fr st) kr
 |.loop a,fr,st,kn,kx,kr=>ih a fr st (λfr st=>ih (.loop a) fr st kn kx kr) kx kr
 |.exit id,fr,st,_,kx,_=>kx id fr st
 |.ret,fr,st,_,_,kr=>kr fr st
def Lo(call:gp R)(n:Nat):P2 R:=
 Nat.rec (motive:=λ_=>P2 R) (λ_ _ _ _ _ _=>z) (λ_ ih=>nk z call ih) n
def w7(vs:List AV):Nat->Fr->(Fr->R)->R:=
 List.rec (motive:=λ_=>Nat->Fr->(Fr->R)->R) (λ_ fr k=>k fr)
    (λv _ ih i fr k=>k8 (some v) (key i) fr λfr=>ih (i+1) fr k) vs
def w8(st:St)(fr:Fr)(rs:List xL)(k:AV->R):R:=
 match bY (λb=>jS b st.heap) fr rs with
 |  some vs=>I9 vs λvs=>match vs with
    |[v]=>k v
    |vs=>k (.tuple vs)
 |none=>z
def Bz (O:dw  )(G:T b9)(m:Nat)(d:Nat):gp R:=
 Nat.rec (motive:=λ_=>gp R) (λ_ _ _ _=>z)
    (fun _ ih f args st k=>match O f with
     |  some s=>match s args st with
        |some (v,st')=>oA v λv=>k v st'
        |none=>z
     |  none=>match jS (key f) G with
        |some F=>match Nat.beq args.length F.nparams with
         |true=>w7 args 0 .e λfr=>Lo z ih m F.code fr st
              (λfr st=>w8 z st fr F.results λv=>k v st)
              (λ_ _ _=>z)
              (λfr st=>w8 z st fr F.results λv=>k v st)
         |false=>z
        |none=>z) d
end
end
end Go.Ai
