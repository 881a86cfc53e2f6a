/- An evaluator over plain values, its compiler and its relation to worlds. -/
import Derived.Orders
import Derived.Below
set_option linter.all false
def H0:=@Option.some.injEq
def H1:=@List.getElem?_eq_getElem
def H2:=@Nat.eq_of_beq_eq_true
def H3:=@List.getElem?_eq_some_iff
def H4:=@Nat.le_of_ble_eq_true
def H5:=@decide_eq_false
def Za0:=@decide_eq_true
def Za1:=@Nat.le_refl
def Za2:=@List.mem_cons
def Za3:=@List.mem_cons_of_mem
def Za4:=@Bool.and_eq_true
def Za5:=@if_neg
def Za6:=@if_pos
def Za7:=@List.eq_nil_of_length_eq_zero
def Za8:=@Prod.mk.injEq
def Za9:=@List.getElem?_take
def Zb0:=@Nat.ne_of_beq_eq_false
def Zb1:=@List.map_cons
def Zb2:=@List.take_succ_eq_append_getElem
def Zb3:=@List.length_map
def Zb4:=@List.getElem?_eq_none
def Zb5:=@List.drop_eq_getElem_cons
def Zb6:=@List.getElem?_map
def Zb7:=@Nat.lt_of_lt_of_le
def Zb8:=@Array.getElem?_eq_some_iff
def Zb9:=@Nat.zero_add
def Zc0:=@List.getElem_mem
def Zc1:=@List.mem_of_getElem?
def Zc2:=@List.mem_cons_self
def Zc3:=@List.mem_singleton
def Zc4:=@Nat.le_trans
def Zc5:=@List.drop_zero
def Zc6:=@decide_eq_true_eq
def Zc7:=@List.getElem?_append_left
def Zc8:=@List.getElem?_append_right
def Zc9:=@List.getElem?_drop
def Zd0:=@List.not_mem_nil
def Zd1:=@Array.getElem?_setIfInBounds_ne
def Zd2:=@List.mem_append
def Zd3:=@List.map_nil
def Zd4:=@Bool.false_eq_true
def Zd5:=@List.getD_eq_getElem?_getD
def Zd6:=@List.all_eq_true
def Zd7:=@if_false
def Zd8:=@List.length_append
def Zd9:=@Option.map_some
def Ze0:=@Bool.true_and
def Ze1:=@Nat.add_sub_cancel
def Ze2:=@Array.getElem?_eq_getElem
def Ze3:=@List.length_cons
def Ze4:=@Option.bind_some
def Ze5:=@List.nil_append
def Ze6:=@List.getElem?_cons_zero
def Ze7:=@Array.length_toList
def Ze8:=@if_true
def Ze9:=@List.cons_append
def Zf0:=@Option.map_eq_some_iff
def Zf1:=@Array.getElem?_toList
def Zf2:=@List.mem_iff_getElem?
def Zf3:=@List.mem_map
def Zf4:=@List.map_append
def Zf5:=@List.drop_append_of_le_length
def Zf6:=@List.take_of_length_le
def Zf7:=@List.append_nil
def Zf8:=@List.map_map
def Zf9:=@List.flatten_cons
def Zg0:=@List.getElem?_cons_succ
def Zg1:=@decide_eq_false_iff_not
def Zg2:=@List.mem_append_left
def Zg3:=@Array.getElem?_append_left
def Zg4:=@List.mem_iff_getElem
def Zg5:=@Nat.add_assoc
def Zg6:=@Bool.or_eq_true
def Zg7:=@Nat.le_max_right
def Zg8:=@of_decide_eq_true
def Zg9:=@Bool.not_eq_true'
def Zh0:=@Option.some.inj
def Zh1:=@Nat.add_zero
def Zh2:=@or_false
def Zh3:=@Nat.mul_le_mul_right
def Zh4:=@Array.getD_eq_getD_getElem?
def Zh5:=@Bool.eq_iff_iff
def Zh6:=@List.cons.injEq
def Zh7:=@Nat.le_max_left
def Zh8:=@List.mem_append_right
def Zh9:=@List.length_take
def Zi0:=@Nat.lt_or_ge
def Zi1:=@Nat.add_mul
def Zi2:=@List.append_assoc
def Zi3:=@List.ext_getElem?
def Zi4:=@List.map_congr_left
def Zi5:=@Option.getD_some
def Zi6:=@Classical.byContradiction
def Zi7:=@Function.comp_def
def Zi8:=@Int.toNat_natCast
def Zi9:=@Nat.succ_mul
def Zj0:=@decide_true
def Zj1:=@Bool.and_true
def Zj2:=@Bool.and_self
def Zj3:=@Nat.mod_eq_of_lt
def Zj4:=@Nat.mul_one
def Zj5:=@Nat.min_eq_left
def Zj6:=@List.take_left'
def Zj7:=@Array.getElem?_setIfInBounds
def Zj8:=@Array.mem_of_getElem?
def Zj9:=@List.take_append_drop
def Zk0:=@List.getElem_take
def Zk1:=@Array.mem_toList_iff
def Zk2:=@List.range_eq_range'
def Zk3:=@Bool.or_eq_false_iff
def Zk4:=@List.take_length
def Zk5:=@of_decide_eq_false
def Zk6:=@Array.ext'
def Zk7:=@List.mem_filterMap
def Zk8:=@Nat.zero_le
def Zk9:=@List.take_add_one
def Zl0:=@not_false_eq_true
def Zl1:=@Nat.sub_zero
def Zl2:=@Bool.not_false
def Zl3:=@List.size_toArray
def Zl4:=@List.drop_drop
def Zl5:=@List.drop_eq_nil_of_le
def Zl6:=@List.flatMap_cons
def Zl7:=@Array.getElem?_modify
def Zl8:=@UInt8.lt_iff_toNat_lt
def Zl9:=@Nat.le_add_right
def Zm0:=@Array.eq_empty_of_size_eq_zero
def Zm1:=@List.range'_succ
def Zm2:=@List.getElem_map
def Zm3:=@Nat.lt_irrefl
def Zm4:=@List.map_take
def Zm5:=@List.all_cons
def Zm6:=@Bool.not_true
def Zm7:=@Array.toList_extract
def Zm8:=@Nat.one_mul
def Zm9:=@List.length_nil
def Zn0:=@List.getElem?_range
def Zn1:=@Nat.sub_self
def Zn2:=@Array.toList_setIfInBounds
def Zn3:=@Nat.mod_eq_sub_mod
def Zn4:=@Nat.eq_zero_or_pos
def Zn5:=@List.take_take
def Zn6:=@Array.toList_map
def Zn7:=@and_true
def Zn8:=@List.drop_length
def Zn9:=@decide_false
def Zo0:=@beq_iff_eq
def Zo1:=@UInt8.toNat_inj
def Zo2:=@List.foldl_cons
def Zo3:=@List.mem_filter
def Zo4:=@List.nodup_cons
namespace Go.Ai
section
inductive Pos where
 |h
 |o (p:Pos)
 |i (p:Pos)
 deriving DecidableEq,Inhabited
def Pos.toNat:Pos->Nat
 |.h=>1
 |.o p=>2*p.toNat
 |.i p=>2*p.toNat+1
def Pos.succ:Pos->Pos
 |.h=>.o .h
 |.o p=>.i p
 |.i p=>.o p.succ
def Pos.Sz:Nat->Nat->Pos
 |0,_=>.h
 |  f+1,n=>match Nat.ble n 1 with
    |true=>.h
    |false=>match Nat.beq (n % 2) 0 with
     |true=>.o (Pos.Sz f (n / 2))
     |false=>.i (Pos.Sz f (n / 2))
def key(n:Nat):Pos:=Pos.Sz (n+1).log2 (n+1)
def Pos.beq:Pos->Pos->Bool
 |.h,.h=>true
 |.o a,.o b=>a.beq b
 |.i a,.i b=>a.beq b
 |_,_=>false
inductive T(α:Type) where
 |e
 |n (l:T α) (v:Option α) (r:T α)
 deriving Inhabited
def T.get{α:Type}:Pos->T α->Option α
 |_,.e=>none
 |.h,.n _ v _=>v
 |.o p,.n l _ _=>l.get p
 |.i p,.n _ _ r=>r.get p
def T.put{α:Type}(x:Option α):Pos->T α->T α
 |.h,.e=>.n .e x .e
 |.h,.n l _ r=>.n l x r
 |.o p,.e=>.n (T.put x p .e) none .e
 |.o p,.n l v r=>.n (T.put x p l) v r
 |.i p,.e=>.n .e none (T.put x p .e)
 |.i p,.n l v r=>.n l v (T.put x p r)
inductive AV where
 |bool (b:Bool)
 |int (k:IntKind) (n:Int)
 |str (s:List Nat)
 |gq
 |ptr (b:Pos) (off:Nat)
 |fp (xs:List (List AV)) (i j:Nat)
 |ax
 |slice (b:Pos) (off len:Nat) (cap:Option Nat) (es:Nat)
 |fl (xs:List (List AV)) (es:Nat)
 |mO
 |map (b:Pos)
 |func (f:FuncId) (first captured:List AV)
 |ir
 |uI
 |iface (t:TypeId) (v:AV)
 |agg (l:List AV)
 |tuple (l:List AV)
 deriving Inhabited
inductive AB where
 |cells (cs:List AV) (fz:Nat)
 |map (es:List (AV×AV×Nat)) (clock:Nat)
 |iu (s:List Nat) (pos:Nat)
 |typed (t:TypeId) (cs:List AV)
 deriving Inhabited
def AV.cells:AV->List AV
 |.agg l=>l
 |v=>[v]
def AV.undef:AV:= .tuple []
def AV.one:AV->Bool
 |.agg _=>false
 |.tuple _=>false
 |_=>true
def aU:List AV->Bool
 |[]=>true
 |  v::l=>match v.one with
    |true=>aU l
    |false=>false
inductive bV where
 |val (v:AV)
 |aG (v:AV) (del:Option Pos) (set:Option (Pos×AB)) (new:Option AB)
 |call (f:FuncId) (args:List AV)
 deriving Inhabited
def nth{α:Type}:List α->Nat->Option α
 |[],_=>none
 |a::_,0=>some a
 |_::l,n+1=>nth l n
def cut{α:Type}(l:List α)(i n:Nat):Option (List α):=
 match Nat.ble (i+n) l.length with
 |true=>some ((l.drop i).take n)
 |false=>none
def aK{α:Type}(l:List α)(i:Nat)(vs:List α):List α:=l.take i++(vs++l.drop (i+vs.length))
def gM:List Nat->List Nat->Bool
 |[],[]=>true
 |  a::x,b::y=>match Nat.beq a b with
    |true=>gM x y
    |false=>false
 |_,_=>false
def aA:List Nat->List Nat->Bool
 |_,[]=>false
 |[],_::_=>true
 |  a::x,b::y=>match Nat.blt a b with
    |true=>true
    |false=>match Nat.beq a b with
     |true=>aA x y
     |false=>false
inductive PK where
 |b
 |i
 |s
 deriving Inhabited
inductive eI where
 |num
 |bool
 |ptr
 |slice
 |map
 |func
 |iface
 |struct (fs:List (Nat×PK))
 deriving Inhabited
inductive ab7 where
 |int (k:IntKind)
 |same
 |bytes
 |ofBytes
 deriving Inhabited
inductive LK where
 |s
 |l
 |m
 deriving Inhabited
inductive az where
 |move
 |pick
 |alloc (zero:List AV)
 |box
 |build (zero:List AV) (places:List (Nat×Nat))
 |buildSlice (es len:Nat) (zero:List AV) (places:List Nat)
 |load (n:Option Nat)
 |store (n:Nat)
 |nilCheck
 |bin (op:BinOp) (q:eI)
 |un (op:UnOp)
 |conv (k:ab7)
 |mkIface (t:TypeId)
 |mkFunc (f:FuncId) (IZ:Nat)
 |mkMap
 |lookup (pk:PK) (zero:AV) (ok:Bool)
 |mapSet (pk:PK)
 |mkSlice (es bytes:Nat) (zero:List AV)
 |sliceS (lo hi:Bool)
 |sliceL (es:Nat) (lo hi mx:Bool)
 |fieldA (off:Nat)
 |idxA (es:Nat) (arr:Option Nat)
 |field (off:Nat) (n:Option Nat)
 |idxS
 |extract (i:Nat)
 |callF (f:FuncId)
 |callV
 |lenB (k:LK)
 |capB
 |append (es bytes:Nat)
 |copyB (es:Nat)
 |minB
 |maxB
 |clearS (es:Nat) (zero:List AV)
 |rangeS
 |nextS
 |allocT (t:TypeId) (zero:List AV)
 |appendT (e:TypeId) (bytes:Nat)
 |toU
 |fromU (u:TypeId) (n:Nat)
 |sliceData
 |unsafeStr (e:TypeId)
 |bad
 deriving Inhabited
def SA(k:IntKind):Int:=match k with
 |.i8=> -128|.i16=> -32768|.i32=> -2147483648|.i64=> -9223372036854775808|_=>0
def SB(k:IntKind):Int:=match k with
 |.i8=>127|.i16=>32767|.i32=>2147483647|.i64=>9223372036854775807
 |.u8=>255|.u16=>65535|.u32=>4294967295|.u64=>18446744073709551615
def aD(k:IntKind)(n:Int):Int:=
 match Int.decLe (SA k) n with
 |  .isTrue _=>match Int.decLe n (SB k)with
    |.isTrue _=>n
    |.isFalse _=>k.wrap n
 |.isFalse _=>k.wrap n
def Bm(a b:IntKind):Bool:=match decEq a b with
 |.isTrue _=>true
 |.isFalse _=>false
def yW(a b:Int):Bool:=match Int.decEq a b with
 |.isTrue _=>true
 |.isFalse _=>false
def yX(a b:Int):Bool:=match Int.decLt a b with
 |.isTrue _=>true
 |.isFalse _=>false
def R8(a b:Int):Bool:=match Int.decLe a b with
 |.isTrue _=>true
 |.isFalse _=>false
def uJ:PK->AV->AV->Option Bool
 |.b,.bool a,.bool b=>some (a==b)
 |  .i,.int k a,.int k' b=>match Bm k k' with
    |true=>some (yW a b)
    |false=>none
 |.s,.str a,.str b=>some (gM a b)
 |_,_,_=>none
def eqFields(xs ys:List AV):List (Nat×PK)->Option Bool
 |[]=>some true
 |  (o,pk)::fs=>match nth xs o,nth ys o with
    | some a,some b=>match uJ pk a b with
      |some true=>eqFields xs ys fs
      |some false=>some false
      |none=>none
    |_,_=>none
def F0:eI->AV->AV->Option Bool
 |.bool,.bool a,.bool b=>some (a==b)
 |.ptr,.gq,.gq=>some true
 |.ptr,.gq,.ptr _ _=>some false
 |.ptr,.ptr _ _,.gq=>some false
 |.ptr,.gq,.fp _ _ _=>some false
 |.ptr,.fp _ _ _,.gq=>some false
 |  .ptr,.ptr b o,.ptr b' o'=>match Pos.beq b b',Nat.beq o o' with
    |true,true=>some true
    |_,_=>none
 |.slice,.ax,.ax=>some true
 |.slice,.ax,.slice _ _ _ _ _=>some false
 |.slice,.slice _ _ _ _ _,.ax=>some false
 |.slice,.ax,.fl _ _=>some false
 |.slice,.fl _ _,.ax=>some false
 |.map,.mO,.mO=>some true
 |.map,.mO,.map _=>some false
 |.map,.map _,.mO=>some false
 |.func,.ir,.ir=>some true
 |.func,.ir,.func _ _ _=>some false
 |.func,.func _ _ _,.ir=>some false
 |.iface,.uI,.iface _ _=>some false
 |.iface,.iface _ _,.uI=>some false
 |.struct fs,.agg xs,.agg ys=>eqFields xs ys fs
 |_,_,_=>none
def mP (op:BinOp)(q:eI):AV->AV->Option AV
 |  .int k a,.int k' b=>match op with
    | .shl=>match yX b 0 with
      |true=>none
      |false=>some (.int k (aD k (a*2 ^ (min b.toNat k.bits))))
    | .shr=>match yX b 0 with
      |true=>none
      |false=>some (.int k (a.fdiv (2 ^ (min b.toNat k.bits))))
    | op=>match Bm k k' with
      |false=>none
      | true=>match op with
        |.add=>some (.int k (aD k (a+b)))
        |.sub=>some (.int k (aD k (a - b)))
        |.mul=>some (.int k (aD k (a*b)))
        | .quo=>match yW b 0 with
          |true=>none
          |false=>some (.int k (aD k (a.tdiv b)))
        | .rem=>match yW b 0 with
          |true=>none
          |false=>some (.int k (a.tmod b))
        |.and=>some (.int k (k.wrap (BitVec.ofInt k.bits a &&& BitVec.ofInt k.bits b).toNat))
        |.or=>some (.int k (k.wrap (BitVec.ofInt k.bits a ||| BitVec.ofInt k.bits b).toNat))
        |.xor=>some (.int k (k.wrap (BitVec.ofInt k.bits a ^^^ BitVec.ofInt k.bits b).toNat))
        |.andNot=>some (.int k (k.wrap (BitVec.ofInt k.bits a &&& ~~~BitVec.ofInt k.bits b).toNat))
        |.eql=>some (.bool (yW a b))
        |.neq=>some (.bool (!yW a b))
        |.lss=>some (.bool (yX a b))
        |.leq=>some (.bool (R8 a b))
        |.gtr=>some (.bool (yX b a))
        |.geq=>some (.bool (R8 b a))
        |_=>none
 |  .str a,.str b=>match op with
    | .add=>match Nat.ble (a.length+b.length) 9223372036854775807 with
      |true=>some (.str (a++b))
      |false=>none
    |.eql=>some (.bool (gM a b))
    |.neq=>some (.bool (!gM a b))
    |.lss=>some (.bool (aA a b))
    |.leq=>some (.bool (aA a b||gM a b))
    |.gtr=>some (.bool (!(aA a b||gM a b)))
    |.geq=>some (.bool (!aA a b))
    |_=>none
 |  x,y=>match op with
    | .eql=>match F0 q x y with
      |some b=>some (.bool b)
      |none=>none
    | .neq=>match F0 q x y with
      |some b=>some (.bool (!b))
      |none=>none
    |_=>none
def unA(op:UnOp):AV->Option AV
 |  .bool b=>match op with
    |.not=>some (.bool (!b))
    |_=>none
 |  .int k n=>match op with
    |.neg=>some (.int k (aD k (0 - n)))
    |_=>none
 |_=>none
def bS(cells:List AV):List (Nat×Nat)->List AV->Option (List AV)
 |[],[]=>some cells
 |  (off,size)::ps,v::vs=>
    match Nat.beq v.cells.length size,Nat.ble (off+size) cells.length with
    |true,true=>bS (aK cells off v.cells) ps vs
    |_,_=>none
 |_,_=>none
def bF{α:Type}(l:List α):Nat->List α
 |0=>[]
 |n+1=>l++bF l n
def sX:AV->Option Nat
 |  .int _ n=>match n with
    |.ofNat m=>some m
    |.negSucc _=>none
 |_=>none
def F6(n:Nat):AV:= .int .i64 (.ofNat n)
def rows(es:Nat)(cs:List AV):Nat->List (List AV)
 |0=>[]
 |n+1=>cs.take es::rows es (cs.drop es) n
def bounds:(lo hi mx:Bool)->List AV->Option (Option Nat×Option Nat×Option Nat)
 |false,false,false,[]=>some (none,none,none)
 |  true,false,false,[a]=>match sX a with
    |some l=>some (some l,none,none)
    |none=>none
 |  false,true,false,[b]=>match sX b with
    |some h=>some (none,some h,none)
    |none=>none
 |  true,true,false,[a,b]=>match sX a,sX b with
    |some l,some h=>some (some l,some h,none)
    |_,_=>none
 |  false,true,true,[b,c]=>match sX b,sX c with
    |some h,some m=>some (none,some h,some m)
    |_,_=>none
 |  true,true,true,[a,b,c]=>match sX a,sX b,sX c with
    |some l,some h,some m=>some (some l,some h,some m)
    |_,_,_=>none
 |_,_,_,_=>none
def bX(es n:Nat)(H:Pos->Option AB):AV->Option (List AV)
 |.ax=>some []
 |  .slice b off _ _ _=>match Nat.beq (n*es) 0 with
    |true=>some []
    |false=>match H b with
     |some (.cells cs _)=>cut cs off (n*es)
     |_=>none
 |  .fl xs es'=>match Nat.beq es es',Nat.ble n xs.length with
    |true,true=>some (xs.take n).flatten
    |_,_=>none
 |  .str s=>match Nat.beq es 1,Nat.ble n s.length with
    |true,true=>some ((s.take n).map λc=>.int .u8 (.ofNat c))
    |_,_=>none
 |_=>none
def cN:AV->Option Nat
 |.ax=>some 0
 |.slice _ _ n _ _=>some n
 |.fl xs _=>some xs.length
 |.str s=>some s.length
 |_=>none
def iw(pk:PK)(k:AV):List (AV×AV×Nat)->Nat->Option (Option (Nat×AV))
 |[],_=>some none
 |  (k',v,_)::es,i=>match uJ pk k k' with
    |some true=>some (some (i,v))
    |some false=>iw pk k es (i+1)
    |none=>none
def W9:PK->AV->Bool
 |.b,.bool _=>true
 |.i,.int _ _=>true
 |.s,.str _=>true
 |_,_=>false
def lN(k v:AV):List (AV×AV×Nat)->Nat->List (AV×AV×Nat)
 |[],_=>[]
 |(_,_,born)::es,0=>(k,v,born)::es
 |e::es,i+1=>e::lN k v es i
def VU(s:List Nat)(pos:Nat):Option (Nat×Nat):=
 match nth s pos with
 |  some c=>match Nat.blt c 128 with
    |true=>some (c,1)
    |false=>none
 |none=>none
def bytesOf:List AV->Option (List Nat)
 |[]=>some []
 |  .int .u8 (.ofNat n)::l=>match Nat.blt n 256,bytesOf l with
    |true,some s=>some (n::s)
    |_,_=>none
 |_=>none
def KJ(_H:Pos->Option AB)(_next:Pos):List AV->Option bV
 |[x]=>some (.val x)
 |_=>none
def OY(_H:Pos->Option AB)(_next:Pos):List AV->Option bV
 |  [c,a,b]=>match c with
    |.bool true=>some (.val a)
    |.bool false=>some (.val b)
    |_=>none
 |_=>none
def F7(_H:Pos->Option AB)(next:Pos)(zero:List AV):List AV->Option bV
 |[]=>some (.aG (.ptr next 0) none none (some (.cells zero 0)))
 |_=>none
def Np(_H:Pos->Option AB)(next:Pos):List AV->Option bV
 |[x]=>some (.aG (.ptr next 0) none none (some (.cells x.cells 0)))
 |_=>none
def F8(_H:Pos->Option AB)(_next:Pos)(zero:List AV)(places:List (Nat×Nat)):List AV->Option bV
 |  xs=>match bS zero places xs with
    |some cs=>some (.val (.agg cs))
    |none=>none
def oZ(_H:Pos->Option AB)(next:Pos)(es len:Nat)(zero:List AV)(places:List Nat):List AV->Option bV
 |  xs=>match bS (bF zero len) (places.map λi=>(i*es,es)) xs with
    |some cs=>some (.aG (.slice next 0 len (some len) es) none none (some (.cells cs 0)))
    |none=>none
def rR (H :Pos->Option AB)(_next:Pos)(n:Option Nat):List AV->Option bV
 |  [p] =>match p with
    | .ptr b off=>match H b with
      | some (.cells cs _)=>match n with
        | none=>match nth cs off with
          |some v=>some (.val v)
          |none=>none
        | some n=>match cut cs off n with
          |some vs=>some (.val (.agg vs))
          |none=>none
      | some (.typed _ cs)=>match n with
        | none=>match nth cs off with
          |some v=>some (.val v)
          |none=>none
        | some n=>match cut cs off n with
          |some vs=>some (.val (.agg vs))
          |none=>none
      |_=>none
    | .fp xs i j=>match nth xs i with
      | some cs=>match n with
        | none=>match nth cs j with
          |some v=>some (.val v)
          |none=>none
        | some n=>match cut cs j n with
          |some vs=>some (.val (.agg vs))
          |none=>none
      |none=>none
    |_=>none
 |_=>none
def Bn (H:Pos->Option AB)(_next:Pos)(n:Nat):List AV->Option bV
 |  [p, v]=>match p with
    | .ptr b off=>match H b with
      | some (.cells cs fz)=>
        match Nat.beq v.cells.length n,Nat.ble (off+n) cs.length,Nat.ble fz off,aU v.cells with
        |true,true,true,true=>some (.aG .undef none (some (b,.cells (aK cs off v.cells) fz)) none)
        |_,_,_,_=>none
      | some (.typed t cs)=>
        match Nat.beq v.cells.length n,Nat.ble (off+n) cs.length,aU v.cells with
        |true,true,true=>some (.aG .undef none (some (b,.typed t (aK cs off v.cells))) none)
        |_,_,_=>none
      |_=>none
    |_=>none
 |_=>none
def DQ(_H:Pos->Option AB)(_next:Pos):List AV->Option bV
 |  [x]=>match x with
    |.ptr _ _=>some (.val x)
    |.fp _ _ _=>some (.val x)
    |.func _ _ _=>some (.val x)
    |_=>none
 |_=>none
def gO(_H:Pos->Option AB)(_next:Pos)(op:BinOp)(q:eI):List AV->Option bV
 |  [x,y]=>match mP op q x y with
    |some v=>some (.val v)
    |none=>none
 |_=>none
def Xa(_H:Pos->Option AB)(_next:Pos)(op:UnOp):List AV->Option bV
 |  [x]=>match unA op x with
    |some v=>some (.val v)
    |none=>none
 |_=>none
def yw (H:Pos->Option AB)(next:Pos)(k:ab7):List AV->Option bV
 |  [x] =>match k,x with
    |.int k,.int _ n=>some (.val (.int k (aD k n)))
    |.same,.str s=>some (.val (.str s))
    |.bytes,.str s=>some (.aG (.slice next 0 s.length none 1) none none (some (.cells (s.map λc=>.int .u8 (.ofNat c)) 0)))
    |.ofBytes,.ax=>some (.val (.str []))
    | .ofBytes,.slice b off n _ _=>match Nat.beq n 0 with
      |true=>some (.val (.str []))
      | false=>match H b with
        |some (.cells cs _)=>match cut cs off n with
         |some l=>match bytesOf l with
          |some s=>some (.val (.str s))
          |none=>none
         |none=>none
        |_=>none
    |_,_=>none
 |_=>none
def F9(_H:Pos->Option AB)(_next:Pos)(t:TypeId):List AV->Option bV
 |[x]=>some (.val (.iface t x))
 |_=>none
def Da(_H:Pos->Option AB)(_next:Pos)(f:FuncId)(IZ:Nat):List AV->Option bV
 |xs=>some (.val (.func f (xs.take IZ) (xs.drop IZ)))
def Ga(_H:Pos->Option AB)(next:Pos):List AV->Option bV
 |_=>some (.aG (.map next) none none (some (.map [] 0)))
def u9 (H:Pos->Option AB)(_next:Pos)(pk:PK)(zero:AV)(ok:Bool):List AV->Option bV
 |  [m, k]=>
    match (match m with
      | .mO=>match W9 pk k with
        |true=>some none
        |false=>none
      | .map b=>match H b with
        |some (.map es _)=>iw pk k es 0
        |_=>none
      |_=>none)with
    |some (some (_,v))=>some (.val (match ok with|true=>.tuple [v,.bool true]|false=>v))
    |some none=>some (.val (match ok with|true=>.tuple [zero,.bool false]|false=>zero))
    |none=>none
 |_=>none
def ve (H:Pos->Option AB)(_next:Pos)(pk:PK):List AV->Option bV
 |  [m, k,v]=>match m with
    | .map b=>match H b with
      | some (.map es clock)=>match W9 pk k,iw pk k es 0 with
        |true,some (some (i,_))=>some (.aG .undef none (some (b,.map (lN k v es i) clock)) none)
        |true,some none=>some (.aG .undef none (some (b,.map (es++[(k,v,clock)]) (clock+1))) none)
        |_,_=>none
      |_=>none
    |_=>none
 |_=>none
def wq(_H:Pos->Option AB)(next:Pos)(es bytes:Nat)(zero:List AV):List AV->Option bV
 |  [l,c]=>match sX l,sX c with
    | some l,some c=>match Nat.ble l c,Nat.ble (bytes*c) 281474976710656,Nat.ble c 9223372036854775807 with
      |true,true,true=>some (.aG (.slice next 0 l (some c) es) none none (some (.cells (bF zero c) 0)))
      |_,_,_=>none
    |_,_=>none
 |_=>none
def I0(_H:Pos->Option AB)(_next:Pos)(lo hi:Bool):List AV->Option bV
 |  x ::bs=>match x,bounds lo hi false bs with
    | .str s,some (l,h,_)=>
      let h:=h.getD s.length
      let l:=l.getD 0
      match Nat.ble l h,Nat.ble h s.length with
      |true,true=>some (.val (.str ((s.take h).drop l)))
      |_,_=>none
    |_,_=>none
 |_=>none
def nQ (_H:Pos->Option AB)(_next:Pos)(es:Nat)(lo hi mx:Bool):List AV->Option bV
 |  x ::bs=>match x,bounds lo hi mx bs with
    | .slice b off len cap es',some (l,h,m)=>
      match Nat.beq es es',Nat.ble (l.getD 0) (h.getD len)with
      | true,true=>match cap,m with
        | some c,some m=>match Nat.ble (h.getD len) m,Nat.ble m c with
          |true,true=>some (.val (.slice b (off+l.getD 0*es) (h.getD len - l.getD 0) (some (m - l.getD 0)) es))
          |_,_=>none
        | some c,none=>match Nat.ble (h.getD len) c with
          |true=>some (.val (.slice b (off+l.getD 0*es) (h.getD len - l.getD 0) (some (c - l.getD 0)) es))
          |false=>none
        | none,some m=>match Nat.ble (h.getD len) m,Nat.ble m len with
          |true,true=>some (.val (.slice b (off+l.getD 0*es) (h.getD len - l.getD 0) (some (m - l.getD 0)) es))
          |_,_=>none
        | none,none=>match Nat.ble (h.getD len) len with
          |true=>some (.val (.slice b (off+l.getD 0*es) (h.getD len - l.getD 0) none es))
          |false=>none
      |_,_=>none
    | .fl xs es',some (l,h,m)=>
      match Nat.beq es es' with
      | true=>match m with
        | some m=>match Nat.beq (l.getD 0) 0,Nat.beq (h.getD xs.length) 0,Nat.beq m 0 with
          |true,true,true=>some (.val (.slice .h 0 0 (some 0) es))
          |_,_,_=>none
        | none=>match Nat.ble (l.getD 0) (h.getD xs.length),Nat.ble (h.getD xs.length) xs.length with
          |true,true=>some (.val (.fl ((xs.take (h.getD xs.length)).drop (l.getD 0)) es))
          |_,_=>none
      |false=>none
    | .ax,some (l,h,m)=>match Nat.beq (l.getD 0) 0,Nat.beq (h.getD 0) 0,Nat.beq (m.getD 0) 0 with
        |true,true,true=>some (.val .ax)
        |_,_,_=>none
    |_,_=>none
 |_=>none
def I1(_H:Pos->Option AB)(_next:Pos)(off:Nat):List AV->Option bV
 |  [x]=>match x with
    |.ptr b o=>some (.val (.ptr b (o+off)))
    |.fp xs i j=>some (.val (.fp xs i (j+off)))
    |_=>none
 |_=>none
def mQ (_H:Pos->Option AB)(_next:Pos)(es:Nat)(arr:Option Nat):List AV->Option bV
 |  [x, i]=>match sX i with
    | some i=>match arr,x with
      | none,.slice b off len _ _=>match Nat.blt i len with
        |true=>some (.val (.ptr b (off+i*es)))
        |false=>none
      | none,.fl xs es'=>match Nat.blt i xs.length,Nat.beq es es' with
        |true,true=>some (.val (.fp xs i 0))
        |_,_=>none
      | some n,.ptr b off=>match Nat.blt i n with
        |true=>some (.val (.ptr b (off+i*es)))
        |false=>none
      |_,_=>none
    |none=>none
 |_=>none
def Mo (_H:Pos->Option AB)(_next:Pos)(off:Nat)(n:Option Nat):List AV->Option bV
 |  [x] =>match x with
    | .agg cs=>match n with
      | none=>match nth cs off with
        |some v=>some (.val v)
        |none=>none
      |some n=>some (.val (.agg ((cs.drop off).take n)))
    |_=>none
 |_=>none
def KL(_H:Pos->Option AB)(_next:Pos):List AV->Option bV
 |  [x,i]=>match x,sX i with
    | .str s,some i=>match nth s i with
      |some c=>some (.val (.int .u8 (.ofNat c)))
      |none=>none
    |_,_=>none
 |_=>none
def AH(_H:Pos->Option AB)(_next:Pos)(i:Nat):List AV->Option bV
 |  [x]=>match x with
    | .tuple vs=>match nth vs i with
      |some v=>some (.val v)
      |none=>none
    |_=>none
 |_=>none
def Mp(_H:Pos->Option AB)(_next:Pos)(f:FuncId):List AV->Option bV
 |xs=>some (.call f xs)
def Mq(_H:Pos->Option AB)(_next:Pos):List AV->Option bV
 |  x::xs=>match x with
    |.func f first captured=>some (.call f (first++(xs++captured)))
    |_=>none
 |_=>none
def EH(H:Pos->Option AB)(_next:Pos)(k:LK):List AV->Option bV
 |  [x]=>match k,x with
    |.m,.mO=>some (.val (F6 0))
    | .m,.map b=>match H b with
      |some (.map es _)=>some (.val (F6 es.length))
      |_=>none
    |.s,.str s=>some (.val (F6 s.length))
    |.l,.ax=>some (.val (F6 0))
    |.l,.slice _ _ n _ _=>some (.val (F6 n))
    |.l,.fl xs _=>some (.val (F6 xs.length))
    |_,_=>none
 |_=>none
def eU (H:  Pos->Option AB)(next:Pos)(es bytes:Nat):List AV->Option bV
 |  [s, x]=> match cN s,cN x with
    | some n,some m=>
      match Nat.ble ((2*(n+m)+768)*bytes) 281474976710656,Nat.ble (n+m) 9223372036854775807 with
      | true,true=>match Nat.beq m 0,s with
        |true,.slice b off n c es'=>some (.val (.slice b off n c es'))
        |true,.fl xs es'=>some (.val (.fl xs es'))
        |true,.ax=>some (.val .ax)
        |false,.ax=>match bX es m H x with
         |some new=>some (.aG (.slice next 0 m none es) none none (some (.cells new 0)))
         |none=>none
        |false,.slice b off n (some c) es'=>
         match Nat.ble (n+m) c with
         |  true=>match H b,bX es m H x with
            |some (.cells cs fz),some new=>match Nat.ble (off+(n+m)*es) cs.length,Nat.ble fz (off+n*es)&&Nat.beq es es',aU new with
             |true,true,true=>some (.aG (.slice b off (n+m) (some c) es) none (some (b,.cells (aK cs (off+n*es) new) fz)) none)
             |_,_,_=>none
            |_,_=>none
         |  false=>match bX es n H s,bX es m H x with
            |some cW,some new=>some (.aG (.slice next 0 (n+m) none es) none none (some (.cells (cW++new) 0)))
            |_,_=>none
        |false,.slice b off n none es'=>
         match H b,bX es n H s,bX es m H x with
         |  some (.cells _ fz),some cW,some new=>match Nat.ble fz (off+n*es)&&Nat.beq es es',aU new with
            |true,true=>some (.aG (.slice next 0 (n+m) none es) (some b) none (some (.cells (cW++new) (fz - off))))
            |_,_=>none
         |_,_,_=>none
        |_,_=>none
      |_,_=>none
    |_,_=>none
 |_=>none
def yx (H : Pos->Option AB)(_next:Pos)(es:Nat):List AV->Option bV
 |  [d, x]=>match cN d,cN x with
    | some n,some m=>
      let k:=min m n
      match Nat.beq k 0 with
      | true=>match d with
        |.str _=>none
        |_=>some (.val (F6 0))
      | false=>match d with
        | .slice b off _ _ _=>match H b,bX es k H x with
          | some (.cells cs fz),some new=>match Nat.ble (off+k*es) cs.length,Nat.ble fz off,aU new with
            |true,true,true=>some (.aG (F6 k) none (some (b,.cells (aK cs off new) fz)) none)
            |_,_,_=>none
          |_,_=>none
        |_=>none
    |_,_=>none
 |_=>none
def A0(_H:Pos->Option AB)(_next:Pos):List AV->Option bV
 |  [x,y]=>match x,y with
    |.int k a,.int _ b=>some (.val (.int k (match yX b a with|true=>b|false=>a)))
    |.str a,.str b=>some (.val (.str (match aA a b||gM a b with|true=>a|false=>b)))
    |_,_=>none
 |_=>none
def A3(_H:Pos->Option AB)(_next:Pos):List AV->Option bV
 |  [x,y]=>match x,y with
    |.int k a,.int _ b=>some (.val (.int k (match yX a b with|true=>b|false=>a)))
    |.str a,.str b=>some (.val (.str (match aA a b with|true=>b|false=>a)))
    |_,_=>none
 |_=>none
def vg (H:Pos->Option AB)(_next:Pos)(es:Nat)(zero:List AV):List AV->Option bV
 |  [x] =>match x with
    |.ax=>some (.val .undef)
    | .slice b off n _ _=>match Nat.beq n 0 with
      |true=>some (.val .undef)
      | false=>match H b with
        |some (.cells cs fz)=>match Nat.ble (off+n*es) cs.length,Nat.ble fz off,aU (bF zero n)with
         |true,true,true=>some (.aG .undef none (some (b,.cells (aK cs off (bF zero n)) fz)) none)
         |_,_,_=>none
        |_=>none
    |_=>none
 |_=>none
def Db(_H:Pos->Option AB)(next:Pos):List AV->Option bV
 |  [x]=>match x with
    |.str s=>some (.aG (.ptr next 0) none none (some (.iu s 0)))
    |_=>none
 |_=>none
def Gb (H:Pos->Option AB)(_next:Pos):List AV->Option bV
 |  [x] =>match x with
    | .ptr b 0=>match H b with
      | some (.iu s pos)=>match Nat.blt pos s.length with
        |true=>match VU s pos with
         |some (c,w)=>some (.aG (.tuple [.bool true,F6 pos,.int .i32 (.ofNat c)]) none (some (b,.iu s (pos+w))) none)
         |none=>none
        |false=>some (.val (.tuple [.bool false]))
      |_=>none
    |_=>none
 |_=>none
def Dc(_H:Pos->Option AB)(next:Pos)(t:TypeId)(zero:List AV):List AV->Option bV
 |[]=>some (.aG (.ptr next 0) none none (some (.typed t zero)))
 |_=>none
def rS (H:Pos->Option AB)(next:Pos)(e:TypeId)(bytes:Nat):List AV->Option bV
 |  [s, x]=> match x with
    | .str u=>match s with
      | .ax=>match Nat.ble ((2*(0+u.length)+768)*bytes) 281474976710656,Nat.ble (0+u.length) 9223372036854775807 with
        |true,true=>match Nat.beq u.length 0 with
         |true=>some (.val .ax)
         |false=>some (.aG (.slice next 0 (0+u.length) none 1) none none (some (.typed e (u.map λc=>.int .u8 (.ofNat c)))))
        |_,_=>none
      | .slice b 0 n none 1=>match Nat.ble ((2*(n+u.length)+768)*bytes) 281474976710656,Nat.ble (n+u.length) 9223372036854775807 with
        |true,true=>match Nat.beq u.length 0 with
         |true=>some (.val (.slice b 0 n none 1))
         |false=>match H b with
          |  some (.typed e' cs)=>match Nat.beq e e',cut cs 0 n with
             |true,some cW=>some (.aG (.slice next 0 (n+u.length) none 1) (some b) none (some (.typed e (cW++u.map λc=>.int .u8 (.ofNat c)))))
             |_,_=>none
          |_=>none
        |_,_=>none
      |_=>none
    |_=>none
 |_=>none
def Nq (H:Pos->Option AB)(_next:Pos):List AV->Option bV
 |  [x] =>match x with
    |.gq=>some (.val .gq)
    | .ptr b off=>match H b with
      | some (.typed _ cs)=>match Nat.blt off cs.length with
        |true=>some (.val (.ptr b off))
        |false=>none
      |_=>none
    |_=>none
 |_=>none
def Gc (H:Pos->Option AB)(_next:Pos)(u:TypeId)(n:Nat):List AV->Option bV
 |  [x] =>match x with
    |.gq=>some (.val .gq)
    | .ptr b 0=>match H b with
      | some (.typed t cs)=>match Nat.beq t u,Nat.ble n cs.length with
        |true,true=>some (.val (.ptr b 0))
        |_,_=>none
      |_=>none
    |_=>none
 |_=>none
def qA(_H:Pos->Option AB)(_next:Pos):List AV->Option bV
 |  [x]=>match x with
    |.ax=>some (.val .gq)
    | .slice b off n _ _=>match Nat.beq n 0 with
      |true=>none
      |false=>some (.val (.ptr b off))
    |_=>none
 |_=>none
def mR (H :Pos->Option AB)(_next:Pos)(e:TypeId):List AV->Option bV
 |  [x, y]=> match y with
    | .int .i64 (.ofNat n)=>match Nat.beq n 0 with
      | true=>match x with
        |.gq=>some (.val (.str []))
        |.ptr _ _=>some (.val (.str []))
        |_=>none
      | false=>match x with
        | .ptr b 0=>match H b with
          |some (.typed e' cs)=>match Nat.beq e e',cut cs 0 n,Nat.ble n 9223372036854775807 with
           | true,some l,true=>match bytesOf l with
             |some s=>some (.aG (.str s) (some b) none none)
             |none=>none
           |_,_,_=>none
          |_=>none
        |_=>none
    |_=>none
 |_=>none
def az.run(H:Pos->Option AB)(next:Pos):az->List AV->Option bV
 |.move=>KJ H next
 |.pick=>OY H next
 |.alloc zero=>F7 H next zero
 |.box=>Np H next
 |.build zero places=>F8 H next zero places
 |.buildSlice es len zero places=>oZ H next es len zero places
 |.load n=>rR H next n
 |.store n=>Bn H next n
 |.nilCheck=>DQ H next
 |.bin op q=>gO H next op q
 |.un op=>Xa H next op
 |.conv k=>yw H next k
 |.mkIface t=>F9 H next t
 |.mkFunc f IZ=>Da H next f IZ
 |.mkMap=>Ga H next
 |.lookup pk zero ok=>u9 H next pk zero ok
 |.mapSet pk=>ve H next pk
 |.mkSlice es bytes zero=>wq H next es bytes zero
 |.sliceS lo hi=>I0 H next lo hi
 |.sliceL es lo hi mx=>nQ H next es lo hi mx
 |.fieldA off=>I1 H next off
 |.idxA es arr=>mQ H next es arr
 |.field off n=>Mo H next off n
 |.idxS=>KL H next
 |.extract i=>AH H next i
 |.callF f=>Mp H next f
 |.callV=>Mq H next
 |.lenB k=>EH H next k
 |.append es bytes=>eU H next es bytes
 |.copyB es=>yx H next es
 |.minB=>A0 H next
 |.maxB=>A3 H next
 |.clearS es zero=>vg H next es zero
 |.rangeS=>Db H next
 |.nextS=>Gb H next
 |.allocT t zero=>Dc H next t zero
 |.appendT e bytes=>rS H next e bytes
 |.toU=>Nq H next
 |.fromU u n=>Gc H next u n
 |.sliceData=>qA H next
 |.unsafeStr e=>mR H next e
 |.capB=>λ_=>none
 |.bad=>λ_=>none
inductive dA where
 |t (p:Pos)
 |c (v:AV)
 deriving Inhabited
inductive VV where
 |pure
 |read
 |new
 |aG
 deriving Inhabited
structure aX where
 dst:Option Pos
 k:az
 xs:List dA
 guard:Option (Pos×Bool)
 cls:VV
 br:Nat
 deriving Inhabited
inductive AC where
 |skip
 |region (ops:List aX)
 |draw (ops:List (Nat×aX))
 |seq (a b:AC)
 |cond (x:dA) (a b:AC)
 |block (id:Nat) (a:AC)
 |loop (a:AC)
 |exit (id:Nat)
 |ret
 deriving Inhabited
inductive za where
 |tmp (p:Pos)
 |cell (p:Pos) (n:Option Nat)
 deriving Inhabited
structure cq where
 code:AC
 nparams:Nat
 results:List za
 deriving Inhabited
abbrev Fr:=T AV
structure St where
 heap:T AB
 next:Pos
 deriving Inhabited
inductive iy where
 |normal
 |exit (id:Nat)
 |ret
 deriving Inhabited
def zb(fr:Fr):dA->Option AV
 |.t p=>fr.get p
 |.c v=>some v
def dB(fr:Fr):List dA->Option (List AV)
 |[]=>some []
 |  x::xs=>match zb fr x with
    |some v=>match dB fr xs with
     |some vs=>some (v::vs)
     |none=>none
    |none=>none
def bC(fr:Fr):Option (Pos×Bool)->Option Bool
 |none=>some true
 |  some (p,want)=>match fr.get p with
    |some (.bool b)=>some (b==want)
    |some (.tuple _)=>some false
    |_=>none
def cE(fr:Fr)(d:Option Pos)(v:AV):Fr:=match d with
 |some p=>fr.put (some v) p
 |none=>fr
def Gd(o:Option (Pos×AB))(h:T AB):T AB:=match o with
 |some (b,x)=>h.put (some x) b
 |none=>h
def DR(o:Option Pos)(h:T AB):T AB:=match o with
 |some b=>h.put none b
 |none=>h
def St.aG(st:St)(del:Option Pos)(set:Option (Pos×AB))(new:Option AB):St:=
 match new with
 |some x=>{ heap:=T.put (some x) st.next (Gd set (DR del st.heap)),next:=st.next.succ }
 |none=>{ heap:=Gd set (DR del st.heap),next:=st.next }
abbrev ah:=FuncId->List AV->St->Option (AV×St)
def bT(call:ah)(k:az)(xs:List AV)(st:St):Option (AV×St):=
 match k.run (λb=>st.heap.get b) st.next xs with
 |some (.val v)=>some (v,st)
 |some (.aG v del set new)=>some (v,st.aG del set new)
 |some (.call f args)=>call f args st
 |none=>none
def g7 (call:ah):List aX->Fr->St->Option (Fr×St)
 |[],fr,st=>some (fr,st)
 |  o::os,fr,st=>match bC fr o.guard with
    |some true=>match dB fr o.xs with
     |  some xs=>match bT call o.k xs st with
        |some (v,st')=>g7 call os (cE fr o.dst v) st'
        |none=>none
     |none=>none
    |some false=>g7 call os (cE fr o.dst .undef) st
    |none=>none
def jD:AV->AV->Bool
 |.bool a,.bool b=>a==b
 |.int k a,.int k' b=>Bm k k'&&yW a b
 |.str a,.str b=>gM a b
 |.gq,.gq=>true
 |.ptr b o,.ptr b' o'=>Pos.beq b b'&&Nat.beq o o'
 |.ax,.ax=>true
 |.slice b o l none es,.slice b' o' l' none es'=>Pos.beq b b'&&Nat.beq o o'&&Nat.beq l l'&&Nat.beq es es'
 |.slice b o l (some c) es,.slice b' o' l' (some c') es'=>Pos.beq b b'&&Nat.beq o o'&&Nat.beq l l'&&Nat.beq c c'&&Nat.beq es es'
 |.mO,.mO=>true
 |.map b,.map b'=>Pos.beq b b'
 |.ir,.ir=>true
 |.uI,.uI=>true
 |_,_=>false
def uK:List AV->List AV->Bool
 |[],[]=>true
 |a::x,b::y=>jD a b&&uK x y
 |_,_=>false
def Dd(f:AV->AV->Bool):List AV->List AV->Bool
 |[],[]=>true
 |a::x,b::y=>f a b&&Dd f x y
 |_,_=>false
def vh(f:AV->AV->Bool):List (List AV)->List (List AV)->Bool
 |[],[]=>true
 |a::x,b::y=>Dd f a b&&vh f x y
 |_,_=>false
def De:Nat->AV->AV->Bool
 |d+1,.fl a n,.fl a' n'=>vh (De d) a a'&&Nat.beq n n'
 |_,a,b=>jD a b
def yy:AV->AV->Bool
 |.func f a b,.func f' a' b'=>Nat.beq f f'&&uK a a'&&uK b b'
 |.fl a n,.fl a' n'=>De 3 (.fl a n) (.fl a' n')
 |a,b=>jD a b
def qB:List AV->List AV->Bool
 |[],[]=>true
 |a::x,b::y=>yy a b&&qB x y
 |_,_=>false
def fB:AV->AV->Bool
 |.agg l,.agg l'=>qB l l'
 |.tuple l,.tuple l'=>qB l l'
 |a,b=>yy a b
inductive RC where
 |pure
 |new (id:Pos) (au:AB)
 |aG (base:T AB) (h:T AB)
 deriving Inhabited
structure Rec where
 idx:Nat
 o:aX
 v:AV
 c:RC
 nx:Pos
 deriving Inhabited
def snap(br:Nat)(h:T AB):List Rec->T AB
 |[]=>h
 |  r ::rs=>match r.c with
    | .new id au=>match br.testBit r.idx with
      |true=>(snap br h rs).put (some au) id
      |false=>snap br h rs
    |.aG _ _=>h
    |.pure=>snap br h rs
def wu:List (Pos×AB)->T AB->T AB
 |[],h=>h
 |(id,au)::l,h=>(wu l h).put (some au) id
def mS(k:az)(xs:List AV)(v:AV)(h:T AB):Bool:=
 match k.run (λb=>h.get b) .h xs with
 |some (.val u)=>fB u v
 |_=>false
def jf(br:Nat)(k:az)(xs:List AV)(v:AV):List (Pos×AB)->List Rec->Bool
 |_,[]=>true
 |  up,r::rs=>match r.c with
    | .new id au=>match br.testBit r.idx with
      |true=>jf br k xs v ((id,au)::up) rs
      |false=>jf br k xs v up rs
    | .aG base _=>match br.testBit r.idx with
      |true=>true
      |false=>mS k xs v (wu up (snap br base rs))&&jf br k xs v up rs
    |.pure=>jf br k xs v up rs
def cB (call:ah):List (Nat×aX)->List Rec->T AB->Fr->St->Option (Fr×St)
 |[],_,_,fr,st=>some (fr,st)
 |  (j, o)::os,recs,base,fr,st=>match bC fr o.guard with
    |some false=>cB call os ({ idx:=j,o:=o,v:= .undef,c:= .pure,nx:=st.next }::recs) base (cE fr o.dst .undef) st
    | some true=>match dB fr o.xs with
      |none=>none
      | some xs=>match o.cls with
        | .new=>match o.k.run (λ_=>none) st.next xs with
          |some (.aG v none none (some au))=>
           cB call os ({ idx:=j,o:=o,v:=v,c:= .new st.next au,nx:=st.next.succ }::recs) base (cE fr o.dst v) { heap:=st.heap.put (some au) st.next,next:=st.next.succ }
          |_=>none
        | .aG=>match bT call o.k xs st with
          |some (v,st')=>cB call os ({ idx:=j,o:=o,v:=v,c:= .aG base st'.heap,nx:=st'.next }::recs) st'.heap (cE fr o.dst v) st'
          |none=>none
        | _=>match o.k.run (λ_=>none) .h xs with
          |some (.val v)=>cB call os ({ idx:=j,o:=o,v:=v,c:= .pure,nx:=st.next }::recs) base (cE fr o.dst v) st
          |_=>match o.k.run (λb=>(snap o.br base recs).get b) .h xs with
           |some (.val v)=>match jf o.br o.k xs v [] recs with
            |true=>cB call os ({ idx:=j,o:=o,v:=v,c:= .pure,nx:=st.next }::recs) base (cE fr o.dst v) st
            |false=>none
           |_=>none
    |none=>none
def aR(call:ah)(ih:AC->Fr->St->Option (iy×Fr×St)):AC->Fr->St->Option (iy×Fr×St)
 |.skip,fr,st=>some (.normal,fr,st)
 |  .region ops,fr,st=>match g7 call ops fr st with
    |some (fr,st)=>some (.normal,fr,st)
    |none=>none
 |  .draw ops,fr,st=>match cB call ops [] st.heap fr st with
    |some (fr,st)=>some (.normal,fr,st)
    |none=>none
 |  .seq a b,fr,st=>match ih a fr st with
    |some (.normal,fr,st)=>ih b fr st
    |r=>r
 |  .cond x a b,fr,st=>match zb fr x with
    |some (.bool true)=>ih a fr st
    |some (.bool false)=>ih b fr st
    |_=>none
 |  .block id a,fr,st=>match ih a fr st with
    |some (.exit qf,fr,st)=>match Nat.beq qf id with
     |true=>some (.normal,fr,st)
     |false=>some (.exit qf,fr,st)
    |r=>r
 |  .loop a,fr,st=>match ih a fr st with
    |some (.normal,fr,st)=>ih (.loop a) fr st
    |r=>r
 |.exit id,fr,st=>some (.exit id,fr,st)
 |.ret,fr,st=>some (.ret,fr,st)
def exec(call:ah):Nat->AC->Fr->St->Option (iy×Fr×St)
 |0=>λ_ _ _=>none
 |n+1=>aR call (exec call n)
def params:Nat->List AV->Fr->Fr
 |_,[],fr=>fr
 |i,v::vs,fr=>params (i+1) vs (fr.put (some v) (key i))
def cm (H:Pos->Option AB)(fr:Fr):List za->Option (List AV)
 |[]=>some []
 |  .tmp p::rs=>match fr.get p with
    |some v=>match cm H fr rs with
     |some vs=>some (v::vs)
     |none=>none
    |none=>none
 |  .cell p n::rs=>match fr.get p with
    |some q=>match (az.load n).run H .h [q]with
     |  some (.val v)=>match cm H fr rs with
        |some vs=>some (v::vs)
        |none=>none
     |_=>none
    |none=>none
def fC:List AV->AV
 |[v]=>v
 |vs=>.tuple vs
abbrev dG:=FuncId->Option (List AV->St->Option (AV×St))
def n6 (O:dG)(G:T cq)(m:Nat):Nat->ah
 |0=>λ_ _ _=>none
 |  d+  1=>λf args st=>match O f with
    |some s=>s args st
    |none=>match G.get (key f)with
     |  some F=>match Nat.beq args.length F.nparams with
        |true=>match exec (n6 O G m d) m F.code (params 0 args .e) st with
         |some (.normal,fr,st')=>match cm (λb=>st'.heap.get b) fr F.results with
          |some vs=>some (fC vs,st')
          |none=>none
         |some (.ret,fr,st')=>match cm (λb=>st'.heap.get b) fr F.results with
          |some vs=>some (fC vs,st')
          |none=>none
         |_=>none
        |false=>none
     |none=>none
inductive TK where
 |bool
 |int (k:IntKind)
 |string
 |ptr (elem:Nat)
 |slice (elem:Nat)
 |array (n elem:Nat)
 |map (k e:Nat)
 |struct (fs:List (Nat×Nat×Bool))
 |func
 |iface
 |Yu
 |other
 deriving Inhabited
structure TI where
 k:TK
 size:Nat
 bytes:Nat
 zero:Option (List AV)
 uy:Bool:=false
 deriving Inhabited
def Ge:Value->Option AV
 |.bool b=>some (.bool b)
 |.int k n=>some (.int k n)
 |.string s=>some (.str (s.data.toList.map UInt8.toNat))
 |.pointer none=>some .gq
 |.slice none 0 0=>some .ax
 |.map none=>some .mO
 |.func (.func f) ⟨[]⟩ ⟨[]⟩=>some (.func f [] [])
 |.nilFunc=>some .ir
 |.nilIface=>some .uI
 |_=>none
def lB:List Value->Option (List AV)
 |[]=>some []
 |  v::vs=>match Ge v,lB vs with
    |some a,some as=>some (a::as)
    |_,_=>none
def OZ:Value->Option AV
 |  .agg cs=>match lB cs.toList with
    |some l=>some (.agg l)
    |none=>none
 |v=>Ge v
def jx:Operand->Option dA
 |.tmp t=>some (.t (key t))
 |  .const v=>match OZ v with
    |some a=>some (.c a)
    |none=>none
 |.func f=>some (.c (.func f [] []))
 |.global _=>none
def gZ:List Operand->Option (List dA)
 |[]=>some []
 |  x::xs=>match jx x,gZ xs with
    |some a,some as=>some (a::as)
    |_,_=>none
def TK.isAgg:TK->Bool
 |.struct _=>true
 |.array _ _=>true
 |_=>false
abbrev TT:=T TI
def wz(tt:TT)(t:Nat):Option eI:=match tt.get (key t)with
 |  some ti=>match ti.k with
    |.bool=>some .bool
    |.int _=>some .num
    |.string=>some .num
    |.ptr _=>some .ptr
    |.slice _=>some .slice
    |.map _ _=>some .map
    |.func=>some .func
    |.iface=>some .iface
    | .struct fs=>match ti.uy,fields fs with
      |true,some l=>some (.struct l)
      |_,_=>none
    |_=>none
 |none=>none
where
 fields:List (Nat×Nat×Bool)->Option (List (Nat×PK))
  |[]=>some []
  |(off,t,named)::fs=>match named,tt.get (key t),fields fs with
   |true,some ti,some l=>match ti.k with
    |.bool=>some ((off,.b)::l)
    |.int _=>some ((off,.i)::l)
    |.string=>some ((off,.s)::l)
    |_=>none
   |_,_,_=>none
def wA(ti:TI):Option Nat:=match ti.k.isAgg with
 |true=>some ti.size
 |false=>none
def aea(tt:TT)(t:Nat)(ti:TI):Bool:=match ti.k with
 |  .struct ((_,p,_)::_)=>match tt.get (key p)with
    |some pi=>match pi.k with
     |.ptr e=>Nat.beq e t
     |_=>false
    |none=>false
 |_=>false
def wB:Option Operand->List Operand
 |some x=>[x]
 |none=>[]
def eV (tt:TT):Op->Option (az×List dA×VV)
 |  .move x=>match jx x with
    |some a=>some (.move,[a],.pure)
    |none=>none
 |  .assign x=>match jx x with
    |some a=>some (.move,[a],.pure)
    |none=>none
 |  .pick c a b=>match gZ [c,a,b]with
    |some l=>some (.pick,l,.pure)
    |none=>none
 |  .alloc t=>match tt.get (key t)with
    |some ti=>match ti.zero with
     |  some z=>match aea tt t ti with
        |true=>some (.allocT t z,[],.aG)
        |false=>some (.alloc z,[],.new)
     |none=>none
    |none=>none
 |  .box _ x=>match jx x with
    |some a=>some (.box,[a],.new)
    |none=>none
 |  .build t ps=>match tt.get (key t),gZ (ps.toList.map (·.2))with
    |some ti,some l=>match ti.k,ti.zero with
     |  .struct fs,some z=>match places tt fs (ps.toList.map (·.1)),R9 tt fs with
        |some p,true=>some (.build z p,l,.pure)
        |_,_=>none
     |  .array _ e,some z=>match tt.get (key e)with
        |some te=>some (.build z (ps.toList.map λx=>(x.1*te.size,te.size)),l,.pure)
        |none=>none
     |_,_=>none
    |_,_=>none
 |  .buildSlice t len ps=>match tt.get (key t),gZ (ps.toList.map (·.2))with
    |some ti,some l=>match ti.k with
     |  .slice e=>match tt.get (key e)with
        | some te=>match te.zero,Nat.ble (len*te.size) 16777216 with
          |some z,true=>some (.buildSlice te.size len z (ps.toList.map (·.1)),l,.new)
          |_,_=>none
        |none=>none
     |_=>none
    |_,_=>none
 |  .load t a=>match tt.get (key t),jx a with
    |some ti,some a=>some (.load (wA ti),[a],.read)
    |_,_=>none
 |  .store t a x=>match tt.get (key t),gZ [a,x]with
    |some ti,some l=>some (.store ti.size,l,.aG)
    |_,_=>none
 |  .nilCheck x=>match jx x with
    |some a=>some (.nilCheck,[a],.pure)
    |none=>none
 |  .binOp op t x y _=>match wz tt t,gZ [x,y]with
    |some q,some l=>some (.bin op q,l,.pure)
    |none,some l=>match op with
     |.eql=>none
     |.neq=>none
     |_=>some (.bin op .num,l,.pure)
    |_,_=>none
 |  .unOp op _ x=>match jx x with
    |some a=>some (.un op,[a],.pure)
    |none=>none
 |  .convert src dst x=>match tt.get (key src),tt.get (key dst),jx x with
    |some s,some d,some a=>match s.k,d.k with
     |.int _,.int k=>some (.conv (.int k),[a],.pure)
     |.string,.string=>some (.conv .same,[a],.pure)
     |  .string,.slice e=>match tt.get (key e)with
        | some te=>match te.k with
          |.int .u8=>some (.conv .bytes,[a],.new)
          |_=>none
        |none=>none
     |  .slice e,.string=>match tt.get (key e)with
        | some te=>match te.k with
          |.int .u8=>some (.conv .ofBytes,[a],.read)
          |_=>none
        |none=>none
     |  .ptr e,.Yu=>match tt.get (key e)with
        | some te=>match Nat.beq te.size 0 with
          |false=>some (.toU,[a],.aG)
          |true=>none
        |none=>none
     |  .Yu,.ptr e=>match tt.get (key e)with
        | some te=>match Nat.beq te.size 0 with
          |false=>some (.fromU e te.size,[a],.aG)
          |true=>none
        |none=>none
     |_,_=>none
    |_,_,_=>none
 |  .makeInterface t x=>match tt.get (key t),jx x with
    |some ti,some a=>match ti.k with
     |.iface=>none
     |.other=>none
     |_=>some (.mkIface t,[a],.pure)
    |_,_=>none
 |  .makeFunc fn first captured=>match fn,gZ (first.toList++captured.toList)with
    |.func f,some l=>some (.mkFunc f first.size,l,.pure)
    |_,_=>none
 |  .makeMap t r=>match tt.get (key t)with
    |some ti=>match ti.k,r with
     |.map _ _,none=>some (.mkMap,[],.new)
     |.map _ _,some (.const (.int _ _))=>some (.mkMap,[],.new)
     |_,_=>none
    |none=>none
 |  .makeSlice t l c=>match tt.get (key t),gZ [l,c]with
    |some ti,some xs=>match ti.k with
     |  .slice e=>match tt.get (key e)with
        | some te=>match te.zero with
          |some z=>some (.mkSlice te.size te.bytes z,xs,.new)
          |none=>none
        |none=>none
     |_=>none
    |_,_=>none
 |  .slice t x lo hi mx=>match tt.get (key t),gZ ([x]++wB lo++wB hi++wB mx)with
    |some ti,some xs=>match ti.k with
     |  .string=>match mx with
        |none=>some (.sliceS lo.isSome hi.isSome,xs,.pure)
        |some _=>none
     |  .slice e=>match tt.get (key e)with
        |some te=>some (.sliceL te.size lo.isSome hi.isSome mx.isSome,xs,.pure)
        |none=>none
     |_=>none
    |_,_=>none
 |  .fieldAddr t x f=>match tt.get (key t),jx x with
    |some ti,some a=>match ti.k with
     |  .struct fs=>match nth fs f with
        | some (off,ft,_)=>match tt.get (key ft)with
          |some fi=>match Nat.beq fi.size 0 with
           |false=>some (.fieldA off,[a],.pure)
           |true=>none
          |none=>none
        |none=>none
     |_=>none
    |_,_=>none
 |  .field t x f=>match tt.get (key t),jx x with
    |some ti,some a=>match ti.k with
     |  .struct fs=>match nth fs f with
        | some (off,ft,_)=>match tt.get (key ft)with
          |some fi=>some (.field off (wA fi),[a],.pure)
          |none=>none
        |none=>none
     |_=>none
    |_,_=>none
 |  .indexAddr t x ix=>match tt.get (key t),gZ [x,ix]with
    |some ti,some l=>match ti.k with
     |  .slice e=>match tt.get (key e)with
        |some te=>some (.idxA te.size none,l,.pure)
        |none=>none
     |  .array n e=>match tt.get (key e)with
        |some te=>some (.idxA te.size (some n),l,.pure)
        |none=>none
     |_=>none
    |_,_=>none
 |  .index t x ix=>match tt.get (key t),gZ [x,ix]with
    |some ti,some l=>match ti.k with
     |.string=>some (.idxS,l,.pure)
     |_=>none
    |_,_=>none
 |  .lookup t x ix ok=>match tt.get (key t),gZ [x,ix]with
    |some ti,some l=>match ti.k with
     |  .map k e=>match tt.get (key k),tt.get (key e)with
        | some tk,some te=>match tk.k,te.zero with
          |.int _,some z=>some (.lookup .i (EI te z) ok,l,.read)
          |.string,some z=>some (.lookup .s (EI te z) ok,l,.read)
          |.bool,some z=>some (.lookup .b (EI te z) ok,l,.read)
          |_,_=>none
        |_,_=>none
     |_=>none
    |_,_=>none
 |.mapUpdate t m k v=>Xb tt t m k v
 |.insert t m k v=>Xb tt t m k v
 |  .range t x=>match tt.get (key t),jx x with
    |some ti,some a=>match ti.k with
     |.string=>some (.rangeS,[a],.new)
     |_=>none
    |_,_=>none
 |  .next it isString=>match isString,jx it with
    |true,some a=>some (.nextS,[a],.aG)
    |_,_=>none
 |  .extract x i=>match jx x with
    |some a=>some (.extract i,[a],.pure)
    |none=>none
 |  .call c=>match gZ c.args.toList with
    |none=>none
    |some xs =>match c.callee with
     |.value (.func f)=>some (.callF f,xs,.aG)
     |  .value x=>match jx x with
        |some a=>some (.callV,a::xs,.aG)
        |none=>none
     |.invoke _ _=>none
     |  .builtin b=>match b with
        | .len=>match c.argTypes.toList,xs with
          |t ::_,[_]=>match tt.get (key t)with
           | some ti=>match ti.k with
             |.string=>some (.lenB .s,xs,.pure)
             |.slice _=>some (.lenB .l,xs,.pure)
             |.map _ _=>some (.lenB .m,xs,.read)
             |_=>none
           |none=>none
          |_,_=>none
        | .append=>match c.argTypes.toList with
          |t ::t2::_=>match tt.get (key t),tt.get (key t2)with
           | some ti,some HW=>match ti.k,HW.k with
             |_,.int _=>none
             | .slice e,.string=>match tt.get (key e)with
               | some te=>match te.zero,te.k,Nat.beq te.size 1 with
                 |some _,.int .u8,true=>some (.appendT e te.bytes,xs,.aG)
                 |_,_,_=>none
               |none=>none
             | .slice e,_=>match tt.get (key e)with
               | some te=>match te.zero with
                 |some _=>some (.append te.size te.bytes,xs,.aG)
                 |none=>none
               |none=>none
             |_,_=>none
           |_,_=>none
          |_=>none
        | .copy=>match c.argTypes.toList with
          |t ::_=>match tt.get (key t)with
           | some ti=>match ti.k with
             | .slice e=>match tt.get (key e)with
               |some te=>some (.copyB te.size,xs,.aG)
               |none=>none
             |_=>none
           |none=>none
          |_=>none
        | .unsafeSliceData=>match xs with
          |[_]=>some (.sliceData,xs,.pure)
          |_=>none
        | .unsafeString=>match c.argTypes.toList with
          |[t, _]=>match tt.get (key t)with
           | some ti=>match ti.k with
             | .ptr e=>match tt.get (key e)with
               | some te=>match te.k,Nat.beq te.size 1 with
                 |.int .u8,true=>some (.unsafeStr e,xs,.aG)
                 |_,_=>none
               |none=>none
             |_=>none
           |none=>none
          |_=>none
        | .min=>match xs with
          |[_,_]=>some (.minB,xs,.pure)
          |_=>none
        | .max=>match xs with
          |[_,_]=>some (.maxB,xs,.pure)
          |_=>none
        | .clear=>match c.argTypes.toList with
          |t ::_=>match tt.get (key t)with
           | some ti=>match ti.k with
             | .slice e=>match tt.get (key e)with
               | some te=>match te.zero with
                 |some z=>some (.clearS te.size z,xs,.aG)
                 |none=>none
               |none=>none
             |_=>none
           |none=>none
          |_=>none
        |_=>none
 |_=>none
where
 R9 (tt:TT):List (Nat×Nat×Bool)->Bool
  |[]=>true
  |  (_,t,_)::l=>match tt.get (key t)with
     |some _=>R9 tt l
     |none=>false
 places (tt:TT) (fs:List (Nat×Nat×Bool)):List Nat->Option (List (Nat×Nat))
  |[]=>some []
  |  i ::is=>match nth fs i,places tt fs is with
     | some (off,t,_),some l=>match tt.get (key t)with
       |some ti=>some ((off,ti.size)::l)
       |none=>none
     |_,_=>none
 EI (te:TI) (z:List AV):AV:=match te.k.isAgg with
  |true=>.agg z
  |  false=>match z with
     |[v]=>v
     |_=>.agg z
 Xb (tt:TT) (t:Nat) (m k v:Operand):Option (az×List dA×VV):=
  match tt.get (key t),gZ [m,k,v]with
  |  some ti,some l=>match ti.k with
     | .map kt _=>match tt.get (key kt)with
       |some tk=>match tk.k with
        |.int _=>some (.mapSet .i,l,.aG)
        |.string=>some (.mapSet .s,l,.aG)
        |.bool=>some (.mapSet .b,l,.aG)
        |_=>none
       |none=>none
     |_=>none
  |_,_=>none
def Nr(ops:Array Oper):Option (Nat×Bool)->Option (Option (Pos×Bool))
 |none=>some none
 |  some (j,b)=>match ops[j]? with
    |some o=>match o.dst with
     |some d=>some (some (key d,b))
     |none=>none
    |none=>none
def SC:List Oper->List Nat->List Nat
 |[],acc=>acc
 |o::os,acc=>SC os (acc++[o.after.toList.foldl (λs e=>match Region.binds .any e with
   |true=>s ||| 2 ^ e.on ||| (nth acc e.on).getD 0
   |false=>s) 0])
def lC(tt:TT)(nt:Nat)(ops:Array Oper):List Oper->List Nat->Option (List aX)
 |[],_=>some []
 |  o::os,bs=>match Nr ops o.guard,lC tt nt ops os bs.tail,ab8 nt o.dst with
    |some g,some l,true=>match eV tt o.op with
     |some (k,xs,cls)=>some ({ dst:=o.dst.map key,k:=k,xs:=xs,guard:=g,cls:=cls,br:=bs.headD 0 }::l)
     |none=>some ({ dst:=o.dst.map key,k:= .bad,xs:=[],guard:=g,cls:= .aG,br:=bs.headD 0 }::l)
    |_,_,_=>none
where
 ab8 (nt:Nat):Option Tmp->Bool
  |none=>true
  |some d=>Nat.blt d nt
def aX.looks(o:aX):List Pos:=
 (match o.guard with|some (p,_)=>[p]|none=>[])++o.xs.filterMap λ|.t p=>some p|.c _=>none
def EJ(p:Pos):List Pos->Bool
 |[]=>false
 |q::l=>Pos.beq p q||EJ p l
def I2(a b:aX):Bool:=
 (match a.dst with
  |some d=> !EJ d b.looks&&(match b.dst with|some d'=> !Pos.beq d d'|none=>true)
  |none=>true)&&
 (match b.dst with
  |some d=> !EJ d a.looks
  |none=>true)
def uz:List (Nat×aX)->List (Nat×aX)->List (Nat×aX)
 |[],held=>held
 |  (i,o)::l,held=>match o.cls with
    |.aG=>held.filter (λx=>o.br.testBit x.1)++(i,o)::uz l (held.filter λx=> !o.br.testBit x.1)
    |_=>uz l (held++[(i,o)])
def Bo:Nat->List aX->List (Nat×aX)
 |_,[]=>[]
 |i,o::os=>(i,o)::Bo (i+1) os
def EK(m:Nat):Nat->List (Nat×aX)->Bool
 |seen,[]=>Nat.beq seen (2 ^ m - 1)
 |  seen,(i,o)::l=>Nat.blt i m&& !seen.testBit i&&Nat.beq (o.br &&& seen) o.br&&(match o.cls with|.aG=>Nat.beq o.br seen|_=>true)&&
    (l.all λx=>x.2.br.testBit i||I2 o x.2)&&EK m (seen ||| 2 ^ i) l
def qg (tt:TT)(nt:Nat):Code->Option AC
 |.skip=>some .skip
 |  .region _ ops draw=>match lC tt nt ops ops.toList (SC ops.toList [])with
    |none=>none
    |some l=>match draw with
     |false=>some (.region l)
     |  true=>match EK l.length 0 (uz (Bo 0 l) [])with
        |true=>some (.draw (uz (Bo 0 l) []))
        |false=>none
 |  .seq a b=>match qg tt nt a,qg tt nt b with
    |some a,some b=>some (.seq a b)
    |_,_=>none
 |  .cond c a b=>match jx c,qg tt nt a,qg tt nt b with
    |some c,some a,some b=>some (.cond c a b)
    |_,_,_=>none
 |  .block id a=>match qg tt nt a with
    |some a=>some (.block id a)
    |none=>none
 |  .loop a=>match qg tt nt a with
    |some a=>some (.loop a)
    |none=>none
 |.exit id=>some (.exit id)
 |.ret=>some .ret
 |.refuse _=>some (.region [{ dst:=none,k:= .bad,xs:=[],guard:=none,cls:= .aG,br:=0 }])
 |_=>none
def j6(tt:TT):List ResultVar->Option (List za)
 |[]=>some []
 |  .tmp t::rs=>match j6 tt rs with
    |some l=>some (.tmp (key t)::l)
    |none=>none
 |  .cell a t::rs=>match tt.get (key t),j6 tt rs with
    |some ti,some l=>some (.cell (key a) (wA ti)::l)
    |_,_=>none
def Sa(tt:TT)(f:Func):Option cq:=match f.body with
 |  some c=>match qg tt f.ntmps c,j6 tt f.results.toList,Nat.ble (f.params.size+f.nfree) f.ntmps with
    |some a,some rs,true=>some { code:=a,nparams:=f.params.size+f.nfree,results:=rs }
    |_,_,_=>none
 |none=>none
structure Loc where
 au:Nat
 base:Nat
 size:Nat
abbrev Cells:=Addr->Option Value
inductive aj(ρ:Pos->Loc)(n:Nat)(C:Cells):AV->Value->Prop where
 |bool (b:Bool):aj ρ n C (.bool b) (.bool b)
 |int (k:IntKind) (i:Int):aj ρ n C (.int k i) (.int k i)
 |str (s:List Nat) (bs:ByteArray) (h:bs.data.toList.map UInt8.toNat=s):aj ρ n C (.str s) (.string bs)
 |gq:aj ρ n C .gq (.pointer none)
 |ptr (b:Pos) (off:Nat) (h:b.toNat<n):aj ρ n C (.ptr b off) (.pointer (some ⟨(ρ b).au,(ρ b).base+off,none⟩))
 |fp (xs:List (List AV)) (i j es:Nat) (au base:Nat) (cell:Nat->Nat->Value)
  (hl:∀(i:Nat)(cs:List AV),xs[i]? =some cs->cs.length=es)
  (hc:∀(i j:Nat)(cs:List AV)(v:AV),xs[i]? =some cs->cs[j]? =some v->C ⟨au,base+i*es+j,none⟩=some (cell i j))
  (hv:∀(i j:Nat)(cs:List AV)(v:AV),xs[i]? =some cs->cs[j]? =some v->aj ρ n C v (cell i j)):
  aj ρ n C (.fp xs i j) (.pointer (some ⟨au,base+i*es+j,none⟩))
 |ax:aj ρ n C .ax (.slice none 0 0)
 |slice (b:Pos) (off len:Nat) (cap:Option Nat) (es aH:Nat) (a:Addr) (hl:len<=aH) (hc:∀c,cap=some c->c=aH)
  (ha:aH≠0->b.toNat<n/\a=⟨(ρ b).au,(ρ b).base+off,none⟩/\(ρ b).base+off+aH*es<=(ρ b).size)
  (hk:cap=none->b.toNat<n):
  aj ρ n C (.slice b off len cap es) (.slice (some a) len aH)
 |fl (xs:List (List AV)) (es aH:Nat) (a:Addr) (cell:Nat->Nat->Value) (hl:xs.length<=aH)
  (hs:xs≠[]->a.spot=none)
  (cX:∀(i:Nat)(cs:List AV),xs[i]? =some cs->cs.length=es)
  (hc:∀(i j:Nat)(cs:List AV)(v:AV),xs[i]? =some cs->cs[j]? =some v->C ⟨a.block,a.off+i*es+j,none⟩=some (cell i j))
  (hv:∀(i j:Nat)(cs:List AV)(v:AV),xs[i]? =some cs->cs[j]? =some v->aj ρ n C v (cell i j)):
  aj ρ n C (.fl xs es) (.slice (some a) xs.length aH)
 |mO:aj ρ n C .mO (.map none)
 |map (b:Pos) (h:b.toNat<n):aj ρ n C (.map b) (.map (some (ρ b).au))
 |func (f:FuncId) (x y:List AV) (x' y':Array Value) (hx:x.length=x'.size) (hy:y.length=y'.size)
  (fM:∀(i:Nat)(v:AV)(v':Value),x[i]? =some v->x'[i]? =some v'->aj ρ n C v v') (Bp:∀(i:Nat)(v:AV)(v':Value),y[i]? =some v->y'[i]? =some v'->aj ρ n C v v'):
  aj ρ n C (.func f x y) (.func (.func f) x' y')
 |ir:aj ρ n C .ir .nilFunc
 |uI:aj ρ n C .uI .nilIface
 |iface (t:TypeId) (v:AV) (x:Value) (h:aj ρ n C v x):aj ρ n C (.iface t v) (.iface t x)
 |agg (l:List AV) (cs:Array Value) (hl:l.length=cs.size) (h:∀(i:Nat)(v:AV)(v':Value),l[i]? =some v->cs[i]? =some v'->aj ρ n C v v'):
  aj ρ n C (.agg l) (.agg cs)
 |tuple (l:List AV) (cs:Array Value) (hl:l.length=cs.size) (h:∀(i:Nat)(v:AV)(v':Value),l[i]? =some v->cs[i]? =some v'->aj ρ n C v v'):
  aj ρ n C (.tuple l) (.tuple cs)
theorem aj.mono{ρ ρ':Pos->Loc}{n n':Nat}{C:Cells}{v:AV}{x:Value}(h:aj ρ n C v x)
  (aN:∀b:Pos,b.toNat<n->ρ' b=ρ b) (hn:n<=n'):aj ρ' n' C v x:=by
 induction h with
 |bool b=>exact .bool b
 |int k i=>exact .int k i
 |str s bs h=>exact .str s bs h
 |gq=>exact .gq
 |ptr b off h=>rw[<-aN b h];exact .ptr b off (by omega)
 |fp xs i j es au base cell hl hc _ ih=>exact .fp xs i j es au base cell hl hc ih
 |ax=>exact .ax
 |slice b off len cap es aH a hl hc ha hk=>
  refine .slice b off len cap es aH a hl hc (λh0=> ?_) (λh0=>by have:=hk h0;omega);obtain⟨h1,h2,h3⟩:=ha h0;rw[aN b h1];exact⟨by omega,h2,h3⟩
 |fl xs es aH a cell hl hs cX hc _ ih=>exact .fl xs es aH a cell hl hs cX hc ih
 |mO=>exact .mO
 |map b h=>rw[<-aN b h];exact .map b (by omega)
 |func f x y x' y' hx hy _ _ Yv Yw=>exact .func f x y x' y' hx hy Yv Yw
 |ir=>exact .ir
 |uI=>exact .uI
 |iface t v x _ ih=>exact .iface t v x ih
 |agg l cs hl _ ih=>exact .agg l cs hl ih
 |tuple l cs hl _ ih=>exact .tuple l cs hl ih
def ak(ρ:Pos->Loc)(n:Nat)(C:Cells)(l:List AV)(xs:List Value):Prop:=
 l.length=xs.length/\∀(i:Nat)(v:AV)(x:Value),l[i]? =some v->xs[i]? =some x->aj ρ n C v x
section
variable{ρ ρ':Pos->Loc}{n n':Nat}{C:Cells}
theorem ak.mono{l:List AV}{xs:List Value}(h:ak ρ n C l xs)(aN:∀b:Pos,b.toNat<n->ρ' b=ρ b)(hn:n<=n'):
 ak ρ' n' C l xs:=⟨h.1,λi v x hv hx=>(h.2 i v x hv hx).mono aN hn⟩
theorem ak.nil:ak ρ n C [] []:=⟨rfl,λ_ _ _ h=>by simp at h⟩
theorem ak.cons{v:AV}{x:Value}{l:List AV}{xs:List Value}(h:aj ρ n C v x)(hs:ak ρ n C l xs):ak ρ n C (v::l) (x::xs):=
 ⟨by simp[hs.1],λi u y hu hy=>by
  cases i with
  |zero=>simp at hu hy;subst hu;subst hy;exact h
  |succ i=>simp at hu hy;exact hs.2 i u y hu hy⟩
theorem ak.cons_inv{v:AV}{l:List AV}{xs:List Value}(h:ak ρ n C (v::l) xs):∃x tD,xs=x::tD/\aj ρ n C v x/\ak ρ n C l tD:=by
 cases xs with
 |nil=>have:=h.1;simp at this
 |cons x tD=>
  exact⟨x,tD,rfl,h.2 0 v x rfl rfl,by have:=h.1;simpa using this,λi u y hu hy=>h.2 (i+1) u y (by simpa using hu) (by simpa using hy)⟩
theorem ak.k8{xs:List Value}(h:ak ρ n C [] xs):xs=[]:=by
 have:=h.1;cases xs with
 |nil=>rfl
 |cons a b=>simp at this
theorem ak.append{l m:List AV}{xs ys:List Value}(h:ak ρ n C l xs)(k:ak ρ n C m ys):ak ρ n C (l++m) (xs++ys):=by
 refine⟨by simp[h.1,k.1],λi v x hv hx=> ?_⟩;rcases Zi0 i l.length with hi|hi
 .rw[Zc7 hi]at hv;rw[Zc7 (by rw[<-h.1];exact hi)]at hx;exact h.2 i v x hv hx
 .rw[Zc8 hi]at hv;rw[Zc8 (by rw[<-h.1];exact hi), <-h.1]at hx;exact k.2 _ v x hv hx
theorem ak.take{l:List AV}{xs:List Value}(h:ak ρ n C l xs)(m:Nat):ak ρ n C (l.take m) (xs.take m):=by
 refine⟨by simp[h.1],λi v x hv hx=> ?_⟩;rw[Za9]at hv hx;split at hv
 .rename_i hi;rw[Za6 hi]at hx;exact h.2 i v x hv hx
 .cases hv
theorem ak.drop{l:List AV}{xs:List Value}(h:ak ρ n C l xs)(m:Nat):ak ρ n C (l.drop m) (xs.drop m):=by refine⟨by simp[h.1],λi v x hv hx=> ?_⟩;rw[Zc9]at hv hx;exact h.2 _ v x hv hx
theorem ak.aK{l vs:List AV}{xs ys:List Value}(h:ak ρ n C l xs)(k:ak ρ n C vs ys)(i:Nat):
  ak ρ n C (Go.Ai.aK l i vs) (Go.Ai.aK xs i ys):=by
 unfold Go.Ai.aK;rw[k.1];exact(h.take i).append (k.append (h.drop _))
theorem ak.get{l:List AV}{xs:List Value}(h:ak ρ n C l xs){i:Nat}{v:AV}(hv:l[i]? =some v):∃x,xs[i]? =some x/\aj ρ n C v x:=by
 have hi:i<xs.length:=by rw[<-h.1];exact(H3.1 hv).1
 exact⟨xs[i],H1 hi,h.2 i v _ hv (H1 hi)⟩
theorem aj.Bq{l:List AV}{cs:Array Value}(h:ak ρ n C l cs.toList):aj ρ n C (.agg l) (.agg cs):=
 .agg l cs (by simpa using h.1) λi v x hv hx=>h.2 i v x hv (by simpa using hx)
theorem aj.qC{l:List AV}{cs:Array Value}(h:ak ρ n C l cs.toList):aj ρ n C (.tuple l) (.tuple cs):=
 .tuple l cs (by simpa using h.1) λi v x hv hx=>h.2 i v x hv (by simpa using hx)
theorem aj.A4{l:List AV}{x:Value}(h:aj ρ n C (.agg l) x):∃cs,x= .agg cs/\ak ρ n C l cs.toList:=by
 cases h with|agg _ cs hl h=>exact⟨cs,rfl,by simpa using hl,λi v x hv hx=>h i v x hv (by simpa using hx)⟩
theorem aj.Ql{l:List AV}{x:Value}(h:aj ρ n C (.tuple l) x):∃cs,x= .tuple cs/\ak ρ n C l cs.toList:=by
 cases h with|tuple _ cs hl h=>exact⟨cs,rfl,by simpa using hl,λi v x hv hx=>h i v x hv (by simpa using hx)⟩
theorem aj.yA{f:FuncId}{a b:List AV}{x:Value}(h:aj ρ n C (.func f a b) x):
  ∃a' b',x= .func (.func f) a' b'/\ak ρ n C a a'.toList/\ak ρ n C b b'.toList:=by
 cases h with
 |func _ _ _ a' b' hx hy h1 h2=>exact⟨a',b',rfl,⟨by simpa using hx,λi v x hv hx=>h1 i v x hv (by simpa using hx)⟩,⟨by simpa using hy,λi v x hv hx=>h2 i v x hv (by simpa using hx)⟩⟩
theorem aj.cells{v:AV}{x:Value}(h:aj ρ n C v x):ak ρ n C v.cells x.cells.toList:=by
 by_cases hv:∃l,v= .agg l
 .obtain⟨l,rfl⟩:=hv;obtain⟨cs,rfl,hs⟩:=h.A4;exact hs
 .have h1:v.cells=[v]:=(by cases v<;>first|rfl|exact absurd ⟨_,rfl⟩ hv);have h2:x.cells= #[x]:=(by cases h<;>first|rfl|exact absurd ⟨_,rfl⟩ hv);rw[h1,h2];exact ak.cons h ak.nil
def j7(ρ:Pos->Loc)(n:Nat)(C:Cells)(L:Loc)(w:World):AB->Prop
 |.cells cs fz=>∃(c:Array Value) (e:TypeId) (fr:Nat×Nat),w.heap[L.au]? =some (.cells c e fr)/\c.size=L.size/\L.base+cs.length<=c.size/\
  ak ρ n C cs ((c.toList.drop L.base).take cs.length)/\∀i,fz<=i->L.base+i<c.size->¬(fr.1<=L.base+i/\L.base+i<fr.2)
 |.map es clock=>∃(es':Array MapEntry),w.heap[L.au]? =some (.map es' clock)/\es.length=es'.size/\
  ∀(i:Nat)(e:AV×AV×Nat)(e':MapEntry),es[i]? =some e->es'[i]? =some e'->aj ρ n C e.1 e'.key/\aj ρ n C e.2.1 e'.val/\e.2.2=e'.born
 |.iu s pos=>∃(bs:ByteArray),w.heap[L.au]? =some (.stringIter bs pos)/\bs.data.toList.map UInt8.toNat=s/\L.base=0
 |.typed t cs=>∃(c:Array Value) (fr:Nat×Nat),w.heap[L.au]? =some (.cells c t fr)/\c.size=L.size/\L.base+cs.length<=c.size/\
  ak ρ n C cs ((c.toList.drop L.base).take cs.length)/\(∀i,0<=i->L.base+i<c.size->¬(fr.1<=L.base+i/\L.base+i<fr.2))/\L.base=0
theorem j7.mono{L:Loc}{w:World}{x:AB}(h:j7 ρ n C L w x)(aN:∀b:Pos,b.toNat<n->ρ' b=ρ b)(hn:n<=n'):j7 ρ' n' C L w x:=by
 cases x with
 |cells cs fz=>obtain⟨c,e,fr,h1,h2,h3,h4,h5⟩:=h;exact⟨c,e,fr,h1,h2,h3,h4.mono aN hn,h5⟩
 |map es clock=>obtain⟨es',h1,h2,h3⟩:=h;exact⟨es',h1,h2,λi e e' he ji=>let⟨a,b,c⟩:=h3 i e e' he ji;⟨a.mono aN hn,b.mono aN hn,c⟩⟩
 |iu s pos=>exact h
 |typed t cs=>obtain⟨c,fr,h1,h2,h3,h4,h5⟩:=h;exact⟨c,fr,h1,h2,h3,h4.mono aN hn,h5⟩
theorem j7.of_heap{L:Loc}{w w':World}{x:AB}(h:j7 ρ n C L w x)(hw:w'.heap[L.au]? =w.heap[L.au]?):j7 ρ n C L w' x:=by
 cases x with
 |cells cs fz=>obtain⟨c,e,fr,h1,h2⟩:=h;exact⟨c,e,fr,by rw[hw];exact h1,h2⟩
 |map es clock=>obtain⟨es',h1,h2⟩:=h;exact⟨es',by rw[hw];exact h1,h2⟩
 |iu s pos=>obtain⟨bs,h1,h2⟩:=h;exact⟨bs,by rw[hw];exact h1,h2⟩
 |typed t cs=>obtain⟨c,fr,h1,h2⟩:=h;exact⟨c,fr,by rw[hw];exact h1,h2⟩
end
structure aP(ρ:Pos->Loc)(C:Cells)(st:St)(w:World):Prop where
 live:∀b x,st.heap.get b=some x->b.toNat<st.next.toNat/\(ρ b).au<w.heap.size/\j7 ρ st.next.toNat C (ρ b) w x
 inj:∀b b' x x',st.heap.get b=some x->st.heap.get b'=some x'->(ρ b).au=(ρ b').au->b=b'
 cO:∀a v,C a=some v->w.cell? a=some v/\∀b x,st.heap.get b=some x->(ρ b).au≠a.block
 whole:∀a v,C a=some v->∀o,C ⟨a.block,o,none⟩=none->w.cell? ⟨a.block,o,none⟩=none
structure iL(ρ:Pos->Loc)(st:St)(w:World)(ρ':Pos->Loc)(st':St)(w':World):Prop where
 os:w'.os=w.os
 tape:w'.tape=w.tape
 output:w'.output=w.output
 size:w.heap.size<=w'.heap.size
 block:∀k,k<w.heap.size->(∀b x,st.heap.get b=some x->(ρ b).au≠k)->w'.heap[k]? =w.heap[k]?
 lO:∀b x,st'.heap.get b=some x->(∃b' x',st.heap.get b'=some x'/\(ρ b').au=(ρ' b).au)\/w.heap.size<=(ρ' b).au
theorem iL.refl(ρ:Pos->Loc)(st:St)(w:World):iL ρ st w ρ st w:=⟨rfl,rfl,rfl,Za1 _,λ_ _ _=>rfl,λb x h=>.inl ⟨b,x,h,rfl⟩⟩
theorem iL.trans{ρ cY j8:Pos->Loc}{st aL jk:St}{w w1 w2:World}(h:iL ρ st w cY aL w1)(k:iL cY aL w1 j8 jk w2):iL ρ st w j8 jk w2 where
 os:=k.os.trans h.os
 tape:=k.tape.trans h.tape
 output:=k.output.trans h.output
 size:=Zc4 h.size k.size
 block q hq hn:=by
  rw[k.block q (Zb7 hq h.size) λb x hb e=> ?_,h.block q hq hn];rcases h.lO b x hb with⟨b',x',h1,h2⟩|h1
  .exact hn b' x' h1 (h2.trans e)
  .rw[e]at h1;omega
 lO b x hb:=by
  rcases k.lO b x hb with⟨b',x',h1,h2⟩|h1
  . rcases h.lO b' x' h1 with⟨b'',x'',h3,h4⟩|h3
    .exact .inl ⟨b'',x'',h3,h4.trans h2⟩
    .right;rw[<-h2];exact h3
  .exact .inr (Zc4 h.size h1)
def eB(ρ:Pos->Loc)(n:Nat)(C:Cells)(fr:Fr)(tmps:Array Value):Prop:=
 ∀p v,fr.get p=some v->∃x,tmps[p.toNat - 1]? =some x/\aj ρ n C v x
theorem Pos.toNat_pos(p:Pos):0<p.toNat:=by
 induction p with
 |h=>simp[Pos.toNat]
 |o p ih=>simp[Pos.toNat];exact ih
 |i p ih=>simp[Pos.toNat]
theorem Pos.toNat_inj:∀{p q:Pos},p.toNat=q.toNat->p=q
 |.h,.h,_=>rfl
 |.h,.o q,hq=>by have:=q.toNat_pos;simp[Pos.toNat]at hq;omega
 |.h,.i q,hq=>by have:=q.toNat_pos;simp[Pos.toNat]at hq;omega
 |.o p,.h,hq=>by have:=p.toNat_pos;simp[Pos.toNat]at hq;omega
 |.o p,.o q,hq=>by simp[Pos.toNat]at hq;rw[Pos.toNat_inj (p:=p) (q:=q) (by omega)]
 |.o p,.i q,hq=>by simp[Pos.toNat]at hq;omega
 |.i p,.h,hq=>by have:=p.toNat_pos;simp[Pos.toNat]at hq;omega
 |.i p,.o q,hq=>by simp[Pos.toNat]at hq;omega
 |.i p,.i q,hq=>by simp[Pos.toNat]at hq;rw[Pos.toNat_inj (p:=p) (q:=q) (by omega)]
theorem Pos.aB(p:Pos):p.succ.toNat=p.toNat+1:=by
 induction p with
 |h=>rfl
 |o p ih=>simp[Pos.succ,Pos.toNat]
 |i p ih=>simp[Pos.succ,Pos.toNat,ih];omega
theorem Pos.Gf:∀(f m:Nat),0<m->m<2 ^ (f+1)->(Pos.Sz f m).toNat=m
 |0,m,hp,hl=>by
  simp at hl;have:m=1:=by omega
  subst this;rfl
 |f +   1,m,hp,hl=>by
  unfold Pos.Sz;split
  . (rename_i hb;have:=H4 hb;have:m=1:=by omega);subst this;rfl
  . rename_i hb;have h1:1<m:=by
        rcases Zi0 1 m with hh|hh
        .exact hh
        .rw[Nat.ble_eq_true_of_le hh]at hb;cases hb
    have h2:m / 2<2 ^ (f+1):=(by have:2 ^ (f+1+1)=2*2 ^ (f+1):=(by rw[Nat.pow_succ];omega);omega);split
    .   rename_i he;have:=H2 he;simp only[Pos.toNat];rw[Pos.Gf f _ (by omega) h2];omega
    .   rename_i he;have:=Zb0 he;simp only[Pos.toNat];rw[Pos.Gf f _ (by omega) h2];omega
theorem dU(n:Nat):(key n).toNat=n+1:=Pos.Gf _ (n+1) (by omega) Nat.lt_log2_self
theorem T.cT{α:Type}(p:Pos):(T.e:T α).get p=none:=by cases p<;>rfl
theorem T.dP{α:Type}(x:Option α)(p:Pos)(t:T α):(T.put x p t).get p=x:=by
 induction p generalizing t with
 |h=>cases t<;>rfl
 |o p ih=>cases t<;>exact ih _
 |i p ih=>cases t<;>exact ih _
theorem T.bn{α:Type}(x:Option α){p q:Pos}(h:p≠q)(t:T α):(T.put x p t).get q=t.get q:=by
 induction p generalizing q t with
 |h=>cases q with
  |h=>exact absurd rfl h
  |o q=>cases t<;>simp[T.put,T.get,T.cT]
  |i q=>cases t<;>simp[T.put,T.get,T.cT]
 |o p ih=>cases q with
  |h=>cases t<;>simp[T.put,T.get]
  | o q=>cases t with
    |e=>simp only[T.put,T.get];rw[ih (λe=>h (by rw[e])),T.cT]
    |n l v r=>simp only[T.put,T.get];exact ih (λe=>h (by rw[e])) l
  |i q=>cases t<;>simp[T.put,T.get,T.cT]
 |i p ih=>cases q with
  |h=>cases t<;>simp[T.put,T.get]
  |o q=>cases t<;>simp[T.put,T.get,T.cT]
  | i q=>cases t with
    |e=>simp only[T.put,T.get];rw[ih (λe=>h (by rw[e])),T.cT]
    |n l v r=>simp only[T.put,T.get];exact ih (λe=>h (by rw[e])) r
theorem Pos.beq_eq:∀{p q:Pos},p.beq q=true↔p=q
 |.h,.h=>by simp[Pos.beq]
 |.h,.o q=>by simp[Pos.beq]
 |.h,.i q=>by simp[Pos.beq]
 |.o p,.h=>by simp[Pos.beq]
 |.o p,.o q=>by simp only[Pos.beq,Pos.o.injEq];exact Pos.beq_eq
 |.o p,.i q=>by simp[Pos.beq]
 |.i p,.h=>by simp[Pos.beq]
 |.i p,.o q=>by simp[Pos.beq]
 |.i p,.i q=>by simp only[Pos.beq,Pos.i.injEq];exact Pos.beq_eq
end
noncomputable section
section
variable{R:Type}
def j9{α:Type}(p:Pos):T α->Option α:=
 Pos.rec (motive:=λ_=>T α->Option α)
    (λt=>T.rec (motive:=λ_=>Option α) none (λ_ v _ _ _=>v) t)
    (λ_ ih t=>T.rec (motive:=λ_=>Option α) none (λl _ _ _ _=>ih l) t)
    (λ_ ih t=>T.rec (motive:=λ_=>Option α) none (λ_ _ r _ _=>ih r) t) p
def lQ{α:Type}(x:Option α)(p:Pos):T α->(T α->R)->R:=
 Pos.rec (motive:=λ_=>T α->(T α->R)->R)
    (λt k=>T.rec (motive:=λ_=>R) (k (.n .e x .e)) (λl _ r _ _=>k (.n l x r)) t)
    (λ_ ih t k=>T.rec (motive:=λ_=>R) (ih .e λl=>k (.n l none .e)) (λl v r _ _=>ih l λl=>k (.n l v r)) t)
    (λ_ ih t k=>T.rec (motive:=λ_=>R) (ih .e λr=>k (.n .e none r)) (λl v r _ _=>ih r λr=>k (.n l v r)) t) p
def lR(n:Nat)(k:Nat->R):R:=Nat.rec (motive:=λ_=>R) (k 0) (λm _=>k (Nat.succ m)) n
def Mr(n:Int)(k:Int->R):R:=match n with
 |.ofNat m=>lR m λm=>k (.ofNat m)
 |.negSucc m=>lR m λm=>k (.negSucc m)
def Qm(b:Bool)(k:Bool->R):R:=match b with
 |true=>k true
 |false=>k false
def wC{α:Type}(l:List α):(List α->R)->R:=
 List.rec (motive:=λ_=>(List α->R)->R) (λk=>k []) (λa _ ih k=>ih λt=>k (a::t)) l
def Gg(p:Pos):(Pos->R)->R:=
 Pos.rec (motive:=λ_=>(Pos->R)->R) (λk=>k .h) (λ_ ih k=>ih λp=>k (.o p)) (λ_ ih k=>ih λp=>k (.i p)) p
def SD(o:Option Nat)(k:Option Nat->R):R:=match o with
 |none=>k none
 |some n=>lR n λn=>k (some n)
def I3(v:AV)(k:AV->R):R:=match v with
 |.bool b=>Qm b λb=>k (.bool b)
 |.int i n=>Mr n λn=>k (.int i n)
 |.str s=>wC s λs=>k (.str s)
 |.ptr b o=>Gg b λb=>lR o λo=>k (.ptr b o)
 |.slice b o l c es=>Gg b λb=>lR o λo=>lR l λl=>SD c λc=>k (.slice b o l c es)
 |.map b=>Gg b λb=>k (.map b)
 |.func f x y=>wC x λx=>wC y λy=>k (.func f x y)
 |.agg l=>wC l λl=>k (.agg l)
 |v=>k v
def KM(l:List AV):(List AV->R)->R:=
 List.rec (motive:=λ_=>(List AV->R)->R) (λk=>k []) (λa _ ih k=>I3 a λa=>ih λt=>k (a::t)) l
def o6(v:AV)(k:AV->R):R:=match v with
 |.tuple l=>KM l λl=>k (.tuple l)
 |v=>I3 v k
def A5(x:AB)(k:AB->R):R:=match x with
 |.cells cs fz=>wC cs λcs=>lR fz λfz=>k (.cells cs fz)
 |.map es c=>wC es λes=>lR c λc=>k (.map es c)
 |.iu s p=>lR p λp=>k (.iu s p)
 |.typed t cs=>wC cs λcs=>k (.typed t cs)
def Ns(p:Pos):(Pos->R)->R:=
 Pos.rec (motive:=λ_=>(Pos->R)->R) (λk=>k (.o .h)) (λq _ k=>k (.i q)) (λ_ ih k=>ih λp=>k (.o p)) p
variable(z:R)
def Qn(fr:Fr)(x:dA)(k:AV->R):R:=match x with
 |  .t p=>match j9 p fr with
    |some v=>k v
    |none=>z
 |.c v=>k v
def Ms(fr:Fr)(xs:List dA):(List AV->R)->R:=
 List.rec (motive:=λ_=>(List AV->R)->R) (λk=>k []) (λx _ ih k=>Qn z fr x λv=>ih λvs=>k (v::vs)) xs
def A6(fr:Fr)(g:Option (Pos×Bool))(yes no:R):R:=match g with
 |none=>yes
 |  some (p,want)=>match j9 p fr with
    |some (.bool b)=>match b==want with
     |true=>yes
     |false=>no
    |some (.tuple _)=>no
    |_=>z
def jg(fr:Fr)(d:Option Pos)(v:AV)(k:Fr->R):R:=match d with
 |some p=>lQ (some v) p fr k
 |none=>k fr
def delK(o:Option Pos)(h:T AB)(k:T AB->R):R:=match o with
 |some b=>lQ none b h k
 |none=>k h
def aas(o:Option (Pos×AB))(h:T AB)(k:T AB->R):R:=match o with
 |some (b,x)=>A5 x λx=>lQ (some x) b h k
 |none=>k h
abbrev gI(R:Type):=FuncId->List AV->St->(AV->St->R)->R
def aat(st:St)(del:Option Pos)(set:Option (Pos×AB))(new:Option AB)(k:St->R):R:=
 delK del st.heap λh=>aas set h λh=>match new with
    |some x=>A5 x λx=>lQ (some x) st.next h λh=>Ns st.next λn=>k { heap:=h,next:=n }
    |none=>k { heap:=h,next:=st.next }
def KN(call:gI R)(op:az)(xs:List AV)(st:St)(k:AV->St->R):R:=
 match op.run (λb=>j9 b st.heap) st.next xs with
 |some (.val v)=>o6 v λv=>k v st
 |some (.aG v del set new)=>o6 v λv=>aat st del set new λst=>k v st
 |some (.call f args)=>wC args λargs=>call f args st k
 |none=>z
def O0(call:gI R)(ops:List aX):Fr->St->(Fr->St->R)->R:=
 List.rec (motive:=λ_=>Fr->St->(Fr->St->R)->R) (λfr st k=>k fr st)
    (λo _ ih fr st k=>A6 z fr o.guard
     (Ms z fr o.xs λxs=>KN z call o.k xs st λv st=>jg fr o.dst v λfr=>ih fr st k)
     (jg fr o.dst .undef λfr=>ih fr st k)) ops
def Gh (br:Nat)(h:T AB)(recs:List Rec):(T AB->R)->R:=
 List.rec (motive:=λ_=>(T AB->R)->R) (λk=>k h)
    (fun r _ ih k=>match r.c with
     |  .new id au=>match br.testBit r.idx with
        |true=>ih λh'=>lQ (some au) id h' k
        |false=>ih k
     |.aG _ _=>k h
     |.pure=>ih k) recs
def SE(h:T AB)(l:List (Pos×AB)):(T AB->R)->R:=
 List.rec (motive:=λ_=>(T AB->R)->R) (λk=>k h) (λx _ ih k=>ih λh'=>lQ (some x.2) x.1 h' k) l
def SG(op:az)(xs:List AV)(v:AV)(h:T AB):Bool:=
 match op.run (λb=>j9 b h) .h xs with
 |some (.val u)=>fB u v
 |_=>false
def nR(br:Nat)(op:az)(xs:List AV)(v:AV):List (Pos×AB)->List Rec->Bool
 |_,[]=>true
 |  up,r::rs=>match r.c with
    | .new id au=>match br.testBit r.idx with
      |true=>nR br op xs v ((id,au)::up) rs
      |false=>nR br op xs v up rs
    | .aG base _=>match br.testBit r.idx with
      |true=>true
      |false=>(Gh br base rs λh=>SE h up λh=>SG op xs v h)&&nR br op xs v up rs
    |.pure=>nR br op xs v up rs
def Gi (call:gI R)(ops:List (Nat×aX)):List Rec->T AB->Fr->St->(Fr->St->R)->R:=
 List.rec ( motive:=λ_=>List Rec->T AB->Fr->St->(Fr->St->R)->R)
    (λ_ _ fr st k=>k fr st)
    (fun jo _ ih recs base fr st k=>A6 z fr jo.2.guard
     (Ms  z fr jo.2.xs λxs=>match jo.2.cls with
        | .new=>match jo.2.k.run (λ_=>none) st.next xs with
          |some (.aG v none none (some au))=>o6 v λv=>A5 au λau=>jg fr jo.2.dst v λfr=>Ns st.next λn=>lQ (some au) st.next st.heap λh=>
              ih ({ idx:=jo.1,o:=jo.2,v:=v,c:= .new st.next au,nx:=n }::recs) base fr { heap:=h,next:=n } k
          |_=>z
        |.aG=>KN z call jo.2.k xs st λv st'=>jg fr jo.2.dst v λfr=>ih ({ idx:=jo.1,o:=jo.2,v:=v,c:= .aG base st'.heap,nx:=st'.next }::recs) st'.heap fr st' k
        | _ =>match jo.2.k.run (λ_=>none) .h xs with
          |some (.val v)=>o6 v λv=>jg fr jo.2.dst v λfr=>ih ({ idx:=jo.1,o:=jo.2,v:=v,c:= .pure,nx:=st.next }::recs) base fr st k
          | _ =>Gh jo.2.br base recs λh=>match jo.2.k.run (λb=>j9 b h) .h xs with
            | some (.val v)=>o6 v λv=>match nR jo.2.br jo.2.k xs v [] recs with
              |true=>jg fr jo.2.dst v λfr=>ih ({ idx:=jo.1,o:=jo.2,v:=v,c:= .pure,nx:=st.next }::recs) base fr st k
              |false=>z
            |_=>z)
     (jg fr jo.2.dst .undef λfr=>ih ({ idx:=jo.1,o:=jo.2,v:= .undef,c:= .pure,nx:=st.next }::recs) base fr st k)) ops
abbrev Sb(R:Type):=AC->Fr->St->(Fr->St->R)->(Nat->Fr->St->R)->(Fr->St->R)->R
def nS(call:gI R)(ih:Sb R):Sb R
 |.skip,fr,st,kn,_,_=>kn fr st
 |.region ops,fr,st,kn,_,_=>O0 z call ops fr st kn
 |.draw ops,fr,st,kn,_,_=>Gi z call ops [] st.heap fr st kn
 |.seq a b,fr,st,kn,kx,kr=>ih a fr st (λfr st=>ih b fr st kn kx kr) kx kr
 |  .cond x a b,fr,st,kn,kx,kr=>Qn z fr x λv=>match v with
    |.bool true=>ih a fr st kn kx kr
    |.bool false=>ih b fr st kn kx kr
    |_=>z
 | .block id a,fr,st,kn,kx,kr=>ih a fr st kn (λqf fr st=>match Nat.beq qf id with
     |true=>kn fr st
     |false=>kx qf fr st) kr
 |.loop a,fr,st,kn,kx,kr=>ih a fr st (λfr st=>ih (.loop a) fr st kn kx kr) kx kr
 |.exit id,fr,st,_,kx,_=>kx id fr st
 |.ret,fr,st,_,_,kr=>kr fr st
def Nt(call:gI R)(n:Nat):Sb R:=
 Nat.rec (motive:=λ_=>Sb R) (λ_ _ _ _ _ _=>z) (λ_ ih=>nS z call ih) n
def yB(vs:List AV):Nat->Fr->(Fr->R)->R:=
 List.rec (motive:=λ_=>Nat->Fr->(Fr->R)->R) (λ_ fr k=>k fr)
    (λv _ ih i fr k=>lQ (some v) (key i) fr λfr=>ih (i+1) fr k) vs
def yC(st:St)(fr:Fr)(rs:List za)(k:AV->R):R:=
 match cm (λb=>j9 b st.heap) fr rs with
 |  some vs=>KM vs λvs=>match vs with
    |[v]=>k v
    |vs=>k (.tuple vs)
 |none=>z
def C9 (O:dG  )(G:T cq)(m:Nat)(d:Nat):gI R:=
 Nat.rec (motive:=λ_=>gI R) (λ_ _ _ _=>z)
    (fun _ ih f args st k=>match O f with
     |  some s=>match s args st with
        |some (v,st')=>o6 v λv=>k v st'
        |none=>z
     |  none=>match j9 (key f) G with
        |some F=>match Nat.beq args.length F.nparams with
         |true=>yB args 0 .e λfr=>Nt z ih m F.code fr st
              (λfr st=>yC z st fr F.results λv=>k v st)
              (λ_ _ _=>z)
              (λfr st=>yC z st fr F.results λv=>k v st)
         |false=>z
        |none=>z) d
end
end
end Go.Ai
