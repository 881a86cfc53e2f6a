/- An evaluator over plain values, its compiler and its relation to worlds. -/
import Derived.Orders
import Derived.Below
set_option linter.all false
def H0:=@List.getElem?_eq_getElem
def H5:=@Option.some.injEq
def Za0:=@decide_eq_true
def Za1:=@decide_eq_false
def Za2:=@List.getElem?_eq_some_iff
def Za3:=@Nat.le_refl
def Za4:=@List.length_map
def Za5:=@List.getElem?_cons_zero
def Za6:=@Nat.eq_of_beq_eq_true
def Za7:=@if_neg
def Za8:=@List.mem_cons
def Za9:=@Option.bind_some
def Zb0:=@List.mem_cons_of_mem
def Zb1:=@Bool.and_eq_true
def Zb2:=@Nat.le_trans
def Zb3:=@List.getD_eq_getElem?_getD
def Zb4:=@List.getElem?_cons_succ
def Zb5:=@Nat.le_of_ble_eq_true
def Zb6:=@if_pos
def Zb7:=@List.getElem?_map
def Zb8:=@Nat.zero_add
def Zb9:=@List.getElem_mem
def Zc0:=@List.not_mem_nil
def Zc1:=@List.mem_of_getElem?
def Zc2:=@List.eq_nil_of_length_eq_zero
def Zc3:=@List.getElem?_eq_none
def Zc4:=@List.getElem?_append_right
def Zc5:=@List.getElem?_append_left
def Zc6:=@List.length_cons
def Zc7:=@List.mem_map
def Zc8:=@List.map_append
def Zc9:=@List.take_succ_eq_append_getElem
def Zd0:=@Nat.lt_of_lt_of_le
def Zd1:=@List.map_cons
def Zd2:=@Prod.mk.injEq
def Zd3:=@Array.getElem?_eq_some_iff
def Zd4:=@Int.toNat_natCast
def Zd5:=@List.cons_append
def Zd6:=@List.length_append
def Zd7:=@List.mem_append
def Zd8:=@List.drop_eq_getElem_cons
def Zd9:=@List.append_nil
def Ze0:=@Option.map_some
def Ze1:=@decide_eq_true_eq
def Ze2:=@List.mem_cons_self
def Ze3:=@List.nil_append
def Ze4:=@List.getElem?_take
def Ze5:=@List.drop_zero
def Ze6:=@List.getElem?_set_ne
def Ze7:=@List.getElem?_drop
def Ze8:=@Option.getD_some
def Ze9:=@or_false
def Zf0:=@Bool.false_eq_true
def Zf1:=@List.take_of_length_le
def Zf2:=@List.mem_iff_getElem?
def Zf3:=@Nat.ne_of_beq_eq_false
def Zf4:=@List.getElem?_set_self
def Zf5:=@List.append_assoc
def Zf6:=@Option.map_eq_some_iff
def Zf7:=@Nat.add_zero
def Zf8:=@List.flatten_cons
def Zf9:=@List.cons.injEq
def Zg0:=@List.mem_iff_getElem
def Zg1:=@Array.getElem?_eq_getElem
def Zg2:=@of_decide_eq_true
def Zg3:=@List.length_take
def Zg4:=@List.range_succ
def Zg5:=@List.mem_range
def Zg6:=@decide_true
def Zg7:=@if_false
def Zg8:=@List.drop_append_of_le_length
def Zg9:=@Bool.true_and
def Zh0:=@Bool.not_true
def Zh1:=@if_true
def Zh2:=@List.mem_or_eq_of_mem_set
def Zh3:=@List.all_eq_true
def Zh4:=@Nat.mul_le_mul_right
def Zh5:=@Nat.succ_mul
def Zh6:=@Nat.add_sub_cancel
def Zh7:=@List.mem_singleton
def Zh8:=@List.getElem?_range
def Zh9:=@List.take_length
def Zi0:=@Nat.zero_le
def Zi1:=@List.map_map
def Zi2:=@List.length_nil
def Zi3:=@Array.length_toList
def Zi4:=@Array.getElem?_toList
def Zi5:=@List.map_nil
def Zi6:=@List.ext_getElem?
def Zi7:=@Int.tdiv_eq_ediv_of_nonneg
def Zi8:=@Option.some.inj
def Zi9:=@Option.getD_none
def Zj0:=@Nat.le_max_right
def Zj1:=@Array.getElem?_modify
def Zj2:=@Nat.lt_or_ge
def Zj3:=@List.length_set
def Zj4:=@Bool.and_true
def Zj5:=@Nat.mod_lt
def Zj6:=@Bool.not_eq_true'
def Zj7:=@Nat.add_mul
def Zj8:=@Bool.or_eq_true
def Zj9:=@Nat.le_max_left
def Zk0:=@Array.getElem?_setIfInBounds_ne
def Zk1:=@List.length_filter_le
def Zk2:=@List.set_append_right
def Zk3:=@List.filter_append
def Zk4:=@Nat.add_assoc
def Zk5:=@Bool.and_self
def Zk6:=@Bool.not_false
def Zk7:=@List.take_append_of_le_length
def Zk8:=@Nat.min_eq_left
def Zk9:=@List.mem_filter
def Zl0:=@List.map_congr_left
def Zl1:=@Nat.sub_self
def Zl2:=@Nat.mod_eq_of_lt
def Zl3:=@List.drop_drop
def Zl4:=@Classical.byContradiction
def Zl5:=@Function.comp_def
def Zl6:=@List.range_eq_range'
def Zl7:=@Nat.mul_le_mul_left
def Zl8:=@List.getElem_map
def Zl9:=@Int.natCast_emod
def Zm0:=@Bool.eq_iff_iff
def Zm1:=@List.take_append_drop
def Zm2:=@Array.getD_eq_getD_getElem?
def Zm3:=@List.flatMap_cons
def Zm4:=@Array.ext'
def Zm5:=@and_true
def Zm6:=@List.mem_append_left
def Zm7:=@Int.fdiv_eq_ediv_of_nonneg
def Zm8:=@List.any_eq_true
def Zm9:=@beq_eq_false_iff_ne
def Zn0:=@List.replicate_succ
def Zn1:=@Option.isSome_iff_exists
def Zn2:=@List.sum_cons
def Zn3:=@of_decide_eq_false
def Zn4:=@Nat.eq_zero_or_pos
def Zn5:=@Nat.mul_one
def Zn6:=@List.getElem?_replicate
def Zn7:=@List.set_eq_take_append_cons_drop
def Zn8:=@Nat.le_of_lt
def Zn9:=@List.drop_take
def Zo0:=@List.size_toArray
def Zo1:=@Nat.zero_mul
def Zo2:=@List.drop_of_length_le
def Zo3:=@List.getElem_cons_succ
def Zo4:=@List.getElem_take
def Zo5:=@UInt8.lt_iff_toNat_lt
def Zo6:=@List.length_singleton
def Zo7:=@List.length_replicate
def Zo8:=@List.contains_iff_mem
def Zo9:=@Array.eq_empty_of_size_eq_zero
def Zp0:=@List.range'_succ
def Zp1:=@List.length_drop
def Zp2:=@List.countP_cons
def Zp3:=@Nat.lt_irrefl
def Zp4:=@Bool.false_or
def Zp5:=@Array.toList_extract
def Zp6:=@Nat.one_mul
def Zp7:=@Array.getElem?_setIfInBounds
def Zp8:=@List.drop_set_of_lt
def Zp9:=@Array.getElem?_push
def Zq0:=@List.length_pos_iff
def Zq1:=@decide_false
def Zq2:=@Nat.sub_zero
def Zq3:=@List.map_set
def Zq4:=@Array.toList_setIfInBounds
def Zq5:=@Option.isSome_some
def Zq6:=@Option.isSome_none
def Zq7:=@Nat.mod_eq_sub_mod
def Zq8:=@Array.getElem?_append_left
def Zq9:=@List.take_zero
def Zr0:=@List.set_cons_zero
def Zr1:=@Int.emod_lt_of_pos
def Zr2:=@Bool.and_false
def Zr3:=@List.length_range
def Zr4:=@true_and
def Zr5:=@List.isEmpty_map
def Zr6:=@Nat.add_comm
def Zr7:=@Nat.blt_eq
def Zr8:=@Nat.le_of_eq
def Zr9:=@UInt8.toNat_inj
def Zs0:=@List.take_left'
def Zs1:=@List.foldl_cons
def Zs2:=@Int.ediv_nonneg
def Zs3:=@List.sum_append
def Zs4:=@Int.emod_nonneg
def Zs5:=@List.map_id
namespace Go.Ai
section
inductive Pos where
 |h
 |o (p:Pos)
 |i (p:Pos)
 deriving DecidableEq,Inhabited
def Pos.toNat:Pos->Nat
 |.h=>1
 |.o p=>2*p.toNat
 |.i p=>2*p.toNat+1
def Pos.succ:Pos->Pos
 |.h=>.o .h
 |.o p=>.i p
 |.i p=>.o p.succ
def Pos.ahn:Nat->Nat->Pos
 |0,_=>.h
 |  f+1,n=>match Nat.ble n 1 with
    |true=>.h
    |false=>match Nat.beq (n % 2) 0 with
     |true=>.o (Pos.ahn f (n / 2))
     |false=>.i (Pos.ahn f (n / 2))
def key(n:Nat):Pos:=Pos.ahn (n+1).log2 (n+1)
def Pos.beq:Pos->Pos->Bool
 |.h,.h=>true
 |.o a,.o b=>a.beq b
 |.i a,.i b=>a.beq b
 |_,_=>false
inductive T(α:Type) where
 |e
 |n (l:T α) (v:Option α) (r:T α)
 deriving Inhabited
def T.get{α:Type}:Pos->T α->Option α
 |_,.e=>none
 |.h,.n _ v _=>v
 |.o p,.n l _ _=>l.get p
 |.i p,.n _ _ r=>r.get p
def T.put{α:Type}(x:Option α):Pos->T α->T α
 |.h,.e=>.n .e x .e
 |.h,.n l _ r=>.n l x r
 |.o p,.e=>.n (T.put x p .e) none .e
 |.o p,.n l v r=>.n (T.put x p l) v r
 |.i p,.e=>.n .e none (T.put x p .e)
 |.i p,.n l v r=>.n l v (T.put x p r)
inductive AV where
 |bool (b:Bool)
 |int (k:IntKind) (n:Int)
 |str (s:List Nat)
 |jg
 |ptr (b:Pos) (off:Nat)
 |fp (xs:List (List AV)) (i j:Nat)
 |af
 |slice (b:Pos) (off len:Nat) (cap:Option Nat) (es:Nat)
 |fl (xs:List (List AV)) (es:Nat)
 |qX
 |map (b:Pos)
 |func (f:FuncId) (first captured:List AV)
 |jX
 |B9
 |iface (t:TypeId) (v:AV)
 |agg (l:List AV)
 |tuple (l:List AV)
 deriving Inhabited
inductive AB where
 |cells (cs:List AV) (fz:Nat)
 |map (es:List (AV×AV×Nat)) (clock:Nat)
 deriving Inhabited
def AV.cells:AV->List AV
 |.agg l=>l
 |v=>[v]
def AV.undef:AV:= .tuple []
def AV.one:AV->Bool
 |.agg _=>false
 |.tuple _=>false
 |_=>true
def aQ:List AV->Bool
 |[]=>true
 |  v::l=>match v.one with
    |true=>aQ l
    |false=>false
inductive eO where
 |val (v:AV)
 |bk (v:AV) (del:Option Pos) (set:Option (Pos×AB)) (new:Option AB)
 |call (f:FuncId) (args:List AV)
 deriving Inhabited
def nth{α:Type}:List α->Nat->Option α
 |[],_=>none
 |a::_,0=>some a
 |_::l,n+1=>nth l n
def cut{α:Type}(l:List α)(i n:Nat):Option (List α):=
 match Nat.ble (i+n) l.length with
 |true=>some ((l.drop i).take n)
 |false=>none
def aU{α:Type}(l:List α)(i:Nat)(vs:List α):List α:=l.take i++(vs++l.drop (i+vs.length))
def jY:List Nat->List Nat->Bool
 |[],[]=>true
 |  a::x,b::y=>match Nat.beq a b with
    |true=>jY x y
    |false=>false
 |_,_=>false
def aO:List Nat->List Nat->Bool
 |_,[]=>false
 |[],_::_=>true
 |  a::x,b::y=>match Nat.blt a b with
    |true=>true
    |false=>match Nat.beq a b with
     |true=>aO x y
     |false=>false
inductive PK where
 |b
 |i
 |s
 deriving Inhabited
inductive iu where
 |num
 |bool
 |ptr
 |slice
 |map
 |func
 |iface
 |struct (fs:List (Nat×PK))
 deriving Inhabited
inductive asS where
 |int (k:IntKind)
 |same
 |ofBytes
 deriving Inhabited
inductive LK where
 |s
 |l
 |m
 deriving Inhabited
inductive aG where
 |move
 |pick
 |alloc (zero:List AV)
 |box
 |build (zero:List AV) (places:List (Nat×Nat))
 |buildSlice (es len:Nat) (zero:List AV) (places:List Nat)
 |load (n:Option Nat)
 |store (n:Nat)
 |nilCheck
 |bin (op:BinOp) (q:iu)
 |un (op:UnOp)
 |conv (k:asS)
 |mkIface (t:TypeId)
 |mkFunc (f:FuncId) (WV:Nat)
 |mkMap
 |lookup (pk:PK) (zero:AV) (ok:Bool)
 |mapSet (pk:PK)
 |mkSlice (es bytes:Nat) (zero:List AV)
 |sliceS (lo hi:Bool)
 |sliceL (es:Nat) (lo hi mx:Bool)
 |fieldA (off:Nat)
 |idxA (es:Nat) (arr:Option Nat)
 |field (off:Nat) (n:Option Nat)
 |idxS
 |extract (i:Nat)
 |callF (f:FuncId)
 |callV
 |lenB (k:LK)
 |capB
 |append (es bytes:Nat)
 |copyB (es:Nat)
 |minB
 |maxB
 |clearS (es:Nat) (zero:List AV)
 |bad
 deriving Inhabited
def loI(k:IntKind):Int:=match k with
 |.i8=> -128|.i16=> -32768|.i32=> -2147483648|.i64=> -9223372036854775808|_=>0
def hiI(k:IntKind):Int:=match k with
 |.i8=>127|.i16=>32767|.i32=>2147483647|.i64=>9223372036854775807
 |.u8=>255|.u16=>65535|.u32=>4294967295|.u64=>18446744073709551615
def ax(k:IntKind)(n:Int):Int:=
 match Int.decLe (loI k) n with
 |  .isTrue _=>match Int.decLe n (hiI k)with
    |.isTrue _=>n
    |.isFalse _=>k.wrap n
 |.isFalse _=>k.wrap n
def L9(a b:IntKind):Bool:=match decEq a b with
 |.isTrue _=>true
 |.isFalse _=>false
def BP(a b:Int):Bool:=match Int.decEq a b with
 |.isTrue _=>true
 |.isFalse _=>false
def BQ(a b:Int):Bool:=match Int.decLt a b with
 |.isTrue _=>true
 |.isFalse _=>false
def ag3(a b:Int):Bool:=match Int.decLe a b with
 |.isTrue _=>true
 |.isFalse _=>false
def yV:PK->AV->AV->Option Bool
 |.b,.bool a,.bool b=>some (a==b)
 |  .i,.int k a,.int k' b=>match L9 k k' with
    |true=>some (BP a b)
    |false=>none
 |.s,.str a,.str b=>some (jY a b)
 |_,_,_=>none
def eqFields(xs ys:List AV):List (Nat×PK)->Option Bool
 |[]=>some true
 |  (o,pk)::fs=>match nth xs o,nth ys o with
    | some a,some b=>match yV pk a b with
      |some true=>eqFields xs ys fs
      |some false=>some false
      |none=>none
    |_,_=>none
def abz:iu->AV->AV->Option Bool
 |.bool,.bool a,.bool b=>some (a==b)
 |.ptr,.jg,.jg=>some true
 |.ptr,.jg,.ptr _ _=>some false
 |.ptr,.ptr _ _,.jg=>some false
 |.ptr,.jg,.fp _ _ _=>some false
 |.ptr,.fp _ _ _,.jg=>some false
 |  .ptr,.ptr b o,.ptr b' o'=>match Pos.beq b b',Nat.beq o o' with
    |true,true=>some true
    |_,_=>none
 |.slice,.af,.af=>some true
 |.slice,.af,.slice _ _ _ _ _=>some false
 |.slice,.slice _ _ _ _ _,.af=>some false
 |.slice,.af,.fl _ _=>some false
 |.slice,.fl _ _,.af=>some false
 |.map,.qX,.qX=>some true
 |.map,.qX,.map _=>some false
 |.map,.map _,.qX=>some false
 |.func,.jX,.jX=>some true
 |.func,.jX,.func _ _ _=>some false
 |.func,.func _ _ _,.jX=>some false
 |.iface,.B9,.iface _ _=>some false
 |.iface,.iface _ _,.B9=>some false
 |.struct fs,.agg xs,.agg ys=>eqFields xs ys fs
 |_,_,_=>none
def pV (op:BinOp)(q:iu):AV->AV->Option AV
 |  .int k a,.int k' b=>match op with
    | .shl=>match BQ b 0 with
      |true=>none
      |false=>some (.int k (ax k (a*2 ^ (min b.toNat k.bits))))
    | .shr=>match BQ b 0 with
      |true=>none
      |false=>some (.int k (a.fdiv (2 ^ (min b.toNat k.bits))))
    | op=>match L9 k k' with
      |false=>none
      | true=>match op with
        |.add=>some (.int k (ax k (a+b)))
        |.sub=>some (.int k (ax k (a - b)))
        |.mul=>some (.int k (ax k (a*b)))
        | .quo=>match BP b 0 with
          |true=>none
          |false=>some (.int k (ax k (a.tdiv b)))
        | .rem=>match BP b 0 with
          |true=>none
          |false=>some (.int k (a.tmod b))
        |.and=>some (.int k (k.wrap (BitVec.ofInt k.bits a &&& BitVec.ofInt k.bits b).toNat))
        |.or=>some (.int k (k.wrap (BitVec.ofInt k.bits a ||| BitVec.ofInt k.bits b).toNat))
        |.xor=>some (.int k (k.wrap (BitVec.ofInt k.bits a ^^^ BitVec.ofInt k.bits b).toNat))
        |.andNot=>some (.int k (k.wrap (BitVec.ofInt k.bits a &&& ~~~BitVec.ofInt k.bits b).toNat))
        |.eql=>some (.bool (BP a b))
        |.neq=>some (.bool (!BP a b))
        |.lss=>some (.bool (BQ a b))
        |.leq=>some (.bool (ag3 a b))
        |.gtr=>some (.bool (BQ b a))
        |.geq=>some (.bool (ag3 b a))
        |_=>none
 |  .str a,.str b=>match op with
    | .add=>match Nat.ble (a.length+b.length) 9223372036854775807 with
      |true=>some (.str (a++b))
      |false=>none
    |.eql=>some (.bool (jY a b))
    |.neq=>some (.bool (!jY a b))
    |.lss=>some (.bool (aO a b))
    |.leq=>some (.bool (aO a b||jY a b))
    |.gtr=>some (.bool (!(aO a b||jY a b)))
    |.geq=>some (.bool (!aO a b))
    |_=>none
 |  x,y=>match op with
    | .eql=>match abz q x y with
      |some b=>some (.bool b)
      |none=>none
    | .neq=>match abz q x y with
      |some b=>some (.bool (!b))
      |none=>none
    |_=>none
def unA(op:UnOp):AV->Option AV
 |  .bool b=>match op with
    |.not=>some (.bool (!b))
    |_=>none
 |  .int k n=>match op with
    |.neg=>some (.int k (ax k (0 - n)))
    |_=>none
 |_=>none
def cK(cells:List AV):List (Nat×Nat)->List AV->Option (List AV)
 |[],[]=>some cells
 |  (off,size)::ps,v::vs=>
    match Nat.beq v.cells.length size,Nat.ble (off+size) cells.length with
    |true,true=>cK (aU cells off v.cells) ps vs
    |_,_=>none
 |_,_=>none
def bW{α:Type}(l:List α):Nat->List α
 |0=>[]
 |n+1=>l++bW l n
def AI:AV->Option Nat
 |  .int _ n=>match n with
    |.ofNat m=>some m
    |.negSucc _=>none
 |_=>none
def Ma(n:Nat):AV:= .int .i64 (.ofNat n)
def rows(es:Nat)(cs:List AV):Nat->List (List AV)
 |0=>[]
 |n+1=>cs.take es::rows es (cs.drop es) n
def bounds:(lo hi mx:Bool)->List AV->Option (Option Nat×Option Nat×Option Nat)
 |false,false,false,[]=>some (none,none,none)
 |  true,false,false,[a]=>match AI a with
    |some l=>some (some l,none,none)
    |none=>none
 |  false,true,false,[b]=>match AI b with
    |some h=>some (none,some h,none)
    |none=>none
 |  true,true,false,[a,b]=>match AI a,AI b with
    |some l,some h=>some (some l,some h,none)
    |_,_=>none
 |  false,true,true,[b,c]=>match AI b,AI c with
    |some h,some m=>some (none,some h,some m)
    |_,_=>none
 |  true,true,true,[a,b,c]=>match AI a,AI b,AI c with
    |some l,some h,some m=>some (some l,some h,some m)
    |_,_,_=>none
 |_,_,_,_=>none
def dF(es n:Nat)(H:Pos->Option AB):AV->Option (List AV)
 |.af=>some []
 |  .slice b off _ _ _=>match Nat.beq (n*es) 0 with
    |true=>some []
    |false=>match H b with
     |some (.cells cs _)=>cut cs off (n*es)
     |_=>none
 |  .fl xs es'=>match Nat.beq es es',Nat.ble n xs.length with
    |true,true=>some (xs.take n).flatten
    |_,_=>none
 |  .str s=>match Nat.beq es 1,Nat.ble n s.length with
    |true,true=>some ((s.take n).map λc=>.int .u8 (.ofNat c))
    |_,_=>none
 |_=>none
def dV:AV->Option Nat
 |.af=>some 0
 |.slice _ _ n _ _=>some n
 |.fl xs _=>some xs.length
 |.str s=>some s.length
 |_=>none
def ic(pk:PK)(k:AV):List (AV×AV×Nat)->Nat->Option (Option (Nat×AV))
 |[],_=>some none
 |  (k',v,_)::es,i=>match yV pk k k' with
    |some true=>some (some (i,v))
    |some false=>ic pk k es (i+1)
    |none=>none
def aho:PK->AV->Bool
 |.b,.bool _=>true
 |.i,.int _ _=>true
 |.s,.str _=>true
 |_,_=>false
def uf(k v:AV):List (AV×AV×Nat)->Nat->List (AV×AV×Nat)
 |[],_=>[]
 |(_,_,born)::es,0=>(k,v,born)::es
 |e::es,i+1=>e::uf k v es i
def bytesOf:List AV->Option (List Nat)
 |[]=>some []
 |  .int .u8 (.ofNat n)::l=>match Nat.blt n 256,bytesOf l with
    |true,some s=>some (n::s)
    |_,_=>none
 |_=>none
def ZB(_H:Pos->Option AB)(_next:Pos):List AV->Option eO
 |[x]=>some (.val x)
 |_=>none
def aed(_H:Pos->Option AB)(_next:Pos):List AV->Option eO
 |  [c,a,b]=>match c with
    |.bool true=>some (.val a)
    |.bool false=>some (.val b)
    |_=>none
 |_=>none
def Sn(_H:Pos->Option AB)(next:Pos)(zero:List AV):List AV->Option eO
 |[]=>some (.bk (.ptr next 0) none none (some (.cells zero 0)))
 |_=>none
def acI(_H:Pos->Option AB)(next:Pos):List AV->Option eO
 |[x]=>some (.bk (.ptr next 0) none none (some (.cells x.cells 0)))
 |_=>none
def Sq(_H:Pos->Option AB)(_next:Pos)(zero:List AV)(places:List (Nat×Nat)):List AV->Option eO
 |  xs=>match cK zero places xs with
    |some cs=>some (.val (.agg cs))
    |none=>none
def xx(_H:Pos->Option AB)(next:Pos)(es len:Nat)(zero:List AV)(places:List Nat):List AV->Option eO
 |  xs=>match cK (bW zero len) (places.map λi=>(i*es,es)) xs with
    |some cs=>some (.bk (.slice next 0 len (some len) es) none none (some (.cells cs 0)))
    |none=>none
def Aa (H :Pos->Option AB)(_next:Pos)(n:Option Nat):List AV->Option eO
 |  [p] =>match p with
    | .ptr b off=>match H b with
      | some (.cells cs _)=>match n with
        | none=>match nth cs off with
          |some v=>some (.val v)
          |none=>none
        | some n=>match cut cs off n with
          |some vs=>some (.val (.agg vs))
          |none=>none
      |_=>none
    | .fp xs i j=>match nth xs i with
      | some cs=>match n with
        | none=>match nth cs j with
          |some v=>some (.val v)
          |none=>none
        | some n=>match cut cs j n with
          |some vs=>some (.val (.agg vs))
          |none=>none
      |none=>none
    |_=>none
 |_=>none
def Mb (H:Pos->Option AB)(_next:Pos)(n:Nat):List AV->Option eO
 |  [p, v]=>match p with
    | .ptr b off=>match H b with
      | some (.cells cs fz)=>
        match Nat.beq v.cells.length n,Nat.ble (off+n) cs.length,Nat.ble fz off,aQ v.cells with
        |true,true,true,true=>some (.bk .undef none (some (b,.cells (aU cs off v.cells) fz)) none)
        |_,_,_,_=>none
      |_=>none
    |_=>none
 |_=>none
def Pr(_H:Pos->Option AB)(_next:Pos):List AV->Option eO
 |  [x]=>match x with
    |.ptr _ _=>some (.val x)
    |.fp _ _ _=>some (.val x)
    |.func _ _ _=>some (.val x)
    |_=>none
 |_=>none
def jH(_H:Pos->Option AB)(_next:Pos)(op:BinOp)(q:iu):List AV->Option eO
 |  [x,y]=>match pV op q x y with
    |some v=>some (.val v)
    |none=>none
 |_=>none
def alG(_H:Pos->Option AB)(_next:Pos)(op:UnOp):List AV->Option eO
 |  [x]=>match unA op x with
    |some v=>some (.val v)
    |none=>none
 |_=>none
def Gx (H:Pos->Option AB)(_next:Pos)(k:asS):List AV->Option eO
 |  [x] =>match k,x with
    |.int k,.int _ n=>some (.val (.int k (ax k n)))
    |.same,.str s=>some (.val (.str s))
    |.ofBytes,.af=>some (.val (.str []))
    | .ofBytes,.slice b off n _ _=>match Nat.beq n 0 with
      |true=>some (.val (.str []))
      | false=>match H b with
        |some (.cells cs _)=>match cut cs off n with
         |some l=>match bytesOf l with
          |some s=>some (.val (.str s))
          |none=>none
         |none=>none
        |_=>none
    |_,_=>none
 |_=>none
def Sr(_H:Pos->Option AB)(_next:Pos)(t:TypeId):List AV->Option eO
 |[x]=>some (.val (.iface t x))
 |_=>none
def HP(_H:Pos->Option AB)(_next:Pos)(f:FuncId)(WV:Nat):List AV->Option eO
 |xs=>some (.val (.func f (xs.take WV) (xs.drop WV)))
def Ss(_H:Pos->Option AB)(next:Pos):List AV->Option eO
 |_=>some (.bk (.map next) none none (some (.map [] 0)))
def l9 (H:Pos->Option AB)(_next:Pos)(pk:PK)(zero:AV)(ok:Bool):List AV->Option eO
 |  [m, k]=>
    match (match m with
      | .qX=>match aho pk k with
        |true=>some none
        |false=>none
      | .map b=>match H b with
        |some (.map es _)=>ic pk k es 0
        |_=>none
      |_=>none)with
    |some (some (_,v))=>some (.val (match ok with|true=>.tuple [v,.bool true]|false=>v))
    |some none=>some (.val (match ok with|true=>.tuple [zero,.bool false]|false=>zero))
    |none=>none
 |_=>none
def yW (H:Pos->Option AB)(_next:Pos)(pk:PK):List AV->Option eO
 |  [m, k,v]=>match m with
    | .map b=>match H b with
      | some (.map es clock)=>match aho pk k,ic pk k es 0 with
        |true,some (some (i,_))=>some (.bk .undef none (some (b,.map (uf k v es i) clock)) none)
        |true,some none=>some (.bk .undef none (some (b,.map (es++[(k,v,clock)]) (clock+1))) none)
        |_,_=>none
      |_=>none
    |_=>none
 |_=>none
def DD(_H:Pos->Option AB)(next:Pos)(es bytes:Nat)(zero:List AV):List AV->Option eO
 |  [l,c]=>match AI l,AI c with
    | some l,some c=>match Nat.ble l c,Nat.ble (bytes*c) 281474976710656,Nat.ble c 9223372036854775807 with
      |true,true,true=>some (.bk (.slice next 0 l (some c) es) none none (some (.cells (bW zero c) 0)))
      |_,_,_=>none
    |_,_=>none
 |_=>none
def WW(_H:Pos->Option AB)(_next:Pos)(lo hi:Bool):List AV->Option eO
 |  x ::bs=>match x,bounds lo hi false bs with
    | .str s,some (l,h,_)=>
      let h:=h.getD s.length
      let l:=l.getD 0
      match Nat.ble l h,Nat.ble h s.length with
      |true,true=>some (.val (.str ((s.take h).drop l)))
      |_,_=>none
    |_,_=>none
 |_=>none
def iZ (_H:Pos->Option AB)(_next:Pos)(es:Nat)(lo hi mx:Bool):List AV->Option eO
 |  x ::bs=>match x,bounds lo hi mx bs with
    | .slice b off len cap es',some (l,h,m)=>
      match Nat.beq es es',Nat.ble (l.getD 0) (h.getD len)with
      | true,true=>match cap,m with
        | some c,some m=>match Nat.ble (h.getD len) m,Nat.ble m c with
          |true,true=>some (.val (.slice b (off+l.getD 0*es) (h.getD len - l.getD 0) (some (m - l.getD 0)) es))
          |_,_=>none
        | some c,none=>match Nat.ble (h.getD len) c with
          |true=>some (.val (.slice b (off+l.getD 0*es) (h.getD len - l.getD 0) (some (c - l.getD 0)) es))
          |false=>none
        | none,some m=>match Nat.ble (h.getD len) m,Nat.ble m len with
          |true,true=>some (.val (.slice b (off+l.getD 0*es) (h.getD len - l.getD 0) (some (m - l.getD 0)) es))
          |_,_=>none
        | none,none=>match Nat.ble (h.getD len) len with
          |true=>some (.val (.slice b (off+l.getD 0*es) (h.getD len - l.getD 0) none es))
          |false=>none
      |_,_=>none
    | .fl xs es',some (l,h,m)=>
      match Nat.beq es es' with
      | true=>match m with
        | some m=>match Nat.beq (l.getD 0) 0,Nat.beq (h.getD xs.length) 0,Nat.beq m 0 with
          |true,true,true=>some (.val (.slice .h 0 0 (some 0) es))
          |_,_,_=>none
        | none=>match Nat.ble (l.getD 0) (h.getD xs.length),Nat.ble (h.getD xs.length) xs.length with
          |true,true=>some (.val (.fl ((xs.take (h.getD xs.length)).drop (l.getD 0)) es))
          |_,_=>none
      |false=>none
    | .af,some (l,h,m)=>match Nat.beq (l.getD 0) 0,Nat.beq (h.getD 0) 0,Nat.beq (m.getD 0) 0 with
        |true,true,true=>some (.val .af)
        |_,_,_=>none
    |_,_=>none
 |_=>none
def WY(_H:Pos->Option AB)(_next:Pos)(off:Nat):List AV->Option eO
 |  [x]=>match x with
    |.ptr b o=>some (.val (.ptr b (o+off)))
    |.fp xs i j=>some (.val (.fp xs i (j+off)))
    |_=>none
 |_=>none
def td (_H:Pos->Option AB)(_next:Pos)(es:Nat)(arr:Option Nat):List AV->Option eO
 |  [x, i]=>match AI i with
    | some i=>match arr,x with
      | none,.slice b off len _ _=>match Nat.blt i len with
        |true=>some (.val (.ptr b (off+i*es)))
        |false=>none
      | none,.fl xs es'=>match Nat.blt i xs.length,Nat.beq es es' with
        |true,true=>some (.val (.fp xs i 0))
        |_,_=>none
      | some n,.ptr b off=>match Nat.blt i n with
        |true=>some (.val (.ptr b (off+i*es)))
        |false=>none
      |_,_=>none
    |none=>none
 |_=>none
def Su (_H:Pos->Option AB)(_next:Pos)(off:Nat)(n:Option Nat):List AV->Option eO
 |  [x] =>match x with
    | .agg cs=>match n with
      | none=>match nth cs off with
        |some v=>some (.val v)
        |none=>none
      |some n=>some (.val (.agg ((cs.drop off).take n)))
    |_=>none
 |_=>none
def ZC(_H:Pos->Option AB)(_next:Pos):List AV->Option eO
 |  [x,i]=>match x,AI i with
    | .str s,some i=>match nth s i with
      |some c=>some (.val (.int .u8 (.ofNat c)))
      |none=>none
    |_,_=>none
 |_=>none
def Lp(_H:Pos->Option AB)(_next:Pos)(i:Nat):List AV->Option eO
 |  [x]=>match x with
    | .tuple vs=>match nth vs i with
      |some v=>some (.val v)
      |none=>none
    |_=>none
 |_=>none
def abA(_H:Pos->Option AB)(_next:Pos)(f:FuncId):List AV->Option eO
 |xs=>some (.call f xs)
def abB(_H:Pos->Option AB)(_next:Pos):List AV->Option eO
 |  x::xs=>match x with
    |.func f first captured=>some (.call f (first++(xs++captured)))
    |_=>none
 |_=>none
def Qz(H:Pos->Option AB)(_next:Pos)(k:LK):List AV->Option eO
 |  [x]=>match k,x with
    |.m,.qX=>some (.val (Ma 0))
    | .m,.map b=>match H b with
      |some (.map es _)=>some (.val (Ma es.length))
      |_=>none
    |.s,.str s=>some (.val (Ma s.length))
    |.l,.af=>some (.val (Ma 0))
    |.l,.slice _ _ n _ _=>some (.val (Ma n))
    |.l,.fl xs _=>some (.val (Ma xs.length))
    |_,_=>none
 |_=>none
def iE (H:  Pos->Option AB)(next:Pos)(es bytes:Nat):List AV->Option eO
 |  [s, x]=> match dV s,dV x with
    | some n,some m=>
      match Nat.ble ((2*(n+m)+768)*bytes) 281474976710656,Nat.ble (n+m) 9223372036854775807 with
      | true,true=>match Nat.beq m 0,s with
        |true,.slice b off n c es'=>some (.val (.slice b off n c es'))
        |true,.fl xs es'=>some (.val (.fl xs es'))
        |true,.af=>some (.val .af)
        |false,.af=>match dF es m H x with
         |some new=>some (.bk (.slice next 0 m none es) none none (some (.cells new 0)))
         |none=>none
        |false,.slice b off n (some c) es'=>
         match Nat.ble (n+m) c with
         |  true=>match H b,dF es m H x with
            |some (.cells cs fz),some new=>match Nat.ble (off+(n+m)*es) cs.length,Nat.ble fz (off+n*es)&&Nat.beq es es',aQ new with
             |true,true,true=>some (.bk (.slice b off (n+m) (some c) es) none (some (b,.cells (aU cs (off+n*es) new) fz)) none)
             |_,_,_=>none
            |_,_=>none
         |  false=>match dF es n H s,dF es m H x with
            |some gW,some new=>some (.bk (.slice next 0 (n+m) none es) none none (some (.cells (gW++new) 0)))
            |_,_=>none
        |false,.slice b off n none es'=>
         match H b,dF es n H s,dF es m H x with
         |  some (.cells _ fz),some gW,some new=>match Nat.ble fz (off+n*es)&&Nat.beq es es',aQ new with
            |true,true=>some (.bk (.slice next 0 (n+m) none es) (some b) none (some (.cells (gW++new) (fz - off))))
            |_,_=>none
         |_,_,_=>none
        |_,_=>none
      |_,_=>none
    |_,_=>none
 |_=>none
def pW (H : Pos->Option AB)(_next:Pos)(es:Nat):List AV->Option eO
 |  [d, x]=>match dV d,dV x with
    | some n,some m=>
      let k:=min m n
      match Nat.beq k 0 with
      | true=>match d with
        |.str _=>none
        |_=>some (.val (Ma 0))
      | false=>match d with
        | .slice b off _ _ _=>match H b,dF es k H x with
          | some (.cells cs fz),some new=>match Nat.ble (off+k*es) cs.length,Nat.ble fz off,aQ new with
            |true,true,true=>some (.bk (Ma k) none (some (b,.cells (aU cs off new) fz)) none)
            |_,_,_=>none
          |_,_=>none
        |_=>none
    |_,_=>none
 |_=>none
def LJ(_H:Pos->Option AB)(_next:Pos):List AV->Option eO
 |  [x,y]=>match x,y with
    |.int k a,.int _ b=>some (.val (.int k (match BQ b a with|true=>b|false=>a)))
    |.str a,.str b=>some (.val (.str (match aO a b||jY a b with|true=>a|false=>b)))
    |_,_=>none
 |_=>none
def LM(_H:Pos->Option AB)(_next:Pos):List AV->Option eO
 |  [x,y]=>match x,y with
    |.int k a,.int _ b=>some (.val (.int k (match BQ a b with|true=>b|false=>a)))
    |.str a,.str b=>some (.val (.str (match aO a b with|true=>b|false=>a)))
    |_,_=>none
 |_=>none
def tD (H:Pos->Option AB)(_next:Pos)(es:Nat)(zero:List AV):List AV->Option eO
 |  [x] =>match x with
    |.af=>some (.val .undef)
    | .slice b off n _ _=>match Nat.beq n 0 with
      |true=>some (.val .undef)
      | false=>match H b with
        |some (.cells cs fz)=>match Nat.ble (off+n*es) cs.length,Nat.ble fz off,aQ (bW zero n)with
         |true,true,true=>some (.bk .undef none (some (b,.cells (aU cs off (bW zero n)) fz)) none)
         |_,_,_=>none
        |_=>none
    |_=>none
 |_=>none
def aG.run(H:Pos->Option AB)(next:Pos):aG->List AV->Option eO
 |.move=>ZB H next
 |.pick=>aed H next
 |.alloc zero=>Sn H next zero
 |.box=>acI H next
 |.build zero places=>Sq H next zero places
 |.buildSlice es len zero places=>xx H next es len zero places
 |.load n=>Aa H next n
 |.store n=>Mb H next n
 |.nilCheck=>Pr H next
 |.bin op q=>jH H next op q
 |.un op=>alG H next op
 |.conv k=>Gx H next k
 |.mkIface t=>Sr H next t
 |.mkFunc f WV=>HP H next f WV
 |.mkMap=>Ss H next
 |.lookup pk zero ok=>l9 H next pk zero ok
 |.mapSet pk=>yW H next pk
 |.mkSlice es bytes zero=>DD H next es bytes zero
 |.sliceS lo hi=>WW H next lo hi
 |.sliceL es lo hi mx=>iZ H next es lo hi mx
 |.fieldA off=>WY H next off
 |.idxA es arr=>td H next es arr
 |.field off n=>Su H next off n
 |.idxS=>ZC H next
 |.extract i=>Lp H next i
 |.callF f=>abA H next f
 |.callV=>abB H next
 |.lenB k=>Qz H next k
 |.append es bytes=>iE H next es bytes
 |.copyB es=>pW H next es
 |.minB=>LJ H next
 |.maxB=>LM H next
 |.clearS es zero=>tD H next es zero
 |.capB=>λ_=>none
 |.bad=>λ_=>none
inductive iy where
 |t (p:Pos)
 |c (v:AV)
 deriving Inhabited
inductive Cls where
 |pure
 |read
 |new
 |bk
 deriving Inhabited
structure bV where
 dst:Option Pos
 k:aG
 xs:List iy
 guard:Option (Pos×Bool)
 cls:Cls
 cE:Nat
 deriving Inhabited
inductive AC where
 |skip
 |region (ops:List bV)
 |draw (ops:List (Nat×bV))
 |seq (a b:AC)
 |cond (x:iy) (a b:AC)
 |block (id:Nat) (a:AC)
 |loop (a:AC)
 |exit (id:Nat)
 |ret
 deriving Inhabited
inductive QC where
 |tmp (p:Pos)
 |cell (p:Pos) (n:Option Nat)
 deriving Inhabited
structure dR where
 code:AC
 nparams:Nat
 results:List QC
 deriving Inhabited
abbrev Fr:=T AV
structure St where
 heap:T AB
 next:Pos
 deriving Inhabited
inductive o6 where
 |normal
 |exit (id:Nat)
 |ret
 deriving Inhabited
def HQ(fr:Fr):iy->Option AV
 |.t p=>fr.get p
 |.c v=>some v
def gu(fr:Fr):List iy->Option (List AV)
 |[]=>some []
 |  x::xs=>match HQ fr x with
    |some v=>match gu fr xs with
     |some vs=>some (v::vs)
     |none=>none
    |none=>none
def cN(fr:Fr):Option (Pos×Bool)->Option Bool
 |none=>some true
 |  some (p,want)=>match fr.get p with
    |some (.bool b)=>some (b==want)
    |some (.tuple _)=>some false
    |_=>none
def eF(fr:Fr)(d:Option Pos)(v:AV):Fr:=match d with
 |some p=>fr.put (some v) p
 |none=>fr
def Pt(o:Option (Pos×AB))(h:T AB):T AB:=match o with
 |some (b,x)=>h.put (some x) b
 |none=>h
def Mc(o:Option Pos)(h:T AB):T AB:=match o with
 |some b=>h.put none b
 |none=>h
def St.bk(st:St)(del:Option Pos)(set:Option (Pos×AB))(new:Option AB):St:=
 match new with
 |some x=>{ heap:=T.put (some x) st.next (Pt set (Mc del st.heap)),next:=st.next.succ }
 |none=>{ heap:=Pt set (Mc del st.heap),next:=st.next }
abbrev aj:=FuncId->List AV->St->Option (AV×St)
def cJ(call:aj)(k:aG)(xs:List AV)(st:St):Option (AV×St):=
 match k.run (λb=>st.heap.get b) st.next xs with
 |some (.val v)=>some (v,st)
 |some (.bk v del set new)=>some (v,st.bk del set new)
 |some (.call f args)=>call f args st
 |none=>none
def mV (call:aj):List bV->Fr->St->Option (Fr×St)
 |[],fr,st=>some (fr,st)
 |  o::os,fr,st=>match cN fr o.guard with
    |some true=>match gu fr o.xs with
     |  some xs=>match cJ call o.k xs st with
        |some (v,st')=>mV call os (eF fr o.dst v) st'
        |none=>none
     |none=>none
    |some false=>mV call os (eF fr o.dst .undef) st
    |none=>none
def fY:AV->AV->Bool
 |.bool a,.bool b=>a==b
 |.int k a,.int k' b=>L9 k k'&&BP a b
 |.str a,.str b=>jY a b
 |.jg,.jg=>true
 |.ptr b o,.ptr b' o'=>Pos.beq b b'&&Nat.beq o o'
 |.af,.af=>true
 |.slice b o l none es,.slice b' o' l' none es'=>Pos.beq b b'&&Nat.beq o o'&&Nat.beq l l'&&Nat.beq es es'
 |.slice b o l (some c) es,.slice b' o' l' (some c') es'=>Pos.beq b b'&&Nat.beq o o'&&Nat.beq l l'&&Nat.beq c c'&&Nat.beq es es'
 |.qX,.qX=>true
 |.map b,.map b'=>Pos.beq b b'
 |.jX,.jX=>true
 | .B9,.B9=>true
 |_,_=>false
def Ca:List AV->List AV->Bool
 |[],[]=>true
 |a::x,b::y=>fY a b&&Ca x y
 |_,_=>false
def Oc(f:AV->AV->Bool):List AV->List AV->Bool
 |[],[]=>true
 |a::x,b::y=>f a b&&Oc f x y
 |_,_=>false
def CH(f:AV->AV->Bool):List (List AV)->List (List AV)->Bool
 |[],[]=>true
 |a::x,b::y=>Oc f a b&&CH f x y
 |_,_=>false
def Od:Nat->AV->AV->Bool
 |d+1,.fl a n,.fl a' n'=>CH (Od d) a a'&&Nat.beq n n'
 |_,a,b=>fY a b
def nK:AV->AV->Bool
 |.func f a b,.func f' a' b'=>Nat.beq f f'&&Ca a a'&&Ca b b'
 |.fl a n,.fl a' n'=>Od 3 (.fl a n) (.fl a' n')
 |a,b=>fY a b
def ug:List AV->List AV->Bool
 |[],[]=>true
 |a::x,b::y=>nK a b&&ug x y
 |_,_=>false
def eZ:AV->AV->Bool
 |.agg l,.agg l'=>ug l l'
 |.tuple l,.tuple l'=>ug l l'
 |a,b=>nK a b
inductive RC where
 |pure
 |new (id:Pos) (aM:AB)
 |bk (base:T AB) (h:T AB)
 deriving Inhabited
structure Rec where
 idx:Nat
 o:bV
 v:AV
 c:RC
 nx:Pos
 deriving Inhabited
def snap(cE:Nat)(h:T AB):List Rec->T AB
 |[]=>h
 |  r ::rs=>match r.c with
    | .new id aM=>match cE.testBit r.idx with
      |true=>(snap cE h rs).put (some aM) id
      |false=>snap cE h rs
    |.bk _ _=>h
    |.pure=>snap cE h rs
def nZ:List (Pos×AB)->T AB->T AB
 |[],h=>h
 |(id,aM)::l,h=>(nZ l h).put (some aM) id
def pL(k:aG)(xs:List AV)(v:AV)(h:T AB):Bool:=
 match k.run (λb=>h.get b) .h xs with
 |some (.val u)=>eZ u v
 |_=>false
def oJ(cE:Nat)(k:aG)(xs:List AV)(v:AV):List (Pos×AB)->List Rec->Bool
 |_,[]=>true
 |  up,r::rs=>match r.c with
    | .new id aM=>match cE.testBit r.idx with
      |true=>oJ cE k xs v ((id,aM)::up) rs
      |false=>oJ cE k xs v up rs
    | .bk base _=>match cE.testBit r.idx with
      |true=>true
      |false=>pL k xs v (nZ up (snap cE base rs))&&oJ cE k xs v up rs
    |.pure=>oJ cE k xs v up rs
def eD (call:aj):List (Nat×bV)->List Rec->T AB->Fr->St->Option (Fr×St)
 |[],_,_,fr,st=>some (fr,st)
 |  (j, o)::os,recs,base,fr,st=>match cN fr o.guard with
    |some false=>eD call os ({ idx:=j,o:=o,v:= .undef,c:= .pure,nx:=st.next }::recs) base (eF fr o.dst .undef) st
    | some true=>match gu fr o.xs with
      |none=>none
      | some xs=>match o.cls with
        | .new=>match o.k.run (λ_=>none) st.next xs with
          |some (.bk v none none (some aM))=>
           eD call os ({ idx:=j,o:=o,v:=v,c:= .new st.next aM,nx:=st.next.succ }::recs) base (eF fr o.dst v) { heap:=st.heap.put (some aM) st.next,next:=st.next.succ }
          |_=>none
        | .bk=>match cJ call o.k xs st with
          |some (v,st')=>eD call os ({ idx:=j,o:=o,v:=v,c:= .bk base st'.heap,nx:=st'.next }::recs) st'.heap (eF fr o.dst v) st'
          |none=>none
        | _=>match o.k.run (λ_=>none) .h xs with
          |some (.val v)=>eD call os ({ idx:=j,o:=o,v:=v,c:= .pure,nx:=st.next }::recs) base (eF fr o.dst v) st
          |_=>match o.k.run (λb=>(snap o.cE base recs).get b) .h xs with
           |some (.val v)=>match oJ o.cE o.k xs v [] recs with
            |true=>eD call os ({ idx:=j,o:=o,v:=v,c:= .pure,nx:=st.next }::recs) base (eF fr o.dst v) st
            |false=>none
           |_=>none
    |none=>none
def bD(call:aj)(ih:AC->Fr->St->Option (o6×Fr×St)):AC->Fr->St->Option (o6×Fr×St)
 |.skip,fr,st=>some (.normal,fr,st)
 |  .region ops,fr,st=>match mV call ops fr st with
    |some (fr,st)=>some (.normal,fr,st)
    |none=>none
 |  .draw ops,fr,st=>match eD call ops [] st.heap fr st with
    |some (fr,st)=>some (.normal,fr,st)
    |none=>none
 |  .seq a b,fr,st=>match ih a fr st with
    |some (.normal,fr,st)=>ih b fr st
    |r=>r
 |  .cond x a b,fr,st=>match HQ fr x with
    |some (.bool true)=>ih a fr st
    |some (.bool false)=>ih b fr st
    |_=>none
 |  .block id a,fr,st=>match ih a fr st with
    |some (.exit yx,fr,st)=>match Nat.beq yx id with
     |true=>some (.normal,fr,st)
     |false=>some (.exit yx,fr,st)
    |r=>r
 |  .loop a,fr,st=>match ih a fr st with
    |some (.normal,fr,st)=>ih (.loop a) fr st
    |r=>r
 |.exit id,fr,st=>some (.exit id,fr,st)
 |.ret,fr,st=>some (.ret,fr,st)
def exec(call:aj):Nat->AC->Fr->St->Option (o6×Fr×St)
 |0=>λ_ _ _=>none
 |n+1=>bD call (exec call n)
def params:Nat->List AV->Fr->Fr
 |_,[],fr=>fr
 |i,v::vs,fr=>params (i+1) vs (fr.put (some v) (key i))
def ij (H:Pos->Option AB)(fr:Fr):List QC->Option (List AV)
 |[]=>some []
 |  .tmp p::rs=>match fr.get p with
    |some v=>match ij H fr rs with
     |some vs=>some (v::vs)
     |none=>none
    |none=>none
 |  .cell p n::rs=>match fr.get p with
    |some q=>match (aG.load n).run H .h [q]with
     |  some (.val v)=>match ij H fr rs with
        |some vs=>some (v::vs)
        |none=>none
     |_=>none
    |none=>none
def Ab:List AV->AV
 |[v]=>v
 |vs=>.tuple vs
abbrev fc:=FuncId->Option (List AV->St->Option (AV×St))
def uJ (O:fc)(G:T dR)(m:Nat):Nat->aj
 |0=>λ_ _ _=>none
 |  d+  1=>λf args st=>match O f with
    |some s=>s args st
    |none=>match G.get (key f)with
     |  some F=>match Nat.beq args.length F.nparams with
        |true=>match exec (uJ O G m d) m F.code (params 0 args .e) st with
         |some (.normal,fr,st')=>match ij (λb=>st'.heap.get b) fr F.results with
          |some vs=>some (Ab vs,st')
          |none=>none
         |some (.ret,fr,st')=>match ij (λb=>st'.heap.get b) fr F.results with
          |some vs=>some (Ab vs,st')
          |none=>none
         |_=>none
        |false=>none
     |none=>none
inductive TK where
 |bool
 |int (k:IntKind)
 |string
 |ptr (elem:Nat)
 |slice (elem:Nat)
 |array (n elem:Nat)
 |map (k e:Nat)
 |struct (fs:List (Nat×Nat×Bool))
 |func
 |iface
 |upt
 |other
 deriving Inhabited
structure TI where
 k:TK
 size:Nat
 bytes:Nat
 zero:Option (List AV)
 BR:Bool:=false
 deriving Inhabited
def Sv:Value->Option AV
 |.bool b=>some (.bool b)
 |.int k n=>some (.int k n)
 |.string s=>some (.str (s.data.toList.map UInt8.toNat))
 |.pointer none=>some .jg
 |.slice none 0 0=>some .af
 |.map none=>some .qX
 |.func (.func f) ⟨[]⟩ ⟨[]⟩=>some (.func f [] [])
 |.nilFunc=>some .jX
 |.nilIface=>some .B9
 |_=>none
def tE:List Value->Option (List AV)
 |[]=>some []
 |  v::vs=>match Sv v,tE vs with
    |some a,some as=>some (a::as)
    |_,_=>none
def aee:Value->Option AV
 |  .agg cs=>match tE cs.toList with
    |some l=>some (.agg l)
    |none=>none
 |v=>Sv v
def uP:Operand->Option iy
 |.tmp t=>some (.t (key t))
 |  .const v=>match aee v with
    |some a=>some (.c a)
    |none=>none
 |.func f=>some (.c (.func f [] []))
 |.global _=>none
def mW:List Operand->Option (List iy)
 |[]=>some []
 |  x::xs=>match uP x,mW xs with
    |some a,some as=>some (a::as)
    |_,_=>none
def TK.isAgg:TK->Bool
 |.struct _=>true
 |.array _ _=>true
 |_=>false
abbrev TT:=T TI
def DE(tt:TT)(t:Nat):Option iu:=match tt.get (key t)with
 |  some ti=>match ti.k with
    |.bool=>some .bool
    |.int _=>some .num
    |.string=>some .num
    |.ptr _=>some .ptr
    |.slice _=>some .slice
    |.map _ _=>some .map
    |.func=>some .func
    |.iface=>some .iface
    | .struct fs=>match ti.BR,fields fs with
      |true,some l=>some (.struct l)
      |_,_=>none
    |_=>none
 |none=>none
where
 fields:List (Nat×Nat×Bool)->Option (List (Nat×PK))
  |[]=>some []
  |(off,t,named)::fs=>match named,tt.get (key t),fields fs with
   |true,some ti,some l=>match ti.k with
    |.bool=>some ((off,.b)::l)
    |.int _=>some ((off,.i)::l)
    |.string=>some ((off,.s)::l)
    |_=>none
   |_,_,_=>none
def DF(ti:TI):Option Nat:=match ti.k.isAgg with
 |true=>some ti.size
 |false=>none
def DG:Option Operand->List Operand
 |some x=>[x]
 |none=>[]
def kG (tt:TT):Op->Option (aG×List iy×Cls)
 |  .move x=>match uP x with
    |some a=>some (.move,[a],.pure)
    |none=>none
 |  .assign x=>match uP x with
    |some a=>some (.move,[a],.pure)
    |none=>none
 |  .pick c a b=>match mW [c,a,b]with
    |some l=>some (.pick,l,.pure)
    |none=>none
 |  .alloc t=>match tt.get (key t)with
    |some ti=>match ti.zero with
     |some z=>some (.alloc z,[],.new)
     |none=>none
    |none=>none
 |  .box _ x=>match uP x with
    |some a=>some (.box,[a],.new)
    |none=>none
 |  .build t ps=>match tt.get (key t),mW (ps.toList.map (·.2))with
    |some ti,some l=>match ti.k,ti.zero with
     |  .struct fs,some z=>match places tt fs (ps.toList.map (·.1)),ag4 tt fs with
        |some p,true=>some (.build z p,l,.pure)
        |_,_=>none
     |  .array _ e,some z=>match tt.get (key e)with
        |some te=>some (.build z (ps.toList.map λx=>(x.1*te.size,te.size)),l,.pure)
        |none=>none
     |_,_=>none
    |_,_=>none
 |  .buildSlice t len ps=>match tt.get (key t),mW (ps.toList.map (·.2))with
    |some ti,some l=>match ti.k with
     |  .slice e=>match tt.get (key e)with
        | some te=>match te.zero,Nat.ble (len*te.size) 16777216 with
          |some z,true=>some (.buildSlice te.size len z (ps.toList.map (·.1)),l,.new)
          |_,_=>none
        |none=>none
     |_=>none
    |_,_=>none
 |  .load t a=>match tt.get (key t),uP a with
    |some ti,some a=>some (.load (DF ti),[a],.read)
    |_,_=>none
 |  .store t a x=>match tt.get (key t),mW [a,x]with
    |some ti,some l=>some (.store ti.size,l,.bk)
    |_,_=>none
 |  .nilCheck x=>match uP x with
    |some a=>some (.nilCheck,[a],.pure)
    |none=>none
 |  .binOp op t x y _=>match DE tt t,mW [x,y]with
    |some q,some l=>some (.bin op q,l,.pure)
    |none,some l=>match op with
     |.eql=>none
     |.neq=>none
     |_=>some (.bin op .num,l,.pure)
    |_,_=>none
 |  .unOp op _ x=>match uP x with
    |some a=>some (.un op,[a],.pure)
    |none=>none
 |  .convert src dst x=>match tt.get (key src),tt.get (key dst),uP x with
    |some s,some d,some a=>match s.k,d.k with
     |.int _,.int k=>some (.conv (.int k),[a],.pure)
     |.string,.string=>some (.conv .same,[a],.pure)
     |  .slice e,.string=>match tt.get (key e)with
        | some te=>match te.k with
          |.int .u8=>some (.conv .ofBytes,[a],.read)
          |_=>none
        |none=>none
     |_,_=>none
    |_,_,_=>none
 |  .makeInterface t x=>match tt.get (key t),uP x with
    |some ti,some a=>match ti.k with
     |.iface=>none
     |.other=>none
     |_=>some (.mkIface t,[a],.pure)
    |_,_=>none
 |  .makeFunc fn first captured=>match fn,mW (first.toList++captured.toList)with
    |.func f,some l=>some (.mkFunc f first.size,l,.pure)
    |_,_=>none
 |  .makeMap t r=>match tt.get (key t)with
    |some ti=>match ti.k,r with
     |.map _ _,none=>some (.mkMap,[],.new)
     |.map _ _,some (.const (.int _ _))=>some (.mkMap,[],.new)
     |_,_=>none
    |none=>none
 |  .makeSlice t l c=>match tt.get (key t),mW [l,c]with
    |some ti,some xs=>match ti.k with
     |  .slice e=>match tt.get (key e)with
        | some te=>match te.zero with
          |some z=>some (.mkSlice te.size te.bytes z,xs,.new)
          |none=>none
        |none=>none
     |_=>none
    |_,_=>none
 |  .slice t x lo hi mx=>match tt.get (key t),mW ([x]++DG lo++DG hi++DG mx)with
    |some ti,some xs=>match ti.k with
     |  .string=>match mx with
        |none=>some (.sliceS lo.isSome hi.isSome,xs,.pure)
        |some _=>none
     |  .slice e=>match tt.get (key e)with
        |some te=>some (.sliceL te.size lo.isSome hi.isSome mx.isSome,xs,.pure)
        |none=>none
     |_=>none
    |_,_=>none
 |  .fieldAddr t x f=>match tt.get (key t),uP x with
    |some ti,some a=>match ti.k with
     |  .struct fs=>match nth fs f with
        | some (off,ft,_)=>match tt.get (key ft)with
          |some fi=>match Nat.beq fi.size 0 with
           |false=>some (.fieldA off,[a],.pure)
           |true=>none
          |none=>none
        |none=>none
     |_=>none
    |_,_=>none
 |  .field t x f=>match tt.get (key t),uP x with
    |some ti,some a=>match ti.k with
     |  .struct fs=>match nth fs f with
        | some (off,ft,_)=>match tt.get (key ft)with
          |some fi=>some (.field off (DF fi),[a],.pure)
          |none=>none
        |none=>none
     |_=>none
    |_,_=>none
 |  .indexAddr t x ix=>match tt.get (key t),mW [x,ix]with
    |some ti,some l=>match ti.k with
     |  .slice e=>match tt.get (key e)with
        |some te=>some (.idxA te.size none,l,.pure)
        |none=>none
     |  .array n e=>match tt.get (key e)with
        |some te=>some (.idxA te.size (some n),l,.pure)
        |none=>none
     |_=>none
    |_,_=>none
 |  .index t x ix=>match tt.get (key t),mW [x,ix]with
    |some ti,some l=>match ti.k with
     |.string=>some (.idxS,l,.pure)
     |_=>none
    |_,_=>none
 |  .lookup t x ix ok=>match tt.get (key t),mW [x,ix]with
    |some ti,some l=>match ti.k with
     |  .map k e=>match tt.get (key k),tt.get (key e)with
        | some tk,some te=>match tk.k,te.zero with
          |.int _,some z=>some (.lookup .i (QD te z) ok,l,.read)
          |.string,some z=>some (.lookup .s (QD te z) ok,l,.read)
          |.bool,some z=>some (.lookup .b (QD te z) ok,l,.read)
          |_,_=>none
        |_,_=>none
     |_=>none
    |_,_=>none
 |.mapUpdate t m k v=>alH tt t m k v
 |.insert t m k v=>alH tt t m k v
 |  .extract x i=>match uP x with
    |some a=>some (.extract i,[a],.pure)
    |none=>none
 |  .call c=>match mW c.args.toList with
    |none=>none
    |some xs=>match c.callee with
     |.value (.func f)=>some (.callF f,xs,.bk)
     |  .value x=>match uP x with
        |some a=>some (.callV,a::xs,.bk)
        |none=>none
     |.invoke _ _=>none
     |  .builtin b=>match b with
        | .len=>match c.argTypes.toList,xs with
          |t::_,[_]=>match tt.get (key t)with
           |some ti=>match ti.k with
            |.string=>some (.lenB .s,xs,.pure)
            |.slice _=>some (.lenB .l,xs,.pure)
            |.map _ _=>some (.lenB .m,xs,.read)
            |_=>none
           |none=>none
          |_,_=>none
        | .append=>match c.argTypes.toList with
          |t::t2::_=>match tt.get (key t),tt.get (key t2)with
           |some ti,some t2i=>match ti.k,t2i.k with
            |_,.int _=>none
            |.slice _,.string=>none
            |  .slice e,_=>match tt.get (key e)with
               | some te=>match te.zero with
                 |some _=>some (.append te.size te.bytes,xs,.bk)
                 |none=>none
               |none=>none
            |_,_=>none
           |_,_=>none
          |_=>none
        | .copy=>match c.argTypes.toList with
          |t::_=>match tt.get (key t)with
           |some ti=>match ti.k with
            |  .slice e=>match tt.get (key e)with
               |some te=>some (.copyB te.size,xs,.bk)
               |none=>none
            |_=>none
           |none=>none
          |_=>none
        | .min=>match xs with
          |[_,_]=>some (.minB,xs,.pure)
          |_=>none
        | .max=>match xs with
          |[_,_]=>some (.maxB,xs,.pure)
          |_=>none
        | .clear=>match c.argTypes.toList with
          |t::_=>match tt.get (key t)with
           |some ti=>match ti.k with
            |  .slice e=>match tt.get (key e)with
               | some te=>match te.zero with
                 |some z=>some (.clearS te.size z,xs,.bk)
                 |none=>none
               |none=>none
            |_=>none
           |none=>none
          |_=>none
        |_=>none
 |_=>none
where
 ag4 (tt:TT):List (Nat×Nat×Bool)->Bool
  |[]=>true
  |  (_,t,_)::l=>match tt.get (key t)with
     |some _=>ag4 tt l
     |none=>false
 places (tt:TT) (fs:List (Nat×Nat×Bool)):List Nat->Option (List (Nat×Nat))
  |[]=>some []
  |  i ::is=>match nth fs i,places tt fs is with
     | some (off,t,_),some l=>match tt.get (key t)with
       |some ti=>some ((off,ti.size)::l)
       |none=>none
     |_,_=>none
 QD (te:TI) (z:List AV):AV:=match te.k.isAgg with
  |true=>.agg z
  |  false=>match z with
     |[v]=>v
     |_=>.agg z
 alH (tt:TT) (t:Nat) (m k v:Operand):Option (aG×List iy×Cls):=
  match tt.get (key t),mW [m,k,v]with
  |  some ti,some l=>match ti.k with
     | .map kt _=>match tt.get (key kt)with
       |some tk=>match tk.k with
        |.int _=>some (.mapSet .i,l,.bk)
        |.string=>some (.mapSet .s,l,.bk)
        |.bool=>some (.mapSet .b,l,.bk)
        |_=>none
       |none=>none
     |_=>none
  |_,_=>none
def acJ(ops:Array Oper):Option (Nat×Bool)->Option (Option (Pos×Bool))
 |none=>some none
 |  some (j,b)=>match ops[j]? with
    |some o=>match o.dst with
     |some d=>some (some (key d,b))
     |none=>none
    |none=>none
def ahp:List Oper->List Nat->List Nat
 |[],acc=>acc
 |o::os,acc=>ahp os (acc++[o.after.toList.foldl (λs e=>match Region.binds .any e with
   |true=>s ||| 2 ^ e.on ||| (nth acc e.on).getD 0
   |false=>s) 0])
def uQ(tt:TT)(nt:Nat)(ops:Array Oper):List Oper->List Nat->Option (List bV)
 |[],_=>some []
 |  o::os,bs=>match acJ ops o.guard,uQ tt nt ops os bs.tail,asT nt o.dst with
    |some g,some l,true=>match kG tt o.op with
     |some (k,xs,cls)=>some ({ dst:=o.dst.map key,k:=k,xs:=xs,guard:=g,cls:=cls,cE:=bs.headD 0 }::l)
     |none=>some ({ dst:=o.dst.map key,k:= .bad,xs:=[],guard:=g,cls:= .bk,cE:=bs.headD 0 }::l)
    |_,_,_=>none
where
 asT (nt:Nat):Option Tmp->Bool
  |none=>true
  |some d=>Nat.blt d nt
def bV.looks(o:bV):List Pos:=
 (match o.guard with|some (p,_)=>[p]|none=>[])++o.xs.filterMap λ|.t p=>some p|.c _=>none
def QE(p:Pos):List Pos->Bool
 |[]=>false
 |q::l=>Pos.beq p q||QE p l
def WZ(a b:bV):Bool:=
 (match a.dst with
  |some d=> !QE d b.looks&&(match b.dst with|some d'=> !Pos.beq d d'|none=>true)
  |none=>true)&&
 (match b.dst with
  |some d=> !QE d a.looks
  |none=>true)
def BS:List (Nat×bV)->List (Nat×bV)->List (Nat×bV)
 |[],held=>held
 |  (i,o)::l,held=>match o.cls with
    |.bk=>held.filter (λx=>o.cE.testBit x.1)++(i,o)::BS l (held.filter λx=> !o.cE.testBit x.1)
    |_=>BS l (held++[(i,o)])
def Md:Nat->List bV->List (Nat×bV)
 |_,[]=>[]
 |i,o::os=>(i,o)::Md (i+1) os
def QF(m:Nat):Nat->List (Nat×bV)->Bool
 |seen,[]=>Nat.beq seen (2 ^ m - 1)
 |  seen,(i,o)::l=>Nat.blt i m&& !seen.testBit i&&Nat.beq (o.cE &&& seen) o.cE&&(match o.cls with|.bk=>Nat.beq o.cE seen|_=>true)&&
    (l.all λx=>x.2.cE.testBit i||WZ o x.2)&&QF m (seen ||| 2 ^ i) l
def v8 (tt:TT)(nt:Nat):Code->Option AC
 |.skip=>some .skip
 |  .region _ ops draw=>match uQ tt nt ops ops.toList (ahp ops.toList [])with
    |none=>none
    |some l=>match draw with
     |false=>some (.region l)
     |  true=>match QF l.length 0 (BS (Md 0 l) [])with
        |true=>some (.draw (BS (Md 0 l) []))
        |false=>none
 |  .seq a b=>match v8 tt nt a,v8 tt nt b with
    |some a,some b=>some (.seq a b)
    |_,_=>none
 |  .cond c a b=>match uP c,v8 tt nt a,v8 tt nt b with
    |some c,some a,some b=>some (.cond c a b)
    |_,_,_=>none
 |  .block id a=>match v8 tt nt a with
    |some a=>some (.block id a)
    |none=>none
 |  .loop a=>match v8 tt nt a with
    |some a=>some (.loop a)
    |none=>none
 |.exit id=>some (.exit id)
 |.ret=>some .ret
 |.refuse _=>some (.region [{ dst:=none,k:= .bad,xs:=[],guard:=none,cls:= .bk,cE:=0 }])
 |_=>none
def qY(tt:TT):List ResultVar->Option (List QC)
 |[]=>some []
 |  .tmp t::rs=>match qY tt rs with
    |some l=>some (.tmp (key t)::l)
    |none=>none
 |  .cell a t::rs=>match tt.get (key t),qY tt rs with
    |some ti,some l=>some (.cell (key a) (DF ti)::l)
    |_,_=>none
def alI(tt:TT)(f:Func):Option dR:=match f.body with
 |  some c=>match v8 tt f.ntmps c,qY tt f.results.toList,Nat.ble (f.params.size+f.nfree) f.ntmps with
    |some a,some rs,true=>some { code:=a,nparams:=f.params.size+f.nfree,results:=rs }
    |_,_,_=>none
 |none=>none
structure Loc where
 aM:Nat
 base:Nat
 size:Nat
abbrev Cells:=Addr->Option Value
inductive aC(ρ:Pos->Loc)(n:Nat)(C:Cells):AV->Value->Prop where
 |bool (b:Bool):aC ρ n C (.bool b) (.bool b)
 |int (k:IntKind) (i:Int):aC ρ n C (.int k i) (.int k i)
 |str (s:List Nat) (bs:ByteArray) (h:bs.data.toList.map UInt8.toNat=s):aC ρ n C (.str s) (.string bs)
 |jg:aC ρ n C .jg (.pointer none)
 |ptr (b:Pos) (off:Nat) (h:b.toNat<n):aC ρ n C (.ptr b off) (.pointer (some ⟨(ρ b).aM,(ρ b).base+off,none⟩))
 |fp (xs:List (List AV)) (i j es:Nat) (aM base:Nat) (cell:Nat->Nat->Value)
  (hl:∀(i:Nat)(cs:List AV),xs[i]? =some cs->cs.length=es)
  (hc:∀(i j:Nat)(cs:List AV)(v:AV),xs[i]? =some cs->cs[j]? =some v->C ⟨aM,base+i*es+j,none⟩=some (cell i j))
  (hv:∀(i j:Nat)(cs:List AV)(v:AV),xs[i]? =some cs->cs[j]? =some v->aC ρ n C v (cell i j)):
  aC ρ n C (.fp xs i j) (.pointer (some ⟨aM,base+i*es+j,none⟩))
 |af:aC ρ n C .af (.slice none 0 0)
 |slice (b:Pos) (off len:Nat) (cap:Option Nat) (es br:Nat) (a:Addr) (hl:len<=br) (hc:∀c,cap=some c->c=br)
  (ha:br≠0->b.toNat<n/\a=⟨(ρ b).aM,(ρ b).base+off,none⟩/\(ρ b).base+off+br*es<=(ρ b).size)
  (hk:cap=none->b.toNat<n):
  aC ρ n C (.slice b off len cap es) (.slice (some a) len br)
 |fl (xs:List (List AV)) (es br:Nat) (a:Addr) (cell:Nat->Nat->Value) (hl:xs.length<=br)
  (hs:xs≠[]->a.spot=none)
  (dN:∀(i:Nat)(cs:List AV),xs[i]? =some cs->cs.length=es)
  (hc:∀(i j:Nat)(cs:List AV)(v:AV),xs[i]? =some cs->cs[j]? =some v->C ⟨a.block,a.off+i*es+j,none⟩=some (cell i j))
  (hv:∀(i j:Nat)(cs:List AV)(v:AV),xs[i]? =some cs->cs[j]? =some v->aC ρ n C v (cell i j)):
  aC ρ n C (.fl xs es) (.slice (some a) xs.length br)
 |qX:aC ρ n C .qX (.map none)
 |map (b:Pos) (h:b.toNat<n):aC ρ n C (.map b) (.map (some (ρ b).aM))
 |func (f:FuncId) (x y:List AV) (x' y':Array Value) (hx:x.length=x'.size) (hy:y.length=y'.size)
  (su:∀(i:Nat)(v:AV)(v':Value),x[i]? =some v->x'[i]? =some v'->aC ρ n C v v') (Ao:∀(i:Nat)(v:AV)(v':Value),y[i]? =some v->y'[i]? =some v'->aC ρ n C v v'):
  aC ρ n C (.func f x y) (.func (.func f) x' y')
 |jX:aC ρ n C .jX .nilFunc
 |B9:aC ρ n C .B9 .nilIface
 |iface (t:TypeId) (v:AV) (x:Value) (h:aC ρ n C v x):aC ρ n C (.iface t v) (.iface t x)
 |agg (l:List AV) (cs:Array Value) (hl:l.length=cs.size) (h:∀(i:Nat)(v:AV)(v':Value),l[i]? =some v->cs[i]? =some v'->aC ρ n C v v'):
  aC ρ n C (.agg l) (.agg cs)
 |tuple (l:List AV) (cs:Array Value) (hl:l.length=cs.size) (h:∀(i:Nat)(v:AV)(v':Value),l[i]? =some v->cs[i]? =some v'->aC ρ n C v v'):
  aC ρ n C (.tuple l) (.tuple cs)
theorem aC.mono{ρ ρ':Pos->Loc}{n n':Nat}{C:Cells}{v:AV}{x:Value}(h:aC ρ n C v x)
  (bF:∀b:Pos,b.toNat<n->ρ' b=ρ b) (hn:n<=n'):aC ρ' n' C v x:=by
 induction h with
 |bool b=>exact .bool b
 |int k i=>exact .int k i
 |str s bs h=>exact .str s bs h
 |jg=>exact .jg
 |ptr b off h=>rw[<-bF b h];exact .ptr b off (by omega)
 |fp xs i j es aM base cell hl hc _ ih=>exact .fp xs i j es aM base cell hl hc ih
 |af=>exact .af
 |slice b off len cap es br a hl hc ha hk=>
  refine .slice b off len cap es br a hl hc (λh0=> ?_) (λh0=>by have:=hk h0;omega);obtain⟨h1,h2,h3⟩:=ha h0;rw[bF b h1];exact⟨by omega,h2,h3⟩
 |fl xs es br a cell hl hs dN hc _ ih=>exact .fl xs es br a cell hl hs dN hc ih
 |qX=>exact .qX
 |map b h=>rw[<-bF b h];exact .map b (by omega)
 |func f x y x' y' hx hy _ _ ih1 ih2=>exact .func f x y x' y' hx hy ih1 ih2
 |jX=>exact .jX
 |B9=>exact .B9
 |iface t v x _ ih=>exact .iface t v x ih
 |agg l cs hl _ ih=>exact .agg l cs hl ih
 |tuple l cs hl _ ih=>exact .tuple l cs hl ih
def aK(ρ:Pos->Loc)(n:Nat)(C:Cells)(l:List AV)(xs:List Value):Prop:=
 l.length=xs.length/\∀(i:Nat)(v:AV)(x:Value),l[i]? =some v->xs[i]? =some x->aC ρ n C v x
section
variable{ρ ρ':Pos->Loc}{n n':Nat}{C:Cells}
theorem aK.mono{l:List AV}{xs:List Value}(h:aK ρ n C l xs)(bF:∀b:Pos,b.toNat<n->ρ' b=ρ b)(hn:n<=n'):
 aK ρ' n' C l xs:=⟨h.1,λi v x hv hx=>(h.2 i v x hv hx).mono bF hn⟩
theorem aK.nil:aK ρ n C [] []:=⟨rfl,λ_ _ _ h=>by simp at h⟩
theorem aK.cons{v:AV}{x:Value}{l:List AV}{xs:List Value}(h:aC ρ n C v x)(hs:aK ρ n C l xs):aK ρ n C (v::l) (x::xs):=
 ⟨by simp[hs.1],λi u y hu hy=>by
  cases i with
  |zero=>simp at hu hy;subst hu;subst hy;exact h
  |succ i=>simp at hu hy;exact hs.2 i u y hu hy⟩
theorem aK.cons_inv{v:AV}{l:List AV}{xs:List Value}(h:aK ρ n C (v::l) xs):∃x Bi,xs=x::Bi/\aC ρ n C v x/\aK ρ n C l Bi:=by
 cases xs with
 |nil=>have:=h.1;simp at this
 |cons x Bi=>
  exact⟨x,Bi,rfl,h.2 0 v x rfl rfl,by have:=h.1;simpa using this,λi u y hu hy=>h.2 (i+1) u y (by simpa using hu) (by simpa using hy)⟩
theorem aK.kO{xs:List Value}(h:aK ρ n C [] xs):xs=[]:=by
 have:=h.1;cases xs with
 |nil=>rfl
 |cons a b=>simp at this
theorem aK.append{l m:List AV}{xs ys:List Value}(h:aK ρ n C l xs)(k:aK ρ n C m ys):aK ρ n C (l++m) (xs++ys):=by
 refine⟨by simp[h.1,k.1],λi v x hv hx=> ?_⟩;rcases Zj2 i l.length with hi|hi
 .rw[Zc5 hi]at hv;rw[Zc5 (by rw[<-h.1];exact hi)]at hx;exact h.2 i v x hv hx
 .rw[Zc4 hi]at hv;rw[Zc4 (by rw[<-h.1];exact hi), <-h.1]at hx;exact k.2 _ v x hv hx
theorem aK.take{l:List AV}{xs:List Value}(h:aK ρ n C l xs)(m:Nat):aK ρ n C (l.take m) (xs.take m):=by
 refine⟨by simp[h.1],λi v x hv hx=> ?_⟩;rw[Ze4]at hv hx;split at hv
 .rename_i hi;rw[Zb6 hi]at hx;exact h.2 i v x hv hx
 .cases hv
theorem aK.drop{l:List AV}{xs:List Value}(h:aK ρ n C l xs)(m:Nat):aK ρ n C (l.drop m) (xs.drop m):=by refine⟨by simp[h.1],λi v x hv hx=> ?_⟩;rw[Ze7]at hv hx;exact h.2 _ v x hv hx
theorem aK.aU{l vs:List AV}{xs ys:List Value}(h:aK ρ n C l xs)(k:aK ρ n C vs ys)(i:Nat):
  aK ρ n C (Go.Ai.aU l i vs) (Go.Ai.aU xs i ys):=by
 unfold Go.Ai.aU;rw[k.1];exact(h.take i).append (k.append (h.drop _))
theorem aK.get{l:List AV}{xs:List Value}(h:aK ρ n C l xs){i:Nat}{v:AV}(hv:l[i]? =some v):∃x,xs[i]? =some x/\aC ρ n C v x:=by
 have hi:i<xs.length:=by rw[<-h.1];exact(Za2.1 hv).1
 exact⟨xs[i],H0 hi,h.2 i v _ hv (H0 hi)⟩
theorem aC.QG{l:List AV}{cs:Array Value}(h:aK ρ n C l cs.toList):aC ρ n C (.agg l) (.agg cs):=
 .agg l cs (by simpa using h.1) λi v x hv hx=>h.2 i v x hv (by simpa using hx)
theorem aC.qZ{l:List AV}{cs:Array Value}(h:aK ρ n C l cs.toList):aC ρ n C (.tuple l) (.tuple cs):=
 .tuple l cs (by simpa using h.1) λi v x hv hx=>h.2 i v x hv (by simpa using hx)
theorem aC.Gy{l:List AV}{x:Value}(h:aC ρ n C (.agg l) x):∃cs,x= .agg cs/\aK ρ n C l cs.toList:=by
 cases h with|agg _ cs hl h=>exact⟨cs,rfl,by simpa using hl,λi v x hv hx=>h i v x hv (by simpa using hx)⟩
theorem aC.W4{l:List AV}{x:Value}(h:aC ρ n C (.tuple l) x):∃cs,x= .tuple cs/\aK ρ n C l cs.toList:=by
 cases h with|tuple _ cs hl h=>exact⟨cs,rfl,by simpa using hl,λi v x hv hx=>h i v x hv (by simpa using hx)⟩
theorem aC.Sw{f:FuncId}{a b:List AV}{x:Value}(h:aC ρ n C (.func f a b) x):
  ∃a' b',x= .func (.func f) a' b'/\aK ρ n C a a'.toList/\aK ρ n C b b'.toList:=by
 cases h with
 |func _ _ _ a' b' hx hy h1 h2=>exact⟨a',b',rfl,⟨by simpa using hx,λi v x hv hx=>h1 i v x hv (by simpa using hx)⟩,⟨by simpa using hy,λi v x hv hx=>h2 i v x hv (by simpa using hx)⟩⟩
theorem aC.cells{v:AV}{x:Value}(h:aC ρ n C v x):aK ρ n C v.cells x.cells.toList:=by
 by_cases hv:∃l,v= .agg l
 .obtain⟨l,rfl⟩:=hv;obtain⟨cs,rfl,hs⟩:=h.Gy;exact hs
 .have h1:v.cells=[v]:=(by cases v<;>first|rfl|exact absurd ⟨_,rfl⟩ hv);have h2:x.cells= #[x]:=(by cases h<;>first|rfl|exact absurd ⟨_,rfl⟩ hv);rw[h1,h2];exact aK.cons h aK.nil
def uh(ρ:Pos->Loc)(n:Nat)(C:Cells)(L:Loc)(w:World):AB->Prop
 |.cells cs fz=>∃(c:Array Value) (e:TypeId) (fr:Nat×Nat),w.heap[L.aM]? =some (.cells c e fr)/\c.size=L.size/\L.base+cs.length<=c.size/\
  aK ρ n C cs ((c.toList.drop L.base).take cs.length)/\∀i,fz<=i->L.base+i<c.size->¬(fr.1<=L.base+i/\L.base+i<fr.2)
 |.map es clock=>∃(es':Array MapEntry),w.heap[L.aM]? =some (.map es' clock)/\es.length=es'.size/\
  ∀(i:Nat)(e:AV×AV×Nat)(e':MapEntry),es[i]? =some e->es'[i]? =some e'->aC ρ n C e.1 e'.key/\aC ρ n C e.2.1 e'.val/\e.2.2=e'.born
theorem uh.mono{L:Loc}{w:World}{x:AB}(h:uh ρ n C L w x)(bF:∀b:Pos,b.toNat<n->ρ' b=ρ b)(hn:n<=n'):uh ρ' n' C L w x:=by
 cases x with
 |cells cs fz=>obtain⟨c,e,fr,h1,h2,h3,h4,h5⟩:=h;exact⟨c,e,fr,h1,h2,h3,h4.mono bF hn,h5⟩
 |map es clock=>obtain⟨es',h1,h2,h3⟩:=h;exact⟨es',h1,h2,λi e e' he sw=>let⟨a,b,c⟩:=h3 i e e' he sw;⟨a.mono bF hn,b.mono bF hn,c⟩⟩
theorem uh.of_heap{L:Loc}{w w':World}{x:AB}(h:uh ρ n C L w x)(hw:w'.heap[L.aM]? =w.heap[L.aM]?):uh ρ n C L w' x:=by
 cases x with
 |cells cs fz=>obtain⟨c,e,fr,h1,h2⟩:=h;exact⟨c,e,fr,by rw[hw];exact h1,h2⟩
 |map es clock=>obtain⟨es',h1,h2⟩:=h;exact⟨es',by rw[hw];exact h1,h2⟩
end
structure bZ(ρ:Pos->Loc)(C:Cells)(st:St)(w:World):Prop where
 live:∀b x,st.heap.get b=some x->b.toNat<st.next.toNat/\(ρ b).aM<w.heap.size/\uh ρ st.next.toNat C (ρ b) w x
 inj:∀b b' x x',st.heap.get b=some x->st.heap.get b'=some x'->(ρ b).aM=(ρ b').aM->b=b'
 dW:∀a v,C a=some v->w.cell? a=some v/\∀b x,st.heap.get b=some x->(ρ b).aM≠a.block
 whole:∀a v,C a=some v->∀o,C ⟨a.block,o,none⟩=none->w.cell? ⟨a.block,o,none⟩=none
structure pg(ρ:Pos->Loc)(st:St)(w:World)(ρ':Pos->Loc)(st':St)(w':World):Prop where
 os:w'.os=w.os
 tape:w'.tape=w.tape
 output:w'.output=w.output
 size:w.heap.size<=w'.heap.size
 block:∀k,k<w.heap.size->(∀b x,st.heap.get b=some x->(ρ b).aM≠k)->w'.heap[k]? =w.heap[k]?
 yX:∀b x,st'.heap.get b=some x->(∃b' x',st.heap.get b'=some x'/\(ρ b').aM=(ρ' b).aM)\/w.heap.size<=(ρ' b).aM
theorem pg.refl(ρ:Pos->Loc)(st:St)(w:World):pg ρ st w ρ st w:=⟨rfl,rfl,rfl,Za3 _,λ_ _ _=>rfl,λb x h=>.inl ⟨b,x,h,rfl⟩⟩
theorem pg.trans{ρ ki vM:Pos->Loc}{st bE Bj:St}{w w1 w2:World}(h:pg ρ st w ki bE w1)(k:pg ki bE w1 vM Bj w2):pg ρ st w vM Bj w2 where
 os:=k.os.trans h.os
 tape:=k.tape.trans h.tape
 output:=k.output.trans h.output
 size:=Zb2 h.size k.size
 block q hq hn:=by
  rw[k.block q (Zd0 hq h.size) λb x hb e=> ?_,h.block q hq hn];rcases h.yX b x hb with⟨b',x',h1,h2⟩|h1
  .exact hn b' x' h1 (h2.trans e)
  .rw[e]at h1;omega
 yX b x hb:=by
  rcases k.yX b x hb with⟨b',x',h1,h2⟩|h1
  . rcases h.yX b' x' h1 with⟨b'',x'',h3,h4⟩|h3
    .exact .inl ⟨b'',x'',h3,h4.trans h2⟩
    .right;rw[<-h2];exact h3
  .exact .inr (Zb2 h.size h1)
def lF(ρ:Pos->Loc)(n:Nat)(C:Cells)(fr:Fr)(tmps:Array Value):Prop:=
 ∀p v,fr.get p=some v->∃x,tmps[p.toNat - 1]? =some x/\aC ρ n C v x
theorem Pos.toNat_pos(p:Pos):0<p.toNat:=by
 induction p with
 |h=>simp[Pos.toNat]
 |o p ih=>simp[Pos.toNat];exact ih
 |i p ih=>simp[Pos.toNat]
theorem Pos.toNat_inj:∀{p q:Pos},p.toNat=q.toNat->p=q
 |.h,.h,_=>rfl
 |.h,.o q,hq=>by have:=q.toNat_pos;simp[Pos.toNat]at hq;omega
 |.h,.i q,hq=>by have:=q.toNat_pos;simp[Pos.toNat]at hq;omega
 |.o p,.h,hq=>by have:=p.toNat_pos;simp[Pos.toNat]at hq;omega
 |.o p,.o q,hq=>by simp[Pos.toNat]at hq;rw[Pos.toNat_inj (p:=p) (q:=q) (by omega)]
 |.o p,.i q,hq=>by simp[Pos.toNat]at hq;omega
 |.i p,.h,hq=>by have:=p.toNat_pos;simp[Pos.toNat]at hq;omega
 |.i p,.o q,hq=>by simp[Pos.toNat]at hq;omega
 |.i p,.i q,hq=>by simp[Pos.toNat]at hq;rw[Pos.toNat_inj (p:=p) (q:=q) (by omega)]
theorem Pos.aF(p:Pos):p.succ.toNat=p.toNat+1:=by
 induction p with
 |h=>rfl
 |o p ih=>simp[Pos.succ,Pos.toNat]
 |i p ih=>simp[Pos.succ,Pos.toNat,ih];omega
theorem Pos.Sx:∀(f m:Nat),0<m->m<2 ^ (f+1)->(Pos.ahn f m).toNat=m
 |0,m,hp,hl=>by
  simp at hl;have:m=1:=by omega
  subst this;rfl
 |f +   1,m,hp,hl=>by
  unfold Pos.ahn;split
  . (rename_i hb;have:=Zb5 hb;have:m=1:=by omega);subst this;rfl
  . rename_i hb;have h1:1<m:=by
        rcases Zj2 1 m with hh|hh
        .exact hh
        .rw[Nat.ble_eq_true_of_le hh]at hb;cases hb
    have h2:m / 2<2 ^ (f+1):=(by have:2 ^ (f+1+1)=2*2 ^ (f+1):=(by rw[Nat.pow_succ];omega);omega);split
    .   rename_i he;have:=Za6 he;simp only[Pos.toNat];rw[Pos.Sx f _ (by omega) h2];omega
    .   rename_i he;have:=Zf3 he;simp only[Pos.toNat];rw[Pos.Sx f _ (by omega) h2];omega
theorem ja(n:Nat):(key n).toNat=n+1:=Pos.Sx _ (n+1) (by omega) Nat.lt_log2_self
theorem T.dS{α:Type}(p:Pos):(T.e:T α).get p=none:=by cases p<;>rfl
theorem T.gU{α:Type}(x:Option α)(p:Pos)(t:T α):(T.put x p t).get p=x:=by
 induction p generalizing t with
 |h=>cases t<;>rfl
 |o p ih=>cases t<;>exact ih _
 |i p ih=>cases t<;>exact ih _
theorem T.cC{α:Type}(x:Option α){p q:Pos}(h:p≠q)(t:T α):(T.put x p t).get q=t.get q:=by
 induction p generalizing q t with
 |h=>cases q with
  |h=>exact absurd rfl h
  |o q=>cases t<;>simp[T.put,T.get,T.dS]
  |i q=>cases t<;>simp[T.put,T.get,T.dS]
 |o p ih=>cases q with
  |h=>cases t<;>simp[T.put,T.get]
  | o q=>cases t with
    |e=>simp only[T.put,T.get];rw[ih (λe=>h (by rw[e])),T.dS]
    |n l v r=>simp only[T.put,T.get];exact ih (λe=>h (by rw[e])) l
  |i q=>cases t<;>simp[T.put,T.get,T.dS]
 |i p ih=>cases q with
  |h=>cases t<;>simp[T.put,T.get]
  |o q=>cases t<;>simp[T.put,T.get,T.dS]
  | i q=>cases t with
    |e=>simp only[T.put,T.get];rw[ih (λe=>h (by rw[e])),T.dS]
    |n l v r=>simp only[T.put,T.get];exact ih (λe=>h (by rw[e])) r
theorem Pos.beq_eq:∀{p q:Pos},p.beq q=true↔p=q
 |.h,.h=>by simp[Pos.beq]
 |.h,.o q=>by simp[Pos.beq]
 |.h,.i q=>by simp[Pos.beq]
 |.o p,.h=>by simp[Pos.beq]
 |.o p,.o q=>by simp only[Pos.beq,Pos.o.injEq];exact Pos.beq_eq
 |.o p,.i q=>by simp[Pos.beq]
 |.i p,.h=>by simp[Pos.beq]
 |.i p,.o q=>by simp[Pos.beq]
 |.i p,.i q=>by simp only[Pos.beq,Pos.i.injEq];exact Pos.beq_eq
end
noncomputable section
section
variable{R:Type}
def Cb{α:Type}(p:Pos):T α->Option α:=
 Pos.rec (motive:=λ_=>T α->Option α)
    (λt=>T.rec (motive:=λ_=>Option α) none (λ_ v _ _ _=>v) t)
    (λ_ ih t=>T.rec (motive:=λ_=>Option α) none (λl _ _ _ _=>ih l) t)
    (λ_ ih t=>T.rec (motive:=λ_=>Option α) none (λ_ _ r _ _=>ih r) t) p
def xV{α:Type}(x:Option α)(p:Pos):T α->(T α->R)->R:=
 Pos.rec (motive:=λ_=>T α->(T α->R)->R)
    (λt k=>T.rec (motive:=λ_=>R) (k (.n .e x .e)) (λl _ r _ _=>k (.n l x r)) t)
    (λ_ ih t k=>T.rec (motive:=λ_=>R) (ih .e λl=>k (.n l none .e)) (λl v r _ _=>ih l λl=>k (.n l v r)) t)
    (λ_ ih t k=>T.rec (motive:=λ_=>R) (ih .e λr=>k (.n .e none r)) (λl v r _ _=>ih r λr=>k (.n l v r)) t) p
def we(n:Nat)(k:Nat->R):R:=Nat.rec (motive:=λ_=>R) (k 0) (λm _=>k (Nat.succ m)) n
def abC(n:Int)(k:Int->R):R:=match n with
 |.ofNat m=>we m λm=>k (.ofNat m)
 |.negSucc m=>we m λm=>k (.negSucc m)
def afr(b:Bool)(k:Bool->R):R:=match b with
 |true=>k true
 |false=>k false
def HR{α:Type}(l:List α):(List α->R)->R:=
 List.rec (motive:=λ_=>(List α->R)->R) (λk=>k []) (λa _ ih k=>ih λt=>k (a::t)) l
def Sy(p:Pos):(Pos->R)->R:=
 Pos.rec (motive:=λ_=>(Pos->R)->R) (λk=>k .h) (λ_ ih k=>ih λp=>k (.o p)) (λ_ ih k=>ih λp=>k (.i p)) p
def ahq(o:Option Nat)(k:Option Nat->R):R:=match o with
 |none=>k none
 |some n=>we n λn=>k (some n)
def W6(v:AV)(k:AV->R):R:=match v with
 |.bool b=>afr b λb=>k (.bool b)
 |.int i n=>abC n λn=>k (.int i n)
 |.str s=>HR s λs=>k (.str s)
 |.ptr b o=>Sy b λb=>we o λo=>k (.ptr b o)
 |.slice b o l c es=>Sy b λb=>we o λo=>we l λl=>ahq c λc=>k (.slice b o l c es)
 |.map b=>Sy b λb=>k (.map b)
 |.func f x y=>HR x λx=>HR y λy=>k (.func f x y)
 |.agg l=>HR l λl=>k (.agg l)
 |v=>k v
def ZD(l:List AV):(List AV->R)->R:=
 List.rec (motive:=λ_=>(List AV->R)->R) (λk=>k []) (λa _ ih k=>W6 a λa=>ih λt=>k (a::t)) l
def xz(v:AV)(k:AV->R):R:=match v with
 |.tuple l=>ZD l λl=>k (.tuple l)
 |v=>W6 v k
def LN(x:AB)(k:AB->R):R:=match x with
 |.cells cs fz=>HR cs λcs=>we fz λfz=>k (.cells cs fz)
 |.map es c=>HR es λes=>we c λc=>k (.map es c)
def acK(p:Pos):(Pos->R)->R:=
 Pos.rec (motive:=λ_=>(Pos->R)->R) (λk=>k (.o .h)) (λq _ k=>k (.i q)) (λ_ ih k=>ih λp=>k (.o p)) p
variable(z:R)
def evK(fr:Fr)(x:iy)(k:AV->R):R:=match x with
 |  .t p=>match Cb p fr with
    |some v=>k v
    |none=>z
 |.c v=>k v
def aef(fr:Fr)(xs:List iy):(List AV->R)->R:=
 List.rec (motive:=λ_=>(List AV->R)->R) (λk=>k []) (λx _ ih k=>evK z fr x λv=>ih λvs=>k (v::vs)) xs
def LO(fr:Fr)(g:Option (Pos×Bool))(yes no:R):R:=match g with
 |none=>yes
 |  some (p,want)=>match Cb p fr with
    |some (.bool b)=>match b==want with
     |true=>yes
     |false=>no
    |some (.tuple _)=>no
    |_=>z
def oK(fr:Fr)(d:Option Pos)(v:AV)(k:Fr->R):R:=match d with
 |some p=>xV (some v) p fr k
 |none=>k fr
def delK(o:Option Pos)(h:T AB)(k:T AB->R):R:=match o with
 |some b=>xV none b h k
 |none=>k h
def aqi(o:Option (Pos×AB))(h:T AB)(k:T AB->R):R:=match o with
 |some (b,x)=>LN x λx=>xV (some x) b h k
 |none=>k h
abbrev tF(R:Type):=FuncId->List AV->St->(AV->St->R)->R
def aqj(st:St)(del:Option Pos)(set:Option (Pos×AB))(new:Option AB)(k:St->R):R:=
 delK del st.heap λh=>aqi set h λh=>match new with
    |some x=>LN x λx=>xV (some x) st.next h λh=>acK st.next λn=>k { heap:=h,next:=n }
    |none=>k { heap:=h,next:=st.next }
def ZE(call:tF R)(op:aG)(xs:List AV)(st:St)(k:AV->St->R):R:=
 match op.run (λb=>Cb b st.heap) st.next xs with
 |some (.val v)=>xz v λv=>k v st
 |some (.bk v del set new)=>xz v λv=>aqj st del set new λst=>k v st
 |some (.call f args)=>HR args λargs=>call f args st k
 |none=>z
def aeg(call:tF R)(ops:List bV):Fr->St->(Fr->St->R)->R:=
 List.rec (motive:=λ_=>Fr->St->(Fr->St->R)->R) (λfr st k=>k fr st)
    (λo _ ih fr st k=>LO z fr o.guard
     (aef z fr o.xs λxs=>ZE z call o.k xs st λv st=>oK fr o.dst v λfr=>ih fr st k)
     (oK fr o.dst .undef λfr=>ih fr st k)) ops
def Sz (cE:Nat)(h:T AB)(recs:List Rec):(T AB->R)->R:=
 List.rec (motive:=λ_=>(T AB->R)->R) (λk=>k h)
    (fun r _ ih k=>match r.c with
     |  .new id aM=>match cE.testBit r.idx with
        |true=>ih λh'=>xV (some aM) id h' k
        |false=>ih k
     |.bk _ _=>k h
     |.pure=>ih k) recs
def ahr(h:T AB)(l:List (Pos×AB)):(T AB->R)->R:=
 List.rec (motive:=λ_=>(T AB->R)->R) (λk=>k h) (λx _ ih k=>ih λh'=>xV (some x.2) x.1 h' k) l
def ahs(op:aG)(xs:List AV)(v:AV)(h:T AB):Bool:=
 match op.run (λb=>Cb b h) .h xs with
 |some (.val u)=>eZ u v
 |_=>false
def vN(cE:Nat)(op:aG)(xs:List AV)(v:AV):List (Pos×AB)->List Rec->Bool
 |_,[]=>true
 |  up,r::rs=>match r.c with
    | .new id aM=>match cE.testBit r.idx with
      |true=>vN cE op xs v ((id,aM)::up) rs
      |false=>vN cE op xs v up rs
    | .bk base _=>match cE.testBit r.idx with
      |true=>true
      |false=>(Sz cE base rs λh=>ahr h up λh=>ahs op xs v h)&&vN cE op xs v up rs
    |.pure=>vN cE op xs v up rs
def SA (call:tF R)(ops:List (Nat×bV)):List Rec->T AB->Fr->St->(Fr->St->R)->R:=
 List.rec ( motive:=λ_=>List Rec->T AB->Fr->St->(Fr->St->R)->R)
    (λ_ _ fr st k=>k fr st)
    (fun jo _ ih recs base fr st k=>LO z fr jo.2.guard
     (aef z fr jo.2.xs λxs=>match jo.2.cls with
        | .new=>match jo.2.k.run (λ_=>none) st.next xs with
          |some (.bk v none none (some aM))=>xz v λv=>LN aM λaM=>oK fr jo.2.dst v λfr=>acK st.next λn=>xV (some aM) st.next st.heap λh=>
              ih ({ idx:=jo.1,o:=jo.2,v:=v,c:= .new st.next aM,nx:=n }::recs) base fr { heap:=h,next:=n } k
          |_=>z
        |.bk=>ZE z call jo.2.k xs st λv st'=>oK fr jo.2.dst v λfr=>ih ({ idx:=jo.1,o:=jo.2,v:=v,c:= .bk base st'.heap,nx:=st'.next }::recs) st'.heap fr st' k
        | _ =>match jo.2.k.run (λ_=>none) .h xs with
          |some (.val v)=>xz v λv=>oK fr jo.2.dst v λfr=>ih ({ idx:=jo.1,o:=jo.2,v:=v,c:= .pure,nx:=st.next }::recs) base fr st k
          | _ =>Sz jo.2.cE base recs λh=>match jo.2.k.run (λb=>Cb b h) .h xs with
            | some (.val v)=>xz v λv=>match vN jo.2.cE jo.2.k xs v [] recs with
              |true=>oK fr jo.2.dst v λfr=>ih ({ idx:=jo.1,o:=jo.2,v:=v,c:= .pure,nx:=st.next }::recs) base fr st k
              |false=>z
            |_=>z)
     (oK fr jo.2.dst .undef λfr=>ih ({ idx:=jo.1,o:=jo.2,v:= .undef,c:= .pure,nx:=st.next }::recs) base fr st k)) ops
abbrev ag5(R:Type):=AC->Fr->St->(Fr->St->R)->(Nat->Fr->St->R)->(Fr->St->R)->R
def vO(call:tF R)(ih:ag5 R):ag5 R
 |.skip,fr,st,kn,_,_=>kn fr st
 |.region ops,fr,st,kn,_,_=>aeg z call ops fr st kn
 |.draw ops,fr,st,kn,_,_=>SA z call ops [] st.heap fr st kn
 |.seq a b,fr,st,kn,kx,kr=>ih a fr st (λfr st=>ih b fr st kn kx kr) kx kr
 |  .cond x a b,fr,st,kn,kx,kr=>evK z fr x λv=>match v with
    |.bool true=>ih a fr st kn kx kr
    |.bool false=>ih b fr st kn kx kr
    |_=>z
 | .block id a,fr,st,kn,kx,kr=>ih a fr st kn (λyx fr st=>match Nat.beq yx id with
     |true=>kn fr st
     |false=>kx yx fr st) kr
 |.loop a,fr,st,kn,kx,kr=>ih a fr st (λfr st=>ih (.loop a) fr st kn kx kr) kx kr
 |.exit id,fr,st,_,kx,_=>kx id fr st
 |.ret,fr,st,_,_,kr=>kr fr st
def acL(call:tF R)(n:Nat):ag5 R:=
 Nat.rec (motive:=λ_=>ag5 R) (λ_ _ _ _ _ _=>z) (λ_ ih=>vO z call ih) n
def QH(vs:List AV):Nat->Fr->(Fr->R)->R:=
 List.rec (motive:=λ_=>Nat->Fr->(Fr->R)->R) (λ_ fr k=>k fr)
    (λv _ ih i fr k=>xV (some v) (key i) fr λfr=>ih (i+1) fr k) vs
def Gz(st:St)(fr:Fr)(rs:List QC)(k:AV->R):R:=
 match ij (λb=>Cb b st.heap) fr rs with
 |  some vs=>ZD vs λvs=>match vs with
    |[v]=>k v
    |vs=>k (.tuple vs)
 |none=>z
def Oe (O:fc  )(G:T dR)(m:Nat)(d:Nat):tF R:=
 Nat.rec (motive:=λ_=>tF R) (λ_ _ _ _=>z)
    (fun _ ih f args st k=>match O f with
     |  some s=>match s args st with
        |some (v,st')=>xz v λv=>k v st'
        |none=>z
     |  none=>match Cb (key f) G with
        |some F=>match Nat.beq args.length F.nparams with
         |true=>QH args 0 .e λfr=>acL z ih m F.code fr st
              (λfr st=>Gz z st fr F.results λv=>k v st)
              (λ_ _ _=>z)
              (λfr st=>Gz z st fr F.results λv=>k v st)
         |false=>z
        |none=>z) d
end
end
end Go.Ai
