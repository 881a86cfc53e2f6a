/- An evaluator over plain values, its compiler and its relation to worlds. -/
import Derived.Orders
import Derived.Below
set_option linter.all false
def H0:=@List.getElem?_eq_getElem
def H5:=@Option.some.injEq
def Za0:=@decide_eq_true
def Za1:=@List.getElem?_eq_some_iff
def Za2:=@decide_eq_false
def Za3:=@List.length_map
def Za4:=@List.getElem?_cons_zero
def Za5:=@Nat.le_refl
def Za6:=@Option.bind_some
def Za7:=@if_neg
def Za8:=@Nat.eq_of_beq_eq_true
def Za9:=@List.mem_cons
def Zb0:=@List.mem_cons_of_mem
def Zb1:=@Nat.zero_add
def Zb2:=@Nat.le_trans
def Zb3:=@List.getElem?_map
def Zb4:=@if_pos
def Zb5:=@Nat.le_of_ble_eq_true
def Zb6:=@List.getElem?_cons_succ
def Zb7:=@Bool.and_eq_true
def Zb8:=@List.getElem_mem
def Zb9:=@List.getD_eq_getElem?_getD
def Zc0:=@List.getElem?_eq_none
def Zc1:=@List.getElem?_append_right
def Zc2:=@List.take_succ_eq_append_getElem
def Zc3:=@List.getElem?_append_left
def Zc4:=@List.eq_nil_of_length_eq_zero
def Zc5:=@List.mem_of_getElem?
def Zc6:=@List.not_mem_nil
def Zc7:=@List.length_cons
def Zc8:=@List.map_append
def Zc9:=@List.mem_map
def Zd0:=@Nat.lt_of_lt_of_le
def Zd1:=@List.map_cons
def Zd2:=@List.drop_eq_getElem_cons
def Zd3:=@Prod.mk.injEq
def Zd4:=@Int.toNat_natCast
def Zd5:=@Array.getElem?_eq_some_iff
def Zd6:=@List.mem_cons_self
def Zd7:=@List.append_nil
def Zd8:=@List.cons_append
def Zd9:=@List.length_append
def Ze0:=@List.mem_append
def Ze1:=@List.getElem?_take
def Ze2:=@List.nil_append
def Ze3:=@List.drop_zero
def Ze4:=@List.getElem?_drop
def Ze5:=@Option.map_some
def Ze6:=@Option.getD_some
def Ze7:=@Bool.false_eq_true
def Ze8:=@decide_eq_true_eq
def Ze9:=@Nat.ne_of_beq_eq_false
def Zf0:=@List.append_assoc
def Zf1:=@List.length_take
def Zf2:=@List.getElem?_set_ne
def Zf3:=@or_false
def Zf4:=@List.mem_iff_getElem?
def Zf5:=@Option.map_eq_some_iff
def Zf6:=@decide_true
def Zf7:=@List.flatten_cons
def Zf8:=@List.cons.injEq
def Zf9:=@List.range_succ
def Zg0:=@List.take_of_length_le
def Zg1:=@List.take_length
def Zg2:=@Nat.add_zero
def Zg3:=@List.map_map
def Zg4:=@List.getElem?_set_self
def Zg5:=@Bool.true_and
def Zg6:=@List.mem_iff_getElem
def Zg7:=@if_false
def Zg8:=@List.mem_singleton
def Zg9:=@List.map_nil
def Zh0:=@Nat.succ_mul
def Zh1:=@List.drop_append_of_le_length
def Zh2:=@Array.getElem?_eq_getElem
def Zh3:=@List.mem_or_eq_of_mem_set
def Zh4:=@List.all_eq_true
def Zh5:=@Nat.mul_le_mul_right
def Zh6:=@if_true
def Zh7:=@of_decide_eq_true
def Zh8:=@Nat.add_sub_cancel
def Zh9:=@List.getElem?_range
def Zi0:=@List.mem_range
def Zi1:=@Option.some.inj
def Zi2:=@List.length_nil
def Zi3:=@Option.getD_none
def Zi4:=@Bool.not_true
def Zi5:=@List.map_congr_left
def Zi6:=@Nat.zero_le
def Zi7:=@List.ext_getElem?
def Zi8:=@Int.tdiv_eq_ediv_of_nonneg
def Zi9:=@Bool.and_true
def Zj0:=@Nat.le_max_right
def Zj1:=@Array.length_toList
def Zj2:=@Bool.and_self
def Zj3:=@Nat.lt_or_ge
def Zj4:=@List.mem_of_mem_take
def Zj5:=@Nat.min_eq_left
def Zj6:=@Nat.add_mul
def Zj7:=@Bool.or_eq_true
def Zj8:=@Nat.le_max_left
def Zj9:=@Array.getElem?_setIfInBounds_ne
def Zk0:=@Array.getElem?_toList
def Zk1:=@List.set_append_right
def Zk2:=@List.filter_append
def Zk3:=@Nat.add_assoc
def Zk4:=@Function.comp_def
def Zk5:=@Bool.not_eq_true'
def Zk6:=@Nat.mod_lt
def Zk7:=@Nat.sub_self
def Zk8:=@Nat.mod_eq_of_lt
def Zk9:=@Bool.not_false
def Zl0:=@List.drop_drop
def Zl1:=@Array.getElem?_modify
def Zl2:=@List.length_filter_le
def Zl3:=@Classical.byContradiction
def Zl4:=@List.range_eq_range'
def Zl5:=@Nat.mul_le_mul_left
def Zl6:=@List.take_append_of_le_length
def Zl7:=@decide_false
def Zl8:=@List.mem_filter
def Zl9:=@List.length_set
def Zm0:=@Bool.false_or
def Zm1:=@List.take_append_drop
def Zm2:=@List.length_singleton
def Zm3:=@Array.getD_eq_getD_getElem?
def Zm4:=@Array.ext'
def Zm5:=@List.mem_append_left
def Zm6:=@Int.fdiv_eq_ediv_of_nonneg
def Zm7:=@List.getElem_map
def Zm8:=@beq_eq_false_iff_ne
def Zm9:=@List.replicate_succ
def Zn0:=@Option.isSome_iff_exists
def Zn1:=@Bool.eq_iff_iff
def Zn2:=@of_decide_eq_false
def Zn3:=@Nat.eq_zero_or_pos
def Zn4:=@Nat.mul_one
def Zn5:=@List.getElem?_replicate
def Zn6:=@List.set_eq_take_append_cons_drop
def Zn7:=@Nat.le_of_lt
def Zn8:=@List.drop_take
def Zn9:=@List.size_toArray
def Zo0:=@and_true
def Zo1:=@Nat.zero_mul
def Zo2:=@List.take_zero
def Zo3:=@List.drop_of_length_le
def Zo4:=@List.getElem_cons_succ
def Zo5:=@Bool.false_and
def Zo6:=@List.getElem_take
def Zo7:=@List.flatMap_cons
def Zo8:=@UInt8.lt_iff_toNat_lt
def Zo9:=@Array.eq_empty_of_size_eq_zero
def Zp0:=@List.range'_succ
def Zp1:=@Int.natCast_emod
def Zp2:=@List.countP_cons
def Zp3:=@Nat.lt_irrefl
def Zp4:=@List.sum_cons
def Zp5:=@Int.lt_irrefl
def Zp6:=@Array.toList_extract
def Zp7:=@Nat.one_mul
def Zp8:=@Array.getElem?_setIfInBounds
def Zp9:=@List.drop_set_of_lt
def Zq0:=@Array.getElem?_push
def Zq1:=@Array.toList_setIfInBounds
def Zq2:=@Option.isSome_some
def Zq3:=@Option.isSome_none
def Zq4:=@Nat.mod_eq_sub_mod
def Zq5:=@Array.getElem?_append_left
def Zq6:=@List.set_cons_zero
def Zq7:=@List.contains_cons
def Zq8:=@Nat.mul_le_mul
def Zq9:=@Int.emod_lt_of_pos
def Zr0:=@List.length_range
def Zr1:=@List.map_take
def Zr2:=@beq_self_eq_true
def Zr3:=@List.length_drop
def Zr4:=@List.isEmpty_map
def Zr5:=@Nat.add_comm
def Zr6:=@Nat.sub_zero
def Zr7:=@Nat.blt_eq
def Zr8:=@List.map_set
def Zr9:=@UInt8.toNat_inj
def Zs0:=@List.take_left'
def Zs1:=@List.foldl_cons
def Zs2:=@Int.ediv_nonneg
def Zs3:=@List.sum_append
def Zs4:=@Int.emod_nonneg
def Zs5:=@List.map_id
def Zs6:=@true_and
namespace Go.Ai
section
inductive Pos where
 |h
 |o (p:Pos)
 |i (p:Pos)
 deriving DecidableEq,Inhabited
def Pos.toNat:Pos->Nat
 |.h=>1
 |.o p=>2*p.toNat
 |.i p=>2*p.toNat+1
def Pos.succ:Pos->Pos
 |.h=>.o .h
 |.o p=>.i p
 |.i p=>.o p.succ
def Pos.ahF:Nat->Nat->Pos
 |0,_=>.h
 |  f+1,n=>match Nat.ble n 1 with
    |true=>.h
    |false=>match Nat.beq (n % 2) 0 with
     |true=>.o (Pos.ahF f (n / 2))
     |false=>.i (Pos.ahF f (n / 2))
def key(n:Nat):Pos:=Pos.ahF (n+1).log2 (n+1)
def Pos.beq:Pos->Pos->Bool
 |.h,.h=>true
 |.o a,.o b=>a.beq b
 |.i a,.i b=>a.beq b
 |_,_=>false
inductive T(α:Type) where
 |e
 |n (l:T α) (v:Option α) (r:T α)
 deriving Inhabited
def T.get{α:Type}:Pos->T α->Option α
 |_,.e=>none
 |.h,.n _ v _=>v
 |.o p,.n l _ _=>l.get p
 |.i p,.n _ _ r=>r.get p
def T.put{α:Type}(x:Option α):Pos->T α->T α
 |.h,.e=>.n .e x .e
 |.h,.n l _ r=>.n l x r
 |.o p,.e=>.n (T.put x p .e) none .e
 |.o p,.n l v r=>.n (T.put x p l) v r
 |.i p,.e=>.n .e none (T.put x p .e)
 |.i p,.n l v r=>.n l v (T.put x p r)
inductive AV where
 |bool (b:Bool)
 |int (k:IntKind) (n:Int)
 |str (s:List Nat)
 |jx
 |ptr (b:Pos) (off:Nat)
 |fp (xs:List (List AV)) (i j:Nat)
 |af
 |slice (b:Pos) (off len:Nat) (cap:Option Nat) (es:Nat)
 |fl (xs:List (List AV)) (es:Nat)
 |qX
 |map (b:Pos)
 |func (f:FuncId) (first captured:List AV)
 |jX
 |BS
 |iface (t:TypeId) (v:AV)
 |agg (l:List AV)
 |tuple (l:List AV)
 deriving Inhabited
inductive AB where
 |cells (cs:List AV) (fz:Nat)
 |map (es:List (AV×AV×Nat)) (clock:Nat)
 deriving Inhabited
def AV.cells:AV->List AV
 |.agg l=>l
 |v=>[v]
def AV.undef:AV:= .tuple []
def AV.one:AV->Bool
 |.agg _=>false
 |.tuple _=>false
 |_=>true
def aV:List AV->Bool
 |[]=>true
 |  v::l=>match v.one with
    |true=>aV l
    |false=>false
inductive eZ where
 |val (v:AV)
 |br (v:AV) (del:Option Pos) (set:Option (Pos×AB)) (new:Option AB)
 |call (f:FuncId) (args:List AV)
 deriving Inhabited
def nth{α:Type}:List α->Nat->Option α
 |[],_=>none
 |a::_,0=>some a
 |_::l,n+1=>nth l n
def cut{α:Type}(l:List α)(i n:Nat):Option (List α):=
 match Nat.ble (i+n) l.length with
 |true=>some ((l.drop i).take n)
 |false=>none
def bf{α:Type}(l:List α)(i:Nat)(vs:List α):List α:=l.take i++(vs++l.drop (i+vs.length))
def kH:List Nat->List Nat->Bool
 |[],[]=>true
 |  a::x,b::y=>match Nat.beq a b with
    |true=>kH x y
    |false=>false
 |_,_=>false
def aU:List Nat->List Nat->Bool
 |_,[]=>false
 |[],_::_=>true
 |  a::x,b::y=>match Nat.blt a b with
    |true=>true
    |false=>match Nat.beq a b with
     |true=>aU x y
     |false=>false
inductive PK where
 |b
 |i
 |s
 deriving Inhabited
inductive gZ where
 |num
 |bool
 |ptr
 |slice
 |map
 |func
 |iface
 |struct (fs:List (Nat×PK))
 deriving Inhabited
inductive asW where
 |int (k:IntKind)
 |same
 |ofBytes
 deriving Inhabited
inductive LK where
 |s
 |l
 |m
 deriving Inhabited
inductive aJ where
 |move
 |pick
 |alloc (zero:List AV)
 |box
 |build (zero:List AV) (places:List (Nat×Nat))
 |buildSlice (es len:Nat) (zero:List AV) (places:List Nat)
 |load (n:Option Nat)
 |store (n:Nat)
 |nilCheck
 |bin (op:BinOp) (q:gZ)
 |un (op:UnOp)
 |conv (k:asW)
 |mkIface (t:TypeId)
 |mkFunc (f:FuncId) (Xi:Nat)
 |mkMap
 |lookup (pk:PK) (zero:AV) (ok:Bool)
 |mapSet (pk:PK)
 |mkSlice (es bytes:Nat) (zero:List AV)
 |sliceS (lo hi:Bool)
 |sliceL (es:Nat) (lo hi mx:Bool)
 |fieldA (off:Nat)
 |idxA (es:Nat) (arr:Option Nat)
 |field (off:Nat) (n:Option Nat)
 |idxS
 |extract (i:Nat)
 |callF (f:FuncId)
 |callV
 |lenB (k:LK)
 |capB
 |append (es bytes:Nat)
 |copyB (es:Nat)
 |minB
 |maxB
 |clearS (es:Nat) (zero:List AV)
 |bad
 deriving Inhabited
def loI(k:IntKind):Int:=match k with
 |.i8=> -128|.i16=> -32768|.i32=> -2147483648|.i64=> -9223372036854775808|_=>0
def hiI(k:IntKind):Int:=match k with
 |.i8=>127|.i16=>32767|.i32=>2147483647|.i64=>9223372036854775807
 |.u8=>255|.u16=>65535|.u32=>4294967295|.u64=>18446744073709551615
def av(k:IntKind)(n:Int):Int:=
 match Int.decLe (loI k) n with
 |  .isTrue _=>match Int.decLe n (hiI k)with
    |.isTrue _=>n
    |.isFalse _=>k.wrap n
 |.isFalse _=>k.wrap n
def Mm(a b:IntKind):Bool:=match decEq a b with
 |.isTrue _=>true
 |.isFalse _=>false
def BC(a b:Int):Bool:=match Int.decEq a b with
 |.isTrue _=>true
 |.isFalse _=>false
def BD(a b:Int):Bool:=match Int.decLt a b with
 |.isTrue _=>true
 |.isFalse _=>false
def ahl(a b:Int):Bool:=match Int.decLe a b with
 |.isTrue _=>true
 |.isFalse _=>false
def yE:PK->AV->AV->Option Bool
 |.b,.bool a,.bool b=>some (a==b)
 |  .i,.int k a,.int k' b=>match Mm k k' with
    |true=>some (BC a b)
    |false=>none
 |.s,.str a,.str b=>some (kH a b)
 |_,_,_=>none
def eqFields(xs ys:List AV):List (Nat×PK)->Option Bool
 |[]=>some true
 |  (o,pk)::fs=>match nth xs o,nth ys o with
    | some a,some b=>match yE pk a b with
      |some true=>eqFields xs ys fs
      |some false=>some false
      |none=>none
    |_,_=>none
def abS:gZ->AV->AV->Option Bool
 |.bool,.bool a,.bool b=>some (a==b)
 |.ptr,.jx,.jx=>some true
 |.ptr,.jx,.ptr _ _=>some false
 |.ptr,.ptr _ _,.jx=>some false
 |.ptr,.jx,.fp _ _ _=>some false
 |.ptr,.fp _ _ _,.jx=>some false
 |  .ptr,.ptr b o,.ptr b' o'=>match Pos.beq b b',Nat.beq o o' with
    |true,true=>some true
    |_,_=>none
 |.slice,.af,.af=>some true
 |.slice,.af,.slice _ _ _ _ _=>some false
 |.slice,.slice _ _ _ _ _,.af=>some false
 |.slice,.af,.fl _ _=>some false
 |.slice,.fl _ _,.af=>some false
 |.map,.qX,.qX=>some true
 |.map,.qX,.map _=>some false
 |.map,.map _,.qX=>some false
 |.func,.jX,.jX=>some true
 |.func,.jX,.func _ _ _=>some false
 |.func,.func _ _ _,.jX=>some false
 |.iface,.BS,.iface _ _=>some false
 |.iface,.iface _ _,.BS=>some false
 |.struct fs,.agg xs,.agg ys=>eqFields xs ys fs
 |_,_,_=>none
def pO (op:BinOp)(q:gZ):AV->AV->Option AV
 |  .int k a,.int k' b=>match op with
    | .shl=>match BD b 0 with
      |true=>none
      |false=>some (.int k (av k (a*2 ^ (min b.toNat k.bits))))
    | .shr=>match BD b 0 with
      |true=>none
      |false=>some (.int k (a.fdiv (2 ^ (min b.toNat k.bits))))
    | op=>match Mm k k' with
      |false=>none
      | true=>match op with
        |.add=>some (.int k (av k (a+b)))
        |.sub=>some (.int k (av k (a - b)))
        |.mul=>some (.int k (av k (a*b)))
        | .quo=>match BC b 0 with
          |true=>none
          |false=>some (.int k (av k (a.tdiv b)))
        | .rem=>match BC b 0 with
          |true=>none
          |false=>some (.int k (a.tmod b))
        |.and=>some (.int k (k.wrap (BitVec.ofInt k.bits a &&& BitVec.ofInt k.bits b).toNat))
        |.or=>some (.int k (k.wrap (BitVec.ofInt k.bits a ||| BitVec.ofInt k.bits b).toNat))
        |.xor=>some (.int k (k.wrap (BitVec.ofInt k.bits a ^^^ BitVec.ofInt k.bits b).toNat))
        |.andNot=>some (.int k (k.wrap (BitVec.ofInt k.bits a &&& ~~~BitVec.ofInt k.bits b).toNat))
        |.eql=>some (.bool (BC a b))
        |.neq=>some (.bool (!BC a b))
        |.lss=>some (.bool (BD a b))
        |.leq=>some (.bool (ahl a b))
        |.gtr=>some (.bool (BD b a))
        |.geq=>some (.bool (ahl b a))
        |_=>none
 |  .str a,.str b=>match op with
    | .add=>match Nat.ble (a.length+b.length) 9223372036854775807 with
      |true=>some (.str (a++b))
      |false=>none
    |.eql=>some (.bool (kH a b))
    |.neq=>some (.bool (!kH a b))
    |.lss=>some (.bool (aU a b))
    |.leq=>some (.bool (aU a b||kH a b))
    |.gtr=>some (.bool (!(aU a b||kH a b)))
    |.geq=>some (.bool (!aU a b))
    |_=>none
 |  x,y=>match op with
    | .eql=>match abS q x y with
      |some b=>some (.bool b)
      |none=>none
    | .neq=>match abS q x y with
      |some b=>some (.bool (!b))
      |none=>none
    |_=>none
def unA(op:UnOp):AV->Option AV
 |  .bool b=>match op with
    |.not=>some (.bool (!b))
    |_=>none
 |  .int k n=>match op with
    |.neg=>some (.int k (av k (0 - n)))
    |_=>none
 |_=>none
def cS(cells:List AV):List (Nat×Nat)->List AV->Option (List AV)
 |[],[]=>some cells
 |  (off,size)::ps,v::vs=>
    match Nat.beq v.cells.length size,Nat.ble (off+size) cells.length with
    |true,true=>cS (bf cells off v.cells) ps vs
    |_,_=>none
 |_,_=>none
def cg{α:Type}(l:List α):Nat->List α
 |0=>[]
 |n+1=>l++cg l n
def Ao:AV->Option Nat
 |  .int _ n=>match n with
    |.ofNat m=>some m
    |.negSucc _=>none
 |_=>none
def Mn(n:Nat):AV:= .int .i64 (.ofNat n)
def rows(es:Nat)(cs:List AV):Nat->List (List AV)
 |0=>[]
 |n+1=>cs.take es::rows es (cs.drop es) n
def bounds:(lo hi mx:Bool)->List AV->Option (Option Nat×Option Nat×Option Nat)
 |false,false,false,[]=>some (none,none,none)
 |  true,false,false,[a]=>match Ao a with
    |some l=>some (some l,none,none)
    |none=>none
 |  false,true,false,[b]=>match Ao b with
    |some h=>some (none,some h,none)
    |none=>none
 |  true,true,false,[a,b]=>match Ao a,Ao b with
    |some l,some h=>some (some l,some h,none)
    |_,_=>none
 |  false,true,true,[b,c]=>match Ao b,Ao c with
    |some h,some m=>some (none,some h,some m)
    |_,_=>none
 |  true,true,true,[a,b,c]=>match Ao a,Ao b,Ao c with
    |some l,some h,some m=>some (some l,some h,some m)
    |_,_,_=>none
 |_,_,_,_=>none
def dO(es n:Nat)(H:Pos->Option AB):AV->Option (List AV)
 |.af=>some []
 |  .slice b off _ _ _=>match Nat.beq (n*es) 0 with
    |true=>some []
    |false=>match H b with
     |some (.cells cs _)=>cut cs off (n*es)
     |_=>none
 |  .fl xs es'=>match Nat.beq es es',Nat.ble n xs.length with
    |true,true=>some (xs.take n).flatten
    |_,_=>none
 |  .str s=>match Nat.beq es 1,Nat.ble n s.length with
    |true,true=>some ((s.take n).map λc=>.int .u8 (.ofNat c))
    |_,_=>none
 |_=>none
def fc:AV->Option Nat
 |.af=>some 0
 |.slice _ _ n _ _=>some n
 |.fl xs _=>some xs.length
 |.str s=>some s.length
 |_=>none
def gX(pk:PK)(k:AV):List (AV×AV×Nat)->Nat->Option (Option (Nat×AV))
 |[],_=>some none
 |  (k',v,_)::es,i=>match yE pk k k' with
    |some true=>some (some (i,v))
    |some false=>gX pk k es (i+1)
    |none=>none
def ahG:PK->AV->Bool
 |.b,.bool _=>true
 |.i,.int _ _=>true
 |.s,.str _=>true
 |_,_=>false
def ua(k v:AV):List (AV×AV×Nat)->Nat->List (AV×AV×Nat)
 |[],_=>[]
 |(_,_,born)::es,0=>(k,v,born)::es
 |e::es,i+1=>e::ua k v es i
def bytesOf:List AV->Option (List Nat)
 |[]=>some []
 |  .int .u8 (.ofNat n)::l=>match Nat.blt n 256,bytesOf l with
    |true,some s=>some (n::s)
    |_,_=>none
 |_=>none
def ZO(_H:Pos->Option AB)(_next:Pos):List AV->Option eZ
 |[x]=>some (.val x)
 |_=>none
def aeC(_H:Pos->Option AB)(_next:Pos):List AV->Option eZ
 |  [c,a,b]=>match c with
    |.bool true=>some (.val a)
    |.bool false=>some (.val b)
    |_=>none
 |_=>none
def Sn(_H:Pos->Option AB)(next:Pos)(zero:List AV):List AV->Option eZ
 |[]=>some (.br (.ptr next 0) none none (some (.cells zero 0)))
 |_=>none
def ac8(_H:Pos->Option AB)(next:Pos):List AV->Option eZ
 |[x]=>some (.br (.ptr next 0) none none (some (.cells x.cells 0)))
 |_=>none
def So(_H:Pos->Option AB)(_next:Pos)(zero:List AV)(places:List (Nat×Nat)):List AV->Option eZ
 |  xs=>match cS zero places xs with
    |some cs=>some (.val (.agg cs))
    |none=>none
def xj(_H:Pos->Option AB)(next:Pos)(es len:Nat)(zero:List AV)(places:List Nat):List AV->Option eZ
 |  xs=>match cS (cg zero len) (places.map λi=>(i*es,es)) xs with
    |some cs=>some (.br (.slice next 0 len (some len) es) none none (some (.cells cs 0)))
    |none=>none
def zK (H :Pos->Option AB)(_next:Pos)(n:Option Nat):List AV->Option eZ
 |  [p] =>match p with
    | .ptr b off=>match H b with
      | some (.cells cs _)=>match n with
        | none=>match nth cs off with
          |some v=>some (.val v)
          |none=>none
        | some n=>match cut cs off n with
          |some vs=>some (.val (.agg vs))
          |none=>none
      |_=>none
    | .fp xs i j=>match nth xs i with
      | some cs=>match n with
        | none=>match nth cs j with
          |some v=>some (.val v)
          |none=>none
        | some n=>match cut cs j n with
          |some vs=>some (.val (.agg vs))
          |none=>none
      |none=>none
    |_=>none
 |_=>none
def Mo (H:Pos->Option AB)(_next:Pos)(n:Nat):List AV->Option eZ
 |  [p, v]=>match p with
    | .ptr b off=>match H b with
      | some (.cells cs fz)=>
        match Nat.beq v.cells.length n,Nat.ble (off+n) cs.length,Nat.ble fz off,aV v.cells with
        |true,true,true,true=>some (.br .undef none (some (b,.cells (bf cs off v.cells) fz)) none)
        |_,_,_,_=>none
      |_=>none
    |_=>none
 |_=>none
def Pu(_H:Pos->Option AB)(_next:Pos):List AV->Option eZ
 |  [x]=>match x with
    |.ptr _ _=>some (.val x)
    |.fp _ _ _=>some (.val x)
    |.func _ _ _=>some (.val x)
    |_=>none
 |_=>none
def jH(_H:Pos->Option AB)(_next:Pos)(op:BinOp)(q:gZ):List AV->Option eZ
 |  [x,y]=>match pO op q x y with
    |some v=>some (.val v)
    |none=>none
 |_=>none
def alV(_H:Pos->Option AB)(_next:Pos)(op:UnOp):List AV->Option eZ
 |  [x]=>match unA op x with
    |some v=>some (.val v)
    |none=>none
 |_=>none
def Gb (H:Pos->Option AB)(_next:Pos)(k:asW):List AV->Option eZ
 |  [x] =>match k,x with
    |.int k,.int _ n=>some (.val (.int k (av k n)))
    |.same,.str s=>some (.val (.str s))
    |.ofBytes,.af=>some (.val (.str []))
    | .ofBytes,.slice b off n _ _=>match Nat.beq n 0 with
      |true=>some (.val (.str []))
      | false=>match H b with
        |some (.cells cs _)=>match cut cs off n with
         |some l=>match bytesOf l with
          |some s=>some (.val (.str s))
          |none=>none
         |none=>none
        |_=>none
    |_,_=>none
 |_=>none
def Sq(_H:Pos->Option AB)(_next:Pos)(t:TypeId):List AV->Option eZ
 |[x]=>some (.val (.iface t x))
 |_=>none
def HC(_H:Pos->Option AB)(_next:Pos)(f:FuncId)(Xi:Nat):List AV->Option eZ
 |xs=>some (.val (.func f (xs.take Xi) (xs.drop Xi)))
def Sr(_H:Pos->Option AB)(next:Pos):List AV->Option eZ
 |_=>some (.br (.map next) none none (some (.map [] 0)))
def lU (H:Pos->Option AB)(_next:Pos)(pk:PK)(zero:AV)(ok:Bool):List AV->Option eZ
 |  [m, k]=>
    match (match m with
      | .qX=>match ahG pk k with
        |true=>some none
        |false=>none
      | .map b=>match H b with
        |some (.map es _)=>gX pk k es 0
        |_=>none
      |_=>none)with
    |some (some (_,v))=>some (.val (match ok with|true=>.tuple [v,.bool true]|false=>v))
    |some none=>some (.val (match ok with|true=>.tuple [zero,.bool false]|false=>zero))
    |none=>none
 |_=>none
def yF (H:Pos->Option AB)(_next:Pos)(pk:PK):List AV->Option eZ
 |  [m, k,v]=>match m with
    | .map b=>match H b with
      | some (.map es clock)=>match ahG pk k,gX pk k es 0 with
        |true,some (some (i,_))=>some (.br .undef none (some (b,.map (ua k v es i) clock)) none)
        |true,some none=>some (.br .undef none (some (b,.map (es++[(k,v,clock)]) (clock+1))) none)
        |_,_=>none
      |_=>none
    |_=>none
 |_=>none
def Dh(_H:Pos->Option AB)(next:Pos)(es bytes:Nat)(zero:List AV):List AV->Option eZ
 |  [l,c]=>match Ao l,Ao c with
    | some l,some c=>match Nat.ble l c,Nat.ble (bytes*c) 281474976710656,Nat.ble c 9223372036854775807 with
      |true,true,true=>some (.br (.slice next 0 l (some c) es) none none (some (.cells (cg zero c) 0)))
      |_,_,_=>none
    |_,_=>none
 |_=>none
def Xj(_H:Pos->Option AB)(_next:Pos)(lo hi:Bool):List AV->Option eZ
 |  x ::bs=>match x,bounds lo hi false bs with
    | .str s,some (l,h,_)=>
      let h:=h.getD s.length
      let l:=l.getD 0
      match Nat.ble l h,Nat.ble h s.length with
      |true,true=>some (.val (.str ((s.take h).drop l)))
      |_,_=>none
    |_,_=>none
 |_=>none
def iD (_H:Pos->Option AB)(_next:Pos)(es:Nat)(lo hi mx:Bool):List AV->Option eZ
 |  x ::bs=>match x,bounds lo hi mx bs with
    | .slice b off len cap es',some (l,h,m)=>
      match Nat.beq es es',Nat.ble (l.getD 0) (h.getD len)with
      | true,true=>match cap,m with
        | some c,some m=>match Nat.ble (h.getD len) m,Nat.ble m c with
          |true,true=>some (.val (.slice b (off+l.getD 0*es) (h.getD len - l.getD 0) (some (m - l.getD 0)) es))
          |_,_=>none
        | some c,none=>match Nat.ble (h.getD len) c with
          |true=>some (.val (.slice b (off+l.getD 0*es) (h.getD len - l.getD 0) (some (c - l.getD 0)) es))
          |false=>none
        | none,some m=>match Nat.ble (h.getD len) m,Nat.ble m len with
          |true,true=>some (.val (.slice b (off+l.getD 0*es) (h.getD len - l.getD 0) (some (m - l.getD 0)) es))
          |_,_=>none
        | none,none=>match Nat.ble (h.getD len) len with
          |true=>some (.val (.slice b (off+l.getD 0*es) (h.getD len - l.getD 0) none es))
          |false=>none
      |_,_=>none
    | .fl xs es',some (l,h,m)=>
      match Nat.beq es es' with
      | true=>match m with
        | some m=>match Nat.beq (l.getD 0) 0,Nat.beq (h.getD xs.length) 0,Nat.beq m 0 with
          |true,true,true=>some (.val (.slice .h 0 0 (some 0) es))
          |_,_,_=>none
        | none=>match Nat.ble (l.getD 0) (h.getD xs.length),Nat.ble (h.getD xs.length) xs.length with
          |true,true=>some (.val (.fl ((xs.take (h.getD xs.length)).drop (l.getD 0)) es))
          |_,_=>none
      |false=>none
    | .af,some (l,h,m)=>match Nat.beq (l.getD 0) 0,Nat.beq (h.getD 0) 0,Nat.beq (m.getD 0) 0 with
        |true,true,true=>some (.val .af)
        |_,_,_=>none
    |_,_=>none
 |_=>none
def Xk(_H:Pos->Option AB)(_next:Pos)(off:Nat):List AV->Option eZ
 |  [x]=>match x with
    |.ptr b o=>some (.val (.ptr b (o+off)))
    |.fp xs i j=>some (.val (.fp xs i (j+off)))
    |_=>none
 |_=>none
def sU (_H:Pos->Option AB)(_next:Pos)(es:Nat)(arr:Option Nat):List AV->Option eZ
 |  [x, i]=>match Ao i with
    | some i=>match arr,x with
      | none,.slice b off len _ _=>match Nat.blt i len with
        |true=>some (.val (.ptr b (off+i*es)))
        |false=>none
      | none,.fl xs es'=>match Nat.blt i xs.length,Nat.beq es es' with
        |true,true=>some (.val (.fp xs i 0))
        |_,_=>none
      | some n,.ptr b off=>match Nat.blt i n with
        |true=>some (.val (.ptr b (off+i*es)))
        |false=>none
      |_,_=>none
    |none=>none
 |_=>none
def Ss (_H:Pos->Option AB)(_next:Pos)(off:Nat)(n:Option Nat):List AV->Option eZ
 |  [x] =>match x with
    | .agg cs=>match n with
      | none=>match nth cs off with
        |some v=>some (.val v)
        |none=>none
      |some n=>some (.val (.agg ((cs.drop off).take n)))
    |_=>none
 |_=>none
def ZP(_H:Pos->Option AB)(_next:Pos):List AV->Option eZ
 |  [x,i]=>match x,Ao i with
    | .str s,some i=>match nth s i with
      |some c=>some (.val (.int .u8 (.ofNat c)))
      |none=>none
    |_,_=>none
 |_=>none
def Lq(_H:Pos->Option AB)(_next:Pos)(i:Nat):List AV->Option eZ
 |  [x]=>match x with
    | .tuple vs=>match nth vs i with
      |some v=>some (.val v)
      |none=>none
    |_=>none
 |_=>none
def abT(_H:Pos->Option AB)(_next:Pos)(f:FuncId):List AV->Option eZ
 |xs=>some (.call f xs)
def abU(_H:Pos->Option AB)(_next:Pos):List AV->Option eZ
 |  x::xs=>match x with
    |.func f first captured=>some (.call f (first++(xs++captured)))
    |_=>none
 |_=>none
def Qy(H:Pos->Option AB)(_next:Pos)(k:LK):List AV->Option eZ
 |  [x]=>match k,x with
    |.m,.qX=>some (.val (Mn 0))
    | .m,.map b=>match H b with
      |some (.map es _)=>some (.val (Mn es.length))
      |_=>none
    |.s,.str s=>some (.val (Mn s.length))
    |.l,.af=>some (.val (Mn 0))
    |.l,.slice _ _ n _ _=>some (.val (Mn n))
    |.l,.fl xs _=>some (.val (Mn xs.length))
    |_,_=>none
 |_=>none
def lV (H:  Pos->Option AB)(next:Pos)(es bytes:Nat):List AV->Option eZ
 |  [s, x]=> match fc s,fc x with
    | some n,some m=>
      match Nat.ble ((2*(n+m)+768)*bytes) 281474976710656,Nat.ble (n+m) 9223372036854775807 with
      | true,true=>match Nat.beq m 0,s with
        |true,.slice b off n c es'=>some (.val (.slice b off n c es'))
        |true,.fl xs es'=>some (.val (.fl xs es'))
        |true,.af=>some (.val .af)
        |false,.af=>match dO es m H x with
         |some new=>some (.br (.slice next 0 m none es) none none (some (.cells new 0)))
         |none=>none
        |false,.slice b off n (some c) es'=>
         match Nat.ble (n+m) c with
         |  true=>match H b,dO es m H x with
            |some (.cells cs fz),some new=>match Nat.ble (off+(n+m)*es) cs.length,Nat.ble fz (off+n*es)&&Nat.beq es es',aV new with
             |true,true,true=>some (.br (.slice b off (n+m) (some c) es) none (some (b,.cells (bf cs (off+n*es) new) fz)) none)
             |_,_,_=>none
            |_,_=>none
         |  false=>match dO es n H s,dO es m H x with
            |some gR,some new=>some (.br (.slice next 0 (n+m) none es) none none (some (.cells (gR++new) 0)))
            |_,_=>none
        |false,.slice b off n none es'=>
         match H b,dO es n H s,dO es m H x with
         |  some (.cells _ fz),some gR,some new=>match Nat.ble fz (off+n*es)&&Nat.beq es es',aV new with
            |true,true=>some (.br (.slice next 0 (n+m) none es) (some b) none (some (.cells (gR++new) (fz - off))))
            |_,_=>none
         |_,_,_=>none
        |_,_=>none
      |_,_=>none
    |_,_=>none
 |_=>none
def pP (H : Pos->Option AB)(_next:Pos)(es:Nat):List AV->Option eZ
 |  [d, x]=>match fc d,fc x with
    | some n,some m=>
      let k:=min m n
      match Nat.beq k 0 with
      | true=>match d with
        |.str _=>none
        |_=>some (.val (Mn 0))
      | false=>match d with
        | .slice b off _ _ _=>match H b,dO es k H x with
          | some (.cells cs fz),some new=>match Nat.ble (off+k*es) cs.length,Nat.ble fz off,aV new with
            |true,true,true=>some (.br (Mn k) none (some (b,.cells (bf cs off new) fz)) none)
            |_,_,_=>none
          |_,_=>none
        |_=>none
    |_,_=>none
 |_=>none
def LP(_H:Pos->Option AB)(_next:Pos):List AV->Option eZ
 |  [x,y]=>match x,y with
    |.int k a,.int _ b=>some (.val (.int k (match BD b a with|true=>b|false=>a)))
    |.str a,.str b=>some (.val (.str (match aU a b||kH a b with|true=>a|false=>b)))
    |_,_=>none
 |_=>none
def LQ(_H:Pos->Option AB)(_next:Pos):List AV->Option eZ
 |  [x,y]=>match x,y with
    |.int k a,.int _ b=>some (.val (.int k (match BD a b with|true=>b|false=>a)))
    |.str a,.str b=>some (.val (.str (match aU a b with|true=>b|false=>a)))
    |_,_=>none
 |_=>none
def tj (H:Pos->Option AB)(_next:Pos)(es:Nat)(zero:List AV):List AV->Option eZ
 |  [x] =>match x with
    |.af=>some (.val .undef)
    | .slice b off n _ _=>match Nat.beq n 0 with
      |true=>some (.val .undef)
      | false=>match H b with
        |some (.cells cs fz)=>match Nat.ble (off+n*es) cs.length,Nat.ble fz off,aV (cg zero n)with
         |true,true,true=>some (.br .undef none (some (b,.cells (bf cs off (cg zero n)) fz)) none)
         |_,_,_=>none
        |_=>none
    |_=>none
 |_=>none
def aJ.run(H:Pos->Option AB)(next:Pos):aJ->List AV->Option eZ
 |.move=>ZO H next
 |.pick=>aeC H next
 |.alloc zero=>Sn H next zero
 |.box=>ac8 H next
 |.build zero places=>So H next zero places
 |.buildSlice es len zero places=>xj H next es len zero places
 |.load n=>zK H next n
 |.store n=>Mo H next n
 |.nilCheck=>Pu H next
 |.bin op q=>jH H next op q
 |.un op=>alV H next op
 |.conv k=>Gb H next k
 |.mkIface t=>Sq H next t
 |.mkFunc f Xi=>HC H next f Xi
 |.mkMap=>Sr H next
 |.lookup pk zero ok=>lU H next pk zero ok
 |.mapSet pk=>yF H next pk
 |.mkSlice es bytes zero=>Dh H next es bytes zero
 |.sliceS lo hi=>Xj H next lo hi
 |.sliceL es lo hi mx=>iD H next es lo hi mx
 |.fieldA off=>Xk H next off
 |.idxA es arr=>sU H next es arr
 |.field off n=>Ss H next off n
 |.idxS=>ZP H next
 |.extract i=>Lq H next i
 |.callF f=>abT H next f
 |.callV=>abU H next
 |.lenB k=>Qy H next k
 |.append es bytes=>lV H next es bytes
 |.copyB es=>pP H next es
 |.minB=>LP H next
 |.maxB=>LQ H next
 |.clearS es zero=>tj H next es zero
 |.capB=>λ_=>none
 |.bad=>λ_=>none
inductive iy where
 |t (p:Pos)
 |c (v:AV)
 deriving Inhabited
inductive Cls where
 |pure
 |read
 |new
 |br
 deriving Inhabited
structure b9 where
 dst:Option Pos
 k:aJ
 xs:List iy
 guard:Option (Pos×Bool)
 cls:Cls
 cK:Nat
 deriving Inhabited
inductive AC where
 |skip
 |region (ops:List b9)
 |draw (ops:List (Nat×b9))
 |seq (a b:AC)
 |cond (x:iy) (a b:AC)
 |block (id:Nat) (a:AC)
 |loop (a:AC)
 |exit (id:Nat)
 |ret
 deriving Inhabited
inductive Qz where
 |tmp (p:Pos)
 |cell (p:Pos) (n:Option Nat)
 deriving Inhabited
structure dY where
 code:AC
 nparams:Nat
 results:List Qz
 deriving Inhabited
abbrev Fr:=T AV
structure St where
 heap:T AB
 next:Pos
 deriving Inhabited
inductive oO where
 |normal
 |exit (id:Nat)
 |ret
 deriving Inhabited
def HD(fr:Fr):iy->Option AV
 |.t p=>fr.get p
 |.c v=>some v
def gu(fr:Fr):List iy->Option (List AV)
 |[]=>some []
 |  x::xs=>match HD fr x with
    |some v=>match gu fr xs with
     |some vs=>some (v::vs)
     |none=>none
    |none=>none
def cX(fr:Fr):Option (Pos×Bool)->Option Bool
 |none=>some true
 |  some (p,want)=>match fr.get p with
    |some (.bool b)=>some (b==want)
    |some (.tuple _)=>some false
    |_=>none
def eR(fr:Fr)(d:Option Pos)(v:AV):Fr:=match d with
 |some p=>fr.put (some v) p
 |none=>fr
def Pv(o:Option (Pos×AB))(h:T AB):T AB:=match o with
 |some (b,x)=>h.put (some x) b
 |none=>h
def Mp(o:Option Pos)(h:T AB):T AB:=match o with
 |some b=>h.put none b
 |none=>h
def St.br(st:St)(del:Option Pos)(set:Option (Pos×AB))(new:Option AB):St:=
 match new with
 |some x=>{ heap:=T.put (some x) st.next (Pv set (Mp del st.heap)),next:=st.next.succ }
 |none=>{ heap:=Pv set (Mp del st.heap),next:=st.next }
abbrev aj:=FuncId->List AV->St->Option (AV×St)
def cW(call:aj)(k:aJ)(xs:List AV)(st:St):Option (AV×St):=
 match k.run (λb=>st.heap.get b) st.next xs with
 |some (.val v)=>some (v,st)
 |some (.br v del set new)=>some (v,st.br del set new)
 |some (.call f args)=>call f args st
 |none=>none
def mO (call:aj):List b9->Fr->St->Option (Fr×St)
 |[],fr,st=>some (fr,st)
 |  o::os,fr,st=>match cX fr o.guard with
    |some true=>match gu fr o.xs with
     |  some xs=>match cW call o.k xs st with
        |some (v,st')=>mO call os (eR fr o.dst v) st'
        |none=>none
     |none=>none
    |some false=>mO call os (eR fr o.dst .undef) st
    |none=>none
def fy:AV->AV->Bool
 |.bool a,.bool b=>a==b
 |.int k a,.int k' b=>Mm k k'&&BC a b
 |.str a,.str b=>kH a b
 |.jx,.jx=>true
 |.ptr b o,.ptr b' o'=>Pos.beq b b'&&Nat.beq o o'
 |.af,.af=>true
 |.slice b o l none es,.slice b' o' l' none es'=>Pos.beq b b'&&Nat.beq o o'&&Nat.beq l l'&&Nat.beq es es'
 |.slice b o l (some c) es,.slice b' o' l' (some c') es'=>Pos.beq b b'&&Nat.beq o o'&&Nat.beq l l'&&Nat.beq c c'&&Nat.beq es es'
 |.qX,.qX=>true
 |.map b,.map b'=>Pos.beq b b'
 |.jX,.jX=>true
 | .BS,.BS=>true
 |_,_=>false
def BT:List AV->List AV->Bool
 |[],[]=>true
 |a::x,b::y=>fy a b&&BT x y
 |_,_=>false
def Om(f:AV->AV->Bool):List AV->List AV->Bool
 |[],[]=>true
 |a::x,b::y=>f a b&&Om f x y
 |_,_=>false
def Cv(f:AV->AV->Bool):List (List AV)->List (List AV)->Bool
 |[],[]=>true
 |a::x,b::y=>Om f a b&&Cv f x y
 |_,_=>false
def On:Nat->AV->AV->Bool
 |d+1,.fl a n,.fl a' n'=>Cv (On d) a a'&&Nat.beq n n'
 |_,a,b=>fy a b
def jC:AV->AV->Bool
 |.func f a b,.func f' a' b'=>Nat.beq f f'&&BT a a'&&BT b b'
 |.fl a n,.fl a' n'=>On 3 (.fl a n) (.fl a' n')
 |a,b=>fy a b
def pQ:List AV->List AV->Bool
 |[],[]=>true
 |a::x,b::y=>jC a b&&pQ x y
 |_,_=>false
def eJ:AV->AV->Bool
 |.agg l,.agg l'=>pQ l l'
 |.tuple l,.tuple l'=>pQ l l'
 |a,b=>jC a b
inductive RC where
 |pure
 |new (id:Pos) (aT:AB)
 |br (base:T AB) (h:T AB)
 deriving Inhabited
structure Rec where
 idx:Nat
 o:b9
 v:AV
 c:RC
 nx:Pos
 deriving Inhabited
def snap(cK:Nat)(h:T AB):List Rec->T AB
 |[]=>h
 |  r ::rs=>match r.c with
    | .new id aT=>match cK.testBit r.idx with
      |true=>(snap cK h rs).put (some aT) id
      |false=>snap cK h rs
    |.br _ _=>h
    |.pure=>snap cK h rs
def nW:List (Pos×AB)->T AB->T AB
 |[],h=>h
 |(id,aT)::l,h=>(nW l h).put (some aT) id
def pE(k:aJ)(xs:List AV)(v:AV)(h:T AB):Bool:=
 match k.run (λb=>h.get b) .h xs with
 |some (.val u)=>eJ u v
 |_=>false
def oC(cK:Nat)(k:aJ)(xs:List AV)(v:AV):List (Pos×AB)->List Rec->Bool
 |_,[]=>true
 |  up,r::rs=>match r.c with
    | .new id aT=>match cK.testBit r.idx with
      |true=>oC cK k xs v ((id,aT)::up) rs
      |false=>oC cK k xs v up rs
    | .br base _=>match cK.testBit r.idx with
      |true=>true
      |false=>pE k xs v (nW up (snap cK base rs))&&oC cK k xs v up rs
    |.pure=>oC cK k xs v up rs
def eM (call:aj):List (Nat×b9)->List Rec->T AB->Fr->St->Option (Fr×St)
 |[],_,_,fr,st=>some (fr,st)
 |  (j, o)::os,recs,base,fr,st=>match cX fr o.guard with
    |some false=>eM call os ({ idx:=j,o:=o,v:= .undef,c:= .pure,nx:=st.next }::recs) base (eR fr o.dst .undef) st
    | some true=>match gu fr o.xs with
      |none=>none
      | some xs=>match o.cls with
        | .new=>match o.k.run (λ_=>none) st.next xs with
          |some (.br v none none (some aT))=>
           eM call os ({ idx:=j,o:=o,v:=v,c:= .new st.next aT,nx:=st.next.succ }::recs) base (eR fr o.dst v) { heap:=st.heap.put (some aT) st.next,next:=st.next.succ }
          |_=>none
        | .br=>match cW call o.k xs st with
          |some (v,st')=>eM call os ({ idx:=j,o:=o,v:=v,c:= .br base st'.heap,nx:=st'.next }::recs) st'.heap (eR fr o.dst v) st'
          |none=>none
        | _=>match o.k.run (λ_=>none) .h xs with
          |some (.val v)=>eM call os ({ idx:=j,o:=o,v:=v,c:= .pure,nx:=st.next }::recs) base (eR fr o.dst v) st
          |_=>match o.k.run (λb=>(snap o.cK base recs).get b) .h xs with
           |some (.val v)=>match oC o.cK o.k xs v [] recs with
            |true=>eM call os ({ idx:=j,o:=o,v:=v,c:= .pure,nx:=st.next }::recs) base (eR fr o.dst v) st
            |false=>none
           |_=>none
    |none=>none
def bJ(call:aj)(ih:AC->Fr->St->Option (oO×Fr×St)):AC->Fr->St->Option (oO×Fr×St)
 |.skip,fr,st=>some (.normal,fr,st)
 |  .region ops,fr,st=>match mO call ops fr st with
    |some (fr,st)=>some (.normal,fr,st)
    |none=>none
 |  .draw ops,fr,st=>match eM call ops [] st.heap fr st with
    |some (fr,st)=>some (.normal,fr,st)
    |none=>none
 |  .seq a b,fr,st=>match ih a fr st with
    |some (.normal,fr,st)=>ih b fr st
    |r=>r
 |  .cond x a b,fr,st=>match HD fr x with
    |some (.bool true)=>ih a fr st
    |some (.bool false)=>ih b fr st
    |_=>none
 |  .block id a,fr,st=>match ih a fr st with
    |some (.exit ye,fr,st)=>match Nat.beq ye id with
     |true=>some (.normal,fr,st)
     |false=>some (.exit ye,fr,st)
    |r=>r
 |  .loop a,fr,st=>match ih a fr st with
    |some (.normal,fr,st)=>ih (.loop a) fr st
    |r=>r
 |.exit id,fr,st=>some (.exit id,fr,st)
 |.ret,fr,st=>some (.ret,fr,st)
def exec(call:aj):Nat->AC->Fr->St->Option (oO×Fr×St)
 |0=>λ_ _ _=>none
 |n+1=>bJ call (exec call n)
def params:Nat->List AV->Fr->Fr
 |_,[],fr=>fr
 |i,v::vs,fr=>params (i+1) vs (fr.put (some v) (key i))
def ia (H:Pos->Option AB)(fr:Fr):List Qz->Option (List AV)
 |[]=>some []
 |  .tmp p::rs=>match fr.get p with
    |some v=>match ia H fr rs with
     |some vs=>some (v::vs)
     |none=>none
    |none=>none
 |  .cell p n::rs=>match fr.get p with
    |some q=>match (aJ.load n).run H .h [q]with
     |  some (.val v)=>match ia H fr rs with
        |some vs=>some (v::vs)
        |none=>none
     |_=>none
    |none=>none
def zL:List AV->AV
 |[v]=>v
 |vs=>.tuple vs
abbrev fk:=FuncId->Option (List AV->St->Option (AV×St))
def uE (O:fk)(G:T dY)(m:Nat):Nat->aj
 |0=>λ_ _ _=>none
 |  d+  1=>λf args st=>match O f with
    |some s=>s args st
    |none=>match G.get (key f)with
     |  some F=>match Nat.beq args.length F.nparams with
        |true=>match exec (uE O G m d) m F.code (params 0 args .e) st with
         |some (.normal,fr,st')=>match ia (λb=>st'.heap.get b) fr F.results with
          |some vs=>some (zL vs,st')
          |none=>none
         |some (.ret,fr,st')=>match ia (λb=>st'.heap.get b) fr F.results with
          |some vs=>some (zL vs,st')
          |none=>none
         |_=>none
        |false=>none
     |none=>none
inductive TK where
 |bool
 |int (k:IntKind)
 |string
 |ptr (elem:Nat)
 |slice (elem:Nat)
 |array (n elem:Nat)
 |map (k e:Nat)
 |struct (fs:List (Nat×Nat×Bool))
 |func
 |iface
 |upt
 |other
 deriving Inhabited
structure TI where
 k:TK
 size:Nat
 bytes:Nat
 zero:Option (List AV)
 BE:Bool:=false
 deriving Inhabited
def Su:Value->Option AV
 |.bool b=>some (.bool b)
 |.int k n=>some (.int k n)
 |.string s=>some (.str (s.data.toList.map UInt8.toNat))
 |.pointer none=>some .jx
 |.slice none 0 0=>some .af
 |.map none=>some .qX
 |.func (.func f) ⟨[]⟩ ⟨[]⟩=>some (.func f [] [])
 |.nilFunc=>some .jX
 |.nilIface=>some .BS
 |_=>none
def tq:List Value->Option (List AV)
 |[]=>some []
 |  v::vs=>match Su v,tq vs with
    |some a,some as=>some (a::as)
    |_,_=>none
def aeD:Value->Option AV
 |  .agg cs=>match tq cs.toList with
    |some l=>some (.agg l)
    |none=>none
 |v=>Su v
def uL:Operand->Option iy
 |.tmp t=>some (.t (key t))
 |  .const v=>match aeD v with
    |some a=>some (.c a)
    |none=>none
 |.func f=>some (.c (.func f [] []))
 |.global _=>none
def mP:List Operand->Option (List iy)
 |[]=>some []
 |  x::xs=>match uL x,mP xs with
    |some a,some as=>some (a::as)
    |_,_=>none
def TK.isAgg:TK->Bool
 |.struct _=>true
 |.array _ _=>true
 |_=>false
abbrev TT:=T TI
def Di(tt:TT)(t:Nat):Option gZ:=match tt.get (key t)with
 |  some ti=>match ti.k with
    |.bool=>some .bool
    |.int _=>some .num
    |.string=>some .num
    |.ptr _=>some .ptr
    |.slice _=>some .slice
    |.map _ _=>some .map
    |.func=>some .func
    |.iface=>some .iface
    | .struct fs=>match ti.BE,fields fs with
      |true,some l=>some (.struct l)
      |_,_=>none
    |_=>none
 |none=>none
where
 fields:List (Nat×Nat×Bool)->Option (List (Nat×PK))
  |[]=>some []
  |(off,t,named)::fs=>match named,tt.get (key t),fields fs with
   |true,some ti,some l=>match ti.k with
    |.bool=>some ((off,.b)::l)
    |.int _=>some ((off,.i)::l)
    |.string=>some ((off,.s)::l)
    |_=>none
   |_,_,_=>none
def Dj(ti:TI):Option Nat:=match ti.k.isAgg with
 |true=>some ti.size
 |false=>none
def Dk:Option Operand->List Operand
 |some x=>[x]
 |none=>[]
def kD (tt:TT):Op->Option (aJ×List iy×Cls)
 |  .move x=>match uL x with
    |some a=>some (.move,[a],.pure)
    |none=>none
 |  .assign x=>match uL x with
    |some a=>some (.move,[a],.pure)
    |none=>none
 |  .pick c a b=>match mP [c,a,b]with
    |some l=>some (.pick,l,.pure)
    |none=>none
 |  .alloc t=>match tt.get (key t)with
    |some ti=>match ti.zero with
     |some z=>some (.alloc z,[],.new)
     |none=>none
    |none=>none
 |  .box _ x=>match uL x with
    |some a=>some (.box,[a],.new)
    |none=>none
 |  .build t ps=>match tt.get (key t),mP (ps.toList.map (·.2))with
    |some ti,some l=>match ti.k,ti.zero with
     |  .struct fs,some z=>match places tt fs (ps.toList.map (·.1)),ahm tt fs with
        |some p,true=>some (.build z p,l,.pure)
        |_,_=>none
     |  .array _ e,some z=>match tt.get (key e)with
        |some te=>some (.build z (ps.toList.map λx=>(x.1*te.size,te.size)),l,.pure)
        |none=>none
     |_,_=>none
    |_,_=>none
 |  .buildSlice t len ps=>match tt.get (key t),mP (ps.toList.map (·.2))with
    |some ti,some l=>match ti.k with
     |  .slice e=>match tt.get (key e)with
        | some te=>match te.zero,Nat.ble (len*te.size) 16777216 with
          |some z,true=>some (.buildSlice te.size len z (ps.toList.map (·.1)),l,.new)
          |_,_=>none
        |none=>none
     |_=>none
    |_,_=>none
 |  .load t a=>match tt.get (key t),uL a with
    |some ti,some a=>some (.load (Dj ti),[a],.read)
    |_,_=>none
 |  .store t a x=>match tt.get (key t),mP [a,x]with
    |some ti,some l=>some (.store ti.size,l,.br)
    |_,_=>none
 |  .nilCheck x=>match uL x with
    |some a=>some (.nilCheck,[a],.pure)
    |none=>none
 |  .binOp op t x y _=>match Di tt t,mP [x,y]with
    |some q,some l=>some (.bin op q,l,.pure)
    |none,some l=>match op with
     |.eql=>none
     |.neq=>none
     |_=>some (.bin op .num,l,.pure)
    |_,_=>none
 |  .unOp op _ x=>match uL x with
    |some a=>some (.un op,[a],.pure)
    |none=>none
 |  .convert src dst x=>match tt.get (key src),tt.get (key dst),uL x with
    |some s,some d,some a=>match s.k,d.k with
     |.int _,.int k=>some (.conv (.int k),[a],.pure)
     |.string,.string=>some (.conv .same,[a],.pure)
     |  .slice e,.string=>match tt.get (key e)with
        | some te=>match te.k with
          |.int .u8=>some (.conv .ofBytes,[a],.read)
          |_=>none
        |none=>none
     |_,_=>none
    |_,_,_=>none
 |  .makeInterface t x=>match tt.get (key t),uL x with
    |some ti,some a=>match ti.k with
     |.iface=>none
     |.other=>none
     |_=>some (.mkIface t,[a],.pure)
    |_,_=>none
 |  .makeFunc fn first captured=>match fn,mP (first.toList++captured.toList)with
    |.func f,some l=>some (.mkFunc f first.size,l,.pure)
    |_,_=>none
 |  .makeMap t r=>match tt.get (key t)with
    |some ti=>match ti.k,r with
     |.map _ _,none=>some (.mkMap,[],.new)
     |.map _ _,some (.const (.int _ _))=>some (.mkMap,[],.new)
     |_,_=>none
    |none=>none
 |  .makeSlice t l c=>match tt.get (key t),mP [l,c]with
    |some ti,some xs=>match ti.k with
     |  .slice e=>match tt.get (key e)with
        | some te=>match te.zero with
          |some z=>some (.mkSlice te.size te.bytes z,xs,.new)
          |none=>none
        |none=>none
     |_=>none
    |_,_=>none
 |  .slice t x lo hi mx=>match tt.get (key t),mP ([x]++Dk lo++Dk hi++Dk mx)with
    |some ti,some xs=>match ti.k with
     |  .string=>match mx with
        |none=>some (.sliceS lo.isSome hi.isSome,xs,.pure)
        |some _=>none
     |  .slice e=>match tt.get (key e)with
        |some te=>some (.sliceL te.size lo.isSome hi.isSome mx.isSome,xs,.pure)
        |none=>none
     |_=>none
    |_,_=>none
 |  .fieldAddr t x f=>match tt.get (key t),uL x with
    |some ti,some a=>match ti.k with
     |  .struct fs=>match nth fs f with
        | some (off,ft,_)=>match tt.get (key ft)with
          |some fi=>match Nat.beq fi.size 0 with
           |false=>some (.fieldA off,[a],.pure)
           |true=>none
          |none=>none
        |none=>none
     |_=>none
    |_,_=>none
 |  .field t x f=>match tt.get (key t),uL x with
    |some ti,some a=>match ti.k with
     |  .struct fs=>match nth fs f with
        | some (off,ft,_)=>match tt.get (key ft)with
          |some fi=>some (.field off (Dj fi),[a],.pure)
          |none=>none
        |none=>none
     |_=>none
    |_,_=>none
 |  .indexAddr t x ix=>match tt.get (key t),mP [x,ix]with
    |some ti,some l=>match ti.k with
     |  .slice e=>match tt.get (key e)with
        |some te=>some (.idxA te.size none,l,.pure)
        |none=>none
     |  .array n e=>match tt.get (key e)with
        |some te=>some (.idxA te.size (some n),l,.pure)
        |none=>none
     |_=>none
    |_,_=>none
 |  .index t x ix=>match tt.get (key t),mP [x,ix]with
    |some ti,some l=>match ti.k with
     |.string=>some (.idxS,l,.pure)
     |_=>none
    |_,_=>none
 |  .lookup t x ix ok=>match tt.get (key t),mP [x,ix]with
    |some ti,some l=>match ti.k with
     |  .map k e=>match tt.get (key k),tt.get (key e)with
        | some tk,some te=>match tk.k,te.zero with
          |.int _,some z=>some (.lookup .i (QC te z) ok,l,.read)
          |.string,some z=>some (.lookup .s (QC te z) ok,l,.read)
          |.bool,some z=>some (.lookup .b (QC te z) ok,l,.read)
          |_,_=>none
        |_,_=>none
     |_=>none
    |_,_=>none
 |.mapUpdate t m k v=>alW tt t m k v
 |.insert t m k v=>alW tt t m k v
 |  .extract x i=>match uL x with
    |some a=>some (.extract i,[a],.pure)
    |none=>none
 |  .call c=>match mP c.args.toList with
    |none=>none
    |some xs=>match c.callee with
     |.value (.func f)=>some (.callF f,xs,.br)
     |  .value x=>match uL x with
        |some a=>some (.callV,a::xs,.br)
        |none=>none
     |.invoke _ _=>none
     |  .builtin b=>match b with
        | .len=>match c.argTypes.toList,xs with
          |t::_,[_]=>match tt.get (key t)with
           |some ti=>match ti.k with
            |.string=>some (.lenB .s,xs,.pure)
            |.slice _=>some (.lenB .l,xs,.pure)
            |.map _ _=>some (.lenB .m,xs,.read)
            |_=>none
           |none=>none
          |_,_=>none
        | .append=>match c.argTypes.toList with
          |t::t2::_=>match tt.get (key t),tt.get (key t2)with
           |some ti,some t2i=>match ti.k,t2i.k with
            |_,.int _=>none
            |.slice _,.string=>none
            |  .slice e,_=>match tt.get (key e)with
               | some te=>match te.zero with
                 |some _=>some (.append te.size te.bytes,xs,.br)
                 |none=>none
               |none=>none
            |_,_=>none
           |_,_=>none
          |_=>none
        | .copy=>match c.argTypes.toList with
          |t::_=>match tt.get (key t)with
           |some ti=>match ti.k with
            |  .slice e=>match tt.get (key e)with
               |some te=>some (.copyB te.size,xs,.br)
               |none=>none
            |_=>none
           |none=>none
          |_=>none
        | .min=>match xs with
          |[_,_]=>some (.minB,xs,.pure)
          |_=>none
        | .max=>match xs with
          |[_,_]=>some (.maxB,xs,.pure)
          |_=>none
        | .clear=>match c.argTypes.toList with
          |t::_=>match tt.get (key t)with
           |some ti=>match ti.k with
            |  .slice e=>match tt.get (key e)with
               | some te=>match te.zero with
                 |some z=>some (.clearS te.size z,xs,.br)
                 |none=>none
               |none=>none
            |_=>none
           |none=>none
          |_=>none
        |_=>none
 |_=>none
where
 ahm (tt:TT):List (Nat×Nat×Bool)->Bool
  |[]=>true
  |  (_,t,_)::l=>match tt.get (key t)with
     |some _=>ahm tt l
     |none=>false
 places (tt:TT) (fs:List (Nat×Nat×Bool)):List Nat->Option (List (Nat×Nat))
  |[]=>some []
  |  i ::is=>match nth fs i,places tt fs is with
     | some (off,t,_),some l=>match tt.get (key t)with
       |some ti=>some ((off,ti.size)::l)
       |none=>none
     |_,_=>none
 QC (te:TI) (z:List AV):AV:=match te.k.isAgg with
  |true=>.agg z
  |  false=>match z with
     |[v]=>v
     |_=>.agg z
 alW (tt:TT) (t:Nat) (m k v:Operand):Option (aJ×List iy×Cls):=
  match tt.get (key t),mP [m,k,v]with
  |  some ti,some l=>match ti.k with
     | .map kt _=>match tt.get (key kt)with
       |some tk=>match tk.k with
        |.int _=>some (.mapSet .i,l,.br)
        |.string=>some (.mapSet .s,l,.br)
        |.bool=>some (.mapSet .b,l,.br)
        |_=>none
       |none=>none
     |_=>none
  |_,_=>none
def ac9(ops:Array Oper):Option (Nat×Bool)->Option (Option (Pos×Bool))
 |none=>some none
 |  some (j,b)=>match ops[j]? with
    |some o=>match o.dst with
     |some d=>some (some (key d,b))
     |none=>none
    |none=>none
def ahH:List Oper->List Nat->List Nat
 |[],acc=>acc
 |o::os,acc=>ahH os (acc++[o.after.toList.foldl (λs e=>match Region.binds .any e with
   |true=>s ||| 2 ^ e.on ||| (nth acc e.on).getD 0
   |false=>s) 0])
def uM(tt:TT)(nt:Nat)(ops:Array Oper):List Oper->List Nat->Option (List b9)
 |[],_=>some []
 |  o::os,bs=>match ac9 ops o.guard,uM tt nt ops os bs.tail,asX nt o.dst with
    |some g,some l,true=>match kD tt o.op with
     |some (k,xs,cls)=>some ({ dst:=o.dst.map key,k:=k,xs:=xs,guard:=g,cls:=cls,cK:=bs.headD 0 }::l)
     |none=>some ({ dst:=o.dst.map key,k:= .bad,xs:=[],guard:=g,cls:= .br,cK:=bs.headD 0 }::l)
    |_,_,_=>none
where
 asX (nt:Nat):Option Tmp->Bool
  |none=>true
  |some d=>Nat.blt d nt
def b9.looks(o:b9):List Pos:=
 (match o.guard with|some (p,_)=>[p]|none=>[])++o.xs.filterMap λ|.t p=>some p|.c _=>none
def QD(p:Pos):List Pos->Bool
 |[]=>false
 |q::l=>Pos.beq p q||QD p l
def Xl(a b:b9):Bool:=
 (match a.dst with
  |some d=> !QD d b.looks&&(match b.dst with|some d'=> !Pos.beq d d'|none=>true)
  |none=>true)&&
 (match b.dst with
  |some d=> !QD d a.looks
  |none=>true)
def BF:List (Nat×b9)->List (Nat×b9)->List (Nat×b9)
 |[],held=>held
 |  (i,o)::l,held=>match o.cls with
    |.br=>held.filter (λx=>o.cK.testBit x.1)++(i,o)::BF l (held.filter λx=> !o.cK.testBit x.1)
    |_=>BF l (held++[(i,o)])
def Mq:Nat->List b9->List (Nat×b9)
 |_,[]=>[]
 |i,o::os=>(i,o)::Mq (i+1) os
def QE(m:Nat):Nat->List (Nat×b9)->Bool
 |seen,[]=>Nat.beq seen (2 ^ m - 1)
 |  seen,(i,o)::l=>Nat.blt i m&& !seen.testBit i&&Nat.beq (o.cK &&& seen) o.cK&&(match o.cls with|.br=>Nat.beq o.cK seen|_=>true)&&
    (l.all λx=>x.2.cK.testBit i||Xl o x.2)&&QE m (seen ||| 2 ^ i) l
def vU (tt:TT)(nt:Nat):Code->Option AC
 |.skip=>some .skip
 |  .region _ ops draw=>match uM tt nt ops ops.toList (ahH ops.toList [])with
    |none=>none
    |some l=>match draw with
     |false=>some (.region l)
     |  true=>match QE l.length 0 (BF (Mq 0 l) [])with
        |true=>some (.draw (BF (Mq 0 l) []))
        |false=>none
 |  .seq a b=>match vU tt nt a,vU tt nt b with
    |some a,some b=>some (.seq a b)
    |_,_=>none
 |  .cond c a b=>match uL c,vU tt nt a,vU tt nt b with
    |some c,some a,some b=>some (.cond c a b)
    |_,_,_=>none
 |  .block id a=>match vU tt nt a with
    |some a=>some (.block id a)
    |none=>none
 |  .loop a=>match vU tt nt a with
    |some a=>some (.loop a)
    |none=>none
 |.exit id=>some (.exit id)
 |.ret=>some .ret
 |.refuse _=>some (.region [{ dst:=none,k:= .bad,xs:=[],guard:=none,cls:= .br,cK:=0 }])
 |_=>none
def qY(tt:TT):List ResultVar->Option (List Qz)
 |[]=>some []
 |  .tmp t::rs=>match qY tt rs with
    |some l=>some (.tmp (key t)::l)
    |none=>none
 |  .cell a t::rs=>match tt.get (key t),qY tt rs with
    |some ti,some l=>some (.cell (key a) (Dj ti)::l)
    |_,_=>none
def alX(tt:TT)(f:Func):Option dY:=match f.body with
 |  some c=>match vU tt f.ntmps c,qY tt f.results.toList,Nat.ble (f.params.size+f.nfree) f.ntmps with
    |some a,some rs,true=>some { code:=a,nparams:=f.params.size+f.nfree,results:=rs }
    |_,_,_=>none
 |none=>none
structure Loc where
 aT:Nat
 base:Nat
 size:Nat
abbrev Cells:=Addr->Option Value
inductive aG(ρ:Pos->Loc)(n:Nat)(C:Cells):AV->Value->Prop where
 |bool (b:Bool):aG ρ n C (.bool b) (.bool b)
 |int (k:IntKind) (i:Int):aG ρ n C (.int k i) (.int k i)
 |str (s:List Nat) (bs:ByteArray) (h:bs.data.toList.map UInt8.toNat=s):aG ρ n C (.str s) (.string bs)
 |jx:aG ρ n C .jx (.pointer none)
 |ptr (b:Pos) (off:Nat) (h:b.toNat<n):aG ρ n C (.ptr b off) (.pointer (some ⟨(ρ b).aT,(ρ b).base+off,none⟩))
 |fp (xs:List (List AV)) (i j es:Nat) (aT base:Nat) (cell:Nat->Nat->Value)
  (hl:∀(i:Nat)(cs:List AV),xs[i]? =some cs->cs.length=es)
  (hc:∀(i j:Nat)(cs:List AV)(v:AV),xs[i]? =some cs->cs[j]? =some v->C ⟨aT,base+i*es+j,none⟩=some (cell i j))
  (hv:∀(i j:Nat)(cs:List AV)(v:AV),xs[i]? =some cs->cs[j]? =some v->aG ρ n C v (cell i j)):
  aG ρ n C (.fp xs i j) (.pointer (some ⟨aT,base+i*es+j,none⟩))
 |af:aG ρ n C .af (.slice none 0 0)
 |slice (b:Pos) (off len:Nat) (cap:Option Nat) (es bG:Nat) (a:Addr) (hl:len<=bG) (hc:∀c,cap=some c->c=bG)
  (ha:bG≠0->b.toNat<n/\a=⟨(ρ b).aT,(ρ b).base+off,none⟩/\(ρ b).base+off+bG*es<=(ρ b).size)
  (hk:cap=none->b.toNat<n):
  aG ρ n C (.slice b off len cap es) (.slice (some a) len bG)
 |fl (xs:List (List AV)) (es bG:Nat) (a:Addr) (cell:Nat->Nat->Value) (hl:xs.length<=bG)
  (hs:xs≠[]->a.spot=none)
  (eG:∀(i:Nat)(cs:List AV),xs[i]? =some cs->cs.length=es)
  (hc:∀(i j:Nat)(cs:List AV)(v:AV),xs[i]? =some cs->cs[j]? =some v->C ⟨a.block,a.off+i*es+j,none⟩=some (cell i j))
  (hv:∀(i j:Nat)(cs:List AV)(v:AV),xs[i]? =some cs->cs[j]? =some v->aG ρ n C v (cell i j)):
  aG ρ n C (.fl xs es) (.slice (some a) xs.length bG)
 |qX:aG ρ n C .qX (.map none)
 |map (b:Pos) (h:b.toNat<n):aG ρ n C (.map b) (.map (some (ρ b).aT))
 |func (f:FuncId) (x y:List AV) (x' y':Array Value) (hx:x.length=x'.size) (hy:y.length=y'.size)
  (su:∀(i:Nat)(v:AV)(v':Value),x[i]? =some v->x'[i]? =some v'->aG ρ n C v v') (zY:∀(i:Nat)(v:AV)(v':Value),y[i]? =some v->y'[i]? =some v'->aG ρ n C v v'):
  aG ρ n C (.func f x y) (.func (.func f) x' y')
 |jX:aG ρ n C .jX .nilFunc
 |BS:aG ρ n C .BS .nilIface
 |iface (t:TypeId) (v:AV) (x:Value) (h:aG ρ n C v x):aG ρ n C (.iface t v) (.iface t x)
 |agg (l:List AV) (cs:Array Value) (hl:l.length=cs.size) (h:∀(i:Nat)(v:AV)(v':Value),l[i]? =some v->cs[i]? =some v'->aG ρ n C v v'):
  aG ρ n C (.agg l) (.agg cs)
 |tuple (l:List AV) (cs:Array Value) (hl:l.length=cs.size) (h:∀(i:Nat)(v:AV)(v':Value),l[i]? =some v->cs[i]? =some v'->aG ρ n C v v'):
  aG ρ n C (.tuple l) (.tuple cs)
theorem aG.mono{ρ ρ':Pos->Loc}{n n':Nat}{C:Cells}{v:AV}{x:Value}(h:aG ρ n C v x)
  (bM:∀b:Pos,b.toNat<n->ρ' b=ρ b) (hn:n<=n'):aG ρ' n' C v x:=by
 induction h with
 |bool b=>exact .bool b
 |int k i=>exact .int k i
 |str s bs h=>exact .str s bs h
 |jx=>exact .jx
 |ptr b off h=>rw[<-bM b h];exact .ptr b off (by omega)
 |fp xs i j es aT base cell hl hc _ ih=>exact .fp xs i j es aT base cell hl hc ih
 |af=>exact .af
 |slice b off len cap es bG a hl hc ha hk=>
  refine .slice b off len cap es bG a hl hc (λh0=> ?_) (λh0=>by have:=hk h0;omega);obtain⟨h1,h2,h3⟩:=ha h0;rw[bM b h1];exact⟨by omega,h2,h3⟩
 |fl xs es bG a cell hl hs eG hc _ ih=>exact .fl xs es bG a cell hl hs eG hc ih
 |qX=>exact .qX
 |map b h=>rw[<-bM b h];exact .map b (by omega)
 |func f x y x' y' hx hy _ _ ih1 ih2=>exact .func f x y x' y' hx hy ih1 ih2
 |jX=>exact .jX
 |BS=>exact .BS
 |iface t v x _ ih=>exact .iface t v x ih
 |agg l cs hl _ ih=>exact .agg l cs hl ih
 |tuple l cs hl _ ih=>exact .tuple l cs hl ih
def aN(ρ:Pos->Loc)(n:Nat)(C:Cells)(l:List AV)(xs:List Value):Prop:=
 l.length=xs.length/\∀(i:Nat)(v:AV)(x:Value),l[i]? =some v->xs[i]? =some x->aG ρ n C v x
section
variable{ρ ρ':Pos->Loc}{n n':Nat}{C:Cells}
theorem aN.mono{l:List AV}{xs:List Value}(h:aN ρ n C l xs)(bM:∀b:Pos,b.toNat<n->ρ' b=ρ b)(hn:n<=n'):
 aN ρ' n' C l xs:=⟨h.1,λi v x hv hx=>(h.2 i v x hv hx).mono bM hn⟩
theorem aN.nil:aN ρ n C [] []:=⟨rfl,λ_ _ _ h=>by simp at h⟩
theorem aN.cons{v:AV}{x:Value}{l:List AV}{xs:List Value}(h:aG ρ n C v x)(hs:aN ρ n C l xs):aN ρ n C (v::l) (x::xs):=
 ⟨by simp[hs.1],λi u y hu hy=>by
  cases i with
  |zero=>simp at hu hy;subst hu;subst hy;exact h
  |succ i=>simp at hu hy;exact hs.2 i u y hu hy⟩
theorem aN.cons_inv{v:AV}{l:List AV}{xs:List Value}(h:aN ρ n C (v::l) xs):∃x Cw,xs=x::Cw/\aG ρ n C v x/\aN ρ n C l Cw:=by
 cases xs with
 |nil=>have:=h.1;simp at this
 |cons x Cw=>
  exact⟨x,Cw,rfl,h.2 0 v x rfl rfl,by have:=h.1;simpa using this,λi u y hu hy=>h.2 (i+1) u y (by simpa using hu) (by simpa using hy)⟩
theorem aN.qQ{xs:List Value}(h:aN ρ n C [] xs):xs=[]:=by
 have:=h.1;cases xs with
 |nil=>rfl
 |cons a b=>simp at this
theorem aN.append{l m:List AV}{xs ys:List Value}(h:aN ρ n C l xs)(k:aN ρ n C m ys):aN ρ n C (l++m) (xs++ys):=by
 refine⟨by simp[h.1,k.1],λi v x hv hx=> ?_⟩;rcases Zj3 i l.length with hi|hi
 .rw[Zc3 hi]at hv;rw[Zc3 (by rw[<-h.1];exact hi)]at hx;exact h.2 i v x hv hx
 .rw[Zc1 hi]at hv;rw[Zc1 (by rw[<-h.1];exact hi), <-h.1]at hx;exact k.2 _ v x hv hx
theorem aN.take{l:List AV}{xs:List Value}(h:aN ρ n C l xs)(m:Nat):aN ρ n C (l.take m) (xs.take m):=by
 refine⟨by simp[h.1],λi v x hv hx=> ?_⟩;rw[Ze1]at hv hx;split at hv
 .rename_i hi;rw[Zb4 hi]at hx;exact h.2 i v x hv hx
 .cases hv
theorem aN.drop{l:List AV}{xs:List Value}(h:aN ρ n C l xs)(m:Nat):aN ρ n C (l.drop m) (xs.drop m):=by refine⟨by simp[h.1],λi v x hv hx=> ?_⟩;rw[Ze4]at hv hx;exact h.2 _ v x hv hx
theorem aN.bf{l vs:List AV}{xs ys:List Value}(h:aN ρ n C l xs)(k:aN ρ n C vs ys)(i:Nat):
  aN ρ n C (Go.Ai.bf l i vs) (Go.Ai.bf xs i ys):=by
 unfold Go.Ai.bf;rw[k.1];exact(h.take i).append (k.append (h.drop _))
theorem aN.get{l:List AV}{xs:List Value}(h:aN ρ n C l xs){i:Nat}{v:AV}(hv:l[i]? =some v):∃x,xs[i]? =some x/\aG ρ n C v x:=by
 have hi:i<xs.length:=by rw[<-h.1];exact(Za1.1 hv).1
 exact⟨xs[i],H0 hi,h.2 i v _ hv (H0 hi)⟩
theorem aG.QF{l:List AV}{cs:Array Value}(h:aN ρ n C l cs.toList):aG ρ n C (.agg l) (.agg cs):=
 .agg l cs (by simpa using h.1) λi v x hv hx=>h.2 i v x hv (by simpa using hx)
theorem aG.yG{l:List AV}{cs:Array Value}(h:aN ρ n C l cs.toList):aG ρ n C (.tuple l) (.tuple cs):=
 .tuple l cs (by simpa using h.1) λi v x hv hx=>h.2 i v x hv (by simpa using hx)
theorem aG.Gc{l:List AV}{x:Value}(h:aG ρ n C (.agg l) x):∃cs,x= .agg cs/\aN ρ n C l cs.toList:=by
 cases h with|agg _ cs hl h=>exact⟨cs,rfl,by simpa using hl,λi v x hv hx=>h i v x hv (by simpa using hx)⟩
theorem aG.Xm{l:List AV}{x:Value}(h:aG ρ n C (.tuple l) x):∃cs,x= .tuple cs/\aN ρ n C l cs.toList:=by
 cases h with|tuple _ cs hl h=>exact⟨cs,rfl,by simpa using hl,λi v x hv hx=>h i v x hv (by simpa using hx)⟩
theorem aG.Sv{f:FuncId}{a b:List AV}{x:Value}(h:aG ρ n C (.func f a b) x):
  ∃a' b',x= .func (.func f) a' b'/\aN ρ n C a a'.toList/\aN ρ n C b b'.toList:=by
 cases h with
 |func _ _ _ a' b' hx hy h1 h2=>exact⟨a',b',rfl,⟨by simpa using hx,λi v x hv hx=>h1 i v x hv (by simpa using hx)⟩,⟨by simpa using hy,λi v x hv hx=>h2 i v x hv (by simpa using hx)⟩⟩
theorem aG.cells{v:AV}{x:Value}(h:aG ρ n C v x):aN ρ n C v.cells x.cells.toList:=by
 by_cases hv:∃l,v= .agg l
 .obtain⟨l,rfl⟩:=hv;obtain⟨cs,rfl,hs⟩:=h.Gc;exact hs
 .have h1:v.cells=[v]:=(by cases v<;>first|rfl|exact absurd ⟨_,rfl⟩ hv);have h2:x.cells= #[x]:=(by cases h<;>first|rfl|exact absurd ⟨_,rfl⟩ hv);rw[h1,h2];exact aN.cons h aN.nil
def ud(ρ:Pos->Loc)(n:Nat)(C:Cells)(L:Loc)(w:World):AB->Prop
 |.cells cs fz=>∃(c:Array Value) (e:TypeId) (fr:Nat×Nat),w.heap[L.aT]? =some (.cells c e fr)/\c.size=L.size/\L.base+cs.length<=c.size/\
  aN ρ n C cs ((c.toList.drop L.base).take cs.length)/\∀i,fz<=i->L.base+i<c.size->¬(fr.1<=L.base+i/\L.base+i<fr.2)
 |.map es clock=>∃(es':Array MapEntry),w.heap[L.aT]? =some (.map es' clock)/\es.length=es'.size/\
  ∀(i:Nat)(e:AV×AV×Nat)(e':MapEntry),es[i]? =some e->es'[i]? =some e'->aG ρ n C e.1 e'.key/\aG ρ n C e.2.1 e'.val/\e.2.2=e'.born
theorem ud.mono{L:Loc}{w:World}{x:AB}(h:ud ρ n C L w x)(bM:∀b:Pos,b.toNat<n->ρ' b=ρ b)(hn:n<=n'):ud ρ' n' C L w x:=by
 cases x with
 |cells cs fz=>obtain⟨c,e,fr,h1,h2,h3,h4,h5⟩:=h;exact⟨c,e,fr,h1,h2,h3,h4.mono bM hn,h5⟩
 |map es clock=>obtain⟨es',h1,h2,h3⟩:=h;exact⟨es',h1,h2,λi e e' he sw=>let⟨a,b,c⟩:=h3 i e e' he sw;⟨a.mono bM hn,b.mono bM hn,c⟩⟩
theorem ud.of_heap{L:Loc}{w w':World}{x:AB}(h:ud ρ n C L w x)(hw:w'.heap[L.aT]? =w.heap[L.aT]?):ud ρ n C L w' x:=by
 cases x with
 |cells cs fz=>obtain⟨c,e,fr,h1,h2⟩:=h;exact⟨c,e,fr,by rw[hw];exact h1,h2⟩
 |map es clock=>obtain⟨es',h1,h2⟩:=h;exact⟨es',by rw[hw];exact h1,h2⟩
end
structure cN(ρ:Pos->Loc)(C:Cells)(st:St)(w:World):Prop where
 live:∀b x,st.heap.get b=some x->b.toNat<st.next.toNat/\(ρ b).aT<w.heap.size/\ud ρ st.next.toNat C (ρ b) w x
 inj:∀b b' x x',st.heap.get b=some x->st.heap.get b'=some x'->(ρ b).aT=(ρ b').aT->b=b'
 eP:∀a v,C a=some v->w.cell? a=some v/\∀b x,st.heap.get b=some x->(ρ b).aT≠a.block
 whole:∀a v,C a=some v->∀o,C ⟨a.block,o,none⟩=none->w.cell? ⟨a.block,o,none⟩=none
structure qJ(ρ:Pos->Loc)(st:St)(w:World)(ρ':Pos->Loc)(st':St)(w':World):Prop where
 os:w'.os=w.os
 tape:w'.tape=w.tape
 output:w'.output=w.output
 size:w.heap.size<=w'.heap.size
 block:∀k,k<w.heap.size->(∀b x,st.heap.get b=some x->(ρ b).aT≠k)->w'.heap[k]? =w.heap[k]?
 yH:∀b x,st'.heap.get b=some x->(∃b' x',st.heap.get b'=some x'/\(ρ b').aT=(ρ' b).aT)\/w.heap.size<=(ρ' b).aT
theorem qJ.refl(ρ:Pos->Loc)(st:St)(w:World):qJ ρ st w ρ st w:=⟨rfl,rfl,rfl,Za5 _,λ_ _ _=>rfl,λb x h=>.inl ⟨b,x,h,rfl⟩⟩
theorem qJ.trans{ρ kj vD:Pos->Loc}{st bK A3:St}{w w1 w2:World}(h:qJ ρ st w kj bK w1)(k:qJ kj bK w1 vD A3 w2):qJ ρ st w vD A3 w2 where
 os:=k.os.trans h.os
 tape:=k.tape.trans h.tape
 output:=k.output.trans h.output
 size:=Zb2 h.size k.size
 block q hq hn:=by
  rw[k.block q (Zd0 hq h.size) λb x hb e=> ?_,h.block q hq hn];rcases h.yH b x hb with⟨b',x',h1,h2⟩|h1
  .exact hn b' x' h1 (h2.trans e)
  .rw[e]at h1;omega
 yH b x hb:=by
  rcases k.yH b x hb with⟨b',x',h1,h2⟩|h1
  . rcases h.yH b' x' h1 with⟨b'',x'',h3,h4⟩|h3
    .exact .inl ⟨b'',x'',h3,h4.trans h2⟩
    .right;rw[<-h2];exact h3
  .exact .inr (Zb2 h.size h1)
def lz(ρ:Pos->Loc)(n:Nat)(C:Cells)(fr:Fr)(tmps:Array Value):Prop:=
 ∀p v,fr.get p=some v->∃x,tmps[p.toNat - 1]? =some x/\aG ρ n C v x
theorem Pos.toNat_pos(p:Pos):0<p.toNat:=by
 induction p with
 |h=>simp[Pos.toNat]
 |o p ih=>simp[Pos.toNat];exact ih
 |i p ih=>simp[Pos.toNat]
theorem Pos.toNat_inj:∀{p q:Pos},p.toNat=q.toNat->p=q
 |.h,.h,_=>rfl
 |.h,.o q,hq=>by have:=q.toNat_pos;simp[Pos.toNat]at hq;omega
 |.h,.i q,hq=>by have:=q.toNat_pos;simp[Pos.toNat]at hq;omega
 |.o p,.h,hq=>by have:=p.toNat_pos;simp[Pos.toNat]at hq;omega
 |.o p,.o q,hq=>by simp[Pos.toNat]at hq;rw[Pos.toNat_inj (p:=p) (q:=q) (by omega)]
 |.o p,.i q,hq=>by simp[Pos.toNat]at hq;omega
 |.i p,.h,hq=>by have:=p.toNat_pos;simp[Pos.toNat]at hq;omega
 |.i p,.o q,hq=>by simp[Pos.toNat]at hq;omega
 |.i p,.i q,hq=>by simp[Pos.toNat]at hq;rw[Pos.toNat_inj (p:=p) (q:=q) (by omega)]
theorem Pos.aH(p:Pos):p.succ.toNat=p.toNat+1:=by
 induction p with
 |h=>rfl
 |o p ih=>simp[Pos.succ,Pos.toNat]
 |i p ih=>simp[Pos.succ,Pos.toNat,ih];omega
theorem Pos.Sw:∀(f m:Nat),0<m->m<2 ^ (f+1)->(Pos.ahF f m).toNat=m
 |0,m,hp,hl=>by
  simp at hl;have:m=1:=by omega
  subst this;rfl
 |f +   1,m,hp,hl=>by
  unfold Pos.ahF;split
  . (rename_i hb;have:=Zb5 hb;have:m=1:=by omega);subst this;rfl
  . rename_i hb;have h1:1<m:=by
        rcases Zj3 1 m with hh|hh
        .exact hh
        .rw[Nat.ble_eq_true_of_le hh]at hb;cases hb
    have h2:m / 2<2 ^ (f+1):=(by have:2 ^ (f+1+1)=2*2 ^ (f+1):=(by rw[Nat.pow_succ];omega);omega);split
    .   rename_i he;have:=Za8 he;simp only[Pos.toNat];rw[Pos.Sw f _ (by omega) h2];omega
    .   rename_i he;have:=Ze9 he;simp only[Pos.toNat];rw[Pos.Sw f _ (by omega) h2];omega
theorem iX(n:Nat):(key n).toNat=n+1:=Pos.Sw _ (n+1) (by omega) Nat.lt_log2_self
theorem T.dZ{α:Type}(p:Pos):(T.e:T α).get p=none:=by cases p<;>rfl
theorem T.gQ{α:Type}(x:Option α)(p:Pos)(t:T α):(T.put x p t).get p=x:=by
 induction p generalizing t with
 |h=>cases t<;>rfl
 |o p ih=>cases t<;>exact ih _
 |i p ih=>cases t<;>exact ih _
theorem T.cJ{α:Type}(x:Option α){p q:Pos}(h:p≠q)(t:T α):(T.put x p t).get q=t.get q:=by
 induction p generalizing q t with
 |h=>cases q with
  |h=>exact absurd rfl h
  |o q=>cases t<;>simp[T.put,T.get,T.dZ]
  |i q=>cases t<;>simp[T.put,T.get,T.dZ]
 |o p ih=>cases q with
  |h=>cases t<;>simp[T.put,T.get]
  | o q=>cases t with
    |e=>simp only[T.put,T.get];rw[ih (λe=>h (by rw[e])),T.dZ]
    |n l v r=>simp only[T.put,T.get];exact ih (λe=>h (by rw[e])) l
  |i q=>cases t<;>simp[T.put,T.get,T.dZ]
 |i p ih=>cases q with
  |h=>cases t<;>simp[T.put,T.get]
  |o q=>cases t<;>simp[T.put,T.get,T.dZ]
  | i q=>cases t with
    |e=>simp only[T.put,T.get];rw[ih (λe=>h (by rw[e])),T.dZ]
    |n l v r=>simp only[T.put,T.get];exact ih (λe=>h (by rw[e])) r
theorem Pos.beq_eq:∀{p q:Pos},p.beq q=true↔p=q
 |.h,.h=>by simp[Pos.beq]
 |.h,.o q=>by simp[Pos.beq]
 |.h,.i q=>by simp[Pos.beq]
 |.o p,.h=>by simp[Pos.beq]
 |.o p,.o q=>by simp only[Pos.beq,Pos.o.injEq];exact Pos.beq_eq
 |.o p,.i q=>by simp[Pos.beq]
 |.i p,.h=>by simp[Pos.beq]
 |.i p,.o q=>by simp[Pos.beq]
 |.i p,.i q=>by simp only[Pos.beq,Pos.i.injEq];exact Pos.beq_eq
end
noncomputable section
section
variable{R:Type}
def BU{α:Type}(p:Pos):T α->Option α:=
 Pos.rec (motive:=λ_=>T α->Option α)
    (λt=>T.rec (motive:=λ_=>Option α) none (λ_ v _ _ _=>v) t)
    (λ_ ih t=>T.rec (motive:=λ_=>Option α) none (λl _ _ _ _=>ih l) t)
    (λ_ ih t=>T.rec (motive:=λ_=>Option α) none (λ_ _ r _ _=>ih r) t) p
def xK{α:Type}(x:Option α)(p:Pos):T α->(T α->R)->R:=
 Pos.rec (motive:=λ_=>T α->(T α->R)->R)
    (λt k=>T.rec (motive:=λ_=>R) (k (.n .e x .e)) (λl _ r _ _=>k (.n l x r)) t)
    (λ_ ih t k=>T.rec (motive:=λ_=>R) (ih .e λl=>k (.n l none .e)) (λl v r _ _=>ih l λl=>k (.n l v r)) t)
    (λ_ ih t k=>T.rec (motive:=λ_=>R) (ih .e λr=>k (.n .e none r)) (λl v r _ _=>ih r λr=>k (.n l v r)) t) p
def vW(n:Nat)(k:Nat->R):R:=Nat.rec (motive:=λ_=>R) (k 0) (λm _=>k (Nat.succ m)) n
def abV(n:Int)(k:Int->R):R:=match n with
 |.ofNat m=>vW m λm=>k (.ofNat m)
 |.negSucc m=>vW m λm=>k (.negSucc m)
def afH(b:Bool)(k:Bool->R):R:=match b with
 |true=>k true
 |false=>k false
def HE{α:Type}(l:List α):(List α->R)->R:=
 List.rec (motive:=λ_=>(List α->R)->R) (λk=>k []) (λa _ ih k=>ih λt=>k (a::t)) l
def Sx(p:Pos):(Pos->R)->R:=
 Pos.rec (motive:=λ_=>(Pos->R)->R) (λk=>k .h) (λ_ ih k=>ih λp=>k (.o p)) (λ_ ih k=>ih λp=>k (.i p)) p
def ahI(o:Option Nat)(k:Option Nat->R):R:=match o with
 |none=>k none
 |some n=>vW n λn=>k (some n)
def Xn(v:AV)(k:AV->R):R:=match v with
 |.bool b=>afH b λb=>k (.bool b)
 |.int i n=>abV n λn=>k (.int i n)
 |.str s=>HE s λs=>k (.str s)
 |.ptr b o=>Sx b λb=>vW o λo=>k (.ptr b o)
 |.slice b o l c es=>Sx b λb=>vW o λo=>vW l λl=>ahI c λc=>k (.slice b o l c es)
 |.map b=>Sx b λb=>k (.map b)
 |.func f x y=>HE x λx=>HE y λy=>k (.func f x y)
 |.agg l=>HE l λl=>k (.agg l)
 |v=>k v
def ZQ(l:List AV):(List AV->R)->R:=
 List.rec (motive:=λ_=>(List AV->R)->R) (λk=>k []) (λa _ ih k=>Xn a λa=>ih λt=>k (a::t)) l
def xk(v:AV)(k:AV->R):R:=match v with
 |.tuple l=>ZQ l λl=>k (.tuple l)
 |v=>Xn v k
def LR(x:AB)(k:AB->R):R:=match x with
 |.cells cs fz=>HE cs λcs=>vW fz λfz=>k (.cells cs fz)
 |.map es c=>HE es λes=>vW c λc=>k (.map es c)
def ada(p:Pos):(Pos->R)->R:=
 Pos.rec (motive:=λ_=>(Pos->R)->R) (λk=>k (.o .h)) (λq _ k=>k (.i q)) (λ_ ih k=>ih λp=>k (.o p)) p
variable(z:R)
def evK(fr:Fr)(x:iy)(k:AV->R):R:=match x with
 |  .t p=>match BU p fr with
    |some v=>k v
    |none=>z
 |.c v=>k v
def aeE(fr:Fr)(xs:List iy):(List AV->R)->R:=
 List.rec (motive:=λ_=>(List AV->R)->R) (λk=>k []) (λx _ ih k=>evK z fr x λv=>ih λvs=>k (v::vs)) xs
def LS(fr:Fr)(g:Option (Pos×Bool))(yes no:R):R:=match g with
 |none=>yes
 |  some (p,want)=>match BU p fr with
    |some (.bool b)=>match b==want with
     |true=>yes
     |false=>no
    |some (.tuple _)=>no
    |_=>z
def oD(fr:Fr)(d:Option Pos)(v:AV)(k:Fr->R):R:=match d with
 |some p=>xK (some v) p fr k
 |none=>k fr
def delK(o:Option Pos)(h:T AB)(k:T AB->R):R:=match o with
 |some b=>xK none b h k
 |none=>k h
def aqp(o:Option (Pos×AB))(h:T AB)(k:T AB->R):R:=match o with
 |some (b,x)=>LR x λx=>xK (some x) b h k
 |none=>k h
abbrev tr(R:Type):=FuncId->List AV->St->(AV->St->R)->R
def aqq(st:St)(del:Option Pos)(set:Option (Pos×AB))(new:Option AB)(k:St->R):R:=
 delK del st.heap λh=>aqp set h λh=>match new with
    |some x=>LR x λx=>xK (some x) st.next h λh=>ada st.next λn=>k { heap:=h,next:=n }
    |none=>k { heap:=h,next:=st.next }
def ZR(call:tr R)(op:aJ)(xs:List AV)(st:St)(k:AV->St->R):R:=
 match op.run (λb=>BU b st.heap) st.next xs with
 |some (.val v)=>xk v λv=>k v st
 |some (.br v del set new)=>xk v λv=>aqq st del set new λst=>k v st
 |some (.call f args)=>HE args λargs=>call f args st k
 |none=>z
def aeF(call:tr R)(ops:List b9):Fr->St->(Fr->St->R)->R:=
 List.rec (motive:=λ_=>Fr->St->(Fr->St->R)->R) (λfr st k=>k fr st)
    (λo _ ih fr st k=>LS z fr o.guard
     (aeE z fr o.xs λxs=>ZR z call o.k xs st λv st=>oD fr o.dst v λfr=>ih fr st k)
     (oD fr o.dst .undef λfr=>ih fr st k)) ops
def Sy (cK:Nat)(h:T AB)(recs:List Rec):(T AB->R)->R:=
 List.rec (motive:=λ_=>(T AB->R)->R) (λk=>k h)
    (fun r _ ih k=>match r.c with
     |  .new id aT=>match cK.testBit r.idx with
        |true=>ih λh'=>xK (some aT) id h' k
        |false=>ih k
     |.br _ _=>k h
     |.pure=>ih k) recs
def ahJ(h:T AB)(l:List (Pos×AB)):(T AB->R)->R:=
 List.rec (motive:=λ_=>(T AB->R)->R) (λk=>k h) (λx _ ih k=>ih λh'=>xK (some x.2) x.1 h' k) l
def ahK(op:aJ)(xs:List AV)(v:AV)(h:T AB):Bool:=
 match op.run (λb=>BU b h) .h xs with
 |some (.val u)=>eJ u v
 |_=>false
def vE(cK:Nat)(op:aJ)(xs:List AV)(v:AV):List (Pos×AB)->List Rec->Bool
 |_,[]=>true
 |  up,r::rs=>match r.c with
    | .new id aT=>match cK.testBit r.idx with
      |true=>vE cK op xs v ((id,aT)::up) rs
      |false=>vE cK op xs v up rs
    | .br base _=>match cK.testBit r.idx with
      |true=>true
      |false=>(Sy cK base rs λh=>ahJ h up λh=>ahK op xs v h)&&vE cK op xs v up rs
    |.pure=>vE cK op xs v up rs
def Sz (call:tr R)(ops:List (Nat×b9)):List Rec->T AB->Fr->St->(Fr->St->R)->R:=
 List.rec ( motive:=λ_=>List Rec->T AB->Fr->St->(Fr->St->R)->R)
    (λ_ _ fr st k=>k fr st)
    (fun jo _ ih recs base fr st k=>LS z fr jo.2.guard
     (aeE z fr jo.2.xs λxs=>match jo.2.cls with
        | .new=>match jo.2.k.run (λ_=>none) st.next xs with
          |some (.br v none none (some aT))=>xk v λv=>LR aT λaT=>oD fr jo.2.dst v λfr=>ada st.next λn=>xK (some aT) st.next st.heap λh=>
              ih ({ idx:=jo.1,o:=jo.2,v:=v,c:= .new st.next aT,nx:=n }::recs) base fr { heap:=h,next:=n } k
          |_=>z
        |.br=>ZR z call jo.2.k xs st λv st'=>oD fr jo.2.dst v λfr=>ih ({ idx:=jo.1,o:=jo.2,v:=v,c:= .br base st'.heap,nx:=st'.next }::recs) st'.heap fr st' k
        | _ =>match jo.2.k.run (λ_=>none) .h xs with
          |some (.val v)=>xk v λv=>oD fr jo.2.dst v λfr=>ih ({ idx:=jo.1,o:=jo.2,v:=v,c:= .pure,nx:=st.next }::recs) base fr st k
          | _ =>Sy jo.2.cK base recs λh=>match jo.2.k.run (λb=>BU b h) .h xs with
            | some (.val v)=>xk v λv=>match vE jo.2.cK jo.2.k xs v [] recs with
              |true=>oD fr jo.2.dst v λfr=>ih ({ idx:=jo.1,o:=jo.2,v:=v,c:= .pure,nx:=st.next }::recs) base fr st k
              |false=>z
            |_=>z)
     (oD fr jo.2.dst .undef λfr=>ih ({ idx:=jo.1,o:=jo.2,v:= .undef,c:= .pure,nx:=st.next }::recs) base fr st k)) ops
abbrev ahn(R:Type):=AC->Fr->St->(Fr->St->R)->(Nat->Fr->St->R)->(Fr->St->R)->R
def vF(call:tr R)(ih:ahn R):ahn R
 |.skip,fr,st,kn,_,_=>kn fr st
 |.region ops,fr,st,kn,_,_=>aeF z call ops fr st kn
 |.draw ops,fr,st,kn,_,_=>Sz z call ops [] st.heap fr st kn
 |.seq a b,fr,st,kn,kx,kr=>ih a fr st (λfr st=>ih b fr st kn kx kr) kx kr
 |  .cond x a b,fr,st,kn,kx,kr=>evK z fr x λv=>match v with
    |.bool true=>ih a fr st kn kx kr
    |.bool false=>ih b fr st kn kx kr
    |_=>z
 | .block id a,fr,st,kn,kx,kr=>ih a fr st kn (λye fr st=>match Nat.beq ye id with
     |true=>kn fr st
     |false=>kx ye fr st) kr
 |.loop a,fr,st,kn,kx,kr=>ih a fr st (λfr st=>ih (.loop a) fr st kn kx kr) kx kr
 |.exit id,fr,st,_,kx,_=>kx id fr st
 |.ret,fr,st,_,_,kr=>kr fr st
def adb(call:tr R)(n:Nat):ahn R:=
 Nat.rec (motive:=λ_=>ahn R) (λ_ _ _ _ _ _=>z) (λ_ ih=>vF z call ih) n
def QG(vs:List AV):Nat->Fr->(Fr->R)->R:=
 List.rec (motive:=λ_=>Nat->Fr->(Fr->R)->R) (λ_ fr k=>k fr)
    (λv _ ih i fr k=>xK (some v) (key i) fr λfr=>ih (i+1) fr k) vs
def Gd(st:St)(fr:Fr)(rs:List Qz)(k:AV->R):R:=
 match ia (λb=>BU b st.heap) fr rs with
 |  some vs=>ZQ vs λvs=>match vs with
    |[v]=>k v
    |vs=>k (.tuple vs)
 |none=>z
def Oo (O:fk  )(G:T dY)(m:Nat)(d:Nat):tr R:=
 Nat.rec (motive:=λ_=>tr R) (λ_ _ _ _=>z)
    (fun _ ih f args st k=>match O f with
     |  some s=>match s args st with
        |some (v,st')=>xk v λv=>k v st'
        |none=>z
     |  none=>match BU (key f) G with
        |some F=>match Nat.beq args.length F.nparams with
         |true=>QG args 0 .e λfr=>adb z ih m F.code fr st
              (λfr st=>Gd z st fr F.results λv=>k v st)
              (λ_ _ _=>z)
              (λfr st=>Gd z st fr F.results λv=>k v st)
         |false=>z
        |none=>z) d
end
end
end Go.Ai
