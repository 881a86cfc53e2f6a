/- An evaluator over plain values, its compiler and its relation to worlds. -/
import Derived.Orders
import Derived.Below
set_option linter.all false
def H0:=@List.getElem?_eq_getElem
def H5:=@Option.some.injEq
def Za0:=@decide_eq_true
def Za1:=@List.getElem?_eq_some_iff
def Za2:=@decide_eq_false
def Za3:=@Nat.le_refl
def Za4:=@List.getElem?_cons_zero
def Za5:=@List.length_map
def Za6:=@if_neg
def Za7:=@Nat.eq_of_beq_eq_true
def Za8:=@List.getD_eq_getElem?_getD
def Za9:=@List.mem_cons
def Zb0:=@List.mem_cons_of_mem
def Zb1:=@Option.bind_some
def Zb2:=@Bool.and_eq_true
def Zb3:=@Nat.le_trans
def Zb4:=@if_pos
def Zb5:=@Nat.le_of_ble_eq_true
def Zb6:=@List.getElem?_cons_succ
def Zb7:=@List.getElem?_map
def Zb8:=@List.getElem_mem
def Zb9:=@Nat.zero_add
def Zc0:=@List.eq_nil_of_length_eq_zero
def Zc1:=@List.mem_of_getElem?
def Zc2:=@List.getElem?_eq_none
def Zc3:=@List.not_mem_nil
def Zc4:=@List.getElem?_append_right
def Zc5:=@List.getElem?_append_left
def Zc6:=@List.mem_map
def Zc7:=@List.take_succ_eq_append_getElem
def Zc8:=@List.map_append
def Zc9:=@List.length_cons
def Zd0:=@Int.toNat_natCast
def Zd1:=@Nat.lt_of_lt_of_le
def Zd2:=@Array.getElem?_eq_some_iff
def Zd3:=@List.map_cons
def Zd4:=@Prod.mk.injEq
def Zd5:=@List.mem_append
def Zd6:=@List.mem_cons_self
def Zd7:=@List.cons_append
def Zd8:=@List.length_append
def Zd9:=@Option.map_some
def Ze0:=@List.nil_append
def Ze1:=@List.append_nil
def Ze2:=@List.drop_eq_getElem_cons
def Ze3:=@List.getElem?_take
def Ze4:=@List.getElem?_set_ne
def Ze5:=@List.getElem?_drop
def Ze6:=@List.drop_zero
def Ze7:=@decide_eq_true_eq
def Ze8:=@Option.getD_some
def Ze9:=@List.take_of_length_le
def Zf0:=@or_false
def Zf1:=@List.mem_iff_getElem?
def Zf2:=@Nat.ne_of_beq_eq_false
def Zf3:=@List.getElem?_set_self
def Zf4:=@Bool.false_eq_true
def Zf5:=@Nat.add_zero
def Zf6:=@Option.map_eq_some_iff
def Zf7:=@List.append_assoc
def Zf8:=@List.flatten_cons
def Zf9:=@List.cons.injEq
def Zg0:=@Array.getElem?_eq_getElem
def Zg1:=@of_decide_eq_true
def Zg2:=@List.range_succ
def Zg3:=@List.mem_range
def Zg4:=@List.mem_iff_getElem
def Zg5:=@Bool.true_and
def Zg6:=@decide_true
def Zg7:=@List.length_take
def Zg8:=@List.all_eq_true
def Zg9:=@List.drop_append_of_le_length
def Zh0:=@if_false
def Zh1:=@if_true
def Zh2:=@List.mem_or_eq_of_mem_set
def Zh3:=@Nat.mul_le_mul_right
def Zh4:=@Nat.succ_mul
def Zh5:=@Nat.add_sub_cancel
def Zh6:=@List.getElem?_range
def Zh7:=@List.take_length
def Zh8:=@List.map_map
def Zh9:=@List.mem_singleton
def Zi0:=@Array.length_toList
def Zi1:=@Nat.zero_le
def Zi2:=@Array.getElem?_toList
def Zi3:=@List.ext_getElem?
def Zi4:=@Int.tdiv_eq_ediv_of_nonneg
def Zi5:=@Option.some.inj
def Zi6:=@List.length_nil
def Zi7:=@List.length_set
def Zi8:=@List.map_nil
def Zi9:=@Option.getD_none
def Zj0:=@Nat.le_max_right
def Zj1:=@Array.getElem?_modify
def Zj2:=@Nat.lt_or_ge
def Zj3:=@Bool.or_eq_true
def Zj4:=@List.mem_filter
def Zj5:=@Bool.and_true
def Zj6:=@Bool.not_true
def Zj7:=@Bool.not_eq_true'
def Zj8:=@Nat.add_mul
def Zj9:=@Nat.le_max_left
def Zk0:=@Array.getElem?_setIfInBounds_ne
def Zk1:=@List.length_filter_le
def Zk2:=@List.set_append_right
def Zk3:=@List.length_replicate
def Zk4:=@List.filter_append
def Zk5:=@Nat.add_assoc
def Zk6:=@Bool.and_self
def Zk7:=@List.take_append_of_le_length
def Zk8:=@Nat.mod_lt
def Zk9:=@List.map_congr_left
def Zl0:=@Nat.sub_self
def Zl1:=@Nat.mod_eq_of_lt
def Zl2:=@of_decide_eq_false
def Zl3:=@Bool.not_false
def Zl4:=@List.drop_drop
def Zl5:=@Classical.byContradiction
def Zl6:=@Nat.min_eq_left
def Zl7:=@Function.comp_def
def Zl8:=@List.range_eq_range'
def Zl9:=@Nat.mul_le_mul_left
def Zm0:=@List.getElem?_replicate
def Zm1:=@List.eq_nil_iff_forall_not_mem
def Zm2:=@List.sum_cons
def Zm3:=@List.take_append_drop
def Zm4:=@Array.getD_eq_getD_getElem?
def Zm5:=@List.flatMap_cons
def Zm6:=@Array.ext'
def Zm7:=@List.mem_append_left
def Zm8:=@List.take_zero
def Zm9:=@Int.fdiv_eq_ediv_of_nonneg
def Zn0:=@List.getElem_map
def Zn1:=@beq_eq_false_iff_ne
def Zn2:=@List.replicate_succ
def Zn3:=@Bool.false_or
def Zn4:=@Option.isSome_iff_exists
def Zn5:=@and_true
def Zn6:=@Bool.eq_iff_iff
def Zn7:=@Nat.eq_zero_or_pos
def Zn8:=@Nat.mul_one
def Zn9:=@List.length_eq_zero_iff
def Zo0:=@List.set_eq_take_append_cons_drop
def Zo1:=@Nat.le_of_lt
def Zo2:=@List.drop_take
def Zo3:=@List.size_toArray
def Zo4:=@Nat.zero_mul
def Zo5:=@List.drop_of_length_le
def Zo6:=@List.getElem_cons_succ
def Zo7:=@List.getElem_take
def Zo8:=@UInt8.lt_iff_toNat_lt
def Zo9:=@Array.eq_empty_of_size_eq_zero
def Zp0:=@List.range'_succ
def Zp1:=@List.length_drop
def Zp2:=@Int.natCast_emod
def Zp3:=@List.countP_cons
def Zp4:=@Nat.lt_irrefl
def Zp5:=@List.all_cons
def Zp6:=@Array.toList_extract
def Zp7:=@Nat.one_mul
def Zp8:=@Array.getElem?_setIfInBounds
def Zp9:=@List.drop_set_of_lt
def Zq0:=@Array.getElem?_push
def Zq1:=@List.length_pos_iff
def Zq2:=@List.map_set
def Zq3:=@Array.toList_setIfInBounds
def Zq4:=@Option.isSome_some
def Zq5:=@Option.isSome_none
def Zq6:=@Nat.mod_eq_sub_mod
def Zq7:=@Array.getElem?_append_left
def Zq8:=@List.set_cons_zero
def Zq9:=@Int.emod_lt_of_pos
def Zr0:=@List.length_range
def Zr1:=@true_and
def Zr2:=@List.isEmpty_map
def Zr3:=@Nat.add_comm
def Zr4:=@Nat.sub_zero
def Zr5:=@Nat.blt_eq
def Zr6:=@Nat.le_of_eq
def Zr7:=@UInt8.toNat_inj
def Zr8:=@List.take_left'
def Zr9:=@List.foldl_cons
def Zs0:=@Int.ediv_nonneg
def Zs1:=@List.sum_append
def Zs2:=@Int.emod_nonneg
def Zs3:=@List.map_id
namespace Go.Ai
section
inductive Pos where
 |h
 |o (p:Pos)
 |i (p:Pos)
 deriving DecidableEq,Inhabited
def Pos.toNat:Pos->Nat
 |.h=>1
 |.o p=>2*p.toNat
 |.i p=>2*p.toNat+1
def Pos.succ:Pos->Pos
 |.h=>.o .h
 |.o p=>.i p
 |.i p=>.o p.succ
def Pos.af6:Nat->Nat->Pos
 |0,_=>.h
 |  f+1,n=>match Nat.ble n 1 with
    |true=>.h
    |false=>match Nat.beq (n % 2) 0 with
     |true=>.o (Pos.af6 f (n / 2))
     |false=>.i (Pos.af6 f (n / 2))
def key(n:Nat):Pos:=Pos.af6 (n+1).log2 (n+1)
def Pos.beq:Pos->Pos->Bool
 |.h,.h=>true
 |.o a,.o b=>a.beq b
 |.i a,.i b=>a.beq b
 |_,_=>false
inductive T(α:Type) where
 |e
 |n (l:T α) (v:Option α) (r:T α)
 deriving Inhabited
def T.get{α:Type}:Pos->T α->Option α
 |_,.e=>none
 |.h,.n _ v _=>v
 |.o p,.n l _ _=>l.get p
 |.i p,.n _ _ r=>r.get p
def T.put{α:Type}(x:Option α):Pos->T α->T α
 |.h,.e=>.n .e x .e
 |.h,.n l _ r=>.n l x r
 |.o p,.e=>.n (T.put x p .e) none .e
 |.o p,.n l v r=>.n (T.put x p l) v r
 |.i p,.e=>.n .e none (T.put x p .e)
 |.i p,.n l v r=>.n l v (T.put x p r)
inductive AV where
 |bool (b:Bool)
 |int (k:IntKind) (n:Int)
 |str (s:List Nat)
 |jf
 |ptr (b:Pos) (off:Nat)
 |fp (xs:List (List AV)) (i j:Nat)
 |af
 |slice (b:Pos) (off len:Nat) (cap:Option Nat) (es:Nat)
 |fl (xs:List (List AV)) (es:Nat)
 |qp
 |map (b:Pos)
 |func (f:FuncId) (first captured:List AV)
 |jM
 |Bh
 |iface (t:TypeId) (v:AV)
 |agg (l:List AV)
 |tuple (l:List AV)
 deriving Inhabited
inductive AB where
 |cells (cs:List AV) (fz:Nat)
 |map (es:List (AV×AV×Nat)) (clock:Nat)
 deriving Inhabited
def AV.cells:AV->List AV
 |.agg l=>l
 |v=>[v]
def AV.undef:AV:= .tuple []
def AV.one:AV->Bool
 |.agg _=>false
 |.tuple _=>false
 |_=>true
def aN:List AV->Bool
 |[]=>true
 |  v::l=>match v.one with
    |true=>aN l
    |false=>false
inductive eG where
 |val (v:AV)
 |bh (v:AV) (del:Option Pos) (set:Option (Pos×AB)) (new:Option AB)
 |call (f:FuncId) (args:List AV)
 deriving Inhabited
def nth{α:Type}:List α->Nat->Option α
 |[],_=>none
 |a::_,0=>some a
 |_::l,n+1=>nth l n
def cut{α:Type}(l:List α)(i n:Nat):Option (List α):=
 match Nat.ble (i+n) l.length with
 |true=>some ((l.drop i).take n)
 |false=>none
def aQ{α:Type}(l:List α)(i:Nat)(vs:List α):List α:=l.take i++(vs++l.drop (i+vs.length))
def kq:List Nat->List Nat->Bool
 |[],[]=>true
 |  a::x,b::y=>match Nat.beq a b with
    |true=>kq x y
    |false=>false
 |_,_=>false
def aO:List Nat->List Nat->Bool
 |_,[]=>false
 |[],_::_=>true
 |  a::x,b::y=>match Nat.blt a b with
    |true=>true
    |false=>match Nat.beq a b with
     |true=>aO x y
     |false=>false
inductive PK where
 |b
 |i
 |s
 deriving Inhabited
inductive gU where
 |num
 |bool
 |ptr
 |slice
 |map
 |func
 |iface
 |struct (fs:List (Nat×PK))
 deriving Inhabited
inductive arx where
 |int (k:IntKind)
 |same
 |ofBytes
 deriving Inhabited
inductive LK where
 |s
 |l
 |m
 deriving Inhabited
inductive aE where
 |move
 |pick
 |alloc (zero:List AV)
 |box
 |build (zero:List AV) (places:List (Nat×Nat))
 |buildSlice (es len:Nat) (zero:List AV) (places:List Nat)
 |load (n:Option Nat)
 |store (n:Nat)
 |nilCheck
 |bin (op:BinOp) (q:gU)
 |un (op:UnOp)
 |conv (k:arx)
 |mkIface (t:TypeId)
 |mkFunc (f:FuncId) (U9:Nat)
 |mkMap
 |lookup (pk:PK) (zero:AV) (ok:Bool)
 |mapSet (pk:PK)
 |mkSlice (es bytes:Nat) (zero:List AV)
 |sliceS (lo hi:Bool)
 |sliceL (es:Nat) (lo hi mx:Bool)
 |fieldA (off:Nat)
 |idxA (es:Nat) (arr:Option Nat)
 |field (off:Nat) (n:Option Nat)
 |idxS
 |extract (i:Nat)
 |callF (f:FuncId)
 |callV
 |lenB (k:LK)
 |capB
 |append (es bytes:Nat)
 |copyB (es:Nat)
 |minB
 |maxB
 |clearS (es:Nat) (zero:List AV)
 |bad
 deriving Inhabited
def loI(k:IntKind):Int:=match k with
 |.i8=> -128|.i16=> -32768|.i32=> -2147483648|.i64=> -9223372036854775808|_=>0
def hiI(k:IntKind):Int:=match k with
 |.i8=>127|.i16=>32767|.i32=>2147483647|.i64=>9223372036854775807
 |.u8=>255|.u16=>65535|.u32=>4294967295|.u64=>18446744073709551615
def ax(k:IntKind)(n:Int):Int:=
 match Int.decLe (loI k) n with
 |  .isTrue _=>match Int.decLe n (hiI k)with
    |.isTrue _=>n
    |.isFalse _=>k.wrap n
 |.isFalse _=>k.wrap n
def Ky(a b:IntKind):Bool:=match decEq a b with
 |.isTrue _=>true
 |.isFalse _=>false
def AZ(a b:Int):Bool:=match Int.decEq a b with
 |.isTrue _=>true
 |.isFalse _=>false
def A0(a b:Int):Bool:=match Int.decLt a b with
 |.isTrue _=>true
 |.isFalse _=>false
def afL(a b:Int):Bool:=match Int.decLe a b with
 |.isTrue _=>true
 |.isFalse _=>false
def yd:PK->AV->AV->Option Bool
 |.b,.bool a,.bool b=>some (a==b)
 |  .i,.int k a,.int k' b=>match Ky k k' with
    |true=>some (AZ a b)
    |false=>none
 |.s,.str a,.str b=>some (kq a b)
 |_,_,_=>none
def eqFields(xs ys:List AV):List (Nat×PK)->Option Bool
 |[]=>some true
 |  (o,pk)::fs=>match nth xs o,nth ys o with
    | some a,some b=>match yd pk a b with
      |some true=>eqFields xs ys fs
      |some false=>some false
      |none=>none
    |_,_=>none
def aam:gU->AV->AV->Option Bool
 |.bool,.bool a,.bool b=>some (a==b)
 |.ptr,.jf,.jf=>some true
 |.ptr,.jf,.ptr _ _=>some false
 |.ptr,.ptr _ _,.jf=>some false
 |.ptr,.jf,.fp _ _ _=>some false
 |.ptr,.fp _ _ _,.jf=>some false
 |  .ptr,.ptr b o,.ptr b' o'=>match Pos.beq b b',Nat.beq o o' with
    |true,true=>some true
    |_,_=>none
 |.slice,.af,.af=>some true
 |.slice,.af,.slice _ _ _ _ _=>some false
 |.slice,.slice _ _ _ _ _,.af=>some false
 |.slice,.af,.fl _ _=>some false
 |.slice,.fl _ _,.af=>some false
 |.map,.qp,.qp=>some true
 |.map,.qp,.map _=>some false
 |.map,.map _,.qp=>some false
 |.func,.jM,.jM=>some true
 |.func,.jM,.func _ _ _=>some false
 |.func,.func _ _ _,.jM=>some false
 |.iface,.Bh,.iface _ _=>some false
 |.iface,.iface _ _,.Bh=>some false
 |.struct fs,.agg xs,.agg ys=>eqFields xs ys fs
 |_,_,_=>none
def o6 (op:BinOp)(q:gU):AV->AV->Option AV
 |  .int k a,.int k' b=>match op with
    | .shl=>match A0 b 0 with
      |true=>none
      |false=>some (.int k (ax k (a*2 ^ (min b.toNat k.bits))))
    | .shr=>match A0 b 0 with
      |true=>none
      |false=>some (.int k (a.fdiv (2 ^ (min b.toNat k.bits))))
    | op=>match Ky k k' with
      |false=>none
      | true=>match op with
        |.add=>some (.int k (ax k (a+b)))
        |.sub=>some (.int k (ax k (a - b)))
        |.mul=>some (.int k (ax k (a*b)))
        | .quo=>match AZ b 0 with
          |true=>none
          |false=>some (.int k (ax k (a.tdiv b)))
        | .rem=>match AZ b 0 with
          |true=>none
          |false=>some (.int k (a.tmod b))
        |.and=>some (.int k (k.wrap (BitVec.ofInt k.bits a &&& BitVec.ofInt k.bits b).toNat))
        |.or=>some (.int k (k.wrap (BitVec.ofInt k.bits a ||| BitVec.ofInt k.bits b).toNat))
        |.xor=>some (.int k (k.wrap (BitVec.ofInt k.bits a ^^^ BitVec.ofInt k.bits b).toNat))
        |.andNot=>some (.int k (k.wrap (BitVec.ofInt k.bits a &&& ~~~BitVec.ofInt k.bits b).toNat))
        |.eql=>some (.bool (AZ a b))
        |.neq=>some (.bool (!AZ a b))
        |.lss=>some (.bool (A0 a b))
        |.leq=>some (.bool (afL a b))
        |.gtr=>some (.bool (A0 b a))
        |.geq=>some (.bool (afL b a))
        |_=>none
 |  .str a,.str b=>match op with
    | .add=>match Nat.ble (a.length+b.length) 9223372036854775807 with
      |true=>some (.str (a++b))
      |false=>none
    |.eql=>some (.bool (kq a b))
    |.neq=>some (.bool (!kq a b))
    |.lss=>some (.bool (aO a b))
    |.leq=>some (.bool (aO a b||kq a b))
    |.gtr=>some (.bool (!(aO a b||kq a b)))
    |.geq=>some (.bool (!aO a b))
    |_=>none
 |  x,y=>match op with
    | .eql=>match aam q x y with
      |some b=>some (.bool b)
      |none=>none
    | .neq=>match aam q x y with
      |some b=>some (.bool (!b))
      |none=>none
    |_=>none
def unA(op:UnOp):AV->Option AV
 |  .bool b=>match op with
    |.not=>some (.bool (!b))
    |_=>none
 |  .int k n=>match op with
    |.neg=>some (.int k (ax k (0 - n)))
    |_=>none
 |_=>none
def cF(cells:List AV):List (Nat×Nat)->List AV->Option (List AV)
 |[],[]=>some cells
 |  (off,size)::ps,v::vs=>
    match Nat.beq v.cells.length size,Nat.ble (off+size) cells.length with
    |true,true=>cF (aQ cells off v.cells) ps vs
    |_,_=>none
 |_,_=>none
def bU{α:Type}(l:List α):Nat->List α
 |0=>[]
 |n+1=>l++bU l n
def zN:AV->Option Nat
 |  .int _ n=>match n with
    |.ofNat m=>some m
    |.negSucc _=>none
 |_=>none
def Kz(n:Nat):AV:= .int .i64 (.ofNat n)
def rows(es:Nat)(cs:List AV):Nat->List (List AV)
 |0=>[]
 |n+1=>cs.take es::rows es (cs.drop es) n
def bounds:(lo hi mx:Bool)->List AV->Option (Option Nat×Option Nat×Option Nat)
 |false,false,false,[]=>some (none,none,none)
 |  true,false,false,[a]=>match zN a with
    |some l=>some (some l,none,none)
    |none=>none
 |  false,true,false,[b]=>match zN b with
    |some h=>some (none,some h,none)
    |none=>none
 |  true,true,false,[a,b]=>match zN a,zN b with
    |some l,some h=>some (some l,some h,none)
    |_,_=>none
 |  false,true,true,[b,c]=>match zN b,zN c with
    |some h,some m=>some (none,some h,some m)
    |_,_=>none
 |  true,true,true,[a,b,c]=>match zN a,zN b,zN c with
    |some l,some h,some m=>some (some l,some h,some m)
    |_,_,_=>none
 |_,_,_,_=>none
def cX(es n:Nat)(H:Pos->Option AB):AV->Option (List AV)
 |.af=>some []
 |  .slice b off _ _ _=>match Nat.beq (n*es) 0 with
    |true=>some []
    |false=>match H b with
     |some (.cells cs _)=>cut cs off (n*es)
     |_=>none
 |  .fl xs es'=>match Nat.beq es es',Nat.ble n xs.length with
    |true,true=>some (xs.take n).flatten
    |_,_=>none
 |  .str s=>match Nat.beq es 1,Nat.ble n s.length with
    |true,true=>some ((s.take n).map λc=>.int .u8 (.ofNat c))
    |_,_=>none
 |_=>none
def dR:AV->Option Nat
 |.af=>some 0
 |.slice _ _ n _ _=>some n
 |.fl xs _=>some xs.length
 |.str s=>some s.length
 |_=>none
def gM(pk:PK)(k:AV):List (AV×AV×Nat)->Nat->Option (Option (Nat×AV))
 |[],_=>some none
 |  (k',v,_)::es,i=>match yd pk k k' with
    |some true=>some (some (i,v))
    |some false=>gM pk k es (i+1)
    |none=>none
def af7:PK->AV->Bool
 |.b,.bool _=>true
 |.i,.int _ _=>true
 |.s,.str _=>true
 |_,_=>false
def tu(k v:AV):List (AV×AV×Nat)->Nat->List (AV×AV×Nat)
 |[],_=>[]
 |(_,_,born)::es,0=>(k,v,born)::es
 |e::es,i+1=>e::tu k v es i
def bytesOf:List AV->Option (List Nat)
 |[]=>some []
 |  .int .u8 (.ofNat n)::l=>match Nat.blt n 256,bytesOf l with
    |true,some s=>some (n::s)
    |_,_=>none
 |_=>none
def X6(_H:Pos->Option AB)(_next:Pos):List AV->Option eG
 |[x]=>some (.val x)
 |_=>none
def ac0(_H:Pos->Option AB)(_next:Pos):List AV->Option eG
 |  [c,a,b]=>match c with
    |.bool true=>some (.val a)
    |.bool false=>some (.val b)
    |_=>none
 |_=>none
def QL(_H:Pos->Option AB)(next:Pos)(zero:List AV):List AV->Option eG
 |[]=>some (.bh (.ptr next 0) none none (some (.cells zero 0)))
 |_=>none
def abp(_H:Pos->Option AB)(next:Pos):List AV->Option eG
 |[x]=>some (.bh (.ptr next 0) none none (some (.cells x.cells 0)))
 |_=>none
def QM(_H:Pos->Option AB)(_next:Pos)(zero:List AV)(places:List (Nat×Nat)):List AV->Option eG
 |  xs=>match cF zero places xs with
    |some cs=>some (.val (.agg cs))
    |none=>none
def wq(_H:Pos->Option AB)(next:Pos)(es len:Nat)(zero:List AV)(places:List Nat):List AV->Option eG
 |  xs=>match cF (bU zero len) (places.map λi=>(i*es,es)) xs with
    |some cs=>some (.bh (.slice next 0 len (some len) es) none none (some (.cells cs 0)))
    |none=>none
def ze (H :Pos->Option AB)(_next:Pos)(n:Option Nat):List AV->Option eG
 |  [p] =>match p with
    | .ptr b off=>match H b with
      | some (.cells cs _)=>match n with
        | none=>match nth cs off with
          |some v=>some (.val v)
          |none=>none
        | some n=>match cut cs off n with
          |some vs=>some (.val (.agg vs))
          |none=>none
      |_=>none
    | .fp xs i j=>match nth xs i with
      | some cs=>match n with
        | none=>match nth cs j with
          |some v=>some (.val v)
          |none=>none
        | some n=>match cut cs j n with
          |some vs=>some (.val (.agg vs))
          |none=>none
      |none=>none
    |_=>none
 |_=>none
def KA (H:Pos->Option AB)(_next:Pos)(n:Nat):List AV->Option eG
 |  [p, v]=>match p with
    | .ptr b off=>match H b with
      | some (.cells cs fz)=>
        match Nat.beq v.cells.length n,Nat.ble (off+n) cs.length,Nat.ble fz off,aN v.cells with
        |true,true,true,true=>some (.bh .undef none (some (b,.cells (aQ cs off v.cells) fz)) none)
        |_,_,_,_=>none
      |_=>none
    |_=>none
 |_=>none
def NH(_H:Pos->Option AB)(_next:Pos):List AV->Option eG
 |  [x]=>match x with
    |.ptr _ _=>some (.val x)
    |.fp _ _ _=>some (.val x)
    |.func _ _ _=>some (.val x)
    |_=>none
 |_=>none
def js(_H:Pos->Option AB)(_next:Pos)(op:BinOp)(q:gU):List AV->Option eG
 |  [x,y]=>match o6 op q x y with
    |some v=>some (.val v)
    |none=>none
 |_=>none
def akq(_H:Pos->Option AB)(_next:Pos)(op:UnOp):List AV->Option eG
 |  [x]=>match unA op x with
    |some v=>some (.val v)
    |none=>none
 |_=>none
def Fj (H:Pos->Option AB)(_next:Pos)(k:arx):List AV->Option eG
 |  [x] =>match k,x with
    |.int k,.int _ n=>some (.val (.int k (ax k n)))
    |.same,.str s=>some (.val (.str s))
    |.ofBytes,.af=>some (.val (.str []))
    | .ofBytes,.slice b off n _ _=>match Nat.beq n 0 with
      |true=>some (.val (.str []))
      | false=>match H b with
        |some (.cells cs _)=>match cut cs off n with
         |some l=>match bytesOf l with
          |some s=>some (.val (.str s))
          |none=>none
         |none=>none
        |_=>none
    |_,_=>none
 |_=>none
def QN(_H:Pos->Option AB)(_next:Pos)(t:TypeId):List AV->Option eG
 |[x]=>some (.val (.iface t x))
 |_=>none
def Gf(_H:Pos->Option AB)(_next:Pos)(f:FuncId)(U9:Nat):List AV->Option eG
 |xs=>some (.val (.func f (xs.take U9) (xs.drop U9)))
def QO(_H:Pos->Option AB)(next:Pos):List AV->Option eG
 |_=>some (.bh (.map next) none none (some (.map [] 0)))
def lz (H:Pos->Option AB)(_next:Pos)(pk:PK)(zero:AV)(ok:Bool):List AV->Option eG
 |  [m, k]=>
    match (match m with
      | .qp=>match af7 pk k with
        |true=>some none
        |false=>none
      | .map b=>match H b with
        |some (.map es _)=>gM pk k es 0
        |_=>none
      |_=>none)with
    |some (some (_,v))=>some (.val (match ok with|true=>.tuple [v,.bool true]|false=>v))
    |some none=>some (.val (match ok with|true=>.tuple [zero,.bool false]|false=>zero))
    |none=>none
 |_=>none
def ye (H:Pos->Option AB)(_next:Pos)(pk:PK):List AV->Option eG
 |  [m, k,v]=>match m with
    | .map b=>match H b with
      | some (.map es clock)=>match af7 pk k,gM pk k es 0 with
        |true,some (some (i,_))=>some (.bh .undef none (some (b,.map (tu k v es i) clock)) none)
        |true,some none=>some (.bh .undef none (some (b,.map (es++[(k,v,clock)]) (clock+1))) none)
        |_,_=>none
      |_=>none
    |_=>none
 |_=>none
def Cr(_H:Pos->Option AB)(next:Pos)(es bytes:Nat)(zero:List AV):List AV->Option eG
 |  [l,c]=>match zN l,zN c with
    | some l,some c=>match Nat.ble l c,Nat.ble (bytes*c) 281474976710656,Nat.ble c 9223372036854775807 with
      |true,true,true=>some (.bh (.slice next 0 l (some c) es) none none (some (.cells (bU zero c) 0)))
      |_,_,_=>none
    |_,_=>none
 |_=>none
def Va(_H:Pos->Option AB)(_next:Pos)(lo hi:Bool):List AV->Option eG
 |  x ::bs=>match x,bounds lo hi false bs with
    | .str s,some (l,h,_)=>
      let h:=h.getD s.length
      let l:=l.getD 0
      match Nat.ble l h,Nat.ble h s.length with
      |true,true=>some (.val (.str ((s.take h).drop l)))
      |_,_=>none
    |_,_=>none
 |_=>none
def iL (_H:Pos->Option AB)(_next:Pos)(es:Nat)(lo hi mx:Bool):List AV->Option eG
 |  x ::bs=>match x,bounds lo hi mx bs with
    | .slice b off len cap es',some (l,h,m)=>
      match Nat.beq es es',Nat.ble (l.getD 0) (h.getD len)with
      | true,true=>match cap,m with
        | some c,some m=>match Nat.ble (h.getD len) m,Nat.ble m c with
          |true,true=>some (.val (.slice b (off+l.getD 0*es) (h.getD len - l.getD 0) (some (m - l.getD 0)) es))
          |_,_=>none
        | some c,none=>match Nat.ble (h.getD len) c with
          |true=>some (.val (.slice b (off+l.getD 0*es) (h.getD len - l.getD 0) (some (c - l.getD 0)) es))
          |false=>none
        | none,some m=>match Nat.ble (h.getD len) m,Nat.ble m len with
          |true,true=>some (.val (.slice b (off+l.getD 0*es) (h.getD len - l.getD 0) (some (m - l.getD 0)) es))
          |_,_=>none
        | none,none=>match Nat.ble (h.getD len) len with
          |true=>some (.val (.slice b (off+l.getD 0*es) (h.getD len - l.getD 0) none es))
          |false=>none
      |_,_=>none
    | .fl xs es',some (l,h,m)=>
      match Nat.beq es es' with
      | true=>match m with
        | some m=>match Nat.beq (l.getD 0) 0,Nat.beq (h.getD xs.length) 0,Nat.beq m 0 with
          |true,true,true=>some (.val (.slice .h 0 0 (some 0) es))
          |_,_,_=>none
        | none=>match Nat.ble (l.getD 0) (h.getD xs.length),Nat.ble (h.getD xs.length) xs.length with
          |true,true=>some (.val (.fl ((xs.take (h.getD xs.length)).drop (l.getD 0)) es))
          |_,_=>none
      |false=>none
    | .af,some (l,h,m)=>match Nat.beq (l.getD 0) 0,Nat.beq (h.getD 0) 0,Nat.beq (m.getD 0) 0 with
        |true,true,true=>some (.val .af)
        |_,_,_=>none
    |_,_=>none
 |_=>none
def Vc(_H:Pos->Option AB)(_next:Pos)(off:Nat):List AV->Option eG
 |  [x]=>match x with
    |.ptr b o=>some (.val (.ptr b (o+off)))
    |.fp xs i j=>some (.val (.fp xs i (j+off)))
    |_=>none
 |_=>none
def rX (_H:Pos->Option AB)(_next:Pos)(es:Nat)(arr:Option Nat):List AV->Option eG
 |  [x, i]=>match zN i with
    | some i=>match arr,x with
      | none,.slice b off len _ _=>match Nat.blt i len with
        |true=>some (.val (.ptr b (off+i*es)))
        |false=>none
      | none,.fl xs es'=>match Nat.blt i xs.length,Nat.beq es es' with
        |true,true=>some (.val (.fp xs i 0))
        |_,_=>none
      | some n,.ptr b off=>match Nat.blt i n with
        |true=>some (.val (.ptr b (off+i*es)))
        |false=>none
      |_,_=>none
    |none=>none
 |_=>none
def QT (_H:Pos->Option AB)(_next:Pos)(off:Nat)(n:Option Nat):List AV->Option eG
 |  [x] =>match x with
    | .agg cs=>match n with
      | none=>match nth cs off with
        |some v=>some (.val v)
        |none=>none
      |some n=>some (.val (.agg ((cs.drop off).take n)))
    |_=>none
 |_=>none
def X7(_H:Pos->Option AB)(_next:Pos):List AV->Option eG
 |  [x,i]=>match x,zN i with
    | .str s,some i=>match nth s i with
      |some c=>some (.val (.int .u8 (.ofNat c)))
      |none=>none
    |_,_=>none
 |_=>none
def JV(_H:Pos->Option AB)(_next:Pos)(i:Nat):List AV->Option eG
 |  [x]=>match x with
    | .tuple vs=>match nth vs i with
      |some v=>some (.val v)
      |none=>none
    |_=>none
 |_=>none
def aan(_H:Pos->Option AB)(_next:Pos)(f:FuncId):List AV->Option eG
 |xs=>some (.call f xs)
def aao(_H:Pos->Option AB)(_next:Pos):List AV->Option eG
 |  x::xs=>match x with
    |.func f first captured=>some (.call f (first++(xs++captured)))
    |_=>none
 |_=>none
def OB(H:Pos->Option AB)(_next:Pos)(k:LK):List AV->Option eG
 |  [x]=>match k,x with
    |.m,.qp=>some (.val (Kz 0))
    | .m,.map b=>match H b with
      |some (.map es _)=>some (.val (Kz es.length))
      |_=>none
    |.s,.str s=>some (.val (Kz s.length))
    |.l,.af=>some (.val (Kz 0))
    |.l,.slice _ _ n _ _=>some (.val (Kz n))
    |.l,.fl xs _=>some (.val (Kz xs.length))
    |_,_=>none
 |_=>none
def ic (H:  Pos->Option AB)(next:Pos)(es bytes:Nat):List AV->Option eG
 |  [s, x]=> match dR s,dR x with
    | some n,some m=>
      match Nat.ble ((2*(n+m)+768)*bytes) 281474976710656,Nat.ble (n+m) 9223372036854775807 with
      | true,true=>match Nat.beq m 0,s with
        |true,.slice b off n c es'=>some (.val (.slice b off n c es'))
        |true,.fl xs es'=>some (.val (.fl xs es'))
        |true,.af=>some (.val .af)
        |false,.af=>match cX es m H x with
         |some new=>some (.bh (.slice next 0 m none es) none none (some (.cells new 0)))
         |none=>none
        |false,.slice b off n (some c) es'=>
         match Nat.ble (n+m) c with
         |  true=>match H b,cX es m H x with
            |some (.cells cs fz),some new=>match Nat.ble (off+(n+m)*es) cs.length,Nat.ble fz (off+n*es)&&Nat.beq es es',aN new with
             |true,true,true=>some (.bh (.slice b off (n+m) (some c) es) none (some (b,.cells (aQ cs (off+n*es) new) fz)) none)
             |_,_,_=>none
            |_,_=>none
         |  false=>match cX es n H s,cX es m H x with
            |some gG,some new=>some (.bh (.slice next 0 (n+m) none es) none none (some (.cells (gG++new) 0)))
            |_,_=>none
        |false,.slice b off n none es'=>
         match H b,cX es n H s,cX es m H x with
         |  some (.cells _ fz),some gG,some new=>match Nat.ble fz (off+n*es)&&Nat.beq es es',aN new with
            |true,true=>some (.bh (.slice next 0 (n+m) none es) (some b) none (some (.cells (gG++new) (fz - off))))
            |_,_=>none
         |_,_,_=>none
        |_,_=>none
      |_,_=>none
    |_,_=>none
 |_=>none
def o7 (H : Pos->Option AB)(_next:Pos)(es:Nat):List AV->Option eG
 |  [d, x]=>match dR d,dR x with
    | some n,some m=>
      let k:=min m n
      match Nat.beq k 0 with
      | true=>match d with
        |.str _=>none
        |_=>some (.val (Kz 0))
      | false=>match d with
        | .slice b off _ _ _=>match H b,cX es k H x with
          | some (.cells cs fz),some new=>match Nat.ble (off+k*es) cs.length,Nat.ble fz off,aN new with
            |true,true,true=>some (.bh (Kz k) none (some (b,.cells (aQ cs off new) fz)) none)
            |_,_,_=>none
          |_,_=>none
        |_=>none
    |_,_=>none
 |_=>none
def Kj(_H:Pos->Option AB)(_next:Pos):List AV->Option eG
 |  [x,y]=>match x,y with
    |.int k a,.int _ b=>some (.val (.int k (match A0 b a with|true=>b|false=>a)))
    |.str a,.str b=>some (.val (.str (match aO a b||kq a b with|true=>a|false=>b)))
    |_,_=>none
 |_=>none
def Kk(_H:Pos->Option AB)(_next:Pos):List AV->Option eG
 |  [x,y]=>match x,y with
    |.int k a,.int _ b=>some (.val (.int k (match A0 a b with|true=>b|false=>a)))
    |.str a,.str b=>some (.val (.str (match aO a b with|true=>b|false=>a)))
    |_,_=>none
 |_=>none
def sw (H:Pos->Option AB)(_next:Pos)(es:Nat)(zero:List AV):List AV->Option eG
 |  [x] =>match x with
    |.af=>some (.val .undef)
    | .slice b off n _ _=>match Nat.beq n 0 with
      |true=>some (.val .undef)
      | false=>match H b with
        |some (.cells cs fz)=>match Nat.ble (off+n*es) cs.length,Nat.ble fz off,aN (bU zero n)with
         |true,true,true=>some (.bh .undef none (some (b,.cells (aQ cs off (bU zero n)) fz)) none)
         |_,_,_=>none
        |_=>none
    |_=>none
 |_=>none
def aE.run(H:Pos->Option AB)(next:Pos):aE->List AV->Option eG
 |.move=>X6 H next
 |.pick=>ac0 H next
 |.alloc zero=>QL H next zero
 |.box=>abp H next
 |.build zero places=>QM H next zero places
 |.buildSlice es len zero places=>wq H next es len zero places
 |.load n=>ze H next n
 |.store n=>KA H next n
 |.nilCheck=>NH H next
 |.bin op q=>js H next op q
 |.un op=>akq H next op
 |.conv k=>Fj H next k
 |.mkIface t=>QN H next t
 |.mkFunc f U9=>Gf H next f U9
 |.mkMap=>QO H next
 |.lookup pk zero ok=>lz H next pk zero ok
 |.mapSet pk=>ye H next pk
 |.mkSlice es bytes zero=>Cr H next es bytes zero
 |.sliceS lo hi=>Va H next lo hi
 |.sliceL es lo hi mx=>iL H next es lo hi mx
 |.fieldA off=>Vc H next off
 |.idxA es arr=>rX H next es arr
 |.field off n=>QT H next off n
 |.idxS=>X7 H next
 |.extract i=>JV H next i
 |.callF f=>aan H next f
 |.callV=>aao H next
 |.lenB k=>OB H next k
 |.append es bytes=>ic H next es bytes
 |.copyB es=>o7 H next es
 |.minB=>Kj H next
 |.maxB=>Kk H next
 |.clearS es zero=>sw H next es zero
 |.capB=>λ_=>none
 |.bad=>λ_=>none
inductive gX where
 |t (p:Pos)
 |c (v:AV)
 deriving Inhabited
inductive Cls where
 |pure
 |read
 |new
 |bh
 deriving Inhabited
structure bS where
 dst:Option Pos
 k:aE
 xs:List gX
 guard:Option (Pos×Bool)
 cls:Cls
 cg:Nat
 deriving Inhabited
inductive AC where
 |skip
 |region (ops:List bS)
 |draw (ops:List (Nat×bS))
 |seq (a b:AC)
 |cond (x:gX) (a b:AC)
 |block (id:Nat) (a:AC)
 |loop (a:AC)
 |exit (id:Nat)
 |ret
 deriving Inhabited
inductive OC where
 |tmp (p:Pos)
 |cell (p:Pos) (n:Option Nat)
 deriving Inhabited
structure dM where
 code:AC
 nparams:Nat
 results:List OC
 deriving Inhabited
abbrev Fr:=T AV
structure St where
 heap:T AB
 next:Pos
 deriving Inhabited
inductive oE where
 |normal
 |exit (id:Nat)
 |ret
 deriving Inhabited
def Gg(fr:Fr):gX->Option AV
 |.t p=>fr.get p
 |.c v=>some v
def fP(fr:Fr):List gX->Option (List AV)
 |[]=>some []
 |  x::xs=>match Gg fr x with
    |some v=>match fP fr xs with
     |some vs=>some (v::vs)
     |none=>none
    |none=>none
def cJ(fr:Fr):Option (Pos×Bool)->Option Bool
 |none=>some true
 |  some (p,want)=>match fr.get p with
    |some (.bool b)=>some (b==want)
    |some (.tuple _)=>some false
    |_=>none
def ez(fr:Fr)(d:Option Pos)(v:AV):Fr:=match d with
 |some p=>fr.put (some v) p
 |none=>fr
def NI(o:Option (Pos×AB))(h:T AB):T AB:=match o with
 |some (b,x)=>h.put (some x) b
 |none=>h
def KB(o:Option Pos)(h:T AB):T AB:=match o with
 |some b=>h.put none b
 |none=>h
def St.bh(st:St)(del:Option Pos)(set:Option (Pos×AB))(new:Option AB):St:=
 match new with
 |some x=>{ heap:=T.put (some x) st.next (NI set (KB del st.heap)),next:=st.next.succ }
 |none=>{ heap:=NI set (KB del st.heap),next:=st.next }
abbrev aj:=FuncId->List AV->St->Option (AV×St)
def cC(call:aj)(k:aE)(xs:List AV)(st:St):Option (AV×St):=
 match k.run (λb=>st.heap.get b) st.next xs with
 |some (.val v)=>some (v,st)
 |some (.bh v del set new)=>some (v,st.bh del set new)
 |some (.call f args)=>call f args st
 |none=>none
def mE (call:aj):List bS->Fr->St->Option (Fr×St)
 |[],fr,st=>some (fr,st)
 |  o::os,fr,st=>match cJ fr o.guard with
    |some true=>match fP fr o.xs with
     |  some xs=>match cC call o.k xs st with
        |some (v,st')=>mE call os (ez fr o.dst v) st'
        |none=>none
     |none=>none
    |some false=>mE call os (ez fr o.dst .undef) st
    |none=>none
def fL:AV->AV->Bool
 |.bool a,.bool b=>a==b
 |.int k a,.int k' b=>Ky k k'&&AZ a b
 |.str a,.str b=>kq a b
 |.jf,.jf=>true
 |.ptr b o,.ptr b' o'=>Pos.beq b b'&&Nat.beq o o'
 |.af,.af=>true
 |.slice b o l none es,.slice b' o' l' none es'=>Pos.beq b b'&&Nat.beq o o'&&Nat.beq l l'&&Nat.beq es es'
 |.slice b o l (some c) es,.slice b' o' l' (some c') es'=>Pos.beq b b'&&Nat.beq o o'&&Nat.beq l l'&&Nat.beq c c'&&Nat.beq es es'
 |.qp,.qp=>true
 |.map b,.map b'=>Pos.beq b b'
 |.jM,.jM=>true
 | .Bh,.Bh=>true
 |_,_=>false
def Bi:List AV->List AV->Bool
 |[],[]=>true
 |a::x,b::y=>fL a b&&Bi x y
 |_,_=>false
def MD(f:AV->AV->Bool):List AV->List AV->Bool
 |[],[]=>true
 |a::x,b::y=>f a b&&MD f x y
 |_,_=>false
def BN(f:AV->AV->Bool):List (List AV)->List (List AV)->Bool
 |[],[]=>true
 |a::x,b::y=>MD f a b&&BN f x y
 |_,_=>false
def ME:Nat->AV->AV->Bool
 |d+1,.fl a n,.fl a' n'=>BN (ME d) a a'&&Nat.beq n n'
 |_,a,b=>fL a b
def mW:AV->AV->Bool
 |.func f a b,.func f' a' b'=>Nat.beq f f'&&Bi a a'&&Bi b b'
 |.fl a n,.fl a' n'=>ME 3 (.fl a n) (.fl a' n')
 |a,b=>fL a b
def tC:List AV->List AV->Bool
 |[],[]=>true
 |a::x,b::y=>mW a b&&tC x y
 |_,_=>false
def eO:AV->AV->Bool
 |.agg l,.agg l'=>tC l l'
 |.tuple l,.tuple l'=>tC l l'
 |a,b=>mW a b
inductive RC where
 |pure
 |new (id:Pos) (aM:AB)
 |bh (base:T AB) (h:T AB)
 deriving Inhabited
structure Rec where
 idx:Nat
 o:bS
 v:AV
 c:RC
 nx:Pos
 deriving Inhabited
def snap(cg:Nat)(h:T AB):List Rec->T AB
 |[]=>h
 |  r ::rs=>match r.c with
    | .new id aM=>match cg.testBit r.idx with
      |true=>(snap cg h rs).put (some aM) id
      |false=>snap cg h rs
    |.bh _ _=>h
    |.pure=>snap cg h rs
def nG:List (Pos×AB)->T AB->T AB
 |[],h=>h
 |(id,aM)::l,h=>(nG l h).put (some aM) id
def oR(k:aE)(xs:List AV)(v:AV)(h:T AB):Bool:=
 match k.run (λb=>h.get b) .h xs with
 |some (.val u)=>eO u v
 |_=>false
def nZ(cg:Nat)(k:aE)(xs:List AV)(v:AV):List (Pos×AB)->List Rec->Bool
 |_,[]=>true
 |  up,r::rs=>match r.c with
    | .new id aM=>match cg.testBit r.idx with
      |true=>nZ cg k xs v ((id,aM)::up) rs
      |false=>nZ cg k xs v up rs
    | .bh base _=>match cg.testBit r.idx with
      |true=>true
      |false=>oR k xs v (nG up (snap cg base rs))&&nZ cg k xs v up rs
    |.pure=>nZ cg k xs v up rs
def ei (call:aj):List (Nat×bS)->List Rec->T AB->Fr->St->Option (Fr×St)
 |[],_,_,fr,st=>some (fr,st)
 |  (j, o)::os,recs,base,fr,st=>match cJ fr o.guard with
    |some false=>ei call os ({ idx:=j,o:=o,v:= .undef,c:= .pure,nx:=st.next }::recs) base (ez fr o.dst .undef) st
    | some true=>match fP fr o.xs with
      |none=>none
      | some xs=>match o.cls with
        | .new=>match o.k.run (λ_=>none) st.next xs with
          |some (.bh v none none (some aM))=>
           ei call os ({ idx:=j,o:=o,v:=v,c:= .new st.next aM,nx:=st.next.succ }::recs) base (ez fr o.dst v) { heap:=st.heap.put (some aM) st.next,next:=st.next.succ }
          |_=>none
        | .bh=>match cC call o.k xs st with
          |some (v,st')=>ei call os ({ idx:=j,o:=o,v:=v,c:= .bh base st'.heap,nx:=st'.next }::recs) st'.heap (ez fr o.dst v) st'
          |none=>none
        | _=>match o.k.run (λ_=>none) .h xs with
          |some (.val v)=>ei call os ({ idx:=j,o:=o,v:=v,c:= .pure,nx:=st.next }::recs) base (ez fr o.dst v) st
          |_=>match o.k.run (λb=>(snap o.cg base recs).get b) .h xs with
           |some (.val v)=>match nZ o.cg o.k xs v [] recs with
            |true=>ei call os ({ idx:=j,o:=o,v:=v,c:= .pure,nx:=st.next }::recs) base (ez fr o.dst v) st
            |false=>none
           |_=>none
    |none=>none
def bC(call:aj)(ih:AC->Fr->St->Option (oE×Fr×St)):AC->Fr->St->Option (oE×Fr×St)
 |.skip,fr,st=>some (.normal,fr,st)
 |  .region ops,fr,st=>match mE call ops fr st with
    |some (fr,st)=>some (.normal,fr,st)
    |none=>none
 |  .draw ops,fr,st=>match ei call ops [] st.heap fr st with
    |some (fr,st)=>some (.normal,fr,st)
    |none=>none
 |  .seq a b,fr,st=>match ih a fr st with
    |some (.normal,fr,st)=>ih b fr st
    |r=>r
 |  .cond x a b,fr,st=>match Gg fr x with
    |some (.bool true)=>ih a fr st
    |some (.bool false)=>ih b fr st
    |_=>none
 |  .block id a,fr,st=>match ih a fr st with
    |some (.exit xF,fr,st)=>match Nat.beq xF id with
     |true=>some (.normal,fr,st)
     |false=>some (.exit xF,fr,st)
    |r=>r
 |  .loop a,fr,st=>match ih a fr st with
    |some (.normal,fr,st)=>ih (.loop a) fr st
    |r=>r
 |.exit id,fr,st=>some (.exit id,fr,st)
 |.ret,fr,st=>some (.ret,fr,st)
def exec(call:aj):Nat->AC->Fr->St->Option (oE×Fr×St)
 |0=>λ_ _ _=>none
 |n+1=>bC call (exec call n)
def params:Nat->List AV->Fr->Fr
 |_,[],fr=>fr
 |i,v::vs,fr=>params (i+1) vs (fr.put (some v) (key i))
def gP (H:Pos->Option AB)(fr:Fr):List OC->Option (List AV)
 |[]=>some []
 |  .tmp p::rs=>match fr.get p with
    |some v=>match gP H fr rs with
     |some vs=>some (v::vs)
     |none=>none
    |none=>none
 |  .cell p n::rs=>match fr.get p with
    |some q=>match (aE.load n).run H .h [q]with
     |  some (.val v)=>match gP H fr rs with
        |some vs=>some (v::vs)
        |none=>none
     |_=>none
    |none=>none
def zf:List AV->AV
 |[v]=>v
 |vs=>.tuple vs
abbrev eP:=FuncId->Option (List AV->St->Option (AV×St))
def tZ (O:eP)(G:T dM)(m:Nat):Nat->aj
 |0=>λ_ _ _=>none
 |  d+  1=>λf args st=>match O f with
    |some s=>s args st
    |none=>match G.get (key f)with
     |  some F=>match Nat.beq args.length F.nparams with
        |true=>match exec (tZ O G m d) m F.code (params 0 args .e) st with
         |some (.normal,fr,st')=>match gP (λb=>st'.heap.get b) fr F.results with
          |some vs=>some (zf vs,st')
          |none=>none
         |some (.ret,fr,st')=>match gP (λb=>st'.heap.get b) fr F.results with
          |some vs=>some (zf vs,st')
          |none=>none
         |_=>none
        |false=>none
     |none=>none
inductive TK where
 |bool
 |int (k:IntKind)
 |string
 |ptr (elem:Nat)
 |slice (elem:Nat)
 |array (n elem:Nat)
 |map (k e:Nat)
 |struct (fs:List (Nat×Nat×Bool))
 |func
 |iface
 |upt
 |other
 deriving Inhabited
structure TI where
 k:TK
 size:Nat
 bytes:Nat
 zero:Option (List AV)
 A3:Bool:=false
 deriving Inhabited
def QU:Value->Option AV
 |.bool b=>some (.bool b)
 |.int k n=>some (.int k n)
 |.string s=>some (.str (s.data.toList.map UInt8.toNat))
 |.pointer none=>some .jf
 |.slice none 0 0=>some .af
 |.map none=>some .qp
 |.func (.func f) ⟨[]⟩ ⟨[]⟩=>some (.func f [] [])
 |.nilFunc=>some .jM
 |.nilIface=>some .Bh
 |_=>none
def sx:List Value->Option (List AV)
 |[]=>some []
 |  v::vs=>match QU v,sx vs with
    |some a,some as=>some (a::as)
    |_,_=>none
def ac1:Value->Option AV
 |  .agg cs=>match sx cs.toList with
    |some l=>some (.agg l)
    |none=>none
 |v=>QU v
def uh:Operand->Option gX
 |.tmp t=>some (.t (key t))
 |  .const v=>match ac1 v with
    |some a=>some (.c a)
    |none=>none
 |.func f=>some (.c (.func f [] []))
 |.global _=>none
def mF:List Operand->Option (List gX)
 |[]=>some []
 |  x::xs=>match uh x,mF xs with
    |some a,some as=>some (a::as)
    |_,_=>none
def TK.isAgg:TK->Bool
 |.struct _=>true
 |.array _ _=>true
 |_=>false
abbrev TT:=T TI
def Cs(tt:TT)(t:Nat):Option gU:=match tt.get (key t)with
 |  some ti=>match ti.k with
    |.bool=>some .bool
    |.int _=>some .num
    |.string=>some .num
    |.ptr _=>some .ptr
    |.slice _=>some .slice
    |.map _ _=>some .map
    |.func=>some .func
    |.iface=>some .iface
    | .struct fs=>match ti.A3,fields fs with
      |true,some l=>some (.struct l)
      |_,_=>none
    |_=>none
 |none=>none
where
 fields:List (Nat×Nat×Bool)->Option (List (Nat×PK))
  |[]=>some []
  |(off,t,named)::fs=>match named,tt.get (key t),fields fs with
   |true,some ti,some l=>match ti.k with
    |.bool=>some ((off,.b)::l)
    |.int _=>some ((off,.i)::l)
    |.string=>some ((off,.s)::l)
    |_=>none
   |_,_,_=>none
def Ct(ti:TI):Option Nat:=match ti.k.isAgg with
 |true=>some ti.size
 |false=>none
def Cu:Option Operand->List Operand
 |some x=>[x]
 |none=>[]
def j9 (tt:TT):Op->Option (aE×List gX×Cls)
 |  .move x=>match uh x with
    |some a=>some (.move,[a],.pure)
    |none=>none
 |  .assign x=>match uh x with
    |some a=>some (.move,[a],.pure)
    |none=>none
 |  .pick c a b=>match mF [c,a,b]with
    |some l=>some (.pick,l,.pure)
    |none=>none
 |  .alloc t=>match tt.get (key t)with
    |some ti=>match ti.zero with
     |some z=>some (.alloc z,[],.new)
     |none=>none
    |none=>none
 |  .box _ x=>match uh x with
    |some a=>some (.box,[a],.new)
    |none=>none
 |  .build t ps=>match tt.get (key t),mF (ps.toList.map (·.2))with
    |some ti,some l=>match ti.k,ti.zero with
     |  .struct fs,some z=>match places tt fs (ps.toList.map (·.1)),afM tt fs with
        |some p,true=>some (.build z p,l,.pure)
        |_,_=>none
     |  .array _ e,some z=>match tt.get (key e)with
        |some te=>some (.build z (ps.toList.map λx=>(x.1*te.size,te.size)),l,.pure)
        |none=>none
     |_,_=>none
    |_,_=>none
 |  .buildSlice t len ps=>match tt.get (key t),mF (ps.toList.map (·.2))with
    |some ti,some l=>match ti.k with
     |  .slice e=>match tt.get (key e)with
        | some te=>match te.zero,Nat.ble (len*te.size) 16777216 with
          |some z,true=>some (.buildSlice te.size len z (ps.toList.map (·.1)),l,.new)
          |_,_=>none
        |none=>none
     |_=>none
    |_,_=>none
 |  .load t a=>match tt.get (key t),uh a with
    |some ti,some a=>some (.load (Ct ti),[a],.read)
    |_,_=>none
 |  .store t a x=>match tt.get (key t),mF [a,x]with
    |some ti,some l=>some (.store ti.size,l,.bh)
    |_,_=>none
 |  .nilCheck x=>match uh x with
    |some a=>some (.nilCheck,[a],.pure)
    |none=>none
 |  .binOp op t x y _=>match Cs tt t,mF [x,y]with
    |some q,some l=>some (.bin op q,l,.pure)
    |none,some l=>match op with
     |.eql=>none
     |.neq=>none
     |_=>some (.bin op .num,l,.pure)
    |_,_=>none
 |  .unOp op _ x=>match uh x with
    |some a=>some (.un op,[a],.pure)
    |none=>none
 |  .convert src dst x=>match tt.get (key src),tt.get (key dst),uh x with
    |some s,some d,some a=>match s.k,d.k with
     |.int _,.int k=>some (.conv (.int k),[a],.pure)
     |.string,.string=>some (.conv .same,[a],.pure)
     |  .slice e,.string=>match tt.get (key e)with
        | some te=>match te.k with
          |.int .u8=>some (.conv .ofBytes,[a],.read)
          |_=>none
        |none=>none
     |_,_=>none
    |_,_,_=>none
 |  .makeInterface t x=>match tt.get (key t),uh x with
    |some ti,some a=>match ti.k with
     |.iface=>none
     |.other=>none
     |_=>some (.mkIface t,[a],.pure)
    |_,_=>none
 |  .makeFunc fn first captured=>match fn,mF (first.toList++captured.toList)with
    |.func f,some l=>some (.mkFunc f first.size,l,.pure)
    |_,_=>none
 |  .makeMap t r=>match tt.get (key t)with
    |some ti=>match ti.k,r with
     |.map _ _,none=>some (.mkMap,[],.new)
     |.map _ _,some (.const (.int _ _))=>some (.mkMap,[],.new)
     |_,_=>none
    |none=>none
 |  .makeSlice t l c=>match tt.get (key t),mF [l,c]with
    |some ti,some xs=>match ti.k with
     |  .slice e=>match tt.get (key e)with
        | some te=>match te.zero with
          |some z=>some (.mkSlice te.size te.bytes z,xs,.new)
          |none=>none
        |none=>none
     |_=>none
    |_,_=>none
 |  .slice t x lo hi mx=>match tt.get (key t),mF ([x]++Cu lo++Cu hi++Cu mx)with
    |some ti,some xs=>match ti.k with
     |  .string=>match mx with
        |none=>some (.sliceS lo.isSome hi.isSome,xs,.pure)
        |some _=>none
     |  .slice e=>match tt.get (key e)with
        |some te=>some (.sliceL te.size lo.isSome hi.isSome mx.isSome,xs,.pure)
        |none=>none
     |_=>none
    |_,_=>none
 |  .fieldAddr t x f=>match tt.get (key t),uh x with
    |some ti,some a=>match ti.k with
     |  .struct fs=>match nth fs f with
        | some (off,ft,_)=>match tt.get (key ft)with
          |some fi=>match Nat.beq fi.size 0 with
           |false=>some (.fieldA off,[a],.pure)
           |true=>none
          |none=>none
        |none=>none
     |_=>none
    |_,_=>none
 |  .field t x f=>match tt.get (key t),uh x with
    |some ti,some a=>match ti.k with
     |  .struct fs=>match nth fs f with
        | some (off,ft,_)=>match tt.get (key ft)with
          |some fi=>some (.field off (Ct fi),[a],.pure)
          |none=>none
        |none=>none
     |_=>none
    |_,_=>none
 |  .indexAddr t x ix=>match tt.get (key t),mF [x,ix]with
    |some ti,some l=>match ti.k with
     |  .slice e=>match tt.get (key e)with
        |some te=>some (.idxA te.size none,l,.pure)
        |none=>none
     |  .array n e=>match tt.get (key e)with
        |some te=>some (.idxA te.size (some n),l,.pure)
        |none=>none
     |_=>none
    |_,_=>none
 |  .index t x ix=>match tt.get (key t),mF [x,ix]with
    |some ti,some l=>match ti.k with
     |.string=>some (.idxS,l,.pure)
     |_=>none
    |_,_=>none
 |  .lookup t x ix ok=>match tt.get (key t),mF [x,ix]with
    |some ti,some l=>match ti.k with
     |  .map k e=>match tt.get (key k),tt.get (key e)with
        | some tk,some te=>match tk.k,te.zero with
          |.int _,some z=>some (.lookup .i (OD te z) ok,l,.read)
          |.string,some z=>some (.lookup .s (OD te z) ok,l,.read)
          |.bool,some z=>some (.lookup .b (OD te z) ok,l,.read)
          |_,_=>none
        |_,_=>none
     |_=>none
    |_,_=>none
 |.mapUpdate t m k v=>akr tt t m k v
 |.insert t m k v=>akr tt t m k v
 |  .extract x i=>match uh x with
    |some a=>some (.extract i,[a],.pure)
    |none=>none
 |  .call c=>match mF c.args.toList with
    |none=>none
    |some xs=>match c.callee with
     |.value (.func f)=>some (.callF f,xs,.bh)
     |  .value x=>match uh x with
        |some a=>some (.callV,a::xs,.bh)
        |none=>none
     |.invoke _ _=>none
     |  .builtin b=>match b with
        | .len=>match c.argTypes.toList,xs with
          |t::_,[_]=>match tt.get (key t)with
           |some ti=>match ti.k with
            |.string=>some (.lenB .s,xs,.pure)
            |.slice _=>some (.lenB .l,xs,.pure)
            |.map _ _=>some (.lenB .m,xs,.read)
            |_=>none
           |none=>none
          |_,_=>none
        | .append=>match c.argTypes.toList with
          |t::t2::_=>match tt.get (key t),tt.get (key t2)with
           |some ti,some t2i=>match ti.k,t2i.k with
            |_,.int _=>none
            |.slice _,.string=>none
            |  .slice e,_=>match tt.get (key e)with
               | some te=>match te.zero with
                 |some _=>some (.append te.size te.bytes,xs,.bh)
                 |none=>none
               |none=>none
            |_,_=>none
           |_,_=>none
          |_=>none
        | .copy=>match c.argTypes.toList with
          |t::_=>match tt.get (key t)with
           |some ti=>match ti.k with
            |  .slice e=>match tt.get (key e)with
               |some te=>some (.copyB te.size,xs,.bh)
               |none=>none
            |_=>none
           |none=>none
          |_=>none
        | .min=>match xs with
          |[_,_]=>some (.minB,xs,.pure)
          |_=>none
        | .max=>match xs with
          |[_,_]=>some (.maxB,xs,.pure)
          |_=>none
        | .clear=>match c.argTypes.toList with
          |t::_=>match tt.get (key t)with
           |some ti=>match ti.k with
            |  .slice e=>match tt.get (key e)with
               | some te=>match te.zero with
                 |some z=>some (.clearS te.size z,xs,.bh)
                 |none=>none
               |none=>none
            |_=>none
           |none=>none
          |_=>none
        |_=>none
 |_=>none
where
 afM (tt:TT):List (Nat×Nat×Bool)->Bool
  |[]=>true
  |  (_,t,_)::l=>match tt.get (key t)with
     |some _=>afM tt l
     |none=>false
 places (tt:TT) (fs:List (Nat×Nat×Bool)):List Nat->Option (List (Nat×Nat))
  |[]=>some []
  |  i ::is=>match nth fs i,places tt fs is with
     | some (off,t,_),some l=>match tt.get (key t)with
       |some ti=>some ((off,ti.size)::l)
       |none=>none
     |_,_=>none
 OD (te:TI) (z:List AV):AV:=match te.k.isAgg with
  |true=>.agg z
  |  false=>match z with
     |[v]=>v
     |_=>.agg z
 akr (tt:TT) (t:Nat) (m k v:Operand):Option (aE×List gX×Cls):=
  match tt.get (key t),mF [m,k,v]with
  |  some ti,some l=>match ti.k with
     | .map kt _=>match tt.get (key kt)with
       |some tk=>match tk.k with
        |.int _=>some (.mapSet .i,l,.bh)
        |.string=>some (.mapSet .s,l,.bh)
        |.bool=>some (.mapSet .b,l,.bh)
        |_=>none
       |none=>none
     |_=>none
  |_,_=>none
def abq(ops:Array Oper):Option (Nat×Bool)->Option (Option (Pos×Bool))
 |none=>some none
 |  some (j,b)=>match ops[j]? with
    |some o=>match o.dst with
     |some d=>some (some (key d,b))
     |none=>none
    |none=>none
def af8:List Oper->List Nat->List Nat
 |[],acc=>acc
 |o::os,acc=>af8 os (acc++[o.after.toList.foldl (λs e=>match Region.binds .any e with
   |true=>s ||| 2 ^ e.on ||| (nth acc e.on).getD 0
   |false=>s) 0])
def uj(tt:TT)(nt:Nat)(ops:Array Oper):List Oper->List Nat->Option (List bS)
 |[],_=>some []
 |  o::os,bs=>match abq ops o.guard,uj tt nt ops os bs.tail,ary nt o.dst with
    |some g,some l,true=>match j9 tt o.op with
     |some (k,xs,cls)=>some ({ dst:=o.dst.map key,k:=k,xs:=xs,guard:=g,cls:=cls,cg:=bs.headD 0 }::l)
     |none=>some ({ dst:=o.dst.map key,k:= .bad,xs:=[],guard:=g,cls:= .bh,cg:=bs.headD 0 }::l)
    |_,_,_=>none
where
 ary (nt:Nat):Option Tmp->Bool
  |none=>true
  |some d=>Nat.blt d nt
def bS.looks(o:bS):List Pos:=
 (match o.guard with|some (p,_)=>[p]|none=>[])++o.xs.filterMap λ|.t p=>some p|.c _=>none
def OE(p:Pos):List Pos->Bool
 |[]=>false
 |q::l=>Pos.beq p q||OE p l
def Vd(a b:bS):Bool:=
 (match a.dst with
  |some d=> !OE d b.looks&&(match b.dst with|some d'=> !Pos.beq d d'|none=>true)
  |none=>true)&&
 (match b.dst with
  |some d=> !OE d a.looks
  |none=>true)
def A4:List (Nat×bS)->List (Nat×bS)->List (Nat×bS)
 |[],held=>held
 |  (i,o)::l,held=>match o.cls with
    |.bh=>held.filter (λx=>o.cg.testBit x.1)++(i,o)::A4 l (held.filter λx=> !o.cg.testBit x.1)
    |_=>A4 l (held++[(i,o)])
def KC:Nat->List bS->List (Nat×bS)
 |_,[]=>[]
 |i,o::os=>(i,o)::KC (i+1) os
def OG(m:Nat):Nat->List (Nat×bS)->Bool
 |seen,[]=>Nat.beq seen (2 ^ m - 1)
 |  seen,(i,o)::l=>Nat.blt i m&& !seen.testBit i&&Nat.beq (o.cg &&& seen) o.cg&&(match o.cls with|.bh=>Nat.beq o.cg seen|_=>true)&&
    (l.all λx=>x.2.cg.testBit i||Vd o x.2)&&OG m (seen ||| 2 ^ i) l
def vq (tt:TT)(nt:Nat):Code->Option AC
 |.skip=>some .skip
 |  .region _ ops draw=>match uj tt nt ops ops.toList (af8 ops.toList [])with
    |none=>none
    |some l=>match draw with
     |false=>some (.region l)
     |  true=>match OG l.length 0 (A4 (KC 0 l) [])with
        |true=>some (.draw (A4 (KC 0 l) []))
        |false=>none
 |  .seq a b=>match vq tt nt a,vq tt nt b with
    |some a,some b=>some (.seq a b)
    |_,_=>none
 |  .cond c a b=>match uh c,vq tt nt a,vq tt nt b with
    |some c,some a,some b=>some (.cond c a b)
    |_,_,_=>none
 |  .block id a=>match vq tt nt a with
    |some a=>some (.block id a)
    |none=>none
 |  .loop a=>match vq tt nt a with
    |some a=>some (.loop a)
    |none=>none
 |.exit id=>some (.exit id)
 |.ret=>some .ret
 |.refuse _=>some (.region [{ dst:=none,k:= .bad,xs:=[],guard:=none,cls:= .bh,cg:=0 }])
 |_=>none
def qq(tt:TT):List ResultVar->Option (List OC)
 |[]=>some []
 |  .tmp t::rs=>match qq tt rs with
    |some l=>some (.tmp (key t)::l)
    |none=>none
 |  .cell a t::rs=>match tt.get (key t),qq tt rs with
    |some ti,some l=>some (.cell (key a) (Ct ti)::l)
    |_,_=>none
def aks(tt:TT)(f:Func):Option dM:=match f.body with
 |  some c=>match vq tt f.ntmps c,qq tt f.results.toList,Nat.ble (f.params.size+f.nfree) f.ntmps with
    |some a,some rs,true=>some { code:=a,nparams:=f.params.size+f.nfree,results:=rs }
    |_,_,_=>none
 |none=>none
structure Loc where
 aM:Nat
 base:Nat
 size:Nat
abbrev Cells:=Addr->Option Value
inductive aC(ρ:Pos->Loc)(n:Nat)(C:Cells):AV->Value->Prop where
 |bool (b:Bool):aC ρ n C (.bool b) (.bool b)
 |int (k:IntKind) (i:Int):aC ρ n C (.int k i) (.int k i)
 |str (s:List Nat) (bs:ByteArray) (h:bs.data.toList.map UInt8.toNat=s):aC ρ n C (.str s) (.string bs)
 |jf:aC ρ n C .jf (.pointer none)
 |ptr (b:Pos) (off:Nat) (h:b.toNat<n):aC ρ n C (.ptr b off) (.pointer (some ⟨(ρ b).aM,(ρ b).base+off,none⟩))
 |fp (xs:List (List AV)) (i j es:Nat) (aM base:Nat) (cell:Nat->Nat->Value)
  (hl:∀(i:Nat)(cs:List AV),xs[i]? =some cs->cs.length=es)
  (hc:∀(i j:Nat)(cs:List AV)(v:AV),xs[i]? =some cs->cs[j]? =some v->C ⟨aM,base+i*es+j,none⟩=some (cell i j))
  (hv:∀(i j:Nat)(cs:List AV)(v:AV),xs[i]? =some cs->cs[j]? =some v->aC ρ n C v (cell i j)):
  aC ρ n C (.fp xs i j) (.pointer (some ⟨aM,base+i*es+j,none⟩))
 |af:aC ρ n C .af (.slice none 0 0)
 |slice (b:Pos) (off len:Nat) (cap:Option Nat) (es bn:Nat) (a:Addr) (hl:len<=bn) (hc:∀c,cap=some c->c=bn)
  (ha:bn≠0->b.toNat<n/\a=⟨(ρ b).aM,(ρ b).base+off,none⟩/\(ρ b).base+off+bn*es<=(ρ b).size)
  (hk:cap=none->b.toNat<n):
  aC ρ n C (.slice b off len cap es) (.slice (some a) len bn)
 |fl (xs:List (List AV)) (es bn:Nat) (a:Addr) (cell:Nat->Nat->Value) (hl:xs.length<=bn)
  (hs:xs≠[]->a.spot=none)
  (dW:∀(i:Nat)(cs:List AV),xs[i]? =some cs->cs.length=es)
  (hc:∀(i j:Nat)(cs:List AV)(v:AV),xs[i]? =some cs->cs[j]? =some v->C ⟨a.block,a.off+i*es+j,none⟩=some (cell i j))
  (hv:∀(i j:Nat)(cs:List AV)(v:AV),xs[i]? =some cs->cs[j]? =some v->aC ρ n C v (cell i j)):
  aC ρ n C (.fl xs es) (.slice (some a) xs.length bn)
 |qp:aC ρ n C .qp (.map none)
 |map (b:Pos) (h:b.toNat<n):aC ρ n C (.map b) (.map (some (ρ b).aM))
 |func (f:FuncId) (x y:List AV) (x' y':Array Value) (hx:x.length=x'.size) (hy:y.length=y'.size)
  (qZ:∀(i:Nat)(v:AV)(v':Value),x[i]? =some v->x'[i]? =some v'->aC ρ n C v v') (zw:∀(i:Nat)(v:AV)(v':Value),y[i]? =some v->y'[i]? =some v'->aC ρ n C v v'):
  aC ρ n C (.func f x y) (.func (.func f) x' y')
 |jM:aC ρ n C .jM .nilFunc
 |Bh:aC ρ n C .Bh .nilIface
 |iface (t:TypeId) (v:AV) (x:Value) (h:aC ρ n C v x):aC ρ n C (.iface t v) (.iface t x)
 |agg (l:List AV) (cs:Array Value) (hl:l.length=cs.size) (h:∀(i:Nat)(v:AV)(v':Value),l[i]? =some v->cs[i]? =some v'->aC ρ n C v v'):
  aC ρ n C (.agg l) (.agg cs)
 |tuple (l:List AV) (cs:Array Value) (hl:l.length=cs.size) (h:∀(i:Nat)(v:AV)(v':Value),l[i]? =some v->cs[i]? =some v'->aC ρ n C v v'):
  aC ρ n C (.tuple l) (.tuple cs)
theorem aC.mono{ρ ρ':Pos->Loc}{n n':Nat}{C:Cells}{v:AV}{x:Value}(h:aC ρ n C v x)
  (bE:∀b:Pos,b.toNat<n->ρ' b=ρ b) (hn:n<=n'):aC ρ' n' C v x:=by
 induction h with
 |bool b=>exact .bool b
 |int k i=>exact .int k i
 |str s bs h=>exact .str s bs h
 |jf=>exact .jf
 |ptr b off h=>rw[<-bE b h];exact .ptr b off (by omega)
 |fp xs i j es aM base cell hl hc _ ih=>exact .fp xs i j es aM base cell hl hc ih
 |af=>exact .af
 |slice b off len cap es bn a hl hc ha hk=>
  refine .slice b off len cap es bn a hl hc (λh0=> ?_) (λh0=>by have:=hk h0;omega);obtain⟨h1,h2,h3⟩:=ha h0;rw[bE b h1];exact⟨by omega,h2,h3⟩
 |fl xs es bn a cell hl hs dW hc _ ih=>exact .fl xs es bn a cell hl hs dW hc ih
 |qp=>exact .qp
 |map b h=>rw[<-bE b h];exact .map b (by omega)
 |func f x y x' y' hx hy _ _ ih1 ih2=>exact .func f x y x' y' hx hy ih1 ih2
 |jM=>exact .jM
 |Bh=>exact .Bh
 |iface t v x _ ih=>exact .iface t v x ih
 |agg l cs hl _ ih=>exact .agg l cs hl ih
 |tuple l cs hl _ ih=>exact .tuple l cs hl ih
def aJ(ρ:Pos->Loc)(n:Nat)(C:Cells)(l:List AV)(xs:List Value):Prop:=
 l.length=xs.length/\∀(i:Nat)(v:AV)(x:Value),l[i]? =some v->xs[i]? =some x->aC ρ n C v x
section
variable{ρ ρ':Pos->Loc}{n n':Nat}{C:Cells}
theorem aJ.mono{l:List AV}{xs:List Value}(h:aJ ρ n C l xs)(bE:∀b:Pos,b.toNat<n->ρ' b=ρ b)(hn:n<=n'):
 aJ ρ' n' C l xs:=⟨h.1,λi v x hv hx=>(h.2 i v x hv hx).mono bE hn⟩
theorem aJ.nil:aJ ρ n C [] []:=⟨rfl,λ_ _ _ h=>by simp at h⟩
theorem aJ.cons{v:AV}{x:Value}{l:List AV}{xs:List Value}(h:aC ρ n C v x)(hs:aJ ρ n C l xs):aJ ρ n C (v::l) (x::xs):=
 ⟨by simp[hs.1],λi u y hu hy=>by
  cases i with
  |zero=>simp at hu hy;subst hu;subst hy;exact h
  |succ i=>simp at hu hy;exact hs.2 i u y hu hy⟩
theorem aJ.cons_inv{v:AV}{l:List AV}{xs:List Value}(h:aJ ρ n C (v::l) xs):∃x Am,xs=x::Am/\aC ρ n C v x/\aJ ρ n C l Am:=by
 cases xs with
 |nil=>have:=h.1;simp at this
 |cons x Am=>
  exact⟨x,Am,rfl,h.2 0 v x rfl rfl,by have:=h.1;simpa using this,λi u y hu hy=>h.2 (i+1) u y (by simpa using hu) (by simpa using hy)⟩
theorem aJ.ku{xs:List Value}(h:aJ ρ n C [] xs):xs=[]:=by
 have:=h.1;cases xs with
 |nil=>rfl
 |cons a b=>simp at this
theorem aJ.append{l m:List AV}{xs ys:List Value}(h:aJ ρ n C l xs)(k:aJ ρ n C m ys):aJ ρ n C (l++m) (xs++ys):=by
 refine⟨by simp[h.1,k.1],λi v x hv hx=> ?_⟩;rcases Zj2 i l.length with hi|hi
 .rw[Zc5 hi]at hv;rw[Zc5 (by rw[<-h.1];exact hi)]at hx;exact h.2 i v x hv hx
 .rw[Zc4 hi]at hv;rw[Zc4 (by rw[<-h.1];exact hi), <-h.1]at hx;exact k.2 _ v x hv hx
theorem aJ.take{l:List AV}{xs:List Value}(h:aJ ρ n C l xs)(m:Nat):aJ ρ n C (l.take m) (xs.take m):=by
 refine⟨by simp[h.1],λi v x hv hx=> ?_⟩;rw[Ze3]at hv hx;split at hv
 .rename_i hi;rw[Zb4 hi]at hx;exact h.2 i v x hv hx
 .cases hv
theorem aJ.drop{l:List AV}{xs:List Value}(h:aJ ρ n C l xs)(m:Nat):aJ ρ n C (l.drop m) (xs.drop m):=by refine⟨by simp[h.1],λi v x hv hx=> ?_⟩;rw[Ze5]at hv hx;exact h.2 _ v x hv hx
theorem aJ.aQ{l vs:List AV}{xs ys:List Value}(h:aJ ρ n C l xs)(k:aJ ρ n C vs ys)(i:Nat):
  aJ ρ n C (Go.Ai.aQ l i vs) (Go.Ai.aQ xs i ys):=by
 unfold Go.Ai.aQ;rw[k.1];exact(h.take i).append (k.append (h.drop _))
theorem aJ.get{l:List AV}{xs:List Value}(h:aJ ρ n C l xs){i:Nat}{v:AV}(hv:l[i]? =some v):∃x,xs[i]? =some x/\aC ρ n C v x:=by
 have hi:i<xs.length:=by rw[<-h.1];exact(Za1.1 hv).1
 exact⟨xs[i],H0 hi,h.2 i v _ hv (H0 hi)⟩
theorem aC.OH{l:List AV}{cs:Array Value}(h:aJ ρ n C l cs.toList):aC ρ n C (.agg l) (.agg cs):=
 .agg l cs (by simpa using h.1) λi v x hv hx=>h.2 i v x hv (by simpa using hx)
theorem aC.qt{l:List AV}{cs:Array Value}(h:aJ ρ n C l cs.toList):aC ρ n C (.tuple l) (.tuple cs):=
 .tuple l cs (by simpa using h.1) λi v x hv hx=>h.2 i v x hv (by simpa using hx)
theorem aC.Fk{l:List AV}{x:Value}(h:aC ρ n C (.agg l) x):∃cs,x= .agg cs/\aJ ρ n C l cs.toList:=by
 cases h with|agg _ cs hl h=>exact⟨cs,rfl,by simpa using hl,λi v x hv hx=>h i v x hv (by simpa using hx)⟩
theorem aC.Ve{l:List AV}{x:Value}(h:aC ρ n C (.tuple l) x):∃cs,x= .tuple cs/\aJ ρ n C l cs.toList:=by
 cases h with|tuple _ cs hl h=>exact⟨cs,rfl,by simpa using hl,λi v x hv hx=>h i v x hv (by simpa using hx)⟩
theorem aC.QV{f:FuncId}{a b:List AV}{x:Value}(h:aC ρ n C (.func f a b) x):
  ∃a' b',x= .func (.func f) a' b'/\aJ ρ n C a a'.toList/\aJ ρ n C b b'.toList:=by
 cases h with
 |func _ _ _ a' b' hx hy h1 h2=>exact⟨a',b',rfl,⟨by simpa using hx,λi v x hv hx=>h1 i v x hv (by simpa using hx)⟩,⟨by simpa using hy,λi v x hv hx=>h2 i v x hv (by simpa using hx)⟩⟩
theorem aC.cells{v:AV}{x:Value}(h:aC ρ n C v x):aJ ρ n C v.cells x.cells.toList:=by
 by_cases hv:∃l,v= .agg l
 .obtain⟨l,rfl⟩:=hv;obtain⟨cs,rfl,hs⟩:=h.Fk;exact hs
 .have h1:v.cells=[v]:=(by cases v<;>first|rfl|exact absurd ⟨_,rfl⟩ hv);have h2:x.cells= #[x]:=(by cases h<;>first|rfl|exact absurd ⟨_,rfl⟩ hv);rw[h1,h2];exact aJ.cons h aJ.nil
def tD(ρ:Pos->Loc)(n:Nat)(C:Cells)(L:Loc)(w:World):AB->Prop
 |.cells cs fz=>∃(c:Array Value) (e:TypeId) (fr:Nat×Nat),w.heap[L.aM]? =some (.cells c e fr)/\c.size=L.size/\L.base+cs.length<=c.size/\
  aJ ρ n C cs ((c.toList.drop L.base).take cs.length)/\∀i,fz<=i->L.base+i<c.size->¬(fr.1<=L.base+i/\L.base+i<fr.2)
 |.map es clock=>∃(es':Array MapEntry),w.heap[L.aM]? =some (.map es' clock)/\es.length=es'.size/\
  ∀(i:Nat)(e:AV×AV×Nat)(e':MapEntry),es[i]? =some e->es'[i]? =some e'->aC ρ n C e.1 e'.key/\aC ρ n C e.2.1 e'.val/\e.2.2=e'.born
theorem tD.mono{L:Loc}{w:World}{x:AB}(h:tD ρ n C L w x)(bE:∀b:Pos,b.toNat<n->ρ' b=ρ b)(hn:n<=n'):tD ρ' n' C L w x:=by
 cases x with
 |cells cs fz=>obtain⟨c,e,fr,h1,h2,h3,h4,h5⟩:=h;exact⟨c,e,fr,h1,h2,h3,h4.mono bE hn,h5⟩
 |map es clock=>obtain⟨es',h1,h2,h3⟩:=h;exact⟨es',h1,h2,λi e e' he rf=>let⟨a,b,c⟩:=h3 i e e' he rf;⟨a.mono bE hn,b.mono bE hn,c⟩⟩
theorem tD.of_heap{L:Loc}{w w':World}{x:AB}(h:tD ρ n C L w x)(hw:w'.heap[L.aM]? =w.heap[L.aM]?):tD ρ n C L w' x:=by
 cases x with
 |cells cs fz=>obtain⟨c,e,fr,h1,h2⟩:=h;exact⟨c,e,fr,by rw[hw];exact h1,h2⟩
 |map es clock=>obtain⟨es',h1,h2⟩:=h;exact⟨es',by rw[hw];exact h1,h2⟩
end
structure bV(ρ:Pos->Loc)(C:Cells)(st:St)(w:World):Prop where
 live:∀b x,st.heap.get b=some x->b.toNat<st.next.toNat/\(ρ b).aM<w.heap.size/\tD ρ st.next.toNat C (ρ b) w x
 inj:∀b b' x x',st.heap.get b=some x->st.heap.get b'=some x'->(ρ b).aM=(ρ b').aM->b=b'
 dS:∀a v,C a=some v->w.cell? a=some v/\∀b x,st.heap.get b=some x->(ρ b).aM≠a.block
 whole:∀a v,C a=some v->∀o,C ⟨a.block,o,none⟩=none->w.cell? ⟨a.block,o,none⟩=none
structure oJ(ρ:Pos->Loc)(st:St)(w:World)(ρ':Pos->Loc)(st':St)(w':World):Prop where
 os:w'.os=w.os
 tape:w'.tape=w.tape
 output:w'.output=w.output
 size:w.heap.size<=w'.heap.size
 block:∀k,k<w.heap.size->(∀b x,st.heap.get b=some x->(ρ b).aM≠k)->w'.heap[k]? =w.heap[k]?
 yf:∀b x,st'.heap.get b=some x->(∃b' x',st.heap.get b'=some x'/\(ρ b').aM=(ρ' b).aM)\/w.heap.size<=(ρ' b).aM
theorem oJ.refl(ρ:Pos->Loc)(st:St)(w:World):oJ ρ st w ρ st w:=⟨rfl,rfl,rfl,Za3 _,λ_ _ _=>rfl,λb x h=>.inl ⟨b,x,h,rfl⟩⟩
theorem oJ.trans{ρ jW uW:Pos->Loc}{st bD An:St}{w w1 w2:World}(h:oJ ρ st w jW bD w1)(k:oJ jW bD w1 uW An w2):oJ ρ st w uW An w2 where
 os:=k.os.trans h.os
 tape:=k.tape.trans h.tape
 output:=k.output.trans h.output
 size:=Zb3 h.size k.size
 block q hq hn:=by
  rw[k.block q (Zd1 hq h.size) λb x hb e=> ?_,h.block q hq hn];rcases h.yf b x hb with⟨b',x',h1,h2⟩|h1
  .exact hn b' x' h1 (h2.trans e)
  .rw[e]at h1;omega
 yf b x hb:=by
  rcases k.yf b x hb with⟨b',x',h1,h2⟩|h1
  . rcases h.yf b' x' h1 with⟨b'',x'',h3,h4⟩|h3
    .exact .inl ⟨b'',x'',h3,h4.trans h2⟩
    .right;rw[<-h2];exact h3
  .exact .inr (Zb3 h.size h1)
def kQ(ρ:Pos->Loc)(n:Nat)(C:Cells)(fr:Fr)(tmps:Array Value):Prop:=
 ∀p v,fr.get p=some v->∃x,tmps[p.toNat - 1]? =some x/\aC ρ n C v x
theorem Pos.toNat_pos(p:Pos):0<p.toNat:=by
 induction p with
 |h=>simp[Pos.toNat]
 |o p ih=>simp[Pos.toNat];exact ih
 |i p ih=>simp[Pos.toNat]
theorem Pos.toNat_inj:∀{p q:Pos},p.toNat=q.toNat->p=q
 |.h,.h,_=>rfl
 |.h,.o q,hq=>by have:=q.toNat_pos;simp[Pos.toNat]at hq;omega
 |.h,.i q,hq=>by have:=q.toNat_pos;simp[Pos.toNat]at hq;omega
 |.o p,.h,hq=>by have:=p.toNat_pos;simp[Pos.toNat]at hq;omega
 |.o p,.o q,hq=>by simp[Pos.toNat]at hq;rw[Pos.toNat_inj (p:=p) (q:=q) (by omega)]
 |.o p,.i q,hq=>by simp[Pos.toNat]at hq;omega
 |.i p,.h,hq=>by have:=p.toNat_pos;simp[Pos.toNat]at hq;omega
 |.i p,.o q,hq=>by simp[Pos.toNat]at hq;omega
 |.i p,.i q,hq=>by simp[Pos.toNat]at hq;rw[Pos.toNat_inj (p:=p) (q:=q) (by omega)]
theorem Pos.aD(p:Pos):p.succ.toNat=p.toNat+1:=by
 induction p with
 |h=>rfl
 |o p ih=>simp[Pos.succ,Pos.toNat]
 |i p ih=>simp[Pos.succ,Pos.toNat,ih];omega
theorem Pos.QW:∀(f m:Nat),0<m->m<2 ^ (f+1)->(Pos.af6 f m).toNat=m
 |0,m,hp,hl=>by
  simp at hl;have:m=1:=by omega
  subst this;rfl
 |f +   1,m,hp,hl=>by
  unfold Pos.af6;split
  . (rename_i hb;have:=Zb5 hb;have:m=1:=by omega);subst this;rfl
  . rename_i hb;have h1:1<m:=by
        rcases Zj2 1 m with hh|hh
        .exact hh
        .rw[Nat.ble_eq_true_of_le hh]at hb;cases hb
    have h2:m / 2<2 ^ (f+1):=(by have:2 ^ (f+1+1)=2*2 ^ (f+1):=(by rw[Nat.pow_succ];omega);omega);split
    .   rename_i he;have:=Za7 he;simp only[Pos.toNat];rw[Pos.QW f _ (by omega) h2];omega
    .   rename_i he;have:=Zf2 he;simp only[Pos.toNat];rw[Pos.QW f _ (by omega) h2];omega
theorem iM(n:Nat):(key n).toNat=n+1:=Pos.QW _ (n+1) (by omega) Nat.lt_log2_self
theorem T.dN{α:Type}(p:Pos):(T.e:T α).get p=none:=by cases p<;>rfl
theorem T.gy{α:Type}(x:Option α)(p:Pos)(t:T α):(T.put x p t).get p=x:=by
 induction p generalizing t with
 |h=>cases t<;>rfl
 |o p ih=>cases t<;>exact ih _
 |i p ih=>cases t<;>exact ih _
theorem T.b9{α:Type}(x:Option α){p q:Pos}(h:p≠q)(t:T α):(T.put x p t).get q=t.get q:=by
 induction p generalizing q t with
 |h=>cases q with
  |h=>exact absurd rfl h
  |o q=>cases t<;>simp[T.put,T.get,T.dN]
  |i q=>cases t<;>simp[T.put,T.get,T.dN]
 |o p ih=>cases q with
  |h=>cases t<;>simp[T.put,T.get]
  | o q=>cases t with
    |e=>simp only[T.put,T.get];rw[ih (λe=>h (by rw[e])),T.dN]
    |n l v r=>simp only[T.put,T.get];exact ih (λe=>h (by rw[e])) l
  |i q=>cases t<;>simp[T.put,T.get,T.dN]
 |i p ih=>cases q with
  |h=>cases t<;>simp[T.put,T.get]
  |o q=>cases t<;>simp[T.put,T.get,T.dN]
  | i q=>cases t with
    |e=>simp only[T.put,T.get];rw[ih (λe=>h (by rw[e])),T.dN]
    |n l v r=>simp only[T.put,T.get];exact ih (λe=>h (by rw[e])) r
theorem Pos.beq_eq:∀{p q:Pos},p.beq q=true↔p=q
 |.h,.h=>by simp[Pos.beq]
 |.h,.o q=>by simp[Pos.beq]
 |.h,.i q=>by simp[Pos.beq]
 |.o p,.h=>by simp[Pos.beq]
 |.o p,.o q=>by simp only[Pos.beq,Pos.o.injEq];exact Pos.beq_eq
 |.o p,.i q=>by simp[Pos.beq]
 |.i p,.h=>by simp[Pos.beq]
 |.i p,.o q=>by simp[Pos.beq]
 |.i p,.i q=>by simp only[Pos.beq,Pos.i.injEq];exact Pos.beq_eq
end
noncomputable section
section
variable{R:Type}
def Bj{α:Type}(p:Pos):T α->Option α:=
 Pos.rec (motive:=λ_=>T α->Option α)
    (λt=>T.rec (motive:=λ_=>Option α) none (λ_ v _ _ _=>v) t)
    (λ_ ih t=>T.rec (motive:=λ_=>Option α) none (λl _ _ _ _=>ih l) t)
    (λ_ ih t=>T.rec (motive:=λ_=>Option α) none (λ_ _ r _ _=>ih r) t) p
def wT{α:Type}(x:Option α)(p:Pos):T α->(T α->R)->R:=
 Pos.rec (motive:=λ_=>T α->(T α->R)->R)
    (λt k=>T.rec (motive:=λ_=>R) (k (.n .e x .e)) (λl _ r _ _=>k (.n l x r)) t)
    (λ_ ih t k=>T.rec (motive:=λ_=>R) (ih .e λl=>k (.n l none .e)) (λl v r _ _=>ih l λl=>k (.n l v r)) t)
    (λ_ ih t k=>T.rec (motive:=λ_=>R) (ih .e λr=>k (.n .e none r)) (λl v r _ _=>ih r λr=>k (.n l v r)) t) p
def vr(n:Nat)(k:Nat->R):R:=Nat.rec (motive:=λ_=>R) (k 0) (λm _=>k (Nat.succ m)) n
def aap(n:Int)(k:Int->R):R:=match n with
 |.ofNat m=>vr m λm=>k (.ofNat m)
 |.negSucc m=>vr m λm=>k (.negSucc m)
def aeb(b:Bool)(k:Bool->R):R:=match b with
 |true=>k true
 |false=>k false
def Gh{α:Type}(l:List α):(List α->R)->R:=
 List.rec (motive:=λ_=>(List α->R)->R) (λk=>k []) (λa _ ih k=>ih λt=>k (a::t)) l
def QX(p:Pos):(Pos->R)->R:=
 Pos.rec (motive:=λ_=>(Pos->R)->R) (λk=>k .h) (λ_ ih k=>ih λp=>k (.o p)) (λ_ ih k=>ih λp=>k (.i p)) p
def af9(o:Option Nat)(k:Option Nat->R):R:=match o with
 |none=>k none
 |some n=>vr n λn=>k (some n)
def Vf(v:AV)(k:AV->R):R:=match v with
 |.bool b=>aeb b λb=>k (.bool b)
 |.int i n=>aap n λn=>k (.int i n)
 |.str s=>Gh s λs=>k (.str s)
 |.ptr b o=>QX b λb=>vr o λo=>k (.ptr b o)
 |.slice b o l c es=>QX b λb=>vr o λo=>vr l λl=>af9 c λc=>k (.slice b o l c es)
 |.map b=>QX b λb=>k (.map b)
 |.func f x y=>Gh x λx=>Gh y λy=>k (.func f x y)
 |.agg l=>Gh l λl=>k (.agg l)
 |v=>k v
def X9(l:List AV):(List AV->R)->R:=
 List.rec (motive:=λ_=>(List AV->R)->R) (λk=>k []) (λa _ ih k=>Vf a λa=>ih λt=>k (a::t)) l
def wu(v:AV)(k:AV->R):R:=match v with
 |.tuple l=>X9 l λl=>k (.tuple l)
 |v=>Vf v k
def Kl(x:AB)(k:AB->R):R:=match x with
 |.cells cs fz=>Gh cs λcs=>vr fz λfz=>k (.cells cs fz)
 |.map es c=>Gh es λes=>vr c λc=>k (.map es c)
def abr(p:Pos):(Pos->R)->R:=
 Pos.rec (motive:=λ_=>(Pos->R)->R) (λk=>k (.o .h)) (λq _ k=>k (.i q)) (λ_ ih k=>ih λp=>k (.o p)) p
variable(z:R)
def evK(fr:Fr)(x:gX)(k:AV->R):R:=match x with
 |  .t p=>match Bj p fr with
    |some v=>k v
    |none=>z
 |.c v=>k v
def ac2(fr:Fr)(xs:List gX):(List AV->R)->R:=
 List.rec (motive:=λ_=>(List AV->R)->R) (λk=>k []) (λx _ ih k=>evK z fr x λv=>ih λvs=>k (v::vs)) xs
def Km(fr:Fr)(g:Option (Pos×Bool))(yes no:R):R:=match g with
 |none=>yes
 |  some (p,want)=>match Bj p fr with
    |some (.bool b)=>match b==want with
     |true=>yes
     |false=>no
    |some (.tuple _)=>no
    |_=>z
def n7(fr:Fr)(d:Option Pos)(v:AV)(k:Fr->R):R:=match d with
 |some p=>wT (some v) p fr k
 |none=>k fr
def delK(o:Option Pos)(h:T AB)(k:T AB->R):R:=match o with
 |some b=>wT none b h k
 |none=>k h
def ao4(o:Option (Pos×AB))(h:T AB)(k:T AB->R):R:=match o with
 |some (b,x)=>Kl x λx=>wT (some x) b h k
 |none=>k h
abbrev sy(R:Type):=FuncId->List AV->St->(AV->St->R)->R
def ao5(st:St)(del:Option Pos)(set:Option (Pos×AB))(new:Option AB)(k:St->R):R:=
 delK del st.heap λh=>ao4 set h λh=>match new with
    |some x=>Kl x λx=>wT (some x) st.next h λh=>abr st.next λn=>k { heap:=h,next:=n }
    |none=>k { heap:=h,next:=st.next }
def Ya(call:sy R)(op:aE)(xs:List AV)(st:St)(k:AV->St->R):R:=
 match op.run (λb=>Bj b st.heap) st.next xs with
 |some (.val v)=>wu v λv=>k v st
 |some (.bh v del set new)=>wu v λv=>ao5 st del set new λst=>k v st
 |some (.call f args)=>Gh args λargs=>call f args st k
 |none=>z
def ac3(call:sy R)(ops:List bS):Fr->St->(Fr->St->R)->R:=
 List.rec (motive:=λ_=>Fr->St->(Fr->St->R)->R) (λfr st k=>k fr st)
    (λo _ ih fr st k=>Km z fr o.guard
     (ac2 z fr o.xs λxs=>Ya z call o.k xs st λv st=>n7 fr o.dst v λfr=>ih fr st k)
     (n7 fr o.dst .undef λfr=>ih fr st k)) ops
def QY (cg:Nat)(h:T AB)(recs:List Rec):(T AB->R)->R:=
 List.rec (motive:=λ_=>(T AB->R)->R) (λk=>k h)
    (fun r _ ih k=>match r.c with
     |  .new id aM=>match cg.testBit r.idx with
        |true=>ih λh'=>wT (some aM) id h' k
        |false=>ih k
     |.bh _ _=>k h
     |.pure=>ih k) recs
def aga(h:T AB)(l:List (Pos×AB)):(T AB->R)->R:=
 List.rec (motive:=λ_=>(T AB->R)->R) (λk=>k h) (λx _ ih k=>ih λh'=>wT (some x.2) x.1 h' k) l
def agb(op:aE)(xs:List AV)(v:AV)(h:T AB):Bool:=
 match op.run (λb=>Bj b h) .h xs with
 |some (.val u)=>eO u v
 |_=>false
def uX(cg:Nat)(op:aE)(xs:List AV)(v:AV):List (Pos×AB)->List Rec->Bool
 |_,[]=>true
 |  up,r::rs=>match r.c with
    | .new id aM=>match cg.testBit r.idx with
      |true=>uX cg op xs v ((id,aM)::up) rs
      |false=>uX cg op xs v up rs
    | .bh base _=>match cg.testBit r.idx with
      |true=>true
      |false=>(QY cg base rs λh=>aga h up λh=>agb op xs v h)&&uX cg op xs v up rs
    |.pure=>uX cg op xs v up rs
def QZ (call:sy R)(ops:List (Nat×bS)):List Rec->T AB->Fr->St->(Fr->St->R)->R:=
 List.rec ( motive:=λ_=>List Rec->T AB->Fr->St->(Fr->St->R)->R)
    (λ_ _ fr st k=>k fr st)
    (fun jo _ ih recs base fr st k=>Km z fr jo.2.guard
     (ac2 z fr jo.2.xs λxs=>match jo.2.cls with
        | .new=>match jo.2.k.run (λ_=>none) st.next xs with
          |some (.bh v none none (some aM))=>wu v λv=>Kl aM λaM=>n7 fr jo.2.dst v λfr=>abr st.next λn=>wT (some aM) st.next st.heap λh=>
              ih ({ idx:=jo.1,o:=jo.2,v:=v,c:= .new st.next aM,nx:=n }::recs) base fr { heap:=h,next:=n } k
          |_=>z
        |.bh=>Ya z call jo.2.k xs st λv st'=>n7 fr jo.2.dst v λfr=>ih ({ idx:=jo.1,o:=jo.2,v:=v,c:= .bh base st'.heap,nx:=st'.next }::recs) st'.heap fr st' k
        | _ =>match jo.2.k.run (λ_=>none) .h xs with
          |some (.val v)=>wu v λv=>n7 fr jo.2.dst v λfr=>ih ({ idx:=jo.1,o:=jo.2,v:=v,c:= .pure,nx:=st.next }::recs) base fr st k
          | _ =>QY jo.2.cg base recs λh=>match jo.2.k.run (λb=>Bj b h) .h xs with
            | some (.val v)=>wu v λv=>match uX jo.2.cg jo.2.k xs v [] recs with
              |true=>n7 fr jo.2.dst v λfr=>ih ({ idx:=jo.1,o:=jo.2,v:=v,c:= .pure,nx:=st.next }::recs) base fr st k
              |false=>z
            |_=>z)
     (n7 fr jo.2.dst .undef λfr=>ih ({ idx:=jo.1,o:=jo.2,v:= .undef,c:= .pure,nx:=st.next }::recs) base fr st k)) ops
abbrev afN(R:Type):=AC->Fr->St->(Fr->St->R)->(Nat->Fr->St->R)->(Fr->St->R)->R
def uY(call:sy R)(ih:afN R):afN R
 |.skip,fr,st,kn,_,_=>kn fr st
 |.region ops,fr,st,kn,_,_=>ac3 z call ops fr st kn
 |.draw ops,fr,st,kn,_,_=>QZ z call ops [] st.heap fr st kn
 |.seq a b,fr,st,kn,kx,kr=>ih a fr st (λfr st=>ih b fr st kn kx kr) kx kr
 |  .cond x a b,fr,st,kn,kx,kr=>evK z fr x λv=>match v with
    |.bool true=>ih a fr st kn kx kr
    |.bool false=>ih b fr st kn kx kr
    |_=>z
 | .block id a,fr,st,kn,kx,kr=>ih a fr st kn (λxF fr st=>match Nat.beq xF id with
     |true=>kn fr st
     |false=>kx xF fr st) kr
 |.loop a,fr,st,kn,kx,kr=>ih a fr st (λfr st=>ih (.loop a) fr st kn kx kr) kx kr
 |.exit id,fr,st,_,kx,_=>kx id fr st
 |.ret,fr,st,_,_,kr=>kr fr st
def abt(call:sy R)(n:Nat):afN R:=
 Nat.rec (motive:=λ_=>afN R) (λ_ _ _ _ _ _=>z) (λ_ ih=>uY z call ih) n
def OI(vs:List AV):Nat->Fr->(Fr->R)->R:=
 List.rec (motive:=λ_=>Nat->Fr->(Fr->R)->R) (λ_ fr k=>k fr)
    (λv _ ih i fr k=>wT (some v) (key i) fr λfr=>ih (i+1) fr k) vs
def Fl(st:St)(fr:Fr)(rs:List OC)(k:AV->R):R:=
 match gP (λb=>Bj b st.heap) fr rs with
 |  some vs=>X9 vs λvs=>match vs with
    |[v]=>k v
    |vs=>k (.tuple vs)
 |none=>z
def MF (O:eP  )(G:T dM)(m:Nat)(d:Nat):sy R:=
 Nat.rec (motive:=λ_=>sy R) (λ_ _ _ _=>z)
    (fun _ ih f args st k=>match O f with
     |  some s=>match s args st with
        |some (v,st')=>wu v λv=>k v st'
        |none=>z
     |  none=>match Bj (key f) G with
        |some F=>match Nat.beq args.length F.nparams with
         |true=>OI args 0 .e λfr=>abt z ih m F.code fr st
              (λfr st=>Fl z st fr F.results λv=>k v st)
              (λ_ _ _=>z)
              (λfr st=>Fl z st fr F.results λv=>k v st)
         |false=>z
        |none=>z) d
end
end
end Go.Ai
