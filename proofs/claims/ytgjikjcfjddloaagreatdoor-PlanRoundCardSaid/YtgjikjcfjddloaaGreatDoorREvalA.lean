/- An evaluator over plain values, its compiler and its relation to worlds. -/
import Derived.Orders
import Derived.Below
set_option linter.all false
def H0:=@Option.some.injEq
def H4:=@List.getElem?_eq_getElem
def H5:=@decide_eq_true
def Za0:=@decide_eq_false
def Za1:=@List.getElem?_eq_some_iff
def Za2:=@Nat.eq_of_beq_eq_true
def Za3:=@if_neg
def Za4:=@List.mem_cons_of_mem
def Za5:=@Nat.le_refl
def Za6:=@Nat.le_of_ble_eq_true
def Za7:=@List.getD_eq_getElem?_getD
def Za8:=@List.getElem?_cons_zero
def Za9:=@if_pos
def Zb0:=@Bool.and_eq_true
def Zb1:=@List.eq_nil_of_length_eq_zero
def Zb2:=@List.mem_cons
def Zb3:=@List.length_map
def Zb4:=@List.mem_of_getElem?
def Zb5:=@List.getElem?_eq_none
def Zb6:=@List.getElem?_map
def Zb7:=@List.getElem?_cons_succ
def Zb8:=@List.map_cons
def Zb9:=@Prod.mk.injEq
def Zc0:=@List.getElem_mem
def Zc1:=@List.length_append
def Zc2:=@Nat.ne_of_beq_eq_false
def Zc3:=@List.drop_eq_getElem_cons
def Zc4:=@List.getElem?_take
def Zc5:=@List.length_cons
def Zc6:=@List.getElem?_append_left
def Zc7:=@List.mem_iff_getElem?
def Zc8:=@List.getElem?_append_right
def Zc9:=@List.drop_zero
def Zd0:=@Option.map_eq_some_iff
def Zd1:=@Nat.zero_add
def Zd2:=@List.getElem?_drop
def Zd3:=@Nat.lt_of_lt_of_le
def Zd4:=@Nat.le_trans
def Zd5:=@List.mem_append
def Zd6:=@List.mem_cons_self
def Zd7:=@List.mem_singleton
def Zd8:=@Array.getElem?_eq_some_iff
def Zd9:=@List.all_eq_true
def Ze0:=@List.take_succ_eq_append_getElem
def Ze1:=@Bool.not_true
def Ze2:=@decide_eq_true_eq
def Ze3:=@List.mem_map
def Ze4:=@List.map_append
def Ze5:=@Bool.false_eq_true
def Ze6:=@Option.bind_some
def Ze7:=@Array.getElem?_setIfInBounds_ne
def Ze8:=@List.flatten_cons
def Ze9:=@List.not_mem_nil
def Zf0:=@List.nil_append
def Zf1:=@Option.map_some
def Zf2:=@List.cons_append
def Zf3:=@List.ext_getElem?
def Zf4:=@Nat.add_sub_cancel
def Zf5:=@Option.getD_some
def Zf6:=@Nat.mod_eq_of_lt
def Zf7:=@List.append_nil
def Zf8:=@List.map_nil
def Zf9:=@if_false
def Zg0:=@Bool.true_and
def Zg1:=@Array.getElem?_eq_getElem
def Zg2:=@decide_true
def Zg3:=@Array.length_toList
def Zg4:=@Option.some.inj
def Zg5:=@List.length_nil
def Zg6:=@List.append_assoc
def Zg7:=@Nat.add_zero
def Zg8:=@List.take_of_length_le
def Zg9:=@List.mem_append_left
def Zh0:=@if_true
def Zh1:=@List.map_map
def Zh2:=@List.cons.injEq
def Zh3:=@Nat.add_assoc
def Zh4:=@Nat.mul_le_mul_right
def Zh5:=@List.drop_append_of_le_length
def Zh6:=@Bool.not_false
def Zh7:=@Array.getElem?_toList
def Zh8:=@List.mem_append_right
def Zh9:=@of_decide_eq_true
def Zi0:=@Int.toNat_natCast
def Zi1:=@Array.getElem?_append_left
def Zi2:=@Bool.or_eq_true
def Zi3:=@Nat.le_max_right
def Zi4:=@Nat.succ_mul
def Zi5:=@Nat.zero_le
def Zi6:=@Bool.not_eq_true'
def Zi7:=@Nat.mod_lt
def Zi8:=@Option.getD_none
def Zi9:=@List.take_length
def Zj0:=@Array.getD_eq_getD_getElem?
def Zj1:=@Nat.lt_or_ge
def Zj2:=@List.mem_range
def Zj3:=@beq_eq_false_iff_ne
def Zj4:=@List.getElem?_range
def Zj5:=@Nat.le_max_left
def Zj6:=@List.take_append_drop
def Zj7:=@List.length_take
def Zj8:=@or_false
def Zj9:=@Nat.add_mul
def Zk0:=@List.range_eq_range'
def Zk1:=@List.range_succ
def Zk2:=@List.map_congr_left
def Zk3:=@List.map_take
def Zk4:=@Nat.mul_one
def Zk5:=@List.getElem_map
def Zk6:=@List.length_singleton
def Zk7:=@List.findIdx?_eq_some_iff_getElem
def Zk8:=@Nat.min_eq_left
def Zk9:=@List.take_left'
def Zl0:=@Function.comp_def
def Zl1:=@Bool.and_self
def Zl2:=@List.range'_succ
def Zl3:=@List.length_drop
def Zl4:=@List.drop_length
def Zl5:=@List.take_append_of_le_length
def Zl6:=@Nat.sub_zero
def Zl7:=@List.drop_eq_nil_of_le
def Zl8:=@Bool.eq_iff_iff
def Zl9:=@Array.getElem?_setIfInBounds
def Zm0:=@List.mem_filter
def Zm1:=@List.all_cons
def Zm2:=@Array.mem_of_getElem?
def Zm3:=@List.drop_drop
def Zm4:=@Array.mem_toList_iff
def Zm5:=@and_true
def Zm6:=@List.mem_iff_getElem
def Zm7:=@Int.fdiv_eq_ediv_of_nonneg
def Zm8:=@Bool.or_eq_false_iff
def Zm9:=@Classical.byContradiction
def Zn0:=@List.replicate_succ
def Zn1:=@Bool.and_true
def Zn2:=@of_decide_eq_false
def Zn3:=@Nat.mod_eq_sub_mod
def Zn4:=@Array.ext'
def Zn5:=@List.mem_filterMap
def Zn6:=@List.size_toArray
def Zn7:=@List.getElem_cons_succ
def Zn8:=@List.getElem?_set_self
def Zn9:=@Bool.false_and
def Zo0:=@List.getElem_take
def Zo1:=@List.flatMap_cons
def Zo2:=@Nat.lt_trichotomy
def Zo3:=@Array.getElem?_modify
def Zo4:=@UInt8.lt_iff_toNat_lt
def Zo5:=@Nat.le_add_right
def Zo6:=@Array.eq_empty_of_size_eq_zero
def Zo7:=@Nat.blt_eq
def Zo8:=@Int.natCast_emod
def Zo9:=@Nat.lt_irrefl
def Zp0:=@Array.toList_extract
def Zp1:=@Nat.one_mul
def Zp2:=@List.getElem?_set_ne
def Zp3:=@List.foldl_cons
def Zp4:=@Nat.sub_self
def Zp5:=@Array.toList_setIfInBounds
def Zp6:=@Option.isSome_some
def Zp7:=@Nat.eq_zero_or_pos
def Zp8:=@List.take_take
def Zp9:=@decide_eq_true_iff
def Zq0:=@Int.emod_lt_of_pos
def Zq1:=@List.take_add_one
def Zq2:=@not_false_eq_true
def Zq3:=@List.length_range
def Zq4:=@List.sum_cons
def Zq5:=@beq_self_eq_true
def Zq6:=@Array.toList_map
def Zq7:=@List.flatten_nil
def Zq8:=@List.isEmpty_map
def Zq9:=@Nat.zero_mul
def Zr0:=@UInt8.toNat_inj
def Zr1:=@Int.ediv_nonneg
def Zr2:=@List.count_cons
def Zr3:=@List.nodup_cons
def Zr4:=@Int.emod_nonneg
def Zr5:=@List.map_id
namespace Go.Ai
section
inductive Pos where
 |h
 |o (p:Pos)
 |i (p:Pos)
 deriving DecidableEq,Inhabited
def Pos.toNat:Pos->Nat
 |.h=>1
 |.o p=>2*p.toNat
 |.i p=>2*p.toNat+1
def Pos.succ:Pos->Pos
 |.h=>.o .h
 |.o p=>.i p
 |.i p=>.o p.succ
def Pos.We:Nat->Nat->Pos
 |0,_=>.h
 |  f+1,n=>match Nat.ble n 1 with
    |true=>.h
    |false=>match Nat.beq (n % 2) 0 with
     |true=>.o (Pos.We f (n / 2))
     |false=>.i (Pos.We f (n / 2))
def key(n:Nat):Pos:=Pos.We (n+1).log2 (n+1)
def Pos.beq:Pos->Pos->Bool
 |.h,.h=>true
 |.o a,.o b=>a.beq b
 |.i a,.i b=>a.beq b
 |_,_=>false
inductive T(α:Type) where
 |e
 |n (l:T α) (v:Option α) (r:T α)
 deriving Inhabited
def T.get{α:Type}:Pos->T α->Option α
 |_,.e=>none
 |.h,.n _ v _=>v
 |.o p,.n l _ _=>l.get p
 |.i p,.n _ _ r=>r.get p
def T.put{α:Type}(x:Option α):Pos->T α->T α
 |.h,.e=>.n .e x .e
 |.h,.n l _ r=>.n l x r
 |.o p,.e=>.n (T.put x p .e) none .e
 |.o p,.n l v r=>.n (T.put x p l) v r
 |.i p,.e=>.n .e none (T.put x p .e)
 |.i p,.n l v r=>.n l v (T.put x p r)
inductive AV where
 |bool (b:Bool)
 |int (k:IntKind) (n:Int)
 |str (s:List Nat)
 |fP
 |ptr (b:Pos) (off:Nat)
 |fp (xs:List (List AV)) (i j:Nat)
 |ah
 |slice (b:Pos) (off len:Nat) (cap:Option Nat) (es:Nat)
 |fl (xs:List (List AV)) (es:Nat)
 |pP
 |map (b:Pos)
 |func (f:FuncId) (first captured:List AV)
 |jV
 |tU
 |iface (t:TypeId) (v:AV)
 |agg (l:List AV)
 |tuple (l:List AV)
 deriving Inhabited
inductive AB where
 |cells (cs:List AV) (fz:Nat)
 |map (es:List (AV×AV×Nat)) (clock:Nat)
 |jW (s:List Nat) (pos:Nat)
 |typed (t:TypeId) (cs:List AV)
 deriving Inhabited
def AV.cells:AV->List AV
 |.agg l=>l
 |v=>[v]
def AV.undef:AV:= .tuple []
def AV.one:AV->Bool
 |.agg _=>false
 |.tuple _=>false
 |_=>true
def aR:List AV->Bool
 |[]=>true
 |  v::l=>match v.one with
    |true=>aR l
    |false=>false
inductive cO where
 |val (v:AV)
 |aG (v:AV) (del:Option Pos) (set:Option (Pos×AB)) (new:Option AB)
 |call (f:FuncId) (args:List AV)
 deriving Inhabited
def nth{α:Type}:List α->Nat->Option α
 |[],_=>none
 |a::_,0=>some a
 |_::l,n+1=>nth l n
def cut{α:Type}(l:List α)(i n:Nat):Option (List α):=
 match Nat.ble (i+n) l.length with
 |true=>some ((l.drop i).take n)
 |false=>none
def aJ{α:Type}(l:List α)(i:Nat)(vs:List α):List α:=l.take i++(vs++l.drop (i+vs.length))
def jw:List Nat->List Nat->Bool
 |[],[]=>true
 |  a::x,b::y=>match Nat.beq a b with
    |true=>jw x y
    |false=>false
 |_,_=>false
def aC:List Nat->List Nat->Bool
 |_,[]=>false
 |[],_::_=>true
 |  a::x,b::y=>match Nat.blt a b with
    |true=>true
    |false=>match Nat.beq a b with
     |true=>aC x y
     |false=>false
inductive PK where
 |b
 |i
 |s
 deriving Inhabited
inductive fC where
 |num
 |bool
 |ptr
 |slice
 |map
 |func
 |iface
 |struct (fs:List (Nat×PK))
 deriving Inhabited
inductive agE where
 |int (k:IntKind)
 |same
 |bytes
 |ofBytes
 deriving Inhabited
inductive LK where
 |s
 |l
 |m
 deriving Inhabited
inductive av where
 |move
 |pick
 |alloc (zero:List AV)
 |box
 |build (zero:List AV) (places:List (Nat×Nat))
 |buildSlice (es len:Nat) (zero:List AV) (places:List Nat)
 |load (n:Option Nat)
 |store (n:Nat)
 |nilCheck
 |bin (op:BinOp) (q:fC)
 |un (op:UnOp)
 |conv (k:agE)
 |mkIface (t:TypeId)
 |mkFunc (f:FuncId) (K5:Nat)
 |mkMap
 |lookup (pk:PK) (zero:AV) (ok:Bool)
 |mapSet (pk:PK)
 |mkSlice (es bytes:Nat) (zero:List AV)
 |sliceS (lo hi:Bool)
 |sliceL (es:Nat) (lo hi mx:Bool)
 |fieldA (off:Nat)
 |idxA (es:Nat) (arr:Option Nat)
 |field (off:Nat) (n:Option Nat)
 |idxS
 |extract (i:Nat)
 |callF (f:FuncId)
 |callV
 |lenB (k:LK)
 |capB
 |append (es bytes:Nat)
 |copyB (es:Nat)
 |minB
 |maxB
 |clearS (es:Nat) (zero:List AV)
 |rangeS
 |nextS
 |allocT (t:TypeId) (zero:List AV)
 |appendT (e:TypeId) (bytes:Nat)
 |toU
 |fromU (u:TypeId) (n:Nat)
 |sliceData
 |unsafeStr (e:TypeId)
 |bad
 deriving Inhabited
def TN(k:IntKind):Int:=match k with
 |.i8=> -128|.i16=> -32768|.i32=> -2147483648|.i64=> -9223372036854775808|_=>0
def TO(k:IntKind):Int:=match k with
 |.i8=>127|.i16=>32767|.i32=>2147483647|.i64=>9223372036854775807
 |.u8=>255|.u16=>65535|.u32=>4294967295|.u64=>18446744073709551615
def au(k:IntKind)(n:Int):Int:=
 match Int.decLe (TN k) n with
 |  .isTrue _=>match Int.decLe n (TO k)with
    |.isTrue _=>n
    |.isFalse _=>k.wrap n
 |.isFalse _=>k.wrap n
def Dx(a b:IntKind):Bool:=match decEq a b with
 |.isTrue _=>true
 |.isFalse _=>false
def wM(a b:Int):Bool:=match Int.decEq a b with
 |.isTrue _=>true
 |.isFalse _=>false
def yo(a b:Int):Bool:=match Int.decLt a b with
 |.isTrue _=>true
 |.isFalse _=>false
def VI(a b:Int):Bool:=match Int.decLe a b with
 |.isTrue _=>true
 |.isFalse _=>false
def Ay:PK->AV->AV->Option Bool
 |.b,.bool a,.bool b=>some (a==b)
 |  .i,.int k a,.int k' b=>match Dx k k' with
    |true=>some (wM a b)
    |false=>none
 |.s,.str a,.str b=>some (jw a b)
 |_,_,_=>none
def eqFields(xs ys:List AV):List (Nat×PK)->Option Bool
 |[]=>some true
 |  (o,pk)::fs=>match nth xs o,nth ys o with
    | some a,some b=>match Ay pk a b with
      |some true=>eqFields xs ys fs
      |some false=>some false
      |none=>none
    |_,_=>none
def K7:fC->AV->AV->Option Bool
 |.bool,.bool a,.bool b=>some (a==b)
 |.ptr,.fP,.fP=>some true
 |.ptr,.fP,.ptr _ _=>some false
 |.ptr,.ptr _ _,.fP=>some false
 |.ptr,.fP,.fp _ _ _=>some false
 |.ptr,.fp _ _ _,.fP=>some false
 |  .ptr,.ptr b o,.ptr b' o'=>match Pos.beq b b',Nat.beq o o' with
    |true,true=>some true
    |_,_=>none
 |.slice,.ah,.ah=>some true
 |.slice,.ah,.slice _ _ _ _ _=>some false
 |.slice,.slice _ _ _ _ _,.ah=>some false
 |.slice,.ah,.fl _ _=>some false
 |.slice,.fl _ _,.ah=>some false
 |.map,.pP,.pP=>some true
 |.map,.pP,.map _=>some false
 |.map,.map _,.pP=>some false
 |.func,.jV,.jV=>some true
 |.func,.jV,.func _ _ _=>some false
 |.func,.func _ _ _,.jV=>some false
 |.iface,.tU,.iface _ _=>some false
 |.iface,.iface _ _,.tU=>some false
 |.struct fs,.agg xs,.agg ys=>eqFields xs ys fs
 |_,_,_=>none
def jX (op:BinOp)(q:fC):AV->AV->Option AV
 |  .int k a,.int k' b=>match op with
    | .shl=>match yo b 0 with
      |true=>none
      |false=>some (.int k (au k (a*2 ^ (min b.toNat k.bits))))
    | .shr=>match yo b 0 with
      |true=>none
      |false=>some (.int k (a.fdiv (2 ^ (min b.toNat k.bits))))
    | op=>match Dx k k' with
      |false=>none
      | true=>match op with
        |.add=>some (.int k (au k (a+b)))
        |.sub=>some (.int k (au k (a - b)))
        |.mul=>some (.int k (au k (a*b)))
        | .quo=>match wM b 0 with
          |true=>none
          |false=>some (.int k (au k (a.tdiv b)))
        | .rem=>match wM b 0 with
          |true=>none
          |false=>some (.int k (a.tmod b))
        |.and=>some (.int k (k.wrap (BitVec.ofInt k.bits a &&& BitVec.ofInt k.bits b).toNat))
        |.or=>some (.int k (k.wrap (BitVec.ofInt k.bits a ||| BitVec.ofInt k.bits b).toNat))
        |.xor=>some (.int k (k.wrap (BitVec.ofInt k.bits a ^^^ BitVec.ofInt k.bits b).toNat))
        |.andNot=>some (.int k (k.wrap (BitVec.ofInt k.bits a &&& ~~~BitVec.ofInt k.bits b).toNat))
        |.eql=>some (.bool (wM a b))
        |.neq=>some (.bool (!wM a b))
        |.lss=>some (.bool (yo a b))
        |.leq=>some (.bool (VI a b))
        |.gtr=>some (.bool (yo b a))
        |.geq=>some (.bool (VI b a))
        |_=>none
 |  .str a,.str b=>match op with
    | .add=>match Nat.ble (a.length+b.length) 9223372036854775807 with
      |true=>some (.str (a++b))
      |false=>none
    |.eql=>some (.bool (jw a b))
    |.neq=>some (.bool (!jw a b))
    |.lss=>some (.bool (aC a b))
    |.leq=>some (.bool (aC a b||jw a b))
    |.gtr=>some (.bool (!(aC a b||jw a b)))
    |.geq=>some (.bool (!aC a b))
    |_=>none
 |  x,y=>match op with
    | .eql=>match K7 q x y with
      |some b=>some (.bool b)
      |none=>none
    | .neq=>match K7 q x y with
      |some b=>some (.bool (!b))
      |none=>none
    |_=>none
def unA(op:UnOp):AV->Option AV
 |  .bool b=>match op with
    |.not=>some (.bool (!b))
    |_=>none
 |  .int k n=>match op with
    |.neg=>some (.int k (au k (0 - n)))
    |_=>none
 |_=>none
def cW(cells:List AV):List (Nat×Nat)->List AV->Option (List AV)
 |[],[]=>some cells
 |  (off,size)::ps,v::vs=>
    match Nat.beq v.cells.length size,Nat.ble (off+size) cells.length with
    |true,true=>cW (aJ cells off v.cells) ps vs
    |_,_=>none
 |_,_=>none
def cC{α:Type}(l:List α):Nat->List α
 |0=>[]
 |n+1=>l++cC l n
def tV:AV->Option Nat
 |  .int _ n=>match n with
    |.ofNat m=>some m
    |.negSucc _=>none
 |_=>none
def BU(n:Nat):AV:= .int .i64 (.ofNat n)
def rows(es:Nat)(cs:List AV):Nat->List (List AV)
 |0=>[]
 |n+1=>cs.take es::rows es (cs.drop es) n
def bounds:(lo hi mx:Bool)->List AV->Option (Option Nat×Option Nat×Option Nat)
 |false,false,false,[]=>some (none,none,none)
 |  true,false,false,[a]=>match tV a with
    |some l=>some (some l,none,none)
    |none=>none
 |  false,true,false,[b]=>match tV b with
    |some h=>some (none,some h,none)
    |none=>none
 |  true,true,false,[a,b]=>match tV a,tV b with
    |some l,some h=>some (some l,some h,none)
    |_,_=>none
 |  false,true,true,[b,c]=>match tV b,tV c with
    |some h,some m=>some (none,some h,some m)
    |_,_=>none
 |  true,true,true,[a,b,c]=>match tV a,tV b,tV c with
    |some l,some h,some m=>some (some l,some h,some m)
    |_,_,_=>none
 |_,_,_,_=>none
def cH(es n:Nat)(H:Pos->Option AB):AV->Option (List AV)
 |.ah=>some []
 |  .slice b off _ _ _=>match Nat.beq (n*es) 0 with
    |true=>some []
    |false=>match H b with
     |some (.cells cs _)=>cut cs off (n*es)
     |_=>none
 |  .fl xs es'=>match Nat.beq es es',Nat.ble n xs.length with
    |true,true=>some (xs.take n).flatten
    |_,_=>none
 |  .str s=>match Nat.beq es 1,Nat.ble n s.length with
    |true,true=>some ((s.take n).map λc=>.int .u8 (.ofNat c))
    |_,_=>none
 |_=>none
def dD:AV->Option Nat
 |.ah=>some 0
 |.slice _ _ n _ _=>some n
 |.fl xs _=>some xs.length
 |.str s=>some s.length
 |_=>none
def jY(pk:PK)(k:AV):List (AV×AV×Nat)->Nat->Option (Option (Nat×AV))
 |[],_=>some none
 |  (k',v,_)::es,i=>match Ay pk k k' with
    |some true=>some (some (i,v))
    |some false=>jY pk k es (i+1)
    |none=>none
def aaQ:PK->AV->Bool
 |.b,.bool _=>true
 |.i,.int _ _=>true
 |.s,.str _=>true
 |_,_=>false
def oI(k v:AV):List (AV×AV×Nat)->Nat->List (AV×AV×Nat)
 |[],_=>[]
 |(_,_,born)::es,0=>(k,v,born)::es
 |e::es,i+1=>e::oI k v es i
def ZN(s:List Nat)(pos:Nat):Option (Nat×Nat):=
 match nth s pos with
 |  some c=>match Nat.blt c 128 with
    |true=>some (c,1)
    |false=>none
 |none=>none
def bytesOf:List AV->Option (List Nat)
 |[]=>some []
 |  .int .u8 (.ofNat n)::l=>match Nat.blt n 256,bytesOf l with
    |true,some s=>some (n::s)
    |_,_=>none
 |_=>none
def Nh(_H:Pos->Option AB)(_next:Pos):List AV->Option cO
 |[x]=>some (.val x)
 |_=>none
def Sl(_H:Pos->Option AB)(_next:Pos):List AV->Option cO
 |  [c,a,b]=>match c with
    |.bool true=>some (.val a)
    |.bool false=>some (.val b)
    |_=>none
 |_=>none
def Iw(_H:Pos->Option AB)(next:Pos)(zero:List AV):List AV->Option cO
 |[]=>some (.aG (.ptr next 0) none none (some (.cells zero 0)))
 |_=>none
def Qr(_H:Pos->Option AB)(next:Pos):List AV->Option cO
 |[x]=>some (.aG (.ptr next 0) none none (some (.cells x.cells 0)))
 |_=>none
def Ix(_H:Pos->Option AB)(_next:Pos)(zero:List AV)(places:List (Nat×Nat)):List AV->Option cO
 |  xs=>match cW zero places xs with
    |some cs=>some (.val (.agg cs))
    |none=>none
def rL(_H:Pos->Option AB)(next:Pos)(es len:Nat)(zero:List AV)(places:List Nat):List AV->Option cO
 |  xs=>match cW (cC zero len) (places.map λi=>(i*es,es)) xs with
    |some cs=>some (.aG (.slice next 0 len (some len) es) none none (some (.cells cs 0)))
    |none=>none
def uP (H :Pos->Option AB)(_next:Pos)(n:Option Nat):List AV->Option cO
 |  [p] =>match p with
    | .ptr b off=>match H b with
      | some (.cells cs _)=>match n with
        | none=>match nth cs off with
          |some v=>some (.val v)
          |none=>none
        | some n=>match cut cs off n with
          |some vs=>some (.val (.agg vs))
          |none=>none
      | some (.typed _ cs)=>match n with
        | none=>match nth cs off with
          |some v=>some (.val v)
          |none=>none
        | some n=>match cut cs off n with
          |some vs=>some (.val (.agg vs))
          |none=>none
      |_=>none
    | .fp xs i j=>match nth xs i with
      | some cs=>match n with
        | none=>match nth cs j with
          |some v=>some (.val v)
          |none=>none
        | some n=>match cut cs j n with
          |some vs=>some (.val (.agg vs))
          |none=>none
      |none=>none
    |_=>none
 |_=>none
def Az (H:Pos->Option AB)(_next:Pos)(n:Nat):List AV->Option cO
 |  [p, v]=>match p with
    | .ptr b off=>match H b with
      | some (.cells cs fz)=>
        match Nat.beq v.cells.length n,Nat.ble (off+n) cs.length,Nat.ble fz off,aR v.cells with
        |true,true,true,true=>some (.aG .undef none (some (b,.cells (aJ cs off v.cells) fz)) none)
        |_,_,_,_=>none
      | some (.typed t cs)=>
        match Nat.beq v.cells.length n,Nat.ble (off+n) cs.length,aR v.cells with
        |true,true,true=>some (.aG .undef none (some (b,.typed t (aJ cs off v.cells))) none)
        |_,_,_=>none
      |_=>none
    |_=>none
 |_=>none
def Gh(_H:Pos->Option AB)(_next:Pos):List AV->Option cO
 |  [x]=>match x with
    |.ptr _ _=>some (.val x)
    |.fp _ _ _=>some (.val x)
    |.func _ _ _=>some (.val x)
    |_=>none
 |_=>none
def fQ(_H:Pos->Option AB)(_next:Pos)(op:BinOp)(q:fC):List AV->Option cO
 |  [x,y]=>match jX op q x y with
    |some v=>some (.val v)
    |none=>none
 |_=>none
def aaR(_H:Pos->Option AB)(_next:Pos)(op:UnOp):List AV->Option cO
 |  [x]=>match unA op x with
    |some v=>some (.val v)
    |none=>none
 |_=>none
def xA (H:Pos->Option AB)(next:Pos)(k:agE):List AV->Option cO
 |  [x] =>match k,x with
    |.int k,.int _ n=>some (.val (.int k (au k n)))
    |.same,.str s=>some (.val (.str s))
    |.bytes,.str s=>some (.aG (.slice next 0 s.length none 1) none none (some (.cells (s.map λc=>.int .u8 (.ofNat c)) 0)))
    |.ofBytes,.ah=>some (.val (.str []))
    | .ofBytes,.slice b off n _ _=>match Nat.beq n 0 with
      |true=>some (.val (.str []))
      | false=>match H b with
        |some (.cells cs _)=>match cut cs off n with
         |some l=>match bytesOf l with
          |some s=>some (.val (.str s))
          |none=>none
         |none=>none
        |_=>none
    |_,_=>none
 |_=>none
def Iy(_H:Pos->Option AB)(_next:Pos)(t:TypeId):List AV->Option cO
 |[x]=>some (.val (.iface t x))
 |_=>none
def Fa(_H:Pos->Option AB)(_next:Pos)(f:FuncId)(K5:Nat):List AV->Option cO
 |xs=>some (.val (.func f (xs.take K5) (xs.drop K5)))
def Iz(_H:Pos->Option AB)(next:Pos):List AV->Option cO
 |_=>some (.aG (.map next) none none (some (.map [] 0)))
def xB (H:Pos->Option AB)(_next:Pos)(pk:PK)(zero:AV)(ok:Bool):List AV->Option cO
 |  [m, k]=>
    match (match m with
      | .pP=>match aaQ pk k with
        |true=>some none
        |false=>none
      | .map b=>match H b with
        |some (.map es _)=>jY pk k es 0
        |_=>none
      |_=>none)with
    |some (some (_,v))=>some (.val (match ok with|true=>.tuple [v,.bool true]|false=>v))
    |some none=>some (.val (match ok with|true=>.tuple [zero,.bool false]|false=>zero))
    |none=>none
 |_=>none
def xC (H:Pos->Option AB)(_next:Pos)(pk:PK):List AV->Option cO
 |  [m, k,v]=>match m with
    | .map b=>match H b with
      | some (.map es clock)=>match aaQ pk k,jY pk k es 0 with
        |true,some (some (i,_))=>some (.aG .undef none (some (b,.map (oI k v es i) clock)) none)
        |true,some none=>some (.aG .undef none (some (b,.map (es++[(k,v,clock)]) (clock+1))) none)
        |_,_=>none
      |_=>none
    |_=>none
 |_=>none
def yp(_H:Pos->Option AB)(next:Pos)(es bytes:Nat)(zero:List AV):List AV->Option cO
 |  [l,c]=>match tV l,tV c with
    | some l,some c=>match Nat.ble l c,Nat.ble (bytes*c) 281474976710656,Nat.ble c 9223372036854775807 with
      |true,true,true=>some (.aG (.slice next 0 l (some c) es) none none (some (.cells (cC zero c) 0)))
      |_,_,_=>none
    |_,_=>none
 |_=>none
def ql(_H:Pos->Option AB)(_next:Pos)(lo hi:Bool):List AV->Option cO
 |  x ::bs=>match x,bounds lo hi false bs with
    | .str s,some (l,h,_)=>
      let h:=h.getD s.length
      let l:=l.getD 0
      match Nat.ble l h,Nat.ble h s.length with
      |true,true=>some (.val (.str ((s.take h).drop l)))
      |_,_=>none
    |_,_=>none
 |_=>none
def lS (_H:Pos->Option AB)(_next:Pos)(es:Nat)(lo hi mx:Bool):List AV->Option cO
 |  x ::bs=>match x,bounds lo hi mx bs with
    | .slice b off len cap es',some (l,h,m)=>
      match Nat.beq es es',Nat.ble (l.getD 0) (h.getD len)with
      | true,true=>match cap,m with
        | some c,some m=>match Nat.ble (h.getD len) m,Nat.ble m c with
          |true,true=>some (.val (.slice b (off+l.getD 0*es) (h.getD len - l.getD 0) (some (m - l.getD 0)) es))
          |_,_=>none
        | some c,none=>match Nat.ble (h.getD len) c with
          |true=>some (.val (.slice b (off+l.getD 0*es) (h.getD len - l.getD 0) (some (c - l.getD 0)) es))
          |false=>none
        | none,some m=>match Nat.ble (h.getD len) m,Nat.ble m len with
          |true,true=>some (.val (.slice b (off+l.getD 0*es) (h.getD len - l.getD 0) (some (m - l.getD 0)) es))
          |_,_=>none
        | none,none=>match Nat.ble (h.getD len) len with
          |true=>some (.val (.slice b (off+l.getD 0*es) (h.getD len - l.getD 0) none es))
          |false=>none
      |_,_=>none
    | .fl xs es',some (l,h,m)=>
      match Nat.beq es es' with
      | true=>match m with
        | some m=>match Nat.beq (l.getD 0) 0,Nat.beq (h.getD xs.length) 0,Nat.beq m 0 with
          |true,true,true=>some (.val (.slice .h 0 0 (some 0) es))
          |_,_,_=>none
        | none=>match Nat.ble (l.getD 0) (h.getD xs.length),Nat.ble (h.getD xs.length) xs.length with
          |true,true=>some (.val (.fl ((xs.take (h.getD xs.length)).drop (l.getD 0)) es))
          |_,_=>none
      |false=>none
    | .ah,some (l,h,m)=>match Nat.beq (l.getD 0) 0,Nat.beq (h.getD 0) 0,Nat.beq (m.getD 0) 0 with
        |true,true,true=>some (.val .ah)
        |_,_,_=>none
    |_,_=>none
 |_=>none
def K8(_H:Pos->Option AB)(_next:Pos)(off:Nat):List AV->Option cO
 |  [x]=>match x with
    |.ptr b o=>some (.val (.ptr b (o+off)))
    |.fp xs i j=>some (.val (.fp xs i (j+off)))
    |_=>none
 |_=>none
def mS (_H:Pos->Option AB)(_next:Pos)(es:Nat)(arr:Option Nat):List AV->Option cO
 |  [x, i]=>match tV i with
    | some i=>match arr,x with
      | none,.slice b off len _ _=>match Nat.blt i len with
        |true=>some (.val (.ptr b (off+i*es)))
        |false=>none
      | none,.fl xs es'=>match Nat.blt i xs.length,Nat.beq es es' with
        |true,true=>some (.val (.fp xs i 0))
        |_,_=>none
      | some n,.ptr b off=>match Nat.blt i n with
        |true=>some (.val (.ptr b (off+i*es)))
        |false=>none
      |_,_=>none
    |none=>none
 |_=>none
def O5 (_H:Pos->Option AB)(_next:Pos)(off:Nat)(n:Option Nat):List AV->Option cO
 |  [x] =>match x with
    | .agg cs=>match n with
      | none=>match nth cs off with
        |some v=>some (.val v)
        |none=>none
      |some n=>some (.val (.agg ((cs.drop off).take n)))
    |_=>none
 |_=>none
def Ni(_H:Pos->Option AB)(_next:Pos):List AV->Option cO
 |  [x,i]=>match x,tV i with
    | .str s,some i=>match nth s i with
      |some c=>some (.val (.int .u8 (.ofNat c)))
      |none=>none
    |_,_=>none
 |_=>none
def C8(_H:Pos->Option AB)(_next:Pos)(i:Nat):List AV->Option cO
 |  [x]=>match x with
    | .tuple vs=>match nth vs i with
      |some v=>some (.val v)
      |none=>none
    |_=>none
 |_=>none
def O6(_H:Pos->Option AB)(_next:Pos)(f:FuncId):List AV->Option cO
 |xs=>some (.call f xs)
def O7(_H:Pos->Option AB)(_next:Pos):List AV->Option cO
 |  x::xs=>match x with
    |.func f first captured=>some (.call f (first++(xs++captured)))
    |_=>none
 |_=>none
def G9(H:Pos->Option AB)(_next:Pos)(k:LK):List AV->Option cO
 |  [x]=>match k,x with
    |.m,.pP=>some (.val (BU 0))
    | .m,.map b=>match H b with
      |some (.map es _)=>some (.val (BU es.length))
      |_=>none
    |.s,.str s=>some (.val (BU s.length))
    |.l,.ah=>some (.val (BU 0))
    |.l,.slice _ _ n _ _=>some (.val (BU n))
    |.l,.fl xs _=>some (.val (BU xs.length))
    |_,_=>none
 |_=>none
def gO (H:  Pos->Option AB)(next:Pos)(es bytes:Nat):List AV->Option cO
 |  [s, x]=> match dD s,dD x with
    | some n,some m=>
      match Nat.ble ((2*(n+m)+768)*bytes) 281474976710656,Nat.ble (n+m) 9223372036854775807 with
      | true,true=>match Nat.beq m 0,s with
        |true,.slice b off n c es'=>some (.val (.slice b off n c es'))
        |true,.fl xs es'=>some (.val (.fl xs es'))
        |true,.ah=>some (.val .ah)
        |false,.ah=>match cH es m H x with
         |some new=>some (.aG (.slice next 0 m none es) none none (some (.cells new 0)))
         |none=>none
        |false,.slice b off n (some c) es'=>
         match Nat.ble (n+m) c with
         |  true=>match H b,cH es m H x with
            |some (.cells cs fz),some new=>match Nat.ble (off+(n+m)*es) cs.length,Nat.ble fz (off+n*es)&&Nat.beq es es',aR new with
             |true,true,true=>some (.aG (.slice b off (n+m) (some c) es) none (some (b,.cells (aJ cs (off+n*es) new) fz)) none)
             |_,_,_=>none
            |_,_=>none
         |  false=>match cH es n H s,cH es m H x with
            |some cY,some new=>some (.aG (.slice next 0 (n+m) none es) none none (some (.cells (cY++new) 0)))
            |_,_=>none
        |false,.slice b off n none es'=>
         match H b,cH es n H s,cH es m H x with
         |  some (.cells _ fz),some cY,some new=>match Nat.ble fz (off+n*es)&&Nat.beq es es',aR new with
            |true,true=>some (.aG (.slice next 0 (n+m) none es) (some b) none (some (.cells (cY++new) (fz - off))))
            |_,_=>none
         |_,_,_=>none
        |_,_=>none
      |_,_=>none
    |_,_=>none
 |_=>none
def mq (H : Pos->Option AB)(_next:Pos)(es:Nat):List AV->Option cO
 |  [d, x]=>match dD d,dD x with
    | some n,some m=>
      let k:=min m n
      match Nat.beq k 0 with
      | true=>match d with
        |.str _=>none
        |_=>some (.val (BU 0))
      | false=>match d with
        | .slice b off _ _ _=>match H b,cH es k H x with
          | some (.cells cs fz),some new=>match Nat.ble (off+k*es) cs.length,Nat.ble fz off,aR new with
            |true,true,true=>some (.aG (BU k) none (some (b,.cells (aJ cs off new) fz)) none)
            |_,_,_=>none
          |_,_=>none
        |_=>none
    |_,_=>none
 |_=>none
def Dm(_H:Pos->Option AB)(_next:Pos):List AV->Option cO
 |  [x,y]=>match x,y with
    |.int k a,.int _ b=>some (.val (.int k (match yo b a with|true=>b|false=>a)))
    |.str a,.str b=>some (.val (.str (match aC a b||jw a b with|true=>a|false=>b)))
    |_,_=>none
 |_=>none
def Dn(_H:Pos->Option AB)(_next:Pos):List AV->Option cO
 |  [x,y]=>match x,y with
    |.int k a,.int _ b=>some (.val (.int k (match yo a b with|true=>b|false=>a)))
    |.str a,.str b=>some (.val (.str (match aC a b with|true=>b|false=>a)))
    |_,_=>none
 |_=>none
def xD (H:Pos->Option AB)(_next:Pos)(es:Nat)(zero:List AV):List AV->Option cO
 |  [x] =>match x with
    |.ah=>some (.val .undef)
    | .slice b off n _ _=>match Nat.beq n 0 with
      |true=>some (.val .undef)
      | false=>match H b with
        |some (.cells cs fz)=>match Nat.ble (off+n*es) cs.length,Nat.ble fz off,aR (cC zero n)with
         |true,true,true=>some (.aG .undef none (some (b,.cells (aJ cs off (cC zero n)) fz)) none)
         |_,_,_=>none
        |_=>none
    |_=>none
 |_=>none
def Fb(_H:Pos->Option AB)(next:Pos):List AV->Option cO
 |  [x]=>match x with
    |.str s=>some (.aG (.ptr next 0) none none (some (.jW s 0)))
    |_=>none
 |_=>none
def IA (H:Pos->Option AB)(_next:Pos):List AV->Option cO
 |  [x] =>match x with
    | .ptr b 0=>match H b with
      | some (.jW s pos)=>match Nat.blt pos s.length with
        |true=>match ZN s pos with
         |some (c,w)=>some (.aG (.tuple [.bool true,BU pos,.int .i32 (.ofNat c)]) none (some (b,.jW s (pos+w))) none)
         |none=>none
        |false=>some (.val (.tuple [.bool false]))
      |_=>none
    |_=>none
 |_=>none
def Fe(_H:Pos->Option AB)(next:Pos)(t:TypeId)(zero:List AV):List AV->Option cO
 |[]=>some (.aG (.ptr next 0) none none (some (.typed t zero)))
 |_=>none
def oc (H:Pos->Option AB)(next:Pos)(e:TypeId)(bytes:Nat):List AV->Option cO
 |  [s, x]=> match x with
    | .str u=>match s with
      | .ah=>match Nat.ble ((2*(0+u.length)+768)*bytes) 281474976710656,Nat.ble (0+u.length) 9223372036854775807 with
        |true,true=>match Nat.beq u.length 0 with
         |true=>some (.val .ah)
         |false=>some (.aG (.slice next 0 (0+u.length) none 1) none none (some (.typed e (u.map λc=>.int .u8 (.ofNat c)))))
        |_,_=>none
      | .slice b 0 n none 1=>match Nat.ble ((2*(n+u.length)+768)*bytes) 281474976710656,Nat.ble (n+u.length) 9223372036854775807 with
        |true,true=>match Nat.beq u.length 0 with
         |true=>some (.val (.slice b 0 n none 1))
         |false=>match H b with
          |  some (.typed e' cs)=>match Nat.beq e e',cut cs 0 n with
             |true,some cY=>some (.aG (.slice next 0 (n+u.length) none 1) (some b) none (some (.typed e (cY++u.map λc=>.int .u8 (.ofNat c)))))
             |_,_=>none
          |_=>none
        |_,_=>none
      |_=>none
    |_=>none
 |_=>none
def K9 (H:Pos->Option AB)(_next:Pos):List AV->Option cO
 |  [x] =>match x with
    |.fP=>some (.val .fP)
    | .ptr b off=>match H b with
      | some (.typed _ cs)=>match Nat.blt off cs.length with
        |true=>some (.val (.ptr b off))
        |false=>none
      |_=>none
    |_=>none
 |_=>none
def Dy (H:Pos->Option AB)(_next:Pos)(u:TypeId)(n:Nat):List AV->Option cO
 |  [x] =>match x with
    |.fP=>some (.val .fP)
    | .ptr b 0=>match H b with
      | some (.typed t cs)=>match Nat.beq t u,Nat.ble n cs.length with
        |true,true=>some (.val (.ptr b 0))
        |_,_=>none
      |_=>none
    |_=>none
 |_=>none
def pQ(_H:Pos->Option AB)(_next:Pos):List AV->Option cO
 |  [x]=>match x with
    |.ah=>some (.val .fP)
    | .slice b off n _ _=>match Nat.beq n 0 with
      |true=>none
      |false=>some (.val (.ptr b off))
    |_=>none
 |_=>none
def lU (H :Pos->Option AB)(_next:Pos)(e:TypeId):List AV->Option cO
 |  [x, y]=> match y with
    | .int .i64 (.ofNat n)=>match Nat.beq n 0 with
      | true=>match x with
        |.fP=>some (.val (.str []))
        |.ptr _ _=>some (.val (.str []))
        |_=>none
      | false=>match x with
        | .ptr b 0=>match H b with
          |some (.typed e' cs)=>match Nat.beq e e',cut cs 0 n,Nat.ble n 9223372036854775807 with
           | true,some l,true=>match bytesOf l with
             |some s=>some (.aG (.str s) (some b) none none)
             |none=>none
           |_,_,_=>none
          |_=>none
        |_=>none
    |_=>none
 |_=>none
def av.run(H:Pos->Option AB)(next:Pos):av->List AV->Option cO
 |.move=>Nh H next
 |.pick=>Sl H next
 |.alloc zero=>Iw H next zero
 |.box=>Qr H next
 |.build zero places=>Ix H next zero places
 |.buildSlice es len zero places=>rL H next es len zero places
 |.load n=>uP H next n
 |.store n=>Az H next n
 |.nilCheck=>Gh H next
 |.bin op q=>fQ H next op q
 |.un op=>aaR H next op
 |.conv k=>xA H next k
 |.mkIface t=>Iy H next t
 |.mkFunc f K5=>Fa H next f K5
 |.mkMap=>Iz H next
 |.lookup pk zero ok=>xB H next pk zero ok
 |.mapSet pk=>xC H next pk
 |.mkSlice es bytes zero=>yp H next es bytes zero
 |.sliceS lo hi=>ql H next lo hi
 |.sliceL es lo hi mx=>lS H next es lo hi mx
 |.fieldA off=>K8 H next off
 |.idxA es arr=>mS H next es arr
 |.field off n=>O5 H next off n
 |.idxS=>Ni H next
 |.extract i=>C8 H next i
 |.callF f=>O6 H next f
 |.callV=>O7 H next
 |.lenB k=>G9 H next k
 |.append es bytes=>gO H next es bytes
 |.copyB es=>mq H next es
 |.minB=>Dm H next
 |.maxB=>Dn H next
 |.clearS es zero=>xD H next es zero
 |.rangeS=>Fb H next
 |.nextS=>IA H next
 |.allocT t zero=>Fe H next t zero
 |.appendT e bytes=>oc H next e bytes
 |.toU=>K9 H next
 |.fromU u n=>Dy H next u n
 |.sliceData=>pQ H next
 |.unsafeStr e=>lU H next e
 |.capB=>λ_=>none
 |.bad=>λ_=>none
inductive eZ where
 |t (p:Pos)
 |c (v:AV)
 deriving Inhabited
inductive ZO where
 |pure
 |read
 |new
 |aG
 deriving Inhabited
structure bw where
 dst:Option Pos
 k:av
 xs:List eZ
 guard:Option (Pos×Bool)
 cls:ZO
 bK:Nat
 deriving Inhabited
inductive AC where
 |skip
 |region (ops:List bw)
 |draw (ops:List (Nat×bw))
 |seq (a b:AC)
 |cond (x:eZ) (a b:AC)
 |block (id:Nat) (a:AC)
 |loop (a:AC)
 |exit (id:Nat)
 |ret
 deriving Inhabited
inductive Bl where
 |tmp (p:Pos)
 |cell (p:Pos) (n:Option Nat)
 deriving Inhabited
structure dc where
 code:AC
 nparams:Nat
 results:List Bl
 deriving Inhabited
abbrev Fr:=T AV
structure St where
 heap:T AB
 next:Pos
 deriving Inhabited
inductive jZ where
 |normal
 |exit (id:Nat)
 |ret
 deriving Inhabited
def Bm(fr:Fr):eZ->Option AV
 |.t p=>fr.get p
 |.c v=>some v
def e8(fr:Fr):List eZ->Option (List AV)
 |[]=>some []
 |  x::xs=>match Bm fr x with
    |some v=>match e8 fr xs with
     |some vs=>some (v::vs)
     |none=>none
    |none=>none
def bW(fr:Fr):Option (Pos×Bool)->Option Bool
 |none=>some true
 |  some (p,want)=>match fr.get p with
    |some (.bool b)=>some (b==want)
    |some (.tuple _)=>some false
    |_=>none
def dQ(fr:Fr)(d:Option Pos)(v:AV):Fr:=match d with
 |some p=>fr.put (some v) p
 |none=>fr
def IB(o:Option (Pos×AB))(h:T AB):T AB:=match o with
 |some (b,x)=>h.put (some x) b
 |none=>h
def Gi(o:Option Pos)(h:T AB):T AB:=match o with
 |some b=>h.put none b
 |none=>h
def St.aG(st:St)(del:Option Pos)(set:Option (Pos×AB))(new:Option AB):St:=
 match new with
 |some x=>{ heap:=T.put (some x) st.next (IB set (Gi del st.heap)),next:=st.next.succ }
 |none=>{ heap:=IB set (Gi del st.heap),next:=st.next }
abbrev ai:=FuncId->List AV->St->Option (AV×St)
def bP(call:ai)(k:av)(xs:List AV)(st:St):Option (AV×St):=
 match k.run (λb=>st.heap.get b) st.next xs with
 |some (.val v)=>some (v,st)
 |some (.aG v del set new)=>some (v,st.aG del set new)
 |some (.call f args)=>call f args st
 |none=>none
def jN (call:ai):List bw->Fr->St->Option (Fr×St)
 |[],fr,st=>some (fr,st)
 |  o::os,fr,st=>match bW fr o.guard with
    |some true=>match e8 fr o.xs with
     |  some xs=>match bP call o.k xs st with
        |some (v,st')=>jN call os (dQ fr o.dst v) st'
        |none=>none
     |none=>none
    |some false=>jN call os (dQ fr o.dst .undef) st
    |none=>none
def gK:AV->AV->Bool
 |.bool a,.bool b=>a==b
 |.int k a,.int k' b=>Dx k k'&&wM a b
 |.str a,.str b=>jw a b
 |.fP,.fP=>true
 |.ptr b o,.ptr b' o'=>Pos.beq b b'&&Nat.beq o o'
 |.ah,.ah=>true
 |.slice b o l none es,.slice b' o' l' none es'=>Pos.beq b b'&&Nat.beq o o'&&Nat.beq l l'&&Nat.beq es es'
 |.slice b o l (some c) es,.slice b' o' l' (some c') es'=>Pos.beq b b'&&Nat.beq o o'&&Nat.beq l l'&&Nat.beq c c'&&Nat.beq es es'
 |.pP,.pP=>true
 |.map b,.map b'=>Pos.beq b b'
 |.jV,.jV=>true
 |.tU,.tU=>true
 |_,_=>false
def wU:List AV->List AV->Bool
 |[],[]=>true
 |a::x,b::y=>gK a b&&wU x y
 |_,_=>false
def Ff(f:AV->AV->Bool):List AV->List AV->Bool
 |[],[]=>true
 |a::x,b::y=>f a b&&Ff f x y
 |_,_=>false
def xE(f:AV->AV->Bool):List (List AV)->List (List AV)->Bool
 |[],[]=>true
 |a::x,b::y=>Ff f a b&&xE f x y
 |_,_=>false
def Fg:Nat->AV->AV->Bool
 |d+1,.fl a n,.fl a' n'=>xE (Fg d) a a'&&Nat.beq n n'
 |_,a,b=>gK a b
def lu:AV->AV->Bool
 |.func f a b,.func f' a' b'=>Nat.beq f f'&&wU a a'&&wU b b'
 |.fl a n,.fl a' n'=>Fg 3 (.fl a n) (.fl a' n')
 |a,b=>gK a b
def tW:List AV->List AV->Bool
 |[],[]=>true
 |a::x,b::y=>lu a b&&tW x y
 |_,_=>false
def fE:AV->AV->Bool
 |.agg l,.agg l'=>tW l l'
 |.tuple l,.tuple l'=>tW l l'
 |a,b=>lu a b
inductive RC where
 |pure
 |new (id:Pos) (az:AB)
 |aG (base:T AB) (h:T AB)
 deriving Inhabited
structure Rec where
 idx:Nat
 o:bw
 v:AV
 c:RC
 nx:Pos
 deriving Inhabited
def snap(bK:Nat)(h:T AB):List Rec->T AB
 |[]=>h
 |  r ::rs=>match r.c with
    | .new id az=>match bK.testBit r.idx with
      |true=>(snap bK h rs).put (some az) id
      |false=>snap bK h rs
    |.aG _ _=>h
    |.pure=>snap bK h rs
def th:List (Pos×AB)->T AB->T AB
 |[],h=>h
 |(id,az)::l,h=>(th l h).put (some az) id
def mT(k:av)(xs:List AV)(v:AV)(h:T AB):Bool:=
 match k.run (λb=>h.get b) .h xs with
 |some (.val u)=>fE u v
 |_=>false
def lz(bK:Nat)(k:av)(xs:List AV)(v:AV):List (Pos×AB)->List Rec->Bool
 |_,[]=>true
 |  up,r::rs=>match r.c with
    | .new id az=>match bK.testBit r.idx with
      |true=>lz bK k xs v ((id,az)::up) rs
      |false=>lz bK k xs v up rs
    | .aG base _=>match bK.testBit r.idx with
      |true=>true
      |false=>mT k xs v (th up (snap bK base rs))&&lz bK k xs v up rs
    |.pure=>lz bK k xs v up rs
def dN (call:ai):List (Nat×bw)->List Rec->T AB->Fr->St->Option (Fr×St)
 |[],_,_,fr,st=>some (fr,st)
 |  (j, o)::os,recs,base,fr,st=>match bW fr o.guard with
    |some false=>dN call os ({ idx:=j,o:=o,v:= .undef,c:= .pure,nx:=st.next }::recs) base (dQ fr o.dst .undef) st
    | some true=>match e8 fr o.xs with
      |none=>none
      | some xs=>match o.cls with
        | .new=>match o.k.run (λ_=>none) st.next xs with
          |some (.aG v none none (some az))=>
           dN call os ({ idx:=j,o:=o,v:=v,c:= .new st.next az,nx:=st.next.succ }::recs) base (dQ fr o.dst v) { heap:=st.heap.put (some az) st.next,next:=st.next.succ }
          |_=>none
        | .aG=>match bP call o.k xs st with
          |some (v,st')=>dN call os ({ idx:=j,o:=o,v:=v,c:= .aG base st'.heap,nx:=st'.next }::recs) st'.heap (dQ fr o.dst v) st'
          |none=>none
        | _=>match o.k.run (λ_=>none) .h xs with
          |some (.val v)=>dN call os ({ idx:=j,o:=o,v:=v,c:= .pure,nx:=st.next }::recs) base (dQ fr o.dst v) st
          |_=>match o.k.run (λb=>(snap o.bK base recs).get b) .h xs with
           |some (.val v)=>match lz o.bK o.k xs v [] recs with
            |true=>dN call os ({ idx:=j,o:=o,v:=v,c:= .pure,nx:=st.next }::recs) base (dQ fr o.dst v) st
            |false=>none
           |_=>none
    |none=>none
def bk(call:ai)(ih:AC->Fr->St->Option (jZ×Fr×St)):AC->Fr->St->Option (jZ×Fr×St)
 |.skip,fr,st=>some (.normal,fr,st)
 |  .region ops,fr,st=>match jN call ops fr st with
    |some (fr,st)=>some (.normal,fr,st)
    |none=>none
 |  .draw ops,fr,st=>match dN call ops [] st.heap fr st with
    |some (fr,st)=>some (.normal,fr,st)
    |none=>none
 |  .seq a b,fr,st=>match ih a fr st with
    |some (.normal,fr,st)=>ih b fr st
    |r=>r
 |  .cond x a b,fr,st=>match Bm fr x with
    |some (.bool true)=>ih a fr st
    |some (.bool false)=>ih b fr st
    |_=>none
 |  .block id a,fr,st=>match ih a fr st with
    |some (.exit tj,fr,st)=>match Nat.beq tj id with
     |true=>some (.normal,fr,st)
     |false=>some (.exit tj,fr,st)
    |r=>r
 |  .loop a,fr,st=>match ih a fr st with
    |some (.normal,fr,st)=>ih (.loop a) fr st
    |r=>r
 |.exit id,fr,st=>some (.exit id,fr,st)
 |.ret,fr,st=>some (.ret,fr,st)
def exec(call:ai):Nat->AC->Fr->St->Option (jZ×Fr×St)
 |0=>λ_ _ _=>none
 |n+1=>bk call (exec call n)
def params:Nat->List AV->Fr->Fr
 |_,[],fr=>fr
 |i,v::vs,fr=>params (i+1) vs (fr.put (some v) (key i))
def c9 (H:Pos->Option AB)(fr:Fr):List Bl->Option (List AV)
 |[]=>some []
 |  .tmp p::rs=>match fr.get p with
    |some v=>match c9 H fr rs with
     |some vs=>some (v::vs)
     |none=>none
    |none=>none
 |  .cell p n::rs=>match fr.get p with
    |some q=>match (av.load n).run H .h [q]with
     |  some (.val v)=>match c9 H fr rs with
        |some vs=>some (v::vs)
        |none=>none
     |_=>none
    |none=>none
def iC:List AV->AV
 |[v]=>v
 |vs=>.tuple vs
abbrev fh:=FuncId->Option (List AV->St->Option (AV×St))
def qG (O:fh)(G:T dc)(m:Nat):Nat->ai
 |0=>λ_ _ _=>none
 |  d+  1=>λf args st=>match O f with
    |some s=>s args st
    |none=>match G.get (key f)with
     |  some F=>match Nat.beq args.length F.nparams with
        |true=>match exec (qG O G m d) m F.code (params 0 args .e) st with
         |some (.normal,fr,st')=>match c9 (λb=>st'.heap.get b) fr F.results with
          |some vs=>some (iC vs,st')
          |none=>none
         |some (.ret,fr,st')=>match c9 (λb=>st'.heap.get b) fr F.results with
          |some vs=>some (iC vs,st')
          |none=>none
         |_=>none
        |false=>none
     |none=>none
inductive TK where
 |bool
 |int (k:IntKind)
 |string
 |ptr (elem:Nat)
 |slice (elem:Nat)
 |array (n elem:Nat)
 |map (k e:Nat)
 |struct (fs:List (Nat×Nat×Bool))
 |func
 |iface
 |upt
 |other
 deriving Inhabited
structure TI where
 k:TK
 size:Nat
 bytes:Nat
 zero:Option (List AV)
 wO:Bool:=false
 deriving Inhabited
def IC:Value->Option AV
 |.bool b=>some (.bool b)
 |.int k n=>some (.int k n)
 |.string s=>some (.str (s.data.toList.map UInt8.toNat))
 |.pointer none=>some .fP
 |.slice none 0 0=>some .ah
 |.map none=>some .pP
 |.func (.func f) ⟨[]⟩ ⟨[]⟩=>some (.func f [] [])
 |.nilFunc=>some .jV
 |.nilIface=>some .tU
 |_=>none
def od:List Value->Option (List AV)
 |[]=>some []
 |  v::vs=>match IC v,od vs with
    |some a,some as=>some (a::as)
    |_,_=>none
def Sm:Value->Option AV
 |  .agg cs=>match od cs.toList with
    |some l=>some (.agg l)
    |none=>none
 |v=>IC v
def lV:Operand->Option eZ
 |.tmp t=>some (.t (key t))
 |  .const v=>match Sm v with
    |some a=>some (.c a)
    |none=>none
 |.func f=>some (.c (.func f [] []))
 |.global _=>none
def jL:List Operand->Option (List eZ)
 |[]=>some []
 |  x::xs=>match lV x,jL xs with
    |some a,some as=>some (a::as)
    |_,_=>none
def TK.isAgg:TK->Bool
 |.struct _=>true
 |.array _ _=>true
 |_=>false
abbrev TT:=T TI
def yq(tt:TT)(t:Nat):Option fC:=match tt.get (key t)with
 |  some ti=>match ti.k with
    |.bool=>some .bool
    |.int _=>some .num
    |.string=>some .num
    |.ptr _=>some .ptr
    |.slice _=>some .slice
    |.map _ _=>some .map
    |.func=>some .func
    |.iface=>some .iface
    | .struct fs=>match ti.wO,fields fs with
      |true,some l=>some (.struct l)
      |_,_=>none
    |_=>none
 |none=>none
where
 fields:List (Nat×Nat×Bool)->Option (List (Nat×PK))
  |[]=>some []
  |(off,t,named)::fs=>match named,tt.get (key t),fields fs with
   |true,some ti,some l=>match ti.k with
    |.bool=>some ((off,.b)::l)
    |.int _=>some ((off,.i)::l)
    |.string=>some ((off,.s)::l)
    |_=>none
   |_,_,_=>none
def yu(ti:TI):Option Nat:=match ti.k.isAgg with
 |true=>some ti.size
 |false=>none
def aiK(tt:TT)(t:Nat)(ti:TI):Bool:=match ti.k with
 |  .struct ((_,p,_)::_)=>match tt.get (key p)with
    |some pi=>match pi.k with
     |.ptr e=>Nat.beq e t
     |_=>false
    |none=>false
 |_=>false
def yw:Option Operand->List Operand
 |some x=>[x]
 |none=>[]
def gP (tt:TT):Op->Option (av×List eZ×ZO)
 |  .move x=>match lV x with
    |some a=>some (.move,[a],.pure)
    |none=>none
 |  .assign x=>match lV x with
    |some a=>some (.move,[a],.pure)
    |none=>none
 |  .pick c a b=>match jL [c,a,b]with
    |some l=>some (.pick,l,.pure)
    |none=>none
 |  .alloc t=>match tt.get (key t)with
    |some ti=>match ti.zero with
     |  some z=>match aiK tt t ti with
        |true=>some (.allocT t z,[],.aG)
        |false=>some (.alloc z,[],.new)
     |none=>none
    |none=>none
 |  .box _ x=>match lV x with
    |some a=>some (.box,[a],.new)
    |none=>none
 |  .build t ps=>match tt.get (key t),jL (ps.toList.map (·.2))with
    |some ti,some l=>match ti.k,ti.zero with
     |  .struct fs,some z=>match places tt fs (ps.toList.map (·.1)),VJ tt fs with
        |some p,true=>some (.build z p,l,.pure)
        |_,_=>none
     |  .array _ e,some z=>match tt.get (key e)with
        |some te=>some (.build z (ps.toList.map λx=>(x.1*te.size,te.size)),l,.pure)
        |none=>none
     |_,_=>none
    |_,_=>none
 |  .buildSlice t len ps=>match tt.get (key t),jL (ps.toList.map (·.2))with
    |some ti,some l=>match ti.k with
     |  .slice e=>match tt.get (key e)with
        | some te=>match te.zero,Nat.ble (len*te.size) 16777216 with
          |some z,true=>some (.buildSlice te.size len z (ps.toList.map (·.1)),l,.new)
          |_,_=>none
        |none=>none
     |_=>none
    |_,_=>none
 |  .load t a=>match tt.get (key t),lV a with
    |some ti,some a=>some (.load (yu ti),[a],.read)
    |_,_=>none
 |  .store t a x=>match tt.get (key t),jL [a,x]with
    |some ti,some l=>some (.store ti.size,l,.aG)
    |_,_=>none
 |  .nilCheck x=>match lV x with
    |some a=>some (.nilCheck,[a],.pure)
    |none=>none
 |  .binOp op t x y _=>match yq tt t,jL [x,y]with
    |some q,some l=>some (.bin op q,l,.pure)
    |none,some l=>match op with
     |.eql=>none
     |.neq=>none
     |_=>some (.bin op .num,l,.pure)
    |_,_=>none
 |  .unOp op _ x=>match lV x with
    |some a=>some (.un op,[a],.pure)
    |none=>none
 |  .convert src dst x=>match tt.get (key src),tt.get (key dst),lV x with
    |some s,some d,some a=>match s.k,d.k with
     |.int _,.int k=>some (.conv (.int k),[a],.pure)
     |.string,.string=>some (.conv .same,[a],.pure)
     |  .string,.slice e=>match tt.get (key e)with
        | some te=>match te.k with
          |.int .u8=>some (.conv .bytes,[a],.new)
          |_=>none
        |none=>none
     |  .slice e,.string=>match tt.get (key e)with
        | some te=>match te.k with
          |.int .u8=>some (.conv .ofBytes,[a],.read)
          |_=>none
        |none=>none
     |  .ptr e,.upt=>match tt.get (key e)with
        | some te=>match Nat.beq te.size 0 with
          |false=>some (.toU,[a],.aG)
          |true=>none
        |none=>none
     |  .upt,.ptr e=>match tt.get (key e)with
        | some te=>match Nat.beq te.size 0 with
          |false=>some (.fromU e te.size,[a],.aG)
          |true=>none
        |none=>none
     |_,_=>none
    |_,_,_=>none
 |  .makeInterface t x=>match tt.get (key t),lV x with
    |some ti,some a=>match ti.k with
     |.iface=>none
     |.other=>none
     |_=>some (.mkIface t,[a],.pure)
    |_,_=>none
 |  .makeFunc fn first captured=>match fn,jL (first.toList++captured.toList)with
    |.func f,some l=>some (.mkFunc f first.size,l,.pure)
    |_,_=>none
 |  .makeMap t r=>match tt.get (key t)with
    |some ti=>match ti.k,r with
     |.map _ _,none=>some (.mkMap,[],.new)
     |.map _ _,some (.const (.int _ _))=>some (.mkMap,[],.new)
     |_,_=>none
    |none=>none
 |  .makeSlice t l c=>match tt.get (key t),jL [l,c]with
    |some ti,some xs=>match ti.k with
     |  .slice e=>match tt.get (key e)with
        | some te=>match te.zero with
          |some z=>some (.mkSlice te.size te.bytes z,xs,.new)
          |none=>none
        |none=>none
     |_=>none
    |_,_=>none
 |  .slice t x lo hi mx=>match tt.get (key t),jL ([x]++yw lo++yw hi++yw mx)with
    |some ti,some xs=>match ti.k with
     |  .string=>match mx with
        |none=>some (.sliceS lo.isSome hi.isSome,xs,.pure)
        |some _=>none
     |  .slice e=>match tt.get (key e)with
        |some te=>some (.sliceL te.size lo.isSome hi.isSome mx.isSome,xs,.pure)
        |none=>none
     |_=>none
    |_,_=>none
 |  .fieldAddr t x f=>match tt.get (key t),lV x with
    |some ti,some a=>match ti.k with
     |  .struct fs=>match nth fs f with
        | some (off,ft,_)=>match tt.get (key ft)with
          |some fi=>match Nat.beq fi.size 0 with
           |false=>some (.fieldA off,[a],.pure)
           |true=>none
          |none=>none
        |none=>none
     |_=>none
    |_,_=>none
 |  .field t x f=>match tt.get (key t),lV x with
    |some ti,some a=>match ti.k with
     |  .struct fs=>match nth fs f with
        | some (off,ft,_)=>match tt.get (key ft)with
          |some fi=>some (.field off (yu fi),[a],.pure)
          |none=>none
        |none=>none
     |_=>none
    |_,_=>none
 |  .indexAddr t x ix=>match tt.get (key t),jL [x,ix]with
    |some ti,some l=>match ti.k with
     |  .slice e=>match tt.get (key e)with
        |some te=>some (.idxA te.size none,l,.pure)
        |none=>none
     |  .array n e=>match tt.get (key e)with
        |some te=>some (.idxA te.size (some n),l,.pure)
        |none=>none
     |_=>none
    |_,_=>none
 |  .index t x ix=>match tt.get (key t),jL [x,ix]with
    |some ti,some l=>match ti.k with
     |.string=>some (.idxS,l,.pure)
     |_=>none
    |_,_=>none
 |  .lookup t x ix ok=>match tt.get (key t),jL [x,ix]with
    |some ti,some l=>match ti.k with
     |  .map k e=>match tt.get (key k),tt.get (key e)with
        | some tk,some te=>match tk.k,te.zero with
          |.int _,some z=>some (.lookup .i (He te z) ok,l,.read)
          |.string,some z=>some (.lookup .s (He te z) ok,l,.read)
          |.bool,some z=>some (.lookup .b (He te z) ok,l,.read)
          |_,_=>none
        |_,_=>none
     |_=>none
    |_,_=>none
 |.mapUpdate t m k v=>aaS tt t m k v
 |.insert t m k v=>aaS tt t m k v
 |  .range t x=>match tt.get (key t),lV x with
    |some ti,some a=>match ti.k with
     |.string=>some (.rangeS,[a],.new)
     |_=>none
    |_,_=>none
 |  .next it isString=>match isString,lV it with
    |true,some a=>some (.nextS,[a],.aG)
    |_,_=>none
 |  .extract x i=>match lV x with
    |some a=>some (.extract i,[a],.pure)
    |none=>none
 |  .call c=>match jL c.args.toList with
    |none=>none
    |some xs =>match c.callee with
     |.value (.func f)=>some (.callF f,xs,.aG)
     |  .value x=>match lV x with
        |some a=>some (.callV,a::xs,.aG)
        |none=>none
     |.invoke _ _=>none
     |  .builtin b=>match b with
        | .len=>match c.argTypes.toList,xs with
          |t ::_,[_]=>match tt.get (key t)with
           | some ti=>match ti.k with
             |.string=>some (.lenB .s,xs,.pure)
             |.slice _=>some (.lenB .l,xs,.pure)
             |.map _ _=>some (.lenB .m,xs,.read)
             |_=>none
           |none=>none
          |_,_=>none
        | .append=>match c.argTypes.toList with
          |t ::t2::_=>match tt.get (key t),tt.get (key t2)with
           | some ti,some J6=>match ti.k,J6.k with
             |_,.int _=>none
             | .slice e,.string=>match tt.get (key e)with
               | some te=>match te.zero,te.k,Nat.beq te.size 1 with
                 |some _,.int .u8,true=>some (.appendT e te.bytes,xs,.aG)
                 |_,_,_=>none
               |none=>none
             | .slice e,_=>match tt.get (key e)with
               | some te=>match te.zero with
                 |some _=>some (.append te.size te.bytes,xs,.aG)
                 |none=>none
               |none=>none
             |_,_=>none
           |_,_=>none
          |_=>none
        | .copy=>match c.argTypes.toList with
          |t ::_=>match tt.get (key t)with
           | some ti=>match ti.k with
             | .slice e=>match tt.get (key e)with
               |some te=>some (.copyB te.size,xs,.aG)
               |none=>none
             |_=>none
           |none=>none
          |_=>none
        | .unsafeSliceData=>match xs with
          |[_]=>some (.sliceData,xs,.pure)
          |_=>none
        | .unsafeString=>match c.argTypes.toList with
          |[t, _]=>match tt.get (key t)with
           | some ti=>match ti.k with
             | .ptr e=>match tt.get (key e)with
               | some te=>match te.k,Nat.beq te.size 1 with
                 |.int .u8,true=>some (.unsafeStr e,xs,.aG)
                 |_,_=>none
               |none=>none
             |_=>none
           |none=>none
          |_=>none
        | .min=>match xs with
          |[_,_]=>some (.minB,xs,.pure)
          |_=>none
        | .max=>match xs with
          |[_,_]=>some (.maxB,xs,.pure)
          |_=>none
        | .clear=>match c.argTypes.toList with
          |t ::_=>match tt.get (key t)with
           | some ti=>match ti.k with
             | .slice e=>match tt.get (key e)with
               | some te=>match te.zero with
                 |some z=>some (.clearS te.size z,xs,.aG)
                 |none=>none
               |none=>none
             |_=>none
           |none=>none
          |_=>none
        |_=>none
 |_=>none
where
 VJ (tt:TT):List (Nat×Nat×Bool)->Bool
  |[]=>true
  |  (_,t,_)::l=>match tt.get (key t)with
     |some _=>VJ tt l
     |none=>false
 places (tt:TT) (fs:List (Nat×Nat×Bool)):List Nat->Option (List (Nat×Nat))
  |[]=>some []
  |  i ::is=>match nth fs i,places tt fs is with
     | some (off,t,_),some l=>match tt.get (key t)with
       |some ti=>some ((off,ti.size)::l)
       |none=>none
     |_,_=>none
 He (te:TI) (z:List AV):AV:=match te.k.isAgg with
  |true=>.agg z
  |  false=>match z with
     |[v]=>v
     |_=>.agg z
 aaS (tt:TT) (t:Nat) (m k v:Operand):Option (av×List eZ×ZO):=
  match tt.get (key t),jL [m,k,v]with
  |  some ti,some l=>match ti.k with
     | .map kt _=>match tt.get (key kt)with
       |some tk=>match tk.k with
        |.int _=>some (.mapSet .i,l,.aG)
        |.string=>some (.mapSet .s,l,.aG)
        |.bool=>some (.mapSet .b,l,.aG)
        |_=>none
       |none=>none
     |_=>none
  |_,_=>none
def Qt(ops:Array Oper):Option (Nat×Bool)->Option (Option (Pos×Bool))
 |none=>some none
 |  some (j,b)=>match ops[j]? with
    |some o=>match o.dst with
     |some d=>some (some (key d,b))
     |none=>none
    |none=>none
def Wg:List Oper->List Nat->List Nat
 |[],acc=>acc
 |o::os,acc=>Wg os (acc++[o.after.toList.foldl (λs e=>match Region.binds .any e with
   |true=>s ||| 2 ^ e.on ||| (nth acc e.on).getD 0
   |false=>s) 0])
def oe(tt:TT)(nt:Nat)(ops:Array Oper):List Oper->List Nat->Option (List bw)
 |[],_=>some []
 |  o::os,bs=>match Qt ops o.guard,oe tt nt ops os bs.tail,agF nt o.dst with
    |some g,some l,true=>match gP tt o.op with
     |some (k,xs,cls)=>some ({ dst:=o.dst.map key,k:=k,xs:=xs,guard:=g,cls:=cls,bK:=bs.headD 0 }::l)
     |none=>some ({ dst:=o.dst.map key,k:= .bad,xs:=[],guard:=g,cls:= .aG,bK:=bs.headD 0 }::l)
    |_,_,_=>none
where
 agF (nt:Nat):Option Tmp->Bool
  |none=>true
  |some d=>Nat.blt d nt
def bw.looks(o:bw):List Pos:=
 (match o.guard with|some (p,_)=>[p]|none=>[])++o.xs.filterMap λ|.t p=>some p|.c _=>none
def Hf(p:Pos):List Pos->Bool
 |[]=>false
 |q::l=>Pos.beq p q||Hf p l
def La(a b:bw):Bool:=
 (match a.dst with
  |some d=> !Hf d b.looks&&(match b.dst with|some d'=> !Pos.beq d d'|none=>true)
  |none=>true)&&
 (match b.dst with
  |some d=> !Hf d a.looks
  |none=>true)
def wP:List (Nat×bw)->List (Nat×bw)->List (Nat×bw)
 |[],held=>held
 |  (i,o)::l,held=>match o.cls with
    |.aG=>held.filter (λx=>o.bK.testBit x.1)++(i,o)::wP l (held.filter λx=> !o.bK.testBit x.1)
    |_=>wP l (held++[(i,o)])
def Dz:Nat->List bw->List (Nat×bw)
 |_,[]=>[]
 |i,o::os=>(i,o)::Dz (i+1) os
def Hg(m:Nat):Nat->List (Nat×bw)->Bool
 |seen,[]=>Nat.beq seen (2 ^ m - 1)
 |  seen,(i,o)::l=>Nat.blt i m&& !seen.testBit i&&Nat.beq (o.bK &&& seen) o.bK&&(match o.cls with|.aG=>Nat.beq o.bK seen|_=>true)&&
    (l.all λx=>x.2.bK.testBit i||La o x.2)&&Hg m (seen ||| 2 ^ i) l
def tq (tt:TT)(nt:Nat):Code->Option AC
 |.skip=>some .skip
 |  .region _ ops draw=>match oe tt nt ops ops.toList (Wg ops.toList [])with
    |none=>none
    |some l=>match draw with
     |false=>some (.region l)
     |  true=>match Hg l.length 0 (wP (Dz 0 l) [])with
        |true=>some (.draw (wP (Dz 0 l) []))
        |false=>none
 |  .seq a b=>match tq tt nt a,tq tt nt b with
    |some a,some b=>some (.seq a b)
    |_,_=>none
 |  .cond c a b=>match lV c,tq tt nt a,tq tt nt b with
    |some c,some a,some b=>some (.cond c a b)
    |_,_,_=>none
 |  .block id a=>match tq tt nt a with
    |some a=>some (.block id a)
    |none=>none
 |  .loop a=>match tq tt nt a with
    |some a=>some (.loop a)
    |none=>none
 |.exit id=>some (.exit id)
 |.ret=>some .ret
 |.refuse _=>some (.region [{ dst:=none,k:= .bad,xs:=[],guard:=none,cls:= .aG,bK:=0 }])
 |_=>none
def mZ(tt:TT):List ResultVar->Option (List Bl)
 |[]=>some []
 |  .tmp t::rs=>match mZ tt rs with
    |some l=>some (.tmp (key t)::l)
    |none=>none
 |  .cell a t::rs=>match tt.get (key t),mZ tt rs with
    |some ti,some l=>some (.cell (key a) (yu ti)::l)
    |_,_=>none
def VK(tt:TT)(f:Func):Option dc:=match f.body with
 |  some c=>match tq tt f.ntmps c,mZ tt f.results.toList,Nat.ble (f.params.size+f.nfree) f.ntmps with
    |some a,some rs,true=>some { code:=a,nparams:=f.params.size+f.nfree,results:=rs }
    |_,_,_=>none
 |none=>none
structure Loc where
 az:Nat
 base:Nat
 size:Nat
abbrev Cells:=Addr->Option Value
inductive aq(ρ:Pos->Loc)(n:Nat)(C:Cells):AV->Value->Prop where
 |bool (b:Bool):aq ρ n C (.bool b) (.bool b)
 |int (k:IntKind) (i:Int):aq ρ n C (.int k i) (.int k i)
 |str (s:List Nat) (bs:ByteArray) (h:bs.data.toList.map UInt8.toNat=s):aq ρ n C (.str s) (.string bs)
 |fP:aq ρ n C .fP (.pointer none)
 |ptr (b:Pos) (off:Nat) (h:b.toNat<n):aq ρ n C (.ptr b off) (.pointer (some ⟨(ρ b).az,(ρ b).base+off,none⟩))
 |fp (xs:List (List AV)) (i j es:Nat) (az base:Nat) (cell:Nat->Nat->Value)
  (hl:∀(i:Nat)(cs:List AV),xs[i]? =some cs->cs.length=es)
  (hc:∀(i j:Nat)(cs:List AV)(v:AV),xs[i]? =some cs->cs[j]? =some v->C ⟨az,base+i*es+j,none⟩=some (cell i j))
  (hv:∀(i j:Nat)(cs:List AV)(v:AV),xs[i]? =some cs->cs[j]? =some v->aq ρ n C v (cell i j)):
  aq ρ n C (.fp xs i j) (.pointer (some ⟨az,base+i*es+j,none⟩))
 |ah:aq ρ n C .ah (.slice none 0 0)
 |slice (b:Pos) (off len:Nat) (cap:Option Nat) (es aM:Nat) (a:Addr) (hl:len<=aM) (hc:∀c,cap=some c->c=aM)
  (ha:aM≠0->b.toNat<n/\a=⟨(ρ b).az,(ρ b).base+off,none⟩/\(ρ b).base+off+aM*es<=(ρ b).size)
  (hk:cap=none->b.toNat<n):
  aq ρ n C (.slice b off len cap es) (.slice (some a) len aM)
 |fl (xs:List (List AV)) (es aM:Nat) (a:Addr) (cell:Nat->Nat->Value) (hl:xs.length<=aM)
  (hs:xs≠[]->a.spot=none)
  (ee:∀(i:Nat)(cs:List AV),xs[i]? =some cs->cs.length=es)
  (hc:∀(i j:Nat)(cs:List AV)(v:AV),xs[i]? =some cs->cs[j]? =some v->C ⟨a.block,a.off+i*es+j,none⟩=some (cell i j))
  (hv:∀(i j:Nat)(cs:List AV)(v:AV),xs[i]? =some cs->cs[j]? =some v->aq ρ n C v (cell i j)):
  aq ρ n C (.fl xs es) (.slice (some a) xs.length aM)
 |pP:aq ρ n C .pP (.map none)
 |map (b:Pos) (h:b.toNat<n):aq ρ n C (.map b) (.map (some (ρ b).az))
 |func (f:FuncId) (x y:List AV) (x' y':Array Value) (hx:x.length=x'.size) (hy:y.length=y'.size)
  (iw:∀(i:Nat)(v:AV)(v':Value),x[i]? =some v->x'[i]? =some v'->aq ρ n C v v') (DA:∀(i:Nat)(v:AV)(v':Value),y[i]? =some v->y'[i]? =some v'->aq ρ n C v v'):
  aq ρ n C (.func f x y) (.func (.func f) x' y')
 |jV:aq ρ n C .jV .nilFunc
 |tU:aq ρ n C .tU .nilIface
 |iface (t:TypeId) (v:AV) (x:Value) (h:aq ρ n C v x):aq ρ n C (.iface t v) (.iface t x)
 |agg (l:List AV) (cs:Array Value) (hl:l.length=cs.size) (h:∀(i:Nat)(v:AV)(v':Value),l[i]? =some v->cs[i]? =some v'->aq ρ n C v v'):
  aq ρ n C (.agg l) (.agg cs)
 |tuple (l:List AV) (cs:Array Value) (hl:l.length=cs.size) (h:∀(i:Nat)(v:AV)(v':Value),l[i]? =some v->cs[i]? =some v'->aq ρ n C v v'):
  aq ρ n C (.tuple l) (.tuple cs)
theorem aq.mono{ρ ρ':Pos->Loc}{n n':Nat}{C:Cells}{v:AV}{x:Value}(h:aq ρ n C v x)
  (aU:∀b:Pos,b.toNat<n->ρ' b=ρ b) (hn:n<=n'):aq ρ' n' C v x:=by
 induction h with
 |bool b=>exact .bool b
 |int k i=>exact .int k i
 |str s bs h=>exact .str s bs h
 |fP=>exact .fP
 |ptr b off h=>rw[<-aU b h];exact .ptr b off (by omega)
 |fp xs i j es az base cell hl hc _ ih=>exact .fp xs i j es az base cell hl hc ih
 |ah=>exact .ah
 |slice b off len cap es aM a hl hc ha hk=>
  refine .slice b off len cap es aM a hl hc (λh0=> ?_) (λh0=>by have:=hk h0;omega);obtain⟨h1,h2,h3⟩:=ha h0;rw[aU b h1];exact⟨by omega,h2,h3⟩
 |fl xs es aM a cell hl hs ee hc _ ih=>exact .fl xs es aM a cell hl hs ee hc ih
 |pP=>exact .pP
 |map b h=>rw[<-aU b h];exact .map b (by omega)
 |func f x y x' y' hx hy _ _ ih1 TP=>exact .func f x y x' y' hx hy ih1 TP
 |jV=>exact .jV
 |tU=>exact .tU
 |iface t v x _ ih=>exact .iface t v x ih
 |agg l cs hl _ ih=>exact .agg l cs hl ih
 |tuple l cs hl _ ih=>exact .tuple l cs hl ih
def ay(ρ:Pos->Loc)(n:Nat)(C:Cells)(l:List AV)(xs:List Value):Prop:=
 l.length=xs.length/\∀(i:Nat)(v:AV)(x:Value),l[i]? =some v->xs[i]? =some x->aq ρ n C v x
section
variable{ρ ρ':Pos->Loc}{n n':Nat}{C:Cells}
theorem ay.mono{l:List AV}{xs:List Value}(h:ay ρ n C l xs)(aU:∀b:Pos,b.toNat<n->ρ' b=ρ b)(hn:n<=n'):
 ay ρ' n' C l xs:=⟨h.1,λi v x hv hx=>(h.2 i v x hv hx).mono aU hn⟩
theorem ay.nil:ay ρ n C [] []:=⟨rfl,λ_ _ _ h=>by simp at h⟩
theorem ay.cons{v:AV}{x:Value}{l:List AV}{xs:List Value}(h:aq ρ n C v x)(hs:ay ρ n C l xs):ay ρ n C (v::l) (x::xs):=
 ⟨by simp[hs.1],λi u y hu hy=>by
  cases i with
  |zero=>simp at hu hy;subst hu;subst hy;exact h
  |succ i=>simp at hu hy;exact hs.2 i u y hu hy⟩
theorem ay.cons_inv{v:AV}{l:List AV}{xs:List Value}(h:ay ρ n C (v::l) xs):∃x vR,xs=x::vR/\aq ρ n C v x/\ay ρ n C l vR:=by
 cases xs with
 |nil=>have:=h.1;simp at this
 |cons x vR=>
  exact⟨x,vR,rfl,h.2 0 v x rfl rfl,by have:=h.1;simpa using this,λi u y hu hy=>h.2 (i+1) u y (by simpa using hu) (by simpa using hy)⟩
theorem ay.mU{xs:List Value}(h:ay ρ n C [] xs):xs=[]:=by
 have:=h.1;cases xs with
 |nil=>rfl
 |cons a b=>simp at this
theorem ay.append{l m:List AV}{xs ys:List Value}(h:ay ρ n C l xs)(k:ay ρ n C m ys):ay ρ n C (l++m) (xs++ys):=by
 refine⟨by simp[h.1,k.1],λi v x hv hx=> ?_⟩;rcases Zj1 i l.length with hi|hi
 .rw[Zc6 hi]at hv;rw[Zc6 (by rw[<-h.1];exact hi)]at hx;exact h.2 i v x hv hx
 .rw[Zc8 hi]at hv;rw[Zc8 (by rw[<-h.1];exact hi), <-h.1]at hx;exact k.2 _ v x hv hx
theorem ay.take{l:List AV}{xs:List Value}(h:ay ρ n C l xs)(m:Nat):ay ρ n C (l.take m) (xs.take m):=by
 refine⟨by simp[h.1],λi v x hv hx=> ?_⟩;rw[Zc4]at hv hx;split at hv
 .rename_i hi;rw[Za9 hi]at hx;exact h.2 i v x hv hx
 .cases hv
theorem ay.drop{l:List AV}{xs:List Value}(h:ay ρ n C l xs)(m:Nat):ay ρ n C (l.drop m) (xs.drop m):=by refine⟨by simp[h.1],λi v x hv hx=> ?_⟩;rw[Zd2]at hv hx;exact h.2 _ v x hv hx
theorem ay.aJ{l vs:List AV}{xs ys:List Value}(h:ay ρ n C l xs)(k:ay ρ n C vs ys)(i:Nat):
  ay ρ n C (Go.Ai.aJ l i vs) (Go.Ai.aJ xs i ys):=by
 unfold Go.Ai.aJ;rw[k.1];exact(h.take i).append (k.append (h.drop _))
theorem ay.get{l:List AV}{xs:List Value}(h:ay ρ n C l xs){i:Nat}{v:AV}(hv:l[i]? =some v):∃x,xs[i]? =some x/\aq ρ n C v x:=by
 have hi:i<xs.length:=by rw[<-h.1];exact(Za1.1 hv).1
 exact⟨xs[i],H4 hi,h.2 i v _ hv (H4 hi)⟩
theorem aq.DB{l:List AV}{cs:Array Value}(h:ay ρ n C l cs.toList):aq ρ n C (.agg l) (.agg cs):=
 .agg l cs (by simpa using h.1) λi v x hv hx=>h.2 i v x hv (by simpa using hx)
theorem aq.tX{l:List AV}{cs:Array Value}(h:ay ρ n C l cs.toList):aq ρ n C (.tuple l) (.tuple cs):=
 .tuple l cs (by simpa using h.1) λi v x hv hx=>h.2 i v x hv (by simpa using hx)
theorem aq.Dp{l:List AV}{x:Value}(h:aq ρ n C (.agg l) x):∃cs,x= .agg cs/\ay ρ n C l cs.toList:=by
 cases h with|agg _ cs hl h=>exact⟨cs,rfl,by simpa using hl,λi v x hv hx=>h i v x hv (by simpa using hx)⟩
theorem aq.TQ{l:List AV}{x:Value}(h:aq ρ n C (.tuple l) x):∃cs,x= .tuple cs/\ay ρ n C l cs.toList:=by
 cases h with|tuple _ cs hl h=>exact⟨cs,rfl,by simpa using hl,λi v x hv hx=>h i v x hv (by simpa using hx)⟩
theorem aq.DC{f:FuncId}{a b:List AV}{x:Value}(h:aq ρ n C (.func f a b) x):
  ∃a' b',x= .func (.func f) a' b'/\ay ρ n C a a'.toList/\ay ρ n C b b'.toList:=by
 cases h with
 |func _ _ _ a' b' hx hy h1 h2=>exact⟨a',b',rfl,⟨by simpa using hx,λi v x hv hx=>h1 i v x hv (by simpa using hx)⟩,⟨by simpa using hy,λi v x hv hx=>h2 i v x hv (by simpa using hx)⟩⟩
theorem aq.cells{v:AV}{x:Value}(h:aq ρ n C v x):ay ρ n C v.cells x.cells.toList:=by
 by_cases hv:∃l,v= .agg l
 .obtain⟨l,rfl⟩:=hv;obtain⟨cs,rfl,hs⟩:=h.Dp;exact hs
 .have h1:v.cells=[v]:=(by cases v<;>first|rfl|exact absurd ⟨_,rfl⟩ hv);have h2:x.cells= #[x]:=(by cases h<;>first|rfl|exact absurd ⟨_,rfl⟩ hv);rw[h1,h2];exact ay.cons h ay.nil
def m5(ρ:Pos->Loc)(n:Nat)(C:Cells)(L:Loc)(w:World):AB->Prop
 |.cells cs fz=>∃(c:Array Value) (e:TypeId) (fr:Nat×Nat),w.heap[L.az]? =some (.cells c e fr)/\c.size=L.size/\L.base+cs.length<=c.size/\
  ay ρ n C cs ((c.toList.drop L.base).take cs.length)/\∀i,fz<=i->L.base+i<c.size->¬(fr.1<=L.base+i/\L.base+i<fr.2)
 |.map es clock=>∃(es':Array MapEntry),w.heap[L.az]? =some (.map es' clock)/\es.length=es'.size/\
  ∀(i:Nat)(e:AV×AV×Nat)(e':MapEntry),es[i]? =some e->es'[i]? =some e'->aq ρ n C e.1 e'.key/\aq ρ n C e.2.1 e'.val/\e.2.2=e'.born
 |.jW s pos=>∃(bs:ByteArray),w.heap[L.az]? =some (.stringIter bs pos)/\bs.data.toList.map UInt8.toNat=s/\L.base=0
 |.typed t cs=>∃(c:Array Value) (fr:Nat×Nat),w.heap[L.az]? =some (.cells c t fr)/\c.size=L.size/\L.base+cs.length<=c.size/\
  ay ρ n C cs ((c.toList.drop L.base).take cs.length)/\(∀i,0<=i->L.base+i<c.size->¬(fr.1<=L.base+i/\L.base+i<fr.2))/\L.base=0
theorem m5.mono{L:Loc}{w:World}{x:AB}(h:m5 ρ n C L w x)(aU:∀b:Pos,b.toNat<n->ρ' b=ρ b)(hn:n<=n'):m5 ρ' n' C L w x:=by
 cases x with
 |cells cs fz=>obtain⟨c,e,fr,h1,h2,h3,h4,h5⟩:=h;exact⟨c,e,fr,h1,h2,h3,h4.mono aU hn,h5⟩
 |map es clock=>obtain⟨es',h1,h2,h3⟩:=h;exact⟨es',h1,h2,λi e e' he lK=>let⟨a,b,c⟩:=h3 i e e' he lK;⟨a.mono aU hn,b.mono aU hn,c⟩⟩
 |jW s pos=>exact h
 |typed t cs=>obtain⟨c,fr,h1,h2,h3,h4,h5⟩:=h;exact⟨c,fr,h1,h2,h3,h4.mono aU hn,h5⟩
theorem m5.of_heap{L:Loc}{w w':World}{x:AB}(h:m5 ρ n C L w x)(hw:w'.heap[L.az]? =w.heap[L.az]?):m5 ρ n C L w' x:=by
 cases x with
 |cells cs fz=>obtain⟨c,e,fr,h1,h2⟩:=h;exact⟨c,e,fr,by rw[hw];exact h1,h2⟩
 |map es clock=>obtain⟨es',h1,h2⟩:=h;exact⟨es',by rw[hw];exact h1,h2⟩
 |jW s pos=>obtain⟨bs,h1,h2⟩:=h;exact⟨bs,by rw[hw];exact h1,h2⟩
 |typed t cs=>obtain⟨c,fr,h1,h2⟩:=h;exact⟨c,fr,by rw[hw];exact h1,h2⟩
end
structure aZ(ρ:Pos->Loc)(C:Cells)(st:St)(w:World):Prop where
 live:∀b x,st.heap.get b=some x->b.toNat<st.next.toNat/\(ρ b).az<w.heap.size/\m5 ρ st.next.toNat C (ρ b) w x
 inj:∀b b' x x',st.heap.get b=some x->st.heap.get b'=some x'->(ρ b).az=(ρ b').az->b=b'
 ej:∀a v,C a=some v->w.cell? a=some v/\∀b x,st.heap.get b=some x->(ρ b).az≠a.block
 whole:∀a v,C a=some v->∀o,C ⟨a.block,o,none⟩=none->w.cell? ⟨a.block,o,none⟩=none
structure j0(ρ:Pos->Loc)(st:St)(w:World)(ρ':Pos->Loc)(st':St)(w':World):Prop where
 os:w'.os=w.os
 tape:w'.tape=w.tape
 output:w'.output=w.output
 size:w.heap.size<=w'.heap.size
 block:∀k,k<w.heap.size->(∀b x,st.heap.get b=some x->(ρ b).az≠k)->w'.heap[k]? =w.heap[k]?
 oJ:∀b x,st'.heap.get b=some x->(∃b' x',st.heap.get b'=some x'/\(ρ b').az=(ρ' b).az)\/w.heap.size<=(ρ' b).az
theorem j0.refl(ρ:Pos->Loc)(st:St)(w:World):j0 ρ st w ρ st w:=⟨rfl,rfl,rfl,Za5 _,λ_ _ _=>rfl,λb x h=>.inl ⟨b,x,h,rfl⟩⟩
theorem j0.trans{ρ eH m7:Pos->Loc}{st aQ kP:St}{w w1 w2:World}(h:j0 ρ st w eH aQ w1)(k:j0 eH aQ w1 m7 kP w2):j0 ρ st w m7 kP w2 where
 os:=k.os.trans h.os
 tape:=k.tape.trans h.tape
 output:=k.output.trans h.output
 size:=Zd4 h.size k.size
 block q hq hn:=by
  rw[k.block q (Zd3 hq h.size) λb x hb e=> ?_,h.block q hq hn];rcases h.oJ b x hb with⟨b',x',h1,h2⟩|h1
  .exact hn b' x' h1 (h2.trans e)
  .rw[e]at h1;omega
 oJ b x hb:=by
  rcases k.oJ b x hb with⟨b',x',h1,h2⟩|h1
  . rcases h.oJ b' x' h1 with⟨b'',x'',h3,h4⟩|h3
    .exact .inl ⟨b'',x'',h3,h4.trans h2⟩
    .right;rw[<-h2];exact h3
  .exact .inr (Zd4 h.size h1)
def fV(ρ:Pos->Loc)(n:Nat)(C:Cells)(fr:Fr)(tmps:Array Value):Prop:=
 ∀p v,fr.get p=some v->∃x,tmps[p.toNat - 1]? =some x/\aq ρ n C v x
theorem Pos.toNat_pos(p:Pos):0<p.toNat:=by
 induction p with
 |h=>simp[Pos.toNat]
 |o p ih=>simp[Pos.toNat];exact ih
 |i p ih=>simp[Pos.toNat]
theorem Pos.toNat_inj:∀{p q:Pos},p.toNat=q.toNat->p=q
 |.h,.h,_=>rfl
 |.h,.o q,hq=>by have:=q.toNat_pos;simp[Pos.toNat]at hq;omega
 |.h,.i q,hq=>by have:=q.toNat_pos;simp[Pos.toNat]at hq;omega
 |.o p,.h,hq=>by have:=p.toNat_pos;simp[Pos.toNat]at hq;omega
 |.o p,.o q,hq=>by simp[Pos.toNat]at hq;rw[Pos.toNat_inj (p:=p) (q:=q) (by omega)]
 |.o p,.i q,hq=>by simp[Pos.toNat]at hq;omega
 |.i p,.h,hq=>by have:=p.toNat_pos;simp[Pos.toNat]at hq;omega
 |.i p,.o q,hq=>by simp[Pos.toNat]at hq;omega
 |.i p,.i q,hq=>by simp[Pos.toNat]at hq;rw[Pos.toNat_inj (p:=p) (q:=q) (by omega)]
theorem Pos.aB(p:Pos):p.succ.toNat=p.toNat+1:=by
 induction p with
 |h=>rfl
 |o p ih=>simp[Pos.succ,Pos.toNat]
 |i p ih=>simp[Pos.succ,Pos.toNat,ih];omega
theorem Pos.ID:∀(f m:Nat),0<m->m<2 ^ (f+1)->(Pos.We f m).toNat=m
 |0,m,hp,hl=>by
  simp at hl;have:m=1:=by omega
  subst this;rfl
 |f +   1,m,hp,hl=>by
  unfold Pos.We;split
  . (rename_i hb;have:=Za6 hb;have:m=1:=by omega);subst this;rfl
  . rename_i hb;have h1:1<m:=by
        rcases Zj1 1 m with hh|hh
        .exact hh
        .rw[Nat.ble_eq_true_of_le hh]at hb;cases hb
    have h2:m / 2<2 ^ (f+1):=(by have:2 ^ (f+1+1)=2*2 ^ (f+1):=(by rw[Nat.pow_succ];omega);omega);split
    .   rename_i he;have:=Za2 he;simp only[Pos.toNat];rw[Pos.ID f _ (by omega) h2];omega
    .   rename_i he;have:=Zc2 he;simp only[Pos.toNat];rw[Pos.ID f _ (by omega) h2];omega
theorem fL(n:Nat):(key n).toNat=n+1:=Pos.ID _ (n+1) (by omega) Nat.lt_log2_self
theorem T.ei{α:Type}(p:Pos):(T.e:T α).get p=none:=by cases p<;>rfl
theorem T.eO{α:Type}(x:Option α)(p:Pos)(t:T α):(T.put x p t).get p=x:=by
 induction p generalizing t with
 |h=>cases t<;>rfl
 |o p ih=>cases t<;>exact ih _
 |i p ih=>cases t<;>exact ih _
theorem T.bG{α:Type}(x:Option α){p q:Pos}(h:p≠q)(t:T α):(T.put x p t).get q=t.get q:=by
 induction p generalizing q t with
 |h=>cases q with
  |h=>exact absurd rfl h
  |o q=>cases t<;>simp[T.put,T.get,T.ei]
  |i q=>cases t<;>simp[T.put,T.get,T.ei]
 |o p ih=>cases q with
  |h=>cases t<;>simp[T.put,T.get]
  | o q=>cases t with
    |e=>simp only[T.put,T.get];rw[ih (λe=>h (by rw[e])),T.ei]
    |n l v r=>simp only[T.put,T.get];exact ih (λe=>h (by rw[e])) l
  |i q=>cases t<;>simp[T.put,T.get,T.ei]
 |i p ih=>cases q with
  |h=>cases t<;>simp[T.put,T.get]
  |o q=>cases t<;>simp[T.put,T.get,T.ei]
  | i q=>cases t with
    |e=>simp only[T.put,T.get];rw[ih (λe=>h (by rw[e])),T.ei]
    |n l v r=>simp only[T.put,T.get];exact ih (λe=>h (by rw[e])) r
theorem Pos.beq_eq:∀{p q:Pos},p.beq q=true↔p=q
 |.h,.h=>by simp[Pos.beq]
 |.h,.o q=>by simp[Pos.beq]
 |.h,.i q=>by simp[Pos.beq]
 |.o p,.h=>by simp[Pos.beq]
 |.o p,.o q=>by simp only[Pos.beq,Pos.o.injEq];exact Pos.beq_eq
 |.o p,.i q=>by simp[Pos.beq]
 |.i p,.h=>by simp[Pos.beq]
 |.i p,.o q=>by simp[Pos.beq]
 |.i p,.i q=>by simp only[Pos.beq,Pos.i.injEq];exact Pos.beq_eq
end
noncomputable section
section
variable{R:Type}
def m8{α:Type}(p:Pos):T α->Option α:=
 Pos.rec (motive:=λ_=>T α->Option α)
    (λt=>T.rec (motive:=λ_=>Option α) none (λ_ v _ _ _=>v) t)
    (λ_ ih t=>T.rec (motive:=λ_=>Option α) none (λl _ _ _ _=>ih l) t)
    (λ_ ih t=>T.rec (motive:=λ_=>Option α) none (λ_ _ r _ _=>ih r) t) p
def oK{α:Type}(x:Option α)(p:Pos):T α->(T α->R)->R:=
 Pos.rec (motive:=λ_=>T α->(T α->R)->R)
    (λt k=>T.rec (motive:=λ_=>R) (k (.n .e x .e)) (λl _ r _ _=>k (.n l x r)) t)
    (λ_ ih t k=>T.rec (motive:=λ_=>R) (ih .e λl=>k (.n l none .e)) (λl v r _ _=>ih l λl=>k (.n l v r)) t)
    (λ_ ih t k=>T.rec (motive:=λ_=>R) (ih .e λr=>k (.n .e none r)) (λl v r _ _=>ih r λr=>k (.n l v r)) t) p
def oM(n:Nat)(k:Nat->R):R:=Nat.rec (motive:=λ_=>R) (k 0) (λm _=>k (Nat.succ m)) n
def O8(n:Int)(k:Int->R):R:=match n with
 |.ofNat m=>oM m λm=>k (.ofNat m)
 |.negSucc m=>oM m λm=>k (.negSucc m)
def TR(b:Bool)(k:Bool->R):R:=match b with
 |true=>k true
 |false=>k false
def yx{α:Type}(l:List α):(List α->R)->R:=
 List.rec (motive:=λ_=>(List α->R)->R) (λk=>k []) (λa _ ih k=>ih λt=>k (a::t)) l
def IE(p:Pos):(Pos->R)->R:=
 Pos.rec (motive:=λ_=>(Pos->R)->R) (λk=>k .h) (λ_ ih k=>ih λp=>k (.o p)) (λ_ ih k=>ih λp=>k (.i p)) p
def Wh(o:Option Nat)(k:Option Nat->R):R:=match o with
 |none=>k none
 |some n=>oM n λn=>k (some n)
def Lb(v:AV)(k:AV->R):R:=match v with
 |.bool b=>TR b λb=>k (.bool b)
 |.int i n=>O8 n λn=>k (.int i n)
 |.str s=>yx s λs=>k (.str s)
 |.ptr b o=>IE b λb=>oM o λo=>k (.ptr b o)
 |.slice b o l c es=>IE b λb=>oM o λo=>oM l λl=>Wh c λc=>k (.slice b o l c es)
 |.map b=>IE b λb=>k (.map b)
 |.func f x y=>yx x λx=>yx y λy=>k (.func f x y)
 |.agg l=>yx l λl=>k (.agg l)
 |v=>k v
def Nj(l:List AV):(List AV->R)->R:=
 List.rec (motive:=λ_=>(List AV->R)->R) (λk=>k []) (λa _ ih k=>Lb a λa=>ih λt=>k (a::t)) l
def rM(v:AV)(k:AV->R):R:=match v with
 |.tuple l=>Nj l λl=>k (.tuple l)
 |v=>Lb v k
def Dq(x:AB)(k:AB->R):R:=match x with
 |.cells cs fz=>yx cs λcs=>oM fz λfz=>k (.cells cs fz)
 |.map es c=>yx es λes=>oM c λc=>k (.map es c)
 |.jW s p=>oM p λp=>k (.jW s p)
 |.typed t cs=>yx cs λcs=>k (.typed t cs)
def Qu(p:Pos):(Pos->R)->R:=
 Pos.rec (motive:=λ_=>(Pos->R)->R) (λk=>k (.o .h)) (λq _ k=>k (.i q)) (λ_ ih k=>ih λp=>k (.o p)) p
variable(z:R)
def TU(fr:Fr)(x:eZ)(k:AV->R):R:=match x with
 |  .t p=>match m8 p fr with
    |some v=>k v
    |none=>z
 |.c v=>k v
def O9(fr:Fr)(xs:List eZ):(List AV->R)->R:=
 List.rec (motive:=λ_=>(List AV->R)->R) (λk=>k []) (λx _ ih k=>TU z fr x λv=>ih λvs=>k (v::vs)) xs
def Dr(fr:Fr)(g:Option (Pos×Bool))(yes no:R):R:=match g with
 |none=>yes
 |  some (p,want)=>match m8 p fr with
    |some (.bool b)=>match b==want with
     |true=>yes
     |false=>no
    |some (.tuple _)=>no
    |_=>z
def lA(fr:Fr)(d:Option Pos)(v:AV)(k:Fr->R):R:=match d with
 |some p=>oK (some v) p fr k
 |none=>k fr
def delK(o:Option Pos)(h:T AB)(k:T AB->R):R:=match o with
 |some b=>oK none b h k
 |none=>k h
def Wi(o:Option (Pos×AB))(h:T AB)(k:T AB->R):R:=match o with
 |some (b,x)=>Dq x λx=>oK (some x) b h k
 |none=>k h
abbrev js(R:Type):=FuncId->List AV->St->(AV->St->R)->R
def aeC(st:St)(del:Option Pos)(set:Option (Pos×AB))(new:Option AB)(k:St->R):R:=
 delK del st.heap λh=>Wi set h λh=>match new with
    |some x=>Dq x λx=>oK (some x) st.next h λh=>Qu st.next λn=>k { heap:=h,next:=n }
    |none=>k { heap:=h,next:=st.next }
def Nk(call:js R)(op:av)(xs:List AV)(st:St)(k:AV->St->R):R:=
 match op.run (λb=>m8 b st.heap) st.next xs with
 |some (.val v)=>rM v λv=>k v st
 |some (.aG v del set new)=>rM v λv=>aeC st del set new λst=>k v st
 |some (.call f args)=>yx args λargs=>call f args st k
 |none=>z
def Sn(call:js R)(ops:List bw):Fr->St->(Fr->St->R)->R:=
 List.rec (motive:=λ_=>Fr->St->(Fr->St->R)->R) (λfr st k=>k fr st)
    (λo _ ih fr st k=>Dr z fr o.guard
     (O9 z fr o.xs λxs=>Nk z call o.k xs st λv st=>lA fr o.dst v λfr=>ih fr st k)
     (lA fr o.dst .undef λfr=>ih fr st k)) ops
def IF (bK:Nat)(h:T AB)(recs:List Rec):(T AB->R)->R:=
 List.rec (motive:=λ_=>(T AB->R)->R) (λk=>k h)
    (fun r _ ih k=>match r.c with
     |  .new id az=>match bK.testBit r.idx with
        |true=>ih λh'=>oK (some az) id h' k
        |false=>ih k
     |.aG _ _=>k h
     |.pure=>ih k) recs
def Wj(h:T AB)(l:List (Pos×AB)):(T AB->R)->R:=
 List.rec (motive:=λ_=>(T AB->R)->R) (λk=>k h) (λx _ ih k=>ih λh'=>oK (some x.2) x.1 h' k) l
def Wk(op:av)(xs:List AV)(v:AV)(h:T AB):Bool:=
 match op.run (λb=>m8 b h) .h xs with
 |some (.val u)=>fE u v
 |_=>false
def qm(bK:Nat)(op:av)(xs:List AV)(v:AV):List (Pos×AB)->List Rec->Bool
 |_,[]=>true
 |  up,r::rs=>match r.c with
    | .new id az=>match bK.testBit r.idx with
      |true=>qm bK op xs v ((id,az)::up) rs
      |false=>qm bK op xs v up rs
    | .aG base _=>match bK.testBit r.idx with
      |true=>true
      |false=>(IF bK base rs λh=>Wj h up λh=>Wk op xs v h)&&qm bK op xs v up rs
    |.pure=>qm bK op xs v up rs
def IG (call:js R)(ops:List (Nat×bw)):List Rec->T AB->Fr->St->(Fr->St->R)->R:=
 List.rec ( motive:=λ_=>List Rec->T AB->Fr->St->(Fr->St->R)->R)
    (λ_ _ fr st k=>k fr st)
    (fun jo _ ih recs base fr st k=>Dr z fr jo.2.guard
     (O9  z fr jo.2.xs λxs=>match jo.2.cls with
        | .new=>match jo.2.k.run (λ_=>none) st.next xs with
          |some (.aG v none none (some az))=>rM v λv=>Dq az λaz=>lA fr jo.2.dst v λfr=>Qu st.next λn=>oK (some az) st.next st.heap λh=>
              ih ({ idx:=jo.1,o:=jo.2,v:=v,c:= .new st.next az,nx:=n }::recs) base fr { heap:=h,next:=n } k
          |_=>z
        |.aG=>Nk z call jo.2.k xs st λv st'=>lA fr jo.2.dst v λfr=>ih ({ idx:=jo.1,o:=jo.2,v:=v,c:= .aG base st'.heap,nx:=st'.next }::recs) st'.heap fr st' k
        | _ =>match jo.2.k.run (λ_=>none) .h xs with
          |some (.val v)=>rM v λv=>lA fr jo.2.dst v λfr=>ih ({ idx:=jo.1,o:=jo.2,v:=v,c:= .pure,nx:=st.next }::recs) base fr st k
          | _ =>IF jo.2.bK base recs λh=>match jo.2.k.run (λb=>m8 b h) .h xs with
            | some (.val v)=>rM v λv=>match qm jo.2.bK jo.2.k xs v [] recs with
              |true=>lA fr jo.2.dst v λfr=>ih ({ idx:=jo.1,o:=jo.2,v:=v,c:= .pure,nx:=st.next }::recs) base fr st k
              |false=>z
            |_=>z)
     (lA fr jo.2.dst .undef λfr=>ih ({ idx:=jo.1,o:=jo.2,v:= .undef,c:= .pure,nx:=st.next }::recs) base fr st k)) ops
abbrev VL(R:Type):=AC->Fr->St->(Fr->St->R)->(Nat->Fr->St->R)->(Fr->St->R)->R
def qo(call:js R)(ih:VL R):VL R
 |.skip,fr,st,kn,_,_=>kn fr st
 |.region ops,fr,st,kn,_,_=>Sn z call ops fr st kn
 |.draw ops,fr,st,kn,_,_=>IG z call ops [] st.heap fr st kn
 |.seq a b,fr,st,kn,kx,kr=>ih a fr st (λfr st=>ih b fr st kn kx kr) kx kr
 |  .cond x a b,fr,st,kn,kx,kr=>TU z fr x λv=>match v with
    |.bool true=>ih a fr st kn kx kr
    |.bool false=>ih b fr st kn kx kr
    |_=>z
 | .block id a,fr,st,kn,kx,kr=>ih a fr st kn (λtj fr st=>match Nat.beq tj id with
     |true=>kn fr st
     |false=>kx tj fr st) kr
 |.loop a,fr,st,kn,kx,kr=>ih a fr st (λfr st=>ih (.loop a) fr st kn kx kr) kx kr
 |.exit id,fr,st,_,kx,_=>kx id fr st
 |.ret,fr,st,_,_,kr=>kr fr st
def Qv(call:js R)(n:Nat):VL R:=
 Nat.rec (motive:=λ_=>VL R) (λ_ _ _ _ _ _=>z) (λ_ ih=>qo z call ih) n
def AA(vs:List AV):Nat->Fr->(Fr->R)->R:=
 List.rec (motive:=λ_=>Nat->Fr->(Fr->R)->R) (λ_ fr k=>k fr)
    (λv _ ih i fr k=>oK (some v) (key i) fr λfr=>ih (i+1) fr k) vs
def AD(st:St)(fr:Fr)(rs:List Bl)(k:AV->R):R:=
 match c9 (λb=>m8 b st.heap) fr rs with
 |  some vs=>Nj vs λvs=>match vs with
    |[v]=>k v
    |vs=>k (.tuple vs)
 |none=>z
def E7 (O:fh  )(G:T dc)(m:Nat)(d:Nat):js R:=
 Nat.rec (motive:=λ_=>js R) (λ_ _ _ _=>z)
    (fun _ ih f args st k=>match O f with
     |  some s=>match s args st with
        |some (v,st')=>rM v λv=>k v st'
        |none=>z
     |  none=>match m8 (key f) G with
        |some F=>match Nat.beq args.length F.nparams with
         |true=>AA args 0 .e λfr=>Qv z ih m F.code fr st
              (λfr st=>AD z st fr F.results λv=>k v st)
              (λ_ _ _=>z)
              (λfr st=>AD z st fr F.results λv=>k v st)
         |false=>z
        |none=>z) d
end
end
end Go.Ai
