/- An evaluator over plain values, its compiler and its relation to worlds. -/
import Derived.Orders
import Derived.Below
set_option linter.all false
def H0:=@Option.some.injEq
def H1:=@List.getElem?_eq_getElem
def H2:=@decide_eq_true
def H3:=@decide_eq_false
def H4:=@Nat.eq_of_beq_eq_true
def H5:=@List.getElem?_eq_some_iff
def Za0:=@List.mem_cons_of_mem
def Za1:=@Nat.le_of_ble_eq_true
def Za2:=@if_neg
def Za3:=@Nat.le_refl
def Za4:=@if_pos
def Za5:=@List.getElem?_cons_zero
def Za6:=@List.getElem?_cons_succ
def Za7:=@List.mem_cons
def Za8:=@List.drop_eq_getElem_cons
def Za9:=@Bool.and_eq_true
def Zb0:=@List.eq_nil_of_length_eq_zero
def Zb1:=@List.length_append
def Zb2:=@List.length_cons
def Zb3:=@List.length_map
def Zb4:=@List.map_cons
def Zb5:=@List.getElem?_map
def Zb6:=@Prod.mk.injEq
def Zb7:=@List.drop_zero
def Zb8:=@List.getElem?_take
def Zb9:=@Bool.not_true
def Zc0:=@Nat.ne_of_beq_eq_false
def Zc1:=@List.getD_eq_getElem?_getD
def Zc2:=@List.take_succ_eq_append_getElem
def Zc3:=@List.length_nil
def Zc4:=@List.getElem?_eq_none
def Zc5:=@List.mem_of_getElem?
def Zc6:=@List.getElem_mem
def Zc7:=@Nat.zero_add
def Zc8:=@Nat.lt_of_lt_of_le
def Zc9:=@List.mem_singleton
def Zd0:=@List.not_mem_nil
def Zd1:=@List.getElem?_append_right
def Zd2:=@Array.getElem?_eq_some_iff
def Zd3:=@decide_eq_true_eq
def Zd4:=@Bool.false_eq_true
def Zd5:=@List.mem_append
def Zd6:=@Nat.le_trans
def Zd7:=@List.getElem?_drop
def Zd8:=@List.mem_cons_self
def Zd9:=@List.getElem?_append_left
def Ze0:=@List.map_nil
def Ze1:=@if_false
def Ze2:=@Array.getElem?_setIfInBounds_ne
def Ze3:=@Option.map_some
def Ze4:=@Bool.true_and
def Ze5:=@List.all_eq_true
def Ze6:=@List.nil_append
def Ze7:=@Bool.not_false
def Ze8:=@List.cons_append
def Ze9:=@List.append_nil
def Zf0:=@Nat.add_sub_cancel
def Zf1:=@Option.getD_some
def Zf2:=@List.mem_map
def Zf3:=@List.flatten_cons
def Zf4:=@Option.some.inj
def Zf5:=@Array.getElem?_eq_getElem
def Zf6:=@decide_true
def Zf7:=@Option.map_eq_some_iff
def Zf8:=@Nat.add_zero
def Zf9:=@if_true
def Zg0:=@List.take_of_length_le
def Zg1:=@List.mem_append_left
def Zg2:=@Option.bind_some
def Zg3:=@List.map_append
def Zg4:=@Array.length_toList
def Zg5:=@Nat.mod_eq_of_lt
def Zg6:=@Array.getElem?_toList
def Zg7:=@List.mem_iff_getElem?
def Zg8:=@List.append_assoc
def Zg9:=@List.mem_iff_getElem
def Zh0:=@List.drop_append_of_le_length
def Zh1:=@List.map_map
def Zh2:=@List.drop_eq_nil_of_le
def Zh3:=@or_false
def Zh4:=@Nat.add_assoc
def Zh5:=@List.mem_append_right
def Zh6:=@of_decide_eq_true
def Zh7:=@decide_eq_false_iff_not
def Zh8:=@Nat.mul_le_mul_right
def Zh9:=@Array.getElem?_append_left
def Zi0:=@Bool.or_eq_true
def Zi1:=@Nat.le_max_right
def Zi2:=@List.getElem_map
def Zi3:=@List.drop_length
def Zi4:=@List.ext_getElem?
def Zi5:=@Nat.zero_le
def Zi6:=@Bool.not_eq_true'
def Zi7:=@Nat.succ_mul
def Zi8:=@Option.getD_none
def Zi9:=@Array.getD_eq_getD_getElem?
def Zj0:=@List.findIdx?_eq_some_iff_getElem
def Zj1:=@Int.toNat_natCast
def Zj2:=@Bool.false_and
def Zj3:=@List.cons.injEq
def Zj4:=@Nat.le_max_left
def Zj5:=@Classical.byContradiction
def Zj6:=@Nat.lt_or_ge
def Zj7:=@Nat.add_mul
def Zj8:=@List.take_append_of_le_length
def Zj9:=@List.map_congr_left
def Zk0:=@Bool.and_self
def Zk1:=@List.take_length
def Zk2:=@List.take_append_drop
def Zk3:=@List.length_singleton
def Zk4:=@Nat.min_eq_left
def Zk5:=@Bool.eq_iff_iff
def Zk6:=@Function.comp_def
def Zk7:=@Nat.mul_one
def Zk8:=@List.map_take
def Zk9:=@Bool.and_true
def Zl0:=@List.all_cons
def Zl1:=@beq_eq_false_iff_ne
def Zl2:=@List.length_take
def Zl3:=@List.drop_drop
def Zl4:=@of_decide_eq_false
def Zl5:=@Nat.sub_zero
def Zl6:=@List.take_left'
def Zl7:=@Array.getElem?_setIfInBounds
def Zl8:=@Array.mem_of_getElem?
def Zl9:=@List.contains_iff_mem
def Zm0:=@List.length_replicate
def Zm1:=@List.getElem_take
def Zm2:=@Array.mem_toList_iff
def Zm3:=@List.range_eq_range'
def Zm4:=@Bool.or_eq_false_iff
def Zm5:=@Nat.pow_le_pow_right
def Zm6:=@List.replicate_succ
def Zm7:=@List.length_pos_iff
def Zm8:=@Nat.eq_zero_or_pos
def Zm9:=@Array.ext'
def Zn0:=@List.mem_filterMap
def Zn1:=@List.findIdx?_cons
def Zn2:=@List.take_add_one
def Zn3:=@not_false_eq_true
def Zn4:=@List.size_toArray
def Zn5:=@and_true
def Zn6:=@List.drop_of_length_le
def Zn7:=@List.getElem_cons_succ
def Zn8:=@List.flatMap_cons
def Zn9:=@Array.getElem?_modify
def Zo0:=@UInt8.lt_iff_toNat_lt
def Zo1:=@Nat.le_add_right
def Zo2:=@Array.eq_empty_of_size_eq_zero
def Zo3:=@List.range'_succ
def Zo4:=@Nat.lt_irrefl
def Zo5:=@Array.toList_extract
def Zo6:=@Nat.one_mul
def Zo7:=@List.foldl_cons
def Zo8:=@List.getElem?_range
def Zo9:=@Nat.pow_succ
def Zp0:=@Nat.sub_self
def Zp1:=@Nat.zero_mul
def Zp2:=@Array.toList_setIfInBounds
def Zp3:=@Option.isSome_some
def Zp4:=@Nat.mod_eq_sub_mod
def Zp5:=@List.take_take
def Zp6:=@Nat.blt_eq
def Zp7:=@Int.fdiv_eq_ediv_of_nonneg
def Zp8:=@beq_self_eq_true
def Zp9:=@Array.toList_map
def Zq0:=@decide_false
def Zq1:=@beq_iff_eq
def Zq2:=@List.map_set
def Zq3:=@UInt8.toNat_inj
def Zq4:=@List.mem_filter
def Zq5:=@List.length_set
def Zq6:=@List.nodup_cons
def Zq7:=@List.map_id
namespace Go.Ai
section
inductive Pos where
 |h
 |o (p:Pos)
 |i (p:Pos)
 deriving DecidableEq,Inhabited
def Pos.toNat:Pos->Nat
 |.h=>1
 |.o p=>2*p.toNat
 |.i p=>2*p.toNat+1
def Pos.succ:Pos->Pos
 |.h=>.o .h
 |.o p=>.i p
 |.i p=>.o p.succ
def Pos.YO:Nat->Nat->Pos
 |0,_=>.h
 |  f+1,n=>match Nat.ble n 1 with
    |true=>.h
    |false=>match Nat.beq (n % 2) 0 with
     |true=>.o (Pos.YO f (n / 2))
     |false=>.i (Pos.YO f (n / 2))
def key(n:Nat):Pos:=Pos.YO (n+1).log2 (n+1)
def Pos.beq:Pos->Pos->Bool
 |.h,.h=>true
 |.o a,.o b=>a.beq b
 |.i a,.i b=>a.beq b
 |_,_=>false
inductive T(α:Type) where
 |e
 |n (l:T α) (v:Option α) (r:T α)
 deriving Inhabited
def T.get{α:Type}:Pos->T α->Option α
 |_,.e=>none
 |.h,.n _ v _=>v
 |.o p,.n l _ _=>l.get p
 |.i p,.n _ _ r=>r.get p
def T.put{α:Type}(x:Option α):Pos->T α->T α
 |.h,.e=>.n .e x .e
 |.h,.n l _ r=>.n l x r
 |.o p,.e=>.n (T.put x p .e) none .e
 |.o p,.n l v r=>.n (T.put x p l) v r
 |.i p,.e=>.n .e none (T.put x p .e)
 |.i p,.n l v r=>.n l v (T.put x p r)
inductive AV where
 |bool (b:Bool)
 |int (k:IntKind) (n:Int)
 |str (s:List Nat)
 |fH
 |ptr (b:Pos) (off:Nat)
 |fp (xs:List (List AV)) (i j:Nat)
 |av
 |slice (b:Pos) (off len:Nat) (cap:Option Nat) (es:Nat)
 |fl (xs:List (List AV)) (es:Nat)
 |qe
 |map (b:Pos)
 |func (f:FuncId) (first captured:List AV)
 |jR
 |uT
 |iface (t:TypeId) (v:AV)
 |agg (l:List AV)
 |tuple (l:List AV)
 deriving Inhabited
inductive AB where
 |cells (cs:List AV) (fz:Nat)
 |map (es:List (AV×AV×Nat)) (clock:Nat)
 |jS (s:List Nat) (pos:Nat)
 |typed (t:TypeId) (cs:List AV)
 deriving Inhabited
def AV.cells:AV->List AV
 |.agg l=>l
 |v=>[v]
def AV.undef:AV:= .tuple []
def AV.one:AV->Bool
 |.agg _=>false
 |.tuple _=>false
 |_=>true
def bg:List AV->Bool
 |[]=>true
 |  v::l=>match v.one with
    |true=>bg l
    |false=>false
inductive cL where
 |val (v:AV)
 |aI (v:AV) (del:Option Pos) (set:Option (Pos×AB)) (new:Option AB)
 |call (f:FuncId) (args:List AV)
 deriving Inhabited
def nth{α:Type}:List α->Nat->Option α
 |[],_=>none
 |a::_,0=>some a
 |_::l,n+1=>nth l n
def cut{α:Type}(l:List α)(i n:Nat):Option (List α):=
 match Nat.ble (i+n) l.length with
 |true=>some ((l.drop i).take n)
 |false=>none
def aL{α:Type}(l:List α)(i:Nat)(vs:List α):List α:=l.take i++(vs++l.drop (i+vs.length))
def ja:List Nat->List Nat->Bool
 |[],[]=>true
 |  a::x,b::y=>match Nat.beq a b with
    |true=>ja x y
    |false=>false
 |_,_=>false
def aD:List Nat->List Nat->Bool
 |_,[]=>false
 |[],_::_=>true
 |  a::x,b::y=>match Nat.blt a b with
    |true=>true
    |false=>match Nat.beq a b with
     |true=>aD x y
     |false=>false
inductive PK where
 |b
 |i
 |s
 deriving Inhabited
inductive gp where
 |num
 |bool
 |ptr
 |slice
 |map
 |func
 |iface
 |struct (fs:List (Nat×PK))
 deriving Inhabited
inductive ah0 where
 |int (k:IntKind)
 |same
 |bytes
 |ofBytes
 deriving Inhabited
inductive LK where
 |s
 |l
 |m
 deriving Inhabited
inductive ax where
 |move
 |pick
 |alloc (zero:List AV)
 |box
 |build (zero:List AV) (places:List (Nat×Nat))
 |buildSlice (es len:Nat) (zero:List AV) (places:List Nat)
 |load (n:Option Nat)
 |store (n:Nat)
 |nilCheck
 |bin (op:BinOp) (q:gp)
 |un (op:UnOp)
 |conv (k:ah0)
 |mkIface (t:TypeId)
 |mkFunc (f:FuncId) (N8:Nat)
 |mkMap
 |lookup (pk:PK) (zero:AV) (ok:Bool)
 |mapSet (pk:PK)
 |mkSlice (es bytes:Nat) (zero:List AV)
 |sliceS (lo hi:Bool)
 |sliceL (es:Nat) (lo hi mx:Bool)
 |fieldA (off:Nat)
 |idxA (es:Nat) (arr:Option Nat)
 |field (off:Nat) (n:Option Nat)
 |idxS
 |extract (i:Nat)
 |callF (f:FuncId)
 |callV
 |lenB (k:LK)
 |capB
 |append (es bytes:Nat)
 |copyB (es:Nat)
 |minB
 |maxB
 |clearS (es:Nat) (zero:List AV)
 |rangeS
 |nextS
 |allocT (t:TypeId) (zero:List AV)
 |appendT (e:TypeId) (bytes:Nat)
 |toU
 |fromU (u:TypeId) (n:Nat)
 |sliceData
 |unsafeStr (e:TypeId)
 |bad
 deriving Inhabited
def Wr(k:IntKind):Int:=match k with
 |.i8=> -128|.i16=> -32768|.i32=> -2147483648|.i64=> -9223372036854775808|_=>0
def Ws(k:IntKind):Int:=match k with
 |.i8=>127|.i16=>32767|.i32=>2147483647|.i64=>9223372036854775807
 |.u8=>255|.u16=>65535|.u32=>4294967295|.u64=>18446744073709551615
def au(k:IntKind)(n:Int):Int:=
 match Int.decLe (Wr k) n with
 |  .isTrue _=>match Int.decLe n (Ws k)with
    |.isTrue _=>n
    |.isFalse _=>k.wrap n
 |.isFalse _=>k.wrap n
def Fq(a b:IntKind):Bool:=match decEq a b with
 |.isTrue _=>true
 |.isFalse _=>false
def yK(a b:Int):Bool:=match Int.decEq a b with
 |.isTrue _=>true
 |.isFalse _=>false
def CT(a b:Int):Bool:=match Int.decLt a b with
 |.isTrue _=>true
 |.isFalse _=>false
def Yo(a b:Int):Bool:=match Int.decLe a b with
 |.isTrue _=>true
 |.isFalse _=>false
def yW:PK->AV->AV->Option Bool
 |.b,.bool a,.bool b=>some (a==b)
 |  .i,.int k a,.int k' b=>match Fq k k' with
    |true=>some (yK a b)
    |false=>none
 |.s,.str a,.str b=>some (ja a b)
 |_,_,_=>none
def eqFields(xs ys:List AV):List (Nat×PK)->Option Bool
 |[]=>some true
 |  (o,pk)::fs=>match nth xs o,nth ys o with
    | some a,some b=>match yW pk a b with
      |some true=>eqFields xs ys fs
      |some false=>some false
      |none=>none
    |_,_=>none
def IE:gp->AV->AV->Option Bool
 |.bool,.bool a,.bool b=>some (a==b)
 |.ptr,.fH,.fH=>some true
 |.ptr,.fH,.ptr _ _=>some false
 |.ptr,.ptr _ _,.fH=>some false
 |.ptr,.fH,.fp _ _ _=>some false
 |.ptr,.fp _ _ _,.fH=>some false
 |  .ptr,.ptr b o,.ptr b' o'=>match Pos.beq b b',Nat.beq o o' with
    |true,true=>some true
    |_,_=>none
 |.slice,.av,.av=>some true
 |.slice,.av,.slice _ _ _ _ _=>some false
 |.slice,.slice _ _ _ _ _,.av=>some false
 |.slice,.av,.fl _ _=>some false
 |.slice,.fl _ _,.av=>some false
 |.map,.qe,.qe=>some true
 |.map,.qe,.map _=>some false
 |.map,.map _,.qe=>some false
 |.func,.jR,.jR=>some true
 |.func,.jR,.func _ _ _=>some false
 |.func,.func _ _ _,.jR=>some false
 |.iface,.uT,.iface _ _=>some false
 |.iface,.iface _ _,.uT=>some false
 |.struct fs,.agg xs,.agg ys=>eqFields xs ys fs
 |_,_,_=>none
def jT (op:BinOp)(q:gp):AV->AV->Option AV
 |  .int k a,.int k' b=>match op with
    | .shl=>match CT b 0 with
      |true=>none
      |false=>some (.int k (au k (a*2 ^ (min b.toNat k.bits))))
    | .shr=>match CT b 0 with
      |true=>none
      |false=>some (.int k (a.fdiv (2 ^ (min b.toNat k.bits))))
    | op=>match Fq k k' with
      |false=>none
      | true=>match op with
        |.add=>some (.int k (au k (a+b)))
        |.sub=>some (.int k (au k (a - b)))
        |.mul=>some (.int k (au k (a*b)))
        | .quo=>match yK b 0 with
          |true=>none
          |false=>some (.int k (au k (a.tdiv b)))
        | .rem=>match yK b 0 with
          |true=>none
          |false=>some (.int k (a.tmod b))
        |.and=>some (.int k (k.wrap (BitVec.ofInt k.bits a &&& BitVec.ofInt k.bits b).toNat))
        |.or=>some (.int k (k.wrap (BitVec.ofInt k.bits a ||| BitVec.ofInt k.bits b).toNat))
        |.xor=>some (.int k (k.wrap (BitVec.ofInt k.bits a ^^^ BitVec.ofInt k.bits b).toNat))
        |.andNot=>some (.int k (k.wrap (BitVec.ofInt k.bits a &&& ~~~BitVec.ofInt k.bits b).toNat))
        |.eql=>some (.bool (yK a b))
        |.neq=>some (.bool (!yK a b))
        |.lss=>some (.bool (CT a b))
        |.leq=>some (.bool (Yo a b))
        |.gtr=>some (.bool (CT b a))
        |.geq=>some (.bool (Yo b a))
        |_=>none
 |  .str a,.str b=>match op with
    | .add=>match Nat.ble (a.length+b.length) 9223372036854775807 with
      |true=>some (.str (a++b))
      |false=>none
    |.eql=>some (.bool (ja a b))
    |.neq=>some (.bool (!ja a b))
    |.lss=>some (.bool (aD a b))
    |.leq=>some (.bool (aD a b||ja a b))
    |.gtr=>some (.bool (!(aD a b||ja a b)))
    |.geq=>some (.bool (!aD a b))
    |_=>none
 |  x,y=>match op with
    | .eql=>match IE q x y with
      |some b=>some (.bool b)
      |none=>none
    | .neq=>match IE q x y with
      |some b=>some (.bool (!b))
      |none=>none
    |_=>none
def unA(op:UnOp):AV->Option AV
 |  .bool b=>match op with
    |.not=>some (.bool (!b))
    |_=>none
 |  .int k n=>match op with
    |.neg=>some (.int k (au k (0 - n)))
    |_=>none
 |_=>none
def cI(cells:List AV):List (Nat×Nat)->List AV->Option (List AV)
 |[],[]=>some cells
 |  (off,size)::ps,v::vs=>
    match Nat.beq v.cells.length size,Nat.ble (off+size) cells.length with
    |true,true=>cI (aL cells off v.cells) ps vs
    |_,_=>none
 |_,_=>none
def bZ{α:Type}(l:List α):Nat->List α
 |0=>[]
 |n+1=>l++bZ l n
def uU:AV->Option Nat
 |  .int _ n=>match n with
    |.ofNat m=>some m
    |.negSucc _=>none
 |_=>none
def DK(n:Nat):AV:= .int .i64 (.ofNat n)
def rows(es:Nat)(cs:List AV):Nat->List (List AV)
 |0=>[]
 |n+1=>cs.take es::rows es (cs.drop es) n
def bounds:(lo hi mx:Bool)->List AV->Option (Option Nat×Option Nat×Option Nat)
 |false,false,false,[]=>some (none,none,none)
 |  true,false,false,[a]=>match uU a with
    |some l=>some (some l,none,none)
    |none=>none
 |  false,true,false,[b]=>match uU b with
    |some h=>some (none,some h,none)
    |none=>none
 |  true,true,false,[a,b]=>match uU a,uU b with
    |some l,some h=>some (some l,some h,none)
    |_,_=>none
 |  false,true,true,[b,c]=>match uU b,uU c with
    |some h,some m=>some (none,some h,some m)
    |_,_=>none
 |  true,true,true,[a,b,c]=>match uU a,uU b,uU c with
    |some l,some h,some m=>some (some l,some h,some m)
    |_,_,_=>none
 |_,_,_,_=>none
def cJ(es n:Nat)(H:Pos->Option AB):AV->Option (List AV)
 |.av=>some []
 |  .slice b off _ _ _=>match Nat.beq (n*es) 0 with
    |true=>some []
    |false=>match H b with
     |some (.cells cs _)=>cut cs off (n*es)
     |_=>none
 |  .fl xs es'=>match Nat.beq es es',Nat.ble n xs.length with
    |true,true=>some (xs.take n).flatten
    |_,_=>none
 |  .str s=>match Nat.beq es 1,Nat.ble n s.length with
    |true,true=>some ((s.take n).map λc=>.int .u8 (.ofNat c))
    |_,_=>none
 |_=>none
def dH:AV->Option Nat
 |.av=>some 0
 |.slice _ _ n _ _=>some n
 |.fl xs _=>some xs.length
 |.str s=>some s.length
 |_=>none
def jU(pk:PK)(k:AV):List (AV×AV×Nat)->Nat->Option (Option (Nat×AV))
 |[],_=>some none
 |  (k',v,_)::es,i=>match yW pk k k' with
    |some true=>some (some (i,v))
    |some false=>jU pk k es (i+1)
    |none=>none
def acv:PK->AV->Bool
 |.b,.bool _=>true
 |.i,.int _ _=>true
 |.s,.str _=>true
 |_,_=>false
def oR(k v:AV):List (AV×AV×Nat)->Nat->List (AV×AV×Nat)
 |[],_=>[]
 |(_,_,born)::es,0=>(k,v,born)::es
 |e::es,i+1=>e::oR k v es i
def abE(s:List Nat)(pos:Nat):Option (Nat×Nat):=
 match nth s pos with
 |  some c=>match Nat.blt c 128 with
    |true=>some (c,1)
    |false=>none
 |none=>none
def bytesOf:List AV->Option (List Nat)
 |[]=>some []
 |  .int .u8 (.ofNat n)::l=>match Nat.blt n 256,bytesOf l with
    |true,some s=>some (n::s)
    |_,_=>none
 |_=>none
def Qq(_H:Pos->Option AB)(_next:Pos):List AV->Option cL
 |[x]=>some (.val x)
 |_=>none
def U8(_H:Pos->Option AB)(_next:Pos):List AV->Option cL
 |  [c,a,b]=>match c with
    |.bool true=>some (.val a)
    |.bool false=>some (.val b)
    |_=>none
 |_=>none
def KS(_H:Pos->Option AB)(next:Pos)(zero:List AV):List AV->Option cL
 |[]=>some (.aI (.ptr next 0) none none (some (.cells zero 0)))
 |_=>none
def Tk(_H:Pos->Option AB)(next:Pos):List AV->Option cL
 |[x]=>some (.aI (.ptr next 0) none none (some (.cells x.cells 0)))
 |_=>none
def KT(_H:Pos->Option AB)(_next:Pos)(zero:List AV)(places:List (Nat×Nat)):List AV->Option cL
 |  xs=>match cI zero places xs with
    |some cs=>some (.val (.agg cs))
    |none=>none
def sZ(_H:Pos->Option AB)(next:Pos)(es len:Nat)(zero:List AV)(places:List Nat):List AV->Option cL
 |  xs=>match cI (bZ zero len) (places.map λi=>(i*es,es)) xs with
    |some cs=>some (.aI (.slice next 0 len (some len) es) none none (some (.cells cs 0)))
    |none=>none
def wC (H :Pos->Option AB)(_next:Pos)(n:Option Nat):List AV->Option cL
 |  [p] =>match p with
    | .ptr b off=>match H b with
      | some (.cells cs _)=>match n with
        | none=>match nth cs off with
          |some v=>some (.val v)
          |none=>none
        | some n=>match cut cs off n with
          |some vs=>some (.val (.agg vs))
          |none=>none
      | some (.typed _ cs)=>match n with
        | none=>match nth cs off with
          |some v=>some (.val v)
          |none=>none
        | some n=>match cut cs off n with
          |some vs=>some (.val (.agg vs))
          |none=>none
      |_=>none
    | .fp xs i j=>match nth xs i with
      | some cs=>match n with
        | none=>match nth cs j with
          |some v=>some (.val v)
          |none=>none
        | some n=>match cut cs j n with
          |some vs=>some (.val (.agg vs))
          |none=>none
      |none=>none
    |_=>none
 |_=>none
def Cs (H:Pos->Option AB)(_next:Pos)(n:Nat):List AV->Option cL
 |  [p, v]=>match p with
    | .ptr b off=>match H b with
      | some (.cells cs fz)=>
        match Nat.beq v.cells.length n,Nat.ble (off+n) cs.length,Nat.ble fz off,bg v.cells with
        |true,true,true,true=>some (.aI .undef none (some (b,.cells (aL cs off v.cells) fz)) none)
        |_,_,_,_=>none
      | some (.typed t cs)=>
        match Nat.beq v.cells.length n,Nat.ble (off+n) cs.length,bg v.cells with
        |true,true,true=>some (.aI .undef none (some (b,.typed t (aL cs off v.cells))) none)
        |_,_,_=>none
      |_=>none
    |_=>none
 |_=>none
def IF(_H:Pos->Option AB)(_next:Pos):List AV->Option cL
 |  [x]=>match x with
    |.ptr _ _=>some (.val x)
    |.fp _ _ _=>some (.val x)
    |.func _ _ _=>some (.val x)
    |_=>none
 |_=>none
def fI(_H:Pos->Option AB)(_next:Pos)(op:BinOp)(q:gp):List AV->Option cL
 |  [x,y]=>match jT op q x y with
    |some v=>some (.val v)
    |none=>none
 |_=>none
def acw(_H:Pos->Option AB)(_next:Pos)(op:UnOp):List AV->Option cL
 |  [x]=>match unA op x with
    |some v=>some (.val v)
    |none=>none
 |_=>none
def wD (H:Pos->Option AB)(next:Pos)(k:ah0):List AV->Option cL
 |  [x] =>match k,x with
    |.int k,.int _ n=>some (.val (.int k (au k n)))
    |.same,.str s=>some (.val (.str s))
    |.bytes,.str s=>some (.aI (.slice next 0 s.length none 1) none none (some (.cells (s.map λc=>.int .u8 (.ofNat c)) 0)))
    |.ofBytes,.av=>some (.val (.str []))
    | .ofBytes,.slice b off n _ _=>match Nat.beq n 0 with
      |true=>some (.val (.str []))
      | false=>match H b with
        |some (.cells cs _)=>match cut cs off n with
         |some l=>match bytesOf l with
          |some s=>some (.val (.str s))
          |none=>none
         |none=>none
        |_=>none
    |_,_=>none
 |_=>none
def KU(_H:Pos->Option AB)(_next:Pos)(t:TypeId):List AV->Option cL
 |[x]=>some (.val (.iface t x))
 |_=>none
def Hy(_H:Pos->Option AB)(_next:Pos)(f:FuncId)(N8:Nat):List AV->Option cL
 |xs=>some (.val (.func f (xs.take N8) (xs.drop N8)))
def KV(_H:Pos->Option AB)(next:Pos):List AV->Option cL
 |_=>some (.aI (.map next) none none (some (.map [] 0)))
def zu (H:Pos->Option AB)(_next:Pos)(pk:PK)(zero:AV)(ok:Bool):List AV->Option cL
 |  [m, k]=>
    match (match m with
      | .qe=>match acv pk k with
        |true=>some none
        |false=>none
      | .map b=>match H b with
        |some (.map es _)=>jU pk k es 0
        |_=>none
      |_=>none)with
    |some (some (_,v))=>some (.val (match ok with|true=>.tuple [v,.bool true]|false=>v))
    |some none=>some (.val (match ok with|true=>.tuple [zero,.bool false]|false=>zero))
    |none=>none
 |_=>none
def zw (H:Pos->Option AB)(_next:Pos)(pk:PK):List AV->Option cL
 |  [m, k,v]=>match m with
    | .map b=>match H b with
      | some (.map es clock)=>match acv pk k,jU pk k es 0 with
        |true,some (some (i,_))=>some (.aI .undef none (some (b,.map (oR k v es i) clock)) none)
        |true,some none=>some (.aI .undef none (some (b,.map (es++[(k,v,clock)]) (clock+1))) none)
        |_,_=>none
      |_=>none
    |_=>none
 |_=>none
def Au(_H:Pos->Option AB)(next:Pos)(es bytes:Nat)(zero:List AV):List AV->Option cL
 |  [l,c]=>match uU l,uU c with
    | some l,some c=>match Nat.ble l c,Nat.ble (bytes*c) 281474976710656,Nat.ble c 9223372036854775807 with
      |true,true,true=>some (.aI (.slice next 0 l (some c) es) none none (some (.cells (bZ zero c) 0)))
      |_,_,_=>none
    |_,_=>none
 |_=>none
def qY(_H:Pos->Option AB)(_next:Pos)(lo hi:Bool):List AV->Option cL
 |  x ::bs=>match x,bounds lo hi false bs with
    | .str s,some (l,h,_)=>
      let h:=h.getD s.length
      let l:=l.getD 0
      match Nat.ble l h,Nat.ble h s.length with
      |true,true=>some (.val (.str ((s.take h).drop l)))
      |_,_=>none
    |_,_=>none
 |_=>none
def lu (_H:Pos->Option AB)(_next:Pos)(es:Nat)(lo hi mx:Bool):List AV->Option cL
 |  x ::bs=>match x,bounds lo hi mx bs with
    | .slice b off len cap es',some (l,h,m)=>
      match Nat.beq es es',Nat.ble (l.getD 0) (h.getD len)with
      | true,true=>match cap,m with
        | some c,some m=>match Nat.ble (h.getD len) m,Nat.ble m c with
          |true,true=>some (.val (.slice b (off+l.getD 0*es) (h.getD len - l.getD 0) (some (m - l.getD 0)) es))
          |_,_=>none
        | some c,none=>match Nat.ble (h.getD len) c with
          |true=>some (.val (.slice b (off+l.getD 0*es) (h.getD len - l.getD 0) (some (c - l.getD 0)) es))
          |false=>none
        | none,some m=>match Nat.ble (h.getD len) m,Nat.ble m len with
          |true,true=>some (.val (.slice b (off+l.getD 0*es) (h.getD len - l.getD 0) (some (m - l.getD 0)) es))
          |_,_=>none
        | none,none=>match Nat.ble (h.getD len) len with
          |true=>some (.val (.slice b (off+l.getD 0*es) (h.getD len - l.getD 0) none es))
          |false=>none
      |_,_=>none
    | .fl xs es',some (l,h,m)=>
      match Nat.beq es es' with
      | true=>match m with
        | some m=>match Nat.beq (l.getD 0) 0,Nat.beq (h.getD xs.length) 0,Nat.beq m 0 with
          |true,true,true=>some (.val (.slice .h 0 0 (some 0) es))
          |_,_,_=>none
        | none=>match Nat.ble (l.getD 0) (h.getD xs.length),Nat.ble (h.getD xs.length) xs.length with
          |true,true=>some (.val (.fl ((xs.take (h.getD xs.length)).drop (l.getD 0)) es))
          |_,_=>none
      |false=>none
    | .av,some (l,h,m)=>match Nat.beq (l.getD 0) 0,Nat.beq (h.getD 0) 0,Nat.beq (m.getD 0) 0 with
        |true,true,true=>some (.val .av)
        |_,_,_=>none
    |_,_=>none
 |_=>none
def N9(_H:Pos->Option AB)(_next:Pos)(off:Nat):List AV->Option cL
 |  [x]=>match x with
    |.ptr b o=>some (.val (.ptr b (o+off)))
    |.fp xs i j=>some (.val (.fp xs i (j+off)))
    |_=>none
 |_=>none
def mK (_H:Pos->Option AB)(_next:Pos)(es:Nat)(arr:Option Nat):List AV->Option cL
 |  [x, i]=>match uU i with
    | some i=>match arr,x with
      | none,.slice b off len _ _=>match Nat.blt i len with
        |true=>some (.val (.ptr b (off+i*es)))
        |false=>none
      | none,.fl xs es'=>match Nat.blt i xs.length,Nat.beq es es' with
        |true,true=>some (.val (.fp xs i 0))
        |_,_=>none
      | some n,.ptr b off=>match Nat.blt i n with
        |true=>some (.val (.ptr b (off+i*es)))
        |false=>none
      |_,_=>none
    |none=>none
 |_=>none
def Sb (_H:Pos->Option AB)(_next:Pos)(off:Nat)(n:Option Nat):List AV->Option cL
 |  [x] =>match x with
    | .agg cs=>match n with
      | none=>match nth cs off with
        |some v=>some (.val v)
        |none=>none
      |some n=>some (.val (.agg ((cs.drop off).take n)))
    |_=>none
 |_=>none
def Qr(_H:Pos->Option AB)(_next:Pos):List AV->Option cL
 |  [x,i]=>match x,uU i with
    | .str s,some i=>match nth s i with
      |some c=>some (.val (.int .u8 (.ofNat c)))
      |none=>none
    |_,_=>none
 |_=>none
def EP(_H:Pos->Option AB)(_next:Pos)(i:Nat):List AV->Option cL
 |  [x]=>match x with
    | .tuple vs=>match nth vs i with
      |some v=>some (.val v)
      |none=>none
    |_=>none
 |_=>none
def Sc(_H:Pos->Option AB)(_next:Pos)(f:FuncId):List AV->Option cL
 |xs=>some (.call f xs)
def Sd(_H:Pos->Option AB)(_next:Pos):List AV->Option cL
 |  x::xs=>match x with
    |.func f first captured=>some (.call f (first++(xs++captured)))
    |_=>none
 |_=>none
def JC(H:Pos->Option AB)(_next:Pos)(k:LK):List AV->Option cL
 |  [x]=>match k,x with
    |.m,.qe=>some (.val (DK 0))
    | .m,.map b=>match H b with
      |some (.map es _)=>some (.val (DK es.length))
      |_=>none
    |.s,.str s=>some (.val (DK s.length))
    |.l,.av=>some (.val (DK 0))
    |.l,.slice _ _ n _ _=>some (.val (DK n))
    |.l,.fl xs _=>some (.val (DK xs.length))
    |_,_=>none
 |_=>none
def gH (H:  Pos->Option AB)(next:Pos)(es bytes:Nat):List AV->Option cL
 |  [s, x]=> match dH s,dH x with
    | some n,some m=>
      match Nat.ble ((2*(n+m)+768)*bytes) 281474976710656,Nat.ble (n+m) 9223372036854775807 with
      | true,true=>match Nat.beq m 0,s with
        |true,.slice b off n c es'=>some (.val (.slice b off n c es'))
        |true,.fl xs es'=>some (.val (.fl xs es'))
        |true,.av=>some (.val .av)
        |false,.av=>match cJ es m H x with
         |some new=>some (.aI (.slice next 0 m none es) none none (some (.cells new 0)))
         |none=>none
        |false,.slice b off n (some c) es'=>
         match Nat.ble (n+m) c with
         |  true=>match H b,cJ es m H x with
            |some (.cells cs fz),some new=>match Nat.ble (off+(n+m)*es) cs.length,Nat.ble fz (off+n*es)&&Nat.beq es es',bg new with
             |true,true,true=>some (.aI (.slice b off (n+m) (some c) es) none (some (b,.cells (aL cs (off+n*es) new) fz)) none)
             |_,_,_=>none
            |_,_=>none
         |  false=>match cJ es n H s,cJ es m H x with
            |some c9,some new=>some (.aI (.slice next 0 (n+m) none es) none none (some (.cells (c9++new) 0)))
            |_,_=>none
        |false,.slice b off n none es'=>
         match H b,cJ es n H s,cJ es m H x with
         |  some (.cells _ fz),some c9,some new=>match Nat.ble fz (off+n*es)&&Nat.beq es es',bg new with
            |true,true=>some (.aI (.slice next 0 (n+m) none es) (some b) none (some (.cells (c9++new) (fz - off))))
            |_,_=>none
         |_,_,_=>none
        |_,_=>none
      |_,_=>none
    |_,_=>none
 |_=>none
def lQ (H : Pos->Option AB)(_next:Pos)(es:Nat):List AV->Option cL
 |  [d, x]=>match dH d,dH x with
    | some n,some m=>
      let k:=min m n
      match Nat.beq k 0 with
      | true=>match d with
        |.str _=>none
        |_=>some (.val (DK 0))
      | false=>match d with
        | .slice b off _ _ _=>match H b,cJ es k H x with
          | some (.cells cs fz),some new=>match Nat.ble (off+k*es) cs.length,Nat.ble fz off,bg new with
            |true,true,true=>some (.aI (DK k) none (some (b,.cells (aL cs off new) fz)) none)
            |_,_,_=>none
          |_,_=>none
        |_=>none
    |_,_=>none
 |_=>none
def Fh(_H:Pos->Option AB)(_next:Pos):List AV->Option cL
 |  [x,y]=>match x,y with
    |.int k a,.int _ b=>some (.val (.int k (match CT b a with|true=>b|false=>a)))
    |.str a,.str b=>some (.val (.str (match aD a b||ja a b with|true=>a|false=>b)))
    |_,_=>none
 |_=>none
def Fi(_H:Pos->Option AB)(_next:Pos):List AV->Option cL
 |  [x,y]=>match x,y with
    |.int k a,.int _ b=>some (.val (.int k (match CT a b with|true=>b|false=>a)))
    |.str a,.str b=>some (.val (.str (match aD a b with|true=>b|false=>a)))
    |_,_=>none
 |_=>none
def zx (H:Pos->Option AB)(_next:Pos)(es:Nat)(zero:List AV):List AV->Option cL
 |  [x] =>match x with
    |.av=>some (.val .undef)
    | .slice b off n _ _=>match Nat.beq n 0 with
      |true=>some (.val .undef)
      | false=>match H b with
        |some (.cells cs fz)=>match Nat.ble (off+n*es) cs.length,Nat.ble fz off,bg (bZ zero n)with
         |true,true,true=>some (.aI .undef none (some (b,.cells (aL cs off (bZ zero n)) fz)) none)
         |_,_,_=>none
        |_=>none
    |_=>none
 |_=>none
def Hz(_H:Pos->Option AB)(next:Pos):List AV->Option cL
 |  [x]=>match x with
    |.str s=>some (.aI (.ptr next 0) none none (some (.jS s 0)))
    |_=>none
 |_=>none
def KW (H:Pos->Option AB)(_next:Pos):List AV->Option cL
 |  [x] =>match x with
    | .ptr b 0=>match H b with
      | some (.jS s pos)=>match Nat.blt pos s.length with
        |true=>match abE s pos with
         |some (c,w)=>some (.aI (.tuple [.bool true,DK pos,.int .i32 (.ofNat c)]) none (some (b,.jS s (pos+w))) none)
         |none=>none
        |false=>some (.val (.tuple [.bool false]))
      |_=>none
    |_=>none
 |_=>none
def HA(_H:Pos->Option AB)(next:Pos)(t:TypeId)(zero:List AV):List AV->Option cL
 |[]=>some (.aI (.ptr next 0) none none (some (.typed t zero)))
 |_=>none
def oG (H:Pos->Option AB)(next:Pos)(e:TypeId)(bytes:Nat):List AV->Option cL
 |  [s, x]=> match x with
    | .str u=>match s with
      | .av=>match Nat.ble ((2*(0+u.length)+768)*bytes) 281474976710656,Nat.ble (0+u.length) 9223372036854775807 with
        |true,true=>match Nat.beq u.length 0 with
         |true=>some (.val .av)
         |false=>some (.aI (.slice next 0 (0+u.length) none 1) none none (some (.typed e (u.map λc=>.int .u8 (.ofNat c)))))
        |_,_=>none
      | .slice b 0 n none 1=>match Nat.ble ((2*(n+u.length)+768)*bytes) 281474976710656,Nat.ble (n+u.length) 9223372036854775807 with
        |true,true=>match Nat.beq u.length 0 with
         |true=>some (.val (.slice b 0 n none 1))
         |false=>match H b with
          |  some (.typed e' cs)=>match Nat.beq e e',cut cs 0 n with
             |true,some c9=>some (.aI (.slice next 0 (n+u.length) none 1) (some b) none (some (.typed e (c9++u.map λc=>.int .u8 (.ofNat c)))))
             |_,_=>none
          |_=>none
        |_,_=>none
      |_=>none
    |_=>none
 |_=>none
def Oa (H:Pos->Option AB)(_next:Pos):List AV->Option cL
 |  [x] =>match x with
    |.fH=>some (.val .fH)
    | .ptr b off=>match H b with
      | some (.typed _ cs)=>match Nat.blt off cs.length with
        |true=>some (.val (.ptr b off))
        |false=>none
      |_=>none
    |_=>none
 |_=>none
def Fs (H:Pos->Option AB)(_next:Pos)(u:TypeId)(n:Nat):List AV->Option cL
 |  [x] =>match x with
    |.fH=>some (.val .fH)
    | .ptr b 0=>match H b with
      | some (.typed t cs)=>match Nat.beq t u,Nat.ble n cs.length with
        |true,true=>some (.val (.ptr b 0))
        |_,_=>none
      |_=>none
    |_=>none
 |_=>none
def qf(_H:Pos->Option AB)(_next:Pos):List AV->Option cL
 |  [x]=>match x with
    |.av=>some (.val .fH)
    | .slice b off n _ _=>match Nat.beq n 0 with
      |true=>none
      |false=>some (.val (.ptr b off))
    |_=>none
 |_=>none
def lz (H :Pos->Option AB)(_next:Pos)(e:TypeId):List AV->Option cL
 |  [x, y]=> match y with
    | .int .i64 (.ofNat n)=>match Nat.beq n 0 with
      | true=>match x with
        |.fH=>some (.val (.str []))
        |.ptr _ _=>some (.val (.str []))
        |_=>none
      | false=>match x with
        | .ptr b 0=>match H b with
          |some (.typed e' cs)=>match Nat.beq e e',cut cs 0 n,Nat.ble n 9223372036854775807 with
           | true,some l,true=>match bytesOf l with
             |some s=>some (.aI (.str s) (some b) none none)
             |none=>none
           |_,_,_=>none
          |_=>none
        |_=>none
    |_=>none
 |_=>none
def ax.run(H:Pos->Option AB)(next:Pos):ax->List AV->Option cL
 |.move=>Qq H next
 |.pick=>U8 H next
 |.alloc zero=>KS H next zero
 |.box=>Tk H next
 |.build zero places=>KT H next zero places
 |.buildSlice es len zero places=>sZ H next es len zero places
 |.load n=>wC H next n
 |.store n=>Cs H next n
 |.nilCheck=>IF H next
 |.bin op q=>fI H next op q
 |.un op=>acw H next op
 |.conv k=>wD H next k
 |.mkIface t=>KU H next t
 |.mkFunc f N8=>Hy H next f N8
 |.mkMap=>KV H next
 |.lookup pk zero ok=>zu H next pk zero ok
 |.mapSet pk=>zw H next pk
 |.mkSlice es bytes zero=>Au H next es bytes zero
 |.sliceS lo hi=>qY H next lo hi
 |.sliceL es lo hi mx=>lu H next es lo hi mx
 |.fieldA off=>N9 H next off
 |.idxA es arr=>mK H next es arr
 |.field off n=>Sb H next off n
 |.idxS=>Qr H next
 |.extract i=>EP H next i
 |.callF f=>Sc H next f
 |.callV=>Sd H next
 |.lenB k=>JC H next k
 |.append es bytes=>gH H next es bytes
 |.copyB es=>lQ H next es
 |.minB=>Fh H next
 |.maxB=>Fi H next
 |.clearS es zero=>zx H next es zero
 |.rangeS=>Hz H next
 |.nextS=>KW H next
 |.allocT t zero=>HA H next t zero
 |.appendT e bytes=>oG H next e bytes
 |.toU=>Oa H next
 |.fromU u n=>Fs H next u n
 |.sliceData=>qf H next
 |.unsafeStr e=>lz H next e
 |.capB=>λ_=>none
 |.bad=>λ_=>none
inductive eZ where
 |t (p:Pos)
 |c (v:AV)
 deriving Inhabited
inductive Cls where
 |pure
 |read
 |new
 |aI
 deriving Inhabited
structure bD where
 dst:Option Pos
 k:ax
 xs:List eZ
 guard:Option (Pos×Bool)
 cls:Cls
 bT:Nat
 deriving Inhabited
inductive AC where
 |skip
 |region (ops:List bD)
 |draw (ops:List (Nat×bD))
 |seq (a b:AC)
 |cond (x:eZ) (a b:AC)
 |block (id:Nat) (a:AC)
 |loop (a:AC)
 |exit (id:Nat)
 |ret
 deriving Inhabited
inductive C0 where
 |tmp (p:Pos)
 |cell (p:Pos) (n:Option Nat)
 deriving Inhabited
structure dB where
 code:AC
 nparams:Nat
 results:List C0
 deriving Inhabited
abbrev Fr:=T AV
structure St where
 heap:T AB
 next:Pos
 deriving Inhabited
inductive jV where
 |normal
 |exit (id:Nat)
 |ret
 deriving Inhabited
def C6(fr:Fr):eZ->Option AV
 |.t p=>fr.get p
 |.c v=>some v
def e8(fr:Fr):List eZ->Option (List AV)
 |[]=>some []
 |  x::xs=>match C6 fr x with
    |some v=>match e8 fr xs with
     |some vs=>some (v::vs)
     |none=>none
    |none=>none
def cj(fr:Fr):Option (Pos×Bool)->Option Bool
 |none=>some true
 |  some (p,want)=>match fr.get p with
    |some (.bool b)=>some (b==want)
    |some (.tuple _)=>some false
    |_=>none
def dP(fr:Fr)(d:Option Pos)(v:AV):Fr:=match d with
 |some p=>fr.put (some v) p
 |none=>fr
def KX(o:Option (Pos×AB))(h:T AB):T AB:=match o with
 |some (b,x)=>h.put (some x) b
 |none=>h
def IG(o:Option Pos)(h:T AB):T AB:=match o with
 |some b=>h.put none b
 |none=>h
def St.aI(st:St)(del:Option Pos)(set:Option (Pos×AB))(new:Option AB):St:=
 match new with
 |some x=>{ heap:=T.put (some x) st.next (KX set (IG del st.heap)),next:=st.next.succ }
 |none=>{ heap:=KX set (IG del st.heap),next:=st.next }
abbrev ah:=FuncId->List AV->St->Option (AV×St)
def bY(call:ah)(k:ax)(xs:List AV)(st:St):Option (AV×St):=
 match k.run (λb=>st.heap.get b) st.next xs with
 |some (.val v)=>some (v,st)
 |some (.aI v del set new)=>some (v,st.aI del set new)
 |some (.call f args)=>call f args st
 |none=>none
def jM (call:ah):List bD->Fr->St->Option (Fr×St)
 |[],fr,st=>some (fr,st)
 |  o::os,fr,st=>match cj fr o.guard with
    |some true=>match e8 fr o.xs with
     |  some xs=>match bY call o.k xs st with
        |some (v,st')=>jM call os (dP fr o.dst v) st'
        |none=>none
     |none=>none
    |some false=>jM call os (dP fr o.dst .undef) st
    |none=>none
def fc:AV->AV->Bool
 |.bool a,.bool b=>a==b
 |.int k a,.int k' b=>Fq k k'&&yK a b
 |.str a,.str b=>ja a b
 |.fH,.fH=>true
 |.ptr b o,.ptr b' o'=>Pos.beq b b'&&Nat.beq o o'
 |.av,.av=>true
 |.slice b o l none es,.slice b' o' l' none es'=>Pos.beq b b'&&Nat.beq o o'&&Nat.beq l l'&&Nat.beq es es'
 |.slice b o l (some c) es,.slice b' o' l' (some c') es'=>Pos.beq b b'&&Nat.beq o o'&&Nat.beq l l'&&Nat.beq c c'&&Nat.beq es es'
 |.qe,.qe=>true
 |.map b,.map b'=>Pos.beq b b'
 |.jR,.jR=>true
 |.uT,.uT=>true
 |_,_=>false
def yX:List AV->List AV->Bool
 |[],[]=>true
 |a::x,b::y=>fc a b&&yX x y
 |_,_=>false
def HB(f:AV->AV->Bool):List AV->List AV->Bool
 |[],[]=>true
 |a::x,b::y=>f a b&&HB f x y
 |_,_=>false
def zy(f:AV->AV->Bool):List (List AV)->List (List AV)->Bool
 |[],[]=>true
 |a::x,b::y=>HB f a b&&zy f x y
 |_,_=>false
def HC:Nat->AV->AV->Bool
 |d+1,.fl a n,.fl a' n'=>zy (HC d) a a'&&Nat.beq n n'
 |_,a,b=>fc a b
def iE:AV->AV->Bool
 |.func f a b,.func f' a' b'=>Nat.beq f f'&&yX a a'&&yX b b'
 |.fl a n,.fl a' n'=>HC 3 (.fl a n) (.fl a' n')
 |a,b=>fc a b
def oT:List AV->List AV->Bool
 |[],[]=>true
 |a::x,b::y=>iE a b&&oT x y
 |_,_=>false
def dN:AV->AV->Bool
 |.agg l,.agg l'=>oT l l'
 |.tuple l,.tuple l'=>oT l l'
 |a,b=>iE a b
inductive RC where
 |pure
 |new (id:Pos) (aA:AB)
 |aI (base:T AB) (h:T AB)
 deriving Inhabited
structure Rec where
 idx:Nat
 o:bD
 v:AV
 c:RC
 nx:Pos
 deriving Inhabited
def snap(bT:Nat)(h:T AB):List Rec->T AB
 |[]=>h
 |  r ::rs=>match r.c with
    | .new id aA=>match bT.testBit r.idx with
      |true=>(snap bT h rs).put (some aA) id
      |false=>snap bT h rs
    |.aI _ _=>h
    |.pure=>snap bT h rs
def iV:List (Pos×AB)->T AB->T AB
 |[],h=>h
 |(id,aA)::l,h=>(iV l h).put (some aA) id
def eA(k:ax)(xs:List AV)(v:AV)(h:T AB):Bool:=
 match k.run (λb=>h.get b) .h xs with
 |some (.val u)=>dN u v
 |_=>false
def kU(bT:Nat)(k:ax)(xs:List AV)(v:AV):List (Pos×AB)->List Rec->Bool
 |_,[]=>true
 |  up,r::rs=>match r.c with
    | .new id aA=>match bT.testBit r.idx with
      |true=>kU bT k xs v ((id,aA)::up) rs
      |false=>kU bT k xs v up rs
    | .aI base _=>match bT.testBit r.idx with
      |true=>true
      |false=>eA k xs v (iV up (snap bT base rs))&&kU bT k xs v up rs
    |.pure=>kU bT k xs v up rs
def dO (call:ah):List (Nat×bD)->List Rec->T AB->Fr->St->Option (Fr×St)
 |[],_,_,fr,st=>some (fr,st)
 |  (j, o)::os,recs,base,fr,st=>match cj fr o.guard with
    |some false=>dO call os ({ idx:=j,o:=o,v:= .undef,c:= .pure,nx:=st.next }::recs) base (dP fr o.dst .undef) st
    | some true=>match e8 fr o.xs with
      |none=>none
      | some xs=>match o.cls with
        | .new=>match o.k.run (λ_=>none) st.next xs with
          |some (.aI v none none (some aA))=>
           dO call os ({ idx:=j,o:=o,v:=v,c:= .new st.next aA,nx:=st.next.succ }::recs) base (dP fr o.dst v) { heap:=st.heap.put (some aA) st.next,next:=st.next.succ }
          |_=>none
        | .aI=>match bY call o.k xs st with
          |some (v,st')=>dO call os ({ idx:=j,o:=o,v:=v,c:= .aI base st'.heap,nx:=st'.next }::recs) st'.heap (dP fr o.dst v) st'
          |none=>none
        | _=>match o.k.run (λ_=>none) .h xs with
          |some (.val v)=>dO call os ({ idx:=j,o:=o,v:=v,c:= .pure,nx:=st.next }::recs) base (dP fr o.dst v) st
          |_=>match o.k.run (λb=>(snap o.bT base recs).get b) .h xs with
           |some (.val v)=>match kU o.bT o.k xs v [] recs with
            |true=>dO call os ({ idx:=j,o:=o,v:=v,c:= .pure,nx:=st.next }::recs) base (dP fr o.dst v) st
            |false=>none
           |_=>none
    |none=>none
def bt(call:ah)(ih:AC->Fr->St->Option (jV×Fr×St)):AC->Fr->St->Option (jV×Fr×St)
 |.skip,fr,st=>some (.normal,fr,st)
 |  .region ops,fr,st=>match jM call ops fr st with
    |some (fr,st)=>some (.normal,fr,st)
    |none=>none
 |  .draw ops,fr,st=>match dO call ops [] st.heap fr st with
    |some (fr,st)=>some (.normal,fr,st)
    |none=>none
 |  .seq a b,fr,st=>match ih a fr st with
    |some (.normal,fr,st)=>ih b fr st
    |r=>r
 |  .cond x a b,fr,st=>match C6 fr x with
    |some (.bool true)=>ih a fr st
    |some (.bool false)=>ih b fr st
    |_=>none
 |  .block id a,fr,st=>match ih a fr st with
    |some (.exit uy,fr,st)=>match Nat.beq uy id with
     |true=>some (.normal,fr,st)
     |false=>some (.exit uy,fr,st)
    |r=>r
 |  .loop a,fr,st=>match ih a fr st with
    |some (.normal,fr,st)=>ih (.loop a) fr st
    |r=>r
 |.exit id,fr,st=>some (.exit id,fr,st)
 |.ret,fr,st=>some (.ret,fr,st)
def exec(call:ah):Nat->AC->Fr->St->Option (jV×Fr×St)
 |0=>λ_ _ _=>none
 |n+1=>bt call (exec call n)
def params:Nat->List AV->Fr->Fr
 |_,[],fr=>fr
 |i,v::vs,fr=>params (i+1) vs (fr.put (some v) (key i))
def dA (H:Pos->Option AB)(fr:Fr):List C0->Option (List AV)
 |[]=>some []
 |  .tmp p::rs=>match fr.get p with
    |some v=>match dA H fr rs with
     |some vs=>some (v::vs)
     |none=>none
    |none=>none
 |  .cell p n::rs=>match fr.get p with
    |some q=>match (ax.load n).run H .h [q]with
     |  some (.val v)=>match dA H fr rs with
        |some vs=>some (v::vs)
        |none=>none
     |_=>none
    |none=>none
def iq:List AV->AV
 |[v]=>v
 |vs=>.tuple vs
abbrev ff:=FuncId->Option (List AV->St->Option (AV×St))
def rE (O:ff)(G:T dB)(m:Nat):Nat->ah
 |0=>λ_ _ _=>none
 |  d+  1=>λf args st=>match O f with
    |some s=>s args st
    |none=>match G.get (key f)with
     |  some F=>match Nat.beq args.length F.nparams with
        |true=>match exec (rE O G m d) m F.code (params 0 args .e) st with
         |some (.normal,fr,st')=>match dA (λb=>st'.heap.get b) fr F.results with
          |some vs=>some (iq vs,st')
          |none=>none
         |some (.ret,fr,st')=>match dA (λb=>st'.heap.get b) fr F.results with
          |some vs=>some (iq vs,st')
          |none=>none
         |_=>none
        |false=>none
     |none=>none
inductive TK where
 |bool
 |int (k:IntKind)
 |string
 |ptr (elem:Nat)
 |slice (elem:Nat)
 |array (n elem:Nat)
 |map (k e:Nat)
 |struct (fs:List (Nat×Nat×Bool))
 |func
 |iface
 |upt
 |other
 deriving Inhabited
structure TI where
 k:TK
 size:Nat
 bytes:Nat
 zero:Option (List AV)
 yL:Bool:=false
 deriving Inhabited
def KY:Value->Option AV
 |.bool b=>some (.bool b)
 |.int k n=>some (.int k n)
 |.string s=>some (.str (s.data.toList.map UInt8.toNat))
 |.pointer none=>some .fH
 |.slice none 0 0=>some .av
 |.map none=>some .qe
 |.func (.func f) ⟨[]⟩ ⟨[]⟩=>some (.func f [] [])
 |.nilFunc=>some .jR
 |.nilIface=>some .uT
 |_=>none
def oH:List Value->Option (List AV)
 |[]=>some []
 |  v::vs=>match KY v,oH vs with
    |some a,some as=>some (a::as)
    |_,_=>none
def U9:Value->Option AV
 |  .agg cs=>match oH cs.toList with
    |some l=>some (.agg l)
    |none=>none
 |v=>KY v
def lA:Operand->Option eZ
 |.tmp t=>some (.t (key t))
 |  .const v=>match U9 v with
    |some a=>some (.c a)
    |none=>none
 |.func f=>some (.c (.func f [] []))
 |.global _=>none
def jJ:List Operand->Option (List eZ)
 |[]=>some []
 |  x::xs=>match lA x,jJ xs with
    |some a,some as=>some (a::as)
    |_,_=>none
def TK.isAgg:TK->Bool
 |.struct _=>true
 |.array _ _=>true
 |_=>false
abbrev TT:=T TI
def Av(tt:TT)(t:Nat):Option gp:=match tt.get (key t)with
 |  some ti=>match ti.k with
    |.bool=>some .bool
    |.int _=>some .num
    |.string=>some .num
    |.ptr _=>some .ptr
    |.slice _=>some .slice
    |.map _ _=>some .map
    |.func=>some .func
    |.iface=>some .iface
    | .struct fs=>match ti.yL,fields fs with
      |true,some l=>some (.struct l)
      |_,_=>none
    |_=>none
 |none=>none
where
 fields:List (Nat×Nat×Bool)->Option (List (Nat×PK))
  |[]=>some []
  |(off,t,named)::fs=>match named,tt.get (key t),fields fs with
   |true,some ti,some l=>match ti.k with
    |.bool=>some ((off,.b)::l)
    |.int _=>some ((off,.i)::l)
    |.string=>some ((off,.s)::l)
    |_=>none
   |_,_,_=>none
def Aw(ti:TI):Option Nat:=match ti.k.isAgg with
 |true=>some ti.size
 |false=>none
def akb(tt:TT)(t:Nat)(ti:TI):Bool:=match ti.k with
 |  .struct ((_,p,_)::_)=>match tt.get (key p)with
    |some pi=>match pi.k with
     |.ptr e=>Nat.beq e t
     |_=>false
    |none=>false
 |_=>false
def Ax:Option Operand->List Operand
 |some x=>[x]
 |none=>[]
def gI (tt:TT):Op->Option (ax×List eZ×Cls)
 |  .move x=>match lA x with
    |some a=>some (.move,[a],.pure)
    |none=>none
 |  .assign x=>match lA x with
    |some a=>some (.move,[a],.pure)
    |none=>none
 |  .pick c a b=>match jJ [c,a,b]with
    |some l=>some (.pick,l,.pure)
    |none=>none
 |  .alloc t=>match tt.get (key t)with
    |some ti=>match ti.zero with
     |  some z=>match akb tt t ti with
        |true=>some (.allocT t z,[],.aI)
        |false=>some (.alloc z,[],.new)
     |none=>none
    |none=>none
 |  .box _ x=>match lA x with
    |some a=>some (.box,[a],.new)
    |none=>none
 |  .build t ps=>match tt.get (key t),jJ (ps.toList.map (·.2))with
    |some ti,some l=>match ti.k,ti.zero with
     |  .struct fs,some z=>match places tt fs (ps.toList.map (·.1)),Yp tt fs with
        |some p,true=>some (.build z p,l,.pure)
        |_,_=>none
     |  .array _ e,some z=>match tt.get (key e)with
        |some te=>some (.build z (ps.toList.map λx=>(x.1*te.size,te.size)),l,.pure)
        |none=>none
     |_,_=>none
    |_,_=>none
 |  .buildSlice t len ps=>match tt.get (key t),jJ (ps.toList.map (·.2))with
    |some ti,some l=>match ti.k with
     |  .slice e=>match tt.get (key e)with
        | some te=>match te.zero,Nat.ble (len*te.size) 16777216 with
          |some z,true=>some (.buildSlice te.size len z (ps.toList.map (·.1)),l,.new)
          |_,_=>none
        |none=>none
     |_=>none
    |_,_=>none
 |  .load t a=>match tt.get (key t),lA a with
    |some ti,some a=>some (.load (Aw ti),[a],.read)
    |_,_=>none
 |  .store t a x=>match tt.get (key t),jJ [a,x]with
    |some ti,some l=>some (.store ti.size,l,.aI)
    |_,_=>none
 |  .nilCheck x=>match lA x with
    |some a=>some (.nilCheck,[a],.pure)
    |none=>none
 |  .binOp op t x y _=>match Av tt t,jJ [x,y]with
    |some q,some l=>some (.bin op q,l,.pure)
    |none,some l=>match op with
     |.eql=>none
     |.neq=>none
     |_=>some (.bin op .num,l,.pure)
    |_,_=>none
 |  .unOp op _ x=>match lA x with
    |some a=>some (.un op,[a],.pure)
    |none=>none
 |  .convert src dst x=>match tt.get (key src),tt.get (key dst),lA x with
    |some s,some d,some a=>match s.k,d.k with
     |.int _,.int k=>some (.conv (.int k),[a],.pure)
     |.string,.string=>some (.conv .same,[a],.pure)
     |  .string,.slice e=>match tt.get (key e)with
        | some te=>match te.k with
          |.int .u8=>some (.conv .bytes,[a],.new)
          |_=>none
        |none=>none
     |  .slice e,.string=>match tt.get (key e)with
        | some te=>match te.k with
          |.int .u8=>some (.conv .ofBytes,[a],.read)
          |_=>none
        |none=>none
     |  .ptr e,.upt=>match tt.get (key e)with
        | some te=>match Nat.beq te.size 0 with
          |false=>some (.toU,[a],.aI)
          |true=>none
        |none=>none
     |  .upt,.ptr e=>match tt.get (key e)with
        | some te=>match Nat.beq te.size 0 with
          |false=>some (.fromU e te.size,[a],.aI)
          |true=>none
        |none=>none
     |_,_=>none
    |_,_,_=>none
 |  .makeInterface t x=>match tt.get (key t),lA x with
    |some ti,some a=>match ti.k with
     |.iface=>none
     |.other=>none
     |_=>some (.mkIface t,[a],.pure)
    |_,_=>none
 |  .makeFunc fn first captured=>match fn,jJ (first.toList++captured.toList)with
    |.func f,some l=>some (.mkFunc f first.size,l,.pure)
    |_,_=>none
 |  .makeMap t r=>match tt.get (key t)with
    |some ti=>match ti.k,r with
     |.map _ _,none=>some (.mkMap,[],.new)
     |.map _ _,some (.const (.int _ _))=>some (.mkMap,[],.new)
     |_,_=>none
    |none=>none
 |  .makeSlice t l c=>match tt.get (key t),jJ [l,c]with
    |some ti,some xs=>match ti.k with
     |  .slice e=>match tt.get (key e)with
        | some te=>match te.zero with
          |some z=>some (.mkSlice te.size te.bytes z,xs,.new)
          |none=>none
        |none=>none
     |_=>none
    |_,_=>none
 |  .slice t x lo hi mx=>match tt.get (key t),jJ ([x]++Ax lo++Ax hi++Ax mx)with
    |some ti,some xs=>match ti.k with
     |  .string=>match mx with
        |none=>some (.sliceS lo.isSome hi.isSome,xs,.pure)
        |some _=>none
     |  .slice e=>match tt.get (key e)with
        |some te=>some (.sliceL te.size lo.isSome hi.isSome mx.isSome,xs,.pure)
        |none=>none
     |_=>none
    |_,_=>none
 |  .fieldAddr t x f=>match tt.get (key t),lA x with
    |some ti,some a=>match ti.k with
     |  .struct fs=>match nth fs f with
        | some (off,ft,_)=>match tt.get (key ft)with
          |some fi=>match Nat.beq fi.size 0 with
           |false=>some (.fieldA off,[a],.pure)
           |true=>none
          |none=>none
        |none=>none
     |_=>none
    |_,_=>none
 |  .field t x f=>match tt.get (key t),lA x with
    |some ti,some a=>match ti.k with
     |  .struct fs=>match nth fs f with
        | some (off,ft,_)=>match tt.get (key ft)with
          |some fi=>some (.field off (Aw fi),[a],.pure)
          |none=>none
        |none=>none
     |_=>none
    |_,_=>none
 |  .indexAddr t x ix=>match tt.get (key t),jJ [x,ix]with
    |some ti,some l=>match ti.k with
     |  .slice e=>match tt.get (key e)with
        |some te=>some (.idxA te.size none,l,.pure)
        |none=>none
     |  .array n e=>match tt.get (key e)with
        |some te=>some (.idxA te.size (some n),l,.pure)
        |none=>none
     |_=>none
    |_,_=>none
 |  .index t x ix=>match tt.get (key t),jJ [x,ix]with
    |some ti,some l=>match ti.k with
     |.string=>some (.idxS,l,.pure)
     |_=>none
    |_,_=>none
 |  .lookup t x ix ok=>match tt.get (key t),jJ [x,ix]with
    |some ti,some l=>match ti.k with
     |  .map k e=>match tt.get (key k),tt.get (key e)with
        | some tk,some te=>match tk.k,te.zero with
          |.int _,some z=>some (.lookup .i (JD te z) ok,l,.read)
          |.string,some z=>some (.lookup .s (JD te z) ok,l,.read)
          |.bool,some z=>some (.lookup .b (JD te z) ok,l,.read)
          |_,_=>none
        |_,_=>none
     |_=>none
    |_,_=>none
 |.mapUpdate t m k v=>acy tt t m k v
 |.insert t m k v=>acy tt t m k v
 |  .range t x=>match tt.get (key t),lA x with
    |some ti,some a=>match ti.k with
     |.string=>some (.rangeS,[a],.new)
     |_=>none
    |_,_=>none
 |  .next it isString=>match isString,lA it with
    |true,some a=>some (.nextS,[a],.aI)
    |_,_=>none
 |  .extract x i=>match lA x with
    |some a=>some (.extract i,[a],.pure)
    |none=>none
 |  .call c=>match jJ c.args.toList with
    |none=>none
    |some xs =>match c.callee with
     |.value (.func f)=>some (.callF f,xs,.aI)
     |  .value x=>match lA x with
        |some a=>some (.callV,a::xs,.aI)
        |none=>none
     |.invoke _ _=>none
     |  .builtin b=>match b with
        | .len=>match c.argTypes.toList,xs with
          |t ::_,[_]=>match tt.get (key t)with
           | some ti=>match ti.k with
             |.string=>some (.lenB .s,xs,.pure)
             |.slice _=>some (.lenB .l,xs,.pure)
             |.map _ _=>some (.lenB .m,xs,.read)
             |_=>none
           |none=>none
          |_,_=>none
        | .append=>match c.argTypes.toList with
          |t ::t2::_=>match tt.get (key t),tt.get (key t2)with
           | some ti,some M8=>match ti.k,M8.k with
             |_,.int _=>none
             | .slice e,.string=>match tt.get (key e)with
               | some te=>match te.zero,te.k,Nat.beq te.size 1 with
                 |some _,.int .u8,true=>some (.appendT e te.bytes,xs,.aI)
                 |_,_,_=>none
               |none=>none
             | .slice e,_=>match tt.get (key e)with
               | some te=>match te.zero with
                 |some _=>some (.append te.size te.bytes,xs,.aI)
                 |none=>none
               |none=>none
             |_,_=>none
           |_,_=>none
          |_=>none
        | .copy=>match c.argTypes.toList with
          |t ::_=>match tt.get (key t)with
           | some ti=>match ti.k with
             | .slice e=>match tt.get (key e)with
               |some te=>some (.copyB te.size,xs,.aI)
               |none=>none
             |_=>none
           |none=>none
          |_=>none
        | .unsafeSliceData=>match xs with
          |[_]=>some (.sliceData,xs,.pure)
          |_=>none
        | .unsafeString=>match c.argTypes.toList with
          |[t, _]=>match tt.get (key t)with
           | some ti=>match ti.k with
             | .ptr e=>match tt.get (key e)with
               | some te=>match te.k,Nat.beq te.size 1 with
                 |.int .u8,true=>some (.unsafeStr e,xs,.aI)
                 |_,_=>none
               |none=>none
             |_=>none
           |none=>none
          |_=>none
        | .min=>match xs with
          |[_,_]=>some (.minB,xs,.pure)
          |_=>none
        | .max=>match xs with
          |[_,_]=>some (.maxB,xs,.pure)
          |_=>none
        | .clear=>match c.argTypes.toList with
          |t ::_=>match tt.get (key t)with
           | some ti=>match ti.k with
             | .slice e=>match tt.get (key e)with
               | some te=>match te.zero with
                 |some z=>some (.clearS te.size z,xs,.aI)
                 |none=>none
               |none=>none
             |_=>none
           |none=>none
          |_=>none
        |_=>none
 |_=>none
where
 Yp (tt:TT):List (Nat×Nat×Bool)->Bool
  |[]=>true
  |  (_,t,_)::l=>match tt.get (key t)with
     |some _=>Yp tt l
     |none=>false
 places (tt:TT) (fs:List (Nat×Nat×Bool)):List Nat->Option (List (Nat×Nat))
  |[]=>some []
  |  i ::is=>match nth fs i,places tt fs is with
     | some (off,t,_),some l=>match tt.get (key t)with
       |some ti=>some ((off,ti.size)::l)
       |none=>none
     |_,_=>none
 JD (te:TI) (z:List AV):AV:=match te.k.isAgg with
  |true=>.agg z
  |  false=>match z with
     |[v]=>v
     |_=>.agg z
 acy (tt:TT) (t:Nat) (m k v:Operand):Option (ax×List eZ×Cls):=
  match tt.get (key t),jJ [m,k,v]with
  |  some ti,some l=>match ti.k with
     | .map kt _=>match tt.get (key kt)with
       |some tk=>match tk.k with
        |.int _=>some (.mapSet .i,l,.aI)
        |.string=>some (.mapSet .s,l,.aI)
        |.bool=>some (.mapSet .b,l,.aI)
        |_=>none
       |none=>none
     |_=>none
  |_,_=>none
def Tl(ops:Array Oper):Option (Nat×Bool)->Option (Option (Pos×Bool))
 |none=>some none
 |  some (j,b)=>match ops[j]? with
    |some o=>match o.dst with
     |some d=>some (some (key d,b))
     |none=>none
    |none=>none
def YP:List Oper->List Nat->List Nat
 |[],acc=>acc
 |o::os,acc=>YP os (acc++[o.after.toList.foldl (λs e=>match Region.binds .any e with
   |true=>s ||| 2 ^ e.on ||| (nth acc e.on).getD 0
   |false=>s) 0])
def oI(tt:TT)(nt:Nat)(ops:Array Oper):List Oper->List Nat->Option (List bD)
 |[],_=>some []
 |  o::os,bs=>match Tl ops o.guard,oI tt nt ops os bs.tail,ah1 nt o.dst with
    |some g,some l,true=>match gI tt o.op with
     |some (k,xs,cls)=>some ({ dst:=o.dst.map key,k:=k,xs:=xs,guard:=g,cls:=cls,bT:=bs.headD 0 }::l)
     |none=>some ({ dst:=o.dst.map key,k:= .bad,xs:=[],guard:=g,cls:= .aI,bT:=bs.headD 0 }::l)
    |_,_,_=>none
where
 ah1 (nt:Nat):Option Tmp->Bool
  |none=>true
  |some d=>Nat.blt d nt
def bD.looks(o:bD):List Pos:=
 (match o.guard with|some (p,_)=>[p]|none=>[])++o.xs.filterMap λ|.t p=>some p|.c _=>none
def JE(p:Pos):List Pos->Bool
 |[]=>false
 |q::l=>Pos.beq p q||JE p l
def Ob(a b:bD):Bool:=
 (match a.dst with
  |some d=> !JE d b.looks&&(match b.dst with|some d'=> !Pos.beq d d'|none=>true)
  |none=>true)&&
 (match b.dst with
  |some d=> !JE d a.looks
  |none=>true)
def yM:List (Nat×bD)->List (Nat×bD)->List (Nat×bD)
 |[],held=>held
 |  (i,o)::l,held=>match o.cls with
    |.aI=>held.filter (λx=>o.bT.testBit x.1)++(i,o)::yM l (held.filter λx=> !o.bT.testBit x.1)
    |_=>yM l (held++[(i,o)])
def Ft:Nat->List bD->List (Nat×bD)
 |_,[]=>[]
 |i,o::os=>(i,o)::Ft (i+1) os
def JF(m:Nat):Nat->List (Nat×bD)->Bool
 |seen,[]=>Nat.beq seen (2 ^ m - 1)
 |  seen,(i,o)::l=>Nat.blt i m&& !seen.testBit i&&Nat.beq (o.bT &&& seen) o.bT&&(match o.cls with|.aI=>Nat.beq o.bT seen|_=>true)&&
    (l.all λx=>x.2.bT.testBit i||Ob o x.2)&&JF m (seen ||| 2 ^ i) l
def uz (tt:TT)(nt:Nat):Code->Option AC
 |.skip=>some .skip
 |  .region _ ops draw=>match oI tt nt ops ops.toList (YP ops.toList [])with
    |none=>none
    |some l=>match draw with
     |false=>some (.region l)
     |  true=>match JF l.length 0 (yM (Ft 0 l) [])with
        |true=>some (.draw (yM (Ft 0 l) []))
        |false=>none
 |  .seq a b=>match uz tt nt a,uz tt nt b with
    |some a,some b=>some (.seq a b)
    |_,_=>none
 |  .cond c a b=>match lA c,uz tt nt a,uz tt nt b with
    |some c,some a,some b=>some (.cond c a b)
    |_,_,_=>none
 |  .block id a=>match uz tt nt a with
    |some a=>some (.block id a)
    |none=>none
 |  .loop a=>match uz tt nt a with
    |some a=>some (.loop a)
    |none=>none
 |.exit id=>some (.exit id)
 |.ret=>some .ret
 |.refuse _=>some (.region [{ dst:=none,k:= .bad,xs:=[],guard:=none,cls:= .aI,bT:=0 }])
 |_=>none
def mP(tt:TT):List ResultVar->Option (List C0)
 |[]=>some []
 |  .tmp t::rs=>match mP tt rs with
    |some l=>some (.tmp (key t)::l)
    |none=>none
 |  .cell a t::rs=>match tt.get (key t),mP tt rs with
    |some ti,some l=>some (.cell (key a) (Aw ti)::l)
    |_,_=>none
def Yq(tt:TT)(f:Func):Option dB:=match f.body with
 |  some c=>match uz tt f.ntmps c,mP tt f.results.toList,Nat.ble (f.params.size+f.nfree) f.ntmps with
    |some a,some rs,true=>some { code:=a,nparams:=f.params.size+f.nfree,results:=rs }
    |_,_,_=>none
 |none=>none
structure Loc where
 aA:Nat
 base:Nat
 size:Nat
abbrev Cells:=Addr->Option Value
inductive aq(ρ:Pos->Loc)(n:Nat)(C:Cells):AV->Value->Prop where
 |bool (b:Bool):aq ρ n C (.bool b) (.bool b)
 |int (k:IntKind) (i:Int):aq ρ n C (.int k i) (.int k i)
 |str (s:List Nat) (bs:ByteArray) (h:bs.data.toList.map UInt8.toNat=s):aq ρ n C (.str s) (.string bs)
 |fH:aq ρ n C .fH (.pointer none)
 |ptr (b:Pos) (off:Nat) (h:b.toNat<n):aq ρ n C (.ptr b off) (.pointer (some ⟨(ρ b).aA,(ρ b).base+off,none⟩))
 |fp (xs:List (List AV)) (i j es:Nat) (aA base:Nat) (cell:Nat->Nat->Value)
  (hl:∀(i:Nat)(cs:List AV),xs[i]? =some cs->cs.length=es)
  (hc:∀(i j:Nat)(cs:List AV)(v:AV),xs[i]? =some cs->cs[j]? =some v->C ⟨aA,base+i*es+j,none⟩=some (cell i j))
  (hv:∀(i j:Nat)(cs:List AV)(v:AV),xs[i]? =some cs->cs[j]? =some v->aq ρ n C v (cell i j)):
  aq ρ n C (.fp xs i j) (.pointer (some ⟨aA,base+i*es+j,none⟩))
 |av:aq ρ n C .av (.slice none 0 0)
 |slice (b:Pos) (off len:Nat) (cap:Option Nat) (es aS:Nat) (a:Addr) (hl:len<=aS) (hc:∀c,cap=some c->c=aS)
  (ha:aS≠0->b.toNat<n/\a=⟨(ρ b).aA,(ρ b).base+off,none⟩/\(ρ b).base+off+aS*es<=(ρ b).size)
  (hk:cap=none->b.toNat<n):
  aq ρ n C (.slice b off len cap es) (.slice (some a) len aS)
 |fl (xs:List (List AV)) (es aS:Nat) (a:Addr) (cell:Nat->Nat->Value) (hl:xs.length<=aS)
  (hs:xs≠[]->a.spot=none)
  (eF:∀(i:Nat)(cs:List AV),xs[i]? =some cs->cs.length=es)
  (hc:∀(i j:Nat)(cs:List AV)(v:AV),xs[i]? =some cs->cs[j]? =some v->C ⟨a.block,a.off+i*es+j,none⟩=some (cell i j))
  (hv:∀(i j:Nat)(cs:List AV)(v:AV),xs[i]? =some cs->cs[j]? =some v->aq ρ n C v (cell i j)):
  aq ρ n C (.fl xs es) (.slice (some a) xs.length aS)
 |qe:aq ρ n C .qe (.map none)
 |map (b:Pos) (h:b.toNat<n):aq ρ n C (.map b) (.map (some (ρ b).aA))
 |func (f:FuncId) (x y:List AV) (x' y':Array Value) (hx:x.length=x'.size) (hy:y.length=y'.size)
  (iD:∀(i:Nat)(v:AV)(v':Value),x[i]? =some v->x'[i]? =some v'->aq ρ n C v v') (Fu:∀(i:Nat)(v:AV)(v':Value),y[i]? =some v->y'[i]? =some v'->aq ρ n C v v'):
  aq ρ n C (.func f x y) (.func (.func f) x' y')
 |jR:aq ρ n C .jR .nilFunc
 |uT:aq ρ n C .uT .nilIface
 |iface (t:TypeId) (v:AV) (x:Value) (h:aq ρ n C v x):aq ρ n C (.iface t v) (.iface t x)
 |agg (l:List AV) (cs:Array Value) (hl:l.length=cs.size) (h:∀(i:Nat)(v:AV)(v':Value),l[i]? =some v->cs[i]? =some v'->aq ρ n C v v'):
  aq ρ n C (.agg l) (.agg cs)
 |tuple (l:List AV) (cs:Array Value) (hl:l.length=cs.size) (h:∀(i:Nat)(v:AV)(v':Value),l[i]? =some v->cs[i]? =some v'->aq ρ n C v v'):
  aq ρ n C (.tuple l) (.tuple cs)
theorem aq.mono{ρ ρ':Pos->Loc}{n n':Nat}{C:Cells}{v:AV}{x:Value}(h:aq ρ n C v x)
  (aY:∀b:Pos,b.toNat<n->ρ' b=ρ b) (hn:n<=n'):aq ρ' n' C v x:=by
 induction h with
 |bool b=>exact .bool b
 |int k i=>exact .int k i
 |str s bs h=>exact .str s bs h
 |fH=>exact .fH
 |ptr b off h=>rw[<-aY b h];exact .ptr b off (by omega)
 |fp xs i j es aA base cell hl hc _ ih=>exact .fp xs i j es aA base cell hl hc ih
 |av=>exact .av
 |slice b off len cap es aS a hl hc ha hk=>
  refine .slice b off len cap es aS a hl hc (λh0=> ?_) (λh0=>by have:=hk h0;omega);obtain⟨h1,h2,h3⟩:=ha h0;rw[aY b h1];exact⟨by omega,h2,h3⟩
 |fl xs es aS a cell hl hs eF hc _ ih=>exact .fl xs es aS a cell hl hs eF hc ih
 |qe=>exact .qe
 |map b h=>rw[<-aY b h];exact .map b (by omega)
 |func f x y x' y' hx hy _ _ ih1 Wt=>exact .func f x y x' y' hx hy ih1 Wt
 |jR=>exact .jR
 |uT=>exact .uT
 |iface t v x _ ih=>exact .iface t v x ih
 |agg l cs hl _ ih=>exact .agg l cs hl ih
 |tuple l cs hl _ ih=>exact .tuple l cs hl ih
def az(ρ:Pos->Loc)(n:Nat)(C:Cells)(l:List AV)(xs:List Value):Prop:=
 l.length=xs.length/\∀(i:Nat)(v:AV)(x:Value),l[i]? =some v->xs[i]? =some x->aq ρ n C v x
section
variable{ρ ρ':Pos->Loc}{n n':Nat}{C:Cells}
theorem az.mono{l:List AV}{xs:List Value}(h:az ρ n C l xs)(aY:∀b:Pos,b.toNat<n->ρ' b=ρ b)(hn:n<=n'):
 az ρ' n' C l xs:=⟨h.1,λi v x hv hx=>(h.2 i v x hv hx).mono aY hn⟩
theorem az.nil:az ρ n C [] []:=⟨rfl,λ_ _ _ h=>by simp at h⟩
theorem az.cons{v:AV}{x:Value}{l:List AV}{xs:List Value}(h:aq ρ n C v x)(hs:az ρ n C l xs):az ρ n C (v::l) (x::xs):=
 ⟨by simp[hs.1],λi u y hu hy=>by
  cases i with
  |zero=>simp at hu hy;subst hu;subst hy;exact h
  |succ i=>simp at hu hy;exact hs.2 i u y hu hy⟩
theorem az.cons_inv{v:AV}{l:List AV}{xs:List Value}(h:az ρ n C (v::l) xs):∃x xQ,xs=x::xQ/\aq ρ n C v x/\az ρ n C l xQ:=by
 cases xs with
 |nil=>have:=h.1;simp at this
 |cons x xQ=>
  exact⟨x,xQ,rfl,h.2 0 v x rfl rfl,by have:=h.1;simpa using this,λi u y hu hy=>h.2 (i+1) u y (by simpa using hu) (by simpa using hy)⟩
theorem az.mL{xs:List Value}(h:az ρ n C [] xs):xs=[]:=by
 have:=h.1;cases xs with
 |nil=>rfl
 |cons a b=>simp at this
theorem az.append{l m:List AV}{xs ys:List Value}(h:az ρ n C l xs)(k:az ρ n C m ys):az ρ n C (l++m) (xs++ys):=by
 refine⟨by simp[h.1,k.1],λi v x hv hx=> ?_⟩;rcases Zj6 i l.length with hi|hi
 .rw[Zd9 hi]at hv;rw[Zd9 (by rw[<-h.1];exact hi)]at hx;exact h.2 i v x hv hx
 .rw[Zd1 hi]at hv;rw[Zd1 (by rw[<-h.1];exact hi), <-h.1]at hx;exact k.2 _ v x hv hx
theorem az.take{l:List AV}{xs:List Value}(h:az ρ n C l xs)(m:Nat):az ρ n C (l.take m) (xs.take m):=by
 refine⟨by simp[h.1],λi v x hv hx=> ?_⟩;rw[Zb8]at hv hx;split at hv
 .rename_i hi;rw[Za4 hi]at hx;exact h.2 i v x hv hx
 .cases hv
theorem az.drop{l:List AV}{xs:List Value}(h:az ρ n C l xs)(m:Nat):az ρ n C (l.drop m) (xs.drop m):=by refine⟨by simp[h.1],λi v x hv hx=> ?_⟩;rw[Zd7]at hv hx;exact h.2 _ v x hv hx
theorem az.aL{l vs:List AV}{xs ys:List Value}(h:az ρ n C l xs)(k:az ρ n C vs ys)(i:Nat):
  az ρ n C (Go.Ai.aL l i vs) (Go.Ai.aL xs i ys):=by
 unfold Go.Ai.aL;rw[k.1];exact(h.take i).append (k.append (h.drop _))
theorem az.get{l:List AV}{xs:List Value}(h:az ρ n C l xs){i:Nat}{v:AV}(hv:l[i]? =some v):∃x,xs[i]? =some x/\aq ρ n C v x:=by
 have hi:i<xs.length:=by rw[<-h.1];exact(H5.1 hv).1
 exact⟨xs[i],H1 hi,h.2 i v _ hv (H1 hi)⟩
theorem aq.Fv{l:List AV}{cs:Array Value}(h:az ρ n C l cs.toList):aq ρ n C (.agg l) (.agg cs):=
 .agg l cs (by simpa using h.1) λi v x hv hx=>h.2 i v x hv (by simpa using hx)
theorem aq.uV{l:List AV}{cs:Array Value}(h:az ρ n C l cs.toList):aq ρ n C (.tuple l) (.tuple cs):=
 .tuple l cs (by simpa using h.1) λi v x hv hx=>h.2 i v x hv (by simpa using hx)
theorem aq.Fj{l:List AV}{x:Value}(h:aq ρ n C (.agg l) x):∃cs,x= .agg cs/\az ρ n C l cs.toList:=by
 cases h with|agg _ cs hl h=>exact⟨cs,rfl,by simpa using hl,λi v x hv hx=>h i v x hv (by simpa using hx)⟩
theorem aq.Wu{l:List AV}{x:Value}(h:aq ρ n C (.tuple l) x):∃cs,x= .tuple cs/\az ρ n C l cs.toList:=by
 cases h with|tuple _ cs hl h=>exact⟨cs,rfl,by simpa using hl,λi v x hv hx=>h i v x hv (by simpa using hx)⟩
theorem aq.Fw{f:FuncId}{a b:List AV}{x:Value}(h:aq ρ n C (.func f a b) x):
  ∃a' b',x= .func (.func f) a' b'/\az ρ n C a a'.toList/\az ρ n C b b'.toList:=by
 cases h with
 |func _ _ _ a' b' hx hy h1 h2=>exact⟨a',b',rfl,⟨by simpa using hx,λi v x hv hx=>h1 i v x hv (by simpa using hx)⟩,⟨by simpa using hy,λi v x hv hx=>h2 i v x hv (by simpa using hx)⟩⟩
theorem aq.cells{v:AV}{x:Value}(h:aq ρ n C v x):az ρ n C v.cells x.cells.toList:=by
 by_cases hv:∃l,v= .agg l
 .obtain⟨l,rfl⟩:=hv;obtain⟨cs,rfl,hs⟩:=h.Fj;exact hs
 .have h1:v.cells=[v]:=(by cases v<;>first|rfl|exact absurd ⟨_,rfl⟩ hv);have h2:x.cells= #[x]:=(by cases h<;>first|rfl|exact absurd ⟨_,rfl⟩ hv);rw[h1,h2];exact az.cons h az.nil
def mQ(ρ:Pos->Loc)(n:Nat)(C:Cells)(L:Loc)(w:World):AB->Prop
 |.cells cs fz=>∃(c:Array Value) (e:TypeId) (fr:Nat×Nat),w.heap[L.aA]? =some (.cells c e fr)/\c.size=L.size/\L.base+cs.length<=c.size/\
  az ρ n C cs ((c.toList.drop L.base).take cs.length)/\∀i,fz<=i->L.base+i<c.size->¬(fr.1<=L.base+i/\L.base+i<fr.2)
 |.map es clock=>∃(es':Array MapEntry),w.heap[L.aA]? =some (.map es' clock)/\es.length=es'.size/\
  ∀(i:Nat)(e:AV×AV×Nat)(e':MapEntry),es[i]? =some e->es'[i]? =some e'->aq ρ n C e.1 e'.key/\aq ρ n C e.2.1 e'.val/\e.2.2=e'.born
 |.jS s pos=>∃(bs:ByteArray),w.heap[L.aA]? =some (.stringIter bs pos)/\bs.data.toList.map UInt8.toNat=s/\L.base=0
 |.typed t cs=>∃(c:Array Value) (fr:Nat×Nat),w.heap[L.aA]? =some (.cells c t fr)/\c.size=L.size/\L.base+cs.length<=c.size/\
  az ρ n C cs ((c.toList.drop L.base).take cs.length)/\(∀i,0<=i->L.base+i<c.size->¬(fr.1<=L.base+i/\L.base+i<fr.2))/\L.base=0
theorem mQ.mono{L:Loc}{w:World}{x:AB}(h:mQ ρ n C L w x)(aY:∀b:Pos,b.toNat<n->ρ' b=ρ b)(hn:n<=n'):mQ ρ' n' C L w x:=by
 cases x with
 |cells cs fz=>obtain⟨c,e,fr,h1,h2,h3,h4,h5⟩:=h;exact⟨c,e,fr,h1,h2,h3,h4.mono aY hn,h5⟩
 |map es clock=>obtain⟨es',h1,h2,h3⟩:=h;exact⟨es',h1,h2,λi e e' he kX=>let⟨a,b,c⟩:=h3 i e e' he kX;⟨a.mono aY hn,b.mono aY hn,c⟩⟩
 |jS s pos=>exact h
 |typed t cs=>obtain⟨c,fr,h1,h2,h3,h4,h5⟩:=h;exact⟨c,fr,h1,h2,h3,h4.mono aY hn,h5⟩
theorem mQ.of_heap{L:Loc}{w w':World}{x:AB}(h:mQ ρ n C L w x)(hw:w'.heap[L.aA]? =w.heap[L.aA]?):mQ ρ n C L w' x:=by
 cases x with
 |cells cs fz=>obtain⟨c,e,fr,h1,h2⟩:=h;exact⟨c,e,fr,by rw[hw];exact h1,h2⟩
 |map es clock=>obtain⟨es',h1,h2⟩:=h;exact⟨es',by rw[hw];exact h1,h2⟩
 |jS s pos=>obtain⟨bs,h1,h2⟩:=h;exact⟨bs,by rw[hw];exact h1,h2⟩
 |typed t cs=>obtain⟨c,fr,h1,h2⟩:=h;exact⟨c,fr,by rw[hw];exact h1,h2⟩
end
structure bn(ρ:Pos->Loc)(C:Cells)(st:St)(w:World):Prop where
 live:∀b x,st.heap.get b=some x->b.toNat<st.next.toNat/\(ρ b).aA<w.heap.size/\mQ ρ st.next.toNat C (ρ b) w x
 inj:∀b b' x x',st.heap.get b=some x->st.heap.get b'=some x'->(ρ b).aA=(ρ b').aA->b=b'
 ek:∀a v,C a=some v->w.cell? a=some v/\∀b x,st.heap.get b=some x->(ρ b).aA≠a.block
 whole:∀a v,C a=some v->∀o,C ⟨a.block,o,none⟩=none->w.cell? ⟨a.block,o,none⟩=none
structure jW(ρ:Pos->Loc)(st:St)(w:World)(ρ':Pos->Loc)(st':St)(w':World):Prop where
 os:w'.os=w.os
 tape:w'.tape=w.tape
 output:w'.output=w.output
 size:w.heap.size<=w'.heap.size
 block:∀k,k<w.heap.size->(∀b x,st.heap.get b=some x->(ρ b).aA≠k)->w'.heap[k]? =w.heap[k]?
 oU:∀b x,st'.heap.get b=some x->(∃b' x',st.heap.get b'=some x'/\(ρ b').aA=(ρ' b).aA)\/w.heap.size<=(ρ' b).aA
theorem jW.refl(ρ:Pos->Loc)(st:St)(w:World):jW ρ st w ρ st w:=⟨rfl,rfl,rfl,Za3 _,λ_ _ _=>rfl,λb x h=>.inl ⟨b,x,h,rfl⟩⟩
theorem jW.trans{ρ eI mR:Pos->Loc}{st aW kY:St}{w w1 w2:World}(h:jW ρ st w eI aW w1)(k:jW eI aW w1 mR kY w2):jW ρ st w mR kY w2 where
 os:=k.os.trans h.os
 tape:=k.tape.trans h.tape
 output:=k.output.trans h.output
 size:=Zd6 h.size k.size
 block q hq hn:=by
  rw[k.block q (Zc8 hq h.size) λb x hb e=> ?_,h.block q hq hn];rcases h.oU b x hb with⟨b',x',h1,h2⟩|h1
  .exact hn b' x' h1 (h2.trans e)
  .rw[e]at h1;omega
 oU b x hb:=by
  rcases k.oU b x hb with⟨b',x',h1,h2⟩|h1
  . rcases h.oU b' x' h1 with⟨b'',x'',h3,h4⟩|h3
    .exact .inl ⟨b'',x'',h3,h4.trans h2⟩
    .right;rw[<-h2];exact h3
  .exact .inr (Zd6 h.size h1)
def fS(ρ:Pos->Loc)(n:Nat)(C:Cells)(fr:Fr)(tmps:Array Value):Prop:=
 ∀p v,fr.get p=some v->∃x,tmps[p.toNat - 1]? =some x/\aq ρ n C v x
theorem Pos.toNat_pos(p:Pos):0<p.toNat:=by
 induction p with
 |h=>simp[Pos.toNat]
 |o p ih=>simp[Pos.toNat];exact ih
 |i p ih=>simp[Pos.toNat]
theorem Pos.toNat_inj:∀{p q:Pos},p.toNat=q.toNat->p=q
 |.h,.h,_=>rfl
 |.h,.o q,hq=>by have:=q.toNat_pos;simp[Pos.toNat]at hq;omega
 |.h,.i q,hq=>by have:=q.toNat_pos;simp[Pos.toNat]at hq;omega
 |.o p,.h,hq=>by have:=p.toNat_pos;simp[Pos.toNat]at hq;omega
 |.o p,.o q,hq=>by simp[Pos.toNat]at hq;rw[Pos.toNat_inj (p:=p) (q:=q) (by omega)]
 |.o p,.i q,hq=>by simp[Pos.toNat]at hq;omega
 |.i p,.h,hq=>by have:=p.toNat_pos;simp[Pos.toNat]at hq;omega
 |.i p,.o q,hq=>by simp[Pos.toNat]at hq;omega
 |.i p,.i q,hq=>by simp[Pos.toNat]at hq;rw[Pos.toNat_inj (p:=p) (q:=q) (by omega)]
theorem Pos.aB(p:Pos):p.succ.toNat=p.toNat+1:=by
 induction p with
 |h=>rfl
 |o p ih=>simp[Pos.succ,Pos.toNat]
 |i p ih=>simp[Pos.succ,Pos.toNat,ih];omega
theorem Pos.KZ:∀(f m:Nat),0<m->m<2 ^ (f+1)->(Pos.YO f m).toNat=m
 |0,m,hp,hl=>by
  simp at hl;have:m=1:=by omega
  subst this;rfl
 |f +   1,m,hp,hl=>by
  unfold Pos.YO;split
  . (rename_i hb;have:=Za1 hb;have:m=1:=by omega);subst this;rfl
  . rename_i hb;have h1:1<m:=by
        rcases Zj6 1 m with hh|hh
        .exact hh
        .rw[Nat.ble_eq_true_of_le hh]at hb;cases hb
    have h2:m / 2<2 ^ (f+1):=(by have:2 ^ (f+1+1)=2*2 ^ (f+1):=(by rw[Zo9];omega);omega);split
    .   rename_i he;have:=H4 he;simp only[Pos.toNat];rw[Pos.KZ f _ (by omega) h2];omega
    .   rename_i he;have:=Zc0 he;simp only[Pos.toNat];rw[Pos.KZ f _ (by omega) h2];omega
theorem fD(n:Nat):(key n).toNat=n+1:=Pos.KZ _ (n+1) (by omega) Nat.lt_log2_self
theorem T.ej{α:Type}(p:Pos):(T.e:T α).get p=none:=by cases p<;>rfl
theorem T.eB{α:Type}(x:Option α)(p:Pos)(t:T α):(T.put x p t).get p=x:=by
 induction p generalizing t with
 |h=>cases t<;>rfl
 |o p ih=>cases t<;>exact ih _
 |i p ih=>cases t<;>exact ih _
theorem T.bH{α:Type}(x:Option α){p q:Pos}(h:p≠q)(t:T α):(T.put x p t).get q=t.get q:=by
 induction p generalizing q t with
 |h=>cases q with
  |h=>exact absurd rfl h
  |o q=>cases t<;>simp[T.put,T.get,T.ej]
  |i q=>cases t<;>simp[T.put,T.get,T.ej]
 |o p ih=>cases q with
  |h=>cases t<;>simp[T.put,T.get]
  | o q=>cases t with
    |e=>simp only[T.put,T.get];rw[ih (λe=>h (by rw[e])),T.ej]
    |n l v r=>simp only[T.put,T.get];exact ih (λe=>h (by rw[e])) l
  |i q=>cases t<;>simp[T.put,T.get,T.ej]
 |i p ih=>cases q with
  |h=>cases t<;>simp[T.put,T.get]
  |o q=>cases t<;>simp[T.put,T.get,T.ej]
  | i q=>cases t with
    |e=>simp only[T.put,T.get];rw[ih (λe=>h (by rw[e])),T.ej]
    |n l v r=>simp only[T.put,T.get];exact ih (λe=>h (by rw[e])) r
theorem Pos.beq_eq:∀{p q:Pos},p.beq q=true↔p=q
 |.h,.h=>by simp[Pos.beq]
 |.h,.o q=>by simp[Pos.beq]
 |.h,.i q=>by simp[Pos.beq]
 |.o p,.h=>by simp[Pos.beq]
 |.o p,.o q=>by simp only[Pos.beq,Pos.o.injEq];exact Pos.beq_eq
 |.o p,.i q=>by simp[Pos.beq]
 |.i p,.h=>by simp[Pos.beq]
 |.i p,.o q=>by simp[Pos.beq]
 |.i p,.i q=>by simp only[Pos.beq,Pos.i.injEq];exact Pos.beq_eq
end
noncomputable section
section
variable{R:Type}
def mS{α:Type}(p:Pos):T α->Option α:=
 Pos.rec (motive:=λ_=>T α->Option α)
    (λt=>T.rec (motive:=λ_=>Option α) none (λ_ v _ _ _=>v) t)
    (λ_ ih t=>T.rec (motive:=λ_=>Option α) none (λl _ _ _ _=>ih l) t)
    (λ_ ih t=>T.rec (motive:=λ_=>Option α) none (λ_ _ r _ _=>ih r) t) p
def oV{α:Type}(x:Option α)(p:Pos):T α->(T α->R)->R:=
 Pos.rec (motive:=λ_=>T α->(T α->R)->R)
    (λt k=>T.rec (motive:=λ_=>R) (k (.n .e x .e)) (λl _ r _ _=>k (.n l x r)) t)
    (λ_ ih t k=>T.rec (motive:=λ_=>R) (ih .e λl=>k (.n l none .e)) (λl v r _ _=>ih l λl=>k (.n l v r)) t)
    (λ_ ih t k=>T.rec (motive:=λ_=>R) (ih .e λr=>k (.n .e none r)) (λl v r _ _=>ih r λr=>k (.n l v r)) t) p
def oW(n:Nat)(k:Nat->R):R:=Nat.rec (motive:=λ_=>R) (k 0) (λm _=>k (Nat.succ m)) n
def Se(n:Int)(k:Int->R):R:=match n with
 |.ofNat m=>oW m λm=>k (.ofNat m)
 |.negSucc m=>oW m λm=>k (.negSucc m)
def Wv(b:Bool)(k:Bool->R):R:=match b with
 |true=>k true
 |false=>k false
def Ay{α:Type}(l:List α):(List α->R)->R:=
 List.rec (motive:=λ_=>(List α->R)->R) (λk=>k []) (λa _ ih k=>ih λt=>k (a::t)) l
def K3(p:Pos):(Pos->R)->R:=
 Pos.rec (motive:=λ_=>(Pos->R)->R) (λk=>k .h) (λ_ ih k=>ih λp=>k (.o p)) (λ_ ih k=>ih λp=>k (.i p)) p
def YQ(o:Option Nat)(k:Option Nat->R):R:=match o with
 |none=>k none
 |some n=>oW n λn=>k (some n)
def Oc(v:AV)(k:AV->R):R:=match v with
 |.bool b=>Wv b λb=>k (.bool b)
 |.int i n=>Se n λn=>k (.int i n)
 |.str s=>Ay s λs=>k (.str s)
 |.ptr b o=>K3 b λb=>oW o λo=>k (.ptr b o)
 |.slice b o l c es=>K3 b λb=>oW o λo=>oW l λl=>YQ c λc=>k (.slice b o l c es)
 |.map b=>K3 b λb=>k (.map b)
 |.func f x y=>Ay x λx=>Ay y λy=>k (.func f x y)
 |.agg l=>Ay l λl=>k (.agg l)
 |v=>k v
def Qt(l:List AV):(List AV->R)->R:=
 List.rec (motive:=λ_=>(List AV->R)->R) (λk=>k []) (λa _ ih k=>Oc a λa=>ih λt=>k (a::t)) l
def s9(v:AV)(k:AV->R):R:=match v with
 |.tuple l=>Qt l λl=>k (.tuple l)
 |v=>Oc v k
def Fk(x:AB)(k:AB->R):R:=match x with
 |.cells cs fz=>Ay cs λcs=>oW fz λfz=>k (.cells cs fz)
 |.map es c=>Ay es λes=>oW c λc=>k (.map es c)
 |.jS s p=>oW p λp=>k (.jS s p)
 |.typed t cs=>Ay cs λcs=>k (.typed t cs)
def Tm(p:Pos):(Pos->R)->R:=
 Pos.rec (motive:=λ_=>(Pos->R)->R) (λk=>k (.o .h)) (λq _ k=>k (.i q)) (λ_ ih k=>ih λp=>k (.o p)) p
variable(z:R)
def Ww(fr:Fr)(x:eZ)(k:AV->R):R:=match x with
 |  .t p=>match mS p fr with
    |some v=>k v
    |none=>z
 |.c v=>k v
def Sf(fr:Fr)(xs:List eZ):(List AV->R)->R:=
 List.rec (motive:=λ_=>(List AV->R)->R) (λk=>k []) (λx _ ih k=>Ww z fr x λv=>ih λvs=>k (v::vs)) xs
def Fl(fr:Fr)(g:Option (Pos×Bool))(yes no:R):R:=match g with
 |none=>yes
 |  some (p,want)=>match mS p fr with
    |some (.bool b)=>match b==want with
     |true=>yes
     |false=>no
    |some (.tuple _)=>no
    |_=>z
def kV(fr:Fr)(d:Option Pos)(v:AV)(k:Fr->R):R:=match d with
 |some p=>oV (some v) p fr k
 |none=>k fr
def delK(o:Option Pos)(h:T AB)(k:T AB->R):R:=match o with
 |some b=>oV none b h k
 |none=>k h
def Sg(o:Option (Pos×AB))(h:T AB)(k:T AB->R):R:=match o with
 |some (b,x)=>Fk x λx=>oV (some x) b h k
 |none=>k h
abbrev jt(R:Type):=FuncId->List AV->St->(AV->St->R)->R
def afS(st:St)(del:Option Pos)(set:Option (Pos×AB))(new:Option AB)(k:St->R):R:=
 delK del st.heap λh=>Sg set h λh=>match new with
    |some x=>Fk x λx=>oV (some x) st.next h λh=>Tm st.next λn=>k { heap:=h,next:=n }
    |none=>k { heap:=h,next:=st.next }
def Qu(call:jt R)(op:ax)(xs:List AV)(st:St)(k:AV->St->R):R:=
 match op.run (λb=>mS b st.heap) st.next xs with
 |some (.val v)=>s9 v λv=>k v st
 |some (.aI v del set new)=>s9 v λv=>afS st del set new λst=>k v st
 |some (.call f args)=>Ay args λargs=>call f args st k
 |none=>z
def Va(call:jt R)(ops:List bD):Fr->St->(Fr->St->R)->R:=
 List.rec (motive:=λ_=>Fr->St->(Fr->St->R)->R) (λfr st k=>k fr st)
    (λo _ ih fr st k=>Fl z fr o.guard
     (Sf z fr o.xs λxs=>Qu z call o.k xs st λv st=>kV fr o.dst v λfr=>ih fr st k)
     (kV fr o.dst .undef λfr=>ih fr st k)) ops
def K4 (bT:Nat)(h:T AB)(recs:List Rec):(T AB->R)->R:=
 List.rec (motive:=λ_=>(T AB->R)->R) (λk=>k h)
    (fun r _ ih k=>match r.c with
     |  .new id aA=>match bT.testBit r.idx with
        |true=>ih λh'=>oV (some aA) id h' k
        |false=>ih k
     |.aI _ _=>k h
     |.pure=>ih k) recs
def YS(h:T AB)(l:List (Pos×AB)):(T AB->R)->R:=
 List.rec (motive:=λ_=>(T AB->R)->R) (λk=>k h) (λx _ ih k=>ih λh'=>oV (some x.2) x.1 h' k) l
def YT(op:ax)(xs:List AV)(v:AV)(h:T AB):Bool:=
 match op.run (λb=>mS b h) .h xs with
 |some (.val u)=>dN u v
 |_=>false
def qZ(bT:Nat)(op:ax)(xs:List AV)(v:AV):List (Pos×AB)->List Rec->Bool
 |_,[]=>true
 |  up,r::rs=>match r.c with
    | .new id aA=>match bT.testBit r.idx with
      |true=>qZ bT op xs v ((id,aA)::up) rs
      |false=>qZ bT op xs v up rs
    | .aI base _=>match bT.testBit r.idx with
      |true=>true
      |false=>(K4 bT base rs λh=>YS h up λh=>YT op xs v h)&&qZ bT op xs v up rs
    |.pure=>qZ bT op xs v up rs
def K5 (call:jt R)(ops:List (Nat×bD)):List Rec->T AB->Fr->St->(Fr->St->R)->R:=
 List.rec ( motive:=λ_=>List Rec->T AB->Fr->St->(Fr->St->R)->R)
    (λ_ _ fr st k=>k fr st)
    (fun jo _ ih recs base fr st k=>Fl z fr jo.2.guard
     (Sf  z fr jo.2.xs λxs=>match jo.2.cls with
        | .new=>match jo.2.k.run (λ_=>none) st.next xs with
          |some (.aI v none none (some aA))=>s9 v λv=>Fk aA λaA=>kV fr jo.2.dst v λfr=>Tm st.next λn=>oV (some aA) st.next st.heap λh=>
              ih ({ idx:=jo.1,o:=jo.2,v:=v,c:= .new st.next aA,nx:=n }::recs) base fr { heap:=h,next:=n } k
          |_=>z
        |.aI=>Qu z call jo.2.k xs st λv st'=>kV fr jo.2.dst v λfr=>ih ({ idx:=jo.1,o:=jo.2,v:=v,c:= .aI base st'.heap,nx:=st'.next }::recs) st'.heap fr st' k
        | _ =>match jo.2.k.run (λ_=>none) .h xs with
          |some (.val v)=>s9 v λv=>kV fr jo.2.dst v λfr=>ih ({ idx:=jo.1,o:=jo.2,v:=v,c:= .pure,nx:=st.next }::recs) base fr st k
          | _ =>K4 jo.2.bT base recs λh=>match jo.2.k.run (λb=>mS b h) .h xs with
            | some (.val v)=>s9 v λv=>match qZ jo.2.bT jo.2.k xs v [] recs with
              |true=>kV fr jo.2.dst v λfr=>ih ({ idx:=jo.1,o:=jo.2,v:=v,c:= .pure,nx:=st.next }::recs) base fr st k
              |false=>z
            |_=>z)
     (kV fr jo.2.dst .undef λfr=>ih ({ idx:=jo.1,o:=jo.2,v:= .undef,c:= .pure,nx:=st.next }::recs) base fr st k)) ops
abbrev Yr(R:Type):=AC->Fr->St->(Fr->St->R)->(Nat->Fr->St->R)->(Fr->St->R)->R
def q7(call:jt R)(ih:Yr R):Yr R
 |.skip,fr,st,kn,_,_=>kn fr st
 |.region ops,fr,st,kn,_,_=>Va z call ops fr st kn
 |.draw ops,fr,st,kn,_,_=>K5 z call ops [] st.heap fr st kn
 |.seq a b,fr,st,kn,kx,kr=>ih a fr st (λfr st=>ih b fr st kn kx kr) kx kr
 |  .cond x a b,fr,st,kn,kx,kr=>Ww z fr x λv=>match v with
    |.bool true=>ih a fr st kn kx kr
    |.bool false=>ih b fr st kn kx kr
    |_=>z
 | .block id a,fr,st,kn,kx,kr=>ih a fr st kn (λuy fr st=>match Nat.beq uy id with
     |true=>kn fr st
     |false=>kx uy fr st) kr
 |.loop a,fr,st,kn,kx,kr=>ih a fr st (λfr st=>ih (.loop a) fr st kn kx kr) kx kr
 |.exit id,fr,st,_,kx,_=>kx id fr st
 |.ret,fr,st,_,_,kr=>kr fr st
def Tn(call:jt R)(n:Nat):Yr R:=
 Nat.rec (motive:=λ_=>Yr R) (λ_ _ _ _ _ _=>z) (λ_ ih=>q7 z call ih) n
def Ct(vs:List AV):Nat->Fr->(Fr->R)->R:=
 List.rec (motive:=λ_=>Nat->Fr->(Fr->R)->R) (λ_ fr k=>k fr)
    (λv _ ih i fr k=>oV (some v) (key i) fr λfr=>ih (i+1) fr k) vs
def Cu(st:St)(fr:Fr)(rs:List C0)(k:AV->R):R:=
 match dA (λb=>mS b st.heap) fr rs with
 |  some vs=>Qt vs λvs=>match vs with
    |[v]=>k v
    |vs=>k (.tuple vs)
 |none=>z
def Hw (O:ff  )(G:T dB)(m:Nat)(d:Nat):jt R:=
 Nat.rec (motive:=λ_=>jt R) (λ_ _ _ _=>z)
    (fun _ ih f args st k=>match O f with
     |  some s=>match s args st with
        |some (v,st')=>s9 v λv=>k v st'
        |none=>z
     |  none=>match mS (key f) G with
        |some F=>match Nat.beq args.length F.nparams with
         |true=>Ct args 0 .e λfr=>Tn z ih m F.code fr st
              (λfr st=>Cu z st fr F.results λv=>k v st)
              (λ_ _ _=>z)
              (λfr st=>Cu z st fr F.results λv=>k v st)
         |false=>z
        |none=>z) d
end
end
end Go.Ai
