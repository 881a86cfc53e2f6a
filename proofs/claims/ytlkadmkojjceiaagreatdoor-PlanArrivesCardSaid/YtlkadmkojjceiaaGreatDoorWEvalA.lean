/- An evaluator over plain values, its compiler and its relation to worlds. -/
import Derived.Orders
import Derived.Below
set_option linter.all false
def H0:=@Option.some.injEq
def H4:=@List.getElem?_eq_getElem
def H5:=@decide_eq_true
def Za0:=@List.getElem?_eq_some_iff
def Za1:=@decide_eq_false
def Za2:=@Nat.eq_of_beq_eq_true
def Za3:=@if_neg
def Za4:=@Nat.le_of_ble_eq_true
def Za5:=@Nat.le_refl
def Za6:=@if_pos
def Za7:=@List.mem_cons_of_mem
def Za8:=@Bool.and_eq_true
def Za9:=@List.length_map
def Zb0:=@List.mem_cons
def Zb1:=@List.eq_nil_of_length_eq_zero
def Zb2:=@List.getElem?_cons_zero
def Zb3:=@Prod.mk.injEq
def Zb4:=@List.getElem?_eq_none
def Zb5:=@List.getD_eq_getElem?_getD
def Zb6:=@List.mem_of_getElem?
def Zb7:=@Nat.ne_of_beq_eq_false
def Zb8:=@List.getElem?_map
def Zb9:=@List.getElem_mem
def Zc0:=@List.getElem?_take
def Zc1:=@List.getElem?_append_left
def Zc2:=@List.getElem?_append_right
def Zc3:=@List.mem_cons_self
def Zc4:=@Nat.zero_add
def Zc5:=@List.drop_eq_getElem_cons
def Zc6:=@List.getElem?_drop
def Zc7:=@Nat.lt_of_lt_of_le
def Zc8:=@Nat.le_trans
def Zc9:=@List.take_succ_eq_append_getElem
def Zd0:=@Array.getElem?_eq_some_iff
def Zd1:=@List.all_eq_true
def Zd2:=@List.length_append
def Zd3:=@List.mem_singleton
def Zd4:=@Option.map_eq_some_iff
def Zd5:=@List.map_cons
def Zd6:=@List.mem_append
def Zd7:=@decide_eq_true_eq
def Zd8:=@Option.bind_some
def Zd9:=@List.mem_iff_getElem?
def Ze0:=@List.drop_zero
def Ze1:=@Array.getElem?_setIfInBounds_ne
def Ze2:=@List.length_cons
def Ze3:=@List.map_append
def Ze4:=@List.getElem?_cons_succ
def Ze5:=@List.mem_map
def Ze6:=@List.not_mem_nil
def Ze7:=@Option.map_some
def Ze8:=@List.cons_append
def Ze9:=@Nat.add_sub_cancel
def Zf0:=@Bool.false_eq_true
def Zf1:=@Array.getElem?_eq_getElem
def Zf2:=@Bool.true_and
def Zf3:=@List.append_nil
def Zf4:=@Array.length_toList
def Zf5:=@Option.some.inj
def Zf6:=@List.flatten_cons
def Zf7:=@if_false
def Zf8:=@List.cons.injEq
def Zf9:=@Nat.mul_le_mul_right
def Zg0:=@List.drop_append_of_le_length
def Zg1:=@List.map_map
def Zg2:=@List.take_of_length_le
def Zg3:=@if_true
def Zg4:=@Array.getElem?_toList
def Zg5:=@of_decide_eq_true
def Zg6:=@Nat.add_zero
def Zg7:=@List.mem_append_left
def Zg8:=@Array.getElem?_append_left
def Zg9:=@List.nil_append
def Zh0:=@Bool.or_eq_true
def Zh1:=@Nat.le_max_right
def Zh2:=@Nat.succ_mul
def Zh3:=@Nat.zero_le
def Zh4:=@Bool.not_eq_true'
def Zh5:=@Nat.add_assoc
def Zh6:=@List.length_take
def Zh7:=@Array.getD_eq_getD_getElem?
def Zh8:=@Nat.lt_or_ge
def Zh9:=@List.map_nil
def Zi0:=@List.ext_getElem?
def Zi1:=@Nat.mod_lt
def Zi2:=@Nat.le_max_left
def Zi3:=@List.mem_append_right
def Zi4:=@List.take_length
def Zi5:=@Nat.add_mul
def Zi6:=@List.append_assoc
def Zi7:=@List.range_succ
def Zi8:=@List.map_congr_left
def Zi9:=@or_false
def Zj0:=@List.take_append_drop
def Zj1:=@Classical.byContradiction
def Zj2:=@Function.comp_def
def Zj3:=@Nat.mul_one
def Zj4:=@Bool.and_self
def Zj5:=@Option.getD_some
def Zj6:=@Nat.mod_eq_of_lt
def Zj7:=@List.mem_range
def Zj8:=@Int.natCast_emod
def Zj9:=@List.getElem?_set_self
def Zk0:=@Nat.min_eq_left
def Zk1:=@Bool.eq_iff_iff
def Zk2:=@List.take_left'
def Zk3:=@Array.getElem?_setIfInBounds
def Zk4:=@and_true
def Zk5:=@Array.mem_of_getElem?
def Zk6:=@Array.mem_toList_iff
def Zk7:=@List.range_eq_range'
def Zk8:=@List.mem_iff_getElem
def Zk9:=@List.getElem?_set_ne
def Zl0:=@decide_true
def Zl1:=@Bool.or_eq_false_iff
def Zl2:=@List.getElem_map
def Zl3:=@List.drop_length
def Zl4:=@List.getElem?_range
def Zl5:=@Bool.and_true
def Zl6:=@List.mem_filter
def Zl7:=@List.length_set
def Zl8:=@of_decide_eq_false
def Zl9:=@Array.ext'
def Zm0:=@List.mem_filterMap
def Zm1:=@List.size_toArray
def Zm2:=@List.getElem_cons_succ
def Zm3:=@List.getElem_take
def Zm4:=@List.flatMap_cons
def Zm5:=@Array.getElem?_modify
def Zm6:=@UInt8.lt_iff_toNat_lt
def Zm7:=@Nat.le_add_right
def Zm8:=@Array.eq_empty_of_size_eq_zero
def Zm9:=@List.range'_succ
def Zn0:=@Nat.lt_irrefl
def Zn1:=@List.map_take
def Zn2:=@List.all_cons
def Zn3:=@Bool.not_true
def Zn4:=@Array.toList_extract
def Zn5:=@Nat.one_mul
def Zn6:=@List.mem_of_mem_take
def Zn7:=@List.length_nil
def Zn8:=@List.nodup_cons
def Zn9:=@beq_eq_false_iff_ne
def Zo0:=@Nat.sub_self
def Zo1:=@Nat.sub_zero
def Zo2:=@Array.toList_setIfInBounds
def Zo3:=@Nat.mod_eq_sub_mod
def Zo4:=@Nat.eq_zero_or_pos
def Zo5:=@Bool.not_false
def Zo6:=@List.take_take
def Zo7:=@List.drop_drop
def Zo8:=@Nat.blt_eq
def Zo9:=@Int.fdiv_eq_ediv_of_nonneg
def Zp0:=@Int.emod_lt_of_pos
def Zp1:=@List.take_add_one
def Zp2:=@List.length_range
def Zp3:=@Array.toList_map
def Zp4:=@List.isEmpty_map
def Zp5:=@Nat.zero_mul
def Zp6:=@List.map_set
def Zp7:=@UInt8.toNat_inj
def Zp8:=@List.foldl_cons
def Zp9:=@Int.ediv_nonneg
def Zq0:=@Int.emod_nonneg
namespace Go.Ai
section
inductive Pos where
 |h
 |o (p:Pos)
 |i (p:Pos)
 deriving DecidableEq,Inhabited
def Pos.toNat:Pos->Nat
 |.h=>1
 |.o p=>2*p.toNat
 |.i p=>2*p.toNat+1
def Pos.succ:Pos->Pos
 |.h=>.o .h
 |.o p=>.i p
 |.i p=>.o p.succ
def Pos.Sx:Nat->Nat->Pos
 |0,_=>.h
 |  f+1,n=>match Nat.ble n 1 with
    |true=>.h
    |false=>match Nat.beq (n % 2) 0 with
     |true=>.o (Pos.Sx f (n / 2))
     |false=>.i (Pos.Sx f (n / 2))
def key(n:Nat):Pos:=Pos.Sx (n+1).log2 (n+1)
def Pos.beq:Pos->Pos->Bool
 |.h,.h=>true
 |.o a,.o b=>a.beq b
 |.i a,.i b=>a.beq b
 |_,_=>false
inductive T(α:Type) where
 |e
 |n (l:T α) (v:Option α) (r:T α)
 deriving Inhabited
def T.get{α:Type}:Pos->T α->Option α
 |_,.e=>none
 |.h,.n _ v _=>v
 |.o p,.n l _ _=>l.get p
 |.i p,.n _ _ r=>r.get p
def T.put{α:Type}(x:Option α):Pos->T α->T α
 |.h,.e=>.n .e x .e
 |.h,.n l _ r=>.n l x r
 |.o p,.e=>.n (T.put x p .e) none .e
 |.o p,.n l v r=>.n (T.put x p l) v r
 |.i p,.e=>.n .e none (T.put x p .e)
 |.i p,.n l v r=>.n l v (T.put x p r)
inductive AV where
 |bool (b:Bool)
 |int (k:IntKind) (n:Int)
 |str (s:List Nat)
 |iw
 |ptr (b:Pos) (off:Nat)
 |fp (xs:List (List AV)) (i j:Nat)
 |ah
 |slice (b:Pos) (off len:Nat) (cap:Option Nat) (es:Nat)
 |fl (xs:List (List AV)) (es:Nat)
 |nX
 |map (b:Pos)
 |func (f:FuncId) (first captured:List AV)
 |jk
 |uG
 |iface (t:TypeId) (v:AV)
 |agg (l:List AV)
 |tuple (l:List AV)
 deriving Inhabited
inductive AB where
 |cells (cs:List AV) (fz:Nat)
 |map (es:List (AV×AV×Nat)) (clock:Nat)
 |jq (s:List Nat) (pos:Nat)
 |typed (t:TypeId) (cs:List AV)
 deriving Inhabited
def AV.cells:AV->List AV
 |.agg l=>l
 |v=>[v]
def AV.undef:AV:= .tuple []
def AV.one:AV->Bool
 |.agg _=>false
 |.tuple _=>false
 |_=>true
def aS:List AV->Bool
 |[]=>true
 |  v::l=>match v.one with
    |true=>aS l
    |false=>false
inductive b6 where
 |val (v:AV)
 |aE (v:AV) (del:Option Pos) (set:Option (Pos×AB)) (new:Option AB)
 |call (f:FuncId) (args:List AV)
 deriving Inhabited
def nth{α:Type}:List α->Nat->Option α
 |[],_=>none
 |a::_,0=>some a
 |_::l,n+1=>nth l n
def cut{α:Type}(l:List α)(i n:Nat):Option (List α):=
 match Nat.ble (i+n) l.length with
 |true=>some ((l.drop i).take n)
 |false=>none
def aH{α:Type}(l:List α)(i:Nat)(vs:List α):List α:=l.take i++(vs++l.drop (i+vs.length))
def iF:List Nat->List Nat->Bool
 |[],[]=>true
 |  a::x,b::y=>match Nat.beq a b with
    |true=>iF x y
    |false=>false
 |_,_=>false
def az:List Nat->List Nat->Bool
 |_,[]=>false
 |[],_::_=>true
 |  a::x,b::y=>match Nat.blt a b with
    |true=>true
    |false=>match Nat.beq a b with
     |true=>az x y
     |false=>false
inductive PK where
 |b
 |i
 |s
 deriving Inhabited
inductive ey where
 |num
 |bool
 |ptr
 |slice
 |map
 |func
 |iface
 |struct (fs:List (Nat×PK))
 deriving Inhabited
inductive acX where
 |int (k:IntKind)
 |same
 |bytes
 |ofBytes
 deriving Inhabited
inductive LK where
 |s
 |l
 |m
 deriving Inhabited
inductive ay where
 |move
 |pick
 |alloc (zero:List AV)
 |box
 |build (zero:List AV) (places:List (Nat×Nat))
 |buildSlice (es len:Nat) (zero:List AV) (places:List Nat)
 |load (n:Option Nat)
 |store (n:Nat)
 |nilCheck
 |bin (op:BinOp) (q:ey)
 |un (op:UnOp)
 |conv (k:acX)
 |mkIface (t:TypeId)
 |mkFunc (f:FuncId) (Ij:Nat)
 |mkMap
 |lookup (pk:PK) (zero:AV) (ok:Bool)
 |mapSet (pk:PK)
 |mkSlice (es bytes:Nat) (zero:List AV)
 |sliceS (lo hi:Bool)
 |sliceL (es:Nat) (lo hi mx:Bool)
 |fieldA (off:Nat)
 |idxA (es:Nat) (arr:Option Nat)
 |field (off:Nat) (n:Option Nat)
 |idxS
 |extract (i:Nat)
 |callF (f:FuncId)
 |callV
 |lenB (k:LK)
 |capB
 |append (es bytes:Nat)
 |copyB (es:Nat)
 |minB
 |maxB
 |clearS (es:Nat) (zero:List AV)
 |rangeS
 |nextS
 |allocT (t:TypeId) (zero:List AV)
 |appendT (e:TypeId) (bytes:Nat)
 |toU
 |fromU (u:TypeId) (n:Nat)
 |sliceData
 |unsafeStr (e:TypeId)
 |bad
 deriving Inhabited
def Qk(k:IntKind):Int:=match k with
 |.i8=> -128|.i16=> -32768|.i32=> -2147483648|.i64=> -9223372036854775808|_=>0
def Ql(k:IntKind):Int:=match k with
 |.i8=>127|.i16=>32767|.i32=>2147483647|.i64=>9223372036854775807
 |.u8=>255|.u16=>65535|.u32=>4294967295|.u64=>18446744073709551615
def aq(k:IntKind)(n:Int):Int:=
 match Int.decLe (Qk k) n with
 |  .isTrue _=>match Int.decLe n (Ql k)with
    |.isTrue _=>n
    |.isFalse _=>k.wrap n
 |.isFalse _=>k.wrap n
def Bh(a b:IntKind):Bool:=match decEq a b with
 |.isTrue _=>true
 |.isFalse _=>false
def uB(a b:Int):Bool:=match Int.decEq a b with
 |.isTrue _=>true
 |.isFalse _=>false
def yU(a b:Int):Bool:=match Int.decLt a b with
 |.isTrue _=>true
 |.isFalse _=>false
def R3(a b:Int):Bool:=match Int.decLe a b with
 |.isTrue _=>true
 |.isFalse _=>false
def yo:PK->AV->AV->Option Bool
 |.b,.bool a,.bool b=>some (a==b)
 |  .i,.int k a,.int k' b=>match Bh k k' with
    |true=>some (uB a b)
    |false=>none
 |.s,.str a,.str b=>some (iF a b)
 |_,_,_=>none
def eqFields(xs ys:List AV):List (Nat×PK)->Option Bool
 |[]=>some true
 |  (o,pk)::fs=>match nth xs o,nth ys o with
    | some a,some b=>match yo pk a b with
      |some true=>eqFields xs ys fs
      |some false=>some false
      |none=>none
    |_,_=>none
def LJ:ey->AV->AV->Option Bool
 |.bool,.bool a,.bool b=>some (a==b)
 |.ptr,.iw,.iw=>some true
 |.ptr,.iw,.ptr _ _=>some false
 |.ptr,.ptr _ _,.iw=>some false
 |.ptr,.iw,.fp _ _ _=>some false
 |.ptr,.fp _ _ _,.iw=>some false
 |  .ptr,.ptr b o,.ptr b' o'=>match Pos.beq b b',Nat.beq o o' with
    |true,true=>some true
    |_,_=>none
 |.slice,.ah,.ah=>some true
 |.slice,.ah,.slice _ _ _ _ _=>some false
 |.slice,.slice _ _ _ _ _,.ah=>some false
 |.slice,.ah,.fl _ _=>some false
 |.slice,.fl _ _,.ah=>some false
 |.map,.nX,.nX=>some true
 |.map,.nX,.map _=>some false
 |.map,.map _,.nX=>some false
 |.func,.jk,.jk=>some true
 |.func,.jk,.func _ _ _=>some false
 |.func,.func _ _ _,.jk=>some false
 |.iface,.uG,.iface _ _=>some false
 |.iface,.iface _ _,.uG=>some false
 |.struct fs,.agg xs,.agg ys=>eqFields xs ys fs
 |_,_,_=>none
def lR (op:BinOp)(q:ey):AV->AV->Option AV
 |  .int k a,.int k' b=>match op with
    | .shl=>match yU b 0 with
      |true=>none
      |false=>some (.int k (aq k (a*2 ^ (min b.toNat k.bits))))
    | .shr=>match yU b 0 with
      |true=>none
      |false=>some (.int k (a.fdiv (2 ^ (min b.toNat k.bits))))
    | op=>match Bh k k' with
      |false=>none
      | true=>match op with
        |.add=>some (.int k (aq k (a+b)))
        |.sub=>some (.int k (aq k (a - b)))
        |.mul=>some (.int k (aq k (a*b)))
        | .quo=>match uB b 0 with
          |true=>none
          |false=>some (.int k (aq k (a.tdiv b)))
        | .rem=>match uB b 0 with
          |true=>none
          |false=>some (.int k (a.tmod b))
        |.and=>some (.int k (k.wrap (BitVec.ofInt k.bits a &&& BitVec.ofInt k.bits b).toNat))
        |.or=>some (.int k (k.wrap (BitVec.ofInt k.bits a ||| BitVec.ofInt k.bits b).toNat))
        |.xor=>some (.int k (k.wrap (BitVec.ofInt k.bits a ^^^ BitVec.ofInt k.bits b).toNat))
        |.andNot=>some (.int k (k.wrap (BitVec.ofInt k.bits a &&& ~~~BitVec.ofInt k.bits b).toNat))
        |.eql=>some (.bool (uB a b))
        |.neq=>some (.bool (!uB a b))
        |.lss=>some (.bool (yU a b))
        |.leq=>some (.bool (R3 a b))
        |.gtr=>some (.bool (yU b a))
        |.geq=>some (.bool (R3 b a))
        |_=>none
 |  .str a,.str b=>match op with
    | .add=>match Nat.ble (a.length+b.length) 9223372036854775807 with
      |true=>some (.str (a++b))
      |false=>none
    |.eql=>some (.bool (iF a b))
    |.neq=>some (.bool (!iF a b))
    |.lss=>some (.bool (az a b))
    |.leq=>some (.bool (az a b||iF a b))
    |.gtr=>some (.bool (!(az a b||iF a b)))
    |.geq=>some (.bool (!az a b))
    |_=>none
 |  x,y=>match op with
    | .eql=>match LJ q x y with
      |some b=>some (.bool b)
      |none=>none
    | .neq=>match LJ q x y with
      |some b=>some (.bool (!b))
      |none=>none
    |_=>none
def unA(op:UnOp):AV->Option AV
 |  .bool b=>match op with
    |.not=>some (.bool (!b))
    |_=>none
 |  .int k n=>match op with
    |.neg=>some (.int k (aq k (0 - n)))
    |_=>none
 |_=>none
def bY(cells:List AV):List (Nat×Nat)->List AV->Option (List AV)
 |[],[]=>some cells
 |  (off,size)::ps,v::vs=>
    match Nat.beq v.cells.length size,Nat.ble (off+size) cells.length with
    |true,true=>bY (aH cells off v.cells) ps vs
    |_,_=>none
 |_,_=>none
def bK{α:Type}(l:List α):Nat->List α
 |0=>[]
 |n+1=>l++bK l n
def tu:AV->Option Nat
 |  .int _ n=>match n with
    |.ofNat m=>some m
    |.negSucc _=>none
 |_=>none
def Fq(n:Nat):AV:= .int .i64 (.ofNat n)
def rows(es:Nat)(cs:List AV):Nat->List (List AV)
 |0=>[]
 |n+1=>cs.take es::rows es (cs.drop es) n
def bounds:(lo hi mx:Bool)->List AV->Option (Option Nat×Option Nat×Option Nat)
 |false,false,false,[]=>some (none,none,none)
 |  true,false,false,[a]=>match tu a with
    |some l=>some (some l,none,none)
    |none=>none
 |  false,true,false,[b]=>match tu b with
    |some h=>some (none,some h,none)
    |none=>none
 |  true,true,false,[a,b]=>match tu a,tu b with
    |some l,some h=>some (some l,some h,none)
    |_,_=>none
 |  false,true,true,[b,c]=>match tu b,tu c with
    |some h,some m=>some (none,some h,some m)
    |_,_=>none
 |  true,true,true,[a,b,c]=>match tu a,tu b,tu c with
    |some l,some h,some m=>some (some l,some h,some m)
    |_,_,_=>none
 |_,_,_,_=>none
def cg(es n:Nat)(H:Pos->Option AB):AV->Option (List AV)
 |.ah=>some []
 |  .slice b off _ _ _=>match Nat.beq (n*es) 0 with
    |true=>some []
    |false=>match H b with
     |some (.cells cs _)=>cut cs off (n*es)
     |_=>none
 |  .fl xs es'=>match Nat.beq es es',Nat.ble n xs.length with
    |true,true=>some (xs.take n).flatten
    |_,_=>none
 |  .str s=>match Nat.beq es 1,Nat.ble n s.length with
    |true,true=>some ((s.take n).map λc=>.int .u8 (.ofNat c))
    |_,_=>none
 |_=>none
def cZ:AV->Option Nat
 |.ah=>some 0
 |.slice _ _ n _ _=>some n
 |.fl xs _=>some xs.length
 |.str s=>some s.length
 |_=>none
def jr(pk:PK)(k:AV):List (AV×AV×Nat)->Nat->Option (Option (Nat×AV))
 |[],_=>some none
 |  (k',v,_)::es,i=>match yo pk k k' with
    |some true=>some (some (i,v))
    |some false=>jr pk k es (i+1)
    |none=>none
def Xl:PK->AV->Bool
 |.b,.bool _=>true
 |.i,.int _ _=>true
 |.s,.str _=>true
 |_,_=>false
def nk(k v:AV):List (AV×AV×Nat)->Nat->List (AV×AV×Nat)
 |[],_=>[]
 |(_,_,born)::es,0=>(k,v,born)::es
 |e::es,i+1=>e::nk k v es i
def VR(s:List Nat)(pos:Nat):Option (Nat×Nat):=
 match nth s pos with
 |  some c=>match Nat.blt c 128 with
    |true=>some (c,1)
    |false=>none
 |none=>none
def bytesOf:List AV->Option (List Nat)
 |[]=>some []
 |  .int .u8 (.ofNat n)::l=>match Nat.blt n 256,bytesOf l with
    |true,some s=>some (n::s)
    |_,_=>none
 |_=>none
def J1(_H:Pos->Option AB)(_next:Pos):List AV->Option b6
 |[x]=>some (.val x)
 |_=>none
def OU(_H:Pos->Option AB)(_next:Pos):List AV->Option b6
 |  [c,a,b]=>match c with
    |.bool true=>some (.val a)
    |.bool false=>some (.val b)
    |_=>none
 |_=>none
def Fs(_H:Pos->Option AB)(next:Pos)(zero:List AV):List AV->Option b6
 |[]=>some (.aE (.ptr next 0) none none (some (.cells zero 0)))
 |_=>none
def MY(_H:Pos->Option AB)(next:Pos):List AV->Option b6
 |[x]=>some (.aE (.ptr next 0) none none (some (.cells x.cells 0)))
 |_=>none
def Ft(_H:Pos->Option AB)(_next:Pos)(zero:List AV)(places:List (Nat×Nat)):List AV->Option b6
 |  xs=>match bY zero places xs with
    |some cs=>some (.val (.agg cs))
    |none=>none
def pW(_H:Pos->Option AB)(next:Pos)(es len:Nat)(zero:List AV)(places:List Nat):List AV->Option b6
 |  xs=>match bY (bK zero len) (places.map λi=>(i*es,es)) xs with
    |some cs=>some (.aE (.slice next 0 len (some len) es) none none (some (.cells cs 0)))
    |none=>none
def sg (H :Pos->Option AB)(_next:Pos)(n:Option Nat):List AV->Option b6
 |  [p] =>match p with
    | .ptr b off=>match H b with
      | some (.cells cs _)=>match n with
        | none=>match nth cs off with
          |some v=>some (.val v)
          |none=>none
        | some n=>match cut cs off n with
          |some vs=>some (.val (.agg vs))
          |none=>none
      | some (.typed _ cs)=>match n with
        | none=>match nth cs off with
          |some v=>some (.val v)
          |none=>none
        | some n=>match cut cs off n with
          |some vs=>some (.val (.agg vs))
          |none=>none
      |_=>none
    | .fp xs i j=>match nth xs i with
      | some cs=>match n with
        | none=>match nth cs j with
          |some v=>some (.val v)
          |none=>none
        | some n=>match cut cs j n with
          |some vs=>some (.val (.agg vs))
          |none=>none
      |none=>none
    |_=>none
 |_=>none
def Bi (H:Pos->Option AB)(_next:Pos)(n:Nat):List AV->Option b6
 |  [p, v]=>match p with
    | .ptr b off=>match H b with
      | some (.cells cs fz)=>
        match Nat.beq v.cells.length n,Nat.ble (off+n) cs.length,Nat.ble fz off,aS v.cells with
        |true,true,true,true=>some (.aE .undef none (some (b,.cells (aH cs off v.cells) fz)) none)
        |_,_,_,_=>none
      | some (.typed t cs)=>
        match Nat.beq v.cells.length n,Nat.ble (off+n) cs.length,aS v.cells with
        |true,true,true=>some (.aE .undef none (some (b,.typed t (aH cs off v.cells))) none)
        |_,_,_=>none
      |_=>none
    |_=>none
 |_=>none
def Dv(_H:Pos->Option AB)(_next:Pos):List AV->Option b6
 |  [x]=>match x with
    |.ptr _ _=>some (.val x)
    |.fp _ _ _=>some (.val x)
    |.func _ _ _=>some (.val x)
    |_=>none
 |_=>none
def gF(_H:Pos->Option AB)(_next:Pos)(op:BinOp)(q:ey):List AV->Option b6
 |  [x,y]=>match lR op q x y with
    |some v=>some (.val v)
    |none=>none
 |_=>none
def Xm(_H:Pos->Option AB)(_next:Pos)(op:UnOp):List AV->Option b6
 |  [x]=>match unA op x with
    |some v=>some (.val v)
    |none=>none
 |_=>none
def uV (H:Pos->Option AB)(next:Pos)(k:acX):List AV->Option b6
 |  [x] =>match k,x with
    |.int k,.int _ n=>some (.val (.int k (aq k n)))
    |.same,.str s=>some (.val (.str s))
    |.bytes,.str s=>some (.aE (.slice next 0 s.length none 1) none none (some (.cells (s.map λc=>.int .u8 (.ofNat c)) 0)))
    |.ofBytes,.ah=>some (.val (.str []))
    | .ofBytes,.slice b off n _ _=>match Nat.beq n 0 with
      |true=>some (.val (.str []))
      | false=>match H b with
        |some (.cells cs _)=>match cut cs off n with
         |some l=>match bytesOf l with
          |some s=>some (.val (.str s))
          |none=>none
         |none=>none
        |_=>none
    |_,_=>none
 |_=>none
def Fu(_H:Pos->Option AB)(_next:Pos)(t:TypeId):List AV->Option b6
 |[x]=>some (.val (.iface t x))
 |_=>none
def CM(_H:Pos->Option AB)(_next:Pos)(f:FuncId)(Ij:Nat):List AV->Option b6
 |xs=>some (.val (.func f (xs.take Ij) (xs.drop Ij)))
def Fv(_H:Pos->Option AB)(next:Pos):List AV->Option b6
 |_=>some (.aE (.map next) none none (some (.map [] 0)))
def uW (H:Pos->Option AB)(_next:Pos)(pk:PK)(zero:AV)(ok:Bool):List AV->Option b6
 |  [m, k]=>
    match (match m with
      | .nX=>match Xl pk k with
        |true=>some none
        |false=>none
      | .map b=>match H b with
        |some (.map es _)=>jr pk k es 0
        |_=>none
      |_=>none)with
    |some (some (_,v))=>some (.val (match ok with|true=>.tuple [v,.bool true]|false=>v))
    |some none=>some (.val (match ok with|true=>.tuple [zero,.bool false]|false=>zero))
    |none=>none
 |_=>none
def uX (H:Pos->Option AB)(_next:Pos)(pk:PK):List AV->Option b6
 |  [m, k,v]=>match m with
    | .map b=>match H b with
      | some (.map es clock)=>match Xl pk k,jr pk k es 0 with
        |true,some (some (i,_))=>some (.aE .undef none (some (b,.map (nk k v es i) clock)) none)
        |true,some none=>some (.aE .undef none (some (b,.map (es++[(k,v,clock)]) (clock+1))) none)
        |_,_=>none
      |_=>none
    |_=>none
 |_=>none
def vO(_H:Pos->Option AB)(next:Pos)(es bytes:Nat)(zero:List AV):List AV->Option b6
 |  [l,c]=>match tu l,tu c with
    | some l,some c=>match Nat.ble l c,Nat.ble (bytes*c) 281474976710656,Nat.ble c 9223372036854775807 with
      |true,true,true=>some (.aE (.slice next 0 l (some c) es) none none (some (.cells (bK zero c) 0)))
      |_,_,_=>none
    |_,_=>none
 |_=>none
def Ik(_H:Pos->Option AB)(_next:Pos)(lo hi:Bool):List AV->Option b6
 |  x ::bs=>match x,bounds lo hi false bs with
    | .str s,some (l,h,_)=>
      let h:=h.getD s.length
      let l:=l.getD 0
      match Nat.ble l h,Nat.ble h s.length with
      |true,true=>some (.val (.str ((s.take h).drop l)))
      |_,_=>none
    |_,_=>none
 |_=>none
def oI (_H:Pos->Option AB)(_next:Pos)(es:Nat)(lo hi mx:Bool):List AV->Option b6
 |  x ::bs=>match x,bounds lo hi mx bs with
    | .slice b off len cap es',some (l,h,m)=>
      match Nat.beq es es',Nat.ble (l.getD 0) (h.getD len)with
      | true,true=>match cap,m with
        | some c,some m=>match Nat.ble (h.getD len) m,Nat.ble m c with
          |true,true=>some (.val (.slice b (off+l.getD 0*es) (h.getD len - l.getD 0) (some (m - l.getD 0)) es))
          |_,_=>none
        | some c,none=>match Nat.ble (h.getD len) c with
          |true=>some (.val (.slice b (off+l.getD 0*es) (h.getD len - l.getD 0) (some (c - l.getD 0)) es))
          |false=>none
        | none,some m=>match Nat.ble (h.getD len) m,Nat.ble m len with
          |true,true=>some (.val (.slice b (off+l.getD 0*es) (h.getD len - l.getD 0) (some (m - l.getD 0)) es))
          |_,_=>none
        | none,none=>match Nat.ble (h.getD len) len with
          |true=>some (.val (.slice b (off+l.getD 0*es) (h.getD len - l.getD 0) none es))
          |false=>none
      |_,_=>none
    | .fl xs es',some (l,h,m)=>
      match Nat.beq es es' with
      | true=>match m with
        | some m=>match Nat.beq (l.getD 0) 0,Nat.beq (h.getD xs.length) 0,Nat.beq m 0 with
          |true,true,true=>some (.val (.slice .h 0 0 (some 0) es))
          |_,_,_=>none
        | none=>match Nat.ble (l.getD 0) (h.getD xs.length),Nat.ble (h.getD xs.length) xs.length with
          |true,true=>some (.val (.fl ((xs.take (h.getD xs.length)).drop (l.getD 0)) es))
          |_,_=>none
      |false=>none
    | .ah,some (l,h,m)=>match Nat.beq (l.getD 0) 0,Nat.beq (h.getD 0) 0,Nat.beq (m.getD 0) 0 with
        |true,true,true=>some (.val .ah)
        |_,_,_=>none
    |_,_=>none
 |_=>none
def Il(_H:Pos->Option AB)(_next:Pos)(off:Nat):List AV->Option b6
 |  [x]=>match x with
    |.ptr b o=>some (.val (.ptr b (o+off)))
    |.fp xs i j=>some (.val (.fp xs i (j+off)))
    |_=>none
 |_=>none
def mK (_H:Pos->Option AB)(_next:Pos)(es:Nat)(arr:Option Nat):List AV->Option b6
 |  [x, i]=>match tu i with
    | some i=>match arr,x with
      | none,.slice b off len _ _=>match Nat.blt i len with
        |true=>some (.val (.ptr b (off+i*es)))
        |false=>none
      | none,.fl xs es'=>match Nat.blt i xs.length,Nat.beq es es' with
        |true,true=>some (.val (.fp xs i 0))
        |_,_=>none
      | some n,.ptr b off=>match Nat.blt i n with
        |true=>some (.val (.ptr b (off+i*es)))
        |false=>none
      |_,_=>none
    |none=>none
 |_=>none
def LM (_H:Pos->Option AB)(_next:Pos)(off:Nat)(n:Option Nat):List AV->Option b6
 |  [x] =>match x with
    | .agg cs=>match n with
      | none=>match nth cs off with
        |some v=>some (.val v)
        |none=>none
      |some n=>some (.val (.agg ((cs.drop off).take n)))
    |_=>none
 |_=>none
def J2(_H:Pos->Option AB)(_next:Pos):List AV->Option b6
 |  [x,i]=>match x,tu i with
    | .str s,some i=>match nth s i with
      |some c=>some (.val (.int .u8 (.ofNat c)))
      |none=>none
    |_,_=>none
 |_=>none
def AP(_H:Pos->Option AB)(_next:Pos)(i:Nat):List AV->Option b6
 |  [x]=>match x with
    | .tuple vs=>match nth vs i with
      |some v=>some (.val v)
      |none=>none
    |_=>none
 |_=>none
def LN(_H:Pos->Option AB)(_next:Pos)(f:FuncId):List AV->Option b6
 |xs=>some (.call f xs)
def LO(_H:Pos->Option AB)(_next:Pos):List AV->Option b6
 |  x::xs=>match x with
    |.func f first captured=>some (.call f (first++(xs++captured)))
    |_=>none
 |_=>none
def Ee(H:Pos->Option AB)(_next:Pos)(k:LK):List AV->Option b6
 |  [x]=>match k,x with
    |.m,.nX=>some (.val (Fq 0))
    | .m,.map b=>match H b with
      |some (.map es _)=>some (.val (Fq es.length))
      |_=>none
    |.s,.str s=>some (.val (Fq s.length))
    |.l,.ah=>some (.val (Fq 0))
    |.l,.slice _ _ n _ _=>some (.val (Fq n))
    |.l,.fl xs _=>some (.val (Fq xs.length))
    |_,_=>none
 |_=>none
def fN (H:  Pos->Option AB)(next:Pos)(es bytes:Nat):List AV->Option b6
 |  [s, x]=> match cZ s,cZ x with
    | some n,some m=>
      match Nat.ble ((2*(n+m)+768)*bytes) 281474976710656,Nat.ble (n+m) 9223372036854775807 with
      | true,true=>match Nat.beq m 0,s with
        |true,.slice b off n c es'=>some (.val (.slice b off n c es'))
        |true,.fl xs es'=>some (.val (.fl xs es'))
        |true,.ah=>some (.val .ah)
        |false,.ah=>match cg es m H x with
         |some new=>some (.aE (.slice next 0 m none es) none none (some (.cells new 0)))
         |none=>none
        |false,.slice b off n (some c) es'=>
         match Nat.ble (n+m) c with
         |  true=>match H b,cg es m H x with
            |some (.cells cs fz),some new=>match Nat.ble (off+(n+m)*es) cs.length,Nat.ble fz (off+n*es)&&Nat.beq es es',aS new with
             |true,true,true=>some (.aE (.slice b off (n+m) (some c) es) none (some (b,.cells (aH cs (off+n*es) new) fz)) none)
             |_,_,_=>none
            |_,_=>none
         |  false=>match cg es n H s,cg es m H x with
            |some dI,some new=>some (.aE (.slice next 0 (n+m) none es) none none (some (.cells (dI++new) 0)))
            |_,_=>none
        |false,.slice b off n none es'=>
         match H b,cg es n H s,cg es m H x with
         |  some (.cells _ fz),some dI,some new=>match Nat.ble fz (off+n*es)&&Nat.beq es es',aS new with
            |true,true=>some (.aE (.slice next 0 (n+m) none es) (some b) none (some (.cells (dI++new) (fz - off))))
            |_,_=>none
         |_,_,_=>none
        |_,_=>none
      |_,_=>none
    |_,_=>none
 |_=>none
def yp (H : Pos->Option AB)(_next:Pos)(es:Nat):List AV->Option b6
 |  [d, x]=>match cZ d,cZ x with
    | some n,some m=>
      let k:=min m n
      match Nat.beq k 0 with
      | true=>match d with
        |.str _=>none
        |_=>some (.val (Fq 0))
      | false=>match d with
        | .slice b off _ _ _=>match H b,cg es k H x with
          | some (.cells cs fz),some new=>match Nat.ble (off+k*es) cs.length,Nat.ble fz off,aS new with
            |true,true,true=>some (.aE (Fq k) none (some (b,.cells (aH cs off new) fz)) none)
            |_,_,_=>none
          |_,_=>none
        |_=>none
    |_,_=>none
 |_=>none
def A8(_H:Pos->Option AB)(_next:Pos):List AV->Option b6
 |  [x,y]=>match x,y with
    |.int k a,.int _ b=>some (.val (.int k (match yU b a with|true=>b|false=>a)))
    |.str a,.str b=>some (.val (.str (match az a b||iF a b with|true=>a|false=>b)))
    |_,_=>none
 |_=>none
def A9(_H:Pos->Option AB)(_next:Pos):List AV->Option b6
 |  [x,y]=>match x,y with
    |.int k a,.int _ b=>some (.val (.int k (match yU a b with|true=>b|false=>a)))
    |.str a,.str b=>some (.val (.str (match az a b with|true=>b|false=>a)))
    |_,_=>none
 |_=>none
def uY (H:Pos->Option AB)(_next:Pos)(es:Nat)(zero:List AV):List AV->Option b6
 |  [x] =>match x with
    |.ah=>some (.val .undef)
    | .slice b off n _ _=>match Nat.beq n 0 with
      |true=>some (.val .undef)
      | false=>match H b with
        |some (.cells cs fz)=>match Nat.ble (off+n*es) cs.length,Nat.ble fz off,aS (bK zero n)with
         |true,true,true=>some (.aE .undef none (some (b,.cells (aH cs off (bK zero n)) fz)) none)
         |_,_,_=>none
        |_=>none
    |_=>none
 |_=>none
def CN(_H:Pos->Option AB)(next:Pos):List AV->Option b6
 |  [x]=>match x with
    |.str s=>some (.aE (.ptr next 0) none none (some (.jq s 0)))
    |_=>none
 |_=>none
def Fw (H:Pos->Option AB)(_next:Pos):List AV->Option b6
 |  [x] =>match x with
    | .ptr b 0=>match H b with
      | some (.jq s pos)=>match Nat.blt pos s.length with
        |true=>match VR s pos with
         |some (c,w)=>some (.aE (.tuple [.bool true,Fq pos,.int .i32 (.ofNat c)]) none (some (b,.jq s (pos+w))) none)
         |none=>none
        |false=>some (.val (.tuple [.bool false]))
      |_=>none
    |_=>none
 |_=>none
def CO(_H:Pos->Option AB)(next:Pos)(t:TypeId)(zero:List AV):List AV->Option b6
 |[]=>some (.aE (.ptr next 0) none none (some (.typed t zero)))
 |_=>none
def sk (H:Pos->Option AB)(next:Pos)(e:TypeId)(bytes:Nat):List AV->Option b6
 |  [s, x]=> match x with
    | .str u=>match s with
      | .ah=>match Nat.ble ((2*(0+u.length)+768)*bytes) 281474976710656,Nat.ble (0+u.length) 9223372036854775807 with
        |true,true=>match Nat.beq u.length 0 with
         |true=>some (.val .ah)
         |false=>some (.aE (.slice next 0 (0+u.length) none 1) none none (some (.typed e (u.map λc=>.int .u8 (.ofNat c)))))
        |_,_=>none
      | .slice b 0 n none 1=>match Nat.ble ((2*(n+u.length)+768)*bytes) 281474976710656,Nat.ble (n+u.length) 9223372036854775807 with
        |true,true=>match Nat.beq u.length 0 with
         |true=>some (.val (.slice b 0 n none 1))
         |false=>match H b with
          |  some (.typed e' cs)=>match Nat.beq e e',cut cs 0 n with
             |true,some dI=>some (.aE (.slice next 0 (n+u.length) none 1) (some b) none (some (.typed e (dI++u.map λc=>.int .u8 (.ofNat c)))))
             |_,_=>none
          |_=>none
        |_,_=>none
      |_=>none
    |_=>none
 |_=>none
def MZ (H:Pos->Option AB)(_next:Pos):List AV->Option b6
 |  [x] =>match x with
    |.iw=>some (.val .iw)
    | .ptr b off=>match H b with
      | some (.typed _ cs)=>match Nat.blt off cs.length with
        |true=>some (.val (.ptr b off))
        |false=>none
      |_=>none
    |_=>none
 |_=>none
def Fx (H:Pos->Option AB)(_next:Pos)(u:TypeId)(n:Nat):List AV->Option b6
 |  [x] =>match x with
    |.iw=>some (.val .iw)
    | .ptr b 0=>match H b with
      | some (.typed t cs)=>match Nat.beq t u,Nat.ble n cs.length with
        |true,true=>some (.val (.ptr b 0))
        |_,_=>none
      |_=>none
    |_=>none
 |_=>none
def qZ(_H:Pos->Option AB)(_next:Pos):List AV->Option b6
 |  [x]=>match x with
    |.ah=>some (.val .iw)
    | .slice b off n _ _=>match Nat.beq n 0 with
      |true=>none
      |false=>some (.val (.ptr b off))
    |_=>none
 |_=>none
def nY (H :Pos->Option AB)(_next:Pos)(e:TypeId):List AV->Option b6
 |  [x, y]=> match y with
    | .int .i64 (.ofNat n)=>match Nat.beq n 0 with
      | true=>match x with
        |.iw=>some (.val (.str []))
        |.ptr _ _=>some (.val (.str []))
        |_=>none
      | false=>match x with
        | .ptr b 0=>match H b with
          |some (.typed e' cs)=>match Nat.beq e e',cut cs 0 n,Nat.ble n 9223372036854775807 with
           | true,some l,true=>match bytesOf l with
             |some s=>some (.aE (.str s) (some b) none none)
             |none=>none
           |_,_,_=>none
          |_=>none
        |_=>none
    |_=>none
 |_=>none
def ay.run(H:Pos->Option AB)(next:Pos):ay->List AV->Option b6
 |.move=>J1 H next
 |.pick=>OU H next
 |.alloc zero=>Fs H next zero
 |.box=>MY H next
 |.build zero places=>Ft H next zero places
 |.buildSlice es len zero places=>pW H next es len zero places
 |.load n=>sg H next n
 |.store n=>Bi H next n
 |.nilCheck=>Dv H next
 |.bin op q=>gF H next op q
 |.un op=>Xm H next op
 |.conv k=>uV H next k
 |.mkIface t=>Fu H next t
 |.mkFunc f Ij=>CM H next f Ij
 |.mkMap=>Fv H next
 |.lookup pk zero ok=>uW H next pk zero ok
 |.mapSet pk=>uX H next pk
 |.mkSlice es bytes zero=>vO H next es bytes zero
 |.sliceS lo hi=>Ik H next lo hi
 |.sliceL es lo hi mx=>oI H next es lo hi mx
 |.fieldA off=>Il H next off
 |.idxA es arr=>mK H next es arr
 |.field off n=>LM H next off n
 |.idxS=>J2 H next
 |.extract i=>AP H next i
 |.callF f=>LN H next f
 |.callV=>LO H next
 |.lenB k=>Ee H next k
 |.append es bytes=>fN H next es bytes
 |.copyB es=>yp H next es
 |.minB=>A8 H next
 |.maxB=>A9 H next
 |.clearS es zero=>uY H next es zero
 |.rangeS=>CN H next
 |.nextS=>Fw H next
 |.allocT t zero=>CO H next t zero
 |.appendT e bytes=>sk H next e bytes
 |.toU=>MZ H next
 |.fromU u n=>Fx H next u n
 |.sliceData=>qZ H next
 |.unsafeStr e=>nY H next e
 |.capB=>λ_=>none
 |.bad=>λ_=>none
inductive dU where
 |t (p:Pos)
 |c (v:AV)
 deriving Inhabited
inductive VS where
 |pure
 |read
 |new
 |aE
 deriving Inhabited
structure bk where
 dst:Option Pos
 k:ay
 xs:List dU
 guard:Option (Pos×Bool)
 cls:VS
 bC:Nat
 deriving Inhabited
inductive AC where
 |skip
 |region (ops:List bk)
 |draw (ops:List (Nat×bk))
 |seq (a b:AC)
 |cond (x:dU) (a b:AC)
 |block (id:Nat) (a:AC)
 |loop (a:AC)
 |exit (id:Nat)
 |ret
 deriving Inhabited
inductive zh where
 |tmp (p:Pos)
 |cell (p:Pos) (n:Option Nat)
 deriving Inhabited
structure cE where
 code:AC
 nparams:Nat
 results:List zh
 deriving Inhabited
abbrev Fr:=T AV
structure St where
 heap:T AB
 next:Pos
 deriving Inhabited
inductive js where
 |normal
 |exit (id:Nat)
 |ret
 deriving Inhabited
def zi(fr:Fr):dU->Option AV
 |.t p=>fr.get p
 |.c v=>some v
def dV(fr:Fr):List dU->Option (List AV)
 |[]=>some []
 |  x::xs=>match zi fr x with
    |some v=>match dV fr xs with
     |some vs=>some (v::vs)
     |none=>none
    |none=>none
def bI(fr:Fr):Option (Pos×Bool)->Option Bool
 |none=>some true
 |  some (p,want)=>match fr.get p with
    |some (.bool b)=>some (b==want)
    |some (.tuple _)=>some false
    |_=>none
def cM(fr:Fr)(d:Option Pos)(v:AV):Fr:=match d with
 |some p=>fr.put (some v) p
 |none=>fr
def Fy(o:Option (Pos×AB))(h:T AB):T AB:=match o with
 |some (b,x)=>h.put (some x) b
 |none=>h
def Dw(o:Option Pos)(h:T AB):T AB:=match o with
 |some b=>h.put none b
 |none=>h
def St.aE(st:St)(del:Option Pos)(set:Option (Pos×AB))(new:Option AB):St:=
 match new with
 |some x=>{ heap:=T.put (some x) st.next (Fy set (Dw del st.heap)),next:=st.next.succ }
 |none=>{ heap:=Fy set (Dw del st.heap),next:=st.next }
abbrev ai:=FuncId->List AV->St->Option (AV×St)
def bF(call:ai)(k:ay)(xs:List AV)(st:St):Option (AV×St):=
 match k.run (λb=>st.heap.get b) st.next xs with
 |some (.val v)=>some (v,st)
 |some (.aE v del set new)=>some (v,st.aE del set new)
 |some (.call f args)=>call f args st
 |none=>none
def iW (call:ai):List bk->Fr->St->Option (Fr×St)
 |[],fr,st=>some (fr,st)
 |  o::os,fr,st=>match bI fr o.guard with
    |some true=>match dV fr o.xs with
     |  some xs=>match bF call o.k xs st with
        |some (v,st')=>iW call os (cM fr o.dst v) st'
        |none=>none
     |none=>none
    |some false=>iW call os (cM fr o.dst .undef) st
    |none=>none
def gq:AV->AV->Bool
 |.bool a,.bool b=>a==b
 |.int k a,.int k' b=>Bh k k'&&uB a b
 |.str a,.str b=>iF a b
 |.iw,.iw=>true
 |.ptr b o,.ptr b' o'=>Pos.beq b b'&&Nat.beq o o'
 |.ah,.ah=>true
 |.slice b o l none es,.slice b' o' l' none es'=>Pos.beq b b'&&Nat.beq o o'&&Nat.beq l l'&&Nat.beq es es'
 |.slice b o l (some c) es,.slice b' o' l' (some c') es'=>Pos.beq b b'&&Nat.beq o o'&&Nat.beq l l'&&Nat.beq c c'&&Nat.beq es es'
 |.nX,.nX=>true
 |.map b,.map b'=>Pos.beq b b'
 |.jk,.jk=>true
 |.uG,.uG=>true
 |_,_=>false
def uH:List AV->List AV->Bool
 |[],[]=>true
 |a::x,b::y=>gq a b&&uH x y
 |_,_=>false
def CP(f:AV->AV->Bool):List AV->List AV->Bool
 |[],[]=>true
 |a::x,b::y=>f a b&&CP f x y
 |_,_=>false
def uZ(f:AV->AV->Bool):List (List AV)->List (List AV)->Bool
 |[],[]=>true
 |a::x,b::y=>CP f a b&&uZ f x y
 |_,_=>false
def CQ:Nat->AV->AV->Bool
 |d+1,.fl a n,.fl a' n'=>uZ (CQ d) a a'&&Nat.beq n n'
 |_,a,b=>gq a b
def kO:AV->AV->Bool
 |.func f a b,.func f' a' b'=>Nat.beq f f'&&uH a a'&&uH b b'
 |.fl a n,.fl a' n'=>CQ 3 (.fl a n) (.fl a' n')
 |a,b=>gq a b
def q7:List AV->List AV->Bool
 |[],[]=>true
 |a::x,b::y=>kO a b&&q7 x y
 |_,_=>false
def e9:AV->AV->Bool
 |.agg l,.agg l'=>q7 l l'
 |.tuple l,.tuple l'=>q7 l l'
 |a,b=>kO a b
inductive RC where
 |pure
 |new (id:Pos) (av:AB)
 |aE (base:T AB) (h:T AB)
 deriving Inhabited
structure Rec where
 idx:Nat
 o:bk
 v:AV
 c:RC
 nx:Pos
 deriving Inhabited
def snap(bC:Nat)(h:T AB):List Rec->T AB
 |[]=>h
 |  r ::rs=>match r.c with
    | .new id av=>match bC.testBit r.idx with
      |true=>(snap bC h rs).put (some av) id
      |false=>snap bC h rs
    |.aE _ _=>h
    |.pure=>snap bC h rs
def yV:List (Pos×AB)->T AB->T AB
 |[],h=>h
 |(id,av)::l,h=>(yV l h).put (some av) id
def su(k:ay)(xs:List AV)(v:AV)(h:T AB):Bool:=
 match k.run (λb=>h.get b) .h xs with
 |some (.val u)=>e9 u v
 |_=>false
def kg(bC:Nat)(k:ay)(xs:List AV)(v:AV):List (Pos×AB)->List Rec->Bool
 |_,[]=>true
 |  up,r::rs=>match r.c with
    | .new id av=>match bC.testBit r.idx with
      |true=>kg bC k xs v ((id,av)::up) rs
      |false=>kg bC k xs v up rs
    | .aE base _=>match bC.testBit r.idx with
      |true=>true
      |false=>su k xs v (yV up (snap bC base rs))&&kg bC k xs v up rs
    |.pure=>kg bC k xs v up rs
def cL (call:ai):List (Nat×bk)->List Rec->T AB->Fr->St->Option (Fr×St)
 |[],_,_,fr,st=>some (fr,st)
 |  (j, o)::os,recs,base,fr,st=>match bI fr o.guard with
    |some false=>cL call os ({ idx:=j,o:=o,v:= .undef,c:= .pure,nx:=st.next }::recs) base (cM fr o.dst .undef) st
    | some true=>match dV fr o.xs with
      |none=>none
      | some xs=>match o.cls with
        | .new=>match o.k.run (λ_=>none) st.next xs with
          |some (.aE v none none (some av))=>
           cL call os ({ idx:=j,o:=o,v:=v,c:= .new st.next av,nx:=st.next.succ }::recs) base (cM fr o.dst v) { heap:=st.heap.put (some av) st.next,next:=st.next.succ }
          |_=>none
        | .aE=>match bF call o.k xs st with
          |some (v,st')=>cL call os ({ idx:=j,o:=o,v:=v,c:= .aE base st'.heap,nx:=st'.next }::recs) st'.heap (cM fr o.dst v) st'
          |none=>none
        | _=>match o.k.run (λ_=>none) .h xs with
          |some (.val v)=>cL call os ({ idx:=j,o:=o,v:=v,c:= .pure,nx:=st.next }::recs) base (cM fr o.dst v) st
          |_=>match o.k.run (λb=>(snap o.bC base recs).get b) .h xs with
           |some (.val v)=>match kg o.bC o.k xs v [] recs with
            |true=>cL call os ({ idx:=j,o:=o,v:=v,c:= .pure,nx:=st.next }::recs) base (cM fr o.dst v) st
            |false=>none
           |_=>none
    |none=>none
def aZ(call:ai)(ih:AC->Fr->St->Option (js×Fr×St)):AC->Fr->St->Option (js×Fr×St)
 |.skip,fr,st=>some (.normal,fr,st)
 |  .region ops,fr,st=>match iW call ops fr st with
    |some (fr,st)=>some (.normal,fr,st)
    |none=>none
 |  .draw ops,fr,st=>match cL call ops [] st.heap fr st with
    |some (fr,st)=>some (.normal,fr,st)
    |none=>none
 |  .seq a b,fr,st=>match ih a fr st with
    |some (.normal,fr,st)=>ih b fr st
    |r=>r
 |  .cond x a b,fr,st=>match zi fr x with
    |some (.bool true)=>ih a fr st
    |some (.bool false)=>ih b fr st
    |_=>none
 |  .block id a,fr,st=>match ih a fr st with
    |some (.exit qG,fr,st)=>match Nat.beq qG id with
     |true=>some (.normal,fr,st)
     |false=>some (.exit qG,fr,st)
    |r=>r
 |  .loop a,fr,st=>match ih a fr st with
    |some (.normal,fr,st)=>ih (.loop a) fr st
    |r=>r
 |.exit id,fr,st=>some (.exit id,fr,st)
 |.ret,fr,st=>some (.ret,fr,st)
def exec(call:ai):Nat->AC->Fr->St->Option (js×Fr×St)
 |0=>λ_ _ _=>none
 |n+1=>aZ call (exec call n)
def params:Nat->List AV->Fr->Fr
 |_,[],fr=>fr
 |i,v::vs,fr=>params (i+1) vs (fr.put (some v) (key i))
def cw (H:Pos->Option AB)(fr:Fr):List zh->Option (List AV)
 |[]=>some []
 |  .tmp p::rs=>match fr.get p with
    |some v=>match cw H fr rs with
     |some vs=>some (v::vs)
     |none=>none
    |none=>none
 |  .cell p n::rs=>match fr.get p with
    |some q=>match (ay.load n).run H .h [q]with
     |  some (.val v)=>match cw H fr rs with
        |some vs=>some (v::vs)
        |none=>none
     |_=>none
    |none=>none
def gD:List AV->AV
 |[v]=>v
 |vs=>.tuple vs
abbrev dZ:=FuncId->Option (List AV->St->Option (AV×St))
def oX (O:dZ)(G:T cE)(m:Nat):Nat->ai
 |0=>λ_ _ _=>none
 |  d+  1=>λf args st=>match O f with
    |some s=>s args st
    |none=>match G.get (key f)with
     |  some F=>match Nat.beq args.length F.nparams with
        |true=>match exec (oX O G m d) m F.code (params 0 args .e) st with
         |some (.normal,fr,st')=>match cw (λb=>st'.heap.get b) fr F.results with
          |some vs=>some (gD vs,st')
          |none=>none
         |some (.ret,fr,st')=>match cw (λb=>st'.heap.get b) fr F.results with
          |some vs=>some (gD vs,st')
          |none=>none
         |_=>none
        |false=>none
     |none=>none
inductive TK where
 |bool
 |int (k:IntKind)
 |string
 |ptr (elem:Nat)
 |slice (elem:Nat)
 |array (n elem:Nat)
 |map (k e:Nat)
 |struct (fs:List (Nat×Nat×Bool))
 |func
 |iface
 |Za
 |other
 deriving Inhabited
structure TI where
 k:TK
 size:Nat
 bytes:Nat
 zero:Option (List AV)
 uC:Bool:=false
 deriving Inhabited
def Fz:Value->Option AV
 |.bool b=>some (.bool b)
 |.int k n=>some (.int k n)
 |.string s=>some (.str (s.data.toList.map UInt8.toNat))
 |.pointer none=>some .iw
 |.slice none 0 0=>some .ah
 |.map none=>some .nX
 |.func (.func f) ⟨[]⟩ ⟨[]⟩=>some (.func f [] [])
 |.nilFunc=>some .jk
 |.nilIface=>some .uG
 |_=>none
def mS:List Value->Option (List AV)
 |[]=>some []
 |  v::vs=>match Fz v,mS vs with
    |some a,some as=>some (a::as)
    |_,_=>none
def OV:Value->Option AV
 |  .agg cs=>match mS cs.toList with
    |some l=>some (.agg l)
    |none=>none
 |v=>Fz v
def kG:Operand->Option dU
 |.tmp t=>some (.t (key t))
 |  .const v=>match OV v with
    |some a=>some (.c a)
    |none=>none
 |.func f=>some (.c (.func f [] []))
 |.global _=>none
def iT:List Operand->Option (List dU)
 |[]=>some []
 |  x::xs=>match kG x,iT xs with
    |some a,some as=>some (a::as)
    |_,_=>none
def TK.isAgg:TK->Bool
 |.struct _=>true
 |.array _ _=>true
 |_=>false
abbrev TT:=T TI
def vP(tt:TT)(t:Nat):Option ey:=match tt.get (key t)with
 |  some ti=>match ti.k with
    |.bool=>some .bool
    |.int _=>some .num
    |.string=>some .num
    |.ptr _=>some .ptr
    |.slice _=>some .slice
    |.map _ _=>some .map
    |.func=>some .func
    |.iface=>some .iface
    | .struct fs=>match ti.uC,fields fs with
      |true,some l=>some (.struct l)
      |_,_=>none
    |_=>none
 |none=>none
where
 fields:List (Nat×Nat×Bool)->Option (List (Nat×PK))
  |[]=>some []
  |(off,t,named)::fs=>match named,tt.get (key t),fields fs with
   |true,some ti,some l=>match ti.k with
    |.bool=>some ((off,.b)::l)
    |.int _=>some ((off,.i)::l)
    |.string=>some ((off,.s)::l)
    |_=>none
   |_,_,_=>none
def vQ(ti:TI):Option Nat:=match ti.k.isAgg with
 |true=>some ti.size
 |false=>none
def aeX(tt:TT)(t:Nat)(ti:TI):Bool:=match ti.k with
 |  .struct ((_,p,_)::_)=>match tt.get (key p)with
    |some pi=>match pi.k with
     |.ptr e=>Nat.beq e t
     |_=>false
    |none=>false
 |_=>false
def vR:Option Operand->List Operand
 |some x=>[x]
 |none=>[]
def fO (tt:TT):Op->Option (ay×List dU×VS)
 |  .move x=>match kG x with
    |some a=>some (.move,[a],.pure)
    |none=>none
 |  .assign x=>match kG x with
    |some a=>some (.move,[a],.pure)
    |none=>none
 |  .pick c a b=>match iT [c,a,b]with
    |some l=>some (.pick,l,.pure)
    |none=>none
 |  .alloc t=>match tt.get (key t)with
    |some ti=>match ti.zero with
     |  some z=>match aeX tt t ti with
        |true=>some (.allocT t z,[],.aE)
        |false=>some (.alloc z,[],.new)
     |none=>none
    |none=>none
 |  .box _ x=>match kG x with
    |some a=>some (.box,[a],.new)
    |none=>none
 |  .build t ps=>match tt.get (key t),iT (ps.toList.map (·.2))with
    |some ti,some l=>match ti.k,ti.zero with
     |  .struct fs,some z=>match places tt fs (ps.toList.map (·.1)),R4 tt fs with
        |some p,true=>some (.build z p,l,.pure)
        |_,_=>none
     |  .array _ e,some z=>match tt.get (key e)with
        |some te=>some (.build z (ps.toList.map λx=>(x.1*te.size,te.size)),l,.pure)
        |none=>none
     |_,_=>none
    |_,_=>none
 |  .buildSlice t len ps=>match tt.get (key t),iT (ps.toList.map (·.2))with
    |some ti,some l=>match ti.k with
     |  .slice e=>match tt.get (key e)with
        | some te=>match te.zero,Nat.ble (len*te.size) 16777216 with
          |some z,true=>some (.buildSlice te.size len z (ps.toList.map (·.1)),l,.new)
          |_,_=>none
        |none=>none
     |_=>none
    |_,_=>none
 |  .load t a=>match tt.get (key t),kG a with
    |some ti,some a=>some (.load (vQ ti),[a],.read)
    |_,_=>none
 |  .store t a x=>match tt.get (key t),iT [a,x]with
    |some ti,some l=>some (.store ti.size,l,.aE)
    |_,_=>none
 |  .nilCheck x=>match kG x with
    |some a=>some (.nilCheck,[a],.pure)
    |none=>none
 |  .binOp op t x y _=>match vP tt t,iT [x,y]with
    |some q,some l=>some (.bin op q,l,.pure)
    |none,some l=>match op with
     |.eql=>none
     |.neq=>none
     |_=>some (.bin op .num,l,.pure)
    |_,_=>none
 |  .unOp op _ x=>match kG x with
    |some a=>some (.un op,[a],.pure)
    |none=>none
 |  .convert src dst x=>match tt.get (key src),tt.get (key dst),kG x with
    |some s,some d,some a=>match s.k,d.k with
     |.int _,.int k=>some (.conv (.int k),[a],.pure)
     |.string,.string=>some (.conv .same,[a],.pure)
     |  .string,.slice e=>match tt.get (key e)with
        | some te=>match te.k with
          |.int .u8=>some (.conv .bytes,[a],.new)
          |_=>none
        |none=>none
     |  .slice e,.string=>match tt.get (key e)with
        | some te=>match te.k with
          |.int .u8=>some (.conv .ofBytes,[a],.read)
          |_=>none
        |none=>none
     |  .ptr e,.Za=>match tt.get (key e)with
        | some te=>match Nat.beq te.size 0 with
          |false=>some (.toU,[a],.aE)
          |true=>none
        |none=>none
     |  .Za,.ptr e=>match tt.get (key e)with
        | some te=>match Nat.beq te.size 0 with
          |false=>some (.fromU e te.size,[a],.aE)
          |true=>none
        |none=>none
     |_,_=>none
    |_,_,_=>none
 |  .makeInterface t x=>match tt.get (key t),kG x with
    |some ti,some a=>match ti.k with
     |.iface=>none
     |.other=>none
     |_=>some (.mkIface t,[a],.pure)
    |_,_=>none
 |  .makeFunc fn first captured=>match fn,iT (first.toList++captured.toList)with
    |.func f,some l=>some (.mkFunc f first.size,l,.pure)
    |_,_=>none
 |  .makeMap t r=>match tt.get (key t)with
    |some ti=>match ti.k,r with
     |.map _ _,none=>some (.mkMap,[],.new)
     |.map _ _,some (.const (.int _ _))=>some (.mkMap,[],.new)
     |_,_=>none
    |none=>none
 |  .makeSlice t l c=>match tt.get (key t),iT [l,c]with
    |some ti,some xs=>match ti.k with
     |  .slice e=>match tt.get (key e)with
        | some te=>match te.zero with
          |some z=>some (.mkSlice te.size te.bytes z,xs,.new)
          |none=>none
        |none=>none
     |_=>none
    |_,_=>none
 |  .slice t x lo hi mx=>match tt.get (key t),iT ([x]++vR lo++vR hi++vR mx)with
    |some ti,some xs=>match ti.k with
     |  .string=>match mx with
        |none=>some (.sliceS lo.isSome hi.isSome,xs,.pure)
        |some _=>none
     |  .slice e=>match tt.get (key e)with
        |some te=>some (.sliceL te.size lo.isSome hi.isSome mx.isSome,xs,.pure)
        |none=>none
     |_=>none
    |_,_=>none
 |  .fieldAddr t x f=>match tt.get (key t),kG x with
    |some ti,some a=>match ti.k with
     |  .struct fs=>match nth fs f with
        | some (off,ft,_)=>match tt.get (key ft)with
          |some fi=>match Nat.beq fi.size 0 with
           |false=>some (.fieldA off,[a],.pure)
           |true=>none
          |none=>none
        |none=>none
     |_=>none
    |_,_=>none
 |  .field t x f=>match tt.get (key t),kG x with
    |some ti,some a=>match ti.k with
     |  .struct fs=>match nth fs f with
        | some (off,ft,_)=>match tt.get (key ft)with
          |some fi=>some (.field off (vQ fi),[a],.pure)
          |none=>none
        |none=>none
     |_=>none
    |_,_=>none
 |  .indexAddr t x ix=>match tt.get (key t),iT [x,ix]with
    |some ti,some l=>match ti.k with
     |  .slice e=>match tt.get (key e)with
        |some te=>some (.idxA te.size none,l,.pure)
        |none=>none
     |  .array n e=>match tt.get (key e)with
        |some te=>some (.idxA te.size (some n),l,.pure)
        |none=>none
     |_=>none
    |_,_=>none
 |  .index t x ix=>match tt.get (key t),iT [x,ix]with
    |some ti,some l=>match ti.k with
     |.string=>some (.idxS,l,.pure)
     |_=>none
    |_,_=>none
 |  .lookup t x ix ok=>match tt.get (key t),iT [x,ix]with
    |some ti,some l=>match ti.k with
     |  .map k e=>match tt.get (key k),tt.get (key e)with
        | some tk,some te=>match tk.k,te.zero with
          |.int _,some z=>some (.lookup .i (Ef te z) ok,l,.read)
          |.string,some z=>some (.lookup .s (Ef te z) ok,l,.read)
          |.bool,some z=>some (.lookup .b (Ef te z) ok,l,.read)
          |_,_=>none
        |_,_=>none
     |_=>none
    |_,_=>none
 |.mapUpdate t m k v=>Xn tt t m k v
 |.insert t m k v=>Xn tt t m k v
 |  .range t x=>match tt.get (key t),kG x with
    |some ti,some a=>match ti.k with
     |.string=>some (.rangeS,[a],.new)
     |_=>none
    |_,_=>none
 |  .next it isString=>match isString,kG it with
    |true,some a=>some (.nextS,[a],.aE)
    |_,_=>none
 |  .extract x i=>match kG x with
    |some a=>some (.extract i,[a],.pure)
    |none=>none
 |  .call c=>match iT c.args.toList with
    |none=>none
    |some xs =>match c.callee with
     |.value (.func f)=>some (.callF f,xs,.aE)
     |  .value x=>match kG x with
        |some a=>some (.callV,a::xs,.aE)
        |none=>none
     |.invoke _ _=>none
     |  .builtin b=>match b with
        | .len=>match c.argTypes.toList,xs with
          |t ::_,[_]=>match tt.get (key t)with
           | some ti=>match ti.k with
             |.string=>some (.lenB .s,xs,.pure)
             |.slice _=>some (.lenB .l,xs,.pure)
             |.map _ _=>some (.lenB .m,xs,.read)
             |_=>none
           |none=>none
          |_,_=>none
        | .append=>match c.argTypes.toList with
          |t ::t2::_=>match tt.get (key t),tt.get (key t2)with
           | some ti,some Hg=>match ti.k,Hg.k with
             |_,.int _=>none
             | .slice e,.string=>match tt.get (key e)with
               | some te=>match te.zero,te.k,Nat.beq te.size 1 with
                 |some _,.int .u8,true=>some (.appendT e te.bytes,xs,.aE)
                 |_,_,_=>none
               |none=>none
             | .slice e,_=>match tt.get (key e)with
               | some te=>match te.zero with
                 |some _=>some (.append te.size te.bytes,xs,.aE)
                 |none=>none
               |none=>none
             |_,_=>none
           |_,_=>none
          |_=>none
        | .copy=>match c.argTypes.toList with
          |t ::_=>match tt.get (key t)with
           | some ti=>match ti.k with
             | .slice e=>match tt.get (key e)with
               |some te=>some (.copyB te.size,xs,.aE)
               |none=>none
             |_=>none
           |none=>none
          |_=>none
        | .unsafeSliceData=>match xs with
          |[_]=>some (.sliceData,xs,.pure)
          |_=>none
        | .unsafeString=>match c.argTypes.toList with
          |[t, _]=>match tt.get (key t)with
           | some ti=>match ti.k with
             | .ptr e=>match tt.get (key e)with
               | some te=>match te.k,Nat.beq te.size 1 with
                 |.int .u8,true=>some (.unsafeStr e,xs,.aE)
                 |_,_=>none
               |none=>none
             |_=>none
           |none=>none
          |_=>none
        | .min=>match xs with
          |[_,_]=>some (.minB,xs,.pure)
          |_=>none
        | .max=>match xs with
          |[_,_]=>some (.maxB,xs,.pure)
          |_=>none
        | .clear=>match c.argTypes.toList with
          |t ::_=>match tt.get (key t)with
           | some ti=>match ti.k with
             | .slice e=>match tt.get (key e)with
               | some te=>match te.zero with
                 |some z=>some (.clearS te.size z,xs,.aE)
                 |none=>none
               |none=>none
             |_=>none
           |none=>none
          |_=>none
        |_=>none
 |_=>none
where
 R4 (tt:TT):List (Nat×Nat×Bool)->Bool
  |[]=>true
  |  (_,t,_)::l=>match tt.get (key t)with
     |some _=>R4 tt l
     |none=>false
 places (tt:TT) (fs:List (Nat×Nat×Bool)):List Nat->Option (List (Nat×Nat))
  |[]=>some []
  |  i ::is=>match nth fs i,places tt fs is with
     | some (off,t,_),some l=>match tt.get (key t)with
       |some ti=>some ((off,ti.size)::l)
       |none=>none
     |_,_=>none
 Ef (te:TI) (z:List AV):AV:=match te.k.isAgg with
  |true=>.agg z
  |  false=>match z with
     |[v]=>v
     |_=>.agg z
 Xn (tt:TT) (t:Nat) (m k v:Operand):Option (ay×List dU×VS):=
  match tt.get (key t),iT [m,k,v]with
  |  some ti,some l=>match ti.k with
     | .map kt _=>match tt.get (key kt)with
       |some tk=>match tk.k with
        |.int _=>some (.mapSet .i,l,.aE)
        |.string=>some (.mapSet .s,l,.aE)
        |.bool=>some (.mapSet .b,l,.aE)
        |_=>none
       |none=>none
     |_=>none
  |_,_=>none
def Na(ops:Array Oper):Option (Nat×Bool)->Option (Option (Pos×Bool))
 |none=>some none
 |  some (j,b)=>match ops[j]? with
    |some o=>match o.dst with
     |some d=>some (some (key d,b))
     |none=>none
    |none=>none
def Sy:List Oper->List Nat->List Nat
 |[],acc=>acc
 |o::os,acc=>Sy os (acc++[o.after.toList.foldl (λs e=>match Region.binds .any e with
   |true=>s ||| 2 ^ e.on ||| (nth acc e.on).getD 0
   |false=>s) 0])
def mT(tt:TT)(nt:Nat)(ops:Array Oper):List Oper->List Nat->Option (List bk)
 |[],_=>some []
 |  o::os,bs=>match Na ops o.guard,mT tt nt ops os bs.tail,acY nt o.dst with
    |some g,some l,true=>match fO tt o.op with
     |some (k,xs,cls)=>some ({ dst:=o.dst.map key,k:=k,xs:=xs,guard:=g,cls:=cls,bC:=bs.headD 0 }::l)
     |none=>some ({ dst:=o.dst.map key,k:= .bad,xs:=[],guard:=g,cls:= .aE,bC:=bs.headD 0 }::l)
    |_,_,_=>none
where
 acY (nt:Nat):Option Tmp->Bool
  |none=>true
  |some d=>Nat.blt d nt
def bk.looks(o:bk):List Pos:=
 (match o.guard with|some (p,_)=>[p]|none=>[])++o.xs.filterMap λ|.t p=>some p|.c _=>none
def Eg(p:Pos):List Pos->Bool
 |[]=>false
 |q::l=>Pos.beq p q||Eg p l
def Im(a b:bk):Bool:=
 (match a.dst with
  |some d=> !Eg d b.looks&&(match b.dst with|some d'=> !Pos.beq d d'|none=>true)
  |none=>true)&&
 (match b.dst with
  |some d=> !Eg d a.looks
  |none=>true)
def uD:List (Nat×bk)->List (Nat×bk)->List (Nat×bk)
 |[],held=>held
 |  (i,o)::l,held=>match o.cls with
    |.aE=>held.filter (λx=>o.bC.testBit x.1)++(i,o)::uD l (held.filter λx=> !o.bC.testBit x.1)
    |_=>uD l (held++[(i,o)])
def Bj:Nat->List bk->List (Nat×bk)
 |_,[]=>[]
 |i,o::os=>(i,o)::Bj (i+1) os
def Eh(m:Nat):Nat->List (Nat×bk)->Bool
 |seen,[]=>Nat.beq seen (2 ^ m - 1)
 |  seen,(i,o)::l=>Nat.blt i m&& !seen.testBit i&&Nat.beq (o.bC &&& seen) o.bC&&(match o.cls with|.aE=>Nat.beq o.bC seen|_=>true)&&
    (l.all λx=>x.2.bC.testBit i||Im o x.2)&&Eh m (seen ||| 2 ^ i) l
def qH (tt:TT)(nt:Nat):Code->Option AC
 |.skip=>some .skip
 |  .region _ ops draw=>match mT tt nt ops ops.toList (Sy ops.toList [])with
    |none=>none
    |some l=>match draw with
     |false=>some (.region l)
     |  true=>match Eh l.length 0 (uD (Bj 0 l) [])with
        |true=>some (.draw (uD (Bj 0 l) []))
        |false=>none
 |  .seq a b=>match qH tt nt a,qH tt nt b with
    |some a,some b=>some (.seq a b)
    |_,_=>none
 |  .cond c a b=>match kG c,qH tt nt a,qH tt nt b with
    |some c,some a,some b=>some (.cond c a b)
    |_,_,_=>none
 |  .block id a=>match qH tt nt a with
    |some a=>some (.block id a)
    |none=>none
 |  .loop a=>match qH tt nt a with
    |some a=>some (.loop a)
    |none=>none
 |.exit id=>some (.exit id)
 |.ret=>some .ret
 |.refuse _=>some (.region [{ dst:=none,k:= .bad,xs:=[],guard:=none,cls:= .aE,bC:=0 }])
 |_=>none
def lS(tt:TT):List ResultVar->Option (List zh)
 |[]=>some []
 |  .tmp t::rs=>match lS tt rs with
    |some l=>some (.tmp (key t)::l)
    |none=>none
 |  .cell a t::rs=>match tt.get (key t),lS tt rs with
    |some ti,some l=>some (.cell (key a) (vQ ti)::l)
    |_,_=>none
def R5(tt:TT)(f:Func):Option cE:=match f.body with
 |  some c=>match qH tt f.ntmps c,lS tt f.results.toList,Nat.ble (f.params.size+f.nfree) f.ntmps with
    |some a,some rs,true=>some { code:=a,nparams:=f.params.size+f.nfree,results:=rs }
    |_,_,_=>none
 |none=>none
structure Loc where
 av:Nat
 base:Nat
 size:Nat
abbrev Cells:=Addr->Option Value
inductive aj(ρ:Pos->Loc)(n:Nat)(C:Cells):AV->Value->Prop where
 |bool (b:Bool):aj ρ n C (.bool b) (.bool b)
 |int (k:IntKind) (i:Int):aj ρ n C (.int k i) (.int k i)
 |str (s:List Nat) (bs:ByteArray) (h:bs.data.toList.map UInt8.toNat=s):aj ρ n C (.str s) (.string bs)
 |iw:aj ρ n C .iw (.pointer none)
 |ptr (b:Pos) (off:Nat) (h:b.toNat<n):aj ρ n C (.ptr b off) (.pointer (some ⟨(ρ b).av,(ρ b).base+off,none⟩))
 |fp (xs:List (List AV)) (i j es:Nat) (av base:Nat) (cell:Nat->Nat->Value)
  (hl:∀(i:Nat)(cs:List AV),xs[i]? =some cs->cs.length=es)
  (hc:∀(i j:Nat)(cs:List AV)(v:AV),xs[i]? =some cs->cs[j]? =some v->C ⟨av,base+i*es+j,none⟩=some (cell i j))
  (hv:∀(i j:Nat)(cs:List AV)(v:AV),xs[i]? =some cs->cs[j]? =some v->aj ρ n C v (cell i j)):
  aj ρ n C (.fp xs i j) (.pointer (some ⟨av,base+i*es+j,none⟩))
 |ah:aj ρ n C .ah (.slice none 0 0)
 |slice (b:Pos) (off len:Nat) (cap:Option Nat) (es aJ:Nat) (a:Addr) (hl:len<=aJ) (hc:∀c,cap=some c->c=aJ)
  (ha:aJ≠0->b.toNat<n/\a=⟨(ρ b).av,(ρ b).base+off,none⟩/\(ρ b).base+off+aJ*es<=(ρ b).size)
  (hk:cap=none->b.toNat<n):
  aj ρ n C (.slice b off len cap es) (.slice (some a) len aJ)
 |fl (xs:List (List AV)) (es aJ:Nat) (a:Addr) (cell:Nat->Nat->Value) (hl:xs.length<=aJ)
  (hs:xs≠[]->a.spot=none)
  (dc:∀(i:Nat)(cs:List AV),xs[i]? =some cs->cs.length=es)
  (hc:∀(i j:Nat)(cs:List AV)(v:AV),xs[i]? =some cs->cs[j]? =some v->C ⟨a.block,a.off+i*es+j,none⟩=some (cell i j))
  (hv:∀(i j:Nat)(cs:List AV)(v:AV),xs[i]? =some cs->cs[j]? =some v->aj ρ n C v (cell i j)):
  aj ρ n C (.fl xs es) (.slice (some a) xs.length aJ)
 |nX:aj ρ n C .nX (.map none)
 |map (b:Pos) (h:b.toNat<n):aj ρ n C (.map b) (.map (some (ρ b).av))
 |func (f:FuncId) (x y:List AV) (x' y':Array Value) (hx:x.length=x'.size) (hy:y.length=y'.size)
  (gJ:∀(i:Nat)(v:AV)(v':Value),x[i]? =some v->x'[i]? =some v'->aj ρ n C v v') (Bk:∀(i:Nat)(v:AV)(v':Value),y[i]? =some v->y'[i]? =some v'->aj ρ n C v v'):
  aj ρ n C (.func f x y) (.func (.func f) x' y')
 |jk:aj ρ n C .jk .nilFunc
 |uG:aj ρ n C .uG .nilIface
 |iface (t:TypeId) (v:AV) (x:Value) (h:aj ρ n C v x):aj ρ n C (.iface t v) (.iface t x)
 |agg (l:List AV) (cs:Array Value) (hl:l.length=cs.size) (h:∀(i:Nat)(v:AV)(v':Value),l[i]? =some v->cs[i]? =some v'->aj ρ n C v v'):
  aj ρ n C (.agg l) (.agg cs)
 |tuple (l:List AV) (cs:Array Value) (hl:l.length=cs.size) (h:∀(i:Nat)(v:AV)(v':Value),l[i]? =some v->cs[i]? =some v'->aj ρ n C v v'):
  aj ρ n C (.tuple l) (.tuple cs)
theorem aj.mono{ρ ρ':Pos->Loc}{n n':Nat}{C:Cells}{v:AV}{x:Value}(h:aj ρ n C v x)
  (aT:∀b:Pos,b.toNat<n->ρ' b=ρ b) (hn:n<=n'):aj ρ' n' C v x:=by
 induction h with
 |bool b=>exact .bool b
 |int k i=>exact .int k i
 |str s bs h=>exact .str s bs h
 |iw=>exact .iw
 |ptr b off h=>rw[<-aT b h];exact .ptr b off (by omega)
 |fp xs i j es av base cell hl hc _ ih=>exact .fp xs i j es av base cell hl hc ih
 |ah=>exact .ah
 |slice b off len cap es aJ a hl hc ha hk=>
  refine .slice b off len cap es aJ a hl hc (λh0=> ?_) (λh0=>by have:=hk h0;omega);obtain⟨h1,h2,h3⟩:=ha h0;rw[aT b h1];exact⟨by omega,h2,h3⟩
 |fl xs es aJ a cell hl hs dc hc _ ih=>exact .fl xs es aJ a cell hl hs dc hc ih
 |nX=>exact .nX
 |map b h=>rw[<-aT b h];exact .map b (by omega)
 |func f x y x' y' hx hy _ _ Zb Zc=>exact .func f x y x' y' hx hy Zb Zc
 |jk=>exact .jk
 |uG=>exact .uG
 |iface t v x _ ih=>exact .iface t v x ih
 |agg l cs hl _ ih=>exact .agg l cs hl ih
 |tuple l cs hl _ ih=>exact .tuple l cs hl ih
def au(ρ:Pos->Loc)(n:Nat)(C:Cells)(l:List AV)(xs:List Value):Prop:=
 l.length=xs.length/\∀(i:Nat)(v:AV)(x:Value),l[i]? =some v->xs[i]? =some x->aj ρ n C v x
section
variable{ρ ρ':Pos->Loc}{n n':Nat}{C:Cells}
theorem au.mono{l:List AV}{xs:List Value}(h:au ρ n C l xs)(aT:∀b:Pos,b.toNat<n->ρ' b=ρ b)(hn:n<=n'):
 au ρ' n' C l xs:=⟨h.1,λi v x hv hx=>(h.2 i v x hv hx).mono aT hn⟩
theorem au.nil:au ρ n C [] []:=⟨rfl,λ_ _ _ h=>by simp at h⟩
theorem au.cons{v:AV}{x:Value}{l:List AV}{xs:List Value}(h:aj ρ n C v x)(hs:au ρ n C l xs):au ρ n C (v::l) (x::xs):=
 ⟨by simp[hs.1],λi u y hu hy=>by
  cases i with
  |zero=>simp at hu hy;subst hu;subst hy;exact h
  |succ i=>simp at hu hy;exact hs.2 i u y hu hy⟩
theorem au.cons_inv{v:AV}{l:List AV}{xs:List Value}(h:au ρ n C (v::l) xs):∃x tT,xs=x::tT/\aj ρ n C v x/\au ρ n C l tT:=by
 cases xs with
 |nil=>have:=h.1;simp at this
 |cons x tT=>
  exact⟨x,tT,rfl,h.2 0 v x rfl rfl,by have:=h.1;simpa using this,λi u y hu hy=>h.2 (i+1) u y (by simpa using hu) (by simpa using hy)⟩
theorem au.mL{xs:List Value}(h:au ρ n C [] xs):xs=[]:=by
 have:=h.1;cases xs with
 |nil=>rfl
 |cons a b=>simp at this
theorem au.append{l m:List AV}{xs ys:List Value}(h:au ρ n C l xs)(k:au ρ n C m ys):au ρ n C (l++m) (xs++ys):=by
 refine⟨by simp[h.1,k.1],λi v x hv hx=> ?_⟩;rcases Zh8 i l.length with hi|hi
 .rw[Zc1 hi]at hv;rw[Zc1 (by rw[<-h.1];exact hi)]at hx;exact h.2 i v x hv hx
 .rw[Zc2 hi]at hv;rw[Zc2 (by rw[<-h.1];exact hi), <-h.1]at hx;exact k.2 _ v x hv hx
theorem au.take{l:List AV}{xs:List Value}(h:au ρ n C l xs)(m:Nat):au ρ n C (l.take m) (xs.take m):=by
 refine⟨by simp[h.1],λi v x hv hx=> ?_⟩;rw[Zc0]at hv hx;split at hv
 .rename_i hi;rw[Za6 hi]at hx;exact h.2 i v x hv hx
 .cases hv
theorem au.drop{l:List AV}{xs:List Value}(h:au ρ n C l xs)(m:Nat):au ρ n C (l.drop m) (xs.drop m):=by refine⟨by simp[h.1],λi v x hv hx=> ?_⟩;rw[Zc6]at hv hx;exact h.2 _ v x hv hx
theorem au.aH{l vs:List AV}{xs ys:List Value}(h:au ρ n C l xs)(k:au ρ n C vs ys)(i:Nat):
  au ρ n C (Go.Ai.aH l i vs) (Go.Ai.aH xs i ys):=by
 unfold Go.Ai.aH;rw[k.1];exact(h.take i).append (k.append (h.drop _))
theorem au.get{l:List AV}{xs:List Value}(h:au ρ n C l xs){i:Nat}{v:AV}(hv:l[i]? =some v):∃x,xs[i]? =some x/\aj ρ n C v x:=by
 have hi:i<xs.length:=by rw[<-h.1];exact(Za0.1 hv).1
 exact⟨xs[i],H4 hi,h.2 i v _ hv (H4 hi)⟩
theorem aj.Bl{l:List AV}{cs:Array Value}(h:au ρ n C l cs.toList):aj ρ n C (.agg l) (.agg cs):=
 .agg l cs (by simpa using h.1) λi v x hv hx=>h.2 i v x hv (by simpa using hx)
theorem aj.q8{l:List AV}{cs:Array Value}(h:au ρ n C l cs.toList):aj ρ n C (.tuple l) (.tuple cs):=
 .tuple l cs (by simpa using h.1) λi v x hv hx=>h.2 i v x hv (by simpa using hx)
theorem aj.Ba{l:List AV}{x:Value}(h:aj ρ n C (.agg l) x):∃cs,x= .agg cs/\au ρ n C l cs.toList:=by
 cases h with|agg _ cs hl h=>exact⟨cs,rfl,by simpa using hl,λi v x hv hx=>h i v x hv (by simpa using hx)⟩
theorem aj.Qm{l:List AV}{x:Value}(h:aj ρ n C (.tuple l) x):∃cs,x= .tuple cs/\au ρ n C l cs.toList:=by
 cases h with|tuple _ cs hl h=>exact⟨cs,rfl,by simpa using hl,λi v x hv hx=>h i v x hv (by simpa using hx)⟩
theorem aj.yq{f:FuncId}{a b:List AV}{x:Value}(h:aj ρ n C (.func f a b) x):
  ∃a' b',x= .func (.func f) a' b'/\au ρ n C a a'.toList/\au ρ n C b b'.toList:=by
 cases h with
 |func _ _ _ a' b' hx hy h1 h2=>exact⟨a',b',rfl,⟨by simpa using hx,λi v x hv hx=>h1 i v x hv (by simpa using hx)⟩,⟨by simpa using hy,λi v x hv hx=>h2 i v x hv (by simpa using hx)⟩⟩
theorem aj.cells{v:AV}{x:Value}(h:aj ρ n C v x):au ρ n C v.cells x.cells.toList:=by
 by_cases hv:∃l,v= .agg l
 .obtain⟨l,rfl⟩:=hv;obtain⟨cs,rfl,hs⟩:=h.Ba;exact hs
 .have h1:v.cells=[v]:=(by cases v<;>first|rfl|exact absurd ⟨_,rfl⟩ hv);have h2:x.cells= #[x]:=(by cases h<;>first|rfl|exact absurd ⟨_,rfl⟩ hv);rw[h1,h2];exact au.cons h au.nil
def lU(ρ:Pos->Loc)(n:Nat)(C:Cells)(L:Loc)(w:World):AB->Prop
 |.cells cs fz=>∃(c:Array Value) (e:TypeId) (fr:Nat×Nat),w.heap[L.av]? =some (.cells c e fr)/\c.size=L.size/\L.base+cs.length<=c.size/\
  au ρ n C cs ((c.toList.drop L.base).take cs.length)/\∀i,fz<=i->L.base+i<c.size->¬(fr.1<=L.base+i/\L.base+i<fr.2)
 |.map es clock=>∃(es':Array MapEntry),w.heap[L.av]? =some (.map es' clock)/\es.length=es'.size/\
  ∀(i:Nat)(e:AV×AV×Nat)(e':MapEntry),es[i]? =some e->es'[i]? =some e'->aj ρ n C e.1 e'.key/\aj ρ n C e.2.1 e'.val/\e.2.2=e'.born
 |.jq s pos=>∃(bs:ByteArray),w.heap[L.av]? =some (.stringIter bs pos)/\bs.data.toList.map UInt8.toNat=s/\L.base=0
 |.typed t cs=>∃(c:Array Value) (fr:Nat×Nat),w.heap[L.av]? =some (.cells c t fr)/\c.size=L.size/\L.base+cs.length<=c.size/\
  au ρ n C cs ((c.toList.drop L.base).take cs.length)/\(∀i,0<=i->L.base+i<c.size->¬(fr.1<=L.base+i/\L.base+i<fr.2))/\L.base=0
theorem lU.mono{L:Loc}{w:World}{x:AB}(h:lU ρ n C L w x)(aT:∀b:Pos,b.toNat<n->ρ' b=ρ b)(hn:n<=n'):lU ρ' n' C L w x:=by
 cases x with
 |cells cs fz=>obtain⟨c,e,fr,h1,h2,h3,h4,h5⟩:=h;exact⟨c,e,fr,h1,h2,h3,h4.mono aT hn,h5⟩
 |map es clock=>obtain⟨es',h1,h2,h3⟩:=h;exact⟨es',h1,h2,λi e e' he ku=>let⟨a,b,c⟩:=h3 i e e' he ku;⟨a.mono aT hn,b.mono aT hn,c⟩⟩
 |jq s pos=>exact h
 |typed t cs=>obtain⟨c,fr,h1,h2,h3,h4,h5⟩:=h;exact⟨c,fr,h1,h2,h3,h4.mono aT hn,h5⟩
theorem lU.of_heap{L:Loc}{w w':World}{x:AB}(h:lU ρ n C L w x)(hw:w'.heap[L.av]? =w.heap[L.av]?):lU ρ n C L w' x:=by
 cases x with
 |cells cs fz=>obtain⟨c,e,fr,h1,h2⟩:=h;exact⟨c,e,fr,by rw[hw];exact h1,h2⟩
 |map es clock=>obtain⟨es',h1,h2⟩:=h;exact⟨es',by rw[hw];exact h1,h2⟩
 |jq s pos=>obtain⟨bs,h1,h2⟩:=h;exact⟨bs,by rw[hw];exact h1,h2⟩
 |typed t cs=>obtain⟨c,fr,h1,h2⟩:=h;exact⟨c,fr,by rw[hw];exact h1,h2⟩
end
structure aX(ρ:Pos->Loc)(C:Cells)(st:St)(w:World):Prop where
 live:∀b x,st.heap.get b=some x->b.toNat<st.next.toNat/\(ρ b).av<w.heap.size/\lU ρ st.next.toNat C (ρ b) w x
 inj:∀b b' x x',st.heap.get b=some x->st.heap.get b'=some x'->(ρ b).av=(ρ b').av->b=b'
 dx:∀a v,C a=some v->w.cell? a=some v/\∀b x,st.heap.get b=some x->(ρ b).av≠a.block
 whole:∀a v,C a=some v->∀o,C ⟨a.block,o,none⟩=none->w.cell? ⟨a.block,o,none⟩=none
structure jN(ρ:Pos->Loc)(st:St)(w:World)(ρ':Pos->Loc)(st':St)(w':World):Prop where
 os:w'.os=w.os
 tape:w'.tape=w.tape
 output:w'.output=w.output
 size:w.heap.size<=w'.heap.size
 block:∀k,k<w.heap.size->(∀b x,st.heap.get b=some x->(ρ b).av≠k)->w'.heap[k]? =w.heap[k]?
 nr:∀b x,st'.heap.get b=some x->(∃b' x',st.heap.get b'=some x'/\(ρ b').av=(ρ' b).av)\/w.heap.size<=(ρ' b).av
theorem jN.refl(ρ:Pos->Loc)(st:St)(w:World):jN ρ st w ρ st w:=⟨rfl,rfl,rfl,Za5 _,λ_ _ _=>rfl,λb x h=>.inl ⟨b,x,h,rfl⟩⟩
theorem jN.trans{ρ dJ lV:Pos->Loc}{st aM iy:St}{w w1 w2:World}(h:jN ρ st w dJ aM w1)(k:jN dJ aM w1 lV iy w2):jN ρ st w lV iy w2 where
 os:=k.os.trans h.os
 tape:=k.tape.trans h.tape
 output:=k.output.trans h.output
 size:=Zc8 h.size k.size
 block q hq hn:=by
  rw[k.block q (Zc7 hq h.size) λb x hb e=> ?_,h.block q hq hn];rcases h.nr b x hb with⟨b',x',h1,h2⟩|h1
  .exact hn b' x' h1 (h2.trans e)
  .rw[e]at h1;omega
 nr b x hb:=by
  rcases k.nr b x hb with⟨b',x',h1,h2⟩|h1
  . rcases h.nr b' x' h1 with⟨b'',x'',h3,h4⟩|h3
    .exact .inl ⟨b'',x'',h3,h4.trans h2⟩
    .right;rw[<-h2];exact h3
  .exact .inr (Zc8 h.size h1)
def fh(ρ:Pos->Loc)(n:Nat)(C:Cells)(fr:Fr)(tmps:Array Value):Prop:=
 ∀p v,fr.get p=some v->∃x,tmps[p.toNat - 1]? =some x/\aj ρ n C v x
theorem Pos.toNat_pos(p:Pos):0<p.toNat:=by
 induction p with
 |h=>simp[Pos.toNat]
 |o p ih=>simp[Pos.toNat];exact ih
 |i p ih=>simp[Pos.toNat]
theorem Pos.toNat_inj:∀{p q:Pos},p.toNat=q.toNat->p=q
 |.h,.h,_=>rfl
 |.h,.o q,hq=>by have:=q.toNat_pos;simp[Pos.toNat]at hq;omega
 |.h,.i q,hq=>by have:=q.toNat_pos;simp[Pos.toNat]at hq;omega
 |.o p,.h,hq=>by have:=p.toNat_pos;simp[Pos.toNat]at hq;omega
 |.o p,.o q,hq=>by simp[Pos.toNat]at hq;rw[Pos.toNat_inj (p:=p) (q:=q) (by omega)]
 |.o p,.i q,hq=>by simp[Pos.toNat]at hq;omega
 |.i p,.h,hq=>by have:=p.toNat_pos;simp[Pos.toNat]at hq;omega
 |.i p,.o q,hq=>by simp[Pos.toNat]at hq;omega
 |.i p,.i q,hq=>by simp[Pos.toNat]at hq;rw[Pos.toNat_inj (p:=p) (q:=q) (by omega)]
theorem Pos.aB(p:Pos):p.succ.toNat=p.toNat+1:=by
 induction p with
 |h=>rfl
 |o p ih=>simp[Pos.succ,Pos.toNat]
 |i p ih=>simp[Pos.succ,Pos.toNat,ih];omega
theorem Pos.FA:∀(f m:Nat),0<m->m<2 ^ (f+1)->(Pos.Sx f m).toNat=m
 |0,m,hp,hl=>by
  simp at hl;have:m=1:=by omega
  subst this;rfl
 |f +   1,m,hp,hl=>by
  unfold Pos.Sx;split
  . (rename_i hb;have:=Za4 hb;have:m=1:=by omega);subst this;rfl
  . rename_i hb;have h1:1<m:=by
        rcases Zh8 1 m with hh|hh
        .exact hh
        .rw[Nat.ble_eq_true_of_le hh]at hb;cases hb
    have h2:m / 2<2 ^ (f+1):=(by have:2 ^ (f+1+1)=2*2 ^ (f+1):=(by rw[Nat.pow_succ];omega);omega);split
    .   rename_i he;have:=Za2 he;simp only[Pos.toNat];rw[Pos.FA f _ (by omega) h2];omega
    .   rename_i he;have:=Zb7 he;simp only[Pos.toNat];rw[Pos.FA f _ (by omega) h2];omega
theorem eO(n:Nat):(key n).toNat=n+1:=Pos.FA _ (n+1) (by omega) Nat.lt_log2_self
theorem T.dm{α:Type}(p:Pos):(T.e:T α).get p=none:=by cases p<;>rfl
theorem T.eF{α:Type}(x:Option α)(p:Pos)(t:T α):(T.put x p t).get p=x:=by
 induction p generalizing t with
 |h=>cases t<;>rfl
 |o p ih=>cases t<;>exact ih _
 |i p ih=>cases t<;>exact ih _
theorem T.bw{α:Type}(x:Option α){p q:Pos}(h:p≠q)(t:T α):(T.put x p t).get q=t.get q:=by
 induction p generalizing q t with
 |h=>cases q with
  |h=>exact absurd rfl h
  |o q=>cases t<;>simp[T.put,T.get,T.dm]
  |i q=>cases t<;>simp[T.put,T.get,T.dm]
 |o p ih=>cases q with
  |h=>cases t<;>simp[T.put,T.get]
  | o q=>cases t with
    |e=>simp only[T.put,T.get];rw[ih (λe=>h (by rw[e])),T.dm]
    |n l v r=>simp only[T.put,T.get];exact ih (λe=>h (by rw[e])) l
  |i q=>cases t<;>simp[T.put,T.get,T.dm]
 |i p ih=>cases q with
  |h=>cases t<;>simp[T.put,T.get]
  |o q=>cases t<;>simp[T.put,T.get,T.dm]
  | i q=>cases t with
    |e=>simp only[T.put,T.get];rw[ih (λe=>h (by rw[e])),T.dm]
    |n l v r=>simp only[T.put,T.get];exact ih (λe=>h (by rw[e])) r
theorem Pos.beq_eq:∀{p q:Pos},p.beq q=true↔p=q
 |.h,.h=>by simp[Pos.beq]
 |.h,.o q=>by simp[Pos.beq]
 |.h,.i q=>by simp[Pos.beq]
 |.o p,.h=>by simp[Pos.beq]
 |.o p,.o q=>by simp only[Pos.beq,Pos.o.injEq];exact Pos.beq_eq
 |.o p,.i q=>by simp[Pos.beq]
 |.i p,.h=>by simp[Pos.beq]
 |.i p,.o q=>by simp[Pos.beq]
 |.i p,.i q=>by simp only[Pos.beq,Pos.i.injEq];exact Pos.beq_eq
end
noncomputable section
section
variable{R:Type}
def lW{α:Type}(p:Pos):T α->Option α:=
 Pos.rec (motive:=λ_=>T α->Option α)
    (λt=>T.rec (motive:=λ_=>Option α) none (λ_ v _ _ _=>v) t)
    (λ_ ih t=>T.rec (motive:=λ_=>Option α) none (λl _ _ _ _=>ih l) t)
    (λ_ ih t=>T.rec (motive:=λ_=>Option α) none (λ_ _ r _ _=>ih r) t) p
def nu{α:Type}(x:Option α)(p:Pos):T α->(T α->R)->R:=
 Pos.rec (motive:=λ_=>T α->(T α->R)->R)
    (λt k=>T.rec (motive:=λ_=>R) (k (.n .e x .e)) (λl _ r _ _=>k (.n l x r)) t)
    (λ_ ih t k=>T.rec (motive:=λ_=>R) (ih .e λl=>k (.n l none .e)) (λl v r _ _=>ih l λl=>k (.n l v r)) t)
    (λ_ ih t k=>T.rec (motive:=λ_=>R) (ih .e λr=>k (.n .e none r)) (λl v r _ _=>ih r λr=>k (.n l v r)) t) p
def nv(n:Nat)(k:Nat->R):R:=Nat.rec (motive:=λ_=>R) (k 0) (λm _=>k (Nat.succ m)) n
def LP(n:Int)(k:Int->R):R:=match n with
 |.ofNat m=>nv m λm=>k (.ofNat m)
 |.negSucc m=>nv m λm=>k (.negSucc m)
def Qn(b:Bool)(k:Bool->R):R:=match b with
 |true=>k true
 |false=>k false
def vS{α:Type}(l:List α):(List α->R)->R:=
 List.rec (motive:=λ_=>(List α->R)->R) (λk=>k []) (λa _ ih k=>ih λt=>k (a::t)) l
def FB(p:Pos):(Pos->R)->R:=
 Pos.rec (motive:=λ_=>(Pos->R)->R) (λk=>k .h) (λ_ ih k=>ih λp=>k (.o p)) (λ_ ih k=>ih λp=>k (.i p)) p
def Sz(o:Option Nat)(k:Option Nat->R):R:=match o with
 |none=>k none
 |some n=>nv n λn=>k (some n)
def Io(v:AV)(k:AV->R):R:=match v with
 |.bool b=>Qn b λb=>k (.bool b)
 |.int i n=>LP n λn=>k (.int i n)
 |.str s=>vS s λs=>k (.str s)
 |.ptr b o=>FB b λb=>nv o λo=>k (.ptr b o)
 |.slice b o l c es=>FB b λb=>nv o λo=>nv l λl=>Sz c λc=>k (.slice b o l c es)
 |.map b=>FB b λb=>k (.map b)
 |.func f x y=>vS x λx=>vS y λy=>k (.func f x y)
 |.agg l=>vS l λl=>k (.agg l)
 |v=>k v
def J3(l:List AV):(List AV->R)->R:=
 List.rec (motive:=λ_=>(List AV->R)->R) (λk=>k []) (λa _ ih k=>Io a λa=>ih λt=>k (a::t)) l
def pX(v:AV)(k:AV->R):R:=match v with
 |.tuple l=>J3 l λl=>k (.tuple l)
 |v=>Io v k
def Bb(x:AB)(k:AB->R):R:=match x with
 |.cells cs fz=>vS cs λcs=>nv fz λfz=>k (.cells cs fz)
 |.map es c=>vS es λes=>nv c λc=>k (.map es c)
 |.jq s p=>nv p λp=>k (.jq s p)
 |.typed t cs=>vS cs λcs=>k (.typed t cs)
def Nb(p:Pos):(Pos->R)->R:=
 Pos.rec (motive:=λ_=>(Pos->R)->R) (λk=>k (.o .h)) (λq _ k=>k (.i q)) (λ_ ih k=>ih λp=>k (.o p)) p
variable(z:R)
def Qo(fr:Fr)(x:dU)(k:AV->R):R:=match x with
 |  .t p=>match lW p fr with
    |some v=>k v
    |none=>z
 |.c v=>k v
def LQ(fr:Fr)(xs:List dU):(List AV->R)->R:=
 List.rec (motive:=λ_=>(List AV->R)->R) (λk=>k []) (λx _ ih k=>Qo z fr x λv=>ih λvs=>k (v::vs)) xs
def Bc(fr:Fr)(g:Option (Pos×Bool))(yes no:R):R:=match g with
 |none=>yes
 |  some (p,want)=>match lW p fr with
    |some (.bool b)=>match b==want with
     |true=>yes
     |false=>no
    |some (.tuple _)=>no
    |_=>z
def ki(fr:Fr)(d:Option Pos)(v:AV)(k:Fr->R):R:=match d with
 |some p=>nu (some v) p fr k
 |none=>k fr
def delK(o:Option Pos)(h:T AB)(k:T AB->R):R:=match o with
 |some b=>nu none b h k
 |none=>k h
def OW(o:Option (Pos×AB))(h:T AB)(k:T AB->R):R:=match o with
 |some (b,x)=>Bb x λx=>nu (some x) b h k
 |none=>k h
abbrev iA(R:Type):=FuncId->List AV->St->(AV->St->R)->R
def aa5(st:St)(del:Option Pos)(set:Option (Pos×AB))(new:Option AB)(k:St->R):R:=
 delK del st.heap λh=>OW set h λh=>match new with
    |some x=>Bb x λx=>nu (some x) st.next h λh=>Nb st.next λn=>k { heap:=h,next:=n }
    |none=>k { heap:=h,next:=st.next }
def J4(call:iA R)(op:ay)(xs:List AV)(st:St)(k:AV->St->R):R:=
 match op.run (λb=>lW b st.heap) st.next xs with
 |some (.val v)=>pX v λv=>k v st
 |some (.aE v del set new)=>pX v λv=>aa5 st del set new λst=>k v st
 |some (.call f args)=>vS args λargs=>call f args st k
 |none=>z
def OX(call:iA R)(ops:List bk):Fr->St->(Fr->St->R)->R:=
 List.rec (motive:=λ_=>Fr->St->(Fr->St->R)->R) (λfr st k=>k fr st)
    (λo _ ih fr st k=>Bc z fr o.guard
     (LQ z fr o.xs λxs=>J4 z call o.k xs st λv st=>ki fr o.dst v λfr=>ih fr st k)
     (ki fr o.dst .undef λfr=>ih fr st k)) ops
def FC (bC:Nat)(h:T AB)(recs:List Rec):(T AB->R)->R:=
 List.rec (motive:=λ_=>(T AB->R)->R) (λk=>k h)
    (fun r _ ih k=>match r.c with
     |  .new id av=>match bC.testBit r.idx with
        |true=>ih λh'=>nu (some av) id h' k
        |false=>ih k
     |.aE _ _=>k h
     |.pure=>ih k) recs
def SA(h:T AB)(l:List (Pos×AB)):(T AB->R)->R:=
 List.rec (motive:=λ_=>(T AB->R)->R) (λk=>k h) (λx _ ih k=>ih λh'=>nu (some x.2) x.1 h' k) l
def SB(op:ay)(xs:List AV)(v:AV)(h:T AB):Bool:=
 match op.run (λb=>lW b h) .h xs with
 |some (.val u)=>e9 u v
 |_=>false
def oJ(bC:Nat)(op:ay)(xs:List AV)(v:AV):List (Pos×AB)->List Rec->Bool
 |_,[]=>true
 |  up,r::rs=>match r.c with
    | .new id av=>match bC.testBit r.idx with
      |true=>oJ bC op xs v ((id,av)::up) rs
      |false=>oJ bC op xs v up rs
    | .aE base _=>match bC.testBit r.idx with
      |true=>true
      |false=>(FC bC base rs λh=>SA h up λh=>SB op xs v h)&&oJ bC op xs v up rs
    |.pure=>oJ bC op xs v up rs
def FD (call:iA R)(ops:List (Nat×bk)):List Rec->T AB->Fr->St->(Fr->St->R)->R:=
 List.rec ( motive:=λ_=>List Rec->T AB->Fr->St->(Fr->St->R)->R)
    (λ_ _ fr st k=>k fr st)
    (fun jo _ ih recs base fr st k=>Bc z fr jo.2.guard
     (LQ  z fr jo.2.xs λxs=>match jo.2.cls with
        | .new=>match jo.2.k.run (λ_=>none) st.next xs with
          |some (.aE v none none (some av))=>pX v λv=>Bb av λav=>ki fr jo.2.dst v λfr=>Nb st.next λn=>nu (some av) st.next st.heap λh=>
              ih ({ idx:=jo.1,o:=jo.2,v:=v,c:= .new st.next av,nx:=n }::recs) base fr { heap:=h,next:=n } k
          |_=>z
        |.aE=>J4 z call jo.2.k xs st λv st'=>ki fr jo.2.dst v λfr=>ih ({ idx:=jo.1,o:=jo.2,v:=v,c:= .aE base st'.heap,nx:=st'.next }::recs) st'.heap fr st' k
        | _ =>match jo.2.k.run (λ_=>none) .h xs with
          |some (.val v)=>pX v λv=>ki fr jo.2.dst v λfr=>ih ({ idx:=jo.1,o:=jo.2,v:=v,c:= .pure,nx:=st.next }::recs) base fr st k
          | _ =>FC jo.2.bC base recs λh=>match jo.2.k.run (λb=>lW b h) .h xs with
            | some (.val v)=>pX v λv=>match oJ jo.2.bC jo.2.k xs v [] recs with
              |true=>ki fr jo.2.dst v λfr=>ih ({ idx:=jo.1,o:=jo.2,v:=v,c:= .pure,nx:=st.next }::recs) base fr st k
              |false=>z
            |_=>z)
     (ki fr jo.2.dst .undef λfr=>ih ({ idx:=jo.1,o:=jo.2,v:= .undef,c:= .pure,nx:=st.next }::recs) base fr st k)) ops
abbrev R6(R:Type):=AC->Fr->St->(Fr->St->R)->(Nat->Fr->St->R)->(Fr->St->R)->R
def oK(call:iA R)(ih:R6 R):R6 R
 |.skip,fr,st,kn,_,_=>kn fr st
 |.region ops,fr,st,kn,_,_=>OX z call ops fr st kn
 |.draw ops,fr,st,kn,_,_=>FD z call ops [] st.heap fr st kn
 |.seq a b,fr,st,kn,kx,kr=>ih a fr st (λfr st=>ih b fr st kn kx kr) kx kr
 |  .cond x a b,fr,st,kn,kx,kr=>Qo z fr x λv=>match v with
    |.bool true=>ih a fr st kn kx kr
    |.bool false=>ih b fr st kn kx kr
    |_=>z
 | .block id a,fr,st,kn,kx,kr=>ih a fr st kn (λqG fr st=>match Nat.beq qG id with
     |true=>kn fr st
     |false=>kx qG fr st) kr
 |.loop a,fr,st,kn,kx,kr=>ih a fr st (λfr st=>ih (.loop a) fr st kn kx kr) kx kr
 |.exit id,fr,st,_,kx,_=>kx id fr st
 |.ret,fr,st,_,_,kr=>kr fr st
def Nc(call:iA R)(n:Nat):R6 R:=
 Nat.rec (motive:=λ_=>R6 R) (λ_ _ _ _ _ _=>z) (λ_ ih=>oK z call ih) n
def yu(vs:List AV):Nat->Fr->(Fr->R)->R:=
 List.rec (motive:=λ_=>Nat->Fr->(Fr->R)->R) (λ_ fr k=>k fr)
    (λv _ ih i fr k=>nu (some v) (key i) fr λfr=>ih (i+1) fr k) vs
def yw(st:St)(fr:Fr)(rs:List zh)(k:AV->R):R:=
 match cw (λb=>lW b st.heap) fr rs with
 |  some vs=>J3 vs λvs=>match vs with
    |[v]=>k v
    |vs=>k (.tuple vs)
 |none=>z
def CL (O:dZ  )(G:T cE)(m:Nat)(d:Nat):iA R:=
 Nat.rec (motive:=λ_=>iA R) (λ_ _ _ _=>z)
    (fun _ ih f args st k=>match O f with
     |  some s=>match s args st with
        |some (v,st')=>pX v λv=>k v st'
        |none=>z
     |  none=>match lW (key f) G with
        |some F=>match Nat.beq args.length F.nparams with
         |true=>yu args 0 .e λfr=>Nc z ih m F.code fr st
              (λfr st=>yw z st fr F.results λv=>k v st)
              (λ_ _ _=>z)
              (λfr st=>yw z st fr F.results λv=>k v st)
         |false=>z
        |none=>z) d
end
end
end Go.Ai
