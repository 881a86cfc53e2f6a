/- An evaluator over plain values, its compiler and its relation to worlds. -/
import Derived.Orders
import Derived.Below
set_option linter.all false
def H0:=@Option.some.injEq
def H4:=@List.getElem?_eq_getElem
def H5:=@decide_eq_true
def Za0:=@Nat.eq_of_beq_eq_true
def Za1:=@List.getElem?_eq_some_iff
def Za2:=@decide_eq_false
def Za3:=@Nat.le_of_ble_eq_true
def Za4:=@Nat.le_refl
def Za5:=@if_neg
def Za6:=@List.mem_cons_of_mem
def Za7:=@Bool.and_eq_true
def Za8:=@if_pos
def Za9:=@List.mem_cons
def Zb0:=@List.getElem?_cons_zero
def Zb1:=@List.eq_nil_of_length_eq_zero
def Zb2:=@List.length_map
def Zb3:=@Prod.mk.injEq
def Zb4:=@Nat.ne_of_beq_eq_false
def Zb5:=@List.getElem?_eq_none
def Zb6:=@List.mem_of_getElem?
def Zb7:=@List.getElem?_map
def Zb8:=@List.getElem?_take
def Zb9:=@List.getElem_mem
def Zc0:=@List.getD_eq_getElem?_getD
def Zc1:=@List.getElem?_append_left
def Zc2:=@List.mem_cons_self
def Zc3:=@List.getElem?_append_right
def Zc4:=@Nat.le_trans
def Zc5:=@Nat.lt_of_lt_of_le
def Zc6:=@List.map_cons
def Zc7:=@Nat.zero_add
def Zc8:=@List.getElem?_drop
def Zc9:=@Array.getElem?_eq_some_iff
def Zd0:=@List.all_eq_true
def Zd1:=@List.take_succ_eq_append_getElem
def Zd2:=@List.mem_singleton
def Zd3:=@List.mem_iff_getElem?
def Zd4:=@Option.map_eq_some_iff
def Zd5:=@Option.bind_some
def Zd6:=@Array.getElem?_setIfInBounds_ne
def Zd7:=@List.map_append
def Zd8:=@List.mem_append
def Zd9:=@List.getElem?_cons_succ
def Ze0:=@List.length_append
def Ze1:=@decide_eq_true_eq
def Ze2:=@List.length_cons
def Ze3:=@List.drop_zero
def Ze4:=@List.not_mem_nil
def Ze5:=@Option.map_some
def Ze6:=@Array.getElem?_eq_getElem
def Ze7:=@List.drop_eq_getElem_cons
def Ze8:=@List.append_nil
def Ze9:=@Nat.add_sub_cancel
def Zf0:=@Nat.add_zero
def Zf1:=@Array.length_toList
def Zf2:=@List.nil_append
def Zf3:=@List.cons_append
def Zf4:=@List.mem_map
def Zf5:=@Bool.true_and
def Zf6:=@List.drop_append_of_le_length
def Zf7:=@List.map_nil
def Zf8:=@List.map_map
def Zf9:=@List.take_of_length_le
def Zg0:=@List.cons.injEq
def Zg1:=@Array.getElem?_toList
def Zg2:=@of_decide_eq_true
def Zg3:=@Nat.mul_le_mul_right
def Zg4:=@Bool.false_eq_true
def Zg5:=@List.mem_append_left
def Zg6:=@Array.getElem?_append_left
def Zg7:=@Option.some.inj
def Zg8:=@if_true
def Zg9:=@Nat.le_max_right
def Zh0:=@List.flatten_cons
def Zh1:=@Bool.not_eq_true'
def Zh2:=@Nat.add_assoc
def Zh3:=@if_false
def Zh4:=@Bool.eq_iff_iff
def Zh5:=@List.length_take
def Zh6:=@List.take_length
def Zh7:=@Array.getD_eq_getD_getElem?
def Zh8:=@Nat.lt_or_ge
def Zh9:=@List.ext_getElem?
def Zi0:=@Int.toNat_natCast
def Zi1:=@Bool.or_eq_true
def Zi2:=@Nat.le_max_left
def Zi3:=@List.mem_append_right
def Zi4:=@Nat.add_mul
def Zi5:=@List.append_assoc
def Zi6:=@Nat.mod_lt
def Zi7:=@List.range_succ
def Zi8:=@List.map_congr_left
def Zi9:=@Nat.succ_mul
def Zj0:=@or_false
def Zj1:=@Function.comp_def
def Zj2:=@Bool.and_self
def Zj3:=@Option.getD_some
def Zj4:=@Nat.mod_eq_of_lt
def Zj5:=@Nat.zero_le
def Zj6:=@Nat.mul_one
def Zj7:=@Nat.min_eq_left
def Zj8:=@List.take_left'
def Zj9:=@Array.getElem?_setIfInBounds
def Zk0:=@Array.mem_of_getElem?
def Zk1:=@List.take_append_drop
def Zk2:=@Array.mem_toList_iff
def Zk3:=@List.range_eq_range'
def Zk4:=@List.mem_range
def Zk5:=@List.mem_iff_getElem
def Zk6:=@decide_true
def Zk7:=@List.getElem?_range
def Zk8:=@Bool.false_or
def Zk9:=@Bool.and_true
def Zl0:=@of_decide_eq_false
def Zl1:=@Array.ext'
def Zl2:=@List.mem_filterMap
def Zl3:=@List.filter_cons_of_pos
def Zl4:=@List.filter_cons_of_neg
def Zl5:=@List.size_toArray
def Zl6:=@and_true
def Zl7:=@List.getElem_take
def Zl8:=@List.flatMap_cons
def Zl9:=@Array.getElem?_modify
def Zm0:=@UInt8.lt_iff_toNat_lt
def Zm1:=@List.contains_iff_mem
def Zm2:=@List.length_filter_le
def Zm3:=@Nat.le_add_right
def Zm4:=@Array.eq_empty_of_size_eq_zero
def Zm5:=@List.range'_succ
def Zm6:=@List.getElem_map
def Zm7:=@Int.natCast_emod
def Zm8:=@Nat.lt_irrefl
def Zm9:=@List.map_take
def Zn0:=@Array.toList_extract
def Zn1:=@Nat.one_mul
def Zn2:=@List.getElem?_set_ne
def Zn3:=@List.length_nil
def Zn4:=@beq_eq_false_iff_ne
def Zn5:=@Nat.sub_self
def Zn6:=@Array.toList_setIfInBounds
def Zn7:=@Nat.mod_eq_sub_mod
def Zn8:=@Nat.eq_zero_or_pos
def Zn9:=@Bool.not_false
def Zo0:=@List.take_take
def Zo1:=@List.drop_drop
def Zo2:=@List.take_zero
def Zo3:=@Int.fdiv_eq_ediv_of_nonneg
def Zo4:=@Int.emod_lt_of_pos
def Zo5:=@List.contains_cons
def Zo6:=@List.take_add_one
def Zo7:=@List.length_range
def Zo8:=@Array.toList_map
def Zo9:=@List.length_drop
def Zp0:=@List.isEmpty_map
def Zp1:=@Nat.sub_zero
def Zp2:=@Nat.blt_eq
def Zp3:=@UInt8.toNat_inj
def Zp4:=@List.foldl_cons
def Zp5:=@List.mem_filter
def Zp6:=@Int.ediv_nonneg
def Zp7:=@List.nodup_cons
def Zp8:=@Int.emod_nonneg
namespace Go.Ai
section
inductive Pos where
 |h
 |o (p:Pos)
 |i (p:Pos)
 deriving DecidableEq,Inhabited
def Pos.toNat:Pos->Nat
 |.h=>1
 |.o p=>2*p.toNat
 |.i p=>2*p.toNat+1
def Pos.succ:Pos->Pos
 |.h=>.o .h
 |.o p=>.i p
 |.i p=>.o p.succ
def Pos.Qt:Nat->Nat->Pos
 |0,_=>.h
 |  f+1,n=>match Nat.ble n 1 with
    |true=>.h
    |false=>match Nat.beq (n % 2) 0 with
     |true=>.o (Pos.Qt f (n / 2))
     |false=>.i (Pos.Qt f (n / 2))
def key(n:Nat):Pos:=Pos.Qt (n+1).log2 (n+1)
def Pos.beq:Pos->Pos->Bool
 |.h,.h=>true
 |.o a,.o b=>a.beq b
 |.i a,.i b=>a.beq b
 |_,_=>false
inductive T(α:Type) where
 |e
 |n (l:T α) (v:Option α) (r:T α)
 deriving Inhabited
def T.get{α:Type}:Pos->T α->Option α
 |_,.e=>none
 |.h,.n _ v _=>v
 |.o p,.n l _ _=>l.get p
 |.i p,.n _ _ r=>r.get p
def T.put{α:Type}(x:Option α):Pos->T α->T α
 |.h,.e=>.n .e x .e
 |.h,.n l _ r=>.n l x r
 |.o p,.e=>.n (T.put x p .e) none .e
 |.o p,.n l v r=>.n (T.put x p l) v r
 |.i p,.e=>.n .e none (T.put x p .e)
 |.i p,.n l v r=>.n l v (T.put x p r)
inductive AV where
 |bool (b:Bool)
 |int (k:IntKind) (n:Int)
 |str (s:List Nat)
 |gP
 |ptr (b:Pos) (off:Nat)
 |fp (xs:List (List AV)) (i j:Nat)
 |ah
 |slice (b:Pos) (off len:Nat) (cap:Option Nat) (es:Nat)
 |fl (xs:List (List AV)) (es:Nat)
 |nj
 |map (b:Pos)
 |func (f:FuncId) (first captured:List AV)
 |iI
 |th
 |iface (t:TypeId) (v:AV)
 |agg (l:List AV)
 |tuple (l:List AV)
 deriving Inhabited
inductive AB where
 |cells (cs:List AV) (fz:Nat)
 |map (es:List (AV×AV×Nat)) (clock:Nat)
 |iJ (s:List Nat) (pos:Nat)
 |typed (t:TypeId) (cs:List AV)
 deriving Inhabited
def AV.cells:AV->List AV
 |.agg l=>l
 |v=>[v]
def AV.undef:AV:= .tuple []
def AV.one:AV->Bool
 |.agg _=>false
 |.tuple _=>false
 |_=>true
def aQ:List AV->Bool
 |[]=>true
 |  v::l=>match v.one with
    |true=>aQ l
    |false=>false
inductive bV where
 |val (v:AV)
 |aD (v:AV) (del:Option Pos) (set:Option (Pos×AB)) (new:Option AB)
 |call (f:FuncId) (args:List AV)
 deriving Inhabited
def nth{α:Type}:List α->Nat->Option α
 |[],_=>none
 |a::_,0=>some a
 |_::l,n+1=>nth l n
def cut{α:Type}(l:List α)(i n:Nat):Option (List α):=
 match Nat.ble (i+n) l.length with
 |true=>some ((l.drop i).take n)
 |false=>none
def aM{α:Type}(l:List α)(i:Nat)(vs:List α):List α:=l.take i++(vs++l.drop (i+vs.length))
def gX:List Nat->List Nat->Bool
 |[],[]=>true
 |  a::x,b::y=>match Nat.beq a b with
    |true=>gX x y
    |false=>false
 |_,_=>false
def aB:List Nat->List Nat->Bool
 |_,[]=>false
 |[],_::_=>true
 |  a::x,b::y=>match Nat.blt a b with
    |true=>true
    |false=>match Nat.beq a b with
     |true=>aB x y
     |false=>false
inductive PK where
 |b
 |i
 |s
 deriving Inhabited
inductive e8 where
 |num
 |bool
 |ptr
 |slice
 |map
 |func
 |iface
 |struct (fs:List (Nat×PK))
 deriving Inhabited
inductive abk where
 |int (k:IntKind)
 |same
 |bytes
 |ofBytes
 deriving Inhabited
inductive LK where
 |s
 |l
 |m
 deriving Inhabited
inductive ay where
 |move
 |pick
 |alloc (zero:List AV)
 |box
 |build (zero:List AV) (places:List (Nat×Nat))
 |buildSlice (es len:Nat) (zero:List AV) (places:List Nat)
 |load (n:Option Nat)
 |store (n:Nat)
 |nilCheck
 |bin (op:BinOp) (q:e8)
 |un (op:UnOp)
 |conv (k:abk)
 |mkIface (t:TypeId)
 |mkFunc (f:FuncId) (Gh:Nat)
 |mkMap
 |lookup (pk:PK) (zero:AV) (ok:Bool)
 |mapSet (pk:PK)
 |mkSlice (es bytes:Nat) (zero:List AV)
 |sliceS (lo hi:Bool)
 |sliceL (es:Nat) (lo hi mx:Bool)
 |fieldA (off:Nat)
 |idxA (es:Nat) (arr:Option Nat)
 |field (off:Nat) (n:Option Nat)
 |idxS
 |extract (i:Nat)
 |callF (f:FuncId)
 |callV
 |lenB (k:LK)
 |capB
 |append (es bytes:Nat)
 |copyB (es:Nat)
 |minB
 |maxB
 |clearS (es:Nat) (zero:List AV)
 |rangeS
 |nextS
 |allocT (t:TypeId) (zero:List AV)
 |appendT (e:TypeId) (bytes:Nat)
 |toU
 |fromU (u:TypeId) (n:Nat)
 |sliceData
 |unsafeStr (e:TypeId)
 |bad
 deriving Inhabited
def NS(k:IntKind):Int:=match k with
 |.i8=> -128|.i16=> -32768|.i32=> -2147483648|.i64=> -9223372036854775808|_=>0
def NT(k:IntKind):Int:=match k with
 |.i8=>127|.i16=>32767|.i32=>2147483647|.i64=>9223372036854775807
 |.u8=>255|.u16=>65535|.u32=>4294967295|.u64=>18446744073709551615
def ax(k:IntKind)(n:Int):Int:=
 match Int.decLe (NS k) n with
 |  .isTrue _=>match Int.decLe n (NT k)with
    |.isTrue _=>n
    |.isFalse _=>k.wrap n
 |.isFalse _=>k.wrap n
def zN(a b:IntKind):Bool:=match decEq a b with
 |.isTrue _=>true
 |.isFalse _=>false
def sU(a b:Int):Bool:=match Int.decEq a b with
 |.isTrue _=>true
 |.isFalse _=>false
def uv(a b:Int):Bool:=match Int.decLt a b with
 |.isTrue _=>true
 |.isFalse _=>false
def PV(a b:Int):Bool:=match Int.decLe a b with
 |.isTrue _=>true
 |.isFalse _=>false
def wq:PK->AV->AV->Option Bool
 |.b,.bool a,.bool b=>some (a==b)
 |  .i,.int k a,.int k' b=>match zN k k' with
    |true=>some (sU a b)
    |false=>none
 |.s,.str a,.str b=>some (gX a b)
 |_,_,_=>none
def eqFields(xs ys:List AV):List (Nat×PK)->Option Bool
 |[]=>some true
 |  (o,pk)::fs=>match nth xs o,nth ys o with
    | some a,some b=>match wq pk a b with
      |some true=>eqFields xs ys fs
      |some false=>some false
      |none=>none
    |_,_=>none
def JV:e8->AV->AV->Option Bool
 |.bool,.bool a,.bool b=>some (a==b)
 |.ptr,.gP,.gP=>some true
 |.ptr,.gP,.ptr _ _=>some false
 |.ptr,.ptr _ _,.gP=>some false
 |.ptr,.gP,.fp _ _ _=>some false
 |.ptr,.fp _ _ _,.gP=>some false
 |  .ptr,.ptr b o,.ptr b' o'=>match Pos.beq b b',Nat.beq o o' with
    |true,true=>some true
    |_,_=>none
 |.slice,.ah,.ah=>some true
 |.slice,.ah,.slice _ _ _ _ _=>some false
 |.slice,.slice _ _ _ _ _,.ah=>some false
 |.slice,.ah,.fl _ _=>some false
 |.slice,.fl _ _,.ah=>some false
 |.map,.nj,.nj=>some true
 |.map,.nj,.map _=>some false
 |.map,.map _,.nj=>some false
 |.func,.iI,.iI=>some true
 |.func,.iI,.func _ _ _=>some false
 |.func,.func _ _ _,.iI=>some false
 |.iface,.th,.iface _ _=>some false
 |.iface,.iface _ _,.th=>some false
 |.struct fs,.agg xs,.agg ys=>eqFields xs ys fs
 |_,_,_=>none
def lR (op:BinOp)(q:e8):AV->AV->Option AV
 |  .int k a,.int k' b=>match op with
    | .shl=>match uv b 0 with
      |true=>none
      |false=>some (.int k (ax k (a*2 ^ (min b.toNat k.bits))))
    | .shr=>match uv b 0 with
      |true=>none
      |false=>some (.int k (a.fdiv (2 ^ (min b.toNat k.bits))))
    | op=>match zN k k' with
      |false=>none
      | true=>match op with
        |.add=>some (.int k (ax k (a+b)))
        |.sub=>some (.int k (ax k (a - b)))
        |.mul=>some (.int k (ax k (a*b)))
        | .quo=>match sU b 0 with
          |true=>none
          |false=>some (.int k (ax k (a.tdiv b)))
        | .rem=>match sU b 0 with
          |true=>none
          |false=>some (.int k (a.tmod b))
        |.and=>some (.int k (k.wrap (BitVec.ofInt k.bits a &&& BitVec.ofInt k.bits b).toNat))
        |.or=>some (.int k (k.wrap (BitVec.ofInt k.bits a ||| BitVec.ofInt k.bits b).toNat))
        |.xor=>some (.int k (k.wrap (BitVec.ofInt k.bits a ^^^ BitVec.ofInt k.bits b).toNat))
        |.andNot=>some (.int k (k.wrap (BitVec.ofInt k.bits a &&& ~~~BitVec.ofInt k.bits b).toNat))
        |.eql=>some (.bool (sU a b))
        |.neq=>some (.bool (!sU a b))
        |.lss=>some (.bool (uv a b))
        |.leq=>some (.bool (PV a b))
        |.gtr=>some (.bool (uv b a))
        |.geq=>some (.bool (PV b a))
        |_=>none
 |  .str a,.str b=>match op with
    | .add=>match Nat.ble (a.length+b.length) 9223372036854775807 with
      |true=>some (.str (a++b))
      |false=>none
    |.eql=>some (.bool (gX a b))
    |.neq=>some (.bool (!gX a b))
    |.lss=>some (.bool (aB a b))
    |.leq=>some (.bool (aB a b||gX a b))
    |.gtr=>some (.bool (!(aB a b||gX a b)))
    |.geq=>some (.bool (!aB a b))
    |_=>none
 |  x,y=>match op with
    | .eql=>match JV q x y with
      |some b=>some (.bool b)
      |none=>none
    | .neq=>match JV q x y with
      |some b=>some (.bool (!b))
      |none=>none
    |_=>none
def unA(op:UnOp):AV->Option AV
 |  .bool b=>match op with
    |.not=>some (.bool (!b))
    |_=>none
 |  .int k n=>match op with
    |.neg=>some (.int k (ax k (0 - n)))
    |_=>none
 |_=>none
def b6(cells:List AV):List (Nat×Nat)->List AV->Option (List AV)
 |[],[]=>some cells
 |  (off,size)::ps,v::vs=>
    match Nat.beq v.cells.length size,Nat.ble (off+size) cells.length with
    |true,true=>b6 (aM cells off v.cells) ps vs
    |_,_=>none
 |_,_=>none
def bL{α:Type}(l:List α):Nat->List α
 |0=>[]
 |n+1=>l++bL l n
def rL:AV->Option Nat
 |  .int _ n=>match n with
    |.ofNat m=>some m
    |.negSucc _=>none
 |_=>none
def DG(n:Nat):AV:= .int .i64 (.ofNat n)
def rows(es:Nat)(cs:List AV):Nat->List (List AV)
 |0=>[]
 |n+1=>cs.take es::rows es (cs.drop es) n
def bounds:(lo hi mx:Bool)->List AV->Option (Option Nat×Option Nat×Option Nat)
 |false,false,false,[]=>some (none,none,none)
 |  true,false,false,[a]=>match rL a with
    |some l=>some (some l,none,none)
    |none=>none
 |  false,true,false,[b]=>match rL b with
    |some h=>some (none,some h,none)
    |none=>none
 |  true,true,false,[a,b]=>match rL a,rL b with
    |some l,some h=>some (some l,some h,none)
    |_,_=>none
 |  false,true,true,[b,c]=>match rL b,rL c with
    |some h,some m=>some (none,some h,some m)
    |_,_=>none
 |  true,true,true,[a,b,c]=>match rL a,rL b,rL c with
    |some l,some h,some m=>some (some l,some h,some m)
    |_,_,_=>none
 |_,_,_,_=>none
def bX(es n:Nat)(H:Pos->Option AB):AV->Option (List AV)
 |.ah=>some []
 |  .slice b off _ _ _=>match Nat.beq (n*es) 0 with
    |true=>some []
    |false=>match H b with
     |some (.cells cs _)=>cut cs off (n*es)
     |_=>none
 |  .fl xs es'=>match Nat.beq es es',Nat.ble n xs.length with
    |true,true=>some (xs.take n).flatten
    |_,_=>none
 |  .str s=>match Nat.beq es 1,Nat.ble n s.length with
    |true,true=>some ((s.take n).map λc=>.int .u8 (.ofNat c))
    |_,_=>none
 |_=>none
def cS:AV->Option Nat
 |.ah=>some 0
 |.slice _ _ n _ _=>some n
 |.fl xs _=>some xs.length
 |.str s=>some s.length
 |_=>none
def iK(pk:PK)(k:AV):List (AV×AV×Nat)->Nat->Option (Option (Nat×AV))
 |[],_=>some none
 |  (k',v,_)::es,i=>match wq pk k k' with
    |some true=>some (some (i,v))
    |some false=>iK pk k es (i+1)
    |none=>none
def UY:PK->AV->Bool
 |.b,.bool _=>true
 |.i,.int _ _=>true
 |.s,.str _=>true
 |_,_=>false
def mM(k v:AV):List (AV×AV×Nat)->Nat->List (AV×AV×Nat)
 |[],_=>[]
 |(_,_,born)::es,0=>(k,v,born)::es
 |e::es,i+1=>e::mM k v es i
def TJ(s:List Nat)(pos:Nat):Option (Nat×Nat):=
 match nth s pos with
 |  some c=>match Nat.blt c 128 with
    |true=>some (c,1)
    |false=>none
 |none=>none
def bytesOf:List AV->Option (List Nat)
 |[]=>some []
 |  .int .u8 (.ofNat n)::l=>match Nat.blt n 256,bytesOf l with
    |true,some s=>some (n::s)
    |_,_=>none
 |_=>none
def Ip(_H:Pos->Option AB)(_next:Pos):List AV->Option bV
 |[x]=>some (.val x)
 |_=>none
def ML(_H:Pos->Option AB)(_next:Pos):List AV->Option bV
 |  [c,a,b]=>match c with
    |.bool true=>some (.val a)
    |.bool false=>some (.val b)
    |_=>none
 |_=>none
def DH(_H:Pos->Option AB)(next:Pos)(zero:List AV):List AV->Option bV
 |[]=>some (.aD (.ptr next 0) none none (some (.cells zero 0)))
 |_=>none
def K3(_H:Pos->Option AB)(next:Pos):List AV->Option bV
 |[x]=>some (.aD (.ptr next 0) none none (some (.cells x.cells 0)))
 |_=>none
def DI(_H:Pos->Option AB)(_next:Pos)(zero:List AV)(places:List (Nat×Nat)):List AV->Option bV
 |  xs=>match b6 zero places xs with
    |some cs=>some (.val (.agg cs))
    |none=>none
def oX(_H:Pos->Option AB)(next:Pos)(es len:Nat)(zero:List AV)(places:List Nat):List AV->Option bV
 |  xs=>match b6 (bL zero len) (places.map λi=>(i*es,es)) xs with
    |some cs=>some (.aD (.slice next 0 len (some len) es) none none (some (.cells cs 0)))
    |none=>none
def qP (H :Pos->Option AB)(_next:Pos)(n:Option Nat):List AV->Option bV
 |  [p] =>match p with
    | .ptr b off=>match H b with
      | some (.cells cs _)=>match n with
        | none=>match nth cs off with
          |some v=>some (.val v)
          |none=>none
        | some n=>match cut cs off n with
          |some vs=>some (.val (.agg vs))
          |none=>none
      | some (.typed _ cs)=>match n with
        | none=>match nth cs off with
          |some v=>some (.val v)
          |none=>none
        | some n=>match cut cs off n with
          |some vs=>some (.val (.agg vs))
          |none=>none
      |_=>none
    | .fp xs i j=>match nth xs i with
      | some cs=>match n with
        | none=>match nth cs j with
          |some v=>some (.val v)
          |none=>none
        | some n=>match cut cs j n with
          |some vs=>some (.val (.agg vs))
          |none=>none
      |none=>none
    |_=>none
 |_=>none
def zO (H:Pos->Option AB)(_next:Pos)(n:Nat):List AV->Option bV
 |  [p, v]=>match p with
    | .ptr b off=>match H b with
      | some (.cells cs fz)=>
        match Nat.beq v.cells.length n,Nat.ble (off+n) cs.length,Nat.ble fz off,aQ v.cells with
        |true,true,true,true=>some (.aD .undef none (some (b,.cells (aM cs off v.cells) fz)) none)
        |_,_,_,_=>none
      | some (.typed t cs)=>
        match Nat.beq v.cells.length n,Nat.ble (off+n) cs.length,aQ v.cells with
        |true,true,true=>some (.aD .undef none (some (b,.typed t (aM cs off v.cells))) none)
        |_,_,_=>none
      |_=>none
    |_=>none
 |_=>none
def B4(_H:Pos->Option AB)(_next:Pos):List AV->Option bV
 |  [x]=>match x with
    |.ptr _ _=>some (.val x)
    |.fp _ _ _=>some (.val x)
    |.func _ _ _=>some (.val x)
    |_=>none
 |_=>none
def gy(_H:Pos->Option AB)(_next:Pos)(op:BinOp)(q:e8):List AV->Option bV
 |  [x,y]=>match lR op q x y with
    |some v=>some (.val v)
    |none=>none
 |_=>none
def UZ(_H:Pos->Option AB)(_next:Pos)(op:UnOp):List AV->Option bV
 |  [x]=>match unA op x with
    |some v=>some (.val v)
    |none=>none
 |_=>none
def tJ (H:Pos->Option AB)(next:Pos)(k:abk):List AV->Option bV
 |  [x] =>match k,x with
    |.int k,.int _ n=>some (.val (.int k (ax k n)))
    |.same,.str s=>some (.val (.str s))
    |.bytes,.str s=>some (.aD (.slice next 0 s.length none 1) none none (some (.cells (s.map λc=>.int .u8 (.ofNat c)) 0)))
    |.ofBytes,.ah=>some (.val (.str []))
    | .ofBytes,.slice b off n _ _=>match Nat.beq n 0 with
      |true=>some (.val (.str []))
      | false=>match H b with
        |some (.cells cs _)=>match cut cs off n with
         |some l=>match bytesOf l with
          |some s=>some (.val (.str s))
          |none=>none
         |none=>none
        |_=>none
    |_,_=>none
 |_=>none
def DJ(_H:Pos->Option AB)(_next:Pos)(t:TypeId):List AV->Option bV
 |[x]=>some (.val (.iface t x))
 |_=>none
def Bk(_H:Pos->Option AB)(_next:Pos)(f:FuncId)(Gh:Nat):List AV->Option bV
 |xs=>some (.val (.func f (xs.take Gh) (xs.drop Gh)))
def DK(_H:Pos->Option AB)(next:Pos):List AV->Option bV
 |_=>some (.aD (.map next) none none (some (.map [] 0)))
def tK (H:Pos->Option AB)(_next:Pos)(pk:PK)(zero:AV)(ok:Bool):List AV->Option bV
 |  [m, k]=>
    match (match m with
      | .nj=>match UY pk k with
        |true=>some none
        |false=>none
      | .map b=>match H b with
        |some (.map es _)=>iK pk k es 0
        |_=>none
      |_=>none)with
    |some (some (_,v))=>some (.val (match ok with|true=>.tuple [v,.bool true]|false=>v))
    |some none=>some (.val (match ok with|true=>.tuple [zero,.bool false]|false=>zero))
    |none=>none
 |_=>none
def tL (H:Pos->Option AB)(_next:Pos)(pk:PK):List AV->Option bV
 |  [m, k,v]=>match m with
    | .map b=>match H b with
      | some (.map es clock)=>match UY pk k,iK pk k es 0 with
        |true,some (some (i,_))=>some (.aD .undef none (some (b,.map (mM k v es i) clock)) none)
        |true,some none=>some (.aD .undef none (some (b,.map (es++[(k,v,clock)]) (clock+1))) none)
        |_,_=>none
      |_=>none
    |_=>none
 |_=>none
def uw(_H:Pos->Option AB)(next:Pos)(es bytes:Nat)(zero:List AV):List AV->Option bV
 |  [l,c]=>match rL l,rL c with
    | some l,some c=>match Nat.ble l c,Nat.ble (bytes*c) 281474976710656,Nat.ble c 9223372036854775807 with
      |true,true,true=>some (.aD (.slice next 0 l (some c) es) none none (some (.cells (bL zero c) 0)))
      |_,_,_=>none
    |_,_=>none
 |_=>none
def Gi(_H:Pos->Option AB)(_next:Pos)(lo hi:Bool):List AV->Option bV
 |  x ::bs=>match x,bounds lo hi false bs with
    | .str s,some (l,h,_)=>
      let h:=h.getD s.length
      let l:=l.getD 0
      match Nat.ble l h,Nat.ble h s.length with
      |true,true=>some (.val (.str ((s.take h).drop l)))
      |_,_=>none
    |_,_=>none
 |_=>none
def nU (_H:Pos->Option AB)(_next:Pos)(es:Nat)(lo hi mx:Bool):List AV->Option bV
 |  x ::bs=>match x,bounds lo hi mx bs with
    | .slice b off len cap es',some (l,h,m)=>
      match Nat.beq es es',Nat.ble (l.getD 0) (h.getD len)with
      | true,true=>match cap,m with
        | some c,some m=>match Nat.ble (h.getD len) m,Nat.ble m c with
          |true,true=>some (.val (.slice b (off+l.getD 0*es) (h.getD len - l.getD 0) (some (m - l.getD 0)) es))
          |_,_=>none
        | some c,none=>match Nat.ble (h.getD len) c with
          |true=>some (.val (.slice b (off+l.getD 0*es) (h.getD len - l.getD 0) (some (c - l.getD 0)) es))
          |false=>none
        | none,some m=>match Nat.ble (h.getD len) m,Nat.ble m len with
          |true,true=>some (.val (.slice b (off+l.getD 0*es) (h.getD len - l.getD 0) (some (m - l.getD 0)) es))
          |_,_=>none
        | none,none=>match Nat.ble (h.getD len) len with
          |true=>some (.val (.slice b (off+l.getD 0*es) (h.getD len - l.getD 0) none es))
          |false=>none
      |_,_=>none
    | .fl xs es',some (l,h,m)=>
      match Nat.beq es es' with
      | true=>match m with
        | some m=>match Nat.beq (l.getD 0) 0,Nat.beq (h.getD xs.length) 0,Nat.beq m 0 with
          |true,true,true=>some (.val (.slice .h 0 0 (some 0) es))
          |_,_,_=>none
        | none=>match Nat.ble (l.getD 0) (h.getD xs.length),Nat.ble (h.getD xs.length) xs.length with
          |true,true=>some (.val (.fl ((xs.take (h.getD xs.length)).drop (l.getD 0)) es))
          |_,_=>none
      |false=>none
    | .ah,some (l,h,m)=>match Nat.beq (l.getD 0) 0,Nat.beq (h.getD 0) 0,Nat.beq (m.getD 0) 0 with
        |true,true,true=>some (.val .ah)
        |_,_,_=>none
    |_,_=>none
 |_=>none
def Gj(_H:Pos->Option AB)(_next:Pos)(off:Nat):List AV->Option bV
 |  [x]=>match x with
    |.ptr b o=>some (.val (.ptr b (o+off)))
    |.fp xs i j=>some (.val (.fp xs i (j+off)))
    |_=>none
 |_=>none
def nk (_H:Pos->Option AB)(_next:Pos)(es:Nat)(arr:Option Nat):List AV->Option bV
 |  [x, i]=>match rL i with
    | some i=>match arr,x with
      | none,.slice b off len _ _=>match Nat.blt i len with
        |true=>some (.val (.ptr b (off+i*es)))
        |false=>none
      | none,.fl xs es'=>match Nat.blt i xs.length,Nat.beq es es' with
        |true,true=>some (.val (.fp xs i 0))
        |_,_=>none
      | some n,.ptr b off=>match Nat.blt i n with
        |true=>some (.val (.ptr b (off+i*es)))
        |false=>none
      |_,_=>none
    |none=>none
 |_=>none
def JW (_H:Pos->Option AB)(_next:Pos)(off:Nat)(n:Option Nat):List AV->Option bV
 |  [x] =>match x with
    | .agg cs=>match n with
      | none=>match nth cs off with
        |some v=>some (.val v)
        |none=>none
      |some n=>some (.val (.agg ((cs.drop off).take n)))
    |_=>none
 |_=>none
def Iq(_H:Pos->Option AB)(_next:Pos):List AV->Option bV
 |  [x,i]=>match x,rL i with
    | .str s,some i=>match nth s i with
      |some c=>some (.val (.int .u8 (.ofNat c)))
      |none=>none
    |_,_=>none
 |_=>none
def zd(_H:Pos->Option AB)(_next:Pos)(i:Nat):List AV->Option bV
 |  [x]=>match x with
    | .tuple vs=>match nth vs i with
      |some v=>some (.val v)
      |none=>none
    |_=>none
 |_=>none
def JX(_H:Pos->Option AB)(_next:Pos)(f:FuncId):List AV->Option bV
 |xs=>some (.call f xs)
def JY(_H:Pos->Option AB)(_next:Pos):List AV->Option bV
 |  x::xs=>match x with
    |.func f first captured=>some (.call f (first++(xs++captured)))
    |_=>none
 |_=>none
def CM(H:Pos->Option AB)(_next:Pos)(k:LK):List AV->Option bV
 |  [x]=>match k,x with
    |.m,.nj=>some (.val (DG 0))
    | .m,.map b=>match H b with
      |some (.map es _)=>some (.val (DG es.length))
      |_=>none
    |.s,.str s=>some (.val (DG s.length))
    |.l,.ah=>some (.val (DG 0))
    |.l,.slice _ _ n _ _=>some (.val (DG n))
    |.l,.fl xs _=>some (.val (DG xs.length))
    |_,_=>none
 |_=>none
def fu (H:  Pos->Option AB)(next:Pos)(es bytes:Nat):List AV->Option bV
 |  [s, x]=> match cS s,cS x with
    | some n,some m=>
      match Nat.ble ((2*(n+m)+768)*bytes) 281474976710656,Nat.ble (n+m) 9223372036854775807 with
      | true,true=>match Nat.beq m 0,s with
        |true,.slice b off n c es'=>some (.val (.slice b off n c es'))
        |true,.fl xs es'=>some (.val (.fl xs es'))
        |true,.ah=>some (.val .ah)
        |false,.ah=>match bX es m H x with
         |some new=>some (.aD (.slice next 0 m none es) none none (some (.cells new 0)))
         |none=>none
        |false,.slice b off n (some c) es'=>
         match Nat.ble (n+m) c with
         |  true=>match H b,bX es m H x with
            |some (.cells cs fz),some new=>match Nat.ble (off+(n+m)*es) cs.length,Nat.ble fz (off+n*es)&&Nat.beq es es',aQ new with
             |true,true,true=>some (.aD (.slice b off (n+m) (some c) es) none (some (b,.cells (aM cs (off+n*es) new) fz)) none)
             |_,_,_=>none
            |_,_=>none
         |  false=>match bX es n H s,bX es m H x with
            |some dz,some new=>some (.aD (.slice next 0 (n+m) none es) none none (some (.cells (dz++new) 0)))
            |_,_=>none
        |false,.slice b off n none es'=>
         match H b,bX es n H s,bX es m H x with
         |  some (.cells _ fz),some dz,some new=>match Nat.ble fz (off+n*es)&&Nat.beq es es',aQ new with
            |true,true=>some (.aD (.slice next 0 (n+m) none es) (some b) none (some (.cells (dz++new) (fz - off))))
            |_,_=>none
         |_,_,_=>none
        |_,_=>none
      |_,_=>none
    |_,_=>none
 |_=>none
def wu (H : Pos->Option AB)(_next:Pos)(es:Nat):List AV->Option bV
 |  [d, x]=>match cS d,cS x with
    | some n,some m=>
      let k:=min m n
      match Nat.beq k 0 with
      | true=>match d with
        |.str _=>none
        |_=>some (.val (DG 0))
      | false=>match d with
        | .slice b off _ _ _=>match H b,bX es k H x with
          | some (.cells cs fz),some new=>match Nat.ble (off+k*es) cs.length,Nat.ble fz off,aQ new with
            |true,true,true=>some (.aD (DG k) none (some (b,.cells (aM cs off new) fz)) none)
            |_,_,_=>none
          |_,_=>none
        |_=>none
    |_,_=>none
 |_=>none
def zB(_H:Pos->Option AB)(_next:Pos):List AV->Option bV
 |  [x,y]=>match x,y with
    |.int k a,.int _ b=>some (.val (.int k (match uv b a with|true=>b|false=>a)))
    |.str a,.str b=>some (.val (.str (match aB a b||gX a b with|true=>a|false=>b)))
    |_,_=>none
 |_=>none
def zC(_H:Pos->Option AB)(_next:Pos):List AV->Option bV
 |  [x,y]=>match x,y with
    |.int k a,.int _ b=>some (.val (.int k (match uv a b with|true=>b|false=>a)))
    |.str a,.str b=>some (.val (.str (match aB a b with|true=>b|false=>a)))
    |_,_=>none
 |_=>none
def tM (H:Pos->Option AB)(_next:Pos)(es:Nat)(zero:List AV):List AV->Option bV
 |  [x] =>match x with
    |.ah=>some (.val .undef)
    | .slice b off n _ _=>match Nat.beq n 0 with
      |true=>some (.val .undef)
      | false=>match H b with
        |some (.cells cs fz)=>match Nat.ble (off+n*es) cs.length,Nat.ble fz off,aQ (bL zero n)with
         |true,true,true=>some (.aD .undef none (some (b,.cells (aM cs off (bL zero n)) fz)) none)
         |_,_,_=>none
        |_=>none
    |_=>none
 |_=>none
def Bl(_H:Pos->Option AB)(next:Pos):List AV->Option bV
 |  [x]=>match x with
    |.str s=>some (.aD (.ptr next 0) none none (some (.iJ s 0)))
    |_=>none
 |_=>none
def DM (H:Pos->Option AB)(_next:Pos):List AV->Option bV
 |  [x] =>match x with
    | .ptr b 0=>match H b with
      | some (.iJ s pos)=>match Nat.blt pos s.length with
        |true=>match TJ s pos with
         |some (c,w)=>some (.aD (.tuple [.bool true,DG pos,.int .i32 (.ofNat c)]) none (some (b,.iJ s (pos+w))) none)
         |none=>none
        |false=>some (.val (.tuple [.bool false]))
      |_=>none
    |_=>none
 |_=>none
def Bm(_H:Pos->Option AB)(next:Pos)(t:TypeId)(zero:List AV):List AV->Option bV
 |[]=>some (.aD (.ptr next 0) none none (some (.typed t zero)))
 |_=>none
def qQ (H:Pos->Option AB)(next:Pos)(e:TypeId)(bytes:Nat):List AV->Option bV
 |  [s, x]=> match x with
    | .str u=>match s with
      | .ah=>match Nat.ble ((2*(0+u.length)+768)*bytes) 281474976710656,Nat.ble (0+u.length) 9223372036854775807 with
        |true,true=>match Nat.beq u.length 0 with
         |true=>some (.val .ah)
         |false=>some (.aD (.slice next 0 (0+u.length) none 1) none none (some (.typed e (u.map λc=>.int .u8 (.ofNat c)))))
        |_,_=>none
      | .slice b 0 n none 1=>match Nat.ble ((2*(n+u.length)+768)*bytes) 281474976710656,Nat.ble (n+u.length) 9223372036854775807 with
        |true,true=>match Nat.beq u.length 0 with
         |true=>some (.val (.slice b 0 n none 1))
         |false=>match H b with
          |  some (.typed e' cs)=>match Nat.beq e e',cut cs 0 n with
             |true,some dz=>some (.aD (.slice next 0 (n+u.length) none 1) (some b) none (some (.typed e (dz++u.map λc=>.int .u8 (.ofNat c)))))
             |_,_=>none
          |_=>none
        |_,_=>none
      |_=>none
    |_=>none
 |_=>none
def K4 (H:Pos->Option AB)(_next:Pos):List AV->Option bV
 |  [x] =>match x with
    |.gP=>some (.val .gP)
    | .ptr b off=>match H b with
      | some (.typed _ cs)=>match Nat.blt off cs.length with
        |true=>some (.val (.ptr b off))
        |false=>none
      |_=>none
    |_=>none
 |_=>none
def DN (H:Pos->Option AB)(_next:Pos)(u:TypeId)(n:Nat):List AV->Option bV
 |  [x] =>match x with
    |.gP=>some (.val .gP)
    | .ptr b 0=>match H b with
      | some (.typed t cs)=>match Nat.beq t u,Nat.ble n cs.length with
        |true,true=>some (.val (.ptr b 0))
        |_,_=>none
      |_=>none
    |_=>none
 |_=>none
def qk(_H:Pos->Option AB)(_next:Pos):List AV->Option bV
 |  [x]=>match x with
    |.ah=>some (.val .gP)
    | .slice b off n _ _=>match Nat.beq n 0 with
      |true=>none
      |false=>some (.val (.ptr b off))
    |_=>none
 |_=>none
def nr (H :Pos->Option AB)(_next:Pos)(e:TypeId):List AV->Option bV
 |  [x, y]=> match y with
    | .int .i64 (.ofNat n)=>match Nat.beq n 0 with
      | true=>match x with
        |.gP=>some (.val (.str []))
        |.ptr _ _=>some (.val (.str []))
        |_=>none
      | false=>match x with
        | .ptr b 0=>match H b with
          |some (.typed e' cs)=>match Nat.beq e e',cut cs 0 n,Nat.ble n 9223372036854775807 with
           | true,some l,true=>match bytesOf l with
             |some s=>some (.aD (.str s) (some b) none none)
             |none=>none
           |_,_,_=>none
          |_=>none
        |_=>none
    |_=>none
 |_=>none
def ay.run(H:Pos->Option AB)(next:Pos):ay->List AV->Option bV
 |.move=>Ip H next
 |.pick=>ML H next
 |.alloc zero=>DH H next zero
 |.box=>K3 H next
 |.build zero places=>DI H next zero places
 |.buildSlice es len zero places=>oX H next es len zero places
 |.load n=>qP H next n
 |.store n=>zO H next n
 |.nilCheck=>B4 H next
 |.bin op q=>gy H next op q
 |.un op=>UZ H next op
 |.conv k=>tJ H next k
 |.mkIface t=>DJ H next t
 |.mkFunc f Gh=>Bk H next f Gh
 |.mkMap=>DK H next
 |.lookup pk zero ok=>tK H next pk zero ok
 |.mapSet pk=>tL H next pk
 |.mkSlice es bytes zero=>uw H next es bytes zero
 |.sliceS lo hi=>Gi H next lo hi
 |.sliceL es lo hi mx=>nU H next es lo hi mx
 |.fieldA off=>Gj H next off
 |.idxA es arr=>nk H next es arr
 |.field off n=>JW H next off n
 |.idxS=>Iq H next
 |.extract i=>zd H next i
 |.callF f=>JX H next f
 |.callV=>JY H next
 |.lenB k=>CM H next k
 |.append es bytes=>fu H next es bytes
 |.copyB es=>wu H next es
 |.minB=>zB H next
 |.maxB=>zC H next
 |.clearS es zero=>tM H next es zero
 |.rangeS=>Bl H next
 |.nextS=>DM H next
 |.allocT t zero=>Bm H next t zero
 |.appendT e bytes=>qQ H next e bytes
 |.toU=>K4 H next
 |.fromU u n=>DN H next u n
 |.sliceData=>qk H next
 |.unsafeStr e=>nr H next e
 |.capB=>λ_=>none
 |.bad=>λ_=>none
inductive dK where
 |t (p:Pos)
 |c (v:AV)
 deriving Inhabited
inductive TM where
 |pure
 |read
 |new
 |aD
 deriving Inhabited
structure bk where
 dst:Option Pos
 k:ay
 xs:List dK
 guard:Option (Pos×Bool)
 cls:TM
 bu:Nat
 deriving Inhabited
inductive AC where
 |skip
 |region (ops:List bk)
 |draw (ops:List (Nat×bk))
 |seq (a b:AC)
 |cond (x:dK) (a b:AC)
 |block (id:Nat) (a:AC)
 |loop (a:AC)
 |exit (id:Nat)
 |ret
 deriving Inhabited
inductive xB where
 |tmp (p:Pos)
 |cell (p:Pos) (n:Option Nat)
 deriving Inhabited
structure cj where
 code:AC
 nparams:Nat
 results:List xB
 deriving Inhabited
abbrev Fr:=T AV
structure St where
 heap:T AB
 next:Pos
 deriving Inhabited
inductive iL where
 |normal
 |exit (id:Nat)
 |ret
 deriving Inhabited
def xC(fr:Fr):dK->Option AV
 |.t p=>fr.get p
 |.c v=>some v
def dL(fr:Fr):List dK->Option (List AV)
 |[]=>some []
 |  x::xs=>match xC fr x with
    |some v=>match dL fr xs with
     |some vs=>some (v::vs)
     |none=>none
    |none=>none
def bG(fr:Fr):Option (Pos×Bool)->Option Bool
 |none=>some true
 |  some (p,want)=>match fr.get p with
    |some (.bool b)=>some (b==want)
    |some (.tuple _)=>some false
    |_=>none
def cH(fr:Fr)(d:Option Pos)(v:AV):Fr:=match d with
 |some p=>fr.put (some v) p
 |none=>fr
def DO(o:Option (Pos×AB))(h:T AB):T AB:=match o with
 |some (b,x)=>h.put (some x) b
 |none=>h
def B5(o:Option Pos)(h:T AB):T AB:=match o with
 |some b=>h.put none b
 |none=>h
def St.aD(st:St)(del:Option Pos)(set:Option (Pos×AB))(new:Option AB):St:=
 match new with
 |some x=>{ heap:=T.put (some x) st.next (DO set (B5 del st.heap)),next:=st.next.succ }
 |none=>{ heap:=DO set (B5 del st.heap),next:=st.next }
abbrev ai:=FuncId->List AV->St->Option (AV×St)
def bS(call:ai)(k:ay)(xs:List AV)(st:St):Option (AV×St):=
 match k.run (λb=>st.heap.get b) st.next xs with
 |some (.val v)=>some (v,st)
 |some (.aD v del set new)=>some (v,st.aD del set new)
 |some (.call f args)=>call f args st
 |none=>none
def iA (call:ai):List bk->Fr->St->Option (Fr×St)
 |[],fr,st=>some (fr,st)
 |  o::os,fr,st=>match bG fr o.guard with
    |some true=>match dL fr o.xs with
     |  some xs=>match bS call o.k xs st with
        |some (v,st')=>iA call os (cH fr o.dst v) st'
        |none=>none
     |none=>none
    |some false=>iA call os (cH fr o.dst .undef) st
    |none=>none
def fO:AV->AV->Bool
 |.bool a,.bool b=>a==b
 |.int k a,.int k' b=>zN k k'&&sU a b
 |.str a,.str b=>gX a b
 |.gP,.gP=>true
 |.ptr b o,.ptr b' o'=>Pos.beq b b'&&Nat.beq o o'
 |.ah,.ah=>true
 |.slice b o l none es,.slice b' o' l' none es'=>Pos.beq b b'&&Nat.beq o o'&&Nat.beq l l'&&Nat.beq es es'
 |.slice b o l (some c) es,.slice b' o' l' (some c') es'=>Pos.beq b b'&&Nat.beq o o'&&Nat.beq l l'&&Nat.beq c c'&&Nat.beq es es'
 |.nj,.nj=>true
 |.map b,.map b'=>Pos.beq b b'
 |.iI,.iI=>true
 |.th,.th=>true
 |_,_=>false
def tj:List AV->List AV->Bool
 |[],[]=>true
 |a::x,b::y=>fO a b&&tj x y
 |_,_=>false
def Bn(f:AV->AV->Bool):List AV->List AV->Bool
 |[],[]=>true
 |a::x,b::y=>f a b&&Bn f x y
 |_,_=>false
def tO(f:AV->AV->Bool):List (List AV)->List (List AV)->Bool
 |[],[]=>true
 |a::x,b::y=>Bn f a b&&tO f x y
 |_,_=>false
def Bo:Nat->AV->AV->Bool
 |d+1,.fl a n,.fl a' n'=>tO (Bo d) a a'&&Nat.beq n n'
 |_,a,b=>fO a b
def j6:AV->AV->Bool
 |.func f a b,.func f' a' b'=>Nat.beq f f'&&tj a a'&&tj b b'
 |.fl a n,.fl a' n'=>Bo 3 (.fl a n) (.fl a' n')
 |a,b=>fO a b
def ql:List AV->List AV->Bool
 |[],[]=>true
 |a::x,b::y=>j6 a b&&ql x y
 |_,_=>false
def eH:AV->AV->Bool
 |.agg l,.agg l'=>ql l l'
 |.tuple l,.tuple l'=>ql l l'
 |a,b=>j6 a b
inductive RC where
 |pure
 |new (id:Pos) (aq:AB)
 |aD (base:T AB) (h:T AB)
 deriving Inhabited
structure Rec where
 idx:Nat
 o:bk
 v:AV
 c:RC
 nx:Pos
 deriving Inhabited
def snap(bu:Nat)(h:T AB):List Rec->T AB
 |[]=>h
 |  r ::rs=>match r.c with
    | .new id aq=>match bu.testBit r.idx with
      |true=>(snap bu h rs).put (some aq) id
      |false=>snap bu h rs
    |.aD _ _=>h
    |.pure=>snap bu h rs
def w9:List (Pos×AB)->T AB->T AB
 |[],h=>h
 |(id,aq)::l,h=>(w9 l h).put (some aq) id
def qR(k:ay)(xs:List AV)(v:AV)(h:T AB):Bool:=
 match k.run (λb=>h.get b) .h xs with
 |some (.val u)=>eH u v
 |_=>false
def jJ(bu:Nat)(k:ay)(xs:List AV)(v:AV):List (Pos×AB)->List Rec->Bool
 |_,[]=>true
 |  up,r::rs=>match r.c with
    | .new id aq=>match bu.testBit r.idx with
      |true=>jJ bu k xs v ((id,aq)::up) rs
      |false=>jJ bu k xs v up rs
    | .aD base _=>match bu.testBit r.idx with
      |true=>true
      |false=>qR k xs v (w9 up (snap bu base rs))&&jJ bu k xs v up rs
    |.pure=>jJ bu k xs v up rs
def cF (call:ai):List (Nat×bk)->List Rec->T AB->Fr->St->Option (Fr×St)
 |[],_,_,fr,st=>some (fr,st)
 |  (j, o)::os,recs,base,fr,st=>match bG fr o.guard with
    |some false=>cF call os ({ idx:=j,o:=o,v:= .undef,c:= .pure,nx:=st.next }::recs) base (cH fr o.dst .undef) st
    | some true=>match dL fr o.xs with
      |none=>none
      | some xs=>match o.cls with
        | .new=>match o.k.run (λ_=>none) st.next xs with
          |some (.aD v none none (some aq))=>
           cF call os ({ idx:=j,o:=o,v:=v,c:= .new st.next aq,nx:=st.next.succ }::recs) base (cH fr o.dst v) { heap:=st.heap.put (some aq) st.next,next:=st.next.succ }
          |_=>none
        | .aD=>match bS call o.k xs st with
          |some (v,st')=>cF call os ({ idx:=j,o:=o,v:=v,c:= .aD base st'.heap,nx:=st'.next }::recs) st'.heap (cH fr o.dst v) st'
          |none=>none
        | _=>match o.k.run (λ_=>none) .h xs with
          |some (.val v)=>cF call os ({ idx:=j,o:=o,v:=v,c:= .pure,nx:=st.next }::recs) base (cH fr o.dst v) st
          |_=>match o.k.run (λb=>(snap o.bu base recs).get b) .h xs with
           |some (.val v)=>match jJ o.bu o.k xs v [] recs with
            |true=>cF call os ({ idx:=j,o:=o,v:=v,c:= .pure,nx:=st.next }::recs) base (cH fr o.dst v) st
            |false=>none
           |_=>none
    |none=>none
def aZ(call:ai)(ih:AC->Fr->St->Option (iL×Fr×St)):AC->Fr->St->Option (iL×Fr×St)
 |.skip,fr,st=>some (.normal,fr,st)
 |  .region ops,fr,st=>match iA call ops fr st with
    |some (fr,st)=>some (.normal,fr,st)
    |none=>none
 |  .draw ops,fr,st=>match cF call ops [] st.heap fr st with
    |some (fr,st)=>some (.normal,fr,st)
    |none=>none
 |  .seq a b,fr,st=>match ih a fr st with
    |some (.normal,fr,st)=>ih b fr st
    |r=>r
 |  .cond x a b,fr,st=>match xC fr x with
    |some (.bool true)=>ih a fr st
    |some (.bool false)=>ih b fr st
    |_=>none
 |  .block id a,fr,st=>match ih a fr st with
    |some (.exit pR,fr,st)=>match Nat.beq pR id with
     |true=>some (.normal,fr,st)
     |false=>some (.exit pR,fr,st)
    |r=>r
 |  .loop a,fr,st=>match ih a fr st with
    |some (.normal,fr,st)=>ih (.loop a) fr st
    |r=>r
 |.exit id,fr,st=>some (.exit id,fr,st)
 |.ret,fr,st=>some (.ret,fr,st)
def exec(call:ai):Nat->AC->Fr->St->Option (iL×Fr×St)
 |0=>λ_ _ _=>none
 |n+1=>aZ call (exec call n)
def params:Nat->List AV->Fr->Fr
 |_,[],fr=>fr
 |i,v::vs,fr=>params (i+1) vs (fr.put (some v) (key i))
def b9 (H:Pos->Option AB)(fr:Fr):List xB->Option (List AV)
 |[]=>some []
 |  .tmp p::rs=>match fr.get p with
    |some v=>match b9 H fr rs with
     |some vs=>some (v::vs)
     |none=>none
    |none=>none
 |  .cell p n::rs=>match fr.get p with
    |some q=>match (ay.load n).run H .h [q]with
     |  some (.val v)=>match b9 H fr rs with
        |some vs=>some (v::vs)
        |none=>none
     |_=>none
    |none=>none
def fR:List AV->AV
 |[v]=>v
 |vs=>.tuple vs
abbrev dQ:=FuncId->Option (List AV->St->Option (AV×St))
def oe (O:dQ)(G:T cj)(m:Nat):Nat->ai
 |0=>λ_ _ _=>none
 |  d+  1=>λf args st=>match O f with
    |some s=>s args st
    |none=>match G.get (key f)with
     |  some F=>match Nat.beq args.length F.nparams with
        |true=>match exec (oe O G m d) m F.code (params 0 args .e) st with
         |some (.normal,fr,st')=>match b9 (λb=>st'.heap.get b) fr F.results with
          |some vs=>some (fR vs,st')
          |none=>none
         |some (.ret,fr,st')=>match b9 (λb=>st'.heap.get b) fr F.results with
          |some vs=>some (fR vs,st')
          |none=>none
         |_=>none
        |false=>none
     |none=>none
inductive TK where
 |bool
 |int (k:IntKind)
 |string
 |ptr (elem:Nat)
 |slice (elem:Nat)
 |array (n elem:Nat)
 |map (k e:Nat)
 |struct (fs:List (Nat×Nat×Bool))
 |func
 |iface
 |Wy
 |other
 deriving Inhabited
structure TI where
 k:TK
 size:Nat
 bytes:Nat
 zero:Option (List AV)
 sV:Bool:=false
 deriving Inhabited
def DP:Value->Option AV
 |.bool b=>some (.bool b)
 |.int k n=>some (.int k n)
 |.string s=>some (.str (s.data.toList.map UInt8.toNat))
 |.pointer none=>some .gP
 |.slice none 0 0=>some .ah
 |.map none=>some .nj
 |.func (.func f) ⟨[]⟩ ⟨[]⟩=>some (.func f [] [])
 |.nilFunc=>some .iI
 |.nilIface=>some .th
 |_=>none
def mq:List Value->Option (List AV)
 |[]=>some []
 |  v::vs=>match DP v,mq vs with
    |some a,some as=>some (a::as)
    |_,_=>none
def MM:Value->Option AV
 |  .agg cs=>match mq cs.toList with
    |some l=>some (.agg l)
    |none=>none
 |v=>DP v
def jY:Operand->Option dK
 |.tmp t=>some (.t (key t))
 |  .const v=>match MM v with
    |some a=>some (.c a)
    |none=>none
 |.func f=>some (.c (.func f [] []))
 |.global _=>none
def iz:List Operand->Option (List dK)
 |[]=>some []
 |  x::xs=>match jY x,iz xs with
    |some a,some as=>some (a::as)
    |_,_=>none
def TK.isAgg:TK->Bool
 |.struct _=>true
 |.array _ _=>true
 |_=>false
abbrev TT:=T TI
def ux(tt:TT)(t:Nat):Option e8:=match tt.get (key t)with
 |  some ti=>match ti.k with
    |.bool=>some .bool
    |.int _=>some .num
    |.string=>some .num
    |.ptr _=>some .ptr
    |.slice _=>some .slice
    |.map _ _=>some .map
    |.func=>some .func
    |.iface=>some .iface
    | .struct fs=>match ti.sV,fields fs with
      |true,some l=>some (.struct l)
      |_,_=>none
    |_=>none
 |none=>none
where
 fields:List (Nat×Nat×Bool)->Option (List (Nat×PK))
  |[]=>some []
  |(off,t,named)::fs=>match named,tt.get (key t),fields fs with
   |true,some ti,some l=>match ti.k with
    |.bool=>some ((off,.b)::l)
    |.int _=>some ((off,.i)::l)
    |.string=>some ((off,.s)::l)
    |_=>none
   |_,_,_=>none
def uy(ti:TI):Option Nat:=match ti.k.isAgg with
 |true=>some ti.size
 |false=>none
def adi(tt:TT)(t:Nat)(ti:TI):Bool:=match ti.k with
 |  .struct ((_,p,_)::_)=>match tt.get (key p)with
    |some pi=>match pi.k with
     |.ptr e=>Nat.beq e t
     |_=>false
    |none=>false
 |_=>false
def uz:Option Operand->List Operand
 |some x=>[x]
 |none=>[]
def fy (tt:TT):Op->Option (ay×List dK×TM)
 |  .move x=>match jY x with
    |some a=>some (.move,[a],.pure)
    |none=>none
 |  .assign x=>match jY x with
    |some a=>some (.move,[a],.pure)
    |none=>none
 |  .pick c a b=>match iz [c,a,b]with
    |some l=>some (.pick,l,.pure)
    |none=>none
 |  .alloc t=>match tt.get (key t)with
    |some ti=>match ti.zero with
     |  some z=>match adi tt t ti with
        |true=>some (.allocT t z,[],.aD)
        |false=>some (.alloc z,[],.new)
     |none=>none
    |none=>none
 |  .box _ x=>match jY x with
    |some a=>some (.box,[a],.new)
    |none=>none
 |  .build t ps=>match tt.get (key t),iz (ps.toList.map (·.2))with
    |some ti,some l=>match ti.k,ti.zero with
     |  .struct fs,some z=>match places tt fs (ps.toList.map (·.1)),PW tt fs with
        |some p,true=>some (.build z p,l,.pure)
        |_,_=>none
     |  .array _ e,some z=>match tt.get (key e)with
        |some te=>some (.build z (ps.toList.map λx=>(x.1*te.size,te.size)),l,.pure)
        |none=>none
     |_,_=>none
    |_,_=>none
 |  .buildSlice t len ps=>match tt.get (key t),iz (ps.toList.map (·.2))with
    |some ti,some l=>match ti.k with
     |  .slice e=>match tt.get (key e)with
        | some te=>match te.zero,Nat.ble (len*te.size) 16777216 with
          |some z,true=>some (.buildSlice te.size len z (ps.toList.map (·.1)),l,.new)
          |_,_=>none
        |none=>none
     |_=>none
    |_,_=>none
 |  .load t a=>match tt.get (key t),jY a with
    |some ti,some a=>some (.load (uy ti),[a],.read)
    |_,_=>none
 |  .store t a x=>match tt.get (key t),iz [a,x]with
    |some ti,some l=>some (.store ti.size,l,.aD)
    |_,_=>none
 |  .nilCheck x=>match jY x with
    |some a=>some (.nilCheck,[a],.pure)
    |none=>none
 |  .binOp op t x y _=>match ux tt t,iz [x,y]with
    |some q,some l=>some (.bin op q,l,.pure)
    |none,some l=>match op with
     |.eql=>none
     |.neq=>none
     |_=>some (.bin op .num,l,.pure)
    |_,_=>none
 |  .unOp op _ x=>match jY x with
    |some a=>some (.un op,[a],.pure)
    |none=>none
 |  .convert src dst x=>match tt.get (key src),tt.get (key dst),jY x with
    |some s,some d,some a=>match s.k,d.k with
     |.int _,.int k=>some (.conv (.int k),[a],.pure)
     |.string,.string=>some (.conv .same,[a],.pure)
     |  .string,.slice e=>match tt.get (key e)with
        | some te=>match te.k with
          |.int .u8=>some (.conv .bytes,[a],.new)
          |_=>none
        |none=>none
     |  .slice e,.string=>match tt.get (key e)with
        | some te=>match te.k with
          |.int .u8=>some (.conv .ofBytes,[a],.read)
          |_=>none
        |none=>none
     |  .ptr e,.Wy=>match tt.get (key e)with
        | some te=>match Nat.beq te.size 0 with
          |false=>some (.toU,[a],.aD)
          |true=>none
        |none=>none
     |  .Wy,.ptr e=>match tt.get (key e)with
        | some te=>match Nat.beq te.size 0 with
          |false=>some (.fromU e te.size,[a],.aD)
          |true=>none
        |none=>none
     |_,_=>none
    |_,_,_=>none
 |  .makeInterface t x=>match tt.get (key t),jY x with
    |some ti,some a=>match ti.k with
     |.iface=>none
     |.other=>none
     |_=>some (.mkIface t,[a],.pure)
    |_,_=>none
 |  .makeFunc fn first captured=>match fn,iz (first.toList++captured.toList)with
    |.func f,some l=>some (.mkFunc f first.size,l,.pure)
    |_,_=>none
 |  .makeMap t r=>match tt.get (key t)with
    |some ti=>match ti.k,r with
     |.map _ _,none=>some (.mkMap,[],.new)
     |.map _ _,some (.const (.int _ _))=>some (.mkMap,[],.new)
     |_,_=>none
    |none=>none
 |  .makeSlice t l c=>match tt.get (key t),iz [l,c]with
    |some ti,some xs=>match ti.k with
     |  .slice e=>match tt.get (key e)with
        | some te=>match te.zero with
          |some z=>some (.mkSlice te.size te.bytes z,xs,.new)
          |none=>none
        |none=>none
     |_=>none
    |_,_=>none
 |  .slice t x lo hi mx=>match tt.get (key t),iz ([x]++uz lo++uz hi++uz mx)with
    |some ti,some xs=>match ti.k with
     |  .string=>match mx with
        |none=>some (.sliceS lo.isSome hi.isSome,xs,.pure)
        |some _=>none
     |  .slice e=>match tt.get (key e)with
        |some te=>some (.sliceL te.size lo.isSome hi.isSome mx.isSome,xs,.pure)
        |none=>none
     |_=>none
    |_,_=>none
 |  .fieldAddr t x f=>match tt.get (key t),jY x with
    |some ti,some a=>match ti.k with
     |  .struct fs=>match nth fs f with
        | some (off,ft,_)=>match tt.get (key ft)with
          |some fi=>match Nat.beq fi.size 0 with
           |false=>some (.fieldA off,[a],.pure)
           |true=>none
          |none=>none
        |none=>none
     |_=>none
    |_,_=>none
 |  .field t x f=>match tt.get (key t),jY x with
    |some ti,some a=>match ti.k with
     |  .struct fs=>match nth fs f with
        | some (off,ft,_)=>match tt.get (key ft)with
          |some fi=>some (.field off (uy fi),[a],.pure)
          |none=>none
        |none=>none
     |_=>none
    |_,_=>none
 |  .indexAddr t x ix=>match tt.get (key t),iz [x,ix]with
    |some ti,some l=>match ti.k with
     |  .slice e=>match tt.get (key e)with
        |some te=>some (.idxA te.size none,l,.pure)
        |none=>none
     |  .array n e=>match tt.get (key e)with
        |some te=>some (.idxA te.size (some n),l,.pure)
        |none=>none
     |_=>none
    |_,_=>none
 |  .index t x ix=>match tt.get (key t),iz [x,ix]with
    |some ti,some l=>match ti.k with
     |.string=>some (.idxS,l,.pure)
     |_=>none
    |_,_=>none
 |  .lookup t x ix ok=>match tt.get (key t),iz [x,ix]with
    |some ti,some l=>match ti.k with
     |  .map k e=>match tt.get (key k),tt.get (key e)with
        | some tk,some te=>match tk.k,te.zero with
          |.int _,some z=>some (.lookup .i (CN te z) ok,l,.read)
          |.string,some z=>some (.lookup .s (CN te z) ok,l,.read)
          |.bool,some z=>some (.lookup .b (CN te z) ok,l,.read)
          |_,_=>none
        |_,_=>none
     |_=>none
    |_,_=>none
 |.mapUpdate t m k v=>U0 tt t m k v
 |.insert t m k v=>U0 tt t m k v
 |  .range t x=>match tt.get (key t),jY x with
    |some ti,some a=>match ti.k with
     |.string=>some (.rangeS,[a],.new)
     |_=>none
    |_,_=>none
 |  .next it isString=>match isString,jY it with
    |true,some a=>some (.nextS,[a],.aD)
    |_,_=>none
 |  .extract x i=>match jY x with
    |some a=>some (.extract i,[a],.pure)
    |none=>none
 |  .call c=>match iz c.args.toList with
    |none=>none
    |some xs =>match c.callee with
     |.value (.func f)=>some (.callF f,xs,.aD)
     |  .value x=>match jY x with
        |some a=>some (.callV,a::xs,.aD)
        |none=>none
     |.invoke _ _=>none
     |  .builtin b=>match b with
        | .len=>match c.argTypes.toList,xs with
          |t ::_,[_]=>match tt.get (key t)with
           | some ti=>match ti.k with
             |.string=>some (.lenB .s,xs,.pure)
             |.slice _=>some (.lenB .l,xs,.pure)
             |.map _ _=>some (.lenB .m,xs,.read)
             |_=>none
           |none=>none
          |_,_=>none
        | .append=>match c.argTypes.toList with
          |t ::t2::_=>match tt.get (key t),tt.get (key t2)with
           | some ti,some Fm=>match ti.k,Fm.k with
             |_,.int _=>none
             | .slice e,.string=>match tt.get (key e)with
               | some te=>match te.zero,te.k,Nat.beq te.size 1 with
                 |some _,.int .u8,true=>some (.appendT e te.bytes,xs,.aD)
                 |_,_,_=>none
               |none=>none
             | .slice e,_=>match tt.get (key e)with
               | some te=>match te.zero with
                 |some _=>some (.append te.size te.bytes,xs,.aD)
                 |none=>none
               |none=>none
             |_,_=>none
           |_,_=>none
          |_=>none
        | .copy=>match c.argTypes.toList with
          |t ::_=>match tt.get (key t)with
           | some ti=>match ti.k with
             | .slice e=>match tt.get (key e)with
               |some te=>some (.copyB te.size,xs,.aD)
               |none=>none
             |_=>none
           |none=>none
          |_=>none
        | .unsafeSliceData=>match xs with
          |[_]=>some (.sliceData,xs,.pure)
          |_=>none
        | .unsafeString=>match c.argTypes.toList with
          |[t, _]=>match tt.get (key t)with
           | some ti=>match ti.k with
             | .ptr e=>match tt.get (key e)with
               | some te=>match te.k,Nat.beq te.size 1 with
                 |.int .u8,true=>some (.unsafeStr e,xs,.aD)
                 |_,_=>none
               |none=>none
             |_=>none
           |none=>none
          |_=>none
        | .min=>match xs with
          |[_,_]=>some (.minB,xs,.pure)
          |_=>none
        | .max=>match xs with
          |[_,_]=>some (.maxB,xs,.pure)
          |_=>none
        | .clear=>match c.argTypes.toList with
          |t ::_=>match tt.get (key t)with
           | some ti=>match ti.k with
             | .slice e=>match tt.get (key e)with
               | some te=>match te.zero with
                 |some z=>some (.clearS te.size z,xs,.aD)
                 |none=>none
               |none=>none
             |_=>none
           |none=>none
          |_=>none
        |_=>none
 |_=>none
where
 PW (tt:TT):List (Nat×Nat×Bool)->Bool
  |[]=>true
  |  (_,t,_)::l=>match tt.get (key t)with
     |some _=>PW tt l
     |none=>false
 places (tt:TT) (fs:List (Nat×Nat×Bool)):List Nat->Option (List (Nat×Nat))
  |[]=>some []
  |  i ::is=>match nth fs i,places tt fs is with
     | some (off,t,_),some l=>match tt.get (key t)with
       |some ti=>some ((off,ti.size)::l)
       |none=>none
     |_,_=>none
 CN (te:TI) (z:List AV):AV:=match te.k.isAgg with
  |true=>.agg z
  |  false=>match z with
     |[v]=>v
     |_=>.agg z
 U0 (tt:TT) (t:Nat) (m k v:Operand):Option (ay×List dK×TM):=
  match tt.get (key t),iz [m,k,v]with
  |  some ti,some l=>match ti.k with
     | .map kt _=>match tt.get (key kt)with
       |some tk=>match tk.k with
        |.int _=>some (.mapSet .i,l,.aD)
        |.string=>some (.mapSet .s,l,.aD)
        |.bool=>some (.mapSet .b,l,.aD)
        |_=>none
       |none=>none
     |_=>none
  |_,_=>none
def K5(ops:Array Oper):Option (Nat×Bool)->Option (Option (Pos×Bool))
 |none=>some none
 |  some (j,b)=>match ops[j]? with
    |some o=>match o.dst with
     |some d=>some (some (key d,b))
     |none=>none
    |none=>none
def Qu:List Oper->List Nat->List Nat
 |[],acc=>acc
 |o::os,acc=>Qu os (acc++[o.after.toList.foldl (λs e=>match Region.binds .any e with
   |true=>s ||| 2 ^ e.on ||| (nth acc e.on).getD 0
   |false=>s) 0])
def mz(tt:TT)(nt:Nat)(ops:Array Oper):List Oper->List Nat->Option (List bk)
 |[],_=>some []
 |  o::os,bs=>match K5 ops o.guard,mz tt nt ops os bs.tail,abl nt o.dst with
    |some g,some l,true=>match fy tt o.op with
     |some (k,xs,cls)=>some ({ dst:=o.dst.map key,k:=k,xs:=xs,guard:=g,cls:=cls,bu:=bs.headD 0 }::l)
     |none=>some ({ dst:=o.dst.map key,k:= .bad,xs:=[],guard:=g,cls:= .aD,bu:=bs.headD 0 }::l)
    |_,_,_=>none
where
 abl (nt:Nat):Option Tmp->Bool
  |none=>true
  |some d=>Nat.blt d nt
def bk.looks(o:bk):List Pos:=
 (match o.guard with|some (p,_)=>[p]|none=>[])++o.xs.filterMap λ|.t p=>some p|.c _=>none
def CO(p:Pos):List Pos->Bool
 |[]=>false
 |q::l=>Pos.beq p q||CO p l
def Gk(a b:bk):Bool:=
 (match a.dst with
  |some d=> !CO d b.looks&&(match b.dst with|some d'=> !Pos.beq d d'|none=>true)
  |none=>true)&&
 (match b.dst with
  |some d=> !CO d a.looks
  |none=>true)
def sW:List (Nat×bk)->List (Nat×bk)->List (Nat×bk)
 |[],held=>held
 |  (i,o)::l,held=>match o.cls with
    |.aD=>held.filter (λx=>o.bu.testBit x.1)++(i,o)::sW l (held.filter λx=> !o.bu.testBit x.1)
    |_=>sW l (held++[(i,o)])
def zP:Nat->List bk->List (Nat×bk)
 |_,[]=>[]
 |i,o::os=>(i,o)::zP (i+1) os
def CP(m:Nat):Nat->List (Nat×bk)->Bool
 |seen,[]=>Nat.beq seen (2 ^ m - 1)
 |  seen,(i,o)::l=>Nat.blt i m&& !seen.testBit i&&Nat.beq (o.bu &&& seen) o.bu&&(match o.cls with|.aD=>Nat.beq o.bu seen|_=>true)&&
    (l.all λx=>x.2.bu.testBit i||Gk o x.2)&&CP m (seen ||| 2 ^ i) l
def pS (tt:TT)(nt:Nat):Code->Option AC
 |.skip=>some .skip
 |  .region _ ops draw=>match mz tt nt ops ops.toList (Qu ops.toList [])with
    |none=>none
    |some l=>match draw with
     |false=>some (.region l)
     |  true=>match CP l.length 0 (sW (zP 0 l) [])with
        |true=>some (.draw (sW (zP 0 l) []))
        |false=>none
 |  .seq a b=>match pS tt nt a,pS tt nt b with
    |some a,some b=>some (.seq a b)
    |_,_=>none
 |  .cond c a b=>match jY c,pS tt nt a,pS tt nt b with
    |some c,some a,some b=>some (.cond c a b)
    |_,_,_=>none
 |  .block id a=>match pS tt nt a with
    |some a=>some (.block id a)
    |none=>none
 |  .loop a=>match pS tt nt a with
    |some a=>some (.loop a)
    |none=>none
 |.exit id=>some (.exit id)
 |.ret=>some .ret
 |.refuse _=>some (.region [{ dst:=none,k:= .bad,xs:=[],guard:=none,cls:= .aD,bu:=0 }])
 |_=>none
def kL(tt:TT):List ResultVar->Option (List xB)
 |[]=>some []
 |  .tmp t::rs=>match kL tt rs with
    |some l=>some (.tmp (key t)::l)
    |none=>none
 |  .cell a t::rs=>match tt.get (key t),kL tt rs with
    |some ti,some l=>some (.cell (key a) (uy ti)::l)
    |_,_=>none
def PY(tt:TT)(f:Func):Option cj:=match f.body with
 |  some c=>match pS tt f.ntmps c,kL tt f.results.toList,Nat.ble (f.params.size+f.nfree) f.ntmps with
    |some a,some rs,true=>some { code:=a,nparams:=f.params.size+f.nfree,results:=rs }
    |_,_,_=>none
 |none=>none
structure Loc where
 aq:Nat
 base:Nat
 size:Nat
abbrev Cells:=Addr->Option Value
inductive aj(ρ:Pos->Loc)(n:Nat)(C:Cells):AV->Value->Prop where
 |bool (b:Bool):aj ρ n C (.bool b) (.bool b)
 |int (k:IntKind) (i:Int):aj ρ n C (.int k i) (.int k i)
 |str (s:List Nat) (bs:ByteArray) (h:bs.data.toList.map UInt8.toNat=s):aj ρ n C (.str s) (.string bs)
 |gP:aj ρ n C .gP (.pointer none)
 |ptr (b:Pos) (off:Nat) (h:b.toNat<n):aj ρ n C (.ptr b off) (.pointer (some ⟨(ρ b).aq,(ρ b).base+off,none⟩))
 |fp (xs:List (List AV)) (i j es:Nat) (aq base:Nat) (cell:Nat->Nat->Value)
  (hl:∀(i:Nat)(cs:List AV),xs[i]? =some cs->cs.length=es)
  (hc:∀(i j:Nat)(cs:List AV)(v:AV),xs[i]? =some cs->cs[j]? =some v->C ⟨aq,base+i*es+j,none⟩=some (cell i j))
  (hv:∀(i j:Nat)(cs:List AV)(v:AV),xs[i]? =some cs->cs[j]? =some v->aj ρ n C v (cell i j)):
  aj ρ n C (.fp xs i j) (.pointer (some ⟨aq,base+i*es+j,none⟩))
 |ah:aj ρ n C .ah (.slice none 0 0)
 |slice (b:Pos) (off len:Nat) (cap:Option Nat) (es aG:Nat) (a:Addr) (hl:len<=aG) (hc:∀c,cap=some c->c=aG)
  (ha:aG≠0->b.toNat<n/\a=⟨(ρ b).aq,(ρ b).base+off,none⟩/\(ρ b).base+off+aG*es<=(ρ b).size)
  (hk:cap=none->b.toNat<n):
  aj ρ n C (.slice b off len cap es) (.slice (some a) len aG)
 |fl (xs:List (List AV)) (es aG:Nat) (a:Addr) (cell:Nat->Nat->Value) (hl:xs.length<=aG)
  (hs:xs≠[]->a.spot=none)
  (dc:∀(i:Nat)(cs:List AV),xs[i]? =some cs->cs.length=es)
  (hc:∀(i j:Nat)(cs:List AV)(v:AV),xs[i]? =some cs->cs[j]? =some v->C ⟨a.block,a.off+i*es+j,none⟩=some (cell i j))
  (hv:∀(i j:Nat)(cs:List AV)(v:AV),xs[i]? =some cs->cs[j]? =some v->aj ρ n C v (cell i j)):
  aj ρ n C (.fl xs es) (.slice (some a) xs.length aG)
 |nj:aj ρ n C .nj (.map none)
 |map (b:Pos) (h:b.toNat<n):aj ρ n C (.map b) (.map (some (ρ b).aq))
 |func (f:FuncId) (x y:List AV) (x' y':Array Value) (hx:x.length=x'.size) (hy:y.length=y'.size)
  (fY:∀(i:Nat)(v:AV)(v':Value),x[i]? =some v->x'[i]? =some v'->aj ρ n C v v') (zQ:∀(i:Nat)(v:AV)(v':Value),y[i]? =some v->y'[i]? =some v'->aj ρ n C v v'):
  aj ρ n C (.func f x y) (.func (.func f) x' y')
 |iI:aj ρ n C .iI .nilFunc
 |th:aj ρ n C .th .nilIface
 |iface (t:TypeId) (v:AV) (x:Value) (h:aj ρ n C v x):aj ρ n C (.iface t v) (.iface t x)
 |agg (l:List AV) (cs:Array Value) (hl:l.length=cs.size) (h:∀(i:Nat)(v:AV)(v':Value),l[i]? =some v->cs[i]? =some v'->aj ρ n C v v'):
  aj ρ n C (.agg l) (.agg cs)
 |tuple (l:List AV) (cs:Array Value) (hl:l.length=cs.size) (h:∀(i:Nat)(v:AV)(v':Value),l[i]? =some v->cs[i]? =some v'->aj ρ n C v v'):
  aj ρ n C (.tuple l) (.tuple cs)
theorem aj.mono{ρ ρ':Pos->Loc}{n n':Nat}{C:Cells}{v:AV}{x:Value}(h:aj ρ n C v x)
  (aR:∀b:Pos,b.toNat<n->ρ' b=ρ b) (hn:n<=n'):aj ρ' n' C v x:=by
 induction h with
 |bool b=>exact .bool b
 |int k i=>exact .int k i
 |str s bs h=>exact .str s bs h
 |gP=>exact .gP
 |ptr b off h=>rw[<-aR b h];exact .ptr b off (by omega)
 |fp xs i j es aq base cell hl hc _ ih=>exact .fp xs i j es aq base cell hl hc ih
 |ah=>exact .ah
 |slice b off len cap es aG a hl hc ha hk=>
  refine .slice b off len cap es aG a hl hc (λh0=> ?_) (λh0=>by have:=hk h0;omega);obtain⟨h1,h2,h3⟩:=ha h0;rw[aR b h1];exact⟨by omega,h2,h3⟩
 |fl xs es aG a cell hl hs dc hc _ ih=>exact .fl xs es aG a cell hl hs dc hc ih
 |nj=>exact .nj
 |map b h=>rw[<-aR b h];exact .map b (by omega)
 |func f x y x' y' hx hy _ _ Wz WA=>exact .func f x y x' y' hx hy Wz WA
 |iI=>exact .iI
 |th=>exact .th
 |iface t v x _ ih=>exact .iface t v x ih
 |agg l cs hl _ ih=>exact .agg l cs hl ih
 |tuple l cs hl _ ih=>exact .tuple l cs hl ih
def av(ρ:Pos->Loc)(n:Nat)(C:Cells)(l:List AV)(xs:List Value):Prop:=
 l.length=xs.length/\∀(i:Nat)(v:AV)(x:Value),l[i]? =some v->xs[i]? =some x->aj ρ n C v x
section
variable{ρ ρ':Pos->Loc}{n n':Nat}{C:Cells}
theorem av.mono{l:List AV}{xs:List Value}(h:av ρ n C l xs)(aR:∀b:Pos,b.toNat<n->ρ' b=ρ b)(hn:n<=n'):
 av ρ' n' C l xs:=⟨h.1,λi v x hv hx=>(h.2 i v x hv hx).mono aR hn⟩
theorem av.nil:av ρ n C [] []:=⟨rfl,λ_ _ _ h=>by simp at h⟩
theorem av.cons{v:AV}{x:Value}{l:List AV}{xs:List Value}(h:aj ρ n C v x)(hs:av ρ n C l xs):av ρ n C (v::l) (x::xs):=
 ⟨by simp[hs.1],λi u y hu hy=>by
  cases i with
  |zero=>simp at hu hy;subst hu;subst hy;exact h
  |succ i=>simp at hu hy;exact hs.2 i u y hu hy⟩
theorem av.cons_inv{v:AV}{l:List AV}{xs:List Value}(h:av ρ n C (v::l) xs):∃x rW,xs=x::rW/\aj ρ n C v x/\av ρ n C l rW:=by
 cases xs with
 |nil=>have:=h.1;simp at this
 |cons x rW=>
  exact⟨x,rW,rfl,h.2 0 v x rfl rfl,by have:=h.1;simpa using this,λi u y hu hy=>h.2 (i+1) u y (by simpa using hu) (by simpa using hy)⟩
theorem av.l7{xs:List Value}(h:av ρ n C [] xs):xs=[]:=by
 have:=h.1;cases xs with
 |nil=>rfl
 |cons a b=>simp at this
theorem av.append{l m:List AV}{xs ys:List Value}(h:av ρ n C l xs)(k:av ρ n C m ys):av ρ n C (l++m) (xs++ys):=by
 refine⟨by simp[h.1,k.1],λi v x hv hx=> ?_⟩;rcases Zh8 i l.length with hi|hi
 .rw[Zc1 hi]at hv;rw[Zc1 (by rw[<-h.1];exact hi)]at hx;exact h.2 i v x hv hx
 .rw[Zc3 hi]at hv;rw[Zc3 (by rw[<-h.1];exact hi), <-h.1]at hx;exact k.2 _ v x hv hx
theorem av.take{l:List AV}{xs:List Value}(h:av ρ n C l xs)(m:Nat):av ρ n C (l.take m) (xs.take m):=by
 refine⟨by simp[h.1],λi v x hv hx=> ?_⟩;rw[Zb8]at hv hx;split at hv
 .rename_i hi;rw[Za8 hi]at hx;exact h.2 i v x hv hx
 .cases hv
theorem av.drop{l:List AV}{xs:List Value}(h:av ρ n C l xs)(m:Nat):av ρ n C (l.drop m) (xs.drop m):=by refine⟨by simp[h.1],λi v x hv hx=> ?_⟩;rw[Zc8]at hv hx;exact h.2 _ v x hv hx
theorem av.aM{l vs:List AV}{xs ys:List Value}(h:av ρ n C l xs)(k:av ρ n C vs ys)(i:Nat):
  av ρ n C (Go.Ai.aM l i vs) (Go.Ai.aM xs i ys):=by
 unfold Go.Ai.aM;rw[k.1];exact(h.take i).append (k.append (h.drop _))
theorem av.get{l:List AV}{xs:List Value}(h:av ρ n C l xs){i:Nat}{v:AV}(hv:l[i]? =some v):∃x,xs[i]? =some x/\aj ρ n C v x:=by
 have hi:i<xs.length:=by rw[<-h.1];exact(Za1.1 hv).1
 exact⟨xs[i],H4 hi,h.2 i v _ hv (H4 hi)⟩
theorem aj.zR{l:List AV}{cs:Array Value}(h:av ρ n C l cs.toList):aj ρ n C (.agg l) (.agg cs):=
 .agg l cs (by simpa using h.1) λi v x hv hx=>h.2 i v x hv (by simpa using hx)
theorem aj.qm{l:List AV}{cs:Array Value}(h:av ρ n C l cs.toList):aj ρ n C (.tuple l) (.tuple cs):=
 .tuple l cs (by simpa using h.1) λi v x hv hx=>h.2 i v x hv (by simpa using hx)
theorem aj.zD{l:List AV}{x:Value}(h:aj ρ n C (.agg l) x):∃cs,x= .agg cs/\av ρ n C l cs.toList:=by
 cases h with|agg _ cs hl h=>exact⟨cs,rfl,by simpa using hl,λi v x hv hx=>h i v x hv (by simpa using hx)⟩
theorem aj.NU{l:List AV}{x:Value}(h:aj ρ n C (.tuple l) x):∃cs,x= .tuple cs/\av ρ n C l cs.toList:=by
 cases h with|tuple _ cs hl h=>exact⟨cs,rfl,by simpa using hl,λi v x hv hx=>h i v x hv (by simpa using hx)⟩
theorem aj.wz{f:FuncId}{a b:List AV}{x:Value}(h:aj ρ n C (.func f a b) x):
  ∃a' b',x= .func (.func f) a' b'/\av ρ n C a a'.toList/\av ρ n C b b'.toList:=by
 cases h with
 |func _ _ _ a' b' hx hy h1 h2=>exact⟨a',b',rfl,⟨by simpa using hx,λi v x hv hx=>h1 i v x hv (by simpa using hx)⟩,⟨by simpa using hy,λi v x hv hx=>h2 i v x hv (by simpa using hx)⟩⟩
theorem aj.cells{v:AV}{x:Value}(h:aj ρ n C v x):av ρ n C v.cells x.cells.toList:=by
 by_cases hv:∃l,v= .agg l
 .obtain⟨l,rfl⟩:=hv;obtain⟨cs,rfl,hs⟩:=h.zD;exact hs
 .have h1:v.cells=[v]:=(by cases v<;>first|rfl|exact absurd ⟨_,rfl⟩ hv);have h2:x.cells= #[x]:=(by cases h<;>first|rfl|exact absurd ⟨_,rfl⟩ hv);rw[h1,h2];exact av.cons h av.nil
def kN(ρ:Pos->Loc)(n:Nat)(C:Cells)(L:Loc)(w:World):AB->Prop
 |.cells cs fz=>∃(c:Array Value) (e:TypeId) (fr:Nat×Nat),w.heap[L.aq]? =some (.cells c e fr)/\c.size=L.size/\L.base+cs.length<=c.size/\
  av ρ n C cs ((c.toList.drop L.base).take cs.length)/\∀i,fz<=i->L.base+i<c.size->¬(fr.1<=L.base+i/\L.base+i<fr.2)
 |.map es clock=>∃(es':Array MapEntry),w.heap[L.aq]? =some (.map es' clock)/\es.length=es'.size/\
  ∀(i:Nat)(e:AV×AV×Nat)(e':MapEntry),es[i]? =some e->es'[i]? =some e'->aj ρ n C e.1 e'.key/\aj ρ n C e.2.1 e'.val/\e.2.2=e'.born
 |.iJ s pos=>∃(bs:ByteArray),w.heap[L.aq]? =some (.stringIter bs pos)/\bs.data.toList.map UInt8.toNat=s/\L.base=0
 |.typed t cs=>∃(c:Array Value) (fr:Nat×Nat),w.heap[L.aq]? =some (.cells c t fr)/\c.size=L.size/\L.base+cs.length<=c.size/\
  av ρ n C cs ((c.toList.drop L.base).take cs.length)/\(∀i,0<=i->L.base+i<c.size->¬(fr.1<=L.base+i/\L.base+i<fr.2))/\L.base=0
theorem kN.mono{L:Loc}{w:World}{x:AB}(h:kN ρ n C L w x)(aR:∀b:Pos,b.toNat<n->ρ' b=ρ b)(hn:n<=n'):kN ρ' n' C L w x:=by
 cases x with
 |cells cs fz=>obtain⟨c,e,fr,h1,h2,h3,h4,h5⟩:=h;exact⟨c,e,fr,h1,h2,h3,h4.mono aR hn,h5⟩
 |map es clock=>obtain⟨es',h1,h2,h3⟩:=h;exact⟨es',h1,h2,λi e e' he jP=>let⟨a,b,c⟩:=h3 i e e' he jP;⟨a.mono aR hn,b.mono aR hn,c⟩⟩
 |iJ s pos=>exact h
 |typed t cs=>obtain⟨c,fr,h1,h2,h3,h4,h5⟩:=h;exact⟨c,fr,h1,h2,h3,h4.mono aR hn,h5⟩
theorem kN.of_heap{L:Loc}{w w':World}{x:AB}(h:kN ρ n C L w x)(hw:w'.heap[L.aq]? =w.heap[L.aq]?):kN ρ n C L w' x:=by
 cases x with
 |cells cs fz=>obtain⟨c,e,fr,h1,h2⟩:=h;exact⟨c,e,fr,by rw[hw];exact h1,h2⟩
 |map es clock=>obtain⟨es',h1,h2⟩:=h;exact⟨es',by rw[hw];exact h1,h2⟩
 |iJ s pos=>obtain⟨bs,h1,h2⟩:=h;exact⟨bs,by rw[hw];exact h1,h2⟩
 |typed t cs=>obtain⟨c,fr,h1,h2⟩:=h;exact⟨c,fr,by rw[hw];exact h1,h2⟩
end
structure aV(ρ:Pos->Loc)(C:Cells)(st:St)(w:World):Prop where
 live:∀b x,st.heap.get b=some x->b.toNat<st.next.toNat/\(ρ b).aq<w.heap.size/\kN ρ st.next.toNat C (ρ b) w x
 inj:∀b b' x x',st.heap.get b=some x->st.heap.get b'=some x'->(ρ b).aq=(ρ b').aq->b=b'
 cZ:∀a v,C a=some v->w.cell? a=some v/\∀b x,st.heap.get b=some x->(ρ b).aq≠a.block
 whole:∀a v,C a=some v->∀o,C ⟨a.block,o,none⟩=none->w.cell? ⟨a.block,o,none⟩=none
structure je(ρ:Pos->Loc)(st:St)(w:World)(ρ':Pos->Loc)(st':St)(w':World):Prop where
 os:w'.os=w.os
 tape:w'.tape=w.tape
 output:w'.output=w.output
 size:w.heap.size<=w'.heap.size
 block:∀k,k<w.heap.size->(∀b x,st.heap.get b=some x->(ρ b).aq≠k)->w'.heap[k]? =w.heap[k]?
 mN:∀b x,st'.heap.get b=some x->(∃b' x',st.heap.get b'=some x'/\(ρ b').aq=(ρ' b).aq)\/w.heap.size<=(ρ' b).aq
theorem je.refl(ρ:Pos->Loc)(st:St)(w:World):je ρ st w ρ st w:=⟨rfl,rfl,rfl,Za4 _,λ_ _ _=>rfl,λb x h=>.inl ⟨b,x,h,rfl⟩⟩
theorem je.trans{ρ dB kO:Pos->Loc}{st aJ jz:St}{w w1 w2:World}(h:je ρ st w dB aJ w1)(k:je dB aJ w1 kO jz w2):je ρ st w kO jz w2 where
 os:=k.os.trans h.os
 tape:=k.tape.trans h.tape
 output:=k.output.trans h.output
 size:=Zc4 h.size k.size
 block q hq hn:=by
  rw[k.block q (Zc5 hq h.size) λb x hb e=> ?_,h.block q hq hn];rcases h.mN b x hb with⟨b',x',h1,h2⟩|h1
  .exact hn b' x' h1 (h2.trans e)
  .rw[e]at h1;omega
 mN b x hb:=by
  rcases k.mN b x hb with⟨b',x',h1,h2⟩|h1
  . rcases h.mN b' x' h1 with⟨b'',x'',h3,h4⟩|h3
    .exact .inl ⟨b'',x'',h3,h4.trans h2⟩
    .right;rw[<-h2];exact h3
  .exact .inr (Zc4 h.size h1)
def eJ(ρ:Pos->Loc)(n:Nat)(C:Cells)(fr:Fr)(tmps:Array Value):Prop:=
 ∀p v,fr.get p=some v->∃x,tmps[p.toNat - 1]? =some x/\aj ρ n C v x
theorem Pos.toNat_pos(p:Pos):0<p.toNat:=by
 induction p with
 |h=>simp[Pos.toNat]
 |o p ih=>simp[Pos.toNat];exact ih
 |i p ih=>simp[Pos.toNat]
theorem Pos.toNat_inj:∀{p q:Pos},p.toNat=q.toNat->p=q
 |.h,.h,_=>rfl
 |.h,.o q,hq=>by have:=q.toNat_pos;simp[Pos.toNat]at hq;omega
 |.h,.i q,hq=>by have:=q.toNat_pos;simp[Pos.toNat]at hq;omega
 |.o p,.h,hq=>by have:=p.toNat_pos;simp[Pos.toNat]at hq;omega
 |.o p,.o q,hq=>by simp[Pos.toNat]at hq;rw[Pos.toNat_inj (p:=p) (q:=q) (by omega)]
 |.o p,.i q,hq=>by simp[Pos.toNat]at hq;omega
 |.i p,.h,hq=>by have:=p.toNat_pos;simp[Pos.toNat]at hq;omega
 |.i p,.o q,hq=>by simp[Pos.toNat]at hq;omega
 |.i p,.i q,hq=>by simp[Pos.toNat]at hq;rw[Pos.toNat_inj (p:=p) (q:=q) (by omega)]
theorem Pos.az(p:Pos):p.succ.toNat=p.toNat+1:=by
 induction p with
 |h=>rfl
 |o p ih=>simp[Pos.succ,Pos.toNat]
 |i p ih=>simp[Pos.succ,Pos.toNat,ih];omega
theorem Pos.DQ:∀(f m:Nat),0<m->m<2 ^ (f+1)->(Pos.Qt f m).toNat=m
 |0,m,hp,hl=>by
  simp at hl;have:m=1:=by omega
  subst this;rfl
 |f +   1,m,hp,hl=>by
  unfold Pos.Qt;split
  . (rename_i hb;have:=Za3 hb;have:m=1:=by omega);subst this;rfl
  . rename_i hb;have h1:1<m:=by
        rcases Zh8 1 m with hh|hh
        .exact hh
        .rw[Nat.ble_eq_true_of_le hh]at hb;cases hb
    have h2:m / 2<2 ^ (f+1):=(by have:2 ^ (f+1+1)=2*2 ^ (f+1):=(by rw[Nat.pow_succ];omega);omega);split
    .   rename_i he;have:=Za0 he;simp only[Pos.toNat];rw[Pos.DQ f _ (by omega) h2];omega
    .   rename_i he;have:=Zb4 he;simp only[Pos.toNat];rw[Pos.DQ f _ (by omega) h2];omega
theorem eo(n:Nat):(key n).toNat=n+1:=Pos.DQ _ (n+1) (by omega) Nat.lt_log2_self
theorem T.cY{α:Type}(p:Pos):(T.e:T α).get p=none:=by cases p<;>rfl
theorem T.ee{α:Type}(x:Option α)(p:Pos)(t:T α):(T.put x p t).get p=x:=by
 induction p generalizing t with
 |h=>cases t<;>rfl
 |o p ih=>cases t<;>exact ih _
 |i p ih=>cases t<;>exact ih _
theorem T.br{α:Type}(x:Option α){p q:Pos}(h:p≠q)(t:T α):(T.put x p t).get q=t.get q:=by
 induction p generalizing q t with
 |h=>cases q with
  |h=>exact absurd rfl h
  |o q=>cases t<;>simp[T.put,T.get,T.cY]
  |i q=>cases t<;>simp[T.put,T.get,T.cY]
 |o p ih=>cases q with
  |h=>cases t<;>simp[T.put,T.get]
  | o q=>cases t with
    |e=>simp only[T.put,T.get];rw[ih (λe=>h (by rw[e])),T.cY]
    |n l v r=>simp only[T.put,T.get];exact ih (λe=>h (by rw[e])) l
  |i q=>cases t<;>simp[T.put,T.get,T.cY]
 |i p ih=>cases q with
  |h=>cases t<;>simp[T.put,T.get]
  |o q=>cases t<;>simp[T.put,T.get,T.cY]
  | i q=>cases t with
    |e=>simp only[T.put,T.get];rw[ih (λe=>h (by rw[e])),T.cY]
    |n l v r=>simp only[T.put,T.get];exact ih (λe=>h (by rw[e])) r
theorem Pos.beq_eq:∀{p q:Pos},p.beq q=true↔p=q
 |.h,.h=>by simp[Pos.beq]
 |.h,.o q=>by simp[Pos.beq]
 |.h,.i q=>by simp[Pos.beq]
 |.o p,.h=>by simp[Pos.beq]
 |.o p,.o q=>by simp only[Pos.beq,Pos.o.injEq];exact Pos.beq_eq
 |.o p,.i q=>by simp[Pos.beq]
 |.i p,.h=>by simp[Pos.beq]
 |.i p,.o q=>by simp[Pos.beq]
 |.i p,.i q=>by simp only[Pos.beq,Pos.i.injEq];exact Pos.beq_eq
end
noncomputable section
section
variable{R:Type}
def kP{α:Type}(p:Pos):T α->Option α:=
 Pos.rec (motive:=λ_=>T α->Option α)
    (λt=>T.rec (motive:=λ_=>Option α) none (λ_ v _ _ _=>v) t)
    (λ_ ih t=>T.rec (motive:=λ_=>Option α) none (λl _ _ _ _=>ih l) t)
    (λ_ ih t=>T.rec (motive:=λ_=>Option α) none (λ_ _ r _ _=>ih r) t) p
def mO{α:Type}(x:Option α)(p:Pos):T α->(T α->R)->R:=
 Pos.rec (motive:=λ_=>T α->(T α->R)->R)
    (λt k=>T.rec (motive:=λ_=>R) (k (.n .e x .e)) (λl _ r _ _=>k (.n l x r)) t)
    (λ_ ih t k=>T.rec (motive:=λ_=>R) (ih .e λl=>k (.n l none .e)) (λl v r _ _=>ih l λl=>k (.n l v r)) t)
    (λ_ ih t k=>T.rec (motive:=λ_=>R) (ih .e λr=>k (.n .e none r)) (λl v r _ _=>ih r λr=>k (.n l v r)) t) p
def mP(n:Nat)(k:Nat->R):R:=Nat.rec (motive:=λ_=>R) (k 0) (λm _=>k (Nat.succ m)) n
def JZ(n:Int)(k:Int->R):R:=match n with
 |.ofNat m=>mP m λm=>k (.ofNat m)
 |.negSucc m=>mP m λm=>k (.negSucc m)
def NV(b:Bool)(k:Bool->R):R:=match b with
 |true=>k true
 |false=>k false
def uA{α:Type}(l:List α):(List α->R)->R:=
 List.rec (motive:=λ_=>(List α->R)->R) (λk=>k []) (λa _ ih k=>ih λt=>k (a::t)) l
def DR(p:Pos):(Pos->R)->R:=
 Pos.rec (motive:=λ_=>(Pos->R)->R) (λk=>k .h) (λ_ ih k=>ih λp=>k (.o p)) (λ_ ih k=>ih λp=>k (.i p)) p
def Qv(o:Option Nat)(k:Option Nat->R):R:=match o with
 |none=>k none
 |some n=>mP n λn=>k (some n)
def Gl(v:AV)(k:AV->R):R:=match v with
 |.bool b=>NV b λb=>k (.bool b)
 |.int i n=>JZ n λn=>k (.int i n)
 |.str s=>uA s λs=>k (.str s)
 |.ptr b o=>DR b λb=>mP o λo=>k (.ptr b o)
 |.slice b o l c es=>DR b λb=>mP o λo=>mP l λl=>Qv c λc=>k (.slice b o l c es)
 |.map b=>DR b λb=>k (.map b)
 |.func f x y=>uA x λx=>uA y λy=>k (.func f x y)
 |.agg l=>uA l λl=>k (.agg l)
 |v=>k v
def Ir(l:List AV):(List AV->R)->R:=
 List.rec (motive:=λ_=>(List AV->R)->R) (λk=>k []) (λa _ ih k=>Gl a λa=>ih λt=>k (a::t)) l
def oY(v:AV)(k:AV->R):R:=match v with
 |.tuple l=>Ir l λl=>k (.tuple l)
 |v=>Gl v k
def zE(x:AB)(k:AB->R):R:=match x with
 |.cells cs fz=>uA cs λcs=>mP fz λfz=>k (.cells cs fz)
 |.map es c=>uA es λes=>mP c λc=>k (.map es c)
 |.iJ s p=>mP p λp=>k (.iJ s p)
 |.typed t cs=>uA cs λcs=>k (.typed t cs)
def K7(p:Pos):(Pos->R)->R:=
 Pos.rec (motive:=λ_=>(Pos->R)->R) (λk=>k (.o .h)) (λq _ k=>k (.i q)) (λ_ ih k=>ih λp=>k (.o p)) p
variable(z:R)
def NW(fr:Fr)(x:dK)(k:AV->R):R:=match x with
 |  .t p=>match kP p fr with
    |some v=>k v
    |none=>z
 |.c v=>k v
def J0(fr:Fr)(xs:List dK):(List AV->R)->R:=
 List.rec (motive:=λ_=>(List AV->R)->R) (λk=>k []) (λx _ ih k=>NW z fr x λv=>ih λvs=>k (v::vs)) xs
def zF(fr:Fr)(g:Option (Pos×Bool))(yes no:R):R:=match g with
 |none=>yes
 |  some (p,want)=>match kP p fr with
    |some (.bool b)=>match b==want with
     |true=>yes
     |false=>no
    |some (.tuple _)=>no
    |_=>z
def jK(fr:Fr)(d:Option Pos)(v:AV)(k:Fr->R):R:=match d with
 |some p=>mO (some v) p fr k
 |none=>k fr
def delK(o:Option Pos)(h:T AB)(k:T AB->R):R:=match o with
 |some b=>mO none b h k
 |none=>k h
def Zs(o:Option (Pos×AB))(h:T AB)(k:T AB->R):R:=match o with
 |some (b,x)=>zE x λx=>mO (some x) b h k
 |none=>k h
abbrev gR(R:Type):=FuncId->List AV->St->(AV->St->R)->R
def Zt(st:St)(del:Option Pos)(set:Option (Pos×AB))(new:Option AB)(k:St->R):R:=
 delK del st.heap λh=>Zs set h λh=>match new with
    |some x=>zE x λx=>mO (some x) st.next h λh=>K7 st.next λn=>k { heap:=h,next:=n }
    |none=>k { heap:=h,next:=st.next }
def Is(call:gR R)(op:ay)(xs:List AV)(st:St)(k:AV->St->R):R:=
 match op.run (λb=>kP b st.heap) st.next xs with
 |some (.val v)=>oY v λv=>k v st
 |some (.aD v del set new)=>oY v λv=>Zt st del set new λst=>k v st
 |some (.call f args)=>uA args λargs=>call f args st k
 |none=>z
def MN(call:gR R)(ops:List bk):Fr->St->(Fr->St->R)->R:=
 List.rec (motive:=λ_=>Fr->St->(Fr->St->R)->R) (λfr st k=>k fr st)
    (λo _ ih fr st k=>zF z fr o.guard
     (J0 z fr o.xs λxs=>Is z call o.k xs st λv st=>jK fr o.dst v λfr=>ih fr st k)
     (jK fr o.dst .undef λfr=>ih fr st k)) ops
def DS (bu:Nat)(h:T AB)(recs:List Rec):(T AB->R)->R:=
 List.rec (motive:=λ_=>(T AB->R)->R) (λk=>k h)
    (fun r _ ih k=>match r.c with
     |  .new id aq=>match bu.testBit r.idx with
        |true=>ih λh'=>mO (some aq) id h' k
        |false=>ih k
     |.aD _ _=>k h
     |.pure=>ih k) recs
def Qw(h:T AB)(l:List (Pos×AB)):(T AB->R)->R:=
 List.rec (motive:=λ_=>(T AB->R)->R) (λk=>k h) (λx _ ih k=>ih λh'=>mO (some x.2) x.1 h' k) l
def Qx(op:ay)(xs:List AV)(v:AV)(h:T AB):Bool:=
 match op.run (λb=>kP b h) .h xs with
 |some (.val u)=>eH u v
 |_=>false
def nW(bu:Nat)(op:ay)(xs:List AV)(v:AV):List (Pos×AB)->List Rec->Bool
 |_,[]=>true
 |  up,r::rs=>match r.c with
    | .new id aq=>match bu.testBit r.idx with
      |true=>nW bu op xs v ((id,aq)::up) rs
      |false=>nW bu op xs v up rs
    | .aD base _=>match bu.testBit r.idx with
      |true=>true
      |false=>(DS bu base rs λh=>Qw h up λh=>Qx op xs v h)&&nW bu op xs v up rs
    |.pure=>nW bu op xs v up rs
def DT (call:gR R)(ops:List (Nat×bk)):List Rec->T AB->Fr->St->(Fr->St->R)->R:=
 List.rec ( motive:=λ_=>List Rec->T AB->Fr->St->(Fr->St->R)->R)
    (λ_ _ fr st k=>k fr st)
    (fun jo _ ih recs base fr st k=>zF z fr jo.2.guard
     (J0  z fr jo.2.xs λxs=>match jo.2.cls with
        | .new=>match jo.2.k.run (λ_=>none) st.next xs with
          |some (.aD v none none (some aq))=>oY v λv=>zE aq λaq=>jK fr jo.2.dst v λfr=>K7 st.next λn=>mO (some aq) st.next st.heap λh=>
              ih ({ idx:=jo.1,o:=jo.2,v:=v,c:= .new st.next aq,nx:=n }::recs) base fr { heap:=h,next:=n } k
          |_=>z
        |.aD=>Is z call jo.2.k xs st λv st'=>jK fr jo.2.dst v λfr=>ih ({ idx:=jo.1,o:=jo.2,v:=v,c:= .aD base st'.heap,nx:=st'.next }::recs) st'.heap fr st' k
        | _ =>match jo.2.k.run (λ_=>none) .h xs with
          |some (.val v)=>oY v λv=>jK fr jo.2.dst v λfr=>ih ({ idx:=jo.1,o:=jo.2,v:=v,c:= .pure,nx:=st.next }::recs) base fr st k
          | _ =>DS jo.2.bu base recs λh=>match jo.2.k.run (λb=>kP b h) .h xs with
            | some (.val v)=>oY v λv=>match nW jo.2.bu jo.2.k xs v [] recs with
              |true=>jK fr jo.2.dst v λfr=>ih ({ idx:=jo.1,o:=jo.2,v:=v,c:= .pure,nx:=st.next }::recs) base fr st k
              |false=>z
            |_=>z)
     (jK fr jo.2.dst .undef λfr=>ih ({ idx:=jo.1,o:=jo.2,v:= .undef,c:= .pure,nx:=st.next }::recs) base fr st k)) ops
abbrev PZ(R:Type):=AC->Fr->St->(Fr->St->R)->(Nat->Fr->St->R)->(Fr->St->R)->R
def nX(call:gR R)(ih:PZ R):PZ R
 |.skip,fr,st,kn,_,_=>kn fr st
 |.region ops,fr,st,kn,_,_=>MN z call ops fr st kn
 |.draw ops,fr,st,kn,_,_=>DT z call ops [] st.heap fr st kn
 |.seq a b,fr,st,kn,kx,kr=>ih a fr st (λfr st=>ih b fr st kn kx kr) kx kr
 |  .cond x a b,fr,st,kn,kx,kr=>NW z fr x λv=>match v with
    |.bool true=>ih a fr st kn kx kr
    |.bool false=>ih b fr st kn kx kr
    |_=>z
 | .block id a,fr,st,kn,kx,kr=>ih a fr st kn (λpR fr st=>match Nat.beq pR id with
     |true=>kn fr st
     |false=>kx pR fr st) kr
 |.loop a,fr,st,kn,kx,kr=>ih a fr st (λfr st=>ih (.loop a) fr st kn kx kr) kx kr
 |.exit id,fr,st,_,kx,_=>kx id fr st
 |.ret,fr,st,_,_,kr=>kr fr st
def K8(call:gR R)(n:Nat):PZ R:=
 Nat.rec (motive:=λ_=>PZ R) (λ_ _ _ _ _ _=>z) (λ_ ih=>nX z call ih) n
def wA(vs:List AV):Nat->Fr->(Fr->R)->R:=
 List.rec (motive:=λ_=>Nat->Fr->(Fr->R)->R) (λ_ fr k=>k fr)
    (λv _ ih i fr k=>mO (some v) (key i) fr λfr=>ih (i+1) fr k) vs
def wB(st:St)(fr:Fr)(rs:List xB)(k:AV->R):R:=
 match b9 (λb=>kP b st.heap) fr rs with
 |  some vs=>Ir vs λvs=>match vs with
    |[v]=>k v
    |vs=>k (.tuple vs)
 |none=>z
def Bj (O:dQ  )(G:T cj)(m:Nat)(d:Nat):gR R:=
 Nat.rec (motive:=λ_=>gR R) (λ_ _ _ _=>z)
    (fun _ ih f args st k=>match O f with
     |  some s=>match s args st with
        |some (v,st')=>oY v λv=>k v st'
        |none=>z
     |  none=>match kP (key f) G with
        |some F=>match Nat.beq args.length F.nparams with
         |true=>wA args 0 .e λfr=>K8 z ih m F.code fr st
              (λfr st=>wB z st fr F.results λv=>k v st)
              (λ_ _ _=>z)
              (λfr st=>wB z st fr F.results λv=>k v st)
         |false=>z
        |none=>z) d
end
end
end Go.Ai
