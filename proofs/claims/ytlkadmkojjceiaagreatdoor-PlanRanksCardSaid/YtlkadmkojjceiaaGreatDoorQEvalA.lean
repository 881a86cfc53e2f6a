/- An evaluator over plain values, its compiler and its relation to worlds. -/
import Derived.Orders
import Derived.Below
set_option linter.all false
def H4:=@Option.some.injEq
def H5:=@List.getElem?_eq_getElem
def Za0:=@decide_eq_true
def Za1:=@Nat.eq_of_beq_eq_true
def Za2:=@decide_eq_false
def Za3:=@List.getElem?_eq_some_iff
def Za4:=@Nat.le_of_ble_eq_true
def Za5:=@if_neg
def Za6:=@Nat.le_refl
def Za7:=@if_pos
def Za8:=@Bool.and_eq_true
def Za9:=@List.length_map
def Zb0:=@List.mem_cons_of_mem
def Zb1:=@List.mem_cons
def Zb2:=@List.eq_nil_of_length_eq_zero
def Zb3:=@List.getElem?_cons_zero
def Zb4:=@List.getD_eq_getElem?_getD
def Zb5:=@List.mem_of_getElem?
def Zb6:=@Prod.mk.injEq
def Zb7:=@List.getElem?_append_left
def Zb8:=@List.getElem?_take
def Zb9:=@Nat.ne_of_beq_eq_false
def Zc0:=@List.getElem?_eq_none
def Zc1:=@List.getElem?_map
def Zc2:=@List.getElem?_append_right
def Zc3:=@List.mem_singleton
def Zc4:=@List.take_succ_eq_append_getElem
def Zc5:=@List.getElem?_drop
def Zc6:=@List.getElem_mem
def Zc7:=@List.drop_eq_getElem_cons
def Zc8:=@Nat.le_trans
def Zc9:=@List.mem_append
def Zd0:=@Nat.lt_of_lt_of_le
def Zd1:=@decide_eq_true_eq
def Zd2:=@Array.getElem?_eq_some_iff
def Zd3:=@List.all_eq_true
def Zd4:=@List.length_cons
def Zd5:=@List.length_take
def Zd6:=@List.map_cons
def Zd7:=@List.length_append
def Zd8:=@List.mem_cons_self
def Zd9:=@Nat.zero_add
def Ze0:=@List.nil_append
def Ze1:=@Option.map_eq_some_iff
def Ze2:=@List.map_append
def Ze3:=@List.drop_zero
def Ze4:=@Array.getElem?_setIfInBounds_ne
def Ze5:=@List.getElem?_cons_succ
def Ze6:=@List.not_mem_nil
def Ze7:=@Option.bind_some
def Ze8:=@Option.map_some
def Ze9:=@Nat.add_sub_cancel
def Zf0:=@List.append_nil
def Zf1:=@Bool.false_eq_true
def Zf2:=@Array.getElem?_eq_getElem
def Zf3:=@List.take_of_length_le
def Zf4:=@Bool.true_and
def Zf5:=@List.mem_iff_getElem?
def Zf6:=@Array.length_toList
def Zf7:=@List.cons_append
def Zf8:=@List.flatten_cons
def Zf9:=@if_false
def Zg0:=@List.mem_map
def Zg1:=@Option.getD_some
def Zg2:=@decide_true
def Zg3:=@List.drop_append_of_le_length
def Zg4:=@List.map_map
def Zg5:=@if_true
def Zg6:=@List.take_append_drop
def Zg7:=@Array.getElem?_toList
def Zg8:=@of_decide_eq_true
def Zg9:=@Nat.mul_le_mul_right
def Zh0:=@List.mem_append_left
def Zh1:=@Array.getElem?_append_left
def Zh2:=@List.cons.injEq
def Zh3:=@Bool.or_eq_true
def Zh4:=@Option.some.inj
def Zh5:=@Nat.add_zero
def Zh6:=@Nat.le_max_right
def Zh7:=@Bool.not_eq_true'
def Zh8:=@Array.getD_eq_getD_getElem?
def Zh9:=@Nat.add_assoc
def Zi0:=@Nat.lt_or_ge
def Zi1:=@List.map_nil
def Zi2:=@List.append_assoc
def Zi3:=@List.ext_getElem?
def Zi4:=@Nat.mod_lt
def Zi5:=@Nat.le_max_left
def Zi6:=@List.mem_append_right
def Zi7:=@List.take_length
def Zi8:=@Bool.and_self
def Zi9:=@Nat.add_mul
def Zj0:=@Nat.zero_le
def Zj1:=@Nat.min_eq_left
def Zj2:=@List.range_succ
def Zj3:=@List.map_congr_left
def Zj4:=@Nat.succ_mul
def Zj5:=@List.length_drop
def Zj6:=@or_false
def Zj7:=@List.nodup_nil
def Zj8:=@List.length_nil
def Zj9:=@Function.comp_def
def Zk0:=@Bool.not_true
def Zk1:=@Option.getD_none
def Zk2:=@Nat.mod_eq_of_lt
def Zk3:=@Int.mul_le_mul_of_nonneg_right
def Zk4:=@Int.mul_le_mul_of_nonneg_left
def Zk5:=@Bool.eq_iff_iff
def Zk6:=@List.take_left'
def Zk7:=@Array.getElem?_setIfInBounds
def Zk8:=@Bool.and_true
def Zk9:=@Array.mem_of_getElem?
def Zl0:=@List.contains_iff_mem
def Zl1:=@Nat.mul_one
def Zl2:=@Array.mem_toList_iff
def Zl3:=@List.range_eq_range'
def Zl4:=@List.mem_range
def Zl5:=@List.mem_iff_getElem
def Zl6:=@Bool.or_eq_false_iff
def Zl7:=@List.mem_of_mem_take
def Zl8:=@List.range'_succ
def Zl9:=@Int.natCast_emod
def Zm0:=@List.getElem?_range
def Zm1:=@List.map_take
def Zm2:=@and_true
def Zm3:=@Int.mul_assoc
def Zm4:=@of_decide_eq_false
def Zm5:=@Array.ext'
def Zm6:=@List.mem_filterMap
def Zm7:=@List.count_eq_zero
def Zm8:=@Nat.sub_self
def Zm9:=@Int.toNat_natCast
def Zn0:=@Bool.not_false
def Zn1:=@List.size_toArray
def Zn2:=@List.take_take
def Zn3:=@List.take_zero
def Zn4:=@List.getElem_take
def Zn5:=@List.flatMap_cons
def Zn6:=@Array.getElem?_modify
def Zn7:=@UInt8.lt_iff_toNat_lt
def Zn8:=@Nat.le_add_right
def Zn9:=@Array.eq_empty_of_size_eq_zero
def Zo0:=@List.getElem_map
def Zo1:=@Nat.lt_irrefl
def Zo2:=@List.all_cons
def Zo3:=@Array.toList_extract
def Zo4:=@Nat.one_mul
def Zo5:=@beq_eq_false_iff_ne
def Zo6:=@List.take_succ_cons
def Zo7:=@Nat.sub_zero
def Zo8:=@Array.toList_setIfInBounds
def Zo9:=@List.drop_take
def Zp0:=@Nat.mod_eq_sub_mod
def Zp1:=@Nat.eq_zero_or_pos
def Zp2:=@List.drop_drop
def Zp3:=@Int.fdiv_eq_ediv_of_nonneg
def Zp4:=@Int.mul_nonneg
def Zp5:=@List.take_add_one
def Zp6:=@List.length_range
def Zp7:=@Array.toList_map
def Zp8:=@List.isEmpty_map
def Zp9:=@Int.natCast_ediv
def Zq0:=@Nat.blt_eq
def Zq1:=@UInt8.toNat_inj
def Zq2:=@List.foldl_cons
def Zq3:=@Int.natCast_mul
def Zq4:=@List.mem_filter
def Zq5:=@Int.ediv_nonneg
def Zq6:=@List.nodup_cons
namespace Go.Ai
section
inductive Pos where
 |h
 |o (p:Pos)
 |i (p:Pos)
 deriving DecidableEq,Inhabited
def Pos.toNat:Pos->Nat
 |.h=>1
 |.o p=>2*p.toNat
 |.i p=>2*p.toNat+1
def Pos.succ:Pos->Pos
 |.h=>.o .h
 |.o p=>.i p
 |.i p=>.o p.succ
def Pos.Sl:Nat->Nat->Pos
 |0,_=>.h
 |  f+1,n=>match Nat.ble n 1 with
    |true=>.h
    |false=>match Nat.beq (n % 2) 0 with
     |true=>.o (Pos.Sl f (n / 2))
     |false=>.i (Pos.Sl f (n / 2))
def key(n:Nat):Pos:=Pos.Sl (n+1).log2 (n+1)
def Pos.beq:Pos->Pos->Bool
 |.h,.h=>true
 |.o a,.o b=>a.beq b
 |.i a,.i b=>a.beq b
 |_,_=>false
inductive T(α:Type) where
 |e
 |n (l:T α) (v:Option α) (r:T α)
 deriving Inhabited
def T.get{α:Type}:Pos->T α->Option α
 |_,.e=>none
 |.h,.n _ v _=>v
 |.o p,.n l _ _=>l.get p
 |.i p,.n _ _ r=>r.get p
def T.put{α:Type}(x:Option α):Pos->T α->T α
 |.h,.e=>.n .e x .e
 |.h,.n l _ r=>.n l x r
 |.o p,.e=>.n (T.put x p .e) none .e
 |.o p,.n l v r=>.n (T.put x p l) v r
 |.i p,.e=>.n .e none (T.put x p .e)
 |.i p,.n l v r=>.n l v (T.put x p r)
inductive AV where
 |bool (b:Bool)
 |int (k:IntKind) (n:Int)
 |str (s:List Nat)
 |iC
 |ptr (b:Pos) (off:Nat)
 |fp (xs:List (List AV)) (i j:Nat)
 |af
 |slice (b:Pos) (off len:Nat) (cap:Option Nat) (es:Nat)
 |fl (xs:List (List AV)) (es:Nat)
 |nF
 |map (b:Pos)
 |func (f:FuncId) (first captured:List AV)
 |jk
 |uk
 |iface (t:TypeId) (v:AV)
 |agg (l:List AV)
 |tuple (l:List AV)
 deriving Inhabited
inductive AB where
 |cells (cs:List AV) (fz:Nat)
 |map (es:List (AV×AV×Nat)) (clock:Nat)
 |jq (s:List Nat) (pos:Nat)
 |typed (t:TypeId) (cs:List AV)
 deriving Inhabited
def AV.cells:AV->List AV
 |.agg l=>l
 |v=>[v]
def AV.undef:AV:= .tuple []
def AV.one:AV->Bool
 |.agg _=>false
 |.tuple _=>false
 |_=>true
def aL:List AV->Bool
 |[]=>true
 |  v::l=>match v.one with
    |true=>aL l
    |false=>false
inductive cq where
 |val (v:AV)
 |aH (v:AV) (del:Option Pos) (set:Option (Pos×AB)) (new:Option AB)
 |call (f:FuncId) (args:List AV)
 deriving Inhabited
def nth{α:Type}:List α->Nat->Option α
 |[],_=>none
 |a::_,0=>some a
 |_::l,n+1=>nth l n
def cut{α:Type}(l:List α)(i n:Nat):Option (List α):=
 match Nat.ble (i+n) l.length with
 |true=>some ((l.drop i).take n)
 |false=>none
def aF{α:Type}(l:List α)(i:Nat)(vs:List α):List α:=l.take i++(vs++l.drop (i+vs.length))
def iJ:List Nat->List Nat->Bool
 |[],[]=>true
 |  a::x,b::y=>match Nat.beq a b with
    |true=>iJ x y
    |false=>false
 |_,_=>false
def ay:List Nat->List Nat->Bool
 |_,[]=>false
 |[],_::_=>true
 |  a::x,b::y=>match Nat.blt a b with
    |true=>true
    |false=>match Nat.beq a b with
     |true=>ay x y
     |false=>false
inductive PK where
 |b
 |i
 |s
 deriving Inhabited
inductive ew where
 |num
 |bool
 |ptr
 |slice
 |map
 |func
 |iface
 |struct (fs:List (Nat×PK))
 deriving Inhabited
inductive acL where
 |int (k:IntKind)
 |same
 |bytes
 |ofBytes
 deriving Inhabited
inductive LK where
 |s
 |l
 |m
 deriving Inhabited
inductive av where
 |move
 |pick
 |alloc (zero:List AV)
 |box
 |build (zero:List AV) (places:List (Nat×Nat))
 |buildSlice (es len:Nat) (zero:List AV) (places:List Nat)
 |load (n:Option Nat)
 |store (n:Nat)
 |nilCheck
 |bin (op:BinOp) (q:ew)
 |un (op:UnOp)
 |conv (k:acL)
 |mkIface (t:TypeId)
 |mkFunc (f:FuncId) (Ie:Nat)
 |mkMap
 |lookup (pk:PK) (zero:AV) (ok:Bool)
 |mapSet (pk:PK)
 |mkSlice (es bytes:Nat) (zero:List AV)
 |sliceS (lo hi:Bool)
 |sliceL (es:Nat) (lo hi mx:Bool)
 |fieldA (off:Nat)
 |idxA (es:Nat) (arr:Option Nat)
 |field (off:Nat) (n:Option Nat)
 |idxS
 |extract (i:Nat)
 |callF (f:FuncId)
 |callV
 |lenB (k:LK)
 |capB
 |append (es bytes:Nat)
 |copyB (es:Nat)
 |minB
 |maxB
 |clearS (es:Nat) (zero:List AV)
 |rangeS
 |nextS
 |allocT (t:TypeId) (zero:List AV)
 |appendT (e:TypeId) (bytes:Nat)
 |toU
 |fromU (u:TypeId) (n:Nat)
 |sliceData
 |unsafeStr (e:TypeId)
 |bad
 deriving Inhabited
def Qc(k:IntKind):Int:=match k with
 |.i8=> -128|.i16=> -32768|.i32=> -2147483648|.i64=> -9223372036854775808|_=>0
def Qd(k:IntKind):Int:=match k with
 |.i8=>127|.i16=>32767|.i32=>2147483647|.i64=>9223372036854775807
 |.u8=>255|.u16=>65535|.u32=>4294967295|.u64=>18446744073709551615
def aq(k:IntKind)(n:Int):Int:=
 match Int.decLe (Qc k) n with
 |  .isTrue _=>match Int.decLe n (Qd k)with
    |.isTrue _=>n
    |.isFalse _=>k.wrap n
 |.isFalse _=>k.wrap n
def AY(a b:IntKind):Bool:=match decEq a b with
 |.isTrue _=>true
 |.isFalse _=>false
def tY(a b:Int):Bool:=match Int.decEq a b with
 |.isTrue _=>true
 |.isFalse _=>false
def yo(a b:Int):Bool:=match Int.decLt a b with
 |.isTrue _=>true
 |.isFalse _=>false
def RV(a b:Int):Bool:=match Int.decLe a b with
 |.isTrue _=>true
 |.isFalse _=>false
def xL:PK->AV->AV->Option Bool
 |.b,.bool a,.bool b=>some (a==b)
 |  .i,.int k a,.int k' b=>match AY k k' with
    |true=>some (tY a b)
    |false=>none
 |.s,.str a,.str b=>some (iJ a b)
 |_,_,_=>none
def eqFields(xs ys:List AV):List (Nat×PK)->Option Bool
 |[]=>some true
 |  (o,pk)::fs=>match nth xs o,nth ys o with
    | some a,some b=>match xL pk a b with
      |some true=>eqFields xs ys fs
      |some false=>some false
      |none=>none
    |_,_=>none
def LS:ew->AV->AV->Option Bool
 |.bool,.bool a,.bool b=>some (a==b)
 |.ptr,.iC,.iC=>some true
 |.ptr,.iC,.ptr _ _=>some false
 |.ptr,.ptr _ _,.iC=>some false
 |.ptr,.iC,.fp _ _ _=>some false
 |.ptr,.fp _ _ _,.iC=>some false
 |  .ptr,.ptr b o,.ptr b' o'=>match Pos.beq b b',Nat.beq o o' with
    |true,true=>some true
    |_,_=>none
 |.slice,.af,.af=>some true
 |.slice,.af,.slice _ _ _ _ _=>some false
 |.slice,.slice _ _ _ _ _,.af=>some false
 |.slice,.af,.fl _ _=>some false
 |.slice,.fl _ _,.af=>some false
 |.map,.nF,.nF=>some true
 |.map,.nF,.map _=>some false
 |.map,.map _,.nF=>some false
 |.func,.jk,.jk=>some true
 |.func,.jk,.func _ _ _=>some false
 |.func,.func _ _ _,.jk=>some false
 |.iface,.uk,.iface _ _=>some false
 |.iface,.iface _ _,.uk=>some false
 |.struct fs,.agg xs,.agg ys=>eqFields xs ys fs
 |_,_,_=>none
def lC (op:BinOp)(q:ew):AV->AV->Option AV
 |  .int k a,.int k' b=>match op with
    | .shl=>match yo b 0 with
      |true=>none
      |false=>some (.int k (aq k (a*2 ^ (min b.toNat k.bits))))
    | .shr=>match yo b 0 with
      |true=>none
      |false=>some (.int k (a.fdiv (2 ^ (min b.toNat k.bits))))
    | op=>match AY k k' with
      |false=>none
      | true=>match op with
        |.add=>some (.int k (aq k (a+b)))
        |.sub=>some (.int k (aq k (a - b)))
        |.mul=>some (.int k (aq k (a*b)))
        | .quo=>match tY b 0 with
          |true=>none
          |false=>some (.int k (aq k (a.tdiv b)))
        | .rem=>match tY b 0 with
          |true=>none
          |false=>some (.int k (a.tmod b))
        |.and=>some (.int k (k.wrap (BitVec.ofInt k.bits a &&& BitVec.ofInt k.bits b).toNat))
        |.or=>some (.int k (k.wrap (BitVec.ofInt k.bits a ||| BitVec.ofInt k.bits b).toNat))
        |.xor=>some (.int k (k.wrap (BitVec.ofInt k.bits a ^^^ BitVec.ofInt k.bits b).toNat))
        |.andNot=>some (.int k (k.wrap (BitVec.ofInt k.bits a &&& ~~~BitVec.ofInt k.bits b).toNat))
        |.eql=>some (.bool (tY a b))
        |.neq=>some (.bool (!tY a b))
        |.lss=>some (.bool (yo a b))
        |.leq=>some (.bool (RV a b))
        |.gtr=>some (.bool (yo b a))
        |.geq=>some (.bool (RV b a))
        |_=>none
 |  .str a,.str b=>match op with
    | .add=>match Nat.ble (a.length+b.length) 9223372036854775807 with
      |true=>some (.str (a++b))
      |false=>none
    |.eql=>some (.bool (iJ a b))
    |.neq=>some (.bool (!iJ a b))
    |.lss=>some (.bool (ay a b))
    |.leq=>some (.bool (ay a b||iJ a b))
    |.gtr=>some (.bool (!(ay a b||iJ a b)))
    |.geq=>some (.bool (!ay a b))
    |_=>none
 |  x,y=>match op with
    | .eql=>match LS q x y with
      |some b=>some (.bool b)
      |none=>none
    | .neq=>match LS q x y with
      |some b=>some (.bool (!b))
      |none=>none
    |_=>none
def unA(op:UnOp):AV->Option AV
 |  .bool b=>match op with
    |.not=>some (.bool (!b))
    |_=>none
 |  .int k n=>match op with
    |.neg=>some (.int k (aq k (0 - n)))
    |_=>none
 |_=>none
def cj(cells:List AV):List (Nat×Nat)->List AV->Option (List AV)
 |[],[]=>some cells
 |  (off,size)::ps,v::vs=>
    match Nat.beq v.cells.length size,Nat.ble (off+size) cells.length with
    |true,true=>cj (aF cells off v.cells) ps vs
    |_,_=>none
 |_,_=>none
def bM{α:Type}(l:List α):Nat->List α
 |0=>[]
 |n+1=>l++bM l n
def sM:AV->Option Nat
 |  .int _ n=>match n with
    |.ofNat m=>some m
    |.negSucc _=>none
 |_=>none
def Fo(n:Nat):AV:= .int .i64 (.ofNat n)
def rows(es:Nat)(cs:List AV):Nat->List (List AV)
 |0=>[]
 |n+1=>cs.take es::rows es (cs.drop es) n
def bounds:(lo hi mx:Bool)->List AV->Option (Option Nat×Option Nat×Option Nat)
 |false,false,false,[]=>some (none,none,none)
 |  true,false,false,[a]=>match sM a with
    |some l=>some (some l,none,none)
    |none=>none
 |  false,true,false,[b]=>match sM b with
    |some h=>some (none,some h,none)
    |none=>none
 |  true,true,false,[a,b]=>match sM a,sM b with
    |some l,some h=>some (some l,some h,none)
    |_,_=>none
 |  false,true,true,[b,c]=>match sM b,sM c with
    |some h,some m=>some (none,some h,some m)
    |_,_=>none
 |  true,true,true,[a,b,c]=>match sM a,sM b,sM c with
    |some l,some h,some m=>some (some l,some h,some m)
    |_,_,_=>none
 |_,_,_,_=>none
def cg(es n:Nat)(H:Pos->Option AB):AV->Option (List AV)
 |.af=>some []
 |  .slice b off _ _ _=>match Nat.beq (n*es) 0 with
    |true=>some []
    |false=>match H b with
     |some (.cells cs _)=>cut cs off (n*es)
     |_=>none
 |  .fl xs es'=>match Nat.beq es es',Nat.ble n xs.length with
    |true,true=>some (xs.take n).flatten
    |_,_=>none
 |  .str s=>match Nat.beq es 1,Nat.ble n s.length with
    |true,true=>some ((s.take n).map λc=>.int .u8 (.ofNat c))
    |_,_=>none
 |_=>none
def cS:AV->Option Nat
 |.af=>some 0
 |.slice _ _ n _ _=>some n
 |.fl xs _=>some xs.length
 |.str s=>some s.length
 |_=>none
def jr(pk:PK)(k:AV):List (AV×AV×Nat)->Nat->Option (Option (Nat×AV))
 |[],_=>some none
 |  (k',v,_)::es,i=>match xL pk k k' with
    |some true=>some (some (i,v))
    |some false=>jr pk k es (i+1)
    |none=>none
def Xm:PK->AV->Bool
 |.b,.bool _=>true
 |.i,.int _ _=>true
 |.s,.str _=>true
 |_,_=>false
def mV(k v:AV):List (AV×AV×Nat)->Nat->List (AV×AV×Nat)
 |[],_=>[]
 |(_,_,born)::es,0=>(k,v,born)::es
 |e::es,i+1=>e::mV k v es i
def VI(s:List Nat)(pos:Nat):Option (Nat×Nat):=
 match nth s pos with
 |  some c=>match Nat.blt c 128 with
    |true=>some (c,1)
    |false=>none
 |none=>none
def bytesOf:List AV->Option (List Nat)
 |[]=>some []
 |  .int .u8 (.ofNat n)::l=>match Nat.blt n 256,bytesOf l with
    |true,some s=>some (n::s)
    |_,_=>none
 |_=>none
def J2(_H:Pos->Option AB)(_next:Pos):List AV->Option cq
 |[x]=>some (.val x)
 |_=>none
def OS(_H:Pos->Option AB)(_next:Pos):List AV->Option cq
 |  [c,a,b]=>match c with
    |.bool true=>some (.val a)
    |.bool false=>some (.val b)
    |_=>none
 |_=>none
def Fp(_H:Pos->Option AB)(next:Pos)(zero:List AV):List AV->Option cq
 |[]=>some (.aH (.ptr next 0) none none (some (.cells zero 0)))
 |_=>none
def MZ(_H:Pos->Option AB)(next:Pos):List AV->Option cq
 |[x]=>some (.aH (.ptr next 0) none none (some (.cells x.cells 0)))
 |_=>none
def Fq(_H:Pos->Option AB)(_next:Pos)(zero:List AV)(places:List (Nat×Nat)):List AV->Option cq
 |  xs=>match cj zero places xs with
    |some cs=>some (.val (.agg cs))
    |none=>none
def o9(_H:Pos->Option AB)(next:Pos)(es len:Nat)(zero:List AV)(places:List Nat):List AV->Option cq
 |  xs=>match cj (bM zero len) (places.map λi=>(i*es,es)) xs with
    |some cs=>some (.aH (.slice next 0 len (some len) es) none none (some (.cells cs 0)))
    |none=>none
def rI (H :Pos->Option AB)(_next:Pos)(n:Option Nat):List AV->Option cq
 |  [p] =>match p with
    | .ptr b off=>match H b with
      | some (.cells cs _)=>match n with
        | none=>match nth cs off with
          |some v=>some (.val v)
          |none=>none
        | some n=>match cut cs off n with
          |some vs=>some (.val (.agg vs))
          |none=>none
      | some (.typed _ cs)=>match n with
        | none=>match nth cs off with
          |some v=>some (.val v)
          |none=>none
        | some n=>match cut cs off n with
          |some vs=>some (.val (.agg vs))
          |none=>none
      |_=>none
    | .fp xs i j=>match nth xs i with
      | some cs=>match n with
        | none=>match nth cs j with
          |some v=>some (.val v)
          |none=>none
        | some n=>match cut cs j n with
          |some vs=>some (.val (.agg vs))
          |none=>none
      |none=>none
    |_=>none
 |_=>none
def AZ (H:Pos->Option AB)(_next:Pos)(n:Nat):List AV->Option cq
 |  [p, v]=>match p with
    | .ptr b off=>match H b with
      | some (.cells cs fz)=>
        match Nat.beq v.cells.length n,Nat.ble (off+n) cs.length,Nat.ble fz off,aL v.cells with
        |true,true,true,true=>some (.aH .undef none (some (b,.cells (aF cs off v.cells) fz)) none)
        |_,_,_,_=>none
      | some (.typed t cs)=>
        match Nat.beq v.cells.length n,Nat.ble (off+n) cs.length,aL v.cells with
        |true,true,true=>some (.aH .undef none (some (b,.typed t (aF cs off v.cells))) none)
        |_,_,_=>none
      |_=>none
    |_=>none
 |_=>none
def Dj(_H:Pos->Option AB)(_next:Pos):List AV->Option cq
 |  [x]=>match x with
    |.ptr _ _=>some (.val x)
    |.fp _ _ _=>some (.val x)
    |.func _ _ _=>some (.val x)
    |_=>none
 |_=>none
def gI(_H:Pos->Option AB)(_next:Pos)(op:BinOp)(q:ew):List AV->Option cq
 |  [x,y]=>match lC op q x y with
    |some v=>some (.val v)
    |none=>none
 |_=>none
def Xn(_H:Pos->Option AB)(_next:Pos)(op:UnOp):List AV->Option cq
 |  [x]=>match unA op x with
    |some v=>some (.val v)
    |none=>none
 |_=>none
def uF (H:Pos->Option AB)(next:Pos)(k:acL):List AV->Option cq
 |  [x] =>match k,x with
    |.int k,.int _ n=>some (.val (.int k (aq k n)))
    |.same,.str s=>some (.val (.str s))
    |.bytes,.str s=>some (.aH (.slice next 0 s.length none 1) none none (some (.cells (s.map λc=>.int .u8 (.ofNat c)) 0)))
    |.ofBytes,.af=>some (.val (.str []))
    | .ofBytes,.slice b off n _ _=>match Nat.beq n 0 with
      |true=>some (.val (.str []))
      | false=>match H b with
        |some (.cells cs _)=>match cut cs off n with
         |some l=>match bytesOf l with
          |some s=>some (.val (.str s))
          |none=>none
         |none=>none
        |_=>none
    |_,_=>none
 |_=>none
def Fs(_H:Pos->Option AB)(_next:Pos)(t:TypeId):List AV->Option cq
 |[x]=>some (.val (.iface t x))
 |_=>none
def Cn(_H:Pos->Option AB)(_next:Pos)(f:FuncId)(Ie:Nat):List AV->Option cq
 |xs=>some (.val (.func f (xs.take Ie) (xs.drop Ie)))
def Ft(_H:Pos->Option AB)(next:Pos):List AV->Option cq
 |_=>some (.aH (.map next) none none (some (.map [] 0)))
def uG (H:Pos->Option AB)(_next:Pos)(pk:PK)(zero:AV)(ok:Bool):List AV->Option cq
 |  [m, k]=>
    match (match m with
      | .nF=>match Xm pk k with
        |true=>some none
        |false=>none
      | .map b=>match H b with
        |some (.map es _)=>jr pk k es 0
        |_=>none
      |_=>none)with
    |some (some (_,v))=>some (.val (match ok with|true=>.tuple [v,.bool true]|false=>v))
    |some none=>some (.val (match ok with|true=>.tuple [zero,.bool false]|false=>zero))
    |none=>none
 |_=>none
def uH (H:Pos->Option AB)(_next:Pos)(pk:PK):List AV->Option cq
 |  [m, k,v]=>match m with
    | .map b=>match H b with
      | some (.map es clock)=>match Xm pk k,jr pk k es 0 with
        |true,some (some (i,_))=>some (.aH .undef none (some (b,.map (mV k v es i) clock)) none)
        |true,some none=>some (.aH .undef none (some (b,.map (es++[(k,v,clock)]) (clock+1))) none)
        |_,_=>none
      |_=>none
    |_=>none
 |_=>none
def vt(_H:Pos->Option AB)(next:Pos)(es bytes:Nat)(zero:List AV):List AV->Option cq
 |  [l,c]=>match sM l,sM c with
    | some l,some c=>match Nat.ble l c,Nat.ble (bytes*c) 281474976710656,Nat.ble c 9223372036854775807 with
      |true,true,true=>some (.aH (.slice next 0 l (some c) es) none none (some (.cells (bM zero c) 0)))
      |_,_,_=>none
    |_,_=>none
 |_=>none
def Ig(_H:Pos->Option AB)(_next:Pos)(lo hi:Bool):List AV->Option cq
 |  x ::bs=>match x,bounds lo hi false bs with
    | .str s,some (l,h,_)=>
      let h:=h.getD s.length
      let l:=l.getD 0
      match Nat.ble l h,Nat.ble h s.length with
      |true,true=>some (.val (.str ((s.take h).drop l)))
      |_,_=>none
    |_,_=>none
 |_=>none
def iK (_H:Pos->Option AB)(_next:Pos)(es:Nat)(lo hi mx:Bool):List AV->Option cq
 |  x ::bs=>match x,bounds lo hi mx bs with
    | .slice b off len cap es',some (l,h,m)=>
      match Nat.beq es es',Nat.ble (l.getD 0) (h.getD len)with
      | true,true=>match cap,m with
        | some c,some m=>match Nat.ble (h.getD len) m,Nat.ble m c with
          |true,true=>some (.val (.slice b (off+l.getD 0*es) (h.getD len - l.getD 0) (some (m - l.getD 0)) es))
          |_,_=>none
        | some c,none=>match Nat.ble (h.getD len) c with
          |true=>some (.val (.slice b (off+l.getD 0*es) (h.getD len - l.getD 0) (some (c - l.getD 0)) es))
          |false=>none
        | none,some m=>match Nat.ble (h.getD len) m,Nat.ble m len with
          |true,true=>some (.val (.slice b (off+l.getD 0*es) (h.getD len - l.getD 0) (some (m - l.getD 0)) es))
          |_,_=>none
        | none,none=>match Nat.ble (h.getD len) len with
          |true=>some (.val (.slice b (off+l.getD 0*es) (h.getD len - l.getD 0) none es))
          |false=>none
      |_,_=>none
    | .fl xs es',some (l,h,m)=>
      match Nat.beq es es' with
      | true=>match m with
        | some m=>match Nat.beq (l.getD 0) 0,Nat.beq (h.getD xs.length) 0,Nat.beq m 0 with
          |true,true,true=>some (.val (.slice .h 0 0 (some 0) es))
          |_,_,_=>none
        | none=>match Nat.ble (l.getD 0) (h.getD xs.length),Nat.ble (h.getD xs.length) xs.length with
          |true,true=>some (.val (.fl ((xs.take (h.getD xs.length)).drop (l.getD 0)) es))
          |_,_=>none
      |false=>none
    | .af,some (l,h,m)=>match Nat.beq (l.getD 0) 0,Nat.beq (h.getD 0) 0,Nat.beq (m.getD 0) 0 with
        |true,true,true=>some (.val .af)
        |_,_,_=>none
    |_,_=>none
 |_=>none
def Ih(_H:Pos->Option AB)(_next:Pos)(off:Nat):List AV->Option cq
 |  [x]=>match x with
    |.ptr b o=>some (.val (.ptr b (o+off)))
    |.fp xs i j=>some (.val (.fp xs i (j+off)))
    |_=>none
 |_=>none
def nG (_H:Pos->Option AB)(_next:Pos)(es:Nat)(arr:Option Nat):List AV->Option cq
 |  [x, i]=>match sM i with
    | some i=>match arr,x with
      | none,.slice b off len _ _=>match Nat.blt i len with
        |true=>some (.val (.ptr b (off+i*es)))
        |false=>none
      | none,.fl xs es'=>match Nat.blt i xs.length,Nat.beq es es' with
        |true,true=>some (.val (.fp xs i 0))
        |_,_=>none
      | some n,.ptr b off=>match Nat.blt i n with
        |true=>some (.val (.ptr b (off+i*es)))
        |false=>none
      |_,_=>none
    |none=>none
 |_=>none
def LU (_H:Pos->Option AB)(_next:Pos)(off:Nat)(n:Option Nat):List AV->Option cq
 |  [x] =>match x with
    | .agg cs=>match n with
      | none=>match nth cs off with
        |some v=>some (.val v)
        |none=>none
      |some n=>some (.val (.agg ((cs.drop off).take n)))
    |_=>none
 |_=>none
def J3(_H:Pos->Option AB)(_next:Pos):List AV->Option cq
 |  [x,i]=>match x,sM i with
    | .str s,some i=>match nth s i with
      |some c=>some (.val (.int .u8 (.ofNat c)))
      |none=>none
    |_,_=>none
 |_=>none
def Ah(_H:Pos->Option AB)(_next:Pos)(i:Nat):List AV->Option cq
 |  [x]=>match x with
    | .tuple vs=>match nth vs i with
      |some v=>some (.val v)
      |none=>none
    |_=>none
 |_=>none
def LV(_H:Pos->Option AB)(_next:Pos)(f:FuncId):List AV->Option cq
 |xs=>some (.call f xs)
def LW(_H:Pos->Option AB)(_next:Pos):List AV->Option cq
 |  x::xs=>match x with
    |.func f first captured=>some (.call f (first++(xs++captured)))
    |_=>none
 |_=>none
def DX(H:Pos->Option AB)(_next:Pos)(k:LK):List AV->Option cq
 |  [x]=>match k,x with
    |.m,.nF=>some (.val (Fo 0))
    | .m,.map b=>match H b with
      |some (.map es _)=>some (.val (Fo es.length))
      |_=>none
    |.s,.str s=>some (.val (Fo s.length))
    |.l,.af=>some (.val (Fo 0))
    |.l,.slice _ _ n _ _=>some (.val (Fo n))
    |.l,.fl xs _=>some (.val (Fo xs.length))
    |_,_=>none
 |_=>none
def eV (H:  Pos->Option AB)(next:Pos)(es bytes:Nat):List AV->Option cq
 |  [s, x]=> match cS s,cS x with
    | some n,some m=>
      match Nat.ble ((2*(n+m)+768)*bytes) 281474976710656,Nat.ble (n+m) 9223372036854775807 with
      | true,true=>match Nat.beq m 0,s with
        |true,.slice b off n c es'=>some (.val (.slice b off n c es'))
        |true,.fl xs es'=>some (.val (.fl xs es'))
        |true,.af=>some (.val .af)
        |false,.af=>match cg es m H x with
         |some new=>some (.aH (.slice next 0 m none es) none none (some (.cells new 0)))
         |none=>none
        |false,.slice b off n (some c) es'=>
         match Nat.ble (n+m) c with
         |  true=>match H b,cg es m H x with
            |some (.cells cs fz),some new=>match Nat.ble (off+(n+m)*es) cs.length,Nat.ble fz (off+n*es)&&Nat.beq es es',aL new with
             |true,true,true=>some (.aH (.slice b off (n+m) (some c) es) none (some (b,.cells (aF cs (off+n*es) new) fz)) none)
             |_,_,_=>none
            |_,_=>none
         |  false=>match cg es n H s,cg es m H x with
            |some dL,some new=>some (.aH (.slice next 0 (n+m) none es) none none (some (.cells (dL++new) 0)))
            |_,_=>none
        |false,.slice b off n none es'=>
         match H b,cg es n H s,cg es m H x with
         |  some (.cells _ fz),some dL,some new=>match Nat.ble fz (off+n*es)&&Nat.beq es es',aL new with
            |true,true=>some (.aH (.slice next 0 (n+m) none es) (some b) none (some (.cells (dL++new) (fz - off))))
            |_,_=>none
         |_,_,_=>none
        |_,_=>none
      |_,_=>none
    |_,_=>none
 |_=>none
def xN (H : Pos->Option AB)(_next:Pos)(es:Nat):List AV->Option cq
 |  [d, x]=>match cS d,cS x with
    | some n,some m=>
      let k:=min m n
      match Nat.beq k 0 with
      | true=>match d with
        |.str _=>none
        |_=>some (.val (Fo 0))
      | false=>match d with
        | .slice b off _ _ _=>match H b,cg es k H x with
          | some (.cells cs fz),some new=>match Nat.ble (off+k*es) cs.length,Nat.ble fz off,aL new with
            |true,true,true=>some (.aH (Fo k) none (some (b,.cells (aF cs off new) fz)) none)
            |_,_,_=>none
          |_,_=>none
        |_=>none
    |_,_=>none
 |_=>none
def Ay(_H:Pos->Option AB)(_next:Pos):List AV->Option cq
 |  [x,y]=>match x,y with
    |.int k a,.int _ b=>some (.val (.int k (match yo b a with|true=>b|false=>a)))
    |.str a,.str b=>some (.val (.str (match ay a b||iJ a b with|true=>a|false=>b)))
    |_,_=>none
 |_=>none
def Az(_H:Pos->Option AB)(_next:Pos):List AV->Option cq
 |  [x,y]=>match x,y with
    |.int k a,.int _ b=>some (.val (.int k (match yo a b with|true=>b|false=>a)))
    |.str a,.str b=>some (.val (.str (match ay a b with|true=>b|false=>a)))
    |_,_=>none
 |_=>none
def qz (H:Pos->Option AB)(_next:Pos)(es:Nat)(zero:List AV):List AV->Option cq
 |  [x] =>match x with
    |.af=>some (.val .undef)
    | .slice b off n _ _=>match Nat.beq n 0 with
      |true=>some (.val .undef)
      | false=>match H b with
        |some (.cells cs fz)=>match Nat.ble (off+n*es) cs.length,Nat.ble fz off,aL (bM zero n)with
         |true,true,true=>some (.aH .undef none (some (b,.cells (aF cs off (bM zero n)) fz)) none)
         |_,_,_=>none
        |_=>none
    |_=>none
 |_=>none
def Co(_H:Pos->Option AB)(next:Pos):List AV->Option cq
 |  [x]=>match x with
    |.str s=>some (.aH (.ptr next 0) none none (some (.jq s 0)))
    |_=>none
 |_=>none
def Fu (H:Pos->Option AB)(_next:Pos):List AV->Option cq
 |  [x] =>match x with
    | .ptr b 0=>match H b with
      | some (.jq s pos)=>match Nat.blt pos s.length with
        |true=>match VI s pos with
         |some (c,w)=>some (.aH (.tuple [.bool true,Fo pos,.int .i32 (.ofNat c)]) none (some (b,.jq s (pos+w))) none)
         |none=>none
        |false=>some (.val (.tuple [.bool false]))
      |_=>none
    |_=>none
 |_=>none
def Cp(_H:Pos->Option AB)(next:Pos)(t:TypeId)(zero:List AV):List AV->Option cq
 |[]=>some (.aH (.ptr next 0) none none (some (.typed t zero)))
 |_=>none
def rJ (H:Pos->Option AB)(next:Pos)(e:TypeId)(bytes:Nat):List AV->Option cq
 |  [s, x]=> match x with
    | .str u=>match s with
      | .af=>match Nat.ble ((2*(0+u.length)+768)*bytes) 281474976710656,Nat.ble (0+u.length) 9223372036854775807 with
        |true,true=>match Nat.beq u.length 0 with
         |true=>some (.val .af)
         |false=>some (.aH (.slice next 0 (0+u.length) none 1) none none (some (.typed e (u.map λc=>.int .u8 (.ofNat c)))))
        |_,_=>none
      | .slice b 0 n none 1=>match Nat.ble ((2*(n+u.length)+768)*bytes) 281474976710656,Nat.ble (n+u.length) 9223372036854775807 with
        |true,true=>match Nat.beq u.length 0 with
         |true=>some (.val (.slice b 0 n none 1))
         |false=>match H b with
          |  some (.typed e' cs)=>match Nat.beq e e',cut cs 0 n with
             |true,some dL=>some (.aH (.slice next 0 (n+u.length) none 1) (some b) none (some (.typed e (dL++u.map λc=>.int .u8 (.ofNat c)))))
             |_,_=>none
          |_=>none
        |_,_=>none
      |_=>none
    |_=>none
 |_=>none
def M3 (H:Pos->Option AB)(_next:Pos):List AV->Option cq
 |  [x] =>match x with
    |.iC=>some (.val .iC)
    | .ptr b off=>match H b with
      | some (.typed _ cs)=>match Nat.blt off cs.length with
        |true=>some (.val (.ptr b off))
        |false=>none
      |_=>none
    |_=>none
 |_=>none
def Fv (H:Pos->Option AB)(_next:Pos)(u:TypeId)(n:Nat):List AV->Option cq
 |  [x] =>match x with
    |.iC=>some (.val .iC)
    | .ptr b 0=>match H b with
      | some (.typed t cs)=>match Nat.beq t u,Nat.ble n cs.length with
        |true,true=>some (.val (.ptr b 0))
        |_,_=>none
      |_=>none
    |_=>none
 |_=>none
def qC(_H:Pos->Option AB)(_next:Pos):List AV->Option cq
 |  [x]=>match x with
    |.af=>some (.val .iC)
    | .slice b off n _ _=>match Nat.beq n 0 with
      |true=>none
      |false=>some (.val (.ptr b off))
    |_=>none
 |_=>none
def nH (H :Pos->Option AB)(_next:Pos)(e:TypeId):List AV->Option cq
 |  [x, y]=> match y with
    | .int .i64 (.ofNat n)=>match Nat.beq n 0 with
      | true=>match x with
        |.iC=>some (.val (.str []))
        |.ptr _ _=>some (.val (.str []))
        |_=>none
      | false=>match x with
        | .ptr b 0=>match H b with
          |some (.typed e' cs)=>match Nat.beq e e',cut cs 0 n,Nat.ble n 9223372036854775807 with
           | true,some l,true=>match bytesOf l with
             |some s=>some (.aH (.str s) (some b) none none)
             |none=>none
           |_,_,_=>none
          |_=>none
        |_=>none
    |_=>none
 |_=>none
def av.run(H:Pos->Option AB)(next:Pos):av->List AV->Option cq
 |.move=>J2 H next
 |.pick=>OS H next
 |.alloc zero=>Fp H next zero
 |.box=>MZ H next
 |.build zero places=>Fq H next zero places
 |.buildSlice es len zero places=>o9 H next es len zero places
 |.load n=>rI H next n
 |.store n=>AZ H next n
 |.nilCheck=>Dj H next
 |.bin op q=>gI H next op q
 |.un op=>Xn H next op
 |.conv k=>uF H next k
 |.mkIface t=>Fs H next t
 |.mkFunc f Ie=>Cn H next f Ie
 |.mkMap=>Ft H next
 |.lookup pk zero ok=>uG H next pk zero ok
 |.mapSet pk=>uH H next pk
 |.mkSlice es bytes zero=>vt H next es bytes zero
 |.sliceS lo hi=>Ig H next lo hi
 |.sliceL es lo hi mx=>iK H next es lo hi mx
 |.fieldA off=>Ih H next off
 |.idxA es arr=>nG H next es arr
 |.field off n=>LU H next off n
 |.idxS=>J3 H next
 |.extract i=>Ah H next i
 |.callF f=>LV H next f
 |.callV=>LW H next
 |.lenB k=>DX H next k
 |.append es bytes=>eV H next es bytes
 |.copyB es=>xN H next es
 |.minB=>Ay H next
 |.maxB=>Az H next
 |.clearS es zero=>qz H next es zero
 |.rangeS=>Co H next
 |.nextS=>Fu H next
 |.allocT t zero=>Cp H next t zero
 |.appendT e bytes=>rJ H next e bytes
 |.toU=>M3 H next
 |.fromU u n=>Fv H next u n
 |.sliceData=>qC H next
 |.unsafeStr e=>nH H next e
 |.capB=>λ_=>none
 |.bad=>λ_=>none
inductive dU where
 |t (p:Pos)
 |c (v:AV)
 deriving Inhabited
inductive VJ where
 |pure
 |read
 |new
 |aH
 deriving Inhabited
structure bh where
 dst:Option Pos
 k:av
 xs:List dU
 guard:Option (Pos×Bool)
 cls:VJ
 bD:Nat
 deriving Inhabited
inductive AC where
 |skip
 |region (ops:List bh)
 |draw (ops:List (Nat×bh))
 |seq (a b:AC)
 |cond (x:dU) (a b:AC)
 |block (id:Nat) (a:AC)
 |loop (a:AC)
 |exit (id:Nat)
 |ret
 deriving Inhabited
inductive yD where
 |tmp (p:Pos)
 |cell (p:Pos) (n:Option Nat)
 deriving Inhabited
structure cI where
 code:AC
 nparams:Nat
 results:List yD
 deriving Inhabited
abbrev Fr:=T AV
structure St where
 heap:T AB
 next:Pos
 deriving Inhabited
inductive js where
 |normal
 |exit (id:Nat)
 |ret
 deriving Inhabited
def yE(fr:Fr):dU->Option AV
 |.t p=>fr.get p
 |.c v=>some v
def dV(fr:Fr):List dU->Option (List AV)
 |[]=>some []
 |  x::xs=>match yE fr x with
    |some v=>match dV fr xs with
     |some vs=>some (v::vs)
     |none=>none
    |none=>none
def bJ(fr:Fr):Option (Pos×Bool)->Option Bool
 |none=>some true
 |  some (p,want)=>match fr.get p with
    |some (.bool b)=>some (b==want)
    |some (.tuple _)=>some false
    |_=>none
def cU(fr:Fr)(d:Option Pos)(v:AV):Fr:=match d with
 |some p=>fr.put (some v) p
 |none=>fr
def Fw(o:Option (Pos×AB))(h:T AB):T AB:=match o with
 |some (b,x)=>h.put (some x) b
 |none=>h
def Dk(o:Option Pos)(h:T AB):T AB:=match o with
 |some b=>h.put none b
 |none=>h
def St.aH(st:St)(del:Option Pos)(set:Option (Pos×AB))(new:Option AB):St:=
 match new with
 |some x=>{ heap:=T.put (some x) st.next (Fw set (Dk del st.heap)),next:=st.next.succ }
 |none=>{ heap:=Fw set (Dk del st.heap),next:=st.next }
abbrev ai:=FuncId->List AV->St->Option (AV×St)
def bS(call:ai)(k:av)(xs:List AV)(st:St):Option (AV×St):=
 match k.run (λb=>st.heap.get b) st.next xs with
 |some (.val v)=>some (v,st)
 |some (.aH v del set new)=>some (v,st.aH del set new)
 |some (.call f args)=>call f args st
 |none=>none
def iX (call:ai):List bh->Fr->St->Option (Fr×St)
 |[],fr,st=>some (fr,st)
 |  o::os,fr,st=>match bJ fr o.guard with
    |some true=>match dV fr o.xs with
     |  some xs=>match bS call o.k xs st with
        |some (v,st')=>iX call os (cU fr o.dst v) st'
        |none=>none
     |none=>none
    |some false=>iX call os (cU fr o.dst .undef) st
    |none=>none
def gy:AV->AV->Bool
 |.bool a,.bool b=>a==b
 |.int k a,.int k' b=>AY k k'&&tY a b
 |.str a,.str b=>iJ a b
 |.iC,.iC=>true
 |.ptr b o,.ptr b' o'=>Pos.beq b b'&&Nat.beq o o'
 |.af,.af=>true
 |.slice b o l none es,.slice b' o' l' none es'=>Pos.beq b b'&&Nat.beq o o'&&Nat.beq l l'&&Nat.beq es es'
 |.slice b o l (some c) es,.slice b' o' l' (some c') es'=>Pos.beq b b'&&Nat.beq o o'&&Nat.beq l l'&&Nat.beq c c'&&Nat.beq es es'
 |.nF,.nF=>true
 |.map b,.map b'=>Pos.beq b b'
 |.jk,.jk=>true
 |.uk,.uk=>true
 |_,_=>false
def um:List AV->List AV->Bool
 |[],[]=>true
 |a::x,b::y=>gy a b&&um x y
 |_,_=>false
def Cq(f:AV->AV->Bool):List AV->List AV->Bool
 |[],[]=>true
 |a::x,b::y=>f a b&&Cq f x y
 |_,_=>false
def uI(f:AV->AV->Bool):List (List AV)->List (List AV)->Bool
 |[],[]=>true
 |a::x,b::y=>Cq f a b&&uI f x y
 |_,_=>false
def Cr:Nat->AV->AV->Bool
 |d+1,.fl a n,.fl a' n'=>uI (Cr d) a a'&&Nat.beq n n'
 |_,a,b=>gy a b
def kF:AV->AV->Bool
 |.func f a b,.func f' a' b'=>Nat.beq f f'&&um a a'&&um b b'
 |.fl a n,.fl a' n'=>Cr 3 (.fl a n) (.fl a' n')
 |a,b=>gy a b
def qD:List AV->List AV->Bool
 |[],[]=>true
 |a::x,b::y=>kF a b&&qD x y
 |_,_=>false
def fj:AV->AV->Bool
 |.agg l,.agg l'=>qD l l'
 |.tuple l,.tuple l'=>qD l l'
 |a,b=>kF a b
inductive RC where
 |pure
 |new (id:Pos) (ax:AB)
 |aH (base:T AB) (h:T AB)
 deriving Inhabited
structure Rec where
 idx:Nat
 o:bh
 v:AV
 c:RC
 nx:Pos
 deriving Inhabited
def snap(bD:Nat)(h:T AB):List Rec->T AB
 |[]=>h
 |  r ::rs=>match r.c with
    | .new id ax=>match bD.testBit r.idx with
      |true=>(snap bD h rs).put (some ax) id
      |false=>snap bD h rs
    |.aH _ _=>h
    |.pure=>snap bD h rs
def vu:List (Pos×AB)->T AB->T AB
 |[],h=>h
 |(id,ax)::l,h=>(vu l h).put (some ax) id
def pP(k:av)(xs:List AV)(v:AV)(h:T AB):Bool:=
 match k.run (λb=>h.get b) .h xs with
 |some (.val u)=>fj u v
 |_=>false
def j5(bD:Nat)(k:av)(xs:List AV)(v:AV):List (Pos×AB)->List Rec->Bool
 |_,[]=>true
 |  up,r::rs=>match r.c with
    | .new id ax=>match bD.testBit r.idx with
      |true=>j5 bD k xs v ((id,ax)::up) rs
      |false=>j5 bD k xs v up rs
    | .aH base _=>match bD.testBit r.idx with
      |true=>true
      |false=>pP k xs v (vu up (snap bD base rs))&&j5 bD k xs v up rs
    |.pure=>j5 bD k xs v up rs
def cO (call:ai):List (Nat×bh)->List Rec->T AB->Fr->St->Option (Fr×St)
 |[],_,_,fr,st=>some (fr,st)
 |  (j, o)::os,recs,base,fr,st=>match bJ fr o.guard with
    |some false=>cO call os ({ idx:=j,o:=o,v:= .undef,c:= .pure,nx:=st.next }::recs) base (cU fr o.dst .undef) st
    | some true=>match dV fr o.xs with
      |none=>none
      | some xs=>match o.cls with
        | .new=>match o.k.run (λ_=>none) st.next xs with
          |some (.aH v none none (some ax))=>
           cO call os ({ idx:=j,o:=o,v:=v,c:= .new st.next ax,nx:=st.next.succ }::recs) base (cU fr o.dst v) { heap:=st.heap.put (some ax) st.next,next:=st.next.succ }
          |_=>none
        | .aH=>match bS call o.k xs st with
          |some (v,st')=>cO call os ({ idx:=j,o:=o,v:=v,c:= .aH base st'.heap,nx:=st'.next }::recs) st'.heap (cU fr o.dst v) st'
          |none=>none
        | _=>match o.k.run (λ_=>none) .h xs with
          |some (.val v)=>cO call os ({ idx:=j,o:=o,v:=v,c:= .pure,nx:=st.next }::recs) base (cU fr o.dst v) st
          |_=>match o.k.run (λb=>(snap o.bD base recs).get b) .h xs with
           |some (.val v)=>match j5 o.bD o.k xs v [] recs with
            |true=>cO call os ({ idx:=j,o:=o,v:=v,c:= .pure,nx:=st.next }::recs) base (cU fr o.dst v) st
            |false=>none
           |_=>none
    |none=>none
def aX(call:ai)(ih:AC->Fr->St->Option (js×Fr×St)):AC->Fr->St->Option (js×Fr×St)
 |.skip,fr,st=>some (.normal,fr,st)
 |  .region ops,fr,st=>match iX call ops fr st with
    |some (fr,st)=>some (.normal,fr,st)
    |none=>none
 |  .draw ops,fr,st=>match cO call ops [] st.heap fr st with
    |some (fr,st)=>some (.normal,fr,st)
    |none=>none
 |  .seq a b,fr,st=>match ih a fr st with
    |some (.normal,fr,st)=>ih b fr st
    |r=>r
 |  .cond x a b,fr,st=>match yE fr x with
    |some (.bool true)=>ih a fr st
    |some (.bool false)=>ih b fr st
    |_=>none
 |  .block id a,fr,st=>match ih a fr st with
    |some (.exit qd,fr,st)=>match Nat.beq qd id with
     |true=>some (.normal,fr,st)
     |false=>some (.exit qd,fr,st)
    |r=>r
 |  .loop a,fr,st=>match ih a fr st with
    |some (.normal,fr,st)=>ih (.loop a) fr st
    |r=>r
 |.exit id,fr,st=>some (.exit id,fr,st)
 |.ret,fr,st=>some (.ret,fr,st)
def exec(call:ai):Nat->AC->Fr->St->Option (js×Fr×St)
 |0=>λ_ _ _=>none
 |n+1=>aX call (exec call n)
def params:Nat->List AV->Fr->Fr
 |_,[],fr=>fr
 |i,v::vs,fr=>params (i+1) vs (fr.put (some v) (key i))
def cG (H:Pos->Option AB)(fr:Fr):List yD->Option (List AV)
 |[]=>some []
 |  .tmp p::rs=>match fr.get p with
    |some v=>match cG H fr rs with
     |some vs=>some (v::vs)
     |none=>none
    |none=>none
 |  .cell p n::rs=>match fr.get p with
    |some q=>match (av.load n).run H .h [q]with
     |  some (.val v)=>match cG H fr rs with
        |some vs=>some (v::vs)
        |none=>none
     |_=>none
    |none=>none
def gH:List AV->AV
 |[v]=>v
 |vs=>.tuple vs
abbrev dZ:=FuncId->Option (List AV->St->Option (AV×St))
def ou (O:dZ)(G:T cI)(m:Nat):Nat->ai
 |0=>λ_ _ _=>none
 |  d+  1=>λf args st=>match O f with
    |some s=>s args st
    |none=>match G.get (key f)with
     |  some F=>match Nat.beq args.length F.nparams with
        |true=>match exec (ou O G m d) m F.code (params 0 args .e) st with
         |some (.normal,fr,st')=>match cG (λb=>st'.heap.get b) fr F.results with
          |some vs=>some (gH vs,st')
          |none=>none
         |some (.ret,fr,st')=>match cG (λb=>st'.heap.get b) fr F.results with
          |some vs=>some (gH vs,st')
          |none=>none
         |_=>none
        |false=>none
     |none=>none
inductive TK where
 |bool
 |int (k:IntKind)
 |string
 |ptr (elem:Nat)
 |slice (elem:Nat)
 |array (n elem:Nat)
 |map (k e:Nat)
 |struct (fs:List (Nat×Nat×Bool))
 |func
 |iface
 |Y7
 |other
 deriving Inhabited
structure TI where
 k:TK
 size:Nat
 bytes:Nat
 zero:Option (List AV)
 tZ:Bool:=false
 deriving Inhabited
def Fx:Value->Option AV
 |.bool b=>some (.bool b)
 |.int k n=>some (.int k n)
 |.string s=>some (.str (s.data.toList.map UInt8.toNat))
 |.pointer none=>some .iC
 |.slice none 0 0=>some .af
 |.map none=>some .nF
 |.func (.func f) ⟨[]⟩ ⟨[]⟩=>some (.func f [] [])
 |.nilFunc=>some .jk
 |.nilIface=>some .uk
 |_=>none
def mG:List Value->Option (List AV)
 |[]=>some []
 |  v::vs=>match Fx v,mG vs with
    |some a,some as=>some (a::as)
    |_,_=>none
def OT:Value->Option AV
 |  .agg cs=>match mG cs.toList with
    |some l=>some (.agg l)
    |none=>none
 |v=>Fx v
def kz:Operand->Option dU
 |.tmp t=>some (.t (key t))
 |  .const v=>match OT v with
    |some a=>some (.c a)
    |none=>none
 |.func f=>some (.c (.func f [] []))
 |.global _=>none
def iV:List Operand->Option (List dU)
 |[]=>some []
 |  x::xs=>match kz x,iV xs with
    |some a,some as=>some (a::as)
    |_,_=>none
def TK.isAgg:TK->Bool
 |.struct _=>true
 |.array _ _=>true
 |_=>false
abbrev TT:=T TI
def vw(tt:TT)(t:Nat):Option ew:=match tt.get (key t)with
 |  some ti=>match ti.k with
    |.bool=>some .bool
    |.int _=>some .num
    |.string=>some .num
    |.ptr _=>some .ptr
    |.slice _=>some .slice
    |.map _ _=>some .map
    |.func=>some .func
    |.iface=>some .iface
    | .struct fs=>match ti.tZ,fields fs with
      |true,some l=>some (.struct l)
      |_,_=>none
    |_=>none
 |none=>none
where
 fields:List (Nat×Nat×Bool)->Option (List (Nat×PK))
  |[]=>some []
  |(off,t,named)::fs=>match named,tt.get (key t),fields fs with
   |true,some ti,some l=>match ti.k with
    |.bool=>some ((off,.b)::l)
    |.int _=>some ((off,.i)::l)
    |.string=>some ((off,.s)::l)
    |_=>none
   |_,_,_=>none
def vz(ti:TI):Option Nat:=match ti.k.isAgg with
 |true=>some ti.size
 |false=>none
def aeW(tt:TT)(t:Nat)(ti:TI):Bool:=match ti.k with
 |  .struct ((_,p,_)::_)=>match tt.get (key p)with
    |some pi=>match pi.k with
     |.ptr e=>Nat.beq e t
     |_=>false
    |none=>false
 |_=>false
def vC:Option Operand->List Operand
 |some x=>[x]
 |none=>[]
def fL (tt:TT):Op->Option (av×List dU×VJ)
 |  .move x=>match kz x with
    |some a=>some (.move,[a],.pure)
    |none=>none
 |  .assign x=>match kz x with
    |some a=>some (.move,[a],.pure)
    |none=>none
 |  .pick c a b=>match iV [c,a,b]with
    |some l=>some (.pick,l,.pure)
    |none=>none
 |  .alloc t=>match tt.get (key t)with
    |some ti=>match ti.zero with
     |  some z=>match aeW tt t ti with
        |true=>some (.allocT t z,[],.aH)
        |false=>some (.alloc z,[],.new)
     |none=>none
    |none=>none
 |  .box _ x=>match kz x with
    |some a=>some (.box,[a],.new)
    |none=>none
 |  .build t ps=>match tt.get (key t),iV (ps.toList.map (·.2))with
    |some ti,some l=>match ti.k,ti.zero with
     |  .struct fs,some z=>match places tt fs (ps.toList.map (·.1)),RW tt fs with
        |some p,true=>some (.build z p,l,.pure)
        |_,_=>none
     |  .array _ e,some z=>match tt.get (key e)with
        |some te=>some (.build z (ps.toList.map λx=>(x.1*te.size,te.size)),l,.pure)
        |none=>none
     |_,_=>none
    |_,_=>none
 |  .buildSlice t len ps=>match tt.get (key t),iV (ps.toList.map (·.2))with
    |some ti,some l=>match ti.k with
     |  .slice e=>match tt.get (key e)with
        | some te=>match te.zero,Nat.ble (len*te.size) 16777216 with
          |some z,true=>some (.buildSlice te.size len z (ps.toList.map (·.1)),l,.new)
          |_,_=>none
        |none=>none
     |_=>none
    |_,_=>none
 |  .load t a=>match tt.get (key t),kz a with
    |some ti,some a=>some (.load (vz ti),[a],.read)
    |_,_=>none
 |  .store t a x=>match tt.get (key t),iV [a,x]with
    |some ti,some l=>some (.store ti.size,l,.aH)
    |_,_=>none
 |  .nilCheck x=>match kz x with
    |some a=>some (.nilCheck,[a],.pure)
    |none=>none
 |  .binOp op t x y _=>match vw tt t,iV [x,y]with
    |some q,some l=>some (.bin op q,l,.pure)
    |none,some l=>match op with
     |.eql=>none
     |.neq=>none
     |_=>some (.bin op .num,l,.pure)
    |_,_=>none
 |  .unOp op _ x=>match kz x with
    |some a=>some (.un op,[a],.pure)
    |none=>none
 |  .convert src dst x=>match tt.get (key src),tt.get (key dst),kz x with
    |some s,some d,some a=>match s.k,d.k with
     |.int _,.int k=>some (.conv (.int k),[a],.pure)
     |.string,.string=>some (.conv .same,[a],.pure)
     |  .string,.slice e=>match tt.get (key e)with
        | some te=>match te.k with
          |.int .u8=>some (.conv .bytes,[a],.new)
          |_=>none
        |none=>none
     |  .slice e,.string=>match tt.get (key e)with
        | some te=>match te.k with
          |.int .u8=>some (.conv .ofBytes,[a],.read)
          |_=>none
        |none=>none
     |  .ptr e,.Y7=>match tt.get (key e)with
        | some te=>match Nat.beq te.size 0 with
          |false=>some (.toU,[a],.aH)
          |true=>none
        |none=>none
     |  .Y7,.ptr e=>match tt.get (key e)with
        | some te=>match Nat.beq te.size 0 with
          |false=>some (.fromU e te.size,[a],.aH)
          |true=>none
        |none=>none
     |_,_=>none
    |_,_,_=>none
 |  .makeInterface t x=>match tt.get (key t),kz x with
    |some ti,some a=>match ti.k with
     |.iface=>none
     |.other=>none
     |_=>some (.mkIface t,[a],.pure)
    |_,_=>none
 |  .makeFunc fn first captured=>match fn,iV (first.toList++captured.toList)with
    |.func f,some l=>some (.mkFunc f first.size,l,.pure)
    |_,_=>none
 |  .makeMap t r=>match tt.get (key t)with
    |some ti=>match ti.k,r with
     |.map _ _,none=>some (.mkMap,[],.new)
     |.map _ _,some (.const (.int _ _))=>some (.mkMap,[],.new)
     |_,_=>none
    |none=>none
 |  .makeSlice t l c=>match tt.get (key t),iV [l,c]with
    |some ti,some xs=>match ti.k with
     |  .slice e=>match tt.get (key e)with
        | some te=>match te.zero with
          |some z=>some (.mkSlice te.size te.bytes z,xs,.new)
          |none=>none
        |none=>none
     |_=>none
    |_,_=>none
 |  .slice t x lo hi mx=>match tt.get (key t),iV ([x]++vC lo++vC hi++vC mx)with
    |some ti,some xs=>match ti.k with
     |  .string=>match mx with
        |none=>some (.sliceS lo.isSome hi.isSome,xs,.pure)
        |some _=>none
     |  .slice e=>match tt.get (key e)with
        |some te=>some (.sliceL te.size lo.isSome hi.isSome mx.isSome,xs,.pure)
        |none=>none
     |_=>none
    |_,_=>none
 |  .fieldAddr t x f=>match tt.get (key t),kz x with
    |some ti,some a=>match ti.k with
     |  .struct fs=>match nth fs f with
        | some (off,ft,_)=>match tt.get (key ft)with
          |some fi=>match Nat.beq fi.size 0 with
           |false=>some (.fieldA off,[a],.pure)
           |true=>none
          |none=>none
        |none=>none
     |_=>none
    |_,_=>none
 |  .field t x f=>match tt.get (key t),kz x with
    |some ti,some a=>match ti.k with
     |  .struct fs=>match nth fs f with
        | some (off,ft,_)=>match tt.get (key ft)with
          |some fi=>some (.field off (vz fi),[a],.pure)
          |none=>none
        |none=>none
     |_=>none
    |_,_=>none
 |  .indexAddr t x ix=>match tt.get (key t),iV [x,ix]with
    |some ti,some l=>match ti.k with
     |  .slice e=>match tt.get (key e)with
        |some te=>some (.idxA te.size none,l,.pure)
        |none=>none
     |  .array n e=>match tt.get (key e)with
        |some te=>some (.idxA te.size (some n),l,.pure)
        |none=>none
     |_=>none
    |_,_=>none
 |  .index t x ix=>match tt.get (key t),iV [x,ix]with
    |some ti,some l=>match ti.k with
     |.string=>some (.idxS,l,.pure)
     |_=>none
    |_,_=>none
 |  .lookup t x ix ok=>match tt.get (key t),iV [x,ix]with
    |some ti,some l=>match ti.k with
     |  .map k e=>match tt.get (key k),tt.get (key e)with
        | some tk,some te=>match tk.k,te.zero with
          |.int _,some z=>some (.lookup .i (DY te z) ok,l,.read)
          |.string,some z=>some (.lookup .s (DY te z) ok,l,.read)
          |.bool,some z=>some (.lookup .b (DY te z) ok,l,.read)
          |_,_=>none
        |_,_=>none
     |_=>none
    |_,_=>none
 |.mapUpdate t m k v=>Xo tt t m k v
 |.insert t m k v=>Xo tt t m k v
 |  .range t x=>match tt.get (key t),kz x with
    |some ti,some a=>match ti.k with
     |.string=>some (.rangeS,[a],.new)
     |_=>none
    |_,_=>none
 |  .next it isString=>match isString,kz it with
    |true,some a=>some (.nextS,[a],.aH)
    |_,_=>none
 |  .extract x i=>match kz x with
    |some a=>some (.extract i,[a],.pure)
    |none=>none
 |  .call c=>match iV c.args.toList with
    |none=>none
    |some xs =>match c.callee with
     |.value (.func f)=>some (.callF f,xs,.aH)
     |  .value x=>match kz x with
        |some a=>some (.callV,a::xs,.aH)
        |none=>none
     |.invoke _ _=>none
     |  .builtin b=>match b with
        | .len=>match c.argTypes.toList,xs with
          |t ::_,[_]=>match tt.get (key t)with
           | some ti=>match ti.k with
             |.string=>some (.lenB .s,xs,.pure)
             |.slice _=>some (.lenB .l,xs,.pure)
             |.map _ _=>some (.lenB .m,xs,.read)
             |_=>none
           |none=>none
          |_,_=>none
        | .append=>match c.argTypes.toList with
          |t ::t2::_=>match tt.get (key t),tt.get (key t2)with
           | some ti,some Hi=>match ti.k,Hi.k with
             |_,.int _=>none
             | .slice e,.string=>match tt.get (key e)with
               | some te=>match te.zero,te.k,Nat.beq te.size 1 with
                 |some _,.int .u8,true=>some (.appendT e te.bytes,xs,.aH)
                 |_,_,_=>none
               |none=>none
             | .slice e,_=>match tt.get (key e)with
               | some te=>match te.zero with
                 |some _=>some (.append te.size te.bytes,xs,.aH)
                 |none=>none
               |none=>none
             |_,_=>none
           |_,_=>none
          |_=>none
        | .copy=>match c.argTypes.toList with
          |t ::_=>match tt.get (key t)with
           | some ti=>match ti.k with
             | .slice e=>match tt.get (key e)with
               |some te=>some (.copyB te.size,xs,.aH)
               |none=>none
             |_=>none
           |none=>none
          |_=>none
        | .unsafeSliceData=>match xs with
          |[_]=>some (.sliceData,xs,.pure)
          |_=>none
        | .unsafeString=>match c.argTypes.toList with
          |[t, _]=>match tt.get (key t)with
           | some ti=>match ti.k with
             | .ptr e=>match tt.get (key e)with
               | some te=>match te.k,Nat.beq te.size 1 with
                 |.int .u8,true=>some (.unsafeStr e,xs,.aH)
                 |_,_=>none
               |none=>none
             |_=>none
           |none=>none
          |_=>none
        | .min=>match xs with
          |[_,_]=>some (.minB,xs,.pure)
          |_=>none
        | .max=>match xs with
          |[_,_]=>some (.maxB,xs,.pure)
          |_=>none
        | .clear=>match c.argTypes.toList with
          |t ::_=>match tt.get (key t)with
           | some ti=>match ti.k with
             | .slice e=>match tt.get (key e)with
               | some te=>match te.zero with
                 |some z=>some (.clearS te.size z,xs,.aH)
                 |none=>none
               |none=>none
             |_=>none
           |none=>none
          |_=>none
        |_=>none
 |_=>none
where
 RW (tt:TT):List (Nat×Nat×Bool)->Bool
  |[]=>true
  |  (_,t,_)::l=>match tt.get (key t)with
     |some _=>RW tt l
     |none=>false
 places (tt:TT) (fs:List (Nat×Nat×Bool)):List Nat->Option (List (Nat×Nat))
  |[]=>some []
  |  i ::is=>match nth fs i,places tt fs is with
     | some (off,t,_),some l=>match tt.get (key t)with
       |some ti=>some ((off,ti.size)::l)
       |none=>none
     |_,_=>none
 DY (te:TI) (z:List AV):AV:=match te.k.isAgg with
  |true=>.agg z
  |  false=>match z with
     |[v]=>v
     |_=>.agg z
 Xo (tt:TT) (t:Nat) (m k v:Operand):Option (av×List dU×VJ):=
  match tt.get (key t),iV [m,k,v]with
  |  some ti,some l=>match ti.k with
     | .map kt _=>match tt.get (key kt)with
       |some tk=>match tk.k with
        |.int _=>some (.mapSet .i,l,.aH)
        |.string=>some (.mapSet .s,l,.aH)
        |.bool=>some (.mapSet .b,l,.aH)
        |_=>none
       |none=>none
     |_=>none
  |_,_=>none
def M7(ops:Array Oper):Option (Nat×Bool)->Option (Option (Pos×Bool))
 |none=>some none
 |  some (j,b)=>match ops[j]? with
    |some o=>match o.dst with
     |some d=>some (some (key d,b))
     |none=>none
    |none=>none
def Sm:List Oper->List Nat->List Nat
 |[],acc=>acc
 |o::os,acc=>Sm os (acc++[o.after.toList.foldl (λs e=>match Region.binds .any e with
   |true=>s ||| 2 ^ e.on ||| (nth acc e.on).getD 0
   |false=>s) 0])
def mH(tt:TT)(nt:Nat)(ops:Array Oper):List Oper->List Nat->Option (List bh)
 |[],_=>some []
 |  o::os,bs=>match M7 ops o.guard,mH tt nt ops os bs.tail,acM nt o.dst with
    |some g,some l,true=>match fL tt o.op with
     |some (k,xs,cls)=>some ({ dst:=o.dst.map key,k:=k,xs:=xs,guard:=g,cls:=cls,bD:=bs.headD 0 }::l)
     |none=>some ({ dst:=o.dst.map key,k:= .bad,xs:=[],guard:=g,cls:= .aH,bD:=bs.headD 0 }::l)
    |_,_,_=>none
where
 acM (nt:Nat):Option Tmp->Bool
  |none=>true
  |some d=>Nat.blt d nt
def bh.looks(o:bh):List Pos:=
 (match o.guard with|some (p,_)=>[p]|none=>[])++o.xs.filterMap λ|.t p=>some p|.c _=>none
def DZ(p:Pos):List Pos->Bool
 |[]=>false
 |q::l=>Pos.beq p q||DZ p l
def Ii(a b:bh):Bool:=
 (match a.dst with
  |some d=> !DZ d b.looks&&(match b.dst with|some d'=> !Pos.beq d d'|none=>true)
  |none=>true)&&
 (match b.dst with
  |some d=> !DZ d a.looks
  |none=>true)
def ua:List (Nat×bh)->List (Nat×bh)->List (Nat×bh)
 |[],held=>held
 |  (i,o)::l,held=>match o.cls with
    |.aH=>held.filter (λx=>o.bD.testBit x.1)++(i,o)::ua l (held.filter λx=> !o.bD.testBit x.1)
    |_=>ua l (held++[(i,o)])
def A0:Nat->List bh->List (Nat×bh)
 |_,[]=>[]
 |i,o::os=>(i,o)::A0 (i+1) os
def D3(m:Nat):Nat->List (Nat×bh)->Bool
 |seen,[]=>Nat.beq seen (2 ^ m - 1)
 |  seen,(i,o)::l=>Nat.blt i m&& !seen.testBit i&&Nat.beq (o.bD &&& seen) o.bD&&(match o.cls with|.aH=>Nat.beq o.bD seen|_=>true)&&
    (l.all λx=>x.2.bD.testBit i||Ii o x.2)&&D3 m (seen ||| 2 ^ i) l
def qe (tt:TT)(nt:Nat):Code->Option AC
 |.skip=>some .skip
 |  .region _ ops draw=>match mH tt nt ops ops.toList (Sm ops.toList [])with
    |none=>none
    |some l=>match draw with
     |false=>some (.region l)
     |  true=>match D3 l.length 0 (ua (A0 0 l) [])with
        |true=>some (.draw (ua (A0 0 l) []))
        |false=>none
 |  .seq a b=>match qe tt nt a,qe tt nt b with
    |some a,some b=>some (.seq a b)
    |_,_=>none
 |  .cond c a b=>match kz c,qe tt nt a,qe tt nt b with
    |some c,some a,some b=>some (.cond c a b)
    |_,_,_=>none
 |  .block id a=>match qe tt nt a with
    |some a=>some (.block id a)
    |none=>none
 |  .loop a=>match qe tt nt a with
    |some a=>some (.loop a)
    |none=>none
 |.exit id=>some (.exit id)
 |.ret=>some .ret
 |.refuse _=>some (.region [{ dst:=none,k:= .bad,xs:=[],guard:=none,cls:= .aH,bD:=0 }])
 |_=>none
def lF(tt:TT):List ResultVar->Option (List yD)
 |[]=>some []
 |  .tmp t::rs=>match lF tt rs with
    |some l=>some (.tmp (key t)::l)
    |none=>none
 |  .cell a t::rs=>match tt.get (key t),lF tt rs with
    |some ti,some l=>some (.cell (key a) (vz ti)::l)
    |_,_=>none
def RX(tt:TT)(f:Func):Option cI:=match f.body with
 |  some c=>match qe tt f.ntmps c,lF tt f.results.toList,Nat.ble (f.params.size+f.nfree) f.ntmps with
    |some a,some rs,true=>some { code:=a,nparams:=f.params.size+f.nfree,results:=rs }
    |_,_,_=>none
 |none=>none
structure Loc where
 ax:Nat
 base:Nat
 size:Nat
abbrev Cells:=Addr->Option Value
inductive aj(ρ:Pos->Loc)(n:Nat)(C:Cells):AV->Value->Prop where
 |bool (b:Bool):aj ρ n C (.bool b) (.bool b)
 |int (k:IntKind) (i:Int):aj ρ n C (.int k i) (.int k i)
 |str (s:List Nat) (bs:ByteArray) (h:bs.data.toList.map UInt8.toNat=s):aj ρ n C (.str s) (.string bs)
 |iC:aj ρ n C .iC (.pointer none)
 |ptr (b:Pos) (off:Nat) (h:b.toNat<n):aj ρ n C (.ptr b off) (.pointer (some ⟨(ρ b).ax,(ρ b).base+off,none⟩))
 |fp (xs:List (List AV)) (i j es:Nat) (ax base:Nat) (cell:Nat->Nat->Value)
  (hl:∀(i:Nat)(cs:List AV),xs[i]? =some cs->cs.length=es)
  (hc:∀(i j:Nat)(cs:List AV)(v:AV),xs[i]? =some cs->cs[j]? =some v->C ⟨ax,base+i*es+j,none⟩=some (cell i j))
  (hv:∀(i j:Nat)(cs:List AV)(v:AV),xs[i]? =some cs->cs[j]? =some v->aj ρ n C v (cell i j)):
  aj ρ n C (.fp xs i j) (.pointer (some ⟨ax,base+i*es+j,none⟩))
 |af:aj ρ n C .af (.slice none 0 0)
 |slice (b:Pos) (off len:Nat) (cap:Option Nat) (es aJ:Nat) (a:Addr) (hl:len<=aJ) (hc:∀c,cap=some c->c=aJ)
  (ha:aJ≠0->b.toNat<n/\a=⟨(ρ b).ax,(ρ b).base+off,none⟩/\(ρ b).base+off+aJ*es<=(ρ b).size)
  (hk:cap=none->b.toNat<n):
  aj ρ n C (.slice b off len cap es) (.slice (some a) len aJ)
 |fl (xs:List (List AV)) (es aJ:Nat) (a:Addr) (cell:Nat->Nat->Value) (hl:xs.length<=aJ)
  (hs:xs≠[]->a.spot=none)
  (dF:∀(i:Nat)(cs:List AV),xs[i]? =some cs->cs.length=es)
  (hc:∀(i j:Nat)(cs:List AV)(v:AV),xs[i]? =some cs->cs[j]? =some v->C ⟨a.block,a.off+i*es+j,none⟩=some (cell i j))
  (hv:∀(i j:Nat)(cs:List AV)(v:AV),xs[i]? =some cs->cs[j]? =some v->aj ρ n C v (cell i j)):
  aj ρ n C (.fl xs es) (.slice (some a) xs.length aJ)
 |nF:aj ρ n C .nF (.map none)
 |map (b:Pos) (h:b.toNat<n):aj ρ n C (.map b) (.map (some (ρ b).ax))
 |func (f:FuncId) (x y:List AV) (x' y':Array Value) (hx:x.length=x'.size) (hy:y.length=y'.size)
  (gR:∀(i:Nat)(v:AV)(v':Value),x[i]? =some v->x'[i]? =some v'->aj ρ n C v v') (yF:∀(i:Nat)(v:AV)(v':Value),y[i]? =some v->y'[i]? =some v'->aj ρ n C v v'):
  aj ρ n C (.func f x y) (.func (.func f) x' y')
 |jk:aj ρ n C .jk .nilFunc
 |uk:aj ρ n C .uk .nilIface
 |iface (t:TypeId) (v:AV) (x:Value) (h:aj ρ n C v x):aj ρ n C (.iface t v) (.iface t x)
 |agg (l:List AV) (cs:Array Value) (hl:l.length=cs.size) (h:∀(i:Nat)(v:AV)(v':Value),l[i]? =some v->cs[i]? =some v'->aj ρ n C v v'):
  aj ρ n C (.agg l) (.agg cs)
 |tuple (l:List AV) (cs:Array Value) (hl:l.length=cs.size) (h:∀(i:Nat)(v:AV)(v':Value),l[i]? =some v->cs[i]? =some v'->aj ρ n C v v'):
  aj ρ n C (.tuple l) (.tuple cs)
theorem aj.mono{ρ ρ':Pos->Loc}{n n':Nat}{C:Cells}{v:AV}{x:Value}(h:aj ρ n C v x)
  (aS:∀b:Pos,b.toNat<n->ρ' b=ρ b) (hn:n<=n'):aj ρ' n' C v x:=by
 induction h with
 |bool b=>exact .bool b
 |int k i=>exact .int k i
 |str s bs h=>exact .str s bs h
 |iC=>exact .iC
 |ptr b off h=>rw[<-aS b h];exact .ptr b off (by omega)
 |fp xs i j es ax base cell hl hc _ ih=>exact .fp xs i j es ax base cell hl hc ih
 |af=>exact .af
 |slice b off len cap es aJ a hl hc ha hk=>
  refine .slice b off len cap es aJ a hl hc (λh0=> ?_) (λh0=>by have:=hk h0;omega);obtain⟨h1,h2,h3⟩:=ha h0;rw[aS b h1];exact⟨by omega,h2,h3⟩
 |fl xs es aJ a cell hl hs dF hc _ ih=>exact .fl xs es aJ a cell hl hs dF hc ih
 |nF=>exact .nF
 |map b h=>rw[<-aS b h];exact .map b (by omega)
 |func f x y x' y' hx hy _ _ Y8 Y9=>exact .func f x y x' y' hx hy Y8 Y9
 |jk=>exact .jk
 |uk=>exact .uk
 |iface t v x _ ih=>exact .iface t v x ih
 |agg l cs hl _ ih=>exact .agg l cs hl ih
 |tuple l cs hl _ ih=>exact .tuple l cs hl ih
def au(ρ:Pos->Loc)(n:Nat)(C:Cells)(l:List AV)(xs:List Value):Prop:=
 l.length=xs.length/\∀(i:Nat)(v:AV)(x:Value),l[i]? =some v->xs[i]? =some x->aj ρ n C v x
section
variable{ρ ρ':Pos->Loc}{n n':Nat}{C:Cells}
theorem au.mono{l:List AV}{xs:List Value}(h:au ρ n C l xs)(aS:∀b:Pos,b.toNat<n->ρ' b=ρ b)(hn:n<=n'):
 au ρ' n' C l xs:=⟨h.1,λi v x hv hx=>(h.2 i v x hv hx).mono aS hn⟩
theorem au.nil:au ρ n C [] []:=⟨rfl,λ_ _ _ h=>by simp at h⟩
theorem au.cons{v:AV}{x:Value}{l:List AV}{xs:List Value}(h:aj ρ n C v x)(hs:au ρ n C l xs):au ρ n C (v::l) (x::xs):=
 ⟨by simp[hs.1],λi u y hu hy=>by
  cases i with
  |zero=>simp at hu hy;subst hu;subst hy;exact h
  |succ i=>simp at hu hy;exact hs.2 i u y hu hy⟩
theorem au.cons_inv{v:AV}{l:List AV}{xs:List Value}(h:au ρ n C (v::l) xs):∃x tu,xs=x::tu/\aj ρ n C v x/\au ρ n C l tu:=by
 cases xs with
 |nil=>have:=h.1;simp at this
 |cons x tu=>
  exact⟨x,tu,rfl,h.2 0 v x rfl rfl,by have:=h.1;simpa using this,λi u y hu hy=>h.2 (i+1) u y (by simpa using hu) (by simpa using hy)⟩
theorem au.mB{xs:List Value}(h:au ρ n C [] xs):xs=[]:=by
 have:=h.1;cases xs with
 |nil=>rfl
 |cons a b=>simp at this
theorem au.append{l m:List AV}{xs ys:List Value}(h:au ρ n C l xs)(k:au ρ n C m ys):au ρ n C (l++m) (xs++ys):=by
 refine⟨by simp[h.1,k.1],λi v x hv hx=> ?_⟩;rcases Zi0 i l.length with hi|hi
 .rw[Zb7 hi]at hv;rw[Zb7 (by rw[<-h.1];exact hi)]at hx;exact h.2 i v x hv hx
 .rw[Zc2 hi]at hv;rw[Zc2 (by rw[<-h.1];exact hi), <-h.1]at hx;exact k.2 _ v x hv hx
theorem au.take{l:List AV}{xs:List Value}(h:au ρ n C l xs)(m:Nat):au ρ n C (l.take m) (xs.take m):=by
 refine⟨by simp[h.1],λi v x hv hx=> ?_⟩;rw[Zb8]at hv hx;split at hv
 .rename_i hi;rw[Za7 hi]at hx;exact h.2 i v x hv hx
 .cases hv
theorem au.drop{l:List AV}{xs:List Value}(h:au ρ n C l xs)(m:Nat):au ρ n C (l.drop m) (xs.drop m):=by refine⟨by simp[h.1],λi v x hv hx=> ?_⟩;rw[Zc5]at hv hx;exact h.2 _ v x hv hx
theorem au.aF{l vs:List AV}{xs ys:List Value}(h:au ρ n C l xs)(k:au ρ n C vs ys)(i:Nat):
  au ρ n C (Go.Ai.aF l i vs) (Go.Ai.aF xs i ys):=by
 unfold Go.Ai.aF;rw[k.1];exact(h.take i).append (k.append (h.drop _))
theorem au.get{l:List AV}{xs:List Value}(h:au ρ n C l xs){i:Nat}{v:AV}(hv:l[i]? =some v):∃x,xs[i]? =some x/\aj ρ n C v x:=by
 have hi:i<xs.length:=by rw[<-h.1];exact(Za3.1 hv).1
 exact⟨xs[i],H5 hi,h.2 i v _ hv (H5 hi)⟩
theorem aj.A3{l:List AV}{cs:Array Value}(h:au ρ n C l cs.toList):aj ρ n C (.agg l) (.agg cs):=
 .agg l cs (by simpa using h.1) λi v x hv hx=>h.2 i v x hv (by simpa using hx)
theorem aj.qE{l:List AV}{cs:Array Value}(h:au ρ n C l cs.toList):aj ρ n C (.tuple l) (.tuple cs):=
 .tuple l cs (by simpa using h.1) λi v x hv hx=>h.2 i v x hv (by simpa using hx)
theorem aj.AA{l:List AV}{x:Value}(h:aj ρ n C (.agg l) x):∃cs,x= .agg cs/\au ρ n C l cs.toList:=by
 cases h with|agg _ cs hl h=>exact⟨cs,rfl,by simpa using hl,λi v x hv hx=>h i v x hv (by simpa using hx)⟩
theorem aj.Qe{l:List AV}{x:Value}(h:aj ρ n C (.tuple l) x):∃cs,x= .tuple cs/\au ρ n C l cs.toList:=by
 cases h with|tuple _ cs hl h=>exact⟨cs,rfl,by simpa using hl,λi v x hv hx=>h i v x hv (by simpa using hx)⟩
theorem aj.A4{f:FuncId}{a b:List AV}{x:Value}(h:aj ρ n C (.func f a b) x):
  ∃a' b',x= .func (.func f) a' b'/\au ρ n C a a'.toList/\au ρ n C b b'.toList:=by
 cases h with
 |func _ _ _ a' b' hx hy h1 h2=>exact⟨a',b',rfl,⟨by simpa using hx,λi v x hv hx=>h1 i v x hv (by simpa using hx)⟩,⟨by simpa using hy,λi v x hv hx=>h2 i v x hv (by simpa using hx)⟩⟩
theorem aj.cells{v:AV}{x:Value}(h:aj ρ n C v x):au ρ n C v.cells x.cells.toList:=by
 by_cases hv:∃l,v= .agg l
 .obtain⟨l,rfl⟩:=hv;obtain⟨cs,rfl,hs⟩:=h.AA;exact hs
 .have h1:v.cells=[v]:=(by cases v<;>first|rfl|exact absurd ⟨_,rfl⟩ hv);have h2:x.cells= #[x]:=(by cases h<;>first|rfl|exact absurd ⟨_,rfl⟩ hv);rw[h1,h2];exact au.cons h au.nil
def lH(ρ:Pos->Loc)(n:Nat)(C:Cells)(L:Loc)(w:World):AB->Prop
 |.cells cs fz=>∃(c:Array Value) (e:TypeId) (fr:Nat×Nat),w.heap[L.ax]? =some (.cells c e fr)/\c.size=L.size/\L.base+cs.length<=c.size/\
  au ρ n C cs ((c.toList.drop L.base).take cs.length)/\∀i,fz<=i->L.base+i<c.size->¬(fr.1<=L.base+i/\L.base+i<fr.2)
 |.map es clock=>∃(es':Array MapEntry),w.heap[L.ax]? =some (.map es' clock)/\es.length=es'.size/\
  ∀(i:Nat)(e:AV×AV×Nat)(e':MapEntry),es[i]? =some e->es'[i]? =some e'->aj ρ n C e.1 e'.key/\aj ρ n C e.2.1 e'.val/\e.2.2=e'.born
 |.jq s pos=>∃(bs:ByteArray),w.heap[L.ax]? =some (.stringIter bs pos)/\bs.data.toList.map UInt8.toNat=s/\L.base=0
 |.typed t cs=>∃(c:Array Value) (fr:Nat×Nat),w.heap[L.ax]? =some (.cells c t fr)/\c.size=L.size/\L.base+cs.length<=c.size/\
  au ρ n C cs ((c.toList.drop L.base).take cs.length)/\(∀i,0<=i->L.base+i<c.size->¬(fr.1<=L.base+i/\L.base+i<fr.2))/\L.base=0
theorem lH.mono{L:Loc}{w:World}{x:AB}(h:lH ρ n C L w x)(aS:∀b:Pos,b.toNat<n->ρ' b=ρ b)(hn:n<=n'):lH ρ' n' C L w x:=by
 cases x with
 |cells cs fz=>obtain⟨c,e,fr,h1,h2,h3,h4,h5⟩:=h;exact⟨c,e,fr,h1,h2,h3,h4.mono aS hn,h5⟩
 |map es clock=>obtain⟨es',h1,h2,h3⟩:=h;exact⟨es',h1,h2,λi e e' he j9=>let⟨a,b,c⟩:=h3 i e e' he j9;⟨a.mono aS hn,b.mono aS hn,c⟩⟩
 |jq s pos=>exact h
 |typed t cs=>obtain⟨c,fr,h1,h2,h3,h4,h5⟩:=h;exact⟨c,fr,h1,h2,h3,h4.mono aS hn,h5⟩
theorem lH.of_heap{L:Loc}{w w':World}{x:AB}(h:lH ρ n C L w x)(hw:w'.heap[L.ax]? =w.heap[L.ax]?):lH ρ n C L w' x:=by
 cases x with
 |cells cs fz=>obtain⟨c,e,fr,h1,h2⟩:=h;exact⟨c,e,fr,by rw[hw];exact h1,h2⟩
 |map es clock=>obtain⟨es',h1,h2⟩:=h;exact⟨es',by rw[hw];exact h1,h2⟩
 |jq s pos=>obtain⟨bs,h1,h2⟩:=h;exact⟨bs,by rw[hw];exact h1,h2⟩
 |typed t cs=>obtain⟨c,fr,h1,h2⟩:=h;exact⟨c,fr,by rw[hw];exact h1,h2⟩
end
structure aV(ρ:Pos->Loc)(C:Cells)(st:St)(w:World):Prop where
 live:∀b x,st.heap.get b=some x->b.toNat<st.next.toNat/\(ρ b).ax<w.heap.size/\lH ρ st.next.toNat C (ρ b) w x
 inj:∀b b' x x',st.heap.get b=some x->st.heap.get b'=some x'->(ρ b).ax=(ρ b').ax->b=b'
 dB:∀a v,C a=some v->w.cell? a=some v/\∀b x,st.heap.get b=some x->(ρ b).ax≠a.block
 whole:∀a v,C a=some v->∀o,C ⟨a.block,o,none⟩=none->w.cell? ⟨a.block,o,none⟩=none
structure jJ(ρ:Pos->Loc)(st:St)(w:World)(ρ':Pos->Loc)(st':St)(w':World):Prop where
 os:w'.os=w.os
 tape:w'.tape=w.tape
 output:w'.output=w.output
 size:w.heap.size<=w'.heap.size
 block:∀k,k<w.heap.size->(∀b x,st.heap.get b=some x->(ρ b).ax≠k)->w'.heap[k]? =w.heap[k]?
 mW:∀b x,st'.heap.get b=some x->(∃b' x',st.heap.get b'=some x'/\(ρ b').ax=(ρ' b).ax)\/w.heap.size<=(ρ' b).ax
theorem jJ.refl(ρ:Pos->Loc)(st:St)(w:World):jJ ρ st w ρ st w:=⟨rfl,rfl,rfl,Za6 _,λ_ _ _=>rfl,λb x h=>.inl ⟨b,x,h,rfl⟩⟩
theorem jJ.trans{ρ dM lJ:Pos->Loc}{st aN jT:St}{w w1 w2:World}(h:jJ ρ st w dM aN w1)(k:jJ dM aN w1 lJ jT w2):jJ ρ st w lJ jT w2 where
 os:=k.os.trans h.os
 tape:=k.tape.trans h.tape
 output:=k.output.trans h.output
 size:=Zc8 h.size k.size
 block q hq hn:=by
  rw[k.block q (Zd0 hq h.size) λb x hb e=> ?_,h.block q hq hn];rcases h.mW b x hb with⟨b',x',h1,h2⟩|h1
  .exact hn b' x' h1 (h2.trans e)
  .rw[e]at h1;omega
 mW b x hb:=by
  rcases k.mW b x hb with⟨b',x',h1,h2⟩|h1
  . rcases h.mW b' x' h1 with⟨b'',x'',h3,h4⟩|h3
    .exact .inl ⟨b'',x'',h3,h4.trans h2⟩
    .right;rw[<-h2];exact h3
  .exact .inr (Zc8 h.size h1)
def fo(ρ:Pos->Loc)(n:Nat)(C:Cells)(fr:Fr)(tmps:Array Value):Prop:=
 ∀p v,fr.get p=some v->∃x,tmps[p.toNat - 1]? =some x/\aj ρ n C v x
theorem Pos.toNat_pos(p:Pos):0<p.toNat:=by
 induction p with
 |h=>simp[Pos.toNat]
 |o p ih=>simp[Pos.toNat];exact ih
 |i p ih=>simp[Pos.toNat]
theorem Pos.toNat_inj:∀{p q:Pos},p.toNat=q.toNat->p=q
 |.h,.h,_=>rfl
 |.h,.o q,hq=>by have:=q.toNat_pos;simp[Pos.toNat]at hq;omega
 |.h,.i q,hq=>by have:=q.toNat_pos;simp[Pos.toNat]at hq;omega
 |.o p,.h,hq=>by have:=p.toNat_pos;simp[Pos.toNat]at hq;omega
 |.o p,.o q,hq=>by simp[Pos.toNat]at hq;rw[Pos.toNat_inj (p:=p) (q:=q) (by omega)]
 |.o p,.i q,hq=>by simp[Pos.toNat]at hq;omega
 |.i p,.h,hq=>by have:=p.toNat_pos;simp[Pos.toNat]at hq;omega
 |.i p,.o q,hq=>by simp[Pos.toNat]at hq;omega
 |.i p,.i q,hq=>by simp[Pos.toNat]at hq;rw[Pos.toNat_inj (p:=p) (q:=q) (by omega)]
theorem Pos.az(p:Pos):p.succ.toNat=p.toNat+1:=by
 induction p with
 |h=>rfl
 |o p ih=>simp[Pos.succ,Pos.toNat]
 |i p ih=>simp[Pos.succ,Pos.toNat,ih];omega
theorem Pos.Fy:∀(f m:Nat),0<m->m<2 ^ (f+1)->(Pos.Sl f m).toNat=m
 |0,m,hp,hl=>by
  simp at hl;have:m=1:=by omega
  subst this;rfl
 |f +   1,m,hp,hl=>by
  unfold Pos.Sl;split
  . (rename_i hb;have:=Za4 hb;have:m=1:=by omega);subst this;rfl
  . rename_i hb;have h1:1<m:=by
        rcases Zi0 1 m with hh|hh
        .exact hh
        .rw[Nat.ble_eq_true_of_le hh]at hb;cases hb
    have h2:m / 2<2 ^ (f+1):=(by have:2 ^ (f+1+1)=2*2 ^ (f+1):=(by rw[Nat.pow_succ];omega);omega);split
    .   rename_i he;have:=Za1 he;simp only[Pos.toNat];rw[Pos.Fy f _ (by omega) h2];omega
    .   rename_i he;have:=Zb9 he;simp only[Pos.toNat];rw[Pos.Fy f _ (by omega) h2];omega
theorem eW(n:Nat):(key n).toNat=n+1:=Pos.Fy _ (n+1) (by omega) Nat.lt_log2_self
theorem T.dD{α:Type}(p:Pos):(T.e:T α).get p=none:=by cases p<;>rfl
theorem T.eH{α:Type}(x:Option α)(p:Pos)(t:T α):(T.put x p t).get p=x:=by
 induction p generalizing t with
 |h=>cases t<;>rfl
 |o p ih=>cases t<;>exact ih _
 |i p ih=>cases t<;>exact ih _
theorem T.bw{α:Type}(x:Option α){p q:Pos}(h:p≠q)(t:T α):(T.put x p t).get q=t.get q:=by
 induction p generalizing q t with
 |h=>cases q with
  |h=>exact absurd rfl h
  |o q=>cases t<;>simp[T.put,T.get,T.dD]
  |i q=>cases t<;>simp[T.put,T.get,T.dD]
 |o p ih=>cases q with
  |h=>cases t<;>simp[T.put,T.get]
  | o q=>cases t with
    |e=>simp only[T.put,T.get];rw[ih (λe=>h (by rw[e])),T.dD]
    |n l v r=>simp only[T.put,T.get];exact ih (λe=>h (by rw[e])) l
  |i q=>cases t<;>simp[T.put,T.get,T.dD]
 |i p ih=>cases q with
  |h=>cases t<;>simp[T.put,T.get]
  |o q=>cases t<;>simp[T.put,T.get,T.dD]
  | i q=>cases t with
    |e=>simp only[T.put,T.get];rw[ih (λe=>h (by rw[e])),T.dD]
    |n l v r=>simp only[T.put,T.get];exact ih (λe=>h (by rw[e])) r
theorem Pos.beq_eq:∀{p q:Pos},p.beq q=true↔p=q
 |.h,.h=>by simp[Pos.beq]
 |.h,.o q=>by simp[Pos.beq]
 |.h,.i q=>by simp[Pos.beq]
 |.o p,.h=>by simp[Pos.beq]
 |.o p,.o q=>by simp only[Pos.beq,Pos.o.injEq];exact Pos.beq_eq
 |.o p,.i q=>by simp[Pos.beq]
 |.i p,.h=>by simp[Pos.beq]
 |.i p,.o q=>by simp[Pos.beq]
 |.i p,.i q=>by simp only[Pos.beq,Pos.i.injEq];exact Pos.beq_eq
end
noncomputable section
section
variable{R:Type}
def lK{α:Type}(p:Pos):T α->Option α:=
 Pos.rec (motive:=λ_=>T α->Option α)
    (λt=>T.rec (motive:=λ_=>Option α) none (λ_ v _ _ _=>v) t)
    (λ_ ih t=>T.rec (motive:=λ_=>Option α) none (λl _ _ _ _=>ih l) t)
    (λ_ ih t=>T.rec (motive:=λ_=>Option α) none (λ_ _ r _ _=>ih r) t) p
def mX{α:Type}(x:Option α)(p:Pos):T α->(T α->R)->R:=
 Pos.rec (motive:=λ_=>T α->(T α->R)->R)
    (λt k=>T.rec (motive:=λ_=>R) (k (.n .e x .e)) (λl _ r _ _=>k (.n l x r)) t)
    (λ_ ih t k=>T.rec (motive:=λ_=>R) (ih .e λl=>k (.n l none .e)) (λl v r _ _=>ih l λl=>k (.n l v r)) t)
    (λ_ ih t k=>T.rec (motive:=λ_=>R) (ih .e λr=>k (.n .e none r)) (λl v r _ _=>ih r λr=>k (.n l v r)) t) p
def mY(n:Nat)(k:Nat->R):R:=Nat.rec (motive:=λ_=>R) (k 0) (λm _=>k (Nat.succ m)) n
def LX(n:Int)(k:Int->R):R:=match n with
 |.ofNat m=>mY m λm=>k (.ofNat m)
 |.negSucc m=>mY m λm=>k (.negSucc m)
def Qf(b:Bool)(k:Bool->R):R:=match b with
 |true=>k true
 |false=>k false
def vD{α:Type}(l:List α):(List α->R)->R:=
 List.rec (motive:=λ_=>(List α->R)->R) (λk=>k []) (λa _ ih k=>ih λt=>k (a::t)) l
def Fz(p:Pos):(Pos->R)->R:=
 Pos.rec (motive:=λ_=>(Pos->R)->R) (λk=>k .h) (λ_ ih k=>ih λp=>k (.o p)) (λ_ ih k=>ih λp=>k (.i p)) p
def Sn(o:Option Nat)(k:Option Nat->R):R:=match o with
 |none=>k none
 |some n=>mY n λn=>k (some n)
def Ij(v:AV)(k:AV->R):R:=match v with
 |.bool b=>Qf b λb=>k (.bool b)
 |.int i n=>LX n λn=>k (.int i n)
 |.str s=>vD s λs=>k (.str s)
 |.ptr b o=>Fz b λb=>mY o λo=>k (.ptr b o)
 |.slice b o l c es=>Fz b λb=>mY o λo=>mY l λl=>Sn c λc=>k (.slice b o l c es)
 |.map b=>Fz b λb=>k (.map b)
 |.func f x y=>vD x λx=>vD y λy=>k (.func f x y)
 |.agg l=>vD l λl=>k (.agg l)
 |v=>k v
def J4(l:List AV):(List AV->R)->R:=
 List.rec (motive:=λ_=>(List AV->R)->R) (λk=>k []) (λa _ ih k=>Ij a λa=>ih λt=>k (a::t)) l
def pg(v:AV)(k:AV->R):R:=match v with
 |.tuple l=>J4 l λl=>k (.tuple l)
 |v=>Ij v k
def AD(x:AB)(k:AB->R):R:=match x with
 |.cells cs fz=>vD cs λcs=>mY fz λfz=>k (.cells cs fz)
 |.map es c=>vD es λes=>mY c λc=>k (.map es c)
 |.jq s p=>mY p λp=>k (.jq s p)
 |.typed t cs=>vD cs λcs=>k (.typed t cs)
def M8(p:Pos):(Pos->R)->R:=
 Pos.rec (motive:=λ_=>(Pos->R)->R) (λk=>k (.o .h)) (λq _ k=>k (.i q)) (λ_ ih k=>ih λp=>k (.o p)) p
variable(z:R)
def Qg(fr:Fr)(x:dU)(k:AV->R):R:=match x with
 |  .t p=>match lK p fr with
    |some v=>k v
    |none=>z
 |.c v=>k v
def LY(fr:Fr)(xs:List dU):(List AV->R)->R:=
 List.rec (motive:=λ_=>(List AV->R)->R) (λk=>k []) (λx _ ih k=>Qg z fr x λv=>ih λvs=>k (v::vs)) xs
def AE(fr:Fr)(g:Option (Pos×Bool))(yes no:R):R:=match g with
 |none=>yes
 |  some (p,want)=>match lK p fr with
    |some (.bool b)=>match b==want with
     |true=>yes
     |false=>no
    |some (.tuple _)=>no
    |_=>z
def j6(fr:Fr)(d:Option Pos)(v:AV)(k:Fr->R):R:=match d with
 |some p=>mX (some v) p fr k
 |none=>k fr
def delK(o:Option Pos)(h:T AB)(k:T AB->R):R:=match o with
 |some b=>mX none b h k
 |none=>k h
def aaW(o:Option (Pos×AB))(h:T AB)(k:T AB->R):R:=match o with
 |some (b,x)=>AD x λx=>mX (some x) b h k
 |none=>k h
abbrev iF(R:Type):=FuncId->List AV->St->(AV->St->R)->R
def aaX(st:St)(del:Option Pos)(set:Option (Pos×AB))(new:Option AB)(k:St->R):R:=
 delK del st.heap λh=>aaW set h λh=>match new with
    |some x=>AD x λx=>mX (some x) st.next h λh=>M8 st.next λn=>k { heap:=h,next:=n }
    |none=>k { heap:=h,next:=st.next }
def J5(call:iF R)(op:av)(xs:List AV)(st:St)(k:AV->St->R):R:=
 match op.run (λb=>lK b st.heap) st.next xs with
 |some (.val v)=>pg v λv=>k v st
 |some (.aH v del set new)=>pg v λv=>aaX st del set new λst=>k v st
 |some (.call f args)=>vD args λargs=>call f args st k
 |none=>z
def OU(call:iF R)(ops:List bh):Fr->St->(Fr->St->R)->R:=
 List.rec (motive:=λ_=>Fr->St->(Fr->St->R)->R) (λfr st k=>k fr st)
    (λo _ ih fr st k=>AE z fr o.guard
     (LY z fr o.xs λxs=>J5 z call o.k xs st λv st=>j6 fr o.dst v λfr=>ih fr st k)
     (j6 fr o.dst .undef λfr=>ih fr st k)) ops
def FA (bD:Nat)(h:T AB)(recs:List Rec):(T AB->R)->R:=
 List.rec (motive:=λ_=>(T AB->R)->R) (λk=>k h)
    (fun r _ ih k=>match r.c with
     |  .new id ax=>match bD.testBit r.idx with
        |true=>ih λh'=>mX (some ax) id h' k
        |false=>ih k
     |.aH _ _=>k h
     |.pure=>ih k) recs
def So(h:T AB)(l:List (Pos×AB)):(T AB->R)->R:=
 List.rec (motive:=λ_=>(T AB->R)->R) (λk=>k h) (λx _ ih k=>ih λh'=>mX (some x.2) x.1 h' k) l
def Sp(op:av)(xs:List AV)(v:AV)(h:T AB):Bool:=
 match op.run (λb=>lK b h) .h xs with
 |some (.val u)=>fj u v
 |_=>false
def oc(bD:Nat)(op:av)(xs:List AV)(v:AV):List (Pos×AB)->List Rec->Bool
 |_,[]=>true
 |  up,r::rs=>match r.c with
    | .new id ax=>match bD.testBit r.idx with
      |true=>oc bD op xs v ((id,ax)::up) rs
      |false=>oc bD op xs v up rs
    | .aH base _=>match bD.testBit r.idx with
      |true=>true
      |false=>(FA bD base rs λh=>So h up λh=>Sp op xs v h)&&oc bD op xs v up rs
    |.pure=>oc bD op xs v up rs
def FB (call:iF R)(ops:List (Nat×bh)):List Rec->T AB->Fr->St->(Fr->St->R)->R:=
 List.rec ( motive:=λ_=>List Rec->T AB->Fr->St->(Fr->St->R)->R)
    (λ_ _ fr st k=>k fr st)
    (fun jo _ ih recs base fr st k=>AE z fr jo.2.guard
     (LY  z fr jo.2.xs λxs=>match jo.2.cls with
        | .new=>match jo.2.k.run (λ_=>none) st.next xs with
          |some (.aH v none none (some ax))=>pg v λv=>AD ax λax=>j6 fr jo.2.dst v λfr=>M8 st.next λn=>mX (some ax) st.next st.heap λh=>
              ih ({ idx:=jo.1,o:=jo.2,v:=v,c:= .new st.next ax,nx:=n }::recs) base fr { heap:=h,next:=n } k
          |_=>z
        |.aH=>J5 z call jo.2.k xs st λv st'=>j6 fr jo.2.dst v λfr=>ih ({ idx:=jo.1,o:=jo.2,v:=v,c:= .aH base st'.heap,nx:=st'.next }::recs) st'.heap fr st' k
        | _ =>match jo.2.k.run (λ_=>none) .h xs with
          |some (.val v)=>pg v λv=>j6 fr jo.2.dst v λfr=>ih ({ idx:=jo.1,o:=jo.2,v:=v,c:= .pure,nx:=st.next }::recs) base fr st k
          | _ =>FA jo.2.bD base recs λh=>match jo.2.k.run (λb=>lK b h) .h xs with
            | some (.val v)=>pg v λv=>match oc jo.2.bD jo.2.k xs v [] recs with
              |true=>j6 fr jo.2.dst v λfr=>ih ({ idx:=jo.1,o:=jo.2,v:=v,c:= .pure,nx:=st.next }::recs) base fr st k
              |false=>z
            |_=>z)
     (j6 fr jo.2.dst .undef λfr=>ih ({ idx:=jo.1,o:=jo.2,v:= .undef,c:= .pure,nx:=st.next }::recs) base fr st k)) ops
abbrev RY(R:Type):=AC->Fr->St->(Fr->St->R)->(Nat->Fr->St->R)->(Fr->St->R)->R
def od(call:iF R)(ih:RY R):RY R
 |.skip,fr,st,kn,_,_=>kn fr st
 |.region ops,fr,st,kn,_,_=>OU z call ops fr st kn
 |.draw ops,fr,st,kn,_,_=>FB z call ops [] st.heap fr st kn
 |.seq a b,fr,st,kn,kx,kr=>ih a fr st (λfr st=>ih b fr st kn kx kr) kx kr
 |  .cond x a b,fr,st,kn,kx,kr=>Qg z fr x λv=>match v with
    |.bool true=>ih a fr st kn kx kr
    |.bool false=>ih b fr st kn kx kr
    |_=>z
 | .block id a,fr,st,kn,kx,kr=>ih a fr st kn (λqd fr st=>match Nat.beq qd id with
     |true=>kn fr st
     |false=>kx qd fr st) kr
 |.loop a,fr,st,kn,kx,kr=>ih a fr st (λfr st=>ih (.loop a) fr st kn kx kr) kx kr
 |.exit id,fr,st,_,kx,_=>kx id fr st
 |.ret,fr,st,_,_,kr=>kr fr st
def M9(call:iF R)(n:Nat):RY R:=
 Nat.rec (motive:=λ_=>RY R) (λ_ _ _ _ _ _=>z) (λ_ ih=>od z call ih) n
def xO(vs:List AV):Nat->Fr->(Fr->R)->R:=
 List.rec (motive:=λ_=>Nat->Fr->(Fr->R)->R) (λ_ fr k=>k fr)
    (λv _ ih i fr k=>mX (some v) (key i) fr λfr=>ih (i+1) fr k) vs
def xP(st:St)(fr:Fr)(rs:List yD)(k:AV->R):R:=
 match cG (λb=>lK b st.heap) fr rs with
 |  some vs=>J4 vs λvs=>match vs with
    |[v]=>k v
    |vs=>k (.tuple vs)
 |none=>z
def Cm (O:dZ  )(G:T cI)(m:Nat)(d:Nat):iF R:=
 Nat.rec (motive:=λ_=>iF R) (λ_ _ _ _=>z)
    (fun _ ih f args st k=>match O f with
     |  some s=>match s args st with
        |some (v,st')=>pg v λv=>k v st'
        |none=>z
     |  none=>match lK (key f) G with
        |some F=>match Nat.beq args.length F.nparams with
         |true=>xO args 0 .e λfr=>M9 z ih m F.code fr st
              (λfr st=>xP z st fr F.results λv=>k v st)
              (λ_ _ _=>z)
              (λfr st=>xP z st fr F.results λv=>k v st)
         |false=>z
        |none=>z) d
end
end
end Go.Ai
