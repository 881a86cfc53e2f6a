/- An evaluator over plain values, its compiler and its relation to worlds. -/
import Derived.Orders
import Derived.Below
set_option linter.all false
set_option linter.unusedSectionVars false
set_option linter.deprecated false
def H0:=@List.getElem?_eq_getElem
def H5:=@Option.some.injEq
def Za0:=@decide_eq_true
def Za1:=@decide_eq_false
def Za2:=@List.getElem?_eq_some_iff
def Za3:=@Nat.le_refl
def Za4:=@List.length_map
def Za5:=@List.getElem?_cons_zero
def Za6:=@Nat.eq_of_beq_eq_true
def Za7:=@if_neg
def Za8:=@Option.bind_some
def Za9:=@List.mem_cons_of_mem
def Zb0:=@List.mem_cons
def Zb1:=@List.getD_eq_getElem?_getD
def Zb2:=@Nat.le_trans
def Zb3:=@if_pos
def Zb4:=@Nat.le_of_ble_eq_true
def Zb5:=@Bool.and_eq_true
def Zb6:=@Nat.zero_add
def Zb7:=@List.getElem?_map
def Zb8:=@List.getElem_mem
def Zb9:=@List.mem_of_getElem?
def Zc0:=@List.getElem?_cons_succ
def Zc1:=@List.getElem?_eq_none
def Zc2:=@List.getElem?_append_right
def Zc3:=@List.getElem?_append_left
def Zc4:=@List.eq_nil_of_length_eq_zero
def Zc5:=@List.not_mem_nil
def Zc6:=@List.length_cons
def Zc7:=@Int.toNat_natCast
def Zc8:=@Nat.lt_of_lt_of_le
def Zc9:=@Prod.mk.injEq
def Zd0:=@List.mem_map
def Zd1:=@Array.getElem?_eq_some_iff
def Zd2:=@List.mem_cons_self
def Zd3:=@List.map_append
def Zd4:=@List.take_succ_eq_append_getElem
def Zd5:=@List.map_cons
def Zd6:=@List.drop_eq_getElem_cons
def Zd7:=@List.getElem?_set_ne
def Zd8:=@List.mem_append
def Zd9:=@List.cons_append
def Ze0:=@List.append_nil
def Ze1:=@List.getElem?_take
def Ze2:=@List.getElem?_set_self
def Ze3:=@List.nil_append
def Ze4:=@decide_eq_true_eq
def Ze5:=@Option.map_some
def Ze6:=@List.drop_zero
def Ze7:=@List.getElem?_drop
def Ze8:=@List.length_append
def Ze9:=@List.mem_iff_getElem?
def Zf0:=@Nat.ne_of_beq_eq_false
def Zf1:=@Option.getD_some
def Zf2:=@or_false
def Zf3:=@Option.map_eq_some_iff
def Zf4:=@List.append_assoc
def Zf5:=@Bool.false_eq_true
def Zf6:=@List.flatten_cons
def Zf7:=@List.take_of_length_le
def Zf8:=@Nat.add_zero
def Zf9:=@List.range_succ
def Zg0:=@List.mem_iff_getElem
def Zg1:=@decide_true
def Zg2:=@List.cons.injEq
def Zg3:=@Option.some.inj
def Zg4:=@Nat.succ_mul
def Zg5:=@List.drop_append_of_le_length
def Zg6:=@Bool.true_and
def Zg7:=@Array.getElem?_eq_getElem
def Zg8:=@List.mem_or_eq_of_mem_set
def Zg9:=@List.all_eq_true
def Zh0:=@Nat.mul_le_mul_right
def Zh1:=@of_decide_eq_true
def Zh2:=@if_false
def Zh3:=@List.mem_range
def Zh4:=@Nat.add_sub_cancel
def Zh5:=@if_true
def Zh6:=@List.getElem?_range
def Zh7:=@List.ext_getElem?
def Zh8:=@List.map_map
def Zh9:=@List.mem_singleton
def Zi0:=@Nat.zero_le
def Zi1:=@List.getElem?_replicate
def Zi2:=@Int.tdiv_eq_ediv_of_nonneg
def Zi3:=@Bool.and_true
def Zi4:=@List.length_take
def Zi5:=@List.map_nil
def Zi6:=@Nat.le_max_right
def Zi7:=@Array.length_toList
def Zi8:=@Nat.lt_or_ge
def Zi9:=@List.length_nil
def Zj0:=@Option.getD_none
def Zj1:=@Nat.add_assoc
def Zj2:=@List.map_congr_left
def Zj3:=@Nat.add_mul
def Zj4:=@Bool.or_eq_true
def Zj5:=@Nat.le_max_left
def Zj6:=@Array.getElem?_setIfInBounds_ne
def Zj7:=@Array.getElem?_toList
def Zj8:=@List.set_append_right
def Zj9:=@Nat.mod_eq_of_lt
def Zk0:=@Nat.mod_lt
def Zk1:=@List.take_length
def Zk2:=@Bool.and_self
def Zk3:=@Bool.not_true
def Zk4:=@Nat.mul_one
def Zk5:=@Bool.not_eq_true'
def Zk6:=@List.length_set
def Zk7:=@Nat.mul_le_mul_left
def Zk8:=@Nat.sub_self
def Zk9:=@List.filter_append
def Zl0:=@Array.getElem?_modify
def Zl1:=@List.length_replicate
def Zl2:=@Classical.byContradiction
def Zl3:=@Nat.min_eq_left
def Zl4:=@Function.comp_def
def Zl5:=@List.replicate_succ
def Zl6:=@Bool.not_false
def Zl7:=@List.drop_drop
def Zl8:=@List.take_append_of_le_length
def Zl9:=@of_decide_eq_false
def Zm0:=@List.drop_of_length_le
def Zm1:=@List.mem_filter
def Zm2:=@List.take_append_drop
def Zm3:=@List.length_filter_le
def Zm4:=@Array.getD_eq_getD_getElem?
def Zm5:=@Array.ext'
def Zm6:=@List.range_eq_range'
def Zm7:=@List.mem_append_left
def Zm8:=@Int.fdiv_eq_ediv_of_nonneg
def Zm9:=@List.map_set
def Zn0:=@Int.natCast_emod
def Zn1:=@beq_eq_false_iff_ne
def Zn2:=@Option.isSome_iff_exists
def Zn3:=@Bool.eq_iff_iff
def Zn4:=@Nat.eq_zero_or_pos
def Zn5:=@List.set_eq_take_append_cons_drop
def Zn6:=@Nat.le_of_lt
def Zn7:=@List.drop_take
def Zn8:=@List.size_toArray
def Zn9:=@Nat.zero_mul
def Zo0:=@List.getElem_cons_succ
def Zo1:=@List.getElem_take
def Zo2:=@List.flatMap_cons
def Zo3:=@UInt8.lt_iff_toNat_lt
def Zo4:=@Array.eq_empty_of_size_eq_zero
def Zo5:=@List.getElem_map
def Zo6:=@List.countP_cons
def Zo7:=@Nat.lt_irrefl
def Zo8:=@List.sum_cons
def Zo9:=@Array.toList_extract
def Zp0:=@Nat.one_mul
def Zp1:=@and_true
def Zp2:=@List.mem_of_mem_take
def Zp3:=@Array.getElem?_setIfInBounds
def Zp4:=@Array.getElem?_push
def Zp5:=@Array.toList_setIfInBounds
def Zp6:=@Nat.mod_eq_sub_mod
def Zp7:=@Array.getElem?_append_left
def Zp8:=@List.take_zero
def Zp9:=@List.set_cons_zero
def Zq0:=@List.mem_replicate
def Zq1:=@Nat.mul_le_mul
def Zq2:=@List.map_replicate
def Zq3:=@Int.emod_lt_of_pos
def Zq4:=@List.length_range
def Zq5:=@Nat.lt_trichotomy
def Zq6:=@List.range'_succ
def Zq7:=@List.length_drop
def Zq8:=@List.isEmpty_map
def Zq9:=@Nat.add_comm
def Zr0:=@Nat.sub_zero
def Zr1:=@Nat.blt_eq
def Zr2:=@Nat.le_of_eq
def Zr3:=@UInt8.toNat_inj
def Zr4:=@List.take_left'
def Zr5:=@List.foldl_cons
def Zr6:=@Int.ediv_nonneg
def Zr7:=@List.sum_append
def Zr8:=@Int.emod_nonneg
def Zr9:=@List.map_id
def Zs0:=@true_and
namespace Go.Ai
section
inductive Pos where
 |h
 |o (p:Pos)
 |i (p:Pos)
 deriving DecidableEq,Inhabited
def Pos.toNat:Pos->Nat
 | .h=>1
 | .o p=>2*p.toNat
 | .i p=>2*p.toNat+1
def Pos.succ:Pos->Pos
 | .h=> .o .h
 | .o p=> .i p
 | .i p=> .o p.succ
def Pos.agi:Nat->Nat->Pos
 |0,_=> .h
 |  f+1,n=>match Nat.ble n 1 with
    |true=> .h
    |false=>match Nat.beq (n % 2) 0 with
     |true=> .o (Pos.agi f (n / 2))
     |false=> .i (Pos.agi f (n / 2))
def key(n:Nat):Pos:=Pos.agi (n+1).log2 (n+1)
def Pos.beq:Pos->Pos->Bool
 | .h,.h=>true
 | .o a,.o b=>a.beq b
 | .i a,.i b=>a.beq b
 |_,_=>false
inductive T(α:Type) where
 |e
 |n (l:T α) (v:Option α) (r:T α)
 deriving Inhabited
def T.get{α:Type}:Pos->T α->Option α
 |_,.e=>none
 | .h,.n _ v _=>v
 | .o p,.n l _ _=>l.get p
 | .i p,.n _ _ r=>r.get p
def T.put{α:Type}(x:Option α):Pos->T α->T α
 | .h,.e=> .n .e x .e
 | .h,.n l _ r=> .n l x r
 | .o p,.e=> .n (T.put x p .e) none .e
 | .o p,.n l v r=> .n (T.put x p l) v r
 | .i p,.e=> .n .e none (T.put x p .e)
 | .i p,.n l v r=> .n l v (T.put x p r)
inductive AV where
 |bool (b:Bool)
 |int (k:IntKind) (n:Int)
 |str (s:List Nat)
 |jg
 |ptr (b:Pos) (off:Nat)
 |fp (xs:List (List AV)) (i j:Nat)
 |af
 |slice (b:Pos) (off len:Nat) (cap:Option Nat) (es:Nat)
 |fl (xs:List (List AV)) (es:Nat)
 |qG
 |map (b:Pos)
 |func (f:FuncId) (first captured:List AV)
 |jO
 |Bo
 |iface (t:TypeId) (v:AV)
 |agg (l:List AV)
 |tuple (l:List AV)
 deriving Inhabited
inductive AB where
 |cells (cs:List AV) (fz:Nat)
 |map (es:List (AV×AV×Nat)) (clock:Nat)
 deriving Inhabited
def AV.cells:AV->List AV
 | .agg l=>l
 |v=>[v]
def AV.undef:AV:= .tuple []
def AV.one:AV->Bool
 | .agg _=>false
 | .tuple _=>false
 |_=>true
def aQ:List AV->Bool
 |[]=>true
 |  v::l=>match v.one with
    |true=>aQ l
    |false=>false
inductive eG where
 |val (v:AV)
 |bk (v:AV) (del:Option Pos) (set:Option (Pos×AB)) (new:Option AB)
 |call (f:FuncId) (args:List AV)
 deriving Inhabited
def nth{α:Type}:List α->Nat->Option α
 |[],_=>none
 |a::_,0=>some a
 |_::l,n+1=>nth l n
def cut{α:Type}(l:List α)(i n:Nat):Option (List α):=
 match Nat.ble (i+n) l.length with
 |true=>some ((l.drop i).take n)
 |false=>none
def aX{α:Type}(l:List α)(i:Nat)(vs:List α):List α:=l.take i++(vs++l.drop (i+vs.length))
def ku:List Nat->List Nat->Bool
 |[],[]=>true
 |  a::x,b::y=>match Nat.beq a b with
    |true=>ku x y
    |false=>false
 |_,_=>false
def aN:List Nat->List Nat->Bool
 |_,[]=>false
 |[],_::_=>true
 |  a::x,b::y=>match Nat.blt a b with
    |true=>true
    |false=>match Nat.beq a b with
     |true=>aN x y
     |false=>false
inductive PK where
 |b
 |i
 |s
 deriving Inhabited
inductive gP where
 |num
 |bool
 |ptr
 |slice
 |map
 |func
 |iface
 |struct (fs:List (Nat×PK))
 deriving Inhabited
inductive aq1 where
 |int (k:IntKind)
 |same
 |ofBytes
 deriving Inhabited
inductive LK where
 |s
 |l
 |m
 deriving Inhabited
inductive aG where
 |move
 |pick
 |alloc (zero:List AV)
 |box
 |build (zero:List AV) (places:List (Nat×Nat))
 |buildSlice (es len:Nat) (zero:List AV) (places:List Nat)
 |load (n:Option Nat)
 |store (n:Nat)
 |nilCheck
 |bin (op:BinOp) (q:gP)
 |un (op:UnOp)
 |conv (k:aq1)
 |mkIface (t:TypeId)
 |mkFunc (f:FuncId) (Vc:Nat)
 |mkMap
 |lookup (pk:PK) (zero:AV) (ok:Bool)
 |mapSet (pk:PK)
 |mkSlice (es bytes:Nat) (zero:List AV)
 |sliceS (lo hi:Bool)
 |sliceL (es:Nat) (lo hi mx:Bool)
 |fieldA (off:Nat)
 |idxA (es:Nat) (arr:Option Nat)
 |field (off:Nat) (n:Option Nat)
 |idxS
 |extract (i:Nat)
 |callF (f:FuncId)
 |callV
 |lenB (k:LK)
 |capB
 |append (es bytes:Nat)
 |copyB (es:Nat)
 |minB
 |maxB
 |clearS (es:Nat) (zero:List AV)
 |bad
 deriving Inhabited
def loI(k:IntKind):Int:=match k with
 | .i8=> -128| .i16=> -32768| .i32=> -2147483648| .i64=> -9223372036854775808|_=>0
def hiI(k:IntKind):Int:=match k with
 | .i8=>127| .i16=>32767| .i32=>2147483647| .i64=>9223372036854775807
 | .u8=>255| .u16=>65535| .u32=>4294967295| .u64=>18446744073709551615
def av(k:IntKind)(n:Int):Int:=
 match Int.decLe (loI k) n with
 |  .isTrue _=>match Int.decLe n (hiI k)with
    | .isTrue _=>n
    | .isFalse _=>k.wrap n
 | .isFalse _=>k.wrap n
def KJ(a b:IntKind):Bool:=match decEq a b with
 | .isTrue _=>true
 | .isFalse _=>false
def Ba(a b:Int):Bool:=match Int.decEq a b with
 | .isTrue _=>true
 | .isFalse _=>false
def Bb(a b:Int):Bool:=match Int.decLt a b with
 | .isTrue _=>true
 | .isFalse _=>false
def afW(a b:Int):Bool:=match Int.decLe a b with
 | .isTrue _=>true
 | .isFalse _=>false
def Bp:PK->AV->AV->Option Bool
 | .b,.bool a,.bool b=>some (a==b)
 |  .i,.int k a,.int k' b=>match KJ k k' with
    |true=>some (Ba a b)
    |false=>none
 | .s,.str a,.str b=>some (ku a b)
 |_,_,_=>none
def eqFields(xs ys:List AV):List (Nat×PK)->Option Bool
 |[]=>some true
 |  (o,pk)::fs=>match nth xs o,nth ys o with
    | some a,some b=>match Bp pk a b with
      |some true=>eqFields xs ys fs
      |some false=>some false
      |none=>none
    |_,_=>none
def aas:gP->AV->AV->Option Bool
 | .bool,.bool a,.bool b=>some (a==b)
 | .ptr,.jg,.jg=>some true
 | .ptr,.jg,.ptr _ _=>some false
 | .ptr,.ptr _ _,.jg=>some false
 | .ptr,.jg,.fp _ _ _=>some false
 | .ptr,.fp _ _ _,.jg=>some false
 |  .ptr,.ptr b o,.ptr b' o'=>match Pos.beq b b',Nat.beq o o' with
    |true,true=>some true
    |_,_=>none
 | .slice,.af,.af=>some true
 | .slice,.af,.slice _ _ _ _ _=>some false
 | .slice,.slice _ _ _ _ _,.af=>some false
 | .slice,.af,.fl _ _=>some false
 | .slice,.fl _ _,.af=>some false
 | .map,.qG,.qG=>some true
 | .map,.qG,.map _=>some false
 | .map,.map _,.qG=>some false
 | .func,.jO,.jO=>some true
 | .func,.jO,.func _ _ _=>some false
 | .func,.func _ _ _,.jO=>some false
 | .iface,.Bo,.iface _ _=>some false
 | .iface,.iface _ _,.Bo=>some false
 | .struct fs,.agg xs,.agg ys=>eqFields xs ys fs
 |_,_,_=>none
def pz (op:BinOp)(q:gP):AV->AV->Option AV
 |  .int k a,.int k' b=>match op with
    | .shl=>match Bb b 0 with
      |true=>none
      |false=>some (.int k (av k (a*2 ^ (min b.toNat k.bits))))
    | .shr=>match Bb b 0 with
      |true=>none
      |false=>some (.int k (a.fdiv (2 ^ (min b.toNat k.bits))))
    | op=>match KJ k k' with
      |false=>none
      | true=>match op with
        | .add=>some (.int k (av k (a+b)))
        | .sub=>some (.int k (av k (a - b)))
        | .mul=>some (.int k (av k (a*b)))
        | .quo=>match Ba b 0 with
          |true=>none
          |false=>some (.int k (av k (a.tdiv b)))
        | .rem=>match Ba b 0 with
          |true=>none
          |false=>some (.int k (a.tmod b))
        | .and=>some (.int k (k.wrap (BitVec.ofInt k.bits a &&& BitVec.ofInt k.bits b).toNat))
        | .or=>some (.int k (k.wrap (BitVec.ofInt k.bits a ||| BitVec.ofInt k.bits b).toNat))
        | .xor=>some (.int k (k.wrap (BitVec.ofInt k.bits a ^^^ BitVec.ofInt k.bits b).toNat))
        | .andNot=>some (.int k (k.wrap (BitVec.ofInt k.bits a &&& ~~~BitVec.ofInt k.bits b).toNat))
        | .eql=>some (.bool (Ba a b))
        | .neq=>some (.bool (!Ba a b))
        | .lss=>some (.bool (Bb a b))
        | .leq=>some (.bool (afW a b))
        | .gtr=>some (.bool (Bb b a))
        | .geq=>some (.bool (afW b a))
        |_=>none
 |  .str a,.str b=>match op with
    | .add=>match Nat.ble (a.length+b.length) 9223372036854775807 with
      |true=>some (.str (a++b))
      |false=>none
    | .eql=>some (.bool (ku a b))
    | .neq=>some (.bool (!ku a b))
    | .lss=>some (.bool (aN a b))
    | .leq=>some (.bool (aN a b||ku a b))
    | .gtr=>some (.bool (!(aN a b||ku a b)))
    | .geq=>some (.bool (!aN a b))
    |_=>none
 |  x,y=>match op with
    | .eql=>match aas q x y with
      |some b=>some (.bool b)
      |none=>none
    | .neq=>match aas q x y with
      |some b=>some (.bool (!b))
      |none=>none
    |_=>none
def unA(op:UnOp):AV->Option AV
 |  .bool b=>match op with
    | .not=>some (.bool (!b))
    |_=>none
 |  .int k n=>match op with
    | .neg=>some (.int k (av k (0 - n)))
    |_=>none
 |_=>none
def cE(cells:List AV):List (Nat×Nat)->List AV->Option (List AV)
 |[],[]=>some cells
 |  (off,size)::ps,v::vs=>
    match Nat.beq v.cells.length size,Nat.ble (off+size) cells.length with
    |true,true=>cE (aX cells off v.cells) ps vs
    |_,_=>none
 |_,_=>none
def bR{α:Type}(l:List α):Nat->List α
 |0=>[]
 |n+1=>l++bR l n
def zR:AV->Option Nat
 |  .int _ n=>match n with
    | .ofNat m=>some m
    | .negSucc _=>none
 |_=>none
def KL(n:Nat):AV:= .int .i64 (.ofNat n)
def rows(es:Nat)(cs:List AV):Nat->List (List AV)
 |0=>[]
 |n+1=>cs.take es::rows es (cs.drop es) n
def bounds:(lo hi mx:Bool)->List AV->Option (Option Nat×Option Nat×Option Nat)
 |false,false,false,[]=>some (none,none,none)
 |  true,false,false,[a]=>match zR a with
    |some l=>some (some l,none,none)
    |none=>none
 |  false,true,false,[b]=>match zR b with
    |some h=>some (none,some h,none)
    |none=>none
 |  true,true,false,[a,b]=>match zR a,zR b with
    |some l,some h=>some (some l,some h,none)
    |_,_=>none
 |  false,true,true,[b,c]=>match zR b,zR c with
    |some h,some m=>some (none,some h,some m)
    |_,_=>none
 |  true,true,true,[a,b,c]=>match zR a,zR b,zR c with
    |some l,some h,some m=>some (some l,some h,some m)
    |_,_,_=>none
 |_,_,_,_=>none
def dF(es n:Nat)(H:Pos->Option AB):AV->Option (List AV)
 | .af=>some []
 |  .slice b off _ _ _=>match Nat.beq (n*es) 0 with
    |true=>some []
    |false=>match H b with
     |some (.cells cs _)=>cut cs off (n*es)
     |_=>none
 |  .fl xs es'=>match Nat.beq es es',Nat.ble n xs.length with
    |true,true=>some (xs.take n).flatten
    |_,_=>none
 |  .str s=>match Nat.beq es 1,Nat.ble n s.length with
    |true,true=>some ((s.take n).map λc=> .int .u8 (.ofNat c))
    |_,_=>none
 |_=>none
def eH:AV->Option Nat
 | .af=>some 0
 | .slice _ _ n _ _=>some n
 | .fl xs _=>some xs.length
 | .str s=>some s.length
 |_=>none
def iu(pk:PK)(k:AV):List (AV×AV×Nat)->Nat->Option (Option (Nat×AV))
 |[],_=>some none
 |  (k',v,_)::es,i=>match Bp pk k k' with
    |some true=>some (some (i,v))
    |some false=>iu pk k es (i+1)
    |none=>none
def agj:PK->AV->Bool
 | .b,.bool _=>true
 | .i,.int _ _=>true
 | .s,.str _=>true
 |_,_=>false
def tK(k v:AV):List (AV×AV×Nat)->Nat->List (AV×AV×Nat)
 |[],_=>[]
 |(_,_,born)::es,0=>(k,v,born)::es
 |e::es,i+1=>e::tK k v es i
def bytesOf:List AV->Option (List Nat)
 |[]=>some []
 |  .int .u8 (.ofNat n)::l=>match Nat.blt n 256,bytesOf l with
    |true,some s=>some (n::s)
    |_,_=>none
 |_=>none
def Yd(_H:Pos->Option AB)(_next:Pos):List AV->Option eG
 |[x]=>some (.val x)
 |_=>none
def ac8(_H:Pos->Option AB)(_next:Pos):List AV->Option eG
 |  [c,a,b]=>match c with
    | .bool true=>some (.val a)
    | .bool false=>some (.val b)
    |_=>none
 |_=>none
def QL(_H:Pos->Option AB)(next:Pos)(zero:List AV):List AV->Option eG
 |[]=>some (.bk (.ptr next 0) none none (some (.cells zero 0)))
 |_=>none
def abv(_H:Pos->Option AB)(next:Pos):List AV->Option eG
 |[x]=>some (.bk (.ptr next 0) none none (some (.cells x.cells 0)))
 |_=>none
def QM(_H:Pos->Option AB)(_next:Pos)(zero:List AV)(places:List (Nat×Nat)):List AV->Option eG
 |  xs=>match cE zero places xs with
    |some cs=>some (.val (.agg cs))
    |none=>none
def wu(_H:Pos->Option AB)(next:Pos)(es len:Nat)(zero:List AV)(places:List Nat):List AV->Option eG
 |  xs=>match cE (bR zero len) (places.map λi=>(i*es,es)) xs with
    |some cs=>some (.bk (.slice next 0 len (some len) es) none none (some (.cells cs 0)))
    |none=>none
def zh (H :Pos->Option AB)(_next:Pos)(n:Option Nat):List AV->Option eG
 |  [p] =>match p with
    | .ptr b off=>match H b with
      | some (.cells cs _)=>match n with
        | none=>match nth cs off with
          |some v=>some (.val v)
          |none=>none
        | some n=>match cut cs off n with
          |some vs=>some (.val (.agg vs))
          |none=>none
      |_=>none
    | .fp xs i j=>match nth xs i with
      | some cs=>match n with
        | none=>match nth cs j with
          |some v=>some (.val v)
          |none=>none
        | some n=>match cut cs j n with
          |some vs=>some (.val (.agg vs))
          |none=>none
      |none=>none
    |_=>none
 |_=>none
def KM (H:Pos->Option AB)(_next:Pos)(n:Nat):List AV->Option eG
 |  [p, v]=>match p with
    | .ptr b off=>match H b with
      | some (.cells cs fz)=>
        match Nat.beq v.cells.length n,Nat.ble (off+n) cs.length,Nat.ble fz off,aQ v.cells with
        |true,true,true,true=>some (.bk .undef none (some (b,.cells (aX cs off v.cells) fz)) none)
        |_,_,_,_=>none
      |_=>none
    |_=>none
 |_=>none
def NR(_H:Pos->Option AB)(_next:Pos):List AV->Option eG
 |  [x]=>match x with
    | .ptr _ _=>some (.val x)
    | .fp _ _ _=>some (.val x)
    | .func _ _ _=>some (.val x)
    |_=>none
 |_=>none
def ju(_H:Pos->Option AB)(_next:Pos)(op:BinOp)(q:gP):List AV->Option eG
 |  [x,y]=>match pz op q x y with
    |some v=>some (.val v)
    |none=>none
 |_=>none
def ako(_H:Pos->Option AB)(_next:Pos)(op:UnOp):List AV->Option eG
 |  [x]=>match unA op x with
    |some v=>some (.val v)
    |none=>none
 |_=>none
def Ft (H:Pos->Option AB)(_next:Pos)(k:aq1):List AV->Option eG
 |  [x] =>match k,x with
    | .int k,.int _ n=>some (.val (.int k (av k n)))
    | .same,.str s=>some (.val (.str s))
    | .ofBytes,.af=>some (.val (.str []))
    | .ofBytes,.slice b off n _ _=>match Nat.beq n 0 with
      |true=>some (.val (.str []))
      | false=>match H b with
        |some (.cells cs _)=>match cut cs off n with
         |some l=>match bytesOf l with
          |some s=>some (.val (.str s))
          |none=>none
         |none=>none
        |_=>none
    |_,_=>none
 |_=>none
def QN(_H:Pos->Option AB)(_next:Pos)(t:TypeId):List AV->Option eG
 |[x]=>some (.val (.iface t x))
 |_=>none
def Gm(_H:Pos->Option AB)(_next:Pos)(f:FuncId)(Vc:Nat):List AV->Option eG
 |xs=>some (.val (.func f (xs.take Vc) (xs.drop Vc)))
def QO(_H:Pos->Option AB)(next:Pos):List AV->Option eG
 |_=>some (.bk (.map next) none none (some (.map [] 0)))
def lH (H:Pos->Option AB)(_next:Pos)(pk:PK)(zero:AV)(ok:Bool):List AV->Option eG
 |  [m, k]=>
    match (match m with
      | .qG=>match agj pk k with
        |true=>some none
        |false=>none
      | .map b=>match H b with
        |some (.map es _)=>iu pk k es 0
        |_=>none
      |_=>none)with
    |some (some (_,v))=>some (.val (match ok with|true=> .tuple [v,.bool true]|false=>v))
    |some none=>some (.val (match ok with|true=> .tuple [zero,.bool false]|false=>zero))
    |none=>none
 |_=>none
def yf (H:Pos->Option AB)(_next:Pos)(pk:PK):List AV->Option eG
 |  [m, k,v]=>match m with
    | .map b=>match H b with
      | some (.map es clock)=>match agj pk k,iu pk k es 0 with
        |true,some (some (i,_))=>some (.bk .undef none (some (b,.map (tK k v es i) clock)) none)
        |true,some none=>some (.bk .undef none (some (b,.map (es++[(k,v,clock)]) (clock+1))) none)
        |_,_=>none
      |_=>none
    |_=>none
 |_=>none
def Cw(_H:Pos->Option AB)(next:Pos)(es bytes:Nat)(zero:List AV):List AV->Option eG
 |  [l,c]=>match zR l,zR c with
    | some l,some c=>match Nat.ble l c,Nat.ble (bytes*c) 281474976710656,Nat.ble c 9223372036854775807 with
      |true,true,true=>some (.bk (.slice next 0 l (some c) es) none none (some (.cells (bR zero c) 0)))
      |_,_,_=>none
    |_,_=>none
 |_=>none
def Vd(_H:Pos->Option AB)(_next:Pos)(lo hi:Bool):List AV->Option eG
 |  x ::bs=>match x,bounds lo hi false bs with
    | .str s,some (l,h,_)=>
      let h:=h.getD s.length
      let l:=l.getD 0
      match Nat.ble l h,Nat.ble h s.length with
      |true,true=>some (.val (.str ((s.take h).drop l)))
      |_,_=>none
    |_,_=>none
 |_=>none
def iP (_H:Pos->Option AB)(_next:Pos)(es:Nat)(lo hi mx:Bool):List AV->Option eG
 |  x ::bs=>match x,bounds lo hi mx bs with
    | .slice b off len cap es',some (l,h,m)=>
      match Nat.beq es es',Nat.ble (l.getD 0) (h.getD len)with
      | true,true=>match cap,m with
        | some c,some m=>match Nat.ble (h.getD len) m,Nat.ble m c with
          |true,true=>some (.val (.slice b (off+l.getD 0*es) (h.getD len - l.getD 0) (some (m - l.getD 0)) es))
          |_,_=>none
        | some c,none=>match Nat.ble (h.getD len) c with
          |true=>some (.val (.slice b (off+l.getD 0*es) (h.getD len - l.getD 0) (some (c - l.getD 0)) es))
          |false=>none
        | none,some m=>match Nat.ble (h.getD len) m,Nat.ble m len with
          |true,true=>some (.val (.slice b (off+l.getD 0*es) (h.getD len - l.getD 0) (some (m - l.getD 0)) es))
          |_,_=>none
        | none,none=>match Nat.ble (h.getD len) len with
          |true=>some (.val (.slice b (off+l.getD 0*es) (h.getD len - l.getD 0) none es))
          |false=>none
      |_,_=>none
    | .fl xs es',some (l,h,m)=>
      match Nat.beq es es' with
      | true=>match m with
        | some m=>match Nat.beq (l.getD 0) 0,Nat.beq (h.getD xs.length) 0,Nat.beq m 0 with
          |true,true,true=>some (.val (.slice .h 0 0 (some 0) es))
          |_,_,_=>none
        | none=>match Nat.ble (l.getD 0) (h.getD xs.length),Nat.ble (h.getD xs.length) xs.length with
          |true,true=>some (.val (.fl ((xs.take (h.getD xs.length)).drop (l.getD 0)) es))
          |_,_=>none
      |false=>none
    | .af,some (l,h,m)=>match Nat.beq (l.getD 0) 0,Nat.beq (h.getD 0) 0,Nat.beq (m.getD 0) 0 with
        |true,true,true=>some (.val .af)
        |_,_,_=>none
    |_,_=>none
 |_=>none
def Ve(_H:Pos->Option AB)(_next:Pos)(off:Nat):List AV->Option eG
 |  [x]=>match x with
    | .ptr b o=>some (.val (.ptr b (o+off)))
    | .fp xs i j=>some (.val (.fp xs i (j+off)))
    |_=>none
 |_=>none
def sw (_H:Pos->Option AB)(_next:Pos)(es:Nat)(arr:Option Nat):List AV->Option eG
 |  [x, i]=>match zR i with
    | some i=>match arr,x with
      | none,.slice b off len _ _=>match Nat.blt i len with
        |true=>some (.val (.ptr b (off+i*es)))
        |false=>none
      | none,.fl xs es'=>match Nat.blt i xs.length,Nat.beq es es' with
        |true,true=>some (.val (.fp xs i 0))
        |_,_=>none
      | some n,.ptr b off=>match Nat.blt i n with
        |true=>some (.val (.ptr b (off+i*es)))
        |false=>none
      |_,_=>none
    |none=>none
 |_=>none
def QT (_H:Pos->Option AB)(_next:Pos)(off:Nat)(n:Option Nat):List AV->Option eG
 |  [x] =>match x with
    | .agg cs=>match n with
      | none=>match nth cs off with
        |some v=>some (.val v)
        |none=>none
      |some n=>some (.val (.agg ((cs.drop off).take n)))
    |_=>none
 |_=>none
def Ye(_H:Pos->Option AB)(_next:Pos):List AV->Option eG
 |  [x,i]=>match x,zR i with
    | .str s,some i=>match nth s i with
      |some c=>some (.val (.int .u8 (.ofNat c)))
      |none=>none
    |_,_=>none
 |_=>none
def Kc(_H:Pos->Option AB)(_next:Pos)(i:Nat):List AV->Option eG
 |  [x]=>match x with
    | .tuple vs=>match nth vs i with
      |some v=>some (.val v)
      |none=>none
    |_=>none
 |_=>none
def aat(_H:Pos->Option AB)(_next:Pos)(f:FuncId):List AV->Option eG
 |xs=>some (.call f xs)
def aau(_H:Pos->Option AB)(_next:Pos):List AV->Option eG
 |  x::xs=>match x with
    | .func f first captured=>some (.call f (first++(xs++captured)))
    |_=>none
 |_=>none
def OK(H:Pos->Option AB)(_next:Pos)(k:LK):List AV->Option eG
 |  [x]=>match k,x with
    | .m,.qG=>some (.val (KL 0))
    | .m,.map b=>match H b with
      |some (.map es _)=>some (.val (KL es.length))
      |_=>none
    | .s,.str s=>some (.val (KL s.length))
    | .l,.af=>some (.val (KL 0))
    | .l,.slice _ _ n _ _=>some (.val (KL n))
    | .l,.fl xs _=>some (.val (KL xs.length))
    |_,_=>none
 |_=>none
def lK (H:  Pos->Option AB)(next:Pos)(es bytes:Nat):List AV->Option eG
 |  [s, x]=> match eH s,eH x with
    | some n,some m=>
      match Nat.ble ((2*(n+m)+768)*bytes) 281474976710656,Nat.ble (n+m) 9223372036854775807 with
      | true,true=>match Nat.beq m 0,s with
        |true,.slice b off n c es'=>some (.val (.slice b off n c es'))
        |true,.fl xs es'=>some (.val (.fl xs es'))
        |true,.af=>some (.val .af)
        |false,.af=>match dF es m H x with
         |some new=>some (.bk (.slice next 0 m none es) none none (some (.cells new 0)))
         |none=>none
        |false,.slice b off n (some c) es'=>
         match Nat.ble (n+m) c with
         |  true=>match H b,dF es m H x with
            |some (.cells cs fz),some new=>match Nat.ble (off+(n+m)*es) cs.length,Nat.ble fz (off+n*es)&&Nat.beq es es',aQ new with
             |true,true,true=>some (.bk (.slice b off (n+m) (some c) es) none (some (b,.cells (aX cs (off+n*es) new) fz)) none)
             |_,_,_=>none
            |_,_=>none
         |  false=>match dF es n H s,dF es m H x with
            |some gK,some new=>some (.bk (.slice next 0 (n+m) none es) none none (some (.cells (gK++new) 0)))
            |_,_=>none
        |false,.slice b off n none es'=>
         match H b,dF es n H s,dF es m H x with
         |  some (.cells _ fz),some gK,some new=>match Nat.ble fz (off+n*es)&&Nat.beq es es',aQ new with
            |true,true=>some (.bk (.slice next 0 (n+m) none es) (some b) none (some (.cells (gK++new) (fz - off))))
            |_,_=>none
         |_,_,_=>none
        |_,_=>none
      |_,_=>none
    |_,_=>none
 |_=>none
def pE (H : Pos->Option AB)(_next:Pos)(es:Nat):List AV->Option eG
 |  [d, x]=>match eH d,eH x with
    | some n,some m=>
      let k:=min m n
      match Nat.beq k 0 with
      | true=>match d with
        | .str _=>none
        |_=>some (.val (KL 0))
      | false=>match d with
        | .slice b off _ _ _=>match H b,dF es k H x with
          | some (.cells cs fz),some new=>match Nat.ble (off+k*es) cs.length,Nat.ble fz off,aQ new with
            |true,true,true=>some (.bk (KL k) none (some (b,.cells (aX cs off new) fz)) none)
            |_,_,_=>none
          |_,_=>none
        |_=>none
    |_,_=>none
 |_=>none
def Ku(_H:Pos->Option AB)(_next:Pos):List AV->Option eG
 |  [x,y]=>match x,y with
    | .int k a,.int _ b=>some (.val (.int k (match Bb b a with|true=>b|false=>a)))
    | .str a,.str b=>some (.val (.str (match aN a b||ku a b with|true=>a|false=>b)))
    |_,_=>none
 |_=>none
def Kv(_H:Pos->Option AB)(_next:Pos):List AV->Option eG
 |  [x,y]=>match x,y with
    | .int k a,.int _ b=>some (.val (.int k (match Bb a b with|true=>b|false=>a)))
    | .str a,.str b=>some (.val (.str (match aN a b with|true=>b|false=>a)))
    |_,_=>none
 |_=>none
def sK (H:Pos->Option AB)(_next:Pos)(es:Nat)(zero:List AV):List AV->Option eG
 |  [x] =>match x with
    | .af=>some (.val .undef)
    | .slice b off n _ _=>match Nat.beq n 0 with
      |true=>some (.val .undef)
      | false=>match H b with
        |some (.cells cs fz)=>match Nat.ble (off+n*es) cs.length,Nat.ble fz off,aQ (bR zero n)with
         |true,true,true=>some (.bk .undef none (some (b,.cells (aX cs off (bR zero n)) fz)) none)
         |_,_,_=>none
        |_=>none
    |_=>none
 |_=>none
def aG.run(H:Pos->Option AB)(next:Pos):aG->List AV->Option eG
 | .move=>Yd H next
 | .pick=>ac8 H next
 | .alloc zero=>QL H next zero
 | .box=>abv H next
 | .build zero places=>QM H next zero places
 | .buildSlice es len zero places=>wu H next es len zero places
 | .load n=>zh H next n
 | .store n=>KM H next n
 | .nilCheck=>NR H next
 | .bin op q=>ju H next op q
 | .un op=>ako H next op
 | .conv k=>Ft H next k
 | .mkIface t=>QN H next t
 | .mkFunc f Vc=>Gm H next f Vc
 | .mkMap=>QO H next
 | .lookup pk zero ok=>lH H next pk zero ok
 | .mapSet pk=>yf H next pk
 | .mkSlice es bytes zero=>Cw H next es bytes zero
 | .sliceS lo hi=>Vd H next lo hi
 | .sliceL es lo hi mx=>iP H next es lo hi mx
 | .fieldA off=>Ve H next off
 | .idxA es arr=>sw H next es arr
 | .field off n=>QT H next off n
 | .idxS=>Ye H next
 | .extract i=>Kc H next i
 | .callF f=>aat H next f
 | .callV=>aau H next
 | .lenB k=>OK H next k
 | .append es bytes=>lK H next es bytes
 | .copyB es=>pE H next es
 | .minB=>Ku H next
 | .maxB=>Kv H next
 | .clearS es zero=>sK H next es zero
 | .capB=>λ_=>none
 | .bad=>λ_=>none
inductive ic where
 |t (p:Pos)
 |c (v:AV)
 deriving Inhabited
inductive Cls where
 |pure
 |read
 |new
 |bk
 deriving Inhabited
structure bQ where
 dst:Option Pos
 k:aG
 xs:List ic
 guard:Option (Pos×Bool)
 cls:Cls
 bY:Nat
 deriving Inhabited
inductive AC where
 |skip
 |region (ops:List bQ)
 |draw (ops:List (Nat×bQ))
 |seq (a b:AC)
 |cond (x:ic) (a b:AC)
 |block (id:Nat) (a:AC)
 |loop (a:AC)
 |exit (id:Nat)
 |ret
 deriving Inhabited
inductive OL where
 |tmp (p:Pos)
 |cell (p:Pos) (n:Option Nat)
 deriving Inhabited
structure dN where
 code:AC
 nparams:Nat
 results:List OL
 deriving Inhabited
abbrev Fr:=T AV
structure St where
 heap:T AB
 next:Pos
 deriving Inhabited
inductive oH where
 |normal
 |exit (id:Nat)
 |ret
 deriving Inhabited
def Gn(fr:Fr):ic->Option AV
 | .t p=>fr.get p
 | .c v=>some v
def fS(fr:Fr):List ic->Option (List AV)
 |[]=>some []
 |  x::xs=>match Gn fr x with
    |some v=>match fS fr xs with
     |some vs=>some (v::vs)
     |none=>none
    |none=>none
def cK(fr:Fr):Option (Pos×Bool)->Option Bool
 |none=>some true
 |  some (p,want)=>match fr.get p with
    |some (.bool b)=>some (b==want)
    |some (.tuple _)=>some false
    |_=>none
def eu(fr:Fr)(d:Option Pos)(v:AV):Fr:=match d with
 |some p=>fr.put (some v) p
 |none=>fr
def NS(o:Option (Pos×AB))(h:T AB):T AB:=match o with
 |some (b,x)=>h.put (some x) b
 |none=>h
def KN(o:Option Pos)(h:T AB):T AB:=match o with
 |some b=>h.put none b
 |none=>h
def St.bk(st:St)(del:Option Pos)(set:Option (Pos×AB))(new:Option AB):St:=
 match new with
 |some x=>{ heap:=T.put (some x) st.next (NS set (KN del st.heap)),next:=st.next.succ }
 |none=>{ heap:=NS set (KN del st.heap),next:=st.next }
abbrev aj:=FuncId->List AV->St->Option (AV×St)
def cH(call:aj)(k:aG)(xs:List AV)(st:St):Option (AV×St):=
 match k.run (λb=>st.heap.get b) st.next xs with
 |some (.val v)=>some (v,st)
 |some (.bk v del set new)=>some (v,st.bk del set new)
 |some (.call f args)=>call f args st
 |none=>none
def mH (call:aj):List bQ->Fr->St->Option (Fr×St)
 |[],fr,st=>some (fr,st)
 |  o::os,fr,st=>match cK fr o.guard with
    |some true=>match fS fr o.xs with
     |  some xs=>match cH call o.k xs st with
        |some (v,st')=>mH call os (eu fr o.dst v) st'
        |none=>none
     |none=>none
    |some false=>mH call os (eu fr o.dst .undef) st
    |none=>none
def fH:AV->AV->Bool
 | .bool a,.bool b=>a==b
 | .int k a,.int k' b=>KJ k k'&&Ba a b
 | .str a,.str b=>ku a b
 | .jg,.jg=>true
 | .ptr b o,.ptr b' o'=>Pos.beq b b'&&Nat.beq o o'
 | .af,.af=>true
 | .slice b o l none es,.slice b' o' l' none es'=>Pos.beq b b'&&Nat.beq o o'&&Nat.beq l l'&&Nat.beq es es'
 | .slice b o l (some c) es,.slice b' o' l' (some c') es'=>Pos.beq b b'&&Nat.beq o o'&&Nat.beq l l'&&Nat.beq c c'&&Nat.beq es es'
 | .qG,.qG=>true
 | .map b,.map b'=>Pos.beq b b'
 | .jO,.jO=>true
 | .Bo,.Bo=>true
 |_,_=>false
def Bq:List AV->List AV->Bool
 |[],[]=>true
 |a::x,b::y=>fH a b&&Bq x y
 |_,_=>false
def MH(f:AV->AV->Bool):List AV->List AV->Bool
 |[],[]=>true
 |a::x,b::y=>f a b&&MH f x y
 |_,_=>false
def BS(f:AV->AV->Bool):List (List AV)->List (List AV)->Bool
 |[],[]=>true
 |a::x,b::y=>MH f a b&&BS f x y
 |_,_=>false
def MI:Nat->AV->AV->Bool
 |d+1,.fl a n,.fl a' n'=>BS (MI d) a a'&&Nat.beq n n'
 |_,a,b=>fH a b
def lM:AV->AV->Bool
 | .func f a b,.func f' a' b'=>Nat.beq f f'&&Bq a a'&&Bq b b'
 | .fl a n,.fl a' n'=>MI 3 (.fl a n) (.fl a' n')
 |a,b=>fH a b
def tL:List AV->List AV->Bool
 |[],[]=>true
 |a::x,b::y=>lM a b&&tL x y
 |_,_=>false
def ey:AV->AV->Bool
 | .agg l,.agg l'=>tL l l'
 | .tuple l,.tuple l'=>tL l l'
 |a,b=>lM a b
inductive RC where
 |pure
 |new (id:Pos) (aM:AB)
 |bk (base:T AB) (h:T AB)
 deriving Inhabited
structure Rec where
 idx:Nat
 o:bQ
 v:AV
 c:RC
 nx:Pos
 deriving Inhabited
def snap(bY:Nat)(h:T AB):List Rec->T AB
 |[]=>h
 |  r ::rs=>match r.c with
    | .new id aM=>match bY.testBit r.idx with
      |true=>(snap bY h rs).put (some aM) id
      |false=>snap bY h rs
    | .bk _ _=>h
    | .pure=>snap bY h rs
def nK:List (Pos×AB)->T AB->T AB
 |[],h=>h
 |(id,aM)::l,h=>(nK l h).put (some aM) id
def oY(k:aG)(xs:List AV)(v:AV)(h:T AB):Bool:=
 match k.run (λb=>h.get b) .h xs with
 |some (.val u)=>ey u v
 |_=>false
def od(bY:Nat)(k:aG)(xs:List AV)(v:AV):List (Pos×AB)->List Rec->Bool
 |_,[]=>true
 |  up,r::rs=>match r.c with
    | .new id aM=>match bY.testBit r.idx with
      |true=>od bY k xs v ((id,aM)::up) rs
      |false=>od bY k xs v up rs
    | .bk base _=>match bY.testBit r.idx with
      |true=>true
      |false=>oY k xs v (nK up (snap bY base rs))&&od bY k xs v up rs
    | .pure=>od bY k xs v up rs
def dY (call:aj):List (Nat×bQ)->List Rec->T AB->Fr->St->Option (Fr×St)
 |[],_,_,fr,st=>some (fr,st)
 |  (j, o)::os,recs,base,fr,st=>match cK fr o.guard with
    |some false=>dY call os ({ idx:=j,o:=o,v:= .undef,c:= .pure,nx:=st.next }::recs) base (eu fr o.dst .undef) st
    | some true=>match fS fr o.xs with
      |none=>none
      | some xs=>match o.cls with
        | .new=>match o.k.run (λ_=>none) st.next xs with
          |some (.bk v none none (some aM))=>
           dY call os ({ idx:=j,o:=o,v:=v,c:= .new st.next aM,nx:=st.next.succ }::recs) base (eu fr o.dst v) { heap:=st.heap.put (some aM) st.next,next:=st.next.succ }
          |_=>none
        | .bk=>match cH call o.k xs st with
          |some (v,st')=>dY call os ({ idx:=j,o:=o,v:=v,c:= .bk base st'.heap,nx:=st'.next }::recs) st'.heap (eu fr o.dst v) st'
          |none=>none
        | _=>match o.k.run (λ_=>none) .h xs with
          |some (.val v)=>dY call os ({ idx:=j,o:=o,v:=v,c:= .pure,nx:=st.next }::recs) base (eu fr o.dst v) st
          |_=>match o.k.run (λb=>(snap o.bY base recs).get b) .h xs with
           |some (.val v)=>match od o.bY o.k xs v [] recs with
            |true=>dY call os ({ idx:=j,o:=o,v:=v,c:= .pure,nx:=st.next }::recs) base (eu fr o.dst v) st
            |false=>none
           |_=>none
    |none=>none
def bC(call:aj)(ih:AC->Fr->St->Option (oH×Fr×St)):AC->Fr->St->Option (oH×Fr×St)
 | .skip,fr,st=>some (.normal,fr,st)
 |  .region ops,fr,st=>match mH call ops fr st with
    |some (fr,st)=>some (.normal,fr,st)
    |none=>none
 |  .draw ops,fr,st=>match dY call ops [] st.heap fr st with
    |some (fr,st)=>some (.normal,fr,st)
    |none=>none
 |  .seq a b,fr,st=>match ih a fr st with
    |some (.normal,fr,st)=>ih b fr st
    |r=>r
 |  .cond x a b,fr,st=>match Gn fr x with
    |some (.bool true)=>ih a fr st
    |some (.bool false)=>ih b fr st
    |_=>none
 |  .block id a,fr,st=>match ih a fr st with
    |some (.exit xH,fr,st)=>match Nat.beq xH id with
     |true=>some (.normal,fr,st)
     |false=>some (.exit xH,fr,st)
    |r=>r
 |  .loop a,fr,st=>match ih a fr st with
    |some (.normal,fr,st)=>ih (.loop a) fr st
    |r=>r
 | .exit id,fr,st=>some (.exit id,fr,st)
 | .ret,fr,st=>some (.ret,fr,st)
def exec(call:aj):Nat->AC->Fr->St->Option (oH×Fr×St)
 |0=>λ_ _ _=>none
 |n+1=>bC call (exec call n)
def params:Nat->List AV->Fr->Fr
 |_,[],fr=>fr
 |i,v::vs,fr=>params (i+1) vs (fr.put (some v) (key i))
def gQ (H:Pos->Option AB)(fr:Fr):List OL->Option (List AV)
 |[]=>some []
 |  .tmp p::rs=>match fr.get p with
    |some v=>match gQ H fr rs with
     |some vs=>some (v::vs)
     |none=>none
    |none=>none
 |  .cell p n::rs=>match fr.get p with
    |some q=>match (aG.load n).run H .h [q]with
     |  some (.val v)=>match gQ H fr rs with
        |some vs=>some (v::vs)
        |none=>none
     |_=>none
    |none=>none
def zi:List AV->AV
 |[v]=>v
 |vs=> .tuple vs
abbrev eP:=FuncId->Option (List AV->St->Option (AV×St))
def um (O:eP)(G:T dN)(m:Nat):Nat->aj
 |0=>λ_ _ _=>none
 |  d+  1=>λf args st=>match O f with
    |some s=>s args st
    |none=>match G.get (key f)with
     |  some F=>match Nat.beq args.length F.nparams with
        |true=>match exec (um O G m d) m F.code (params 0 args .e) st with
         |some (.normal,fr,st')=>match gQ (λb=>st'.heap.get b) fr F.results with
          |some vs=>some (zi vs,st')
          |none=>none
         |some (.ret,fr,st')=>match gQ (λb=>st'.heap.get b) fr F.results with
          |some vs=>some (zi vs,st')
          |none=>none
         |_=>none
        |false=>none
     |none=>none
inductive TK where
 |bool
 |int (k:IntKind)
 |string
 |ptr (elem:Nat)
 |slice (elem:Nat)
 |array (n elem:Nat)
 |map (k e:Nat)
 |struct (fs:List (Nat×Nat×Bool))
 |func
 |iface
 |upt
 |other
 deriving Inhabited
structure TI where
 k:TK
 size:Nat
 bytes:Nat
 zero:Option (List AV)
 Bc:Bool:=false
 deriving Inhabited
def QU:Value->Option AV
 | .bool b=>some (.bool b)
 | .int k n=>some (.int k n)
 | .string s=>some (.str (s.data.toList.map UInt8.toNat))
 | .pointer none=>some .jg
 | .slice none 0 0=>some .af
 | .map none=>some .qG
 | .func (.func f) ⟨[]⟩ ⟨[]⟩=>some (.func f [] [])
 | .nilFunc=>some .jO
 | .nilIface=>some .Bo
 |_=>none
def sM:List Value->Option (List AV)
 |[]=>some []
 |  v::vs=>match QU v,sM vs with
    |some a,some as=>some (a::as)
    |_,_=>none
def ac9:Value->Option AV
 |  .agg cs=>match sM cs.toList with
    |some l=>some (.agg l)
    |none=>none
 |v=>QU v
def uv:Operand->Option ic
 | .tmp t=>some (.t (key t))
 |  .const v=>match ac9 v with
    |some a=>some (.c a)
    |none=>none
 | .func f=>some (.c (.func f [] []))
 | .global _=>none
def mI:List Operand->Option (List ic)
 |[]=>some []
 |  x::xs=>match uv x,mI xs with
    |some a,some as=>some (a::as)
    |_,_=>none
def TK.isAgg:TK->Bool
 | .struct _=>true
 | .array _ _=>true
 |_=>false
abbrev TT:=T TI
def Cx(tt:TT)(t:Nat):Option gP:=match tt.get (key t)with
 |  some ti=>match ti.k with
    | .bool=>some .bool
    | .int _=>some .num
    | .string=>some .num
    | .ptr _=>some .ptr
    | .slice _=>some .slice
    | .map _ _=>some .map
    | .func=>some .func
    | .iface=>some .iface
    | .struct fs=>match ti.Bc,fields fs with
      |true,some l=>some (.struct l)
      |_,_=>none
    |_=>none
 |none=>none
where
 fields:List (Nat×Nat×Bool)->Option (List (Nat×PK))
  |[]=>some []
  |(off,t,named)::fs=>match named,tt.get (key t),fields fs with
   |true,some ti,some l=>match ti.k with
    | .bool=>some ((off,.b)::l)
    | .int _=>some ((off,.i)::l)
    | .string=>some ((off,.s)::l)
    |_=>none
   |_,_,_=>none
def Cy(ti:TI):Option Nat:=match ti.k.isAgg with
 |true=>some ti.size
 |false=>none
def Cz:Option Operand->List Operand
 |some x=>[x]
 |none=>[]
def kg (tt:TT):Op->Option (aG×List ic×Cls)
 |  .move x=>match uv x with
    |some a=>some (.move,[a],.pure)
    |none=>none
 |  .assign x=>match uv x with
    |some a=>some (.move,[a],.pure)
    |none=>none
 |  .pick c a b=>match mI [c,a,b]with
    |some l=>some (.pick,l,.pure)
    |none=>none
 |  .alloc t=>match tt.get (key t)with
    |some ti=>match ti.zero with
     |some z=>some (.alloc z,[],.new)
     |none=>none
    |none=>none
 |  .box _ x=>match uv x with
    |some a=>some (.box,[a],.new)
    |none=>none
 |  .build t ps=>match tt.get (key t),mI (ps.toList.map (·.2))with
    |some ti,some l=>match ti.k,ti.zero with
     |  .struct fs,some z=>match places tt fs (ps.toList.map (·.1)),afX tt fs with
        |some p,true=>some (.build z p,l,.pure)
        |_,_=>none
     |  .array _ e,some z=>match tt.get (key e)with
        |some te=>some (.build z (ps.toList.map λx=>(x.1*te.size,te.size)),l,.pure)
        |none=>none
     |_,_=>none
    |_,_=>none
 |  .buildSlice t len ps=>match tt.get (key t),mI (ps.toList.map (·.2))with
    |some ti,some l=>match ti.k with
     |  .slice e=>match tt.get (key e)with
        | some te=>match te.zero,Nat.ble (len*te.size) 16777216 with
          |some z,true=>some (.buildSlice te.size len z (ps.toList.map (·.1)),l,.new)
          |_,_=>none
        |none=>none
     |_=>none
    |_,_=>none
 |  .load t a=>match tt.get (key t),uv a with
    |some ti,some a=>some (.load (Cy ti),[a],.read)
    |_,_=>none
 |  .store t a x=>match tt.get (key t),mI [a,x]with
    |some ti,some l=>some (.store ti.size,l,.bk)
    |_,_=>none
 |  .nilCheck x=>match uv x with
    |some a=>some (.nilCheck,[a],.pure)
    |none=>none
 |  .binOp op t x y _=>match Cx tt t,mI [x,y]with
    |some q,some l=>some (.bin op q,l,.pure)
    |none,some l=>match op with
     | .eql=>none
     | .neq=>none
     |_=>some (.bin op .num,l,.pure)
    |_,_=>none
 |  .unOp op _ x=>match uv x with
    |some a=>some (.un op,[a],.pure)
    |none=>none
 |  .convert src dst x=>match tt.get (key src),tt.get (key dst),uv x with
    |some s,some d,some a=>match s.k,d.k with
     | .int _,.int k=>some (.conv (.int k),[a],.pure)
     | .string,.string=>some (.conv .same,[a],.pure)
     |  .slice e,.string=>match tt.get (key e)with
        | some te=>match te.k with
          | .int .u8=>some (.conv .ofBytes,[a],.read)
          |_=>none
        |none=>none
     |_,_=>none
    |_,_,_=>none
 |  .makeInterface t x=>match tt.get (key t),uv x with
    |some ti,some a=>match ti.k with
     | .iface=>none
     | .other=>none
     |_=>some (.mkIface t,[a],.pure)
    |_,_=>none
 |  .makeFunc fn first captured=>match fn,mI (first.toList++captured.toList)with
    | .func f,some l=>some (.mkFunc f first.size,l,.pure)
    |_,_=>none
 |  .makeMap t r=>match tt.get (key t)with
    |some ti=>match ti.k,r with
     | .map _ _,none=>some (.mkMap,[],.new)
     | .map _ _,some (.const (.int _ _))=>some (.mkMap,[],.new)
     |_,_=>none
    |none=>none
 |  .makeSlice t l c=>match tt.get (key t),mI [l,c]with
    |some ti,some xs=>match ti.k with
     |  .slice e=>match tt.get (key e)with
        | some te=>match te.zero with
          |some z=>some (.mkSlice te.size te.bytes z,xs,.new)
          |none=>none
        |none=>none
     |_=>none
    |_,_=>none
 |  .slice t x lo hi mx=>match tt.get (key t),mI ([x]++Cz lo++Cz hi++Cz mx)with
    |some ti,some xs=>match ti.k with
     |  .string=>match mx with
        |none=>some (.sliceS lo.isSome hi.isSome,xs,.pure)
        |some _=>none
     |  .slice e=>match tt.get (key e)with
        |some te=>some (.sliceL te.size lo.isSome hi.isSome mx.isSome,xs,.pure)
        |none=>none
     |_=>none
    |_,_=>none
 |  .fieldAddr t x f=>match tt.get (key t),uv x with
    |some ti,some a=>match ti.k with
     |  .struct fs=>match nth fs f with
        | some (off,ft,_)=>match tt.get (key ft)with
          |some fi=>match Nat.beq fi.size 0 with
           |false=>some (.fieldA off,[a],.pure)
           |true=>none
          |none=>none
        |none=>none
     |_=>none
    |_,_=>none
 |  .field t x f=>match tt.get (key t),uv x with
    |some ti,some a=>match ti.k with
     |  .struct fs=>match nth fs f with
        | some (off,ft,_)=>match tt.get (key ft)with
          |some fi=>some (.field off (Cy fi),[a],.pure)
          |none=>none
        |none=>none
     |_=>none
    |_,_=>none
 |  .indexAddr t x ix=>match tt.get (key t),mI [x,ix]with
    |some ti,some l=>match ti.k with
     |  .slice e=>match tt.get (key e)with
        |some te=>some (.idxA te.size none,l,.pure)
        |none=>none
     |  .array n e=>match tt.get (key e)with
        |some te=>some (.idxA te.size (some n),l,.pure)
        |none=>none
     |_=>none
    |_,_=>none
 |  .index t x ix=>match tt.get (key t),mI [x,ix]with
    |some ti,some l=>match ti.k with
     | .string=>some (.idxS,l,.pure)
     |_=>none
    |_,_=>none
 |  .lookup t x ix ok=>match tt.get (key t),mI [x,ix]with
    |some ti,some l=>match ti.k with
     |  .map k e=>match tt.get (key k),tt.get (key e)with
        | some tk,some te=>match tk.k,te.zero with
          | .int _,some z=>some (.lookup .i (OM te z) ok,l,.read)
          | .string,some z=>some (.lookup .s (OM te z) ok,l,.read)
          | .bool,some z=>some (.lookup .b (OM te z) ok,l,.read)
          |_,_=>none
        |_,_=>none
     |_=>none
    |_,_=>none
 | .mapUpdate t m k v=>akp tt t m k v
 | .insert t m k v=>akp tt t m k v
 |  .extract x i=>match uv x with
    |some a=>some (.extract i,[a],.pure)
    |none=>none
 |  .call c=>match mI c.args.toList with
    |none=>none
    |some xs=>match c.callee with
     | .value (.func f)=>some (.callF f,xs,.bk)
     |  .value x=>match uv x with
        |some a=>some (.callV,a::xs,.bk)
        |none=>none
     | .invoke _ _=>none
     |  .builtin b=>match b with
        | .len=>match c.argTypes.toList,xs with
          |t::_,[_]=>match tt.get (key t)with
           |some ti=>match ti.k with
            | .string=>some (.lenB .s,xs,.pure)
            | .slice _=>some (.lenB .l,xs,.pure)
            | .map _ _=>some (.lenB .m,xs,.read)
            |_=>none
           |none=>none
          |_,_=>none
        | .append=>match c.argTypes.toList with
          |t::t2::_=>match tt.get (key t),tt.get (key t2)with
           |some ti,some t2i=>match ti.k,t2i.k with
            |_,.int _=>none
            | .slice _,.string=>none
            |  .slice e,_=>match tt.get (key e)with
               | some te=>match te.zero with
                 |some _=>some (.append te.size te.bytes,xs,.bk)
                 |none=>none
               |none=>none
            |_,_=>none
           |_,_=>none
          |_=>none
        | .copy=>match c.argTypes.toList with
          |t::_=>match tt.get (key t)with
           |some ti=>match ti.k with
            |  .slice e=>match tt.get (key e)with
               |some te=>some (.copyB te.size,xs,.bk)
               |none=>none
            |_=>none
           |none=>none
          |_=>none
        | .min=>match xs with
          |[_,_]=>some (.minB,xs,.pure)
          |_=>none
        | .max=>match xs with
          |[_,_]=>some (.maxB,xs,.pure)
          |_=>none
        | .clear=>match c.argTypes.toList with
          |t::_=>match tt.get (key t)with
           |some ti=>match ti.k with
            |  .slice e=>match tt.get (key e)with
               | some te=>match te.zero with
                 |some z=>some (.clearS te.size z,xs,.bk)
                 |none=>none
               |none=>none
            |_=>none
           |none=>none
          |_=>none
        |_=>none
 |_=>none
where
 afX (tt:TT):List (Nat×Nat×Bool)->Bool
  |[]=>true
  |  (_,t,_)::l=>match tt.get (key t)with
     |some _=>afX tt l
     |none=>false
 places (tt:TT) (fs:List (Nat×Nat×Bool)):List Nat->Option (List (Nat×Nat))
  |[]=>some []
  |  i ::is=>match nth fs i,places tt fs is with
     | some (off,t,_),some l=>match tt.get (key t)with
       |some ti=>some ((off,ti.size)::l)
       |none=>none
     |_,_=>none
 OM (te:TI) (z:List AV):AV:=match te.k.isAgg with
  |true=> .agg z
  |  false=>match z with
     |[v]=>v
     |_=> .agg z
 akp (tt:TT) (t:Nat) (m k v:Operand):Option (aG×List ic×Cls):=
  match tt.get (key t),mI [m,k,v]with
  |  some ti,some l=>match ti.k with
     | .map kt _=>match tt.get (key kt)with
       |some tk=>match tk.k with
        | .int _=>some (.mapSet .i,l,.bk)
        | .string=>some (.mapSet .s,l,.bk)
        | .bool=>some (.mapSet .b,l,.bk)
        |_=>none
       |none=>none
     |_=>none
  |_,_=>none
def abw(ops:Array Oper):Option (Nat×Bool)->Option (Option (Pos×Bool))
 |none=>some none
 |  some (j,b)=>match ops[j]? with
    |some o=>match o.dst with
     |some d=>some (some (key d,b))
     |none=>none
    |none=>none
def agk:List Oper->List Nat->List Nat
 |[],acc=>acc
 |o::os,acc=>agk os (acc++[o.after.toList.foldl (λs e=>match Region.binds .any e with
   |true=>s ||| 2 ^ e.on ||| (nth acc e.on).getD 0
   |false=>s) 0])
def uw(tt:TT)(nt:Nat)(ops:Array Oper):List Oper->List Nat->Option (List bQ)
 |[],_=>some []
 |  o::os,bs=>match abw ops o.guard,uw tt nt ops os bs.tail,aq2 nt o.dst with
    |some g,some l,true=>match kg tt o.op with
     |some (k,xs,cls)=>some ({ dst:=o.dst.map key,k:=k,xs:=xs,guard:=g,cls:=cls,bY:=bs.headD 0 }::l)
     |none=>some ({ dst:=o.dst.map key,k:= .bad,xs:=[],guard:=g,cls:= .bk,bY:=bs.headD 0 }::l)
    |_,_,_=>none
where
 aq2 (nt:Nat):Option Tmp->Bool
  |none=>true
  |some d=>Nat.blt d nt
def bQ.looks(o:bQ):List Pos:=
 (match o.guard with|some (p,_)=>[p]|none=>[])++o.xs.filterMap λ| .t p=>some p| .c _=>none
def ON(p:Pos):List Pos->Bool
 |[]=>false
 |q::l=>Pos.beq p q||ON p l
def Vf(a b:bQ):Bool:=
 (match a.dst with
  |some d=> !ON d b.looks&&(match b.dst with|some d'=> !Pos.beq d d'|none=>true)
  |none=>true)&&
 (match b.dst with
  |some d=> !ON d a.looks
  |none=>true)
def Be:List (Nat×bQ)->List (Nat×bQ)->List (Nat×bQ)
 |[],held=>held
 |  (i,o)::l,held=>match o.cls with
    | .bk=>held.filter (λx=>o.bY.testBit x.1)++(i,o)::Be l (held.filter λx=> !o.bY.testBit x.1)
    |_=>Be l (held++[(i,o)])
def KO:Nat->List bQ->List (Nat×bQ)
 |_,[]=>[]
 |i,o::os=>(i,o)::KO (i+1) os
def OO(m:Nat):Nat->List (Nat×bQ)->Bool
 |seen,[]=>Nat.beq seen (2 ^ m - 1)
 |  seen,(i,o)::l=>Nat.blt i m&& !seen.testBit i&&Nat.beq (o.bY &&& seen) o.bY&&(match o.cls with| .bk=>Nat.beq o.bY seen|_=>true)&&
    (l.all λx=>x.2.bY.testBit i||Vf o x.2)&&OO m (seen ||| 2 ^ i) l
def vt (tt:TT)(nt:Nat):Code->Option AC
 | .skip=>some .skip
 |  .region _ ops draw=>match uw tt nt ops ops.toList (agk ops.toList [])with
    |none=>none
    |some l=>match draw with
     |false=>some (.region l)
     |  true=>match OO l.length 0 (Be (KO 0 l) [])with
        |true=>some (.draw (Be (KO 0 l) []))
        |false=>none
 |  .seq a b=>match vt tt nt a,vt tt nt b with
    |some a,some b=>some (.seq a b)
    |_,_=>none
 |  .cond c a b=>match uv c,vt tt nt a,vt tt nt b with
    |some c,some a,some b=>some (.cond c a b)
    |_,_,_=>none
 |  .block id a=>match vt tt nt a with
    |some a=>some (.block id a)
    |none=>none
 |  .loop a=>match vt tt nt a with
    |some a=>some (.loop a)
    |none=>none
 | .exit id=>some (.exit id)
 | .ret=>some .ret
 | .refuse _=>some (.region [{ dst:=none,k:= .bad,xs:=[],guard:=none,cls:= .bk,bY:=0 }])
 |_=>none
def qH(tt:TT):List ResultVar->Option (List OL)
 |[]=>some []
 |  .tmp t::rs=>match qH tt rs with
    |some l=>some (.tmp (key t)::l)
    |none=>none
 |  .cell a t::rs=>match tt.get (key t),qH tt rs with
    |some ti,some l=>some (.cell (key a) (Cy ti)::l)
    |_,_=>none
def akq(tt:TT)(f:Func):Option dN:=match f.body with
 |  some c=>match vt tt f.ntmps c,qH tt f.results.toList,Nat.ble (f.params.size+f.nfree) f.ntmps with
    |some a,some rs,true=>some { code:=a,nparams:=f.params.size+f.nfree,results:=rs }
    |_,_,_=>none
 |none=>none
structure Loc where
 aM:Nat
 base:Nat
 size:Nat
abbrev Cells:=Addr->Option Value
inductive aC(ρ:Pos->Loc)(n:Nat)(C:Cells):AV->Value->Prop where
 |bool (b:Bool):aC ρ n C (.bool b) (.bool b)
 |int (k:IntKind) (i:Int):aC ρ n C (.int k i) (.int k i)
 |str (s:List Nat) (bs:ByteArray) (h:bs.data.toList.map UInt8.toNat=s):aC ρ n C (.str s) (.string bs)
 |jg:aC ρ n C .jg (.pointer none)
 |ptr (b:Pos) (off:Nat) (h:b.toNat<n):aC ρ n C (.ptr b off) (.pointer (some ⟨(ρ b).aM,(ρ b).base+off,none⟩))
 |fp (xs:List (List AV)) (i j es:Nat) (aM base:Nat) (cell:Nat->Nat->Value)
  (hl:∀(i:Nat)(cs:List AV),xs[i]? =some cs->cs.length=es)
  (hc:∀(i j:Nat)(cs:List AV)(v:AV),xs[i]? =some cs->cs[j]? =some v->C ⟨aM,base+i*es+j,none⟩=some (cell i j))
  (hv:∀(i j:Nat)(cs:List AV)(v:AV),xs[i]? =some cs->cs[j]? =some v->aC ρ n C v (cell i j)):
  aC ρ n C (.fp xs i j) (.pointer (some ⟨aM,base+i*es+j,none⟩))
 |af:aC ρ n C .af (.slice none 0 0)
 |slice (b:Pos) (off len:Nat) (cap:Option Nat) (es bu:Nat) (a:Addr) (hl:len<=bu) (hc:∀c,cap=some c->c=bu)
  (ha:bu≠0->b.toNat<n/\a=⟨(ρ b).aM,(ρ b).base+off,none⟩/\(ρ b).base+off+bu*es<=(ρ b).size)
  (hk:cap=none->b.toNat<n):
  aC ρ n C (.slice b off len cap es) (.slice (some a) len bu)
 |fl (xs:List (List AV)) (es bu:Nat) (a:Addr) (cell:Nat->Nat->Value) (hl:xs.length<=bu)
  (hs:xs≠[]->a.spot=none)
  (dV:∀(i:Nat)(cs:List AV),xs[i]? =some cs->cs.length=es)
  (hc:∀(i j:Nat)(cs:List AV)(v:AV),xs[i]? =some cs->cs[j]? =some v->C ⟨a.block,a.off+i*es+j,none⟩=some (cell i j))
  (hv:∀(i j:Nat)(cs:List AV)(v:AV),xs[i]? =some cs->cs[j]? =some v->aC ρ n C v (cell i j)):
  aC ρ n C (.fl xs es) (.slice (some a) xs.length bu)
 |qG:aC ρ n C .qG (.map none)
 |map (b:Pos) (h:b.toNat<n):aC ρ n C (.map b) (.map (some (ρ b).aM))
 |func (f:FuncId) (x y:List AV) (x' y':Array Value) (hx:x.length=x'.size) (hy:y.length=y'.size)
  (rF:∀(i:Nat)(v:AV)(v':Value),x[i]? =some v->x'[i]? =some v'->aC ρ n C v v') (zA:∀(i:Nat)(v:AV)(v':Value),y[i]? =some v->y'[i]? =some v'->aC ρ n C v v'):
  aC ρ n C (.func f x y) (.func (.func f) x' y')
 |jO:aC ρ n C .jO .nilFunc
 |Bo:aC ρ n C .Bo .nilIface
 |iface (t:TypeId) (v:AV) (x:Value) (h:aC ρ n C v x):aC ρ n C (.iface t v) (.iface t x)
 |agg (l:List AV) (cs:Array Value) (hl:l.length=cs.size) (h:∀(i:Nat)(v:AV)(v':Value),l[i]? =some v->cs[i]? =some v'->aC ρ n C v v'):
  aC ρ n C (.agg l) (.agg cs)
 |tuple (l:List AV) (cs:Array Value) (hl:l.length=cs.size) (h:∀(i:Nat)(v:AV)(v':Value),l[i]? =some v->cs[i]? =some v'->aC ρ n C v v'):
  aC ρ n C (.tuple l) (.tuple cs)
theorem aC.mono{ρ ρ':Pos->Loc}{n n':Nat}{C:Cells}{v:AV}{x:Value}(h:aC ρ n C v x)
  (bE:∀b:Pos,b.toNat<n->ρ' b=ρ b) (hn:n<=n'):aC ρ' n' C v x:=by
 induction h with
 |bool b=>exact .bool b
 |int k i=>exact .int k i
 |str s bs h=>exact .str s bs h
 |jg=>exact .jg
 |ptr b off h=>rw[<-bE b h];exact .ptr b off (by omega)
 |fp xs i j es aM base cell hl hc _ ih=>exact .fp xs i j es aM base cell hl hc ih
 |af=>exact .af
 |slice b off len cap es bu a hl hc ha hk=>
  refine .slice b off len cap es bu a hl hc (λh0=> ?_) (λh0=>by have:=hk h0;omega);obtain⟨h1,h2,h3⟩:=ha h0;rw[bE b h1];exact⟨by omega,h2,h3⟩
 |fl xs es bu a cell hl hs dV hc _ ih=>exact .fl xs es bu a cell hl hs dV hc ih
 |qG=>exact .qG
 |map b h=>rw[<-bE b h];exact .map b (by omega)
 |func f x y x' y' hx hy _ _ ih1 ih2=>exact .func f x y x' y' hx hy ih1 ih2
 |jO=>exact .jO
 |Bo=>exact .Bo
 |iface t v x _ ih=>exact .iface t v x ih
 |agg l cs hl _ ih=>exact .agg l cs hl ih
 |tuple l cs hl _ ih=>exact .tuple l cs hl ih
def aK(ρ:Pos->Loc)(n:Nat)(C:Cells)(l:List AV)(xs:List Value):Prop:=
 l.length=xs.length/\∀(i:Nat)(v:AV)(x:Value),l[i]? =some v->xs[i]? =some x->aC ρ n C v x
section
variable{ρ ρ' : Pos -> Loc}{n n' : Nat}{C : Cells}
theorem aK.mono{l:List AV}{xs:List Value}(h:aK ρ n C l xs)(bE:∀b:Pos,b.toNat<n->ρ' b=ρ b)(hn:n<=n'):
 aK ρ' n' C l xs:=⟨h.1,λi v x hv hx=>(h.2 i v x hv hx).mono bE hn⟩
theorem aK.nil:aK ρ n C [] []:=⟨rfl,λ_ _ _ h=>by simp at h⟩
theorem aK.cons{v:AV}{x:Value}{l:List AV}{xs:List Value}(h:aC ρ n C v x)(hs:aK ρ n C l xs):aK ρ n C (v::l) (x::xs):=
 ⟨by simp[hs.1],λi u y hu hy=>by
  cases i with
  |zero=>simp at hu hy;subst hu;subst hy;exact h
  |succ i=>simp at hu hy;exact hs.2 i u y hu hy⟩
theorem aK.cons_inv{v:AV}{l:List AV}{xs:List Value}(h:aK ρ n C (v::l) xs):∃x BT,xs=x::BT/\aC ρ n C v x/\aK ρ n C l BT:=by
 cases xs with
 |nil=>have:=h.1;simp at this
 |cons x BT=>
  exact⟨x,BT,rfl,h.2 0 v x rfl rfl,by have:=h.1;simpa using this,λi u y hu hy=>h.2 (i+1) u y (by simpa using hu) (by simpa using hy)⟩
theorem aK.qy{xs:List Value}(h:aK ρ n C [] xs):xs=[]:=by
 have:=h.1;cases xs with
 |nil=>rfl
 |cons a b=>simp at this
theorem aK.append{l m:List AV}{xs ys:List Value}(h:aK ρ n C l xs)(k:aK ρ n C m ys):aK ρ n C (l++m) (xs++ys):=by
 refine⟨by simp[h.1,k.1],λi v x hv hx=> ?_⟩;rcases Zi8 i l.length with hi|hi
 . rw[Zc3 hi]at hv;rw[Zc3 (by rw[<-h.1];exact hi)]at hx;exact h.2 i v x hv hx
 . rw[Zc2 hi]at hv;rw[Zc2 (by rw[<-h.1];exact hi), <-h.1]at hx;exact k.2 _ v x hv hx
theorem aK.take{l:List AV}{xs:List Value}(h:aK ρ n C l xs)(m:Nat):aK ρ n C (l.take m) (xs.take m):=by
 refine⟨by simp[h.1],λi v x hv hx=> ?_⟩;rw[Ze1]at hv hx;split at hv
 . rename_i hi;rw[Zb3 hi]at hx;exact h.2 i v x hv hx
 . cases hv
theorem aK.drop{l:List AV}{xs:List Value}(h:aK ρ n C l xs)(m:Nat):aK ρ n C (l.drop m) (xs.drop m):=by refine⟨by simp[h.1],λi v x hv hx=> ?_⟩;rw[Ze7]at hv hx;exact h.2 _ v x hv hx
theorem aK.aX{l vs:List AV}{xs ys:List Value}(h:aK ρ n C l xs)(k:aK ρ n C vs ys)(i:Nat):
  aK ρ n C (Go.Ai.aX l i vs) (Go.Ai.aX xs i ys):=by
 unfold Go.Ai.aX;rw[k.1];exact(h.take i).append (k.append (h.drop _))
theorem aK.get{l:List AV}{xs:List Value}(h:aK ρ n C l xs){i:Nat}{v:AV}(hv:l[i]? =some v):∃x,xs[i]? =some x/\aC ρ n C v x:=by
 have hi:i<xs.length:=by rw[<-h.1];exact(Za2.1 hv).1
 exact⟨xs[i],H0 hi,h.2 i v _ hv (H0 hi)⟩
theorem aC.OP{l:List AV}{cs:Array Value}(h:aK ρ n C l cs.toList):aC ρ n C (.agg l) (.agg cs):=
 .agg l cs (by simpa using h.1) λi v x hv hx=>h.2 i v x hv (by simpa using hx)
theorem aC.yg{l:List AV}{cs:Array Value}(h:aK ρ n C l cs.toList):aC ρ n C (.tuple l) (.tuple cs):=
 .tuple l cs (by simpa using h.1) λi v x hv hx=>h.2 i v x hv (by simpa using hx)
theorem aC.Fu{l:List AV}{x:Value}(h:aC ρ n C (.agg l) x):∃cs,x= .agg cs/\aK ρ n C l cs.toList:=by
 cases h with|agg _ cs hl h=>exact⟨cs,rfl,by simpa using hl,λi v x hv hx=>h i v x hv (by simpa using hx)⟩
theorem aC.Vg{l:List AV}{x:Value}(h:aC ρ n C (.tuple l) x):∃cs,x= .tuple cs/\aK ρ n C l cs.toList:=by
 cases h with|tuple _ cs hl h=>exact⟨cs,rfl,by simpa using hl,λi v x hv hx=>h i v x hv (by simpa using hx)⟩
theorem aC.QV{f:FuncId}{a b:List AV}{x:Value}(h:aC ρ n C (.func f a b) x):
  ∃a' b',x= .func (.func f) a' b'/\aK ρ n C a a'.toList/\aK ρ n C b b'.toList:=by
 cases h with
 |func _ _ _ a' b' hx hy h1 h2=>exact⟨a',b',rfl,⟨by simpa using hx,λi v x hv hx=>h1 i v x hv (by simpa using hx)⟩,⟨by simpa using hy,λi v x hv hx=>h2 i v x hv (by simpa using hx)⟩⟩
theorem aC.cells{v:AV}{x:Value}(h:aC ρ n C v x):aK ρ n C v.cells x.cells.toList:=by
 by_cases hv:∃l,v= .agg l
 . obtain⟨l,rfl⟩:=hv;obtain⟨cs,rfl,hs⟩:=h.Fu;exact hs
 . have h1:v.cells=[v]:=(by cases v<;>first|rfl|exact absurd ⟨_,rfl⟩ hv);have h2:x.cells= #[x]:=(by cases h<;>first|rfl|exact absurd ⟨_,rfl⟩ hv);rw[h1,h2];exact aK.cons h aK.nil
def tM(ρ:Pos->Loc)(n:Nat)(C:Cells)(L:Loc)(w:World):AB->Prop
 | .cells cs fz=>∃(c:Array Value) (e:TypeId) (fr:Nat×Nat),w.heap[L.aM]? =some (.cells c e fr)/\c.size=L.size/\L.base+cs.length<=c.size/\
  aK ρ n C cs ((c.toList.drop L.base).take cs.length)/\∀i,fz<=i->L.base+i<c.size->¬(fr.1<=L.base+i/\L.base+i<fr.2)
 | .map es clock=>∃(es':Array MapEntry),w.heap[L.aM]? =some (.map es' clock)/\es.length=es'.size/\
  ∀(i:Nat)(e:AV×AV×Nat)(e':MapEntry),es[i]? =some e->es'[i]? =some e'->aC ρ n C e.1 e'.key/\aC ρ n C e.2.1 e'.val/\e.2.2=e'.born
theorem tM.mono{L:Loc}{w:World}{x:AB}(h:tM ρ n C L w x)(bE:∀b:Pos,b.toNat<n->ρ' b=ρ b)(hn:n<=n'):tM ρ' n' C L w x:=by
 cases x with
 |cells cs fz=>obtain⟨c,e,fr,h1,h2,h3,h4,h5⟩:=h;exact⟨c,e,fr,h1,h2,h3,h4.mono bE hn,h5⟩
 |map es clock=>obtain⟨es',h1,h2,h3⟩:=h;exact⟨es',h1,h2,λi e e' he rH=>let⟨a,b,c⟩:=h3 i e e' he rH;⟨a.mono bE hn,b.mono bE hn,c⟩⟩
theorem tM.of_heap{L:Loc}{w w':World}{x:AB}(h:tM ρ n C L w x)(hw:w'.heap[L.aM]? =w.heap[L.aM]?):tM ρ n C L w' x:=by
 cases x with
 |cells cs fz=>obtain⟨c,e,fr,h1,h2⟩:=h;exact⟨c,e,fr,by rw[hw];exact h1,h2⟩
 |map es clock=>obtain⟨es',h1,h2⟩:=h;exact⟨es',by rw[hw];exact h1,h2⟩
end
structure cq(ρ:Pos->Loc)(C:Cells)(st:St)(w:World):Prop where
 live:∀b x,st.heap.get b=some x->b.toNat<st.next.toNat/\(ρ b).aM<w.heap.size/\tM ρ st.next.toNat C (ρ b) w x
 inj:∀b b' x x',st.heap.get b=some x->st.heap.get b'=some x'->(ρ b).aM=(ρ b').aM->b=b'
 ei:∀a v,C a=some v->w.cell? a=some v/\∀b x,st.heap.get b=some x->(ρ b).aM≠a.block
 whole:∀a v,C a=some v->∀o,C ⟨a.block,o,none⟩=none->w.cell? ⟨a.block,o,none⟩=none
structure qm(ρ:Pos->Loc)(st:St)(w:World)(ρ':Pos->Loc)(st':St)(w':World):Prop where
 os:w'.os=w.os
 tape:w'.tape=w.tape
 output:w'.output=w.output
 size:w.heap.size<=w'.heap.size
 block:∀k,k<w.heap.size->(∀b x,st.heap.get b=some x->(ρ b).aM≠k)->w'.heap[k]? =w.heap[k]?
 yh:∀b x,st'.heap.get b=some x->(∃b' x',st.heap.get b'=some x'/\(ρ b').aM=(ρ' b).aM)\/w.heap.size<=(ρ' b).aM
theorem qm.refl(ρ:Pos->Loc)(st:St)(w:World):qm ρ st w ρ st w:=⟨rfl,rfl,rfl,Za3 _,λ_ _ _=>rfl,λb x h=> .inl ⟨b,x,h,rfl⟩⟩
theorem qm.trans{ρ jX uX:Pos->Loc}{st bD Av:St}{w w1 w2:World}(h:qm ρ st w jX bD w1)(k:qm jX bD w1 uX Av w2):qm ρ st w uX Av w2 where
 os:=k.os.trans h.os
 tape:=k.tape.trans h.tape
 output:=k.output.trans h.output
 size:=Zb2 h.size k.size
 block q hq hn:=by
  rw[k.block q (Zc8 hq h.size) λb x hb e=> ?_,h.block q hq hn];rcases h.yh b x hb with⟨b',x',h1,h2⟩|h1
  . exact hn b' x' h1 (h2.trans e)
  . rw[e]at h1;omega
 yh b x hb:=by
  rcases k.yh b x hb with⟨b',x',h1,h2⟩|h1
  . rcases h.yh b' x' h1 with⟨b'',x'',h3,h4⟩|h3
    . exact .inl ⟨b'',x'',h3,h4.trans h2⟩
    . right;rw[<-h2];exact h3
  . exact .inr (Zb2 h.size h1)
def kV(ρ:Pos->Loc)(n:Nat)(C:Cells)(fr:Fr)(tmps:Array Value):Prop:=
 ∀p v,fr.get p=some v->∃x,tmps[p.toNat - 1]? =some x/\aC ρ n C v x
theorem Pos.toNat_pos(p:Pos):0<p.toNat:=by
 induction p with
 |h=>simp[Pos.toNat]
 |o p ih=>simp[Pos.toNat];exact ih
 |i p ih=>simp[Pos.toNat]
theorem Pos.toNat_inj:∀{p q:Pos},p.toNat=q.toNat->p=q
 | .h,.h,_=>rfl
 | .h,.o q,hq=>by have:=q.toNat_pos;simp[Pos.toNat]at hq;omega
 | .h,.i q,hq=>by have:=q.toNat_pos;simp[Pos.toNat]at hq;omega
 | .o p,.h,hq=>by have:=p.toNat_pos;simp[Pos.toNat]at hq;omega
 | .o p,.o q,hq=>by simp[Pos.toNat]at hq;rw[Pos.toNat_inj (p:=p) (q:=q) (by omega)]
 | .o p,.i q,hq=>by simp[Pos.toNat]at hq;omega
 | .i p,.h,hq=>by have:=p.toNat_pos;simp[Pos.toNat]at hq;omega
 | .i p,.o q,hq=>by simp[Pos.toNat]at hq;omega
 | .i p,.i q,hq=>by simp[Pos.toNat]at hq;rw[Pos.toNat_inj (p:=p) (q:=q) (by omega)]
theorem Pos.aF(p:Pos):p.succ.toNat=p.toNat+1:=by
 induction p with
 |h=>rfl
 |o p ih=>simp[Pos.succ,Pos.toNat]
 |i p ih=>simp[Pos.succ,Pos.toNat,ih];omega
theorem Pos.QW:∀(f m:Nat),0<m->m<2 ^ (f+1)->(Pos.agi f m).toNat=m
 |0,m,hp,hl=>by
  simp at hl;have:m=1:=by omega
  subst this;rfl
 |f +   1,m,hp,hl=>by
  unfold Pos.agi;split
  . (rename_i hb;have:=Zb4 hb;have:m=1:=by omega);subst this;rfl
  . rename_i hb;have h1:1<m:=by
        rcases Zi8 1 m with hh|hh
        . exact hh
        . rw[Nat.ble_eq_true_of_le hh]at hb;cases hb
    have h2:m / 2<2 ^ (f+1):=(by have:2 ^ (f+1+1)=2*2 ^ (f+1):=(by rw[Nat.pow_succ];omega);omega);split
    .   rename_i he;have:=Za6 he;simp only[Pos.toNat];rw[Pos.QW f _ (by omega) h2];omega
    .   rename_i he;have:=Zf0 he;simp only[Pos.toNat];rw[Pos.QW f _ (by omega) h2];omega
theorem iQ(n:Nat):(key n).toNat=n+1:=Pos.QW _ (n+1) (by omega) Nat.lt_log2_self
theorem T.dO{α:Type}(p:Pos):(T.e:T α).get p=none:=by cases p<;>rfl
theorem T.gH{α:Type}(x:Option α)(p:Pos)(t:T α):(T.put x p t).get p=x:=by
 induction p generalizing t with
 |h=>cases t<;>rfl
 |o p ih=>cases t<;>exact ih _
 |i p ih=>cases t<;>exact ih _
theorem T.bX{α:Type}(x:Option α){p q:Pos}(h:p≠q)(t:T α):(T.put x p t).get q=t.get q:=by
 induction p generalizing q t with
 |h=>cases q with
  |h=>exact absurd rfl h
  |o q=>cases t<;>simp[T.put,T.get,T.dO]
  |i q=>cases t<;>simp[T.put,T.get,T.dO]
 |o p ih=>cases q with
  |h=>cases t<;>simp[T.put,T.get]
  | o q=>cases t with
    |e=>simp only[T.put,T.get];rw[ih (λe=>h (by rw[e])),T.dO]
    |n l v r=>simp only[T.put,T.get];exact ih (λe=>h (by rw[e])) l
  |i q=>cases t<;>simp[T.put,T.get,T.dO]
 |i p ih=>cases q with
  |h=>cases t<;>simp[T.put,T.get]
  |o q=>cases t<;>simp[T.put,T.get,T.dO]
  | i q=>cases t with
    |e=>simp only[T.put,T.get];rw[ih (λe=>h (by rw[e])),T.dO]
    |n l v r=>simp only[T.put,T.get];exact ih (λe=>h (by rw[e])) r
theorem Pos.beq_eq:∀{p q:Pos},p.beq q=true↔p=q
 | .h,.h=>by simp[Pos.beq]
 | .h,.o q=>by simp[Pos.beq]
 | .h,.i q=>by simp[Pos.beq]
 | .o p,.h=>by simp[Pos.beq]
 | .o p,.o q=>by simp only[Pos.beq,Pos.o.injEq];exact Pos.beq_eq
 | .o p,.i q=>by simp[Pos.beq]
 | .i p,.h=>by simp[Pos.beq]
 | .i p,.o q=>by simp[Pos.beq]
 | .i p,.i q=>by simp only[Pos.beq,Pos.i.injEq];exact Pos.beq_eq
end
noncomputable section
section
variable{R : Type}
def Br{α:Type}(p:Pos):T α->Option α:=
 Pos.rec (motive:=λ_=>T α->Option α)
    (λt=>T.rec (motive:=λ_=>Option α) none (λ_ v _ _ _=>v) t)
    (λ_ ih t=>T.rec (motive:=λ_=>Option α) none (λl _ _ _ _=>ih l) t)
    (λ_ ih t=>T.rec (motive:=λ_=>Option α) none (λ_ _ r _ _=>ih r) t) p
def wY{α:Type}(x:Option α)(p:Pos):T α->(T α->R)->R:=
 Pos.rec (motive:=λ_=>T α->(T α->R)->R)
    (λt k=>T.rec (motive:=λ_=>R) (k (.n .e x .e)) (λl _ r _ _=>k (.n l x r)) t)
    (λ_ ih t k=>T.rec (motive:=λ_=>R) (ih .e λl=>k (.n l none .e)) (λl v r _ _=>ih l λl=>k (.n l v r)) t)
    (λ_ ih t k=>T.rec (motive:=λ_=>R) (ih .e λr=>k (.n .e none r)) (λl v r _ _=>ih r λr=>k (.n l v r)) t) p
def vu(n:Nat)(k:Nat->R):R:=Nat.rec (motive:=λ_=>R) (k 0) (λm _=>k (Nat.succ m)) n
def aav(n:Int)(k:Int->R):R:=match n with
 | .ofNat m=>vu m λm=>k (.ofNat m)
 | .negSucc m=>vu m λm=>k (.negSucc m)
def aeg(b:Bool)(k:Bool->R):R:=match b with
 |true=>k true
 |false=>k false
def Gp{α:Type}(l:List α):(List α->R)->R:=
 List.rec (motive:=λ_=>(List α->R)->R) (λk=>k []) (λa _ ih k=>ih λt=>k (a::t)) l
def QX(p:Pos):(Pos->R)->R:=
 Pos.rec (motive:=λ_=>(Pos->R)->R) (λk=>k .h) (λ_ ih k=>ih λp=>k (.o p)) (λ_ ih k=>ih λp=>k (.i p)) p
def agl(o:Option Nat)(k:Option Nat->R):R:=match o with
 |none=>k none
 |some n=>vu n λn=>k (some n)
def Vh(v:AV)(k:AV->R):R:=match v with
 | .bool b=>aeg b λb=>k (.bool b)
 | .int i n=>aav n λn=>k (.int i n)
 | .str s=>Gp s λs=>k (.str s)
 | .ptr b o=>QX b λb=>vu o λo=>k (.ptr b o)
 | .slice b o l c es=>QX b λb=>vu o λo=>vu l λl=>agl c λc=>k (.slice b o l c es)
 | .map b=>QX b λb=>k (.map b)
 | .func f x y=>Gp x λx=>Gp y λy=>k (.func f x y)
 | .agg l=>Gp l λl=>k (.agg l)
 |v=>k v
def Yf(l:List AV):(List AV->R)->R:=
 List.rec (motive:=λ_=>(List AV->R)->R) (λk=>k []) (λa _ ih k=>Vh a λa=>ih λt=>k (a::t)) l
def wz(v:AV)(k:AV->R):R:=match v with
 | .tuple l=>Yf l λl=>k (.tuple l)
 |v=>Vh v k
def Kw(x:AB)(k:AB->R):R:=match x with
 | .cells cs fz=>Gp cs λcs=>vu fz λfz=>k (.cells cs fz)
 | .map es c=>Gp es λes=>vu c λc=>k (.map es c)
def abx(p:Pos):(Pos->R)->R:=
 Pos.rec (motive:=λ_=>(Pos->R)->R) (λk=>k (.o .h)) (λq _ k=>k (.i q)) (λ_ ih k=>ih λp=>k (.o p)) p
variable(z : R)
def evK(fr:Fr)(x:ic)(k:AV->R):R:=match x with
 |  .t p=>match Br p fr with
    |some v=>k v
    |none=>z
 | .c v=>k v
def ada(fr:Fr)(xs:List ic):(List AV->R)->R:=
 List.rec (motive:=λ_=>(List AV->R)->R) (λk=>k []) (λx _ ih k=>evK z fr x λv=>ih λvs=>k (v::vs)) xs
def Ky(fr:Fr)(g:Option (Pos×Bool))(yes no:R):R:=match g with
 |none=>yes
 |  some (p,want)=>match Br p fr with
    |some (.bool b)=>match b==want with
     |true=>yes
     |false=>no
    |some (.tuple _)=>no
    |_=>z
def oe(fr:Fr)(d:Option Pos)(v:AV)(k:Fr->R):R:=match d with
 |some p=>wY (some v) p fr k
 |none=>k fr
def delK(o:Option Pos)(h:T AB)(k:T AB->R):R:=match o with
 |some b=>wY none b h k
 |none=>k h
def aoG(o:Option (Pos×AB))(h:T AB)(k:T AB->R):R:=match o with
 |some (b,x)=>Kw x λx=>wY (some x) b h k
 |none=>k h
abbrev sN(R:Type):=FuncId->List AV->St->(AV->St->R)->R
def aoH(st:St)(del:Option Pos)(set:Option (Pos×AB))(new:Option AB)(k:St->R):R:=
 delK del st.heap λh=>aoG set h λh=>match new with
    |some x=>Kw x λx=>wY (some x) st.next h λh=>abx st.next λn=>k { heap:=h,next:=n }
    |none=>k { heap:=h,next:=st.next }
def Yg(call:sN R)(op:aG)(xs:List AV)(st:St)(k:AV->St->R):R:=
 match op.run (λb=>Br b st.heap) st.next xs with
 |some (.val v)=>wz v λv=>k v st
 |some (.bk v del set new)=>wz v λv=>aoH st del set new λst=>k v st
 |some (.call f args)=>Gp args λargs=>call f args st k
 |none=>z
def adb(call:sN R)(ops:List bQ):Fr->St->(Fr->St->R)->R:=
 List.rec (motive:=λ_=>Fr->St->(Fr->St->R)->R) (λfr st k=>k fr st)
    (λo _ ih fr st k=>Ky z fr o.guard
     (ada z fr o.xs λxs=>Yg z call o.k xs st λv st=>oe fr o.dst v λfr=>ih fr st k)
     (oe fr o.dst .undef λfr=>ih fr st k)) ops
def QY (bY:Nat)(h:T AB)(recs:List Rec):(T AB->R)->R:=
 List.rec (motive:=λ_=>(T AB->R)->R) (λk=>k h)
    (fun r _ ih k=>match r.c with
     |  .new id aM=>match bY.testBit r.idx with
        |true=>ih λh'=>wY (some aM) id h' k
        |false=>ih k
     | .bk _ _=>k h
     | .pure=>ih k) recs
def agm(h:T AB)(l:List (Pos×AB)):(T AB->R)->R:=
 List.rec (motive:=λ_=>(T AB->R)->R) (λk=>k h) (λx _ ih k=>ih λh'=>wY (some x.2) x.1 h' k) l
def ago(op:aG)(xs:List AV)(v:AV)(h:T AB):Bool:=
 match op.run (λb=>Br b h) .h xs with
 |some (.val u)=>ey u v
 |_=>false
def uY(bY:Nat)(op:aG)(xs:List AV)(v:AV):List (Pos×AB)->List Rec->Bool
 |_,[]=>true
 |  up,r::rs=>match r.c with
    | .new id aM=>match bY.testBit r.idx with
      |true=>uY bY op xs v ((id,aM)::up) rs
      |false=>uY bY op xs v up rs
    | .bk base _=>match bY.testBit r.idx with
      |true=>true
      |false=>(QY bY base rs λh=>agm h up λh=>ago op xs v h)&&uY bY op xs v up rs
    | .pure=>uY bY op xs v up rs
def QZ (call:sN R)(ops:List (Nat×bQ)):List Rec->T AB->Fr->St->(Fr->St->R)->R:=
 List.rec ( motive:=λ_=>List Rec->T AB->Fr->St->(Fr->St->R)->R)
    (λ_ _ fr st k=>k fr st)
    (fun jo _ ih recs base fr st k=>Ky z fr jo.2.guard
     (ada z fr jo.2.xs λxs=>match jo.2.cls with
        | .new=>match jo.2.k.run (λ_=>none) st.next xs with
          |some (.bk v none none (some aM))=>wz v λv=>Kw aM λaM=>oe fr jo.2.dst v λfr=>abx st.next λn=>wY (some aM) st.next st.heap λh=>
              ih ({ idx:=jo.1,o:=jo.2,v:=v,c:= .new st.next aM,nx:=n }::recs) base fr { heap:=h,next:=n } k
          |_=>z
        | .bk=>Yg z call jo.2.k xs st λv st'=>oe fr jo.2.dst v λfr=>ih ({ idx:=jo.1,o:=jo.2,v:=v,c:= .bk base st'.heap,nx:=st'.next }::recs) st'.heap fr st' k
        | _ =>match jo.2.k.run (λ_=>none) .h xs with
          |some (.val v)=>wz v λv=>oe fr jo.2.dst v λfr=>ih ({ idx:=jo.1,o:=jo.2,v:=v,c:= .pure,nx:=st.next }::recs) base fr st k
          | _ =>QY jo.2.bY base recs λh=>match jo.2.k.run (λb=>Br b h) .h xs with
            | some (.val v)=>wz v λv=>match uY jo.2.bY jo.2.k xs v [] recs with
              |true=>oe fr jo.2.dst v λfr=>ih ({ idx:=jo.1,o:=jo.2,v:=v,c:= .pure,nx:=st.next }::recs) base fr st k
              |false=>z
            |_=>z)
     (oe fr jo.2.dst .undef λfr=>ih ({ idx:=jo.1,o:=jo.2,v:= .undef,c:= .pure,nx:=st.next }::recs) base fr st k)) ops
abbrev afY(R:Type):=AC->Fr->St->(Fr->St->R)->(Nat->Fr->St->R)->(Fr->St->R)->R
def uZ(call:sN R)(ih:afY R):afY R
 | .skip,fr,st,kn,_,_=>kn fr st
 | .region ops,fr,st,kn,_,_=>adb z call ops fr st kn
 | .draw ops,fr,st,kn,_,_=>QZ z call ops [] st.heap fr st kn
 | .seq a b,fr,st,kn,kx,kr=>ih a fr st (λfr st=>ih b fr st kn kx kr) kx kr
 |  .cond x a b,fr,st,kn,kx,kr=>evK z fr x λv=>match v with
    | .bool true=>ih a fr st kn kx kr
    | .bool false=>ih b fr st kn kx kr
    |_=>z
 | .block id a,fr,st,kn,kx,kr=>ih a fr st kn (λxH fr st=>match Nat.beq xH id with
     |true=>kn fr st
     |false=>kx xH fr st) kr
 | .loop a,fr,st,kn,kx,kr=>ih a fr st (λfr st=>ih (.loop a) fr st kn kx kr) kx kr
 | .exit id,fr,st,_,kx,_=>kx id fr st
 | .ret,fr,st,_,_,kr=>kr fr st
def aby(call:sN R)(n:Nat):afY R:=
 Nat.rec (motive:=λ_=>afY R) (λ_ _ _ _ _ _=>z) (λ_ ih=>uZ z call ih) n
def OQ(vs:List AV):Nat->Fr->(Fr->R)->R:=
 List.rec (motive:=λ_=>Nat->Fr->(Fr->R)->R) (λ_ fr k=>k fr)
    (λv _ ih i fr k=>wY (some v) (key i) fr λfr=>ih (i+1) fr k) vs
def Fv(st:St)(fr:Fr)(rs:List OL)(k:AV->R):R:=
 match gQ (λb=>Br b st.heap) fr rs with
 |  some vs=>Yf vs λvs=>match vs with
    |[v]=>k v
    |vs=>k (.tuple vs)
 |none=>z
def MJ (O:eP  )(G:T dN)(m:Nat)(d:Nat):sN R:=
 Nat.rec (motive:=λ_=>sN R) (λ_ _ _ _=>z)
    (fun _ ih f args st k=>match O f with
     |  some s=>match s args st with
        |some (v,st')=>wz v λv=>k v st'
        |none=>z
     |  none=>match Br (key f) G with
        |some F=>match Nat.beq args.length F.nparams with
         |true=>OQ args 0 .e λfr=>aby z ih m F.code fr st
              (λfr st=>Fv z st fr F.results λv=>k v st)
              (λ_ _ _=>z)
              (λfr st=>Fv z st fr F.results λv=>k v st)
         |false=>z
        |none=>z) d
end
end
end Go.Ai
