/- An evaluator over plain values, its compiler and its relation to worlds. -/
import Derived.Orders
import Derived.Below
set_option linter.all false
def H0:=@Option.some.injEq
def Za0:=@List.getElem?_eq_getElem
def Za1:=@decide_eq_true
def Za2:=@Option.bind_some
def Za3:=@decide_eq_false
def Za4:=@List.getElem?_eq_some_iff
def Za5:=@Nat.zero_add
def Za6:=@Nat.le_refl
def Za7:=@Nat.eq_of_beq_eq_true
def Za8:=@List.mem_cons_of_mem
def Za9:=@Nat.le_of_ble_eq_true
def Zb0:=@List.getElem?_cons_zero
def Zb1:=@List.map_cons
def Zb2:=@if_neg
def Zb3:=@List.getElem?_cons_succ
def Zb4:=@List.mem_cons
def Zb5:=@if_pos
def Zb6:=@Bool.and_eq_true
def Zb7:=@Nat.le_trans
def Zb8:=@List.take_succ_eq_append_getElem
def Zb9:=@List.length_map
def Zc0:=@List.getElem_mem
def Zc1:=@List.eq_nil_of_length_eq_zero
def Zc2:=@List.length_cons
def Zc3:=@List.getElem?_map
def Zc4:=@Array.getElem?_eq_some_iff
def Zc5:=@Nat.lt_of_lt_of_le
def Zc6:=@List.getElem?_eq_none
def Zc7:=@Prod.mk.injEq
def Zc8:=@List.not_mem_nil
def Zc9:=@List.length_append
def Zd0:=@List.mem_map
def Zd1:=@decide_eq_true_eq
def Zd2:=@List.drop_eq_getElem_cons
def Zd3:=@Bool.false_eq_true
def Zd4:=@List.append_nil
def Zd5:=@List.map_nil
def Zd6:=@List.getElem?_append_right
def Zd7:=@List.getElem?_take
def Zd8:=@Option.map_some
def Zd9:=@List.getElem?_append_left
def Ze0:=@List.length_take
def Ze1:=@List.mem_cons_self
def Ze2:=@List.map_append
def Ze3:=@List.cons_append
def Ze4:=@List.getD_eq_getElem?_getD
def Ze5:=@Bool.and_self
def Ze6:=@Nat.ne_of_beq_eq_false
def Ze7:=@List.mem_append
def Ze8:=@if_false
def Ze9:=@List.flatten_cons
def Zf0:=@List.mem_iff_getElem
def Zf1:=@List.mem_singleton
def Zf2:=@List.mem_of_getElem?
def Zf3:=@Array.getElem?_eq_getElem
def Zf4:=@List.drop_zero
def Zf5:=@List.getElem?_drop
def Zf6:=@decide_false
def Zf7:=@Bool.true_and
def Zf8:=@Bool.not_true
def Zf9:=@List.length_set
def Zg0:=@List.take_of_length_le
def Zg1:=@Int.lt_irrefl
def Zg2:=@List.getElem?_set_ne
def Zg3:=@List.nil_append
def Zg4:=@List.append_assoc
def Zg5:=@Bool.or_eq_true
def Zg6:=@Nat.add_sub_cancel
def Zg7:=@if_true
def Zg8:=@Bool.and_true
def Zg9:=@or_false
def Zh0:=@Bool.or_false
def Zh1:=@List.cons.injEq
def Zh2:=@Option.some.inj
def Zh3:=@Int.tdiv_eq_ediv_of_nonneg
def Zh4:=@List.drop_append_of_le_length
def Zh5:=@Nat.min_eq_left
def Zh6:=@List.take_length
def Zh7:=@Array.length_toList
def Zh8:=@decide_true
def Zh9:=@Array.getElem?_toList
def Zi0:=@List.map_map
def Zi1:=@of_decide_eq_true
def Zi2:=@decide_eq_false_iff_not
def Zi3:=@Nat.mul_le_mul_right
def Zi4:=@Bool.not_false
def Zi5:=@List.mem_range
def Zi6:=@List.length_nil
def Zi7:=@Option.map_eq_some_iff
def Zi8:=@Nat.le_max_right
def Zi9:=@Nat.succ_mul
def Zj0:=@Nat.add_mul
def Zj1:=@Nat.zero_le
def Zj2:=@Array.getElem?_modify
def Zj3:=@List.all_eq_true
def Zj4:=@List.ext_getElem?
def Zj5:=@List.map_congr_left
def Zj6:=@Nat.le_max_left
def Zj7:=@Array.getElem?_setIfInBounds_ne
def Zj8:=@Option.getD_some
def Zj9:=@Nat.lt_or_ge
def Zk0:=@Nat.add_assoc
def Zk1:=@Bool.not_eq_true'
def Zk2:=@List.mem_filter
def Zk3:=@Nat.sub_self
def Zk4:=@List.length_replicate
def Zk5:=@Classical.byContradiction
def Zk6:=@List.mem_or_eq_of_mem_set
def Zk7:=@Bool.eq_iff_iff
def Zk8:=@Function.comp_def
def Zk9:=@Int.toNat_natCast
def Zl0:=@Nat.add_zero
def Zl1:=@Bool.false_or
def Zl2:=@Nat.mod_eq_of_lt
def Zl3:=@List.mem_iff_getElem?
def Zl4:=@List.set_append_right
def Zl5:=@Array.getD_eq_getD_getElem?
def Zl6:=@List.flatMap_cons
def Zl7:=@Array.ext'
def Zl8:=@List.range_eq_range'
def Zl9:=@Nat.le_of_lt
def Zm0:=@Nat.sub_zero
def Zm1:=@List.getElem_map
def Zm2:=@List.getElem?_range
def Zm3:=@Option.isSome_iff_exists
def Zm4:=@and_true
def Zm5:=@of_decide_eq_false
def Zm6:=@List.set_cons_zero
def Zm7:=@Nat.one_mul
def Zm8:=@List.set_eq_take_append_cons_drop
def Zm9:=@not_false_eq_true
def Zn0:=@List.size_toArray
def Zn1:=@List.drop_drop
def Zn2:=@Nat.zero_mul
def Zn3:=@List.drop_of_length_le
def Zn4:=@List.getElem_cons_succ
def Zn5:=@List.pairwise_lt_range
def Zn6:=@List.getElem_take
def Zn7:=@List.getElem?_set_self
def Zn8:=@List.take_append_drop
def Zn9:=@UInt8.lt_iff_toNat_lt
def Zo0:=@List.length_singleton
def Zo1:=@List.length_filter_le
def Zo2:=@Array.eq_empty_of_size_eq_zero
def Zo3:=@List.any_eq_true
def Zo4:=@List.drop_length
def Zo5:=@Nat.lt_irrefl
def Zo6:=@List.map_take
def Zo7:=@List.all_cons
def Zo8:=@List.any_cons
def Zo9:=@Array.toList_extract
def Zp0:=@Nat.mul_one
def Zp1:=@Int.le_refl
def Zp2:=@List.take_append_of_le_length
def Zp3:=@Bool.or_eq_false_iff
def Zp4:=@Array.getElem?_setIfInBounds
def Zp5:=@List.range_succ
def Zp6:=@Array.getElem?_push
def Zp7:=@List.replicate_succ
def Zp8:=@List.length_pos_iff
def Zp9:=@Array.toList_setIfInBounds
def Zq0:=@List.drop_take
def Zq1:=@Nat.mod_eq_sub_mod
def Zq2:=@Nat.eq_zero_or_pos
def Zq3:=@Array.getElem?_append_left
def Zq4:=@List.pairwise_map
def Zq5:=@Decidable.not_not
def Zq6:=@Option.getD_none
def Zq7:=@List.range'_succ
def Zq8:=@List.mem_flatten
def Zq9:=@Nat.add_comm
def Zr0:=@Bool.or_true
def Zr1:=@UInt8.toNat_inj
def Zr2:=@List.take_left'
def Zr3:=@List.foldl_cons
def Zr4:=@List.map_id
namespace Go.Ai
section
inductive Pos where
 |h
 |o (p:Pos)
 |i (p:Pos)
 deriving DecidableEq,Inhabited
def Pos.toNat:Pos->Nat
 |.h=>1
 |.o p=>2*p.toNat
 |.i p=>2*p.toNat+1
def Pos.succ:Pos->Pos
 |.h=>.o .h
 |.o p=>.i p
 |.i p=>.o p.succ
def Pos.abp:Nat->Nat->Pos
 |0,_=>.h
 |  f+1,n=>match Nat.ble n 1 with
    |true=>.h
    |false=>match Nat.beq (n % 2) 0 with
     |true=>.o (Pos.abp f (n / 2))
     |false=>.i (Pos.abp f (n / 2))
def key(n:Nat):Pos:=Pos.abp (n+1).log2 (n+1)
def Pos.beq:Pos->Pos->Bool
 |.h,.h=>true
 |.o a,.o b=>a.beq b
 |.i a,.i b=>a.beq b
 |_,_=>false
inductive T(α:Type) where
 |e
 |n (l:T α) (v:Option α) (r:T α)
 deriving Inhabited
def T.get{α:Type}:Pos->T α->Option α
 |_,.e=>none
 |.h,.n _ v _=>v
 |.o p,.n l _ _=>l.get p
 |.i p,.n _ _ r=>r.get p
def T.put{α:Type}(x:Option α):Pos->T α->T α
 |.h,.e=>.n .e x .e
 |.h,.n l _ r=>.n l x r
 |.o p,.e=>.n (T.put x p .e) none .e
 |.o p,.n l v r=>.n (T.put x p l) v r
 |.i p,.e=>.n .e none (T.put x p .e)
 |.i p,.n l v r=>.n l v (T.put x p r)
inductive AV where
 |bool (b:Bool)
 |int (k:IntKind) (n:Int)
 |str (s:List Nat)
 |pz
 |ptr (b:Pos) (off:Nat)
 |fp (xs:List (List AV)) (i j:Nat)
 |af
 |slice (b:Pos) (off len:Nat) (cap:Option Nat) (es:Nat)
 |fl (xs:List (List AV)) (es:Nat)
 |sF
 |map (b:Pos)
 |func (f:FuncId) (first captured:List AV)
 |lf
 |AU
 |iface (t:TypeId) (v:AV)
 |agg (l:List AV)
 |tuple (l:List AV)
 deriving Inhabited
inductive AB where
 |cells (cs:List AV) (fz:Nat)
 |map (es:List (AV×AV×Nat)) (clock:Nat)
 deriving Inhabited
def AV.cells:AV->List AV
 |.agg l=>l
 |v=>[v]
def AV.undef:AV:= .tuple []
def AV.one:AV->Bool
 |.agg _=>false
 |.tuple _=>false
 |_=>true
def aV:List AV->Bool
 |[]=>true
 |  v::l=>match v.one with
    |true=>aV l
    |false=>false
inductive eH where
 |val (v:AV)
 |br (v:AV) (del:Option Pos) (set:Option (Pos×AB)) (new:Option AB)
 |call (f:FuncId) (args:List AV)
 deriving Inhabited
def nth{α:Type}:List α->Nat->Option α
 |[],_=>none
 |a::_,0=>some a
 |_::l,n+1=>nth l n
def cut{α:Type}(l:List α)(i n:Nat):Option (List α):=
 match Nat.ble (i+n) l.length with
 |true=>some ((l.drop i).take n)
 |false=>none
def aZ{α:Type}(l:List α)(i:Nat)(vs:List α):List α:=l.take i++(vs++l.drop (i+vs.length))
def kL:List Nat->List Nat->Bool
 |[],[]=>true
 |  a::x,b::y=>match Nat.beq a b with
    |true=>kL x y
    |false=>false
 |_,_=>false
def aL:List Nat->List Nat->Bool
 |_,[]=>false
 |[],_::_=>true
 |  a::x,b::y=>match Nat.blt a b with
    |true=>true
    |false=>match Nat.beq a b with
     |true=>aL x y
     |false=>false
inductive PK where
 |b
 |i
 |s
 deriving Inhabited
inductive fM where
 |num
 |bool
 |ptr
 |slice
 |map
 |func
 |iface
 |struct (fs:List (Nat×PK))
 deriving Inhabited
inductive akm where
 |int (k:IntKind)
 |same
 |ofBytes
 deriving Inhabited
inductive LK where
 |s
 |l
 |m
 deriving Inhabited
inductive aJ where
 |move
 |pick
 |alloc (zero:List AV)
 |box
 |build (zero:List AV) (places:List (Nat×Nat))
 |buildSlice (es len:Nat) (zero:List AV) (places:List Nat)
 |load (n:Option Nat)
 |store (n:Nat)
 |nilCheck
 |bin (op:BinOp) (q:fM)
 |un (op:UnOp)
 |conv (k:akm)
 |mkIface (t:TypeId)
 |mkFunc (f:FuncId) (Rf:Nat)
 |mkMap
 |lookup (pk:PK) (zero:AV) (ok:Bool)
 |mapSet (pk:PK)
 |mkSlice (es bytes:Nat) (zero:List AV)
 |sliceS (lo hi:Bool)
 |sliceL (es:Nat) (lo hi mx:Bool)
 |fieldA (off:Nat)
 |idxA (es:Nat) (arr:Option Nat)
 |field (off:Nat) (n:Option Nat)
 |idxS
 |extract (i:Nat)
 |callF (f:FuncId)
 |callV
 |lenB (k:LK)
 |capB
 |append (es bytes:Nat)
 |copyB (es:Nat)
 |minB
 |maxB
 |clearS (es:Nat) (zero:List AV)
 |bad
 deriving Inhabited
def loI(k:IntKind):Int:=match k with
 |.i8=> -128|.i16=> -32768|.i32=> -2147483648|.i64=> -9223372036854775808|_=>0
def hiI(k:IntKind):Int:=match k with
 |.i8=>127|.i16=>32767|.i32=>2147483647|.i64=>9223372036854775807
 |.u8=>255|.u16=>65535|.u32=>4294967295|.u64=>18446744073709551615
def az(k:IntKind)(n:Int):Int:=
 match Int.decLe (loI k) n with
 |  .isTrue _=>match Int.decLe n (hiI k)with
    |.isTrue _=>n
    |.isFalse _=>k.wrap n
 |.isFalse _=>k.wrap n
def HU(a b:IntKind):Bool:=match decEq a b with
 |.isTrue _=>true
 |.isFalse _=>false
def EL(a b:Int):Bool:=match Int.decEq a b with
 |.isTrue _=>true
 |.isFalse _=>false
def EM(a b:Int):Bool:=match Int.decLt a b with
 |.isTrue _=>true
 |.isFalse _=>false
def abb(a b:Int):Bool:=match Int.decLe a b with
 |.isTrue _=>true
 |.isFalse _=>false
def zG:PK->AV->AV->Option Bool
 |.b,.bool a,.bool b=>some (a==b)
 |  .i,.int k a,.int k' b=>match HU k k' with
    |true=>some (EL a b)
    |false=>none
 |.s,.str a,.str b=>some (kL a b)
 |_,_,_=>none
def eqFields(xs ys:List AV):List (Nat×PK)->Option Bool
 |[]=>some true
 |  (o,pk)::fs=>match nth xs o,nth ys o with
    | some a,some b=>match zG pk a b with
      |some true=>eqFields xs ys fs
      |some false=>some false
      |none=>none
    |_,_=>none
def Le:fM->AV->AV->Option Bool
 |.bool,.bool a,.bool b=>some (a==b)
 |.ptr,.pz,.pz=>some true
 |.ptr,.pz,.ptr _ _=>some false
 |.ptr,.ptr _ _,.pz=>some false
 |.ptr,.pz,.fp _ _ _=>some false
 |.ptr,.fp _ _ _,.pz=>some false
 |  .ptr,.ptr b o,.ptr b' o'=>match Pos.beq b b',Nat.beq o o' with
    |true,true=>some true
    |_,_=>none
 |.slice,.af,.af=>some true
 |.slice,.af,.slice _ _ _ _ _=>some false
 |.slice,.slice _ _ _ _ _,.af=>some false
 |.slice,.af,.fl _ _=>some false
 |.slice,.fl _ _,.af=>some false
 |.map,.sF,.sF=>some true
 |.map,.sF,.map _=>some false
 |.map,.map _,.sF=>some false
 |.func,.lf,.lf=>some true
 |.func,.lf,.func _ _ _=>some false
 |.func,.func _ _ _,.lf=>some false
 |.iface,.AU,.iface _ _=>some false
 |.iface,.iface _ _,.AU=>some false
 |.struct fs,.agg xs,.agg ys=>eqFields xs ys fs
 |_,_,_=>none
def pE (op:BinOp)(q:fM):AV->AV->Option AV
 |  .int k a,.int k' b=>match op with
    | .shl=>match EM b 0 with
      |true=>none
      |false=>some (.int k (az k (a*2 ^ (min b.toNat k.bits))))
    | .shr=>match EM b 0 with
      |true=>none
      |false=>some (.int k (a.fdiv (2 ^ (min b.toNat k.bits))))
    | op=>match HU k k' with
      |false=>none
      | true=>match op with
        |.add=>some (.int k (az k (a+b)))
        |.sub=>some (.int k (az k (a - b)))
        |.mul=>some (.int k (az k (a*b)))
        | .quo=>match EL b 0 with
          |true=>none
          |false=>some (.int k (az k (a.tdiv b)))
        | .rem=>match EL b 0 with
          |true=>none
          |false=>some (.int k (a.tmod b))
        |.and=>some (.int k (k.wrap (BitVec.ofInt k.bits a &&& BitVec.ofInt k.bits b).toNat))
        |.or=>some (.int k (k.wrap (BitVec.ofInt k.bits a ||| BitVec.ofInt k.bits b).toNat))
        |.xor=>some (.int k (k.wrap (BitVec.ofInt k.bits a ^^^ BitVec.ofInt k.bits b).toNat))
        |.andNot=>some (.int k (k.wrap (BitVec.ofInt k.bits a &&& ~~~BitVec.ofInt k.bits b).toNat))
        |.eql=>some (.bool (EL a b))
        |.neq=>some (.bool (!EL a b))
        |.lss=>some (.bool (EM a b))
        |.leq=>some (.bool (abb a b))
        |.gtr=>some (.bool (EM b a))
        |.geq=>some (.bool (abb b a))
        |_=>none
 |  .str a,.str b=>match op with
    | .add=>match Nat.ble (a.length+b.length) 9223372036854775807 with
      |true=>some (.str (a++b))
      |false=>none
    |.eql=>some (.bool (kL a b))
    |.neq=>some (.bool (!kL a b))
    |.lss=>some (.bool (aL a b))
    |.leq=>some (.bool (aL a b||kL a b))
    |.gtr=>some (.bool (!(aL a b||kL a b)))
    |.geq=>some (.bool (!aL a b))
    |_=>none
 |  x,y=>match op with
    | .eql=>match Le q x y with
      |some b=>some (.bool b)
      |none=>none
    | .neq=>match Le q x y with
      |some b=>some (.bool (!b))
      |none=>none
    |_=>none
def unA(op:UnOp):AV->Option AV
 |  .bool b=>match op with
    |.not=>some (.bool (!b))
    |_=>none
 |  .int k n=>match op with
    |.neg=>some (.int k (az k (0 - n)))
    |_=>none
 |_=>none
def cH(cells:List AV):List (Nat×Nat)->List AV->Option (List AV)
 |[],[]=>some cells
 |  (off,size)::ps,v::vs=>
    match Nat.beq v.cells.length size,Nat.ble (off+size) cells.length with
    |true,true=>cH (aZ cells off v.cells) ps vs
    |_,_=>none
 |_,_=>none
def cv{α:Type}(l:List α):Nat->List α
 |0=>[]
 |n+1=>l++cv l n
def zH:AV->Option Nat
 |  .int _ n=>match n with
    |.ofNat m=>some m
    |.negSucc _=>none
 |_=>none
def Rh(n:Nat):AV:= .int .i64 (.ofNat n)
def rows(es:Nat)(cs:List AV):Nat->List (List AV)
 |0=>[]
 |n+1=>cs.take es::rows es (cs.drop es) n
def bounds:(lo hi mx:Bool)->List AV->Option (Option Nat×Option Nat×Option Nat)
 |false,false,false,[]=>some (none,none,none)
 |  true,false,false,[a]=>match zH a with
    |some l=>some (some l,none,none)
    |none=>none
 |  false,true,false,[b]=>match zH b with
    |some h=>some (none,some h,none)
    |none=>none
 |  true,true,false,[a,b]=>match zH a,zH b with
    |some l,some h=>some (some l,some h,none)
    |_,_=>none
 |  false,true,true,[b,c]=>match zH b,zH c with
    |some h,some m=>some (none,some h,some m)
    |_,_=>none
 |  true,true,true,[a,b,c]=>match zH a,zH b,zH c with
    |some l,some h,some m=>some (some l,some h,some m)
    |_,_,_=>none
 |_,_,_,_=>none
def cZ(es n:Nat)(H:Pos->Option AB):AV->Option (List AV)
 |.af=>some []
 |  .slice b off _ _ _=>match Nat.beq (n*es) 0 with
    |true=>some []
    |false=>match H b with
     |some (.cells cs _)=>cut cs off (n*es)
     |_=>none
 |  .fl xs es'=>match Nat.beq es es',Nat.ble n xs.length with
    |true,true=>some (xs.take n).flatten
    |_,_=>none
 |  .str s=>match Nat.beq es 1,Nat.ble n s.length with
    |true,true=>some ((s.take n).map λc=>.int .u8 (.ofNat c))
    |_,_=>none
 |_=>none
def dX:AV->Option Nat
 |.af=>some 0
 |.slice _ _ n _ _=>some n
 |.fl xs _=>some xs.length
 |.str s=>some s.length
 |_=>none
def lJ(pk:PK)(k:AV):List (AV×AV×Nat)->Nat->Option (Option (Nat×AV))
 |[],_=>some none
 |  (k',v,_)::es,i=>match zG pk k k' with
    |some true=>some (some (i,v))
    |some false=>lJ pk k es (i+1)
    |none=>none
def aeX:PK->AV->Bool
 |.b,.bool _=>true
 |.i,.int _ _=>true
 |.s,.str _=>true
 |_,_=>false
def rf(k v:AV):List (AV×AV×Nat)->Nat->List (AV×AV×Nat)
 |[],_=>[]
 |(_,_,born)::es,0=>(k,v,born)::es
 |e::es,i+1=>e::rf k v es i
def bytesOf:List AV->Option (List Nat)
 |[]=>some []
 |  .int .u8 (.ofNat n)::l=>match Nat.blt n 256,bytesOf l with
    |true,some s=>some (n::s)
    |_,_=>none
 |_=>none
def TD(_H:Pos->Option AB)(_next:Pos):List AV->Option eH
 |[x]=>some (.val x)
 |_=>none
def Yt(_H:Pos->Option AB)(_next:Pos):List AV->Option eH
 |  [c,a,b]=>match c with
    |.bool true=>some (.val a)
    |.bool false=>some (.val b)
    |_=>none
 |_=>none
def NO(_H:Pos->Option AB)(next:Pos)(zero:List AV):List AV->Option eH
 |[]=>some (.br (.ptr next 0) none none (some (.cells zero 0)))
 |_=>none
def WD(_H:Pos->Option AB)(next:Pos):List AV->Option eH
 |[x]=>some (.br (.ptr next 0) none none (some (.cells x.cells 0)))
 |_=>none
def NP(_H:Pos->Option AB)(_next:Pos)(zero:List AV)(places:List (Nat×Nat)):List AV->Option eH
 |  xs=>match cH zero places xs with
    |some cs=>some (.val (.agg cs))
    |none=>none
def vr(_H:Pos->Option AB)(next:Pos)(es len:Nat)(zero:List AV)(places:List Nat):List AV->Option eH
 |  xs=>match cH (cv zero len) (places.map λi=>(i*es,es)) xs with
    |some cs=>some (.br (.slice next 0 len (some len) es) none none (some (.cells cs 0)))
    |none=>none
def yX (H :Pos->Option AB)(_next:Pos)(n:Option Nat):List AV->Option eH
 |  [p] =>match p with
    | .ptr b off=>match H b with
      | some (.cells cs _)=>match n with
        | none=>match nth cs off with
          |some v=>some (.val v)
          |none=>none
        | some n=>match cut cs off n with
          |some vs=>some (.val (.agg vs))
          |none=>none
      |_=>none
    | .fp xs i j=>match nth xs i with
      | some cs=>match n with
        | none=>match nth cs j with
          |some v=>some (.val v)
          |none=>none
        | some n=>match cut cs j n with
          |some vs=>some (.val (.agg vs))
          |none=>none
      |none=>none
    |_=>none
 |_=>none
def HV (H:Pos->Option AB)(_next:Pos)(n:Nat):List AV->Option eH
 |  [p, v]=>match p with
    | .ptr b off=>match H b with
      | some (.cells cs fz)=>
        match Nat.beq v.cells.length n,Nat.ble (off+n) cs.length,Nat.ble fz off,aV v.cells with
        |true,true,true,true=>some (.br .undef none (some (b,.cells (aZ cs off v.cells) fz)) none)
        |_,_,_,_=>none
      |_=>none
    |_=>none
 |_=>none
def Lf(_H:Pos->Option AB)(_next:Pos):List AV->Option eH
 |  [x]=>match x with
    |.ptr _ _=>some (.val x)
    |.fp _ _ _=>some (.val x)
    |.func _ _ _=>some (.val x)
    |_=>none
 |_=>none
def jg(_H:Pos->Option AB)(_next:Pos)(op:BinOp)(q:fM):List AV->Option eH
 |  [x,y]=>match pE op q x y with
    |some v=>some (.val v)
    |none=>none
 |_=>none
def aeY(_H:Pos->Option AB)(_next:Pos)(op:UnOp):List AV->Option eH
 |  [x]=>match unA op x with
    |some v=>some (.val v)
    |none=>none
 |_=>none
def Hz (H:Pos->Option AB)(_next:Pos)(k:akm):List AV->Option eH
 |  [x] =>match k,x with
    |.int k,.int _ n=>some (.val (.int k (az k n)))
    |.same,.str s=>some (.val (.str s))
    |.ofBytes,.af=>some (.val (.str []))
    | .ofBytes,.slice b off n _ _=>match Nat.beq n 0 with
      |true=>some (.val (.str []))
      | false=>match H b with
        |some (.cells cs _)=>match cut cs off n with
         |some l=>match bytesOf l with
          |some s=>some (.val (.str s))
          |none=>none
         |none=>none
        |_=>none
    |_,_=>none
 |_=>none
def NQ(_H:Pos->Option AB)(_next:Pos)(t:TypeId):List AV->Option eH
 |[x]=>some (.val (.iface t x))
 |_=>none
def JZ(_H:Pos->Option AB)(_next:Pos)(f:FuncId)(Rf:Nat):List AV->Option eH
 |xs=>some (.val (.func f (xs.take Rf) (xs.drop Rf)))
def NR(_H:Pos->Option AB)(next:Pos):List AV->Option eH
 |_=>some (.br (.map next) none none (some (.map [] 0)))
def Bi (H:Pos->Option AB)(_next:Pos)(pk:PK)(zero:AV)(ok:Bool):List AV->Option eH
 |  [m, k]=>
    match (match m with
      | .sF=>match aeX pk k with
        |true=>some none
        |false=>none
      | .map b=>match H b with
        |some (.map es _)=>lJ pk k es 0
        |_=>none
      |_=>none)with
    |some (some (_,v))=>some (.val (match ok with|true=>.tuple [v,.bool true]|false=>v))
    |some none=>some (.val (match ok with|true=>.tuple [zero,.bool false]|false=>zero))
    |none=>none
 |_=>none
def Bj (H:Pos->Option AB)(_next:Pos)(pk:PK):List AV->Option eH
 |  [m, k,v]=>match m with
    | .map b=>match H b with
      | some (.map es clock)=>match aeX pk k,lJ pk k es 0 with
        |true,some (some (i,_))=>some (.br .undef none (some (b,.map (rf k v es i) clock)) none)
        |true,some none=>some (.br .undef none (some (b,.map (es++[(k,v,clock)]) (clock+1))) none)
        |_,_=>none
      |_=>none
    |_=>none
 |_=>none
def Cl(_H:Pos->Option AB)(next:Pos)(es bytes:Nat)(zero:List AV):List AV->Option eH
 |  [l,c]=>match zH l,zH c with
    | some l,some c=>match Nat.ble l c,Nat.ble (bytes*c) 281474976710656,Nat.ble c 9223372036854775807 with
      |true,true,true=>some (.br (.slice next 0 l (some c) es) none none (some (.cells (cv zero c) 0)))
      |_,_,_=>none
    |_,_=>none
 |_=>none
def Ri(_H:Pos->Option AB)(_next:Pos)(lo hi:Bool):List AV->Option eH
 |  x ::bs=>match x,bounds lo hi false bs with
    | .str s,some (l,h,_)=>
      let h:=h.getD s.length
      let l:=l.getD 0
      match Nat.ble l h,Nat.ble h s.length with
      |true,true=>some (.val (.str ((s.take h).drop l)))
      |_,_=>none
    |_,_=>none
 |_=>none
def qI (_H:Pos->Option AB)(_next:Pos)(es:Nat)(lo hi mx:Bool):List AV->Option eH
 |  x ::bs=>match x,bounds lo hi mx bs with
    | .slice b off len cap es',some (l,h,m)=>
      match Nat.beq es es',Nat.ble (l.getD 0) (h.getD len)with
      | true,true=>match cap,m with
        | some c,some m=>match Nat.ble (h.getD len) m,Nat.ble m c with
          |true,true=>some (.val (.slice b (off+l.getD 0*es) (h.getD len - l.getD 0) (some (m - l.getD 0)) es))
          |_,_=>none
        | some c,none=>match Nat.ble (h.getD len) c with
          |true=>some (.val (.slice b (off+l.getD 0*es) (h.getD len - l.getD 0) (some (c - l.getD 0)) es))
          |false=>none
        | none,some m=>match Nat.ble (h.getD len) m,Nat.ble m len with
          |true,true=>some (.val (.slice b (off+l.getD 0*es) (h.getD len - l.getD 0) (some (m - l.getD 0)) es))
          |_,_=>none
        | none,none=>match Nat.ble (h.getD len) len with
          |true=>some (.val (.slice b (off+l.getD 0*es) (h.getD len - l.getD 0) none es))
          |false=>none
      |_,_=>none
    | .fl xs es',some (l,h,m)=>
      match Nat.beq es es' with
      | true=>match m with
        | some m=>match Nat.beq (l.getD 0) 0,Nat.beq (h.getD xs.length) 0,Nat.beq m 0 with
          |true,true,true=>some (.val (.slice .h 0 0 (some 0) es))
          |_,_,_=>none
        | none=>match Nat.ble (l.getD 0) (h.getD xs.length),Nat.ble (h.getD xs.length) xs.length with
          |true,true=>some (.val (.fl ((xs.take (h.getD xs.length)).drop (l.getD 0)) es))
          |_,_=>none
      |false=>none
    | .af,some (l,h,m)=>match Nat.beq (l.getD 0) 0,Nat.beq (h.getD 0) 0,Nat.beq (m.getD 0) 0 with
        |true,true,true=>some (.val .af)
        |_,_,_=>none
    |_,_=>none
 |_=>none
def Rj(_H:Pos->Option AB)(_next:Pos)(off:Nat):List AV->Option eH
 |  [x]=>match x with
    |.ptr b o=>some (.val (.ptr b (o+off)))
    |.fp xs i j=>some (.val (.fp xs i (j+off)))
    |_=>none
 |_=>none
def qC (_H:Pos->Option AB)(_next:Pos)(es:Nat)(arr:Option Nat):List AV->Option eH
 |  [x, i]=>match zH i with
    | some i=>match arr,x with
      | none,.slice b off len _ _=>match Nat.blt i len with
        |true=>some (.val (.ptr b (off+i*es)))
        |false=>none
      | none,.fl xs es'=>match Nat.blt i xs.length,Nat.beq es es' with
        |true,true=>some (.val (.fp xs i 0))
        |_,_=>none
      | some n,.ptr b off=>match Nat.blt i n with
        |true=>some (.val (.ptr b (off+i*es)))
        |false=>none
      |_,_=>none
    |none=>none
 |_=>none
def VE (_H:Pos->Option AB)(_next:Pos)(off:Nat)(n:Option Nat):List AV->Option eH
 |  [x] =>match x with
    | .agg cs=>match n with
      | none=>match nth cs off with
        |some v=>some (.val v)
        |none=>none
      |some n=>some (.val (.agg ((cs.drop off).take n)))
    |_=>none
 |_=>none
def TE(_H:Pos->Option AB)(_next:Pos):List AV->Option eH
 |  [x,i]=>match x,zH i with
    | .str s,some i=>match nth s i with
      |some c=>some (.val (.int .u8 (.ofNat c)))
      |none=>none
    |_,_=>none
 |_=>none
def G4(_H:Pos->Option AB)(_next:Pos)(i:Nat):List AV->Option eH
 |  [x]=>match x with
    | .tuple vs=>match nth vs i with
      |some v=>some (.val v)
      |none=>none
    |_=>none
 |_=>none
def VF(_H:Pos->Option AB)(_next:Pos)(f:FuncId):List AV->Option eH
 |xs=>some (.call f xs)
def VG(_H:Pos->Option AB)(_next:Pos):List AV->Option eH
 |  x::xs=>match x with
    |.func f first captured=>some (.call f (first++(xs++captured)))
    |_=>none
 |_=>none
def Mj(H:Pos->Option AB)(_next:Pos)(k:LK):List AV->Option eH
 |  [x]=>match k,x with
    |.m,.sF=>some (.val (Rh 0))
    | .m,.map b=>match H b with
      |some (.map es _)=>some (.val (Rh es.length))
      |_=>none
    |.s,.str s=>some (.val (Rh s.length))
    |.l,.af=>some (.val (Rh 0))
    |.l,.slice _ _ n _ _=>some (.val (Rh n))
    |.l,.fl xs _=>some (.val (Rh xs.length))
    |_,_=>none
 |_=>none
def gR (H:  Pos->Option AB)(next:Pos)(es bytes:Nat):List AV->Option eH
 |  [s, x]=> match dX s,dX x with
    | some n,some m=>
      match Nat.ble ((2*(n+m)+768)*bytes) 281474976710656,Nat.ble (n+m) 9223372036854775807 with
      | true,true=>match Nat.beq m 0,s with
        |true,.slice b off n c es'=>some (.val (.slice b off n c es'))
        |true,.fl xs es'=>some (.val (.fl xs es'))
        |true,.af=>some (.val .af)
        |false,.af=>match cZ es m H x with
         |some new=>some (.br (.slice next 0 m none es) none none (some (.cells new 0)))
         |none=>none
        |false,.slice b off n (some c) es'=>
         match Nat.ble (n+m) c with
         |  true=>match H b,cZ es m H x with
            |some (.cells cs fz),some new=>match Nat.ble (off+(n+m)*es) cs.length,Nat.ble fz (off+n*es)&&Nat.beq es es',aV new with
             |true,true,true=>some (.br (.slice b off (n+m) (some c) es) none (some (b,.cells (aZ cs (off+n*es) new) fz)) none)
             |_,_,_=>none
            |_,_=>none
         |  false=>match cZ es n H s,cZ es m H x with
            |some iA,some new=>some (.br (.slice next 0 (n+m) none es) none none (some (.cells (iA++new) 0)))
            |_,_=>none
        |false,.slice b off n none es'=>
         match H b,cZ es n H s,cZ es m H x with
         |  some (.cells _ fz),some iA,some new=>match Nat.ble fz (off+n*es)&&Nat.beq es es',aV new with
            |true,true=>some (.br (.slice next 0 (n+m) none es) (some b) none (some (.cells (iA++new) (fz - off))))
            |_,_=>none
         |_,_,_=>none
        |_,_=>none
      |_,_=>none
    |_,_=>none
 |_=>none
def Ef (H : Pos->Option AB)(_next:Pos)(es:Nat):List AV->Option eH
 |  [d, x]=>match dX d,dX x with
    | some n,some m=>
      let k:=min m n
      match Nat.beq k 0 with
      | true=>match d with
        |.str _=>none
        |_=>some (.val (Rh 0))
      | false=>match d with
        | .slice b off _ _ _=>match H b,cZ es k H x with
          | some (.cells cs fz),some new=>match Nat.ble (off+k*es) cs.length,Nat.ble fz off,aV new with
            |true,true,true=>some (.br (Rh k) none (some (b,.cells (aZ cs off new) fz)) none)
            |_,_,_=>none
          |_,_=>none
        |_=>none
    |_,_=>none
 |_=>none
def HA(_H:Pos->Option AB)(_next:Pos):List AV->Option eH
 |  [x,y]=>match x,y with
    |.int k a,.int _ b=>some (.val (.int k (match EM b a with|true=>b|false=>a)))
    |.str a,.str b=>some (.val (.str (match aL a b||kL a b with|true=>a|false=>b)))
    |_,_=>none
 |_=>none
def HC(_H:Pos->Option AB)(_next:Pos):List AV->Option eH
 |  [x,y]=>match x,y with
    |.int k a,.int _ b=>some (.val (.int k (match EM a b with|true=>b|false=>a)))
    |.str a,.str b=>some (.val (.str (match aL a b with|true=>b|false=>a)))
    |_,_=>none
 |_=>none
def Bk (H:Pos->Option AB)(_next:Pos)(es:Nat)(zero:List AV):List AV->Option eH
 |  [x] =>match x with
    |.af=>some (.val .undef)
    | .slice b off n _ _=>match Nat.beq n 0 with
      |true=>some (.val .undef)
      | false=>match H b with
        |some (.cells cs fz)=>match Nat.ble (off+n*es) cs.length,Nat.ble fz off,aV (cv zero n)with
         |true,true,true=>some (.br .undef none (some (b,.cells (aZ cs off (cv zero n)) fz)) none)
         |_,_,_=>none
        |_=>none
    |_=>none
 |_=>none
def aJ.run(H:Pos->Option AB)(next:Pos):aJ->List AV->Option eH
 |.move=>TD H next
 |.pick=>Yt H next
 |.alloc zero=>NO H next zero
 |.box=>WD H next
 |.build zero places=>NP H next zero places
 |.buildSlice es len zero places=>vr H next es len zero places
 |.load n=>yX H next n
 |.store n=>HV H next n
 |.nilCheck=>Lf H next
 |.bin op q=>jg H next op q
 |.un op=>aeY H next op
 |.conv k=>Hz H next k
 |.mkIface t=>NQ H next t
 |.mkFunc f Rf=>JZ H next f Rf
 |.mkMap=>NR H next
 |.lookup pk zero ok=>Bi H next pk zero ok
 |.mapSet pk=>Bj H next pk
 |.mkSlice es bytes zero=>Cl H next es bytes zero
 |.sliceS lo hi=>Ri H next lo hi
 |.sliceL es lo hi mx=>qI H next es lo hi mx
 |.fieldA off=>Rj H next off
 |.idxA es arr=>qC H next es arr
 |.field off n=>VE H next off n
 |.idxS=>TE H next
 |.extract i=>G4 H next i
 |.callF f=>VF H next f
 |.callV=>VG H next
 |.lenB k=>Mj H next k
 |.append es bytes=>gR H next es bytes
 |.copyB es=>Ef H next es
 |.minB=>HA H next
 |.maxB=>HC H next
 |.clearS es zero=>Bk H next es zero
 |.capB=>λ_=>none
 |.bad=>λ_=>none
inductive gO where
 |t (p:Pos)
 |c (v:AV)
 deriving Inhabited
inductive Cls where
 |pure
 |read
 |new
 |br
 deriving Inhabited
structure bR where
 dst:Option Pos
 k:aJ
 xs:List gO
 guard:Option (Pos×Bool)
 cls:Cls
 bZ:Nat
 deriving Inhabited
inductive AC where
 |skip
 |region (ops:List bR)
 |draw (ops:List (Nat×bR))
 |seq (a b:AC)
 |cond (x:gO) (a b:AC)
 |block (id:Nat) (a:AC)
 |loop (a:AC)
 |exit (id:Nat)
 |ret
 deriving Inhabited
inductive Ml where
 |tmp (p:Pos)
 |cell (p:Pos) (n:Option Nat)
 deriving Inhabited
structure dF where
 code:AC
 nparams:Nat
 results:List Ml
 deriving Inhabited
abbrev Fr:=T AV
structure St where
 heap:T AB
 next:Pos
 deriving Inhabited
inductive mY where
 |normal
 |exit (id:Nat)
 |ret
 deriving Inhabited
def ET(fr:Fr):gO->Option AV
 |.t p=>fr.get p
 |.c v=>some v
def fE(fr:Fr):List gO->Option (List AV)
 |[]=>some []
 |  x::xs=>match ET fr x with
    |some v=>match fE fr xs with
     |some vs=>some (v::vs)
     |none=>none
    |none=>none
def cw(fr:Fr):Option (Pos×Bool)->Option Bool
 |none=>some true
 |  some (p,want)=>match fr.get p with
    |some (.bool b)=>some (b==want)
    |some (.tuple _)=>some false
    |_=>none
def dZ(fr:Fr)(d:Option Pos)(v:AV):Fr:=match d with
 |some p=>fr.put (some v) p
 |none=>fr
def Lg(o:Option (Pos×AB))(h:T AB):T AB:=match o with
 |some (b,x)=>h.put (some x) b
 |none=>h
def HW(o:Option Pos)(h:T AB):T AB:=match o with
 |some b=>h.put none b
 |none=>h
def St.br(st:St)(del:Option Pos)(set:Option (Pos×AB))(new:Option AB):St:=
 match new with
 |some x=>{ heap:=T.put (some x) st.next (Lg set (HW del st.heap)),next:=st.next.succ }
 |none=>{ heap:=Lg set (HW del st.heap),next:=st.next }
abbrev aq:=FuncId->List AV->St->Option (AV×St)
def cJ(call:aq)(k:aJ)(xs:List AV)(st:St):Option (AV×St):=
 match k.run (λb=>st.heap.get b) st.next xs with
 |some (.val v)=>some (v,st)
 |some (.br v del set new)=>some (v,st.br del set new)
 |some (.call f args)=>call f args st
 |none=>none
def lK (call:aq):List bR->Fr->St->Option (Fr×St)
 |[],fr,st=>some (fr,st)
 |  o::os,fr,st=>match cw fr o.guard with
    |some true=>match fE fr o.xs with
     |  some xs=>match cJ call o.k xs st with
        |some (v,st')=>lK call os (dZ fr o.dst v) st'
        |none=>none
     |none=>none
    |some false=>lK call os (dZ fr o.dst .undef) st
    |none=>none
def gq:AV->AV->Bool
 |.bool a,.bool b=>a==b
 |.int k a,.int k' b=>HU k k'&&EL a b
 |.str a,.str b=>kL a b
 |.pz,.pz=>true
 |.ptr b o,.ptr b' o'=>Pos.beq b b'&&Nat.beq o o'
 |.af,.af=>true
 |.slice b o l none es,.slice b' o' l' none es'=>Pos.beq b b'&&Nat.beq o o'&&Nat.beq l l'&&Nat.beq es es'
 |.slice b o l (some c) es,.slice b' o' l' (some c') es'=>Pos.beq b b'&&Nat.beq o o'&&Nat.beq l l'&&Nat.beq c c'&&Nat.beq es es'
 |.sF,.sF=>true
 |.map b,.map b'=>Pos.beq b b'
 |.lf,.lf=>true
 | .AU,.AU=>true
 |_,_=>false
def AW:List AV->List AV->Bool
 |[],[]=>true
 |a::x,b::y=>gq a b&&AW x y
 |_,_=>false
def J0(f:AV->AV->Bool):List AV->List AV->Bool
 |[],[]=>true
 |a::x,b::y=>f a b&&J0 f x y
 |_,_=>false
def Bl(f:AV->AV->Bool):List (List AV)->List (List AV)->Bool
 |[],[]=>true
 |a::x,b::y=>J0 f a b&&Bl f x y
 |_,_=>false
def J5:Nat->AV->AV->Bool
 |d+1,.fl a n,.fl a' n'=>Bl (J5 d) a a'&&Nat.beq n n'
 |_,a,b=>gq a b
def nG:AV->AV->Bool
 |.func f a b,.func f' a' b'=>Nat.beq f f'&&AW a a'&&AW b b'
 |.fl a n,.fl a' n'=>J5 3 (.fl a n) (.fl a' n')
 |a,b=>gq a b
def pF:List AV->List AV->Bool
 |[],[]=>true
 |a::x,b::y=>nG a b&&pF x y
 |_,_=>false
def dO:AV->AV->Bool
 |.agg l,.agg l'=>pF l l'
 |.tuple l,.tuple l'=>pF l l'
 |a,b=>nG a b
inductive RC where
 |pure
 |new (id:Pos) (aQ:AB)
 |br (base:T AB) (h:T AB)
 deriving Inhabited
structure Rec where
 idx:Nat
 o:bR
 v:AV
 c:RC
 nx:Pos
 deriving Inhabited
def snap(bZ:Nat)(h:T AB):List Rec->T AB
 |[]=>h
 |  r ::rs=>match r.c with
    | .new id aQ=>match bZ.testBit r.idx with
      |true=>(snap bZ h rs).put (some aQ) id
      |false=>snap bZ h rs
    |.br _ _=>h
    |.pure=>snap bZ h rs
def jU:List (Pos×AB)->T AB->T AB
 |[],h=>h
 |(id,aQ)::l,h=>(jU l h).put (some aQ) id
def jA(k:aJ)(xs:List AV)(v:AV)(h:T AB):Bool:=
 match k.run (λb=>h.get b) .h xs with
 |some (.val u)=>dO u v
 |_=>false
def mL(bZ:Nat)(k:aJ)(xs:List AV)(v:AV):List (Pos×AB)->List Rec->Bool
 |_,[]=>true
 |  up,r::rs=>match r.c with
    | .new id aQ=>match bZ.testBit r.idx with
      |true=>mL bZ k xs v ((id,aQ)::up) rs
      |false=>mL bZ k xs v up rs
    | .br base _=>match bZ.testBit r.idx with
      |true=>true
      |false=>jA k xs v (jU up (snap bZ base rs))&&mL bZ k xs v up rs
    |.pure=>mL bZ k xs v up rs
def dV (call:aq):List (Nat×bR)->List Rec->T AB->Fr->St->Option (Fr×St)
 |[],_,_,fr,st=>some (fr,st)
 |  (j, o)::os,recs,base,fr,st=>match cw fr o.guard with
    |some false=>dV call os ({ idx:=j,o:=o,v:= .undef,c:= .pure,nx:=st.next }::recs) base (dZ fr o.dst .undef) st
    | some true=>match fE fr o.xs with
      |none=>none
      | some xs=>match o.cls with
        | .new=>match o.k.run (λ_=>none) st.next xs with
          |some (.br v none none (some aQ))=>
           dV call os ({ idx:=j,o:=o,v:=v,c:= .new st.next aQ,nx:=st.next.succ }::recs) base (dZ fr o.dst v) { heap:=st.heap.put (some aQ) st.next,next:=st.next.succ }
          |_=>none
        | .br=>match cJ call o.k xs st with
          |some (v,st')=>dV call os ({ idx:=j,o:=o,v:=v,c:= .br base st'.heap,nx:=st'.next }::recs) st'.heap (dZ fr o.dst v) st'
          |none=>none
        | _=>match o.k.run (λ_=>none) .h xs with
          |some (.val v)=>dV call os ({ idx:=j,o:=o,v:=v,c:= .pure,nx:=st.next }::recs) base (dZ fr o.dst v) st
          |_=>match o.k.run (λb=>(snap o.bZ base recs).get b) .h xs with
           |some (.val v)=>match mL o.bZ o.k xs v [] recs with
            |true=>dV call os ({ idx:=j,o:=o,v:=v,c:= .pure,nx:=st.next }::recs) base (dZ fr o.dst v) st
            |false=>none
           |_=>none
    |none=>none
def bF(call:aq)(ih:AC->Fr->St->Option (mY×Fr×St)):AC->Fr->St->Option (mY×Fr×St)
 |.skip,fr,st=>some (.normal,fr,st)
 |  .region ops,fr,st=>match lK call ops fr st with
    |some (fr,st)=>some (.normal,fr,st)
    |none=>none
 |  .draw ops,fr,st=>match dV call ops [] st.heap fr st with
    |some (fr,st)=>some (.normal,fr,st)
    |none=>none
 |  .seq a b,fr,st=>match ih a fr st with
    |some (.normal,fr,st)=>ih b fr st
    |r=>r
 |  .cond x a b,fr,st=>match ET fr x with
    |some (.bool true)=>ih a fr st
    |some (.bool false)=>ih b fr st
    |_=>none
 |  .block id a,fr,st=>match ih a fr st with
    |some (.exit wL,fr,st)=>match Nat.beq wL id with
     |true=>some (.normal,fr,st)
     |false=>some (.exit wL,fr,st)
    |r=>r
 |  .loop a,fr,st=>match ih a fr st with
    |some (.normal,fr,st)=>ih (.loop a) fr st
    |r=>r
 |.exit id,fr,st=>some (.exit id,fr,st)
 |.ret,fr,st=>some (.ret,fr,st)
def exec(call:aq):Nat->AC->Fr->St->Option (mY×Fr×St)
 |0=>λ_ _ _=>none
 |n+1=>bF call (exec call n)
def params:Nat->List AV->Fr->Fr
 |_,[],fr=>fr
 |i,v::vs,fr=>params (i+1) vs (fr.put (some v) (key i))
def gw (H:Pos->Option AB)(fr:Fr):List Ml->Option (List AV)
 |[]=>some []
 |  .tmp p::rs=>match fr.get p with
    |some v=>match gw H fr rs with
     |some vs=>some (v::vs)
     |none=>none
    |none=>none
 |  .cell p n::rs=>match fr.get p with
    |some q=>match (aJ.load n).run H .h [q]with
     |  some (.val v)=>match gw H fr rs with
        |some vs=>some (v::vs)
        |none=>none
     |_=>none
    |none=>none
def yY:List AV->AV
 |[v]=>v
 |vs=>.tuple vs
abbrev eE:=FuncId->Option (List AV->St->Option (AV×St))
def sr (O:eE)(G:T dF)(m:Nat):Nat->aq
 |0=>λ_ _ _=>none
 |  d+  1=>λf args st=>match O f with
    |some s=>s args st
    |none=>match G.get (key f)with
     |  some F=>match Nat.beq args.length F.nparams with
        |true=>match exec (sr O G m d) m F.code (params 0 args .e) st with
         |some (.normal,fr,st')=>match gw (λb=>st'.heap.get b) fr F.results with
          |some vs=>some (yY vs,st')
          |none=>none
         |some (.ret,fr,st')=>match gw (λb=>st'.heap.get b) fr F.results with
          |some vs=>some (yY vs,st')
          |none=>none
         |_=>none
        |false=>none
     |none=>none
inductive TK where
 |bool
 |int (k:IntKind)
 |string
 |ptr (elem:Nat)
 |slice (elem:Nat)
 |array (n elem:Nat)
 |map (k e:Nat)
 |struct (fs:List (Nat×Nat×Bool))
 |func
 |iface
 |upt
 |other
 deriving Inhabited
structure TI where
 k:TK
 size:Nat
 bytes:Nat
 zero:Option (List AV)
 AO:Bool:=false
 deriving Inhabited
def NS:Value->Option AV
 |.bool b=>some (.bool b)
 |.int k n=>some (.int k n)
 |.string s=>some (.str (s.data.toList.map UInt8.toNat))
 |.pointer none=>some .pz
 |.slice none 0 0=>some .af
 |.map none=>some .sF
 |.func (.func f) ⟨[]⟩ ⟨[]⟩=>some (.func f [] [])
 |.nilFunc=>some .lf
 |.nilIface=>some .AU
 |_=>none
def qJ:List Value->Option (List AV)
 |[]=>some []
 |  v::vs=>match NS v,qJ vs with
    |some a,some as=>some (a::as)
    |_,_=>none
def Yu:Value->Option AV
 |  .agg cs=>match qJ cs.toList with
    |some l=>some (.agg l)
    |none=>none
 |v=>NS v
def sG:Operand->Option gO
 |.tmp t=>some (.t (key t))
 |  .const v=>match Yu v with
    |some a=>some (.c a)
    |none=>none
 |.func f=>some (.c (.func f [] []))
 |.global _=>none
def lM:List Operand->Option (List gO)
 |[]=>some []
 |  x::xs=>match sG x,lM xs with
    |some a,some as=>some (a::as)
    |_,_=>none
def TK.isAgg:TK->Bool
 |.struct _=>true
 |.array _ _=>true
 |_=>false
abbrev TT:=T TI
def Cn(tt:TT)(t:Nat):Option fM:=match tt.get (key t)with
 |  some ti=>match ti.k with
    |.bool=>some .bool
    |.int _=>some .num
    |.string=>some .num
    |.ptr _=>some .ptr
    |.slice _=>some .slice
    |.map _ _=>some .map
    |.func=>some .func
    |.iface=>some .iface
    | .struct fs=>match ti.AO,fields fs with
      |true,some l=>some (.struct l)
      |_,_=>none
    |_=>none
 |none=>none
where
 fields:List (Nat×Nat×Bool)->Option (List (Nat×PK))
  |[]=>some []
  |(off,t,named)::fs=>match named,tt.get (key t),fields fs with
   |true,some ti,some l=>match ti.k with
    |.bool=>some ((off,.b)::l)
    |.int _=>some ((off,.i)::l)
    |.string=>some ((off,.s)::l)
    |_=>none
   |_,_,_=>none
def Co(ti:TI):Option Nat:=match ti.k.isAgg with
 |true=>some ti.size
 |false=>none
def Cp:Option Operand->List Operand
 |some x=>[x]
 |none=>[]
def jV (tt:TT):Op->Option (aJ×List gO×Cls)
 |  .move x=>match sG x with
    |some a=>some (.move,[a],.pure)
    |none=>none
 |  .assign x=>match sG x with
    |some a=>some (.move,[a],.pure)
    |none=>none
 |  .pick c a b=>match lM [c,a,b]with
    |some l=>some (.pick,l,.pure)
    |none=>none
 |  .alloc t=>match tt.get (key t)with
    |some ti=>match ti.zero with
     |some z=>some (.alloc z,[],.new)
     |none=>none
    |none=>none
 |  .box _ x=>match sG x with
    |some a=>some (.box,[a],.new)
    |none=>none
 |  .build t ps=>match tt.get (key t),lM (ps.toList.map (·.2))with
    |some ti,some l=>match ti.k,ti.zero with
     |  .struct fs,some z=>match places tt fs (ps.toList.map (·.1)),abc tt fs with
        |some p,true=>some (.build z p,l,.pure)
        |_,_=>none
     |  .array _ e,some z=>match tt.get (key e)with
        |some te=>some (.build z (ps.toList.map λx=>(x.1*te.size,te.size)),l,.pure)
        |none=>none
     |_,_=>none
    |_,_=>none
 |  .buildSlice t len ps=>match tt.get (key t),lM (ps.toList.map (·.2))with
    |some ti,some l=>match ti.k with
     |  .slice e=>match tt.get (key e)with
        | some te=>match te.zero,Nat.ble (len*te.size) 16777216 with
          |some z,true=>some (.buildSlice te.size len z (ps.toList.map (·.1)),l,.new)
          |_,_=>none
        |none=>none
     |_=>none
    |_,_=>none
 |  .load t a=>match tt.get (key t),sG a with
    |some ti,some a=>some (.load (Co ti),[a],.read)
    |_,_=>none
 |  .store t a x=>match tt.get (key t),lM [a,x]with
    |some ti,some l=>some (.store ti.size,l,.br)
    |_,_=>none
 |  .nilCheck x=>match sG x with
    |some a=>some (.nilCheck,[a],.pure)
    |none=>none
 |  .binOp op t x y _=>match Cn tt t,lM [x,y]with
    |some q,some l=>some (.bin op q,l,.pure)
    |none,some l=>match op with
     |.eql=>none
     |.neq=>none
     |_=>some (.bin op .num,l,.pure)
    |_,_=>none
 |  .unOp op _ x=>match sG x with
    |some a=>some (.un op,[a],.pure)
    |none=>none
 |  .convert src dst x=>match tt.get (key src),tt.get (key dst),sG x with
    |some s,some d,some a=>match s.k,d.k with
     |.int _,.int k=>some (.conv (.int k),[a],.pure)
     |.string,.string=>some (.conv .same,[a],.pure)
     |  .slice e,.string=>match tt.get (key e)with
        | some te=>match te.k with
          |.int .u8=>some (.conv .ofBytes,[a],.read)
          |_=>none
        |none=>none
     |_,_=>none
    |_,_,_=>none
 |  .makeInterface t x=>match tt.get (key t),sG x with
    |some ti,some a=>match ti.k with
     |.iface=>none
     |.other=>none
     |_=>some (.mkIface t,[a],.pure)
    |_,_=>none
 |  .makeFunc fn first captured=>match fn,lM (first.toList++captured.toList)with
    |.func f,some l=>some (.mkFunc f first.size,l,.pure)
    |_,_=>none
 |  .makeMap t r=>match tt.get (key t)with
    |some ti=>match ti.k,r with
     |.map _ _,none=>some (.mkMap,[],.new)
     |.map _ _,some (.const (.int _ _))=>some (.mkMap,[],.new)
     |_,_=>none
    |none=>none
 |  .makeSlice t l c=>match tt.get (key t),lM [l,c]with
    |some ti,some xs=>match ti.k with
     |  .slice e=>match tt.get (key e)with
        | some te=>match te.zero with
          |some z=>some (.mkSlice te.size te.bytes z,xs,.new)
          |none=>none
        |none=>none
     |_=>none
    |_,_=>none
 |  .slice t x lo hi mx=>match tt.get (key t),lM ([x]++Cp lo++Cp hi++Cp mx)with
    |some ti,some xs=>match ti.k with
     |  .string=>match mx with
        |none=>some (.sliceS lo.isSome hi.isSome,xs,.pure)
        |some _=>none
     |  .slice e=>match tt.get (key e)with
        |some te=>some (.sliceL te.size lo.isSome hi.isSome mx.isSome,xs,.pure)
        |none=>none
     |_=>none
    |_,_=>none
 |  .fieldAddr t x f=>match tt.get (key t),sG x with
    |some ti,some a=>match ti.k with
     |  .struct fs=>match nth fs f with
        | some (off,ft,_)=>match tt.get (key ft)with
          |some fi=>match Nat.beq fi.size 0 with
           |false=>some (.fieldA off,[a],.pure)
           |true=>none
          |none=>none
        |none=>none
     |_=>none
    |_,_=>none
 |  .field t x f=>match tt.get (key t),sG x with
    |some ti,some a=>match ti.k with
     |  .struct fs=>match nth fs f with
        | some (off,ft,_)=>match tt.get (key ft)with
          |some fi=>some (.field off (Co fi),[a],.pure)
          |none=>none
        |none=>none
     |_=>none
    |_,_=>none
 |  .indexAddr t x ix=>match tt.get (key t),lM [x,ix]with
    |some ti,some l=>match ti.k with
     |  .slice e=>match tt.get (key e)with
        |some te=>some (.idxA te.size none,l,.pure)
        |none=>none
     |  .array n e=>match tt.get (key e)with
        |some te=>some (.idxA te.size (some n),l,.pure)
        |none=>none
     |_=>none
    |_,_=>none
 |  .index t x ix=>match tt.get (key t),lM [x,ix]with
    |some ti,some l=>match ti.k with
     |.string=>some (.idxS,l,.pure)
     |_=>none
    |_,_=>none
 |  .lookup t x ix ok=>match tt.get (key t),lM [x,ix]with
    |some ti,some l=>match ti.k with
     |  .map k e=>match tt.get (key k),tt.get (key e)with
        | some tk,some te=>match tk.k,te.zero with
          |.int _,some z=>some (.lookup .i (Mm te z) ok,l,.read)
          |.string,some z=>some (.lookup .s (Mm te z) ok,l,.read)
          |.bool,some z=>some (.lookup .b (Mm te z) ok,l,.read)
          |_,_=>none
        |_,_=>none
     |_=>none
    |_,_=>none
 |.mapUpdate t m k v=>aeZ tt t m k v
 |.insert t m k v=>aeZ tt t m k v
 |  .extract x i=>match sG x with
    |some a=>some (.extract i,[a],.pure)
    |none=>none
 |  .call c=>match lM c.args.toList with
    |none=>none
    |some xs=>match c.callee with
     |.value (.func f)=>some (.callF f,xs,.br)
     |  .value x=>match sG x with
        |some a=>some (.callV,a::xs,.br)
        |none=>none
     |.invoke _ _=>none
     |  .builtin b=>match b with
        | .len=>match c.argTypes.toList,xs with
          |t::_,[_]=>match tt.get (key t)with
           |some ti=>match ti.k with
            |.string=>some (.lenB .s,xs,.pure)
            |.slice _=>some (.lenB .l,xs,.pure)
            |.map _ _=>some (.lenB .m,xs,.read)
            |_=>none
           |none=>none
          |_,_=>none
        | .append=>match c.argTypes.toList with
          |t::t2::_=>match tt.get (key t),tt.get (key t2)with
           |some ti,some WE=>match ti.k,WE.k with
            |_,.int _=>none
            |.slice _,.string=>none
            |  .slice e,_=>match tt.get (key e)with
               | some te=>match te.zero with
                 |some _=>some (.append te.size te.bytes,xs,.br)
                 |none=>none
               |none=>none
            |_,_=>none
           |_,_=>none
          |_=>none
        | .copy=>match c.argTypes.toList with
          |t::_=>match tt.get (key t)with
           |some ti=>match ti.k with
            |  .slice e=>match tt.get (key e)with
               |some te=>some (.copyB te.size,xs,.br)
               |none=>none
            |_=>none
           |none=>none
          |_=>none
        | .min=>match xs with
          |[_,_]=>some (.minB,xs,.pure)
          |_=>none
        | .max=>match xs with
          |[_,_]=>some (.maxB,xs,.pure)
          |_=>none
        | .clear=>match c.argTypes.toList with
          |t::_=>match tt.get (key t)with
           |some ti=>match ti.k with
            |  .slice e=>match tt.get (key e)with
               | some te=>match te.zero with
                 |some z=>some (.clearS te.size z,xs,.br)
                 |none=>none
               |none=>none
            |_=>none
           |none=>none
          |_=>none
        |_=>none
 |_=>none
where
 abc (tt:TT):List (Nat×Nat×Bool)->Bool
  |[]=>true
  |  (_,t,_)::l=>match tt.get (key t)with
     |some _=>abc tt l
     |none=>false
 places (tt:TT) (fs:List (Nat×Nat×Bool)):List Nat->Option (List (Nat×Nat))
  |[]=>some []
  |  i ::is=>match nth fs i,places tt fs is with
     | some (off,t,_),some l=>match tt.get (key t)with
       |some ti=>some ((off,ti.size)::l)
       |none=>none
     |_,_=>none
 Mm (te:TI) (z:List AV):AV:=match te.k.isAgg with
  |true=>.agg z
  |  false=>match z with
     |[v]=>v
     |_=>.agg z
 aeZ (tt:TT) (t:Nat) (m k v:Operand):Option (aJ×List gO×Cls):=
  match tt.get (key t),lM [m,k,v]with
  |  some ti,some l=>match ti.k with
     | .map kt _=>match tt.get (key kt)with
       |some tk=>match tk.k with
        |.int _=>some (.mapSet .i,l,.br)
        |.string=>some (.mapSet .s,l,.br)
        |.bool=>some (.mapSet .b,l,.br)
        |_=>none
       |none=>none
     |_=>none
  |_,_=>none
def WG(ops:Array Oper):Option (Nat×Bool)->Option (Option (Pos×Bool))
 |none=>some none
 |  some (j,b)=>match ops[j]? with
    |some o=>match o.dst with
     |some d=>some (some (key d,b))
     |none=>none
    |none=>none
def abq:List Oper->List Nat->List Nat
 |[],acc=>acc
 |o::os,acc=>abq os (acc++[o.after.toList.foldl (λs e=>match Region.binds .any e with
   |true=>s ||| 2 ^ e.on ||| (nth acc e.on).getD 0
   |false=>s) 0])
def sH(tt:TT)(nt:Nat)(ops:Array Oper):List Oper->List Nat->Option (List bR)
 |[],_=>some []
 |  o::os,bs=>match WG ops o.guard,sH tt nt ops os bs.tail,akn nt o.dst with
    |some g,some l,true=>match jV tt o.op with
     |some (k,xs,cls)=>some ({ dst:=o.dst.map key,k:=k,xs:=xs,guard:=g,cls:=cls,bZ:=bs.headD 0 }::l)
     |none=>some ({ dst:=o.dst.map key,k:= .bad,xs:=[],guard:=g,cls:= .br,bZ:=bs.headD 0 }::l)
    |_,_,_=>none
where
 akn (nt:Nat):Option Tmp->Bool
  |none=>true
  |some d=>Nat.blt d nt
def bR.looks(o:bR):List Pos:=
 (match o.guard with|some (p,_)=>[p]|none=>[])++o.xs.filterMap λ|.t p=>some p|.c _=>none
def Mn(p:Pos):List Pos->Bool
 |[]=>false
 |q::l=>Pos.beq p q||Mn p l
def Rk(a b:bR):Bool:=
 (match a.dst with
  |some d=> !Mn d b.looks&&(match b.dst with|some d'=> !Pos.beq d d'|none=>true)
  |none=>true)&&
 (match b.dst with
  |some d=> !Mn d a.looks
  |none=>true)
def AP:List (Nat×bR)->List (Nat×bR)->List (Nat×bR)
 |[],held=>held
 |  (i,o)::l,held=>match o.cls with
    |.br=>held.filter (λx=>o.bZ.testBit x.1)++(i,o)::AP l (held.filter λx=> !o.bZ.testBit x.1)
    |_=>AP l (held++[(i,o)])
def HX:Nat->List bR->List (Nat×bR)
 |_,[]=>[]
 |i,o::os=>(i,o)::HX (i+1) os
def Mo(m:Nat):Nat->List (Nat×bR)->Bool
 |seen,[]=>Nat.beq seen (2 ^ m - 1)
 |  seen,(i,o)::l=>Nat.blt i m&& !seen.testBit i&&Nat.beq (o.bZ &&& seen) o.bZ&&(match o.cls with|.br=>Nat.beq o.bZ seen|_=>true)&&
    (l.all λx=>x.2.bZ.testBit i||Rk o x.2)&&Mo m (seen ||| 2 ^ i) l
def ux (tt:TT)(nt:Nat):Code->Option AC
 |.skip=>some .skip
 |  .region _ ops draw=>match sH tt nt ops ops.toList (abq ops.toList [])with
    |none=>none
    |some l=>match draw with
     |false=>some (.region l)
     |  true=>match Mo l.length 0 (AP (HX 0 l) [])with
        |true=>some (.draw (AP (HX 0 l) []))
        |false=>none
 |  .seq a b=>match ux tt nt a,ux tt nt b with
    |some a,some b=>some (.seq a b)
    |_,_=>none
 |  .cond c a b=>match sG c,ux tt nt a,ux tt nt b with
    |some c,some a,some b=>some (.cond c a b)
    |_,_,_=>none
 |  .block id a=>match ux tt nt a with
    |some a=>some (.block id a)
    |none=>none
 |  .loop a=>match ux tt nt a with
    |some a=>some (.loop a)
    |none=>none
 |.exit id=>some (.exit id)
 |.ret=>some .ret
 |.refuse _=>some (.region [{ dst:=none,k:= .bad,xs:=[],guard:=none,cls:= .br,bZ:=0 }])
 |_=>none
def pG(tt:TT):List ResultVar->Option (List Ml)
 |[]=>some []
 |  .tmp t::rs=>match pG tt rs with
    |some l=>some (.tmp (key t)::l)
    |none=>none
 |  .cell a t::rs=>match tt.get (key t),pG tt rs with
    |some ti,some l=>some (.cell (key a) (Co ti)::l)
    |_,_=>none
def ae0(tt:TT)(f:Func):Option dF:=match f.body with
 |  some c=>match ux tt f.ntmps c,pG tt f.results.toList,Nat.ble (f.params.size+f.nfree) f.ntmps with
    |some a,some rs,true=>some { code:=a,nparams:=f.params.size+f.nfree,results:=rs }
    |_,_,_=>none
 |none=>none
structure Loc where
 aQ:Nat
 base:Nat
 size:Nat
abbrev Cells:=Addr->Option Value
inductive aC(ρ:Pos->Loc)(n:Nat)(C:Cells):AV->Value->Prop where
 |bool (b:Bool):aC ρ n C (.bool b) (.bool b)
 |int (k:IntKind) (i:Int):aC ρ n C (.int k i) (.int k i)
 |str (s:List Nat) (bs:ByteArray) (h:bs.data.toList.map UInt8.toNat=s):aC ρ n C (.str s) (.string bs)
 |pz:aC ρ n C .pz (.pointer none)
 |ptr (b:Pos) (off:Nat) (h:b.toNat<n):aC ρ n C (.ptr b off) (.pointer (some ⟨(ρ b).aQ,(ρ b).base+off,none⟩))
 |fp (xs:List (List AV)) (i j es:Nat) (aQ base:Nat) (cell:Nat->Nat->Value)
  (hl:∀(i:Nat)(cs:List AV),xs[i]? =some cs->cs.length=es)
  (hc:∀(i j:Nat)(cs:List AV)(v:AV),xs[i]? =some cs->cs[j]? =some v->C ⟨aQ,base+i*es+j,none⟩=some (cell i j))
  (hv:∀(i j:Nat)(cs:List AV)(v:AV),xs[i]? =some cs->cs[j]? =some v->aC ρ n C v (cell i j)):
  aC ρ n C (.fp xs i j) (.pointer (some ⟨aQ,base+i*es+j,none⟩))
 |af:aC ρ n C .af (.slice none 0 0)
 |slice (b:Pos) (off len:Nat) (cap:Option Nat) (es bA:Nat) (a:Addr) (hl:len<=bA) (hc:∀c,cap=some c->c=bA)
  (ha:bA≠0->b.toNat<n/\a=⟨(ρ b).aQ,(ρ b).base+off,none⟩/\(ρ b).base+off+bA*es<=(ρ b).size)
  (hk:cap=none->b.toNat<n):
  aC ρ n C (.slice b off len cap es) (.slice (some a) len bA)
 |fl (xs:List (List AV)) (es bA:Nat) (a:Addr) (cell:Nat->Nat->Value) (hl:xs.length<=bA)
  (hs:xs≠[]->a.spot=none)
  (dB:∀(i:Nat)(cs:List AV),xs[i]? =some cs->cs.length=es)
  (hc:∀(i j:Nat)(cs:List AV)(v:AV),xs[i]? =some cs->cs[j]? =some v->C ⟨a.block,a.off+i*es+j,none⟩=some (cell i j))
  (hv:∀(i j:Nat)(cs:List AV)(v:AV),xs[i]? =some cs->cs[j]? =some v->aC ρ n C v (cell i j)):
  aC ρ n C (.fl xs es) (.slice (some a) xs.length bA)
 |sF:aC ρ n C .sF (.map none)
 |map (b:Pos) (h:b.toNat<n):aC ρ n C (.map b) (.map (some (ρ b).aQ))
 |func (f:FuncId) (x y:List AV) (x' y':Array Value) (hx:x.length=x'.size) (hy:y.length=y'.size)
  (qe:∀(i:Nat)(v:AV)(v':Value),x[i]? =some v->x'[i]? =some v'->aC ρ n C v v') (xK:∀(i:Nat)(v:AV)(v':Value),y[i]? =some v->y'[i]? =some v'->aC ρ n C v v'):
  aC ρ n C (.func f x y) (.func (.func f) x' y')
 |lf:aC ρ n C .lf .nilFunc
 |AU:aC ρ n C .AU .nilIface
 |iface (t:TypeId) (v:AV) (x:Value) (h:aC ρ n C v x):aC ρ n C (.iface t v) (.iface t x)
 |agg (l:List AV) (cs:Array Value) (hl:l.length=cs.size) (h:∀(i:Nat)(v:AV)(v':Value),l[i]? =some v->cs[i]? =some v'->aC ρ n C v v'):
  aC ρ n C (.agg l) (.agg cs)
 |tuple (l:List AV) (cs:Array Value) (hl:l.length=cs.size) (h:∀(i:Nat)(v:AV)(v':Value),l[i]? =some v->cs[i]? =some v'->aC ρ n C v v'):
  aC ρ n C (.tuple l) (.tuple cs)
theorem aC.mono{ρ ρ':Pos->Loc}{n n':Nat}{C:Cells}{v:AV}{x:Value}(h:aC ρ n C v x)
  (bG:∀b:Pos,b.toNat<n->ρ' b=ρ b) (hn:n<=n'):aC ρ' n' C v x:=by
 induction h with
 |bool b=>exact .bool b
 |int k i=>exact .int k i
 |str s bs h=>exact .str s bs h
 |pz=>exact .pz
 |ptr b off h=>rw[<-bG b h];exact .ptr b off (by omega)
 |fp xs i j es aQ base cell hl hc _ ih=>exact .fp xs i j es aQ base cell hl hc ih
 |af=>exact .af
 |slice b off len cap es bA a hl hc ha hk=>
  refine .slice b off len cap es bA a hl hc (λh0=> ?_) (λh0=>by have:=hk h0;omega);obtain⟨h1,h2,h3⟩:=ha h0;rw[bG b h1];exact⟨by omega,h2,h3⟩
 |fl xs es bA a cell hl hs dB hc _ ih=>exact .fl xs es bA a cell hl hs dB hc ih
 |sF=>exact .sF
 |map b h=>rw[<-bG b h];exact .map b (by omega)
 |func f x y x' y' hx hy _ _ ih1 ih2=>exact .func f x y x' y' hx hy ih1 ih2
 |lf=>exact .lf
 |AU=>exact .AU
 |iface t v x _ ih=>exact .iface t v x ih
 |agg l cs hl _ ih=>exact .agg l cs hl ih
 |tuple l cs hl _ ih=>exact .tuple l cs hl ih
def aI(ρ:Pos->Loc)(n:Nat)(C:Cells)(l:List AV)(xs:List Value):Prop:=
 l.length=xs.length/\∀(i:Nat)(v:AV)(x:Value),l[i]? =some v->xs[i]? =some x->aC ρ n C v x
section
variable{ρ ρ':Pos->Loc}{n n':Nat}{C:Cells}
theorem aI.mono{l:List AV}{xs:List Value}(h:aI ρ n C l xs)(bG:∀b:Pos,b.toNat<n->ρ' b=ρ b)(hn:n<=n'):
 aI ρ' n' C l xs:=⟨h.1,λi v x hv hx=>(h.2 i v x hv hx).mono bG hn⟩
theorem aI.nil:aI ρ n C [] []:=⟨rfl,λ_ _ _ h=>by simp at h⟩
theorem aI.cons{v:AV}{x:Value}{l:List AV}{xs:List Value}(h:aC ρ n C v x)(hs:aI ρ n C l xs):aI ρ n C (v::l) (x::xs):=
 ⟨by simp[hs.1],λi u y hu hy=>by
  cases i with
  |zero=>simp at hu hy;subst hu;subst hy;exact h
  |succ i=>simp at hu hy;exact hs.2 i u y hu hy⟩
theorem aI.cons_inv{v:AV}{l:List AV}{xs:List Value}(h:aI ρ n C (v::l) xs):∃x zY,xs=x::zY/\aC ρ n C v x/\aI ρ n C l zY:=by
 cases xs with
 |nil=>have:=h.1;simp at this
 |cons x zY=>
  exact⟨x,zY,rfl,h.2 0 v x rfl rfl,by have:=h.1;simpa using this,λi u y hu hy=>h.2 (i+1) u y (by simpa using hu) (by simpa using hy)⟩
theorem aI.j5{xs:List Value}(h:aI ρ n C [] xs):xs=[]:=by
 have:=h.1;cases xs with
 |nil=>rfl
 |cons a b=>simp at this
theorem aI.append{l m:List AV}{xs ys:List Value}(h:aI ρ n C l xs)(k:aI ρ n C m ys):aI ρ n C (l++m) (xs++ys):=by
 refine⟨by simp[h.1,k.1],λi v x hv hx=> ?_⟩;rcases Zj9 i l.length with hi|hi
 .rw[Zd9 hi]at hv;rw[Zd9 (by rw[<-h.1];exact hi)]at hx;exact h.2 i v x hv hx
 .rw[Zd6 hi]at hv;rw[Zd6 (by rw[<-h.1];exact hi), <-h.1]at hx;exact k.2 _ v x hv hx
theorem aI.take{l:List AV}{xs:List Value}(h:aI ρ n C l xs)(m:Nat):aI ρ n C (l.take m) (xs.take m):=by
 refine⟨by simp[h.1],λi v x hv hx=> ?_⟩;rw[Zd7]at hv hx;split at hv
 .rename_i hi;rw[Zb5 hi]at hx;exact h.2 i v x hv hx
 .cases hv
theorem aI.drop{l:List AV}{xs:List Value}(h:aI ρ n C l xs)(m:Nat):aI ρ n C (l.drop m) (xs.drop m):=by refine⟨by simp[h.1],λi v x hv hx=> ?_⟩;rw[Zf5]at hv hx;exact h.2 _ v x hv hx
theorem aI.aZ{l vs:List AV}{xs ys:List Value}(h:aI ρ n C l xs)(k:aI ρ n C vs ys)(i:Nat):
  aI ρ n C (Go.Ai.aZ l i vs) (Go.Ai.aZ xs i ys):=by
 unfold Go.Ai.aZ;rw[k.1];exact(h.take i).append (k.append (h.drop _))
theorem aI.get{l:List AV}{xs:List Value}(h:aI ρ n C l xs){i:Nat}{v:AV}(hv:l[i]? =some v):∃x,xs[i]? =some x/\aC ρ n C v x:=by
 have hi:i<xs.length:=by rw[<-h.1];exact(Za4.1 hv).1
 exact⟨xs[i],Za0 hi,h.2 i v _ hv (Za0 hi)⟩
theorem aC.Mp{l:List AV}{cs:Array Value}(h:aI ρ n C l cs.toList):aC ρ n C (.agg l) (.agg cs):=
 .agg l cs (by simpa using h.1) λi v x hv hx=>h.2 i v x hv (by simpa using hx)
theorem aC.pH{l:List AV}{cs:Array Value}(h:aI ρ n C l cs.toList):aC ρ n C (.tuple l) (.tuple cs):=
 .tuple l cs (by simpa using h.1) λi v x hv hx=>h.2 i v x hv (by simpa using hx)
theorem aC.Eg{l:List AV}{x:Value}(h:aC ρ n C (.agg l) x):∃cs,x= .agg cs/\aI ρ n C l cs.toList:=by
 cases h with|agg _ cs hl h=>exact⟨cs,rfl,by simpa using hl,λi v x hv hx=>h i v x hv (by simpa using hx)⟩
theorem aC.Rm{l:List AV}{x:Value}(h:aC ρ n C (.tuple l) x):∃cs,x= .tuple cs/\aI ρ n C l cs.toList:=by
 cases h with|tuple _ cs hl h=>exact⟨cs,rfl,by simpa using hl,λi v x hv hx=>h i v x hv (by simpa using hx)⟩
theorem aC.NT{f:FuncId}{a b:List AV}{x:Value}(h:aC ρ n C (.func f a b) x):
  ∃a' b',x= .func (.func f) a' b'/\aI ρ n C a a'.toList/\aI ρ n C b b'.toList:=by
 cases h with
 |func _ _ _ a' b' hx hy h1 h2=>exact⟨a',b',rfl,⟨by simpa using hx,λi v x hv hx=>h1 i v x hv (by simpa using hx)⟩,⟨by simpa using hy,λi v x hv hx=>h2 i v x hv (by simpa using hx)⟩⟩
theorem aC.cells{v:AV}{x:Value}(h:aC ρ n C v x):aI ρ n C v.cells x.cells.toList:=by
 by_cases hv:∃l,v= .agg l
 .obtain⟨l,rfl⟩:=hv;obtain⟨cs,rfl,hs⟩:=h.Eg;exact hs
 .have h1:v.cells=[v]:=(by cases v<;>first|rfl|exact absurd ⟨_,rfl⟩ hv);have h2:x.cells= #[x]:=(by cases h<;>first|rfl|exact absurd ⟨_,rfl⟩ hv);rw[h1,h2];exact aI.cons h aI.nil
def ri(ρ:Pos->Loc)(n:Nat)(C:Cells)(L:Loc)(w:World):AB->Prop
 |.cells cs fz=>∃(c:Array Value) (e:TypeId) (fr:Nat×Nat),w.heap[L.aQ]? =some (.cells c e fr)/\c.size=L.size/\L.base+cs.length<=c.size/\
  aI ρ n C cs ((c.toList.drop L.base).take cs.length)/\∀i,fz<=i->L.base+i<c.size->¬(fr.1<=L.base+i/\L.base+i<fr.2)
 |.map es clock=>∃(es':Array MapEntry),w.heap[L.aQ]? =some (.map es' clock)/\es.length=es'.size/\
  ∀(i:Nat)(e:AV×AV×Nat)(e':MapEntry),es[i]? =some e->es'[i]? =some e'->aC ρ n C e.1 e'.key/\aC ρ n C e.2.1 e'.val/\e.2.2=e'.born
theorem ri.mono{L:Loc}{w:World}{x:AB}(h:ri ρ n C L w x)(bG:∀b:Pos,b.toNat<n->ρ' b=ρ b)(hn:n<=n'):ri ρ' n' C L w x:=by
 cases x with
 |cells cs fz=>obtain⟨c,e,fr,h1,h2,h3,h4,h5⟩:=h;exact⟨c,e,fr,h1,h2,h3,h4.mono bG hn,h5⟩
 |map es clock=>obtain⟨es',h1,h2,h3⟩:=h;exact⟨es',h1,h2,λi e e' he qf=>let⟨a,b,c⟩:=h3 i e e' he qf;⟨a.mono bG hn,b.mono bG hn,c⟩⟩
theorem ri.of_heap{L:Loc}{w w':World}{x:AB}(h:ri ρ n C L w x)(hw:w'.heap[L.aQ]? =w.heap[L.aQ]?):ri ρ n C L w' x:=by
 cases x with
 |cells cs fz=>obtain⟨c,e,fr,h1,h2⟩:=h;exact⟨c,e,fr,by rw[hw];exact h1,h2⟩
 |map es clock=>obtain⟨es',h1,h2⟩:=h;exact⟨es',by rw[hw];exact h1,h2⟩
end
structure bS(ρ:Pos->Loc)(C:Cells)(st:St)(w:World):Prop where
 live:∀b x,st.heap.get b=some x->b.toNat<st.next.toNat/\(ρ b).aQ<w.heap.size/\ri ρ st.next.toNat C (ρ b) w x
 inj:∀b b' x x',st.heap.get b=some x->st.heap.get b'=some x'->(ρ b).aQ=(ρ b').aQ->b=b'
 dH:∀a v,C a=some v->w.cell? a=some v/\∀b x,st.heap.get b=some x->(ρ b).aQ≠a.block
 whole:∀a v,C a=some v->∀o,C ⟨a.block,o,none⟩=none->w.cell? ⟨a.block,o,none⟩=none
structure nh(ρ:Pos->Loc)(st:St)(w:World)(ρ':Pos->Loc)(st':St)(w':World):Prop where
 os:w'.os=w.os
 tape:w'.tape=w.tape
 output:w'.output=w.output
 size:w.heap.size<=w'.heap.size
 block:∀k,k<w.heap.size->(∀b x,st.heap.get b=some x->(ρ b).aQ≠k)->w'.heap[k]? =w.heap[k]?
 xL:∀b x,st'.heap.get b=some x->(∃b' x',st.heap.get b'=some x'/\(ρ b').aQ=(ρ' b).aQ)\/w.heap.size<=(ρ' b).aQ
theorem nh.refl(ρ:Pos->Loc)(st:St)(w:World):nh ρ st w ρ st w:=⟨rfl,rfl,rfl,Za6 _,λ_ _ _=>rfl,λb x h=>.inl ⟨b,x,h,rfl⟩⟩
theorem nh.trans{ρ jH tQ:Pos->Loc}{st bQ zZ:St}{w w1 w2:World}(h:nh ρ st w jH bQ w1)(k:nh jH bQ w1 tQ zZ w2):nh ρ st w tQ zZ w2 where
 os:=k.os.trans h.os
 tape:=k.tape.trans h.tape
 output:=k.output.trans h.output
 size:=Zb7 h.size k.size
 block q hq hn:=by
  rw[k.block q (Zc5 hq h.size) λb x hb e=> ?_,h.block q hq hn];rcases h.xL b x hb with⟨b',x',h1,h2⟩|h1
  .exact hn b' x' h1 (h2.trans e)
  .rw[e]at h1;omega
 xL b x hb:=by
  rcases k.xL b x hb with⟨b',x',h1,h2⟩|h1
  . rcases h.xL b' x' h1 with⟨b'',x'',h3,h4⟩|h3
    .exact .inl ⟨b'',x'',h3,h4.trans h2⟩
    .right;rw[<-h2];exact h3
  .exact .inr (Zb7 h.size h1)
def kC(ρ:Pos->Loc)(n:Nat)(C:Cells)(fr:Fr)(tmps:Array Value):Prop:=
 ∀p v,fr.get p=some v->∃x,tmps[p.toNat - 1]? =some x/\aC ρ n C v x
theorem Pos.toNat_pos(p:Pos):0<p.toNat:=by
 induction p with
 |h=>simp[Pos.toNat]
 |o p ih=>simp[Pos.toNat];exact ih
 |i p ih=>simp[Pos.toNat]
theorem Pos.toNat_inj:∀{p q:Pos},p.toNat=q.toNat->p=q
 |.h,.h,_=>rfl
 |.h,.o q,hq=>by have:=q.toNat_pos;simp[Pos.toNat]at hq;omega
 |.h,.i q,hq=>by have:=q.toNat_pos;simp[Pos.toNat]at hq;omega
 |.o p,.h,hq=>by have:=p.toNat_pos;simp[Pos.toNat]at hq;omega
 |.o p,.o q,hq=>by simp[Pos.toNat]at hq;rw[Pos.toNat_inj (p:=p) (q:=q) (by omega)]
 |.o p,.i q,hq=>by simp[Pos.toNat]at hq;omega
 |.i p,.h,hq=>by have:=p.toNat_pos;simp[Pos.toNat]at hq;omega
 |.i p,.o q,hq=>by simp[Pos.toNat]at hq;omega
 |.i p,.i q,hq=>by simp[Pos.toNat]at hq;rw[Pos.toNat_inj (p:=p) (q:=q) (by omega)]
theorem Pos.aK(p:Pos):p.succ.toNat=p.toNat+1:=by
 induction p with
 |h=>rfl
 |o p ih=>simp[Pos.succ,Pos.toNat]
 |i p ih=>simp[Pos.succ,Pos.toNat,ih];omega
theorem Pos.NU:∀(f m:Nat),0<m->m<2 ^ (f+1)->(Pos.abp f m).toNat=m
 |0,m,hp,hl=>by
  simp at hl;have:m=1:=by omega
  subst this;rfl
 |f +   1,m,hp,hl=>by
  unfold Pos.abp;split
  . (rename_i hb;have:=Za9 hb;have:m=1:=by omega);subst this;rfl
  . rename_i hb;have h1:1<m:=by
        rcases Zj9 1 m with hh|hh
        .exact hh
        .rw[Nat.ble_eq_true_of_le hh]at hb;cases hb
    have h2:m / 2<2 ^ (f+1):=(by have:2 ^ (f+1+1)=2*2 ^ (f+1):=(by rw[Nat.pow_succ];omega);omega);split
    .   rename_i he;have:=Za7 he;simp only[Pos.toNat];rw[Pos.NU f _ (by omega) h2];omega
    .   rename_i he;have:=Ze6 he;simp only[Pos.toNat];rw[Pos.NU f _ (by omega) h2];omega
theorem iB(n:Nat):(key n).toNat=n+1:=Pos.NU _ (n+1) (by omega) Nat.lt_log2_self
theorem T.eV{α:Type}(p:Pos):(T.e:T α).get p=none:=by cases p<;>rfl
theorem T.fP{α:Type}(x:Option α)(p:Pos)(t:T α):(T.put x p t).get p=x:=by
 induction p generalizing t with
 |h=>cases t<;>rfl
 |o p ih=>cases t<;>exact ih _
 |i p ih=>cases t<;>exact ih _
theorem T.bY{α:Type}(x:Option α){p q:Pos}(h:p≠q)(t:T α):(T.put x p t).get q=t.get q:=by
 induction p generalizing q t with
 |h=>cases q with
  |h=>exact absurd rfl h
  |o q=>cases t<;>simp[T.put,T.get,T.eV]
  |i q=>cases t<;>simp[T.put,T.get,T.eV]
 |o p ih=>cases q with
  |h=>cases t<;>simp[T.put,T.get]
  | o q=>cases t with
    |e=>simp only[T.put,T.get];rw[ih (λe=>h (by rw[e])),T.eV]
    |n l v r=>simp only[T.put,T.get];exact ih (λe=>h (by rw[e])) l
  |i q=>cases t<;>simp[T.put,T.get,T.eV]
 |i p ih=>cases q with
  |h=>cases t<;>simp[T.put,T.get]
  |o q=>cases t<;>simp[T.put,T.get,T.eV]
  | i q=>cases t with
    |e=>simp only[T.put,T.get];rw[ih (λe=>h (by rw[e])),T.eV]
    |n l v r=>simp only[T.put,T.get];exact ih (λe=>h (by rw[e])) r
theorem Pos.beq_eq:∀{p q:Pos},p.beq q=true↔p=q
 |.h,.h=>by simp[Pos.beq]
 |.h,.o q=>by simp[Pos.beq]
 |.h,.i q=>by simp[Pos.beq]
 |.o p,.h=>by simp[Pos.beq]
 |.o p,.o q=>by simp only[Pos.beq,Pos.o.injEq];exact Pos.beq_eq
 |.o p,.i q=>by simp[Pos.beq]
 |.i p,.h=>by simp[Pos.beq]
 |.i p,.o q=>by simp[Pos.beq]
 |.i p,.i q=>by simp only[Pos.beq,Pos.i.injEq];exact Pos.beq_eq
end
noncomputable section
section
variable{R:Type}
def AX{α:Type}(p:Pos):T α->Option α:=
 Pos.rec (motive:=λ_=>T α->Option α)
    (λt=>T.rec (motive:=λ_=>Option α) none (λ_ v _ _ _=>v) t)
    (λ_ ih t=>T.rec (motive:=λ_=>Option α) none (λl _ _ _ _=>ih l) t)
    (λ_ ih t=>T.rec (motive:=λ_=>Option α) none (λ_ _ r _ _=>ih r) t) p
def vS{α:Type}(x:Option α)(p:Pos):T α->(T α->R)->R:=
 Pos.rec (motive:=λ_=>T α->(T α->R)->R)
    (λt k=>T.rec (motive:=λ_=>R) (k (.n .e x .e)) (λl _ r _ _=>k (.n l x r)) t)
    (λ_ ih t k=>T.rec (motive:=λ_=>R) (ih .e λl=>k (.n l none .e)) (λl v r _ _=>ih l λl=>k (.n l v r)) t)
    (λ_ ih t k=>T.rec (motive:=λ_=>R) (ih .e λr=>k (.n .e none r)) (λl v r _ _=>ih r λr=>k (.n l v r)) t) p
def uy(n:Nat)(k:Nat->R):R:=Nat.rec (motive:=λ_=>R) (k 0) (λm _=>k (Nat.succ m)) n
def VH(n:Int)(k:Int->R):R:=match n with
 |.ofNat m=>uy m λm=>k (.ofNat m)
 |.negSucc m=>uy m λm=>k (.negSucc m)
def Zx(b:Bool)(k:Bool->R):R:=match b with
 |true=>k true
 |false=>k false
def EU{α:Type}(l:List α):(List α->R)->R:=
 List.rec (motive:=λ_=>(List α->R)->R) (λk=>k []) (λa _ ih k=>ih λt=>k (a::t)) l
def NV(p:Pos):(Pos->R)->R:=
 Pos.rec (motive:=λ_=>(Pos->R)->R) (λk=>k .h) (λ_ ih k=>ih λp=>k (.o p)) (λ_ ih k=>ih λp=>k (.i p)) p
def abr(o:Option Nat)(k:Option Nat->R):R:=match o with
 |none=>k none
 |some n=>uy n λn=>k (some n)
def Rn(v:AV)(k:AV->R):R:=match v with
 |.bool b=>Zx b λb=>k (.bool b)
 |.int i n=>VH n λn=>k (.int i n)
 |.str s=>EU s λs=>k (.str s)
 |.ptr b o=>NV b λb=>uy o λo=>k (.ptr b o)
 |.slice b o l c es=>NV b λb=>uy o λo=>uy l λl=>abr c λc=>k (.slice b o l c es)
 |.map b=>NV b λb=>k (.map b)
 |.func f x y=>EU x λx=>EU y λy=>k (.func f x y)
 |.agg l=>EU l λl=>k (.agg l)
 |v=>k v
def TF(l:List AV):(List AV->R)->R:=
 List.rec (motive:=λ_=>(List AV->R)->R) (λk=>k []) (λa _ ih k=>Rn a λa=>ih λt=>k (a::t)) l
def vt(v:AV)(k:AV->R):R:=match v with
 |.tuple l=>TF l λl=>k (.tuple l)
 |v=>Rn v k
def HD(x:AB)(k:AB->R):R:=match x with
 |.cells cs fz=>EU cs λcs=>uy fz λfz=>k (.cells cs fz)
 |.map es c=>EU es λes=>uy c λc=>k (.map es c)
def WH(p:Pos):(Pos->R)->R:=
 Pos.rec (motive:=λ_=>(Pos->R)->R) (λk=>k (.o .h)) (λq _ k=>k (.i q)) (λ_ ih k=>ih λp=>k (.o p)) p
variable(z:R)
def evK(fr:Fr)(x:gO)(k:AV->R):R:=match x with
 |  .t p=>match AX p fr with
    |some v=>k v
    |none=>z
 |.c v=>k v
def Yv(fr:Fr)(xs:List gO):(List AV->R)->R:=
 List.rec (motive:=λ_=>(List AV->R)->R) (λk=>k []) (λx _ ih k=>evK z fr x λv=>ih λvs=>k (v::vs)) xs
def HE(fr:Fr)(g:Option (Pos×Bool))(yes no:R):R:=match g with
 |none=>yes
 |  some (p,want)=>match AX p fr with
    |some (.bool b)=>match b==want with
     |true=>yes
     |false=>no
    |some (.tuple _)=>no
    |_=>z
def mM(fr:Fr)(d:Option Pos)(v:AV)(k:Fr->R):R:=match d with
 |some p=>vS (some v) p fr k
 |none=>k fr
def delK(o:Option Pos)(h:T AB)(k:T AB->R):R:=match o with
 |some b=>vS none b h k
 |none=>k h
def aif(o:Option (Pos×AB))(h:T AB)(k:T AB->R):R:=match o with
 |some (b,x)=>HD x λx=>vS (some x) b h k
 |none=>k h
abbrev qK(R:Type):=FuncId->List AV->St->(AV->St->R)->R
def aih(st:St)(del:Option Pos)(set:Option (Pos×AB))(new:Option AB)(k:St->R):R:=
 delK del st.heap λh=>aif set h λh=>match new with
    |some x=>HD x λx=>vS (some x) st.next h λh=>WH st.next λn=>k { heap:=h,next:=n }
    |none=>k { heap:=h,next:=st.next }
def TG(call:qK R)(op:aJ)(xs:List AV)(st:St)(k:AV->St->R):R:=
 match op.run (λb=>AX b st.heap) st.next xs with
 |some (.val v)=>vt v λv=>k v st
 |some (.br v del set new)=>vt v λv=>aih st del set new λst=>k v st
 |some (.call f args)=>EU args λargs=>call f args st k
 |none=>z
def Yw(call:qK R)(ops:List bR):Fr->St->(Fr->St->R)->R:=
 List.rec (motive:=λ_=>Fr->St->(Fr->St->R)->R) (λfr st k=>k fr st)
    (λo _ ih fr st k=>HE z fr o.guard
     (Yv z fr o.xs λxs=>TG z call o.k xs st λv st=>mM fr o.dst v λfr=>ih fr st k)
     (mM fr o.dst .undef λfr=>ih fr st k)) ops
def NW (bZ:Nat)(h:T AB)(recs:List Rec):(T AB->R)->R:=
 List.rec (motive:=λ_=>(T AB->R)->R) (λk=>k h)
    (fun r _ ih k=>match r.c with
     |  .new id aQ=>match bZ.testBit r.idx with
        |true=>ih λh'=>vS (some aQ) id h' k
        |false=>ih k
     |.br _ _=>k h
     |.pure=>ih k) recs
def abt(h:T AB)(l:List (Pos×AB)):(T AB->R)->R:=
 List.rec (motive:=λ_=>(T AB->R)->R) (λk=>k h) (λx _ ih k=>ih λh'=>vS (some x.2) x.1 h' k) l
def abu(op:aJ)(xs:List AV)(v:AV)(h:T AB):Bool:=
 match op.run (λb=>AX b h) .h xs with
 |some (.val u)=>dO u v
 |_=>false
def tR(bZ:Nat)(op:aJ)(xs:List AV)(v:AV):List (Pos×AB)->List Rec->Bool
 |_,[]=>true
 |  up,r::rs=>match r.c with
    | .new id aQ=>match bZ.testBit r.idx with
      |true=>tR bZ op xs v ((id,aQ)::up) rs
      |false=>tR bZ op xs v up rs
    | .br base _=>match bZ.testBit r.idx with
      |true=>true
      |false=>(NW bZ base rs λh=>abt h up λh=>abu op xs v h)&&tR bZ op xs v up rs
    |.pure=>tR bZ op xs v up rs
def NX (call:qK R)(ops:List (Nat×bR)):List Rec->T AB->Fr->St->(Fr->St->R)->R:=
 List.rec ( motive:=λ_=>List Rec->T AB->Fr->St->(Fr->St->R)->R)
    (λ_ _ fr st k=>k fr st)
    (fun jo _ ih recs base fr st k=>HE z fr jo.2.guard
     (Yv  z fr jo.2.xs λxs=>match jo.2.cls with
        | .new=>match jo.2.k.run (λ_=>none) st.next xs with
          |some (.br v none none (some aQ))=>vt v λv=>HD aQ λaQ=>mM fr jo.2.dst v λfr=>WH st.next λn=>vS (some aQ) st.next st.heap λh=>
              ih ({ idx:=jo.1,o:=jo.2,v:=v,c:= .new st.next aQ,nx:=n }::recs) base fr { heap:=h,next:=n } k
          |_=>z
        |.br=>TG z call jo.2.k xs st λv st'=>mM fr jo.2.dst v λfr=>ih ({ idx:=jo.1,o:=jo.2,v:=v,c:= .br base st'.heap,nx:=st'.next }::recs) st'.heap fr st' k
        | _ =>match jo.2.k.run (λ_=>none) .h xs with
          |some (.val v)=>vt v λv=>mM fr jo.2.dst v λfr=>ih ({ idx:=jo.1,o:=jo.2,v:=v,c:= .pure,nx:=st.next }::recs) base fr st k
          | _ =>NW jo.2.bZ base recs λh=>match jo.2.k.run (λb=>AX b h) .h xs with
            | some (.val v)=>vt v λv=>match tR jo.2.bZ jo.2.k xs v [] recs with
              |true=>mM fr jo.2.dst v λfr=>ih ({ idx:=jo.1,o:=jo.2,v:=v,c:= .pure,nx:=st.next }::recs) base fr st k
              |false=>z
            |_=>z)
     (mM fr jo.2.dst .undef λfr=>ih ({ idx:=jo.1,o:=jo.2,v:= .undef,c:= .pure,nx:=st.next }::recs) base fr st k)) ops
abbrev abd(R:Type):=AC->Fr->St->(Fr->St->R)->(Nat->Fr->St->R)->(Fr->St->R)->R
def tS(call:qK R)(ih:abd R):abd R
 |.skip,fr,st,kn,_,_=>kn fr st
 |.region ops,fr,st,kn,_,_=>Yw z call ops fr st kn
 |.draw ops,fr,st,kn,_,_=>NX z call ops [] st.heap fr st kn
 |.seq a b,fr,st,kn,kx,kr=>ih a fr st (λfr st=>ih b fr st kn kx kr) kx kr
 |  .cond x a b,fr,st,kn,kx,kr=>evK z fr x λv=>match v with
    |.bool true=>ih a fr st kn kx kr
    |.bool false=>ih b fr st kn kx kr
    |_=>z
 | .block id a,fr,st,kn,kx,kr=>ih a fr st kn (λwL fr st=>match Nat.beq wL id with
     |true=>kn fr st
     |false=>kx wL fr st) kr
 |.loop a,fr,st,kn,kx,kr=>ih a fr st (λfr st=>ih (.loop a) fr st kn kx kr) kx kr
 |.exit id,fr,st,_,kx,_=>kx id fr st
 |.ret,fr,st,_,_,kr=>kr fr st
def WI(call:qK R)(n:Nat):abd R:=
 Nat.rec (motive:=λ_=>abd R) (λ_ _ _ _ _ _=>z) (λ_ ih=>tS z call ih) n
def Mq(vs:List AV):Nat->Fr->(Fr->R)->R:=
 List.rec (motive:=λ_=>Nat->Fr->(Fr->R)->R) (λ_ fr k=>k fr)
    (λv _ ih i fr k=>vS (some v) (key i) fr λfr=>ih (i+1) fr k) vs
def Eh(st:St)(fr:Fr)(rs:List Ml)(k:AV->R):R:=
 match gw (λb=>AX b st.heap) fr rs with
 |  some vs=>TF vs λvs=>match vs with
    |[v]=>k v
    |vs=>k (.tuple vs)
 |none=>z
def J6 (O:eE  )(G:T dF)(m:Nat)(d:Nat):qK R:=
 Nat.rec (motive:=λ_=>qK R) (λ_ _ _ _=>z)
    (fun _ ih f args st k=>match O f with
     |  some s=>match s args st with
        |some (v,st')=>vt v λv=>k v st'
        |none=>z
     |  none=>match AX (key f) G with
        |some F=>match Nat.beq args.length F.nparams with
         |true=>Mq args 0 .e λfr=>WI z ih m F.code fr st
              (λfr st=>Eh z st fr F.results λv=>k v st)
              (λ_ _ _=>z)
              (λfr st=>Eh z st fr F.results λv=>k v st)
         |false=>z
        |none=>z) d
end
end
end Go.Ai
