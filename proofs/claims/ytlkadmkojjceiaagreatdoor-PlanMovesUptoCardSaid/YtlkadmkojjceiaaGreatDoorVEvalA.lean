/- An evaluator over plain values, its compiler and its relation to worlds. -/
import Derived.Orders
import Derived.Below
set_option linter.all false
def H0:=@Option.some.injEq
def H1:=@List.getElem?_eq_getElem
def H2:=@decide_eq_false
def H3:=@Nat.eq_of_beq_eq_true
def H4:=@decide_eq_true
def H5:=@List.getElem?_eq_some_iff
def Za0:=@Nat.le_of_ble_eq_true
def Za1:=@if_neg
def Za2:=@if_pos
def Za3:=@Nat.le_refl
def Za4:=@List.mem_cons_of_mem
def Za5:=@List.mem_cons
def Za6:=@Bool.and_eq_true
def Za7:=@List.drop_eq_getElem_cons
def Za8:=@List.eq_nil_of_length_eq_zero
def Za9:=@Prod.mk.injEq
def Zb0:=@List.length_map
def Zb1:=@List.getElem?_take
def Zb2:=@Nat.ne_of_beq_eq_false
def Zb3:=@List.getElem?_eq_none
def Zb4:=@List.take_succ_eq_append_getElem
def Zb5:=@List.getElem?_map
def Zb6:=@Nat.zero_add
def Zb7:=@List.drop_zero
def Zb8:=@List.map_cons
def Zb9:=@Nat.lt_of_lt_of_le
def Zc0:=@Array.getElem?_eq_some_iff
def Zc1:=@List.mem_of_getElem?
def Zc2:=@List.getElem_mem
def Zc3:=@Nat.le_trans
def Zc4:=@List.mem_cons_self
def Zc5:=@List.getD_eq_getElem?_getD
def Zc6:=@List.getElem?_drop
def Zc7:=@List.mem_singleton
def Zc8:=@decide_eq_true_eq
def Zc9:=@List.getElem?_append_left
def Zd0:=@List.getElem?_append_right
def Zd1:=@List.length_append
def Zd2:=@List.not_mem_nil
def Zd3:=@Array.getElem?_setIfInBounds_ne
def Zd4:=@List.mem_append
def Zd5:=@Bool.false_eq_true
def Zd6:=@List.all_eq_true
def Zd7:=@List.length_cons
def Zd8:=@List.mem_map
def Zd9:=@if_false
def Ze0:=@Option.map_some
def Ze1:=@Bool.true_and
def Ze2:=@Nat.add_sub_cancel
def Ze3:=@Array.getElem?_eq_getElem
def Ze4:=@List.cons_append
def Ze5:=@Option.bind_some
def Ze6:=@List.flatten_cons
def Ze7:=@List.mem_iff_getElem?
def Ze8:=@List.getElem?_cons_zero
def Ze9:=@Array.length_toList
def Zf0:=@if_true
def Zf1:=@Option.map_eq_some_iff
def Zf2:=@List.map_nil
def Zf3:=@Array.getElem?_toList
def Zf4:=@List.append_nil
def Zf5:=@of_decide_eq_true
def Zf6:=@List.drop_append_of_le_length
def Zf7:=@List.map_map
def Zf8:=@List.take_of_length_le
def Zf9:=@Option.some.inj
def Zg0:=@List.drop_length
def Zg1:=@List.getElem?_cons_succ
def Zg2:=@decide_eq_false_iff_not
def Zg3:=@Nat.mul_le_mul_right
def Zg4:=@List.mem_append_left
def Zg5:=@Array.getElem?_append_left
def Zg6:=@List.mem_iff_getElem
def Zg7:=@Nat.add_assoc
def Zg8:=@List.nil_append
def Zg9:=@Bool.or_eq_true
def Zh0:=@Nat.le_max_right
def Zh1:=@Classical.byContradiction
def Zh2:=@Bool.not_eq_true'
def Zh3:=@List.map_append
def Zh4:=@List.cons.injEq
def Zh5:=@Nat.succ_mul
def Zh6:=@or_false
def Zh7:=@Array.getD_eq_getD_getElem?
def Zh8:=@Nat.add_zero
def Zh9:=@Nat.le_max_left
def Zi0:=@List.mem_append_right
def Zi1:=@Nat.lt_or_ge
def Zi2:=@Nat.add_mul
def Zi3:=@Nat.zero_le
def Zi4:=@List.append_assoc
def Zi5:=@List.length_set
def Zi6:=@List.map_congr_left
def Zi7:=@Option.getD_some
def Zi8:=@Bool.eq_iff_iff
def Zi9:=@Function.comp_def
def Zj0:=@List.ext_getElem?
def Zj1:=@Int.toNat_natCast
def Zj2:=@decide_true
def Zj3:=@Bool.and_true
def Zj4:=@Bool.and_self
def Zj5:=@List.length_take
def Zj6:=@Nat.mod_eq_of_lt
def Zj7:=@Nat.mul_one
def Zj8:=@Nat.min_eq_left
def Zj9:=@List.take_left'
def Zk0:=@Array.getElem?_setIfInBounds
def Zk1:=@Array.mem_of_getElem?
def Zk2:=@List.take_append_drop
def Zk3:=@List.getElem_take
def Zk4:=@Array.mem_toList_iff
def Zk5:=@List.range_eq_range'
def Zk6:=@Bool.or_eq_false_iff
def Zk7:=@List.take_length
def Zk8:=@List.getElem_map
def Zk9:=@List.mem_filter
def Zl0:=@of_decide_eq_false
def Zl1:=@Array.ext'
def Zl2:=@List.mem_filterMap
def Zl3:=@List.take_add_one
def Zl4:=@not_false_eq_true
def Zl5:=@Nat.sub_zero
def Zl6:=@Bool.not_false
def Zl7:=@List.size_toArray
def Zl8:=@List.drop_drop
def Zl9:=@List.drop_eq_nil_of_le
def Zm0:=@List.getElem_cons_succ
def Zm1:=@List.flatMap_cons
def Zm2:=@Array.getElem?_modify
def Zm3:=@UInt8.lt_iff_toNat_lt
def Zm4:=@Nat.le_add_right
def Zm5:=@Array.eq_empty_of_size_eq_zero
def Zm6:=@List.range'_succ
def Zm7:=@Nat.lt_irrefl
def Zm8:=@List.all_cons
def Zm9:=@Bool.not_true
def Zn0:=@Array.toList_extract
def Zn1:=@Nat.one_mul
def Zn2:=@and_true
def Zn3:=@List.length_nil
def Zn4:=@List.nodup_cons
def Zn5:=@List.getElem?_range
def Zn6:=@Nat.sub_self
def Zn7:=@Array.toList_setIfInBounds
def Zn8:=@Nat.mod_eq_sub_mod
def Zn9:=@Nat.eq_zero_or_pos
def Zo0:=@List.take_take
def Zo1:=@Array.toList_map
def Zo2:=@decide_false
def Zo3:=@beq_iff_eq
def Zo4:=@Nat.zero_mul
def Zo5:=@Nat.blt_eq
def Zo6:=@UInt8.toNat_inj
def Zo7:=@List.foldl_cons
namespace Go.Ai
section
inductive Pos where
 |h
 |o (p:Pos)
 |i (p:Pos)
 deriving DecidableEq,Inhabited
def Pos.toNat:Pos->Nat
 |.h=>1
 |.o p=>2*p.toNat
 |.i p=>2*p.toNat+1
def Pos.succ:Pos->Pos
 |.h=>.o .h
 |.o p=>.i p
 |.i p=>.o p.succ
def Pos.UT:Nat->Nat->Pos
 |0,_=>.h
 |  f+1,n=>match Nat.ble n 1 with
    |true=>.h
    |false=>match Nat.beq (n % 2) 0 with
     |true=>.o (Pos.UT f (n / 2))
     |false=>.i (Pos.UT f (n / 2))
def key(n:Nat):Pos:=Pos.UT (n+1).log2 (n+1)
def Pos.beq:Pos->Pos->Bool
 |.h,.h=>true
 |.o a,.o b=>a.beq b
 |.i a,.i b=>a.beq b
 |_,_=>false
inductive T(α:Type) where
 |e
 |n (l:T α) (v:Option α) (r:T α)
 deriving Inhabited
def T.get{α:Type}:Pos->T α->Option α
 |_,.e=>none
 |.h,.n _ v _=>v
 |.o p,.n l _ _=>l.get p
 |.i p,.n _ _ r=>r.get p
def T.put{α:Type}(x:Option α):Pos->T α->T α
 |.h,.e=>.n .e x .e
 |.h,.n l _ r=>.n l x r
 |.o p,.e=>.n (T.put x p .e) none .e
 |.o p,.n l v r=>.n (T.put x p l) v r
 |.i p,.e=>.n .e none (T.put x p .e)
 |.i p,.n l v r=>.n l v (T.put x p r)
inductive AV where
 |bool (b:Bool)
 |int (k:IntKind) (n:Int)
 |str (s:List Nat)
 |gR
 |ptr (b:Pos) (off:Nat)
 |fp (xs:List (List AV)) (i j:Nat)
 |aq
 |slice (b:Pos) (off len:Nat) (cap:Option Nat) (es:Nat)
 |fl (xs:List (List AV)) (es:Nat)
 |nZ
 |map (b:Pos)
 |func (f:FuncId) (first captured:List AV)
 |iQ
 |v8
 |iface (t:TypeId) (v:AV)
 |agg (l:List AV)
 |tuple (l:List AV)
 deriving Inhabited
inductive AB where
 |cells (cs:List AV) (fz:Nat)
 |map (es:List (AV×AV×Nat)) (clock:Nat)
 |iR (s:List Nat) (pos:Nat)
 |typed (t:TypeId) (cs:List AV)
 deriving Inhabited
def AV.cells:AV->List AV
 |.agg l=>l
 |v=>[v]
def AV.undef:AV:= .tuple []
def AV.one:AV->Bool
 |.agg _=>false
 |.tuple _=>false
 |_=>true
def aZ:List AV->Bool
 |[]=>true
 |  v::l=>match v.one with
    |true=>aZ l
    |false=>false
inductive ct where
 |val (v:AV)
 |aF (v:AV) (del:Option Pos) (set:Option (Pos×AB)) (new:Option AB)
 |call (f:FuncId) (args:List AV)
 deriving Inhabited
def nth{α:Type}:List α->Nat->Option α
 |[],_=>none
 |a::_,0=>some a
 |_::l,n+1=>nth l n
def cut{α:Type}(l:List α)(i n:Nat):Option (List α):=
 match Nat.ble (i+n) l.length with
 |true=>some ((l.drop i).take n)
 |false=>none
def aH{α:Type}(l:List α)(i:Nat)(vs:List α):List α:=l.take i++(vs++l.drop (i+vs.length))
def iy:List Nat->List Nat->Bool
 |[],[]=>true
 |  a::x,b::y=>match Nat.beq a b with
    |true=>iy x y
    |false=>false
 |_,_=>false
def aA:List Nat->List Nat->Bool
 |_,[]=>false
 |[],_::_=>true
 |  a::x,b::y=>match Nat.blt a b with
    |true=>true
    |false=>match Nat.beq a b with
     |true=>aA x y
     |false=>false
inductive PK where
 |b
 |i
 |s
 deriving Inhabited
inductive eY where
 |num
 |bool
 |ptr
 |slice
 |map
 |func
 |iface
 |struct (fs:List (Nat×PK))
 deriving Inhabited
inductive adD where
 |int (k:IntKind)
 |same
 |bytes
 |ofBytes
 deriving Inhabited
inductive LK where
 |s
 |l
 |m
 deriving Inhabited
inductive az where
 |move
 |pick
 |alloc (zero:List AV)
 |box
 |build (zero:List AV) (places:List (Nat×Nat))
 |buildSlice (es len:Nat) (zero:List AV) (places:List Nat)
 |load (n:Option Nat)
 |store (n:Nat)
 |nilCheck
 |bin (op:BinOp) (q:eY)
 |un (op:UnOp)
 |conv (k:adD)
 |mkIface (t:TypeId)
 |mkFunc (f:FuncId) (KG:Nat)
 |mkMap
 |lookup (pk:PK) (zero:AV) (ok:Bool)
 |mapSet (pk:PK)
 |mkSlice (es bytes:Nat) (zero:List AV)
 |sliceS (lo hi:Bool)
 |sliceL (es:Nat) (lo hi mx:Bool)
 |fieldA (off:Nat)
 |idxA (es:Nat) (arr:Option Nat)
 |field (off:Nat) (n:Option Nat)
 |idxS
 |extract (i:Nat)
 |callF (f:FuncId)
 |callV
 |lenB (k:LK)
 |capB
 |append (es bytes:Nat)
 |copyB (es:Nat)
 |minB
 |maxB
 |clearS (es:Nat) (zero:List AV)
 |rangeS
 |nextS
 |allocT (t:TypeId) (zero:List AV)
 |appendT (e:TypeId) (bytes:Nat)
 |toU
 |fromU (u:TypeId) (n:Nat)
 |sliceData
 |unsafeStr (e:TypeId)
 |bad
 deriving Inhabited
def UU(k:IntKind):Int:=match k with
 |.i8=> -128|.i16=> -32768|.i32=> -2147483648|.i64=> -9223372036854775808|_=>0
def UW(k:IntKind):Int:=match k with
 |.i8=>127|.i16=>32767|.i32=>2147483647|.i64=>9223372036854775807
 |.u8=>255|.u16=>65535|.u32=>4294967295|.u64=>18446744073709551615
def aD(k:IntKind)(n:Int):Int:=
 match Int.decLe (UU k) n with
 |  .isTrue _=>match Int.decLe n (UW k)with
    |.isTrue _=>n
    |.isFalse _=>k.wrap n
 |.isFalse _=>k.wrap n
def CS(a b:IntKind):Bool:=match decEq a b with
 |.isTrue _=>true
 |.isFalse _=>false
def AG(a b:Int):Bool:=match Int.decEq a b with
 |.isTrue _=>true
 |.isFalse _=>false
def EO(a b:Int):Bool:=match Int.decLt a b with
 |.isTrue _=>true
 |.isFalse _=>false
def Uw(a b:Int):Bool:=match Int.decLe a b with
 |.isTrue _=>true
 |.isFalse _=>false
def uE:PK->AV->AV->Option Bool
 |.b,.bool a,.bool b=>some (a==b)
 |  .i,.int k a,.int k' b=>match CS k k' with
    |true=>some (AG a b)
    |false=>none
 |.s,.str a,.str b=>some (iy a b)
 |_,_,_=>none
def eqFields(xs ys:List AV):List (Nat×PK)->Option Bool
 |[]=>some true
 |  (o,pk)::fs=>match nth xs o,nth ys o with
    | some a,some b=>match uE pk a b with
      |some true=>eqFields xs ys fs
      |some false=>some false
      |none=>none
    |_,_=>none
def FH:eY->AV->AV->Option Bool
 |.bool,.bool a,.bool b=>some (a==b)
 |.ptr,.gR,.gR=>some true
 |.ptr,.gR,.ptr _ _=>some false
 |.ptr,.ptr _ _,.gR=>some false
 |.ptr,.gR,.fp _ _ _=>some false
 |.ptr,.fp _ _ _,.gR=>some false
 |  .ptr,.ptr b o,.ptr b' o'=>match Pos.beq b b',Nat.beq o o' with
    |true,true=>some true
    |_,_=>none
 |.slice,.aq,.aq=>some true
 |.slice,.aq,.slice _ _ _ _ _=>some false
 |.slice,.slice _ _ _ _ _,.aq=>some false
 |.slice,.aq,.fl _ _=>some false
 |.slice,.fl _ _,.aq=>some false
 |.map,.nZ,.nZ=>some true
 |.map,.nZ,.map _=>some false
 |.map,.map _,.nZ=>some false
 |.func,.iQ,.iQ=>some true
 |.func,.iQ,.func _ _ _=>some false
 |.func,.func _ _ _,.iQ=>some false
 |.iface,.v8,.iface _ _=>some false
 |.iface,.iface _ _,.v8=>some false
 |.struct fs,.agg xs,.agg ys=>eqFields xs ys fs
 |_,_,_=>none
def mY (op:BinOp)(q:eY):AV->AV->Option AV
 |  .int k a,.int k' b=>match op with
    | .shl=>match EO b 0 with
      |true=>none
      |false=>some (.int k (aD k (a*2 ^ (min b.toNat k.bits))))
    | .shr=>match EO b 0 with
      |true=>none
      |false=>some (.int k (a.fdiv (2 ^ (min b.toNat k.bits))))
    | op=>match CS k k' with
      |false=>none
      | true=>match op with
        |.add=>some (.int k (aD k (a+b)))
        |.sub=>some (.int k (aD k (a - b)))
        |.mul=>some (.int k (aD k (a*b)))
        | .quo=>match AG b 0 with
          |true=>none
          |false=>some (.int k (aD k (a.tdiv b)))
        | .rem=>match AG b 0 with
          |true=>none
          |false=>some (.int k (a.tmod b))
        |.and=>some (.int k (k.wrap (BitVec.ofInt k.bits a &&& BitVec.ofInt k.bits b).toNat))
        |.or=>some (.int k (k.wrap (BitVec.ofInt k.bits a ||| BitVec.ofInt k.bits b).toNat))
        |.xor=>some (.int k (k.wrap (BitVec.ofInt k.bits a ^^^ BitVec.ofInt k.bits b).toNat))
        |.andNot=>some (.int k (k.wrap (BitVec.ofInt k.bits a &&& ~~~BitVec.ofInt k.bits b).toNat))
        |.eql=>some (.bool (AG a b))
        |.neq=>some (.bool (!AG a b))
        |.lss=>some (.bool (EO a b))
        |.leq=>some (.bool (Uw a b))
        |.gtr=>some (.bool (EO b a))
        |.geq=>some (.bool (Uw b a))
        |_=>none
 |  .str a,.str b=>match op with
    | .add=>match Nat.ble (a.length+b.length) 9223372036854775807 with
      |true=>some (.str (a++b))
      |false=>none
    |.eql=>some (.bool (iy a b))
    |.neq=>some (.bool (!iy a b))
    |.lss=>some (.bool (aA a b))
    |.leq=>some (.bool (aA a b||iy a b))
    |.gtr=>some (.bool (!(aA a b||iy a b)))
    |.geq=>some (.bool (!aA a b))
    |_=>none
 |  x,y=>match op with
    | .eql=>match FH q x y with
      |some b=>some (.bool b)
      |none=>none
    | .neq=>match FH q x y with
      |some b=>some (.bool (!b))
      |none=>none
    |_=>none
def unA(op:UnOp):AV->Option AV
 |  .bool b=>match op with
    |.not=>some (.bool (!b))
    |_=>none
 |  .int k n=>match op with
    |.neg=>some (.int k (aD k (0 - n)))
    |_=>none
 |_=>none
def bG(cells:List AV):List (Nat×Nat)->List AV->Option (List AV)
 |[],[]=>some cells
 |  (off,size)::ps,v::vs=>
    match Nat.beq v.cells.length size,Nat.ble (off+size) cells.length with
    |true,true=>bG (aH cells off v.cells) ps vs
    |_,_=>none
 |_,_=>none
def bF{α:Type}(l:List α):Nat->List α
 |0=>[]
 |n+1=>l++bF l n
def uF:AV->Option Nat
 |  .int _ n=>match n with
    |.ofNat m=>some m
    |.negSucc _=>none
 |_=>none
def HX(n:Nat):AV:= .int .i64 (.ofNat n)
def rows(es:Nat)(cs:List AV):Nat->List (List AV)
 |0=>[]
 |n+1=>cs.take es::rows es (cs.drop es) n
def bounds:(lo hi mx:Bool)->List AV->Option (Option Nat×Option Nat×Option Nat)
 |false,false,false,[]=>some (none,none,none)
 |  true,false,false,[a]=>match uF a with
    |some l=>some (some l,none,none)
    |none=>none
 |  false,true,false,[b]=>match uF b with
    |some h=>some (none,some h,none)
    |none=>none
 |  true,true,false,[a,b]=>match uF a,uF b with
    |some l,some h=>some (some l,some h,none)
    |_,_=>none
 |  false,true,true,[b,c]=>match uF b,uF c with
    |some h,some m=>some (none,some h,some m)
    |_,_=>none
 |  true,true,true,[a,b,c]=>match uF a,uF b,uF c with
    |some l,some h,some m=>some (some l,some h,some m)
    |_,_,_=>none
 |_,_,_,_=>none
def cq(es n:Nat)(H:Pos->Option AB):AV->Option (List AV)
 |.aq=>some []
 |  .slice b off _ _ _=>match Nat.beq (n*es) 0 with
    |true=>some []
    |false=>match H b with
     |some (.cells cs _)=>cut cs off (n*es)
     |_=>none
 |  .fl xs es'=>match Nat.beq es es',Nat.ble n xs.length with
    |true,true=>some (xs.take n).flatten
    |_,_=>none
 |  .str s=>match Nat.beq es 1,Nat.ble n s.length with
    |true,true=>some ((s.take n).map λc=>.int .u8 (.ofNat c))
    |_,_=>none
 |_=>none
def cS:AV->Option Nat
 |.aq=>some 0
 |.slice _ _ n _ _=>some n
 |.fl xs _=>some xs.length
 |.str s=>some s.length
 |_=>none
def iT(pk:PK)(k:AV):List (AV×AV×Nat)->Nat->Option (Option (Nat×AV))
 |[],_=>some none
 |  (k',v,_)::es,i=>match uE pk k k' with
    |some true=>some (some (i,v))
    |some false=>iT pk k es (i+1)
    |none=>none
def Y9:PK->AV->Bool
 |.b,.bool _=>true
 |.i,.int _ _=>true
 |.s,.str _=>true
 |_,_=>false
def mZ(k v:AV):List (AV×AV×Nat)->Nat->List (AV×AV×Nat)
 |[],_=>[]
 |(_,_,born)::es,0=>(k,v,born)::es
 |e::es,i+1=>e::mZ k v es i
def X0(s:List Nat)(pos:Nat):Option (Nat×Nat):=
 match nth s pos with
 |  some c=>match Nat.blt c 128 with
    |true=>some (c,1)
    |false=>none
 |none=>none
def bytesOf:List AV->Option (List Nat)
 |[]=>some []
 |  .int .u8 (.ofNat n)::l=>match Nat.blt n 256,bytesOf l with
    |true,some s=>some (n::s)
    |_,_=>none
 |_=>none
def MU(_H:Pos->Option AB)(_next:Pos):List AV->Option ct
 |[x]=>some (.val x)
 |_=>none
def Rj(_H:Pos->Option AB)(_next:Pos):List AV->Option ct
 |  [c,a,b]=>match c with
    |.bool true=>some (.val a)
    |.bool false=>some (.val b)
    |_=>none
 |_=>none
def HY(_H:Pos->Option AB)(next:Pos)(zero:List AV):List AV->Option ct
 |[]=>some (.aF (.ptr next 0) none none (some (.cells zero 0)))
 |_=>none
def Pz(_H:Pos->Option AB)(next:Pos):List AV->Option ct
 |[x]=>some (.aF (.ptr next 0) none none (some (.cells x.cells 0)))
 |_=>none
def HZ(_H:Pos->Option AB)(_next:Pos)(zero:List AV)(places:List (Nat×Nat)):List AV->Option ct
 |  xs=>match bG zero places xs with
    |some cs=>some (.val (.agg cs))
    |none=>none
def qu(_H:Pos->Option AB)(next:Pos)(es len:Nat)(zero:List AV)(places:List Nat):List AV->Option ct
 |  xs=>match bG (bF zero len) (places.map λi=>(i*es,es)) xs with
    |some cs=>some (.aF (.slice next 0 len (some len) es) none none (some (.cells cs 0)))
    |none=>none
def tK (H :Pos->Option AB)(_next:Pos)(n:Option Nat):List AV->Option ct
 |  [p] =>match p with
    | .ptr b off=>match H b with
      | some (.cells cs _)=>match n with
        | none=>match nth cs off with
          |some v=>some (.val v)
          |none=>none
        | some n=>match cut cs off n with
          |some vs=>some (.val (.agg vs))
          |none=>none
      | some (.typed _ cs)=>match n with
        | none=>match nth cs off with
          |some v=>some (.val v)
          |none=>none
        | some n=>match cut cs off n with
          |some vs=>some (.val (.agg vs))
          |none=>none
      |_=>none
    | .fp xs i j=>match nth xs i with
      | some cs=>match n with
        | none=>match nth cs j with
          |some v=>some (.val v)
          |none=>none
        | some n=>match cut cs j n with
          |some vs=>some (.val (.agg vs))
          |none=>none
      |none=>none
    |_=>none
 |_=>none
def CT (H:Pos->Option AB)(_next:Pos)(n:Nat):List AV->Option ct
 |  [p, v]=>match p with
    | .ptr b off=>match H b with
      | some (.cells cs fz)=>
        match Nat.beq v.cells.length n,Nat.ble (off+n) cs.length,Nat.ble fz off,aZ v.cells with
        |true,true,true,true=>some (.aF .undef none (some (b,.cells (aH cs off v.cells) fz)) none)
        |_,_,_,_=>none
      | some (.typed t cs)=>
        match Nat.beq v.cells.length n,Nat.ble (off+n) cs.length,aZ v.cells with
        |true,true,true=>some (.aF .undef none (some (b,.typed t (aH cs off v.cells))) none)
        |_,_,_=>none
      |_=>none
    |_=>none
 |_=>none
def FI(_H:Pos->Option AB)(_next:Pos):List AV->Option ct
 |  [x]=>match x with
    |.ptr _ _=>some (.val x)
    |.fp _ _ _=>some (.val x)
    |.func _ _ _=>some (.val x)
    |_=>none
 |_=>none
def gS(_H:Pos->Option AB)(_next:Pos)(op:BinOp)(q:eY):List AV->Option ct
 |  [x,y]=>match mY op q x y with
    |some v=>some (.val v)
    |none=>none
 |_=>none
def Za(_H:Pos->Option AB)(_next:Pos)(op:UnOp):List AV->Option ct
 |  [x]=>match unA op x with
    |some v=>some (.val v)
    |none=>none
 |_=>none
def Ac (H:Pos->Option AB)(next:Pos)(k:adD):List AV->Option ct
 |  [x] =>match k,x with
    |.int k,.int _ n=>some (.val (.int k (aD k n)))
    |.same,.str s=>some (.val (.str s))
    |.bytes,.str s=>some (.aF (.slice next 0 s.length none 1) none none (some (.cells (s.map λc=>.int .u8 (.ofNat c)) 0)))
    |.ofBytes,.aq=>some (.val (.str []))
    | .ofBytes,.slice b off n _ _=>match Nat.beq n 0 with
      |true=>some (.val (.str []))
      | false=>match H b with
        |some (.cells cs _)=>match cut cs off n with
         |some l=>match bytesOf l with
          |some s=>some (.val (.str s))
          |none=>none
         |none=>none
        |_=>none
    |_,_=>none
 |_=>none
def H6(_H:Pos->Option AB)(_next:Pos)(t:TypeId):List AV->Option ct
 |[x]=>some (.val (.iface t x))
 |_=>none
def EP(_H:Pos->Option AB)(_next:Pos)(f:FuncId)(KG:Nat):List AV->Option ct
 |xs=>some (.val (.func f (xs.take KG) (xs.drop KG)))
def H7(_H:Pos->Option AB)(next:Pos):List AV->Option ct
 |_=>some (.aF (.map next) none none (some (.map [] 0)))
def wM (H:Pos->Option AB)(_next:Pos)(pk:PK)(zero:AV)(ok:Bool):List AV->Option ct
 |  [m, k]=>
    match (match m with
      | .nZ=>match Y9 pk k with
        |true=>some none
        |false=>none
      | .map b=>match H b with
        |some (.map es _)=>iT pk k es 0
        |_=>none
      |_=>none)with
    |some (some (_,v))=>some (.val (match ok with|true=>.tuple [v,.bool true]|false=>v))
    |some none=>some (.val (match ok with|true=>.tuple [zero,.bool false]|false=>zero))
    |none=>none
 |_=>none
def wN (H:Pos->Option AB)(_next:Pos)(pk:PK):List AV->Option ct
 |  [m, k,v]=>match m with
    | .map b=>match H b with
      | some (.map es clock)=>match Y9 pk k,iT pk k es 0 with
        |true,some (some (i,_))=>some (.aF .undef none (some (b,.map (mZ k v es i) clock)) none)
        |true,some none=>some (.aF .undef none (some (b,.map (es++[(k,v,clock)]) (clock+1))) none)
        |_,_=>none
      |_=>none
    |_=>none
 |_=>none
def yg(_H:Pos->Option AB)(next:Pos)(es bytes:Nat)(zero:List AV):List AV->Option ct
 |  [l,c]=>match uF l,uF c with
    | some l,some c=>match Nat.ble l c,Nat.ble (bytes*c) 281474976710656,Nat.ble c 9223372036854775807 with
      |true,true,true=>some (.aF (.slice next 0 l (some c) es) none none (some (.cells (bF zero c) 0)))
      |_,_,_=>none
    |_,_=>none
 |_=>none
def KH(_H:Pos->Option AB)(_next:Pos)(lo hi:Bool):List AV->Option ct
 |  x ::bs=>match x,bounds lo hi false bs with
    | .str s,some (l,h,_)=>
      let h:=h.getD s.length
      let l:=l.getD 0
      match Nat.ble l h,Nat.ble h s.length with
      |true,true=>some (.val (.str ((s.take h).drop l)))
      |_,_=>none
    |_,_=>none
 |_=>none
def oT (_H:Pos->Option AB)(_next:Pos)(es:Nat)(lo hi mx:Bool):List AV->Option ct
 |  x ::bs=>match x,bounds lo hi mx bs with
    | .slice b off len cap es',some (l,h,m)=>
      match Nat.beq es es',Nat.ble (l.getD 0) (h.getD len)with
      | true,true=>match cap,m with
        | some c,some m=>match Nat.ble (h.getD len) m,Nat.ble m c with
          |true,true=>some (.val (.slice b (off+l.getD 0*es) (h.getD len - l.getD 0) (some (m - l.getD 0)) es))
          |_,_=>none
        | some c,none=>match Nat.ble (h.getD len) c with
          |true=>some (.val (.slice b (off+l.getD 0*es) (h.getD len - l.getD 0) (some (c - l.getD 0)) es))
          |false=>none
        | none,some m=>match Nat.ble (h.getD len) m,Nat.ble m len with
          |true,true=>some (.val (.slice b (off+l.getD 0*es) (h.getD len - l.getD 0) (some (m - l.getD 0)) es))
          |_,_=>none
        | none,none=>match Nat.ble (h.getD len) len with
          |true=>some (.val (.slice b (off+l.getD 0*es) (h.getD len - l.getD 0) none es))
          |false=>none
      |_,_=>none
    | .fl xs es',some (l,h,m)=>
      match Nat.beq es es' with
      | true=>match m with
        | some m=>match Nat.beq (l.getD 0) 0,Nat.beq (h.getD xs.length) 0,Nat.beq m 0 with
          |true,true,true=>some (.val (.slice .h 0 0 (some 0) es))
          |_,_,_=>none
        | none=>match Nat.ble (l.getD 0) (h.getD xs.length),Nat.ble (h.getD xs.length) xs.length with
          |true,true=>some (.val (.fl ((xs.take (h.getD xs.length)).drop (l.getD 0)) es))
          |_,_=>none
      |false=>none
    | .aq,some (l,h,m)=>match Nat.beq (l.getD 0) 0,Nat.beq (h.getD 0) 0,Nat.beq (m.getD 0) 0 with
        |true,true,true=>some (.val .aq)
        |_,_,_=>none
    |_,_=>none
 |_=>none
def KI(_H:Pos->Option AB)(_next:Pos)(off:Nat):List AV->Option ct
 |  [x]=>match x with
    |.ptr b o=>some (.val (.ptr b (o+off)))
    |.fp xs i j=>some (.val (.fp xs i (j+off)))
    |_=>none
 |_=>none
def mD (_H:Pos->Option AB)(_next:Pos)(es:Nat)(arr:Option Nat):List AV->Option ct
 |  [x, i]=>match uF i with
    | some i=>match arr,x with
      | none,.slice b off len _ _=>match Nat.blt i len with
        |true=>some (.val (.ptr b (off+i*es)))
        |false=>none
      | none,.fl xs es'=>match Nat.blt i xs.length,Nat.beq es es' with
        |true,true=>some (.val (.fp xs i 0))
        |_,_=>none
      | some n,.ptr b off=>match Nat.blt i n with
        |true=>some (.val (.ptr b (off+i*es)))
        |false=>none
      |_,_=>none
    |none=>none
 |_=>none
def Ov (_H:Pos->Option AB)(_next:Pos)(off:Nat)(n:Option Nat):List AV->Option ct
 |  [x] =>match x with
    | .agg cs=>match n with
      | none=>match nth cs off with
        |some v=>some (.val v)
        |none=>none
      |some n=>some (.val (.agg ((cs.drop off).take n)))
    |_=>none
 |_=>none
def MV(_H:Pos->Option AB)(_next:Pos):List AV->Option ct
 |  [x,i]=>match x,uF i with
    | .str s,some i=>match nth s i with
      |some c=>some (.val (.int .u8 (.ofNat c)))
      |none=>none
    |_,_=>none
 |_=>none
def Cp(_H:Pos->Option AB)(_next:Pos)(i:Nat):List AV->Option ct
 |  [x]=>match x with
    | .tuple vs=>match nth vs i with
      |some v=>some (.val v)
      |none=>none
    |_=>none
 |_=>none
def Ow(_H:Pos->Option AB)(_next:Pos)(f:FuncId):List AV->Option ct
 |xs=>some (.call f xs)
def Ox(_H:Pos->Option AB)(_next:Pos):List AV->Option ct
 |  x::xs=>match x with
    |.func f first captured=>some (.call f (first++(xs++captured)))
    |_=>none
 |_=>none
def GL(H:Pos->Option AB)(_next:Pos)(k:LK):List AV->Option ct
 |  [x]=>match k,x with
    |.m,.nZ=>some (.val (HX 0))
    | .m,.map b=>match H b with
      |some (.map es _)=>some (.val (HX es.length))
      |_=>none
    |.s,.str s=>some (.val (HX s.length))
    |.l,.aq=>some (.val (HX 0))
    |.l,.slice _ _ n _ _=>some (.val (HX n))
    |.l,.fl xs _=>some (.val (HX xs.length))
    |_,_=>none
 |_=>none
def fk (H:  Pos->Option AB)(next:Pos)(es bytes:Nat):List AV->Option ct
 |  [s, x]=> match cS s,cS x with
    | some n,some m=>
      match Nat.ble ((2*(n+m)+768)*bytes) 281474976710656,Nat.ble (n+m) 9223372036854775807 with
      | true,true=>match Nat.beq m 0,s with
        |true,.slice b off n c es'=>some (.val (.slice b off n c es'))
        |true,.fl xs es'=>some (.val (.fl xs es'))
        |true,.aq=>some (.val .aq)
        |false,.aq=>match cq es m H x with
         |some new=>some (.aF (.slice next 0 m none es) none none (some (.cells new 0)))
         |none=>none
        |false,.slice b off n (some c) es'=>
         match Nat.ble (n+m) c with
         |  true=>match H b,cq es m H x with
            |some (.cells cs fz),some new=>match Nat.ble (off+(n+m)*es) cs.length,Nat.ble fz (off+n*es)&&Nat.beq es es',aZ new with
             |true,true,true=>some (.aF (.slice b off (n+m) (some c) es) none (some (b,.cells (aH cs (off+n*es) new) fz)) none)
             |_,_,_=>none
            |_,_=>none
         |  false=>match cq es n H s,cq es m H x with
            |some dA,some new=>some (.aF (.slice next 0 (n+m) none es) none none (some (.cells (dA++new) 0)))
            |_,_=>none
        |false,.slice b off n none es'=>
         match H b,cq es n H s,cq es m H x with
         |  some (.cells _ fz),some dA,some new=>match Nat.ble fz (off+n*es)&&Nat.beq es es',aZ new with
            |true,true=>some (.aF (.slice next 0 (n+m) none es) (some b) none (some (.cells (dA++new) (fz - off))))
            |_,_=>none
         |_,_,_=>none
        |_,_=>none
      |_,_=>none
    |_,_=>none
 |_=>none
def Ad (H : Pos->Option AB)(_next:Pos)(es:Nat):List AV->Option ct
 |  [d, x]=>match cS d,cS x with
    | some n,some m=>
      let k:=min m n
      match Nat.beq k 0 with
      | true=>match d with
        |.str _=>none
        |_=>some (.val (HX 0))
      | false=>match d with
        | .slice b off _ _ _=>match H b,cq es k H x with
          | some (.cells cs fz),some new=>match Nat.ble (off+k*es) cs.length,Nat.ble fz off,aZ new with
            |true,true,true=>some (.aF (HX k) none (some (b,.cells (aH cs off new) fz)) none)
            |_,_,_=>none
          |_,_=>none
        |_=>none
    |_,_=>none
 |_=>none
def CI(_H:Pos->Option AB)(_next:Pos):List AV->Option ct
 |  [x,y]=>match x,y with
    |.int k a,.int _ b=>some (.val (.int k (match EO b a with|true=>b|false=>a)))
    |.str a,.str b=>some (.val (.str (match aA a b||iy a b with|true=>a|false=>b)))
    |_,_=>none
 |_=>none
def CJ(_H:Pos->Option AB)(_next:Pos):List AV->Option ct
 |  [x,y]=>match x,y with
    |.int k a,.int _ b=>some (.val (.int k (match EO a b with|true=>b|false=>a)))
    |.str a,.str b=>some (.val (.str (match aA a b with|true=>b|false=>a)))
    |_,_=>none
 |_=>none
def wO (H:Pos->Option AB)(_next:Pos)(es:Nat)(zero:List AV):List AV->Option ct
 |  [x] =>match x with
    |.aq=>some (.val .undef)
    | .slice b off n _ _=>match Nat.beq n 0 with
      |true=>some (.val .undef)
      | false=>match H b with
        |some (.cells cs fz)=>match Nat.ble (off+n*es) cs.length,Nat.ble fz off,aZ (bF zero n)with
         |true,true,true=>some (.aF .undef none (some (b,.cells (aH cs off (bF zero n)) fz)) none)
         |_,_,_=>none
        |_=>none
    |_=>none
 |_=>none
def ER(_H:Pos->Option AB)(next:Pos):List AV->Option ct
 |  [x]=>match x with
    |.str s=>some (.aF (.ptr next 0) none none (some (.iR s 0)))
    |_=>none
 |_=>none
def H8 (H:Pos->Option AB)(_next:Pos):List AV->Option ct
 |  [x] =>match x with
    | .ptr b 0=>match H b with
      | some (.iR s pos)=>match Nat.blt pos s.length with
        |true=>match X0 s pos with
         |some (c,w)=>some (.aF (.tuple [.bool true,HX pos,.int .i32 (.ofNat c)]) none (some (b,.iR s (pos+w))) none)
         |none=>none
        |false=>some (.val (.tuple [.bool false]))
      |_=>none
    |_=>none
 |_=>none
def ES(_H:Pos->Option AB)(next:Pos)(t:TypeId)(zero:List AV):List AV->Option ct
 |[]=>some (.aF (.ptr next 0) none none (some (.typed t zero)))
 |_=>none
def tL (H:Pos->Option AB)(next:Pos)(e:TypeId)(bytes:Nat):List AV->Option ct
 |  [s, x]=> match x with
    | .str u=>match s with
      | .aq=>match Nat.ble ((2*(0+u.length)+768)*bytes) 281474976710656,Nat.ble (0+u.length) 9223372036854775807 with
        |true,true=>match Nat.beq u.length 0 with
         |true=>some (.val .aq)
         |false=>some (.aF (.slice next 0 (0+u.length) none 1) none none (some (.typed e (u.map λc=>.int .u8 (.ofNat c)))))
        |_,_=>none
      | .slice b 0 n none 1=>match Nat.ble ((2*(n+u.length)+768)*bytes) 281474976710656,Nat.ble (n+u.length) 9223372036854775807 with
        |true,true=>match Nat.beq u.length 0 with
         |true=>some (.val (.slice b 0 n none 1))
         |false=>match H b with
          |  some (.typed e' cs)=>match Nat.beq e e',cut cs 0 n with
             |true,some dA=>some (.aF (.slice next 0 (n+u.length) none 1) (some b) none (some (.typed e (dA++u.map λc=>.int .u8 (.ofNat c)))))
             |_,_=>none
          |_=>none
        |_,_=>none
      |_=>none
    |_=>none
 |_=>none
def PA (H:Pos->Option AB)(_next:Pos):List AV->Option ct
 |  [x] =>match x with
    |.gR=>some (.val .gR)
    | .ptr b off=>match H b with
      | some (.typed _ cs)=>match Nat.blt off cs.length with
        |true=>some (.val (.ptr b off))
        |false=>none
      |_=>none
    |_=>none
 |_=>none
def H9 (H:Pos->Option AB)(_next:Pos)(u:TypeId)(n:Nat):List AV->Option ct
 |  [x] =>match x with
    |.gR=>some (.val .gR)
    | .ptr b 0=>match H b with
      | some (.typed t cs)=>match Nat.beq t u,Nat.ble n cs.length with
        |true,true=>some (.val (.ptr b 0))
        |_,_=>none
      |_=>none
    |_=>none
 |_=>none
def rU(_H:Pos->Option AB)(_next:Pos):List AV->Option ct
 |  [x]=>match x with
    |.aq=>some (.val .gR)
    | .slice b off n _ _=>match Nat.beq n 0 with
      |true=>none
      |false=>some (.val (.ptr b off))
    |_=>none
 |_=>none
def n6 (H :Pos->Option AB)(_next:Pos)(e:TypeId):List AV->Option ct
 |  [x, y]=> match y with
    | .int .i64 (.ofNat n)=>match Nat.beq n 0 with
      | true=>match x with
        |.gR=>some (.val (.str []))
        |.ptr _ _=>some (.val (.str []))
        |_=>none
      | false=>match x with
        | .ptr b 0=>match H b with
          |some (.typed e' cs)=>match Nat.beq e e',cut cs 0 n,Nat.ble n 9223372036854775807 with
           | true,some l,true=>match bytesOf l with
             |some s=>some (.aF (.str s) (some b) none none)
             |none=>none
           |_,_,_=>none
          |_=>none
        |_=>none
    |_=>none
 |_=>none
def az.run(H:Pos->Option AB)(next:Pos):az->List AV->Option ct
 |.move=>MU H next
 |.pick=>Rj H next
 |.alloc zero=>HY H next zero
 |.box=>Pz H next
 |.build zero places=>HZ H next zero places
 |.buildSlice es len zero places=>qu H next es len zero places
 |.load n=>tK H next n
 |.store n=>CT H next n
 |.nilCheck=>FI H next
 |.bin op q=>gS H next op q
 |.un op=>Za H next op
 |.conv k=>Ac H next k
 |.mkIface t=>H6 H next t
 |.mkFunc f KG=>EP H next f KG
 |.mkMap=>H7 H next
 |.lookup pk zero ok=>wM H next pk zero ok
 |.mapSet pk=>wN H next pk
 |.mkSlice es bytes zero=>yg H next es bytes zero
 |.sliceS lo hi=>KH H next lo hi
 |.sliceL es lo hi mx=>oT H next es lo hi mx
 |.fieldA off=>KI H next off
 |.idxA es arr=>mD H next es arr
 |.field off n=>Ov H next off n
 |.idxS=>MV H next
 |.extract i=>Cp H next i
 |.callF f=>Ow H next f
 |.callV=>Ox H next
 |.lenB k=>GL H next k
 |.append es bytes=>fk H next es bytes
 |.copyB es=>Ad H next es
 |.minB=>CI H next
 |.maxB=>CJ H next
 |.clearS es zero=>wO H next es zero
 |.rangeS=>ER H next
 |.nextS=>H8 H next
 |.allocT t zero=>ES H next t zero
 |.appendT e bytes=>tL H next e bytes
 |.toU=>PA H next
 |.fromU u n=>H9 H next u n
 |.sliceData=>rU H next
 |.unsafeStr e=>n6 H next e
 |.capB=>λ_=>none
 |.bad=>λ_=>none
inductive dM where
 |t (p:Pos)
 |c (v:AV)
 deriving Inhabited
inductive X1 where
 |pure
 |read
 |new
 |aF
 deriving Inhabited
structure bg where
 dst:Option Pos
 k:az
 xs:List dM
 guard:Option (Pos×Bool)
 cls:X1
 bA:Nat
 deriving Inhabited
inductive AC where
 |skip
 |region (ops:List bg)
 |draw (ops:List (Nat×bg))
 |seq (a b:AC)
 |cond (x:dM) (a b:AC)
 |block (id:Nat) (a:AC)
 |loop (a:AC)
 |exit (id:Nat)
 |ret
 deriving Inhabited
inductive AP where
 |tmp (p:Pos)
 |cell (p:Pos) (n:Option Nat)
 deriving Inhabited
structure cw where
 code:AC
 nparams:Nat
 results:List AP
 deriving Inhabited
abbrev Fr:=T AV
structure St where
 heap:T AB
 next:Pos
 deriving Inhabited
inductive iU where
 |normal
 |exit (id:Nat)
 |ret
 deriving Inhabited
def AQ(fr:Fr):dM->Option AV
 |.t p=>fr.get p
 |.c v=>some v
def dN(fr:Fr):List dM->Option (List AV)
 |[]=>some []
 |  x::xs=>match AQ fr x with
    |some v=>match dN fr xs with
     |some vs=>some (v::vs)
     |none=>none
    |none=>none
def bI(fr:Fr):Option (Pos×Bool)->Option Bool
 |none=>some true
 |  some (p,want)=>match fr.get p with
    |some (.bool b)=>some (b==want)
    |some (.tuple _)=>some false
    |_=>none
def cM(fr:Fr)(d:Option Pos)(v:AV):Fr:=match d with
 |some p=>fr.put (some v) p
 |none=>fr
def Ia(o:Option (Pos×AB))(h:T AB):T AB:=match o with
 |some (b,x)=>h.put (some x) b
 |none=>h
def FJ(o:Option Pos)(h:T AB):T AB:=match o with
 |some b=>h.put none b
 |none=>h
def St.aF(st:St)(del:Option Pos)(set:Option (Pos×AB))(new:Option AB):St:=
 match new with
 |some x=>{ heap:=T.put (some x) st.next (Ia set (FJ del st.heap)),next:=st.next.succ }
 |none=>{ heap:=Ia set (FJ del st.heap),next:=st.next }
abbrev ah:=FuncId->List AV->St->Option (AV×St)
def aV(call:ah)(k:az)(xs:List AV)(st:St):Option (AV×St):=
 match k.run (λb=>st.heap.get b) st.next xs with
 |some (.val v)=>some (v,st)
 |some (.aF v del set new)=>some (v,st.aF del set new)
 |some (.call f args)=>call f args st
 |none=>none
def iJ (call:ah):List bg->Fr->St->Option (Fr×St)
 |[],fr,st=>some (fr,st)
 |  o::os,fr,st=>match bI fr o.guard with
    |some true=>match dN fr o.xs with
     |  some xs=>match aV call o.k xs st with
        |some (v,st')=>iJ call os (cM fr o.dst v) st'
        |none=>none
     |none=>none
    |some false=>iJ call os (cM fr o.dst .undef) st
    |none=>none
def jK:AV->AV->Bool
 |.bool a,.bool b=>a==b
 |.int k a,.int k' b=>CS k k'&&AG a b
 |.str a,.str b=>iy a b
 |.gR,.gR=>true
 |.ptr b o,.ptr b' o'=>Pos.beq b b'&&Nat.beq o o'
 |.aq,.aq=>true
 |.slice b o l none es,.slice b' o' l' none es'=>Pos.beq b b'&&Nat.beq o o'&&Nat.beq l l'&&Nat.beq es es'
 |.slice b o l (some c) es,.slice b' o' l' (some c') es'=>Pos.beq b b'&&Nat.beq o o'&&Nat.beq l l'&&Nat.beq c c'&&Nat.beq es es'
 |.nZ,.nZ=>true
 |.map b,.map b'=>Pos.beq b b'
 |.iQ,.iQ=>true
 |.v8,.v8=>true
 |_,_=>false
def v9:List AV->List AV->Bool
 |[],[]=>true
 |a::x,b::y=>jK a b&&v9 x y
 |_,_=>false
def ET(f:AV->AV->Bool):List AV->List AV->Bool
 |[],[]=>true
 |a::x,b::y=>f a b&&ET f x y
 |_,_=>false
def wP(f:AV->AV->Bool):List (List AV)->List (List AV)->Bool
 |[],[]=>true
 |a::x,b::y=>ET f a b&&wP f x y
 |_,_=>false
def EU:Nat->AV->AV->Bool
 |d+1,.fl a n,.fl a' n'=>wP (EU d) a a'&&Nat.beq n n'
 |_,a,b=>jK a b
def wQ:AV->AV->Bool
 |.func f a b,.func f' a' b'=>Nat.beq f f'&&v9 a a'&&v9 b b'
 |.fl a n,.fl a' n'=>EU 3 (.fl a n) (.fl a' n')
 |a,b=>jK a b
def rV:List AV->List AV->Bool
 |[],[]=>true
 |a::x,b::y=>wQ a b&&rV x y
 |_,_=>false
def fC:AV->AV->Bool
 |.agg l,.agg l'=>rV l l'
 |.tuple l,.tuple l'=>rV l l'
 |a,b=>wQ a b
inductive RC where
 |pure
 |new (id:Pos) (ay:AB)
 |aF (base:T AB) (h:T AB)
 deriving Inhabited
structure Rec where
 idx:Nat
 o:bg
 v:AV
 c:RC
 nx:Pos
 deriving Inhabited
def snap(bA:Nat)(h:T AB):List Rec->T AB
 |[]=>h
 |  r ::rs=>match r.c with
    | .new id ay=>match bA.testBit r.idx with
      |true=>(snap bA h rs).put (some ay) id
      |false=>snap bA h rs
    |.aF _ _=>h
    |.pure=>snap bA h rs
def vR:List (Pos×AB)->T AB->T AB
 |[],h=>h
 |(id,ay)::l,h=>(vR l h).put (some ay) id
def mE(k:az)(xs:List AV)(v:AV)(h:T AB):Bool:=
 match k.run (λb=>h.get b) .h xs with
 |some (.val u)=>fC u v
 |_=>false
def jL(bA:Nat)(k:az)(xs:List AV)(v:AV):List (Pos×AB)->List Rec->Bool
 |_,[]=>true
 |  up,r::rs=>match r.c with
    | .new id ay=>match bA.testBit r.idx with
      |true=>jL bA k xs v ((id,ay)::up) rs
      |false=>jL bA k xs v up rs
    | .aF base _=>match bA.testBit r.idx with
      |true=>true
      |false=>mE k xs v (vR up (snap bA base rs))&&jL bA k xs v up rs
    |.pure=>jL bA k xs v up rs
def cH (call:ah):List (Nat×bg)->List Rec->T AB->Fr->St->Option (Fr×St)
 |[],_,_,fr,st=>some (fr,st)
 |  (j, o)::os,recs,base,fr,st=>match bI fr o.guard with
    |some false=>cH call os ({ idx:=j,o:=o,v:= .undef,c:= .pure,nx:=st.next }::recs) base (cM fr o.dst .undef) st
    | some true=>match dN fr o.xs with
      |none=>none
      | some xs=>match o.cls with
        | .new=>match o.k.run (λ_=>none) st.next xs with
          |some (.aF v none none (some ay))=>
           cH call os ({ idx:=j,o:=o,v:=v,c:= .new st.next ay,nx:=st.next.succ }::recs) base (cM fr o.dst v) { heap:=st.heap.put (some ay) st.next,next:=st.next.succ }
          |_=>none
        | .aF=>match aV call o.k xs st with
          |some (v,st')=>cH call os ({ idx:=j,o:=o,v:=v,c:= .aF base st'.heap,nx:=st'.next }::recs) st'.heap (cM fr o.dst v) st'
          |none=>none
        | _=>match o.k.run (λ_=>none) .h xs with
          |some (.val v)=>cH call os ({ idx:=j,o:=o,v:=v,c:= .pure,nx:=st.next }::recs) base (cM fr o.dst v) st
          |_=>match o.k.run (λb=>(snap o.bA base recs).get b) .h xs with
           |some (.val v)=>match jL o.bA o.k xs v [] recs with
            |true=>cH call os ({ idx:=j,o:=o,v:=v,c:= .pure,nx:=st.next }::recs) base (cM fr o.dst v) st
            |false=>none
           |_=>none
    |none=>none
def aW(call:ah)(ih:AC->Fr->St->Option (iU×Fr×St)):AC->Fr->St->Option (iU×Fr×St)
 |.skip,fr,st=>some (.normal,fr,st)
 |  .region ops,fr,st=>match iJ call ops fr st with
    |some (fr,st)=>some (.normal,fr,st)
    |none=>none
 |  .draw ops,fr,st=>match cH call ops [] st.heap fr st with
    |some (fr,st)=>some (.normal,fr,st)
    |none=>none
 |  .seq a b,fr,st=>match ih a fr st with
    |some (.normal,fr,st)=>ih b fr st
    |r=>r
 |  .cond x a b,fr,st=>match AQ fr x with
    |some (.bool true)=>ih a fr st
    |some (.bool false)=>ih b fr st
    |_=>none
 |  .block id a,fr,st=>match ih a fr st with
    |some (.exit ru,fr,st)=>match Nat.beq ru id with
     |true=>some (.normal,fr,st)
     |false=>some (.exit ru,fr,st)
    |r=>r
 |  .loop a,fr,st=>match ih a fr st with
    |some (.normal,fr,st)=>ih (.loop a) fr st
    |r=>r
 |.exit id,fr,st=>some (.exit id,fr,st)
 |.ret,fr,st=>some (.ret,fr,st)
def exec(call:ah):Nat->AC->Fr->St->Option (iU×Fr×St)
 |0=>λ_ _ _=>none
 |n+1=>aW call (exec call n)
def params:Nat->List AV->Fr->Fr
 |_,[],fr=>fr
 |i,v::vs,fr=>params (i+1) vs (fr.put (some v) (key i))
def cu (H:Pos->Option AB)(fr:Fr):List AP->Option (List AV)
 |[]=>some []
 |  .tmp p::rs=>match fr.get p with
    |some v=>match cu H fr rs with
     |some vs=>some (v::vs)
     |none=>none
    |none=>none
 |  .cell p n::rs=>match fr.get p with
    |some q=>match (az.load n).run H .h [q]with
     |  some (.val v)=>match cu H fr rs with
        |some vs=>some (v::vs)
        |none=>none
     |_=>none
    |none=>none
def fR:List AV->AV
 |[v]=>v
 |vs=>.tuple vs
abbrev dS:=FuncId->Option (List AV->St->Option (AV×St))
def pE (O:dS)(G:T cw)(m:Nat):Nat->ah
 |0=>λ_ _ _=>none
 |  d+  1=>λf args st=>match O f with
    |some s=>s args st
    |none=>match G.get (key f)with
     |  some F=>match Nat.beq args.length F.nparams with
        |true=>match exec (pE O G m d) m F.code (params 0 args .e) st with
         |some (.normal,fr,st')=>match cu (λb=>st'.heap.get b) fr F.results with
          |some vs=>some (fR vs,st')
          |none=>none
         |some (.ret,fr,st')=>match cu (λb=>st'.heap.get b) fr F.results with
          |some vs=>some (fR vs,st')
          |none=>none
         |_=>none
        |false=>none
     |none=>none
inductive TK where
 |bool
 |int (k:IntKind)
 |string
 |ptr (elem:Nat)
 |slice (elem:Nat)
 |array (n elem:Nat)
 |map (k e:Nat)
 |struct (fs:List (Nat×Nat×Bool))
 |func
 |iface
 |upt
 |other
 deriving Inhabited
structure TI where
 k:TK
 size:Nat
 bytes:Nat
 zero:Option (List AV)
 vS:Bool:=false
 deriving Inhabited
def Ib:Value->Option AV
 |.bool b=>some (.bool b)
 |.int k n=>some (.int k n)
 |.string s=>some (.str (s.data.toList.map UInt8.toNat))
 |.pointer none=>some .gR
 |.slice none 0 0=>some .aq
 |.map none=>some .nZ
 |.func (.func f) ⟨[]⟩ ⟨[]⟩=>some (.func f [] [])
 |.nilFunc=>some .iQ
 |.nilIface=>some .v8
 |_=>none
def mP:List Value->Option (List AV)
 |[]=>some []
 |  v::vs=>match Ib v,mP vs with
    |some a,some as=>some (a::as)
    |_,_=>none
def Rk:Value->Option AV
 |  .agg cs=>match mP cs.toList with
    |some l=>some (.agg l)
    |none=>none
 |v=>Ib v
def jV:Operand->Option dM
 |.tmp t=>some (.t (key t))
 |  .const v=>match Rk v with
    |some a=>some (.c a)
    |none=>none
 |.func f=>some (.c (.func f [] []))
 |.global _=>none
def iI:List Operand->Option (List dM)
 |[]=>some []
 |  x::xs=>match jV x,iI xs with
    |some a,some as=>some (a::as)
    |_,_=>none
def TK.isAgg:TK->Bool
 |.struct _=>true
 |.array _ _=>true
 |_=>false
abbrev TT:=T TI
def yh(tt:TT)(t:Nat):Option eY:=match tt.get (key t)with
 |  some ti=>match ti.k with
    |.bool=>some .bool
    |.int _=>some .num
    |.string=>some .num
    |.ptr _=>some .ptr
    |.slice _=>some .slice
    |.map _ _=>some .map
    |.func=>some .func
    |.iface=>some .iface
    | .struct fs=>match ti.vS,fields fs with
      |true,some l=>some (.struct l)
      |_,_=>none
    |_=>none
 |none=>none
where
 fields:List (Nat×Nat×Bool)->Option (List (Nat×PK))
  |[]=>some []
  |(off,t,named)::fs=>match named,tt.get (key t),fields fs with
   |true,some ti,some l=>match ti.k with
    |.bool=>some ((off,.b)::l)
    |.int _=>some ((off,.i)::l)
    |.string=>some ((off,.s)::l)
    |_=>none
   |_,_,_=>none
def yj(ti:TI):Option Nat:=match ti.k.isAgg with
 |true=>some ti.size
 |false=>none
def afF(tt:TT)(t:Nat)(ti:TI):Bool:=match ti.k with
 |  .struct ((_,p,_)::_)=>match tt.get (key p)with
    |some pi=>match pi.k with
     |.ptr e=>Nat.beq e t
     |_=>false
    |none=>false
 |_=>false
def yl:Option Operand->List Operand
 |some x=>[x]
 |none=>[]
def fo (tt:TT):Op->Option (az×List dM×X1)
 |  .move x=>match jV x with
    |some a=>some (.move,[a],.pure)
    |none=>none
 |  .assign x=>match jV x with
    |some a=>some (.move,[a],.pure)
    |none=>none
 |  .pick c a b=>match iI [c,a,b]with
    |some l=>some (.pick,l,.pure)
    |none=>none
 |  .alloc t=>match tt.get (key t)with
    |some ti=>match ti.zero with
     |  some z=>match afF tt t ti with
        |true=>some (.allocT t z,[],.aF)
        |false=>some (.alloc z,[],.new)
     |none=>none
    |none=>none
 |  .box _ x=>match jV x with
    |some a=>some (.box,[a],.new)
    |none=>none
 |  .build t ps=>match tt.get (key t),iI (ps.toList.map (·.2))with
    |some ti,some l=>match ti.k,ti.zero with
     |  .struct fs,some z=>match places tt fs (ps.toList.map (·.1)),Ux tt fs with
        |some p,true=>some (.build z p,l,.pure)
        |_,_=>none
     |  .array _ e,some z=>match tt.get (key e)with
        |some te=>some (.build z (ps.toList.map λx=>(x.1*te.size,te.size)),l,.pure)
        |none=>none
     |_,_=>none
    |_,_=>none
 |  .buildSlice t len ps=>match tt.get (key t),iI (ps.toList.map (·.2))with
    |some ti,some l=>match ti.k with
     |  .slice e=>match tt.get (key e)with
        | some te=>match te.zero,Nat.ble (len*te.size) 16777216 with
          |some z,true=>some (.buildSlice te.size len z (ps.toList.map (·.1)),l,.new)
          |_,_=>none
        |none=>none
     |_=>none
    |_,_=>none
 |  .load t a=>match tt.get (key t),jV a with
    |some ti,some a=>some (.load (yj ti),[a],.read)
    |_,_=>none
 |  .store t a x=>match tt.get (key t),iI [a,x]with
    |some ti,some l=>some (.store ti.size,l,.aF)
    |_,_=>none
 |  .nilCheck x=>match jV x with
    |some a=>some (.nilCheck,[a],.pure)
    |none=>none
 |  .binOp op t x y _=>match yh tt t,iI [x,y]with
    |some q,some l=>some (.bin op q,l,.pure)
    |none,some l=>match op with
     |.eql=>none
     |.neq=>none
     |_=>some (.bin op .num,l,.pure)
    |_,_=>none
 |  .unOp op _ x=>match jV x with
    |some a=>some (.un op,[a],.pure)
    |none=>none
 |  .convert src dst x=>match tt.get (key src),tt.get (key dst),jV x with
    |some s,some d,some a=>match s.k,d.k with
     |.int _,.int k=>some (.conv (.int k),[a],.pure)
     |.string,.string=>some (.conv .same,[a],.pure)
     |  .string,.slice e=>match tt.get (key e)with
        | some te=>match te.k with
          |.int .u8=>some (.conv .bytes,[a],.new)
          |_=>none
        |none=>none
     |  .slice e,.string=>match tt.get (key e)with
        | some te=>match te.k with
          |.int .u8=>some (.conv .ofBytes,[a],.read)
          |_=>none
        |none=>none
     |  .ptr e,.upt=>match tt.get (key e)with
        | some te=>match Nat.beq te.size 0 with
          |false=>some (.toU,[a],.aF)
          |true=>none
        |none=>none
     |  .upt,.ptr e=>match tt.get (key e)with
        | some te=>match Nat.beq te.size 0 with
          |false=>some (.fromU e te.size,[a],.aF)
          |true=>none
        |none=>none
     |_,_=>none
    |_,_,_=>none
 |  .makeInterface t x=>match tt.get (key t),jV x with
    |some ti,some a=>match ti.k with
     |.iface=>none
     |.other=>none
     |_=>some (.mkIface t,[a],.pure)
    |_,_=>none
 |  .makeFunc fn first captured=>match fn,iI (first.toList++captured.toList)with
    |.func f,some l=>some (.mkFunc f first.size,l,.pure)
    |_,_=>none
 |  .makeMap t r=>match tt.get (key t)with
    |some ti=>match ti.k,r with
     |.map _ _,none=>some (.mkMap,[],.new)
     |.map _ _,some (.const (.int _ _))=>some (.mkMap,[],.new)
     |_,_=>none
    |none=>none
 |  .makeSlice t l c=>match tt.get (key t),iI [l,c]with
    |some ti,some xs=>match ti.k with
     |  .slice e=>match tt.get (key e)with
        | some te=>match te.zero with
          |some z=>some (.mkSlice te.size te.bytes z,xs,.new)
          |none=>none
        |none=>none
     |_=>none
    |_,_=>none
 |  .slice t x lo hi mx=>match tt.get (key t),iI ([x]++yl lo++yl hi++yl mx)with
    |some ti,some xs=>match ti.k with
     |  .string=>match mx with
        |none=>some (.sliceS lo.isSome hi.isSome,xs,.pure)
        |some _=>none
     |  .slice e=>match tt.get (key e)with
        |some te=>some (.sliceL te.size lo.isSome hi.isSome mx.isSome,xs,.pure)
        |none=>none
     |_=>none
    |_,_=>none
 |  .fieldAddr t x f=>match tt.get (key t),jV x with
    |some ti,some a=>match ti.k with
     |  .struct fs=>match nth fs f with
        | some (off,ft,_)=>match tt.get (key ft)with
          |some fi=>match Nat.beq fi.size 0 with
           |false=>some (.fieldA off,[a],.pure)
           |true=>none
          |none=>none
        |none=>none
     |_=>none
    |_,_=>none
 |  .field t x f=>match tt.get (key t),jV x with
    |some ti,some a=>match ti.k with
     |  .struct fs=>match nth fs f with
        | some (off,ft,_)=>match tt.get (key ft)with
          |some fi=>some (.field off (yj fi),[a],.pure)
          |none=>none
        |none=>none
     |_=>none
    |_,_=>none
 |  .indexAddr t x ix=>match tt.get (key t),iI [x,ix]with
    |some ti,some l=>match ti.k with
     |  .slice e=>match tt.get (key e)with
        |some te=>some (.idxA te.size none,l,.pure)
        |none=>none
     |  .array n e=>match tt.get (key e)with
        |some te=>some (.idxA te.size (some n),l,.pure)
        |none=>none
     |_=>none
    |_,_=>none
 |  .index t x ix=>match tt.get (key t),iI [x,ix]with
    |some ti,some l=>match ti.k with
     |.string=>some (.idxS,l,.pure)
     |_=>none
    |_,_=>none
 |  .lookup t x ix ok=>match tt.get (key t),iI [x,ix]with
    |some ti,some l=>match ti.k with
     |  .map k e=>match tt.get (key k),tt.get (key e)with
        | some tk,some te=>match tk.k,te.zero with
          |.int _,some z=>some (.lookup .i (GM te z) ok,l,.read)
          |.string,some z=>some (.lookup .s (GM te z) ok,l,.read)
          |.bool,some z=>some (.lookup .b (GM te z) ok,l,.read)
          |_,_=>none
        |_,_=>none
     |_=>none
    |_,_=>none
 |.mapUpdate t m k v=>Zb tt t m k v
 |.insert t m k v=>Zb tt t m k v
 |  .range t x=>match tt.get (key t),jV x with
    |some ti,some a=>match ti.k with
     |.string=>some (.rangeS,[a],.new)
     |_=>none
    |_,_=>none
 |  .next it isString=>match isString,jV it with
    |true,some a=>some (.nextS,[a],.aF)
    |_,_=>none
 |  .extract x i=>match jV x with
    |some a=>some (.extract i,[a],.pure)
    |none=>none
 |  .call c=>match iI c.args.toList with
    |none=>none
    |some xs =>match c.callee with
     |.value (.func f)=>some (.callF f,xs,.aF)
     |  .value x=>match jV x with
        |some a=>some (.callV,a::xs,.aF)
        |none=>none
     |.invoke _ _=>none
     |  .builtin b=>match b with
        | .len=>match c.argTypes.toList,xs with
          |t ::_,[_]=>match tt.get (key t)with
           | some ti=>match ti.k with
             |.string=>some (.lenB .s,xs,.pure)
             |.slice _=>some (.lenB .l,xs,.pure)
             |.map _ _=>some (.lenB .m,xs,.read)
             |_=>none
           |none=>none
          |_,_=>none
        | .append=>match c.argTypes.toList with
          |t ::t2::_=>match tt.get (key t),tt.get (key t2)with
           | some ti,some JP=>match ti.k,JP.k with
             |_,.int _=>none
             | .slice e,.string=>match tt.get (key e)with
               | some te=>match te.zero,te.k,Nat.beq te.size 1 with
                 |some _,.int .u8,true=>some (.appendT e te.bytes,xs,.aF)
                 |_,_,_=>none
               |none=>none
             | .slice e,_=>match tt.get (key e)with
               | some te=>match te.zero with
                 |some _=>some (.append te.size te.bytes,xs,.aF)
                 |none=>none
               |none=>none
             |_,_=>none
           |_,_=>none
          |_=>none
        | .copy=>match c.argTypes.toList with
          |t ::_=>match tt.get (key t)with
           | some ti=>match ti.k with
             | .slice e=>match tt.get (key e)with
               |some te=>some (.copyB te.size,xs,.aF)
               |none=>none
             |_=>none
           |none=>none
          |_=>none
        | .unsafeSliceData=>match xs with
          |[_]=>some (.sliceData,xs,.pure)
          |_=>none
        | .unsafeString=>match c.argTypes.toList with
          |[t, _]=>match tt.get (key t)with
           | some ti=>match ti.k with
             | .ptr e=>match tt.get (key e)with
               | some te=>match te.k,Nat.beq te.size 1 with
                 |.int .u8,true=>some (.unsafeStr e,xs,.aF)
                 |_,_=>none
               |none=>none
             |_=>none
           |none=>none
          |_=>none
        | .min=>match xs with
          |[_,_]=>some (.minB,xs,.pure)
          |_=>none
        | .max=>match xs with
          |[_,_]=>some (.maxB,xs,.pure)
          |_=>none
        | .clear=>match c.argTypes.toList with
          |t ::_=>match tt.get (key t)with
           | some ti=>match ti.k with
             | .slice e=>match tt.get (key e)with
               | some te=>match te.zero with
                 |some z=>some (.clearS te.size z,xs,.aF)
                 |none=>none
               |none=>none
             |_=>none
           |none=>none
          |_=>none
        |_=>none
 |_=>none
where
 Ux (tt:TT):List (Nat×Nat×Bool)->Bool
  |[]=>true
  |  (_,t,_)::l=>match tt.get (key t)with
     |some _=>Ux tt l
     |none=>false
 places (tt:TT) (fs:List (Nat×Nat×Bool)):List Nat->Option (List (Nat×Nat))
  |[]=>some []
  |  i ::is=>match nth fs i,places tt fs is with
     | some (off,t,_),some l=>match tt.get (key t)with
       |some ti=>some ((off,ti.size)::l)
       |none=>none
     |_,_=>none
 GM (te:TI) (z:List AV):AV:=match te.k.isAgg with
  |true=>.agg z
  |  false=>match z with
     |[v]=>v
     |_=>.agg z
 Zb (tt:TT) (t:Nat) (m k v:Operand):Option (az×List dM×X1):=
  match tt.get (key t),iI [m,k,v]with
  |  some ti,some l=>match ti.k with
     | .map kt _=>match tt.get (key kt)with
       |some tk=>match tk.k with
        |.int _=>some (.mapSet .i,l,.aF)
        |.string=>some (.mapSet .s,l,.aF)
        |.bool=>some (.mapSet .b,l,.aF)
        |_=>none
       |none=>none
     |_=>none
  |_,_=>none
def PC(ops:Array Oper):Option (Nat×Bool)->Option (Option (Pos×Bool))
 |none=>some none
 |  some (j,b)=>match ops[j]? with
    |some o=>match o.dst with
     |some d=>some (some (key d,b))
     |none=>none
    |none=>none
def UX:List Oper->List Nat->List Nat
 |[],acc=>acc
 |o::os,acc=>UX os (acc++[o.after.toList.foldl (λs e=>match Region.binds .any e with
   |true=>s ||| 2 ^ e.on ||| (nth acc e.on).getD 0
   |false=>s) 0])
def mQ(tt:TT)(nt:Nat)(ops:Array Oper):List Oper->List Nat->Option (List bg)
 |[],_=>some []
 |  o::os,bs=>match PC ops o.guard,mQ tt nt ops os bs.tail,adE nt o.dst with
    |some g,some l,true=>match fo tt o.op with
     |some (k,xs,cls)=>some ({ dst:=o.dst.map key,k:=k,xs:=xs,guard:=g,cls:=cls,bA:=bs.headD 0 }::l)
     |none=>some ({ dst:=o.dst.map key,k:= .bad,xs:=[],guard:=g,cls:= .aF,bA:=bs.headD 0 }::l)
    |_,_,_=>none
where
 adE (nt:Nat):Option Tmp->Bool
  |none=>true
  |some d=>Nat.blt d nt
def bg.looks(o:bg):List Pos:=
 (match o.guard with|some (p,_)=>[p]|none=>[])++o.xs.filterMap λ|.t p=>some p|.c _=>none
def GN(p:Pos):List Pos->Bool
 |[]=>false
 |q::l=>Pos.beq p q||GN p l
def KJ(a b:bg):Bool:=
 (match a.dst with
  |some d=> !GN d b.looks&&(match b.dst with|some d'=> !Pos.beq d d'|none=>true)
  |none=>true)&&
 (match b.dst with
  |some d=> !GN d a.looks
  |none=>true)
def vT:List (Nat×bg)->List (Nat×bg)->List (Nat×bg)
 |[],held=>held
 |  (i,o)::l,held=>match o.cls with
    |.aF=>held.filter (λx=>o.bA.testBit x.1)++(i,o)::vT l (held.filter λx=> !o.bA.testBit x.1)
    |_=>vT l (held++[(i,o)])
def CU:Nat->List bg->List (Nat×bg)
 |_,[]=>[]
 |i,o::os=>(i,o)::CU (i+1) os
def GO(m:Nat):Nat->List (Nat×bg)->Bool
 |seen,[]=>Nat.beq seen (2 ^ m - 1)
 |  seen,(i,o)::l=>Nat.blt i m&& !seen.testBit i&&Nat.beq (o.bA &&& seen) o.bA&&(match o.cls with|.aF=>Nat.beq o.bA seen|_=>true)&&
    (l.all λx=>x.2.bA.testBit i||KJ o x.2)&&GO m (seen ||| 2 ^ i) l
def ry (tt:TT)(nt:Nat):Code->Option AC
 |.skip=>some .skip
 |  .region _ ops draw=>match mQ tt nt ops ops.toList (UX ops.toList [])with
    |none=>none
    |some l=>match draw with
     |false=>some (.region l)
     |  true=>match GO l.length 0 (vT (CU 0 l) [])with
        |true=>some (.draw (vT (CU 0 l) []))
        |false=>none
 |  .seq a b=>match ry tt nt a,ry tt nt b with
    |some a,some b=>some (.seq a b)
    |_,_=>none
 |  .cond c a b=>match jV c,ry tt nt a,ry tt nt b with
    |some c,some a,some b=>some (.cond c a b)
    |_,_,_=>none
 |  .block id a=>match ry tt nt a with
    |some a=>some (.block id a)
    |none=>none
 |  .loop a=>match ry tt nt a with
    |some a=>some (.loop a)
    |none=>none
 |.exit id=>some (.exit id)
 |.ret=>some .ret
 |.refuse _=>some (.region [{ dst:=none,k:= .bad,xs:=[],guard:=none,cls:= .aF,bA:=0 }])
 |_=>none
def kU(tt:TT):List ResultVar->Option (List AP)
 |[]=>some []
 |  .tmp t::rs=>match kU tt rs with
    |some l=>some (.tmp (key t)::l)
    |none=>none
 |  .cell a t::rs=>match tt.get (key t),kU tt rs with
    |some ti,some l=>some (.cell (key a) (yj ti)::l)
    |_,_=>none
def Uy(tt:TT)(f:Func):Option cw:=match f.body with
 |  some c=>match ry tt f.ntmps c,kU tt f.results.toList,Nat.ble (f.params.size+f.nfree) f.ntmps with
    |some a,some rs,true=>some { code:=a,nparams:=f.params.size+f.nfree,results:=rs }
    |_,_,_=>none
 |none=>none
structure Loc where
 ay:Nat
 base:Nat
 size:Nat
abbrev Cells:=Addr->Option Value
inductive aj(ρ:Pos->Loc)(n:Nat)(C:Cells):AV->Value->Prop where
 |bool (b:Bool):aj ρ n C (.bool b) (.bool b)
 |int (k:IntKind) (i:Int):aj ρ n C (.int k i) (.int k i)
 |str (s:List Nat) (bs:ByteArray) (h:bs.data.toList.map UInt8.toNat=s):aj ρ n C (.str s) (.string bs)
 |gR:aj ρ n C .gR (.pointer none)
 |ptr (b:Pos) (off:Nat) (h:b.toNat<n):aj ρ n C (.ptr b off) (.pointer (some ⟨(ρ b).ay,(ρ b).base+off,none⟩))
 |fp (xs:List (List AV)) (i j es:Nat) (ay base:Nat) (cell:Nat->Nat->Value)
  (hl:∀(i:Nat)(cs:List AV),xs[i]? =some cs->cs.length=es)
  (hc:∀(i j:Nat)(cs:List AV)(v:AV),xs[i]? =some cs->cs[j]? =some v->C ⟨ay,base+i*es+j,none⟩=some (cell i j))
  (hv:∀(i j:Nat)(cs:List AV)(v:AV),xs[i]? =some cs->cs[j]? =some v->aj ρ n C v (cell i j)):
  aj ρ n C (.fp xs i j) (.pointer (some ⟨ay,base+i*es+j,none⟩))
 |aq:aj ρ n C .aq (.slice none 0 0)
 |slice (b:Pos) (off len:Nat) (cap:Option Nat) (es aI:Nat) (a:Addr) (hl:len<=aI) (hc:∀c,cap=some c->c=aI)
  (ha:aI≠0->b.toNat<n/\a=⟨(ρ b).ay,(ρ b).base+off,none⟩/\(ρ b).base+off+aI*es<=(ρ b).size)
  (hk:cap=none->b.toNat<n):
  aj ρ n C (.slice b off len cap es) (.slice (some a) len aI)
 |fl (xs:List (List AV)) (es aI:Nat) (a:Addr) (cell:Nat->Nat->Value) (hl:xs.length<=aI)
  (hs:xs≠[]->a.spot=none)
  (di:∀(i:Nat)(cs:List AV),xs[i]? =some cs->cs.length=es)
  (hc:∀(i j:Nat)(cs:List AV)(v:AV),xs[i]? =some cs->cs[j]? =some v->C ⟨a.block,a.off+i*es+j,none⟩=some (cell i j))
  (hv:∀(i j:Nat)(cs:List AV)(v:AV),xs[i]? =some cs->cs[j]? =some v->aj ρ n C v (cell i j)):
  aj ρ n C (.fl xs es) (.slice (some a) xs.length aI)
 |nZ:aj ρ n C .nZ (.map none)
 |map (b:Pos) (h:b.toNat<n):aj ρ n C (.map b) (.map (some (ρ b).ay))
 |func (f:FuncId) (x y:List AV) (x' y':Array Value) (hx:x.length=x'.size) (hy:y.length=y'.size)
  (gb:∀(i:Nat)(v:AV)(v':Value),x[i]? =some v->x'[i]? =some v'->aj ρ n C v v') (CV:∀(i:Nat)(v:AV)(v':Value),y[i]? =some v->y'[i]? =some v'->aj ρ n C v v'):
  aj ρ n C (.func f x y) (.func (.func f) x' y')
 |iQ:aj ρ n C .iQ .nilFunc
 |v8:aj ρ n C .v8 .nilIface
 |iface (t:TypeId) (v:AV) (x:Value) (h:aj ρ n C v x):aj ρ n C (.iface t v) (.iface t x)
 |agg (l:List AV) (cs:Array Value) (hl:l.length=cs.size) (h:∀(i:Nat)(v:AV)(v':Value),l[i]? =some v->cs[i]? =some v'->aj ρ n C v v'):
  aj ρ n C (.agg l) (.agg cs)
 |tuple (l:List AV) (cs:Array Value) (hl:l.length=cs.size) (h:∀(i:Nat)(v:AV)(v':Value),l[i]? =some v->cs[i]? =some v'->aj ρ n C v v'):
  aj ρ n C (.tuple l) (.tuple cs)
theorem aj.mono{ρ ρ':Pos->Loc}{n n':Nat}{C:Cells}{v:AV}{x:Value}(h:aj ρ n C v x)
  (aQ:∀b:Pos,b.toNat<n->ρ' b=ρ b) (hn:n<=n'):aj ρ' n' C v x:=by
 induction h with
 |bool b=>exact .bool b
 |int k i=>exact .int k i
 |str s bs h=>exact .str s bs h
 |gR=>exact .gR
 |ptr b off h=>rw[<-aQ b h];exact .ptr b off (by omega)
 |fp xs i j es ay base cell hl hc _ ih=>exact .fp xs i j es ay base cell hl hc ih
 |aq=>exact .aq
 |slice b off len cap es aI a hl hc ha hk=>
  refine .slice b off len cap es aI a hl hc (λh0=> ?_) (λh0=>by have:=hk h0;omega);obtain⟨h1,h2,h3⟩:=ha h0;rw[aQ b h1];exact⟨by omega,h2,h3⟩
 |fl xs es aI a cell hl hs di hc _ ih=>exact .fl xs es aI a cell hl hs di hc ih
 |nZ=>exact .nZ
 |map b h=>rw[<-aQ b h];exact .map b (by omega)
 |func f x y x' y' hx hy _ _ ih1 ih2=>exact .func f x y x' y' hx hy ih1 ih2
 |iQ=>exact .iQ
 |v8=>exact .v8
 |iface t v x _ ih=>exact .iface t v x ih
 |agg l cs hl _ ih=>exact .agg l cs hl ih
 |tuple l cs hl _ ih=>exact .tuple l cs hl ih
def av(ρ:Pos->Loc)(n:Nat)(C:Cells)(l:List AV)(xs:List Value):Prop:=
 l.length=xs.length/\∀(i:Nat)(v:AV)(x:Value),l[i]? =some v->xs[i]? =some x->aj ρ n C v x
section
variable{ρ ρ':Pos->Loc}{n n':Nat}{C:Cells}
theorem av.mono{l:List AV}{xs:List Value}(h:av ρ n C l xs)(aQ:∀b:Pos,b.toNat<n->ρ' b=ρ b)(hn:n<=n'):
 av ρ' n' C l xs:=⟨h.1,λi v x hv hx=>(h.2 i v x hv hx).mono aQ hn⟩
theorem av.nil:av ρ n C [] []:=⟨rfl,λ_ _ _ h=>by simp at h⟩
theorem av.cons{v:AV}{x:Value}{l:List AV}{xs:List Value}(h:aj ρ n C v x)(hs:av ρ n C l xs):av ρ n C (v::l) (x::xs):=
 ⟨by simp[hs.1],λi u y hu hy=>by
  cases i with
  |zero=>simp at hu hy;subst hu;subst hy;exact h
  |succ i=>simp at hu hy;exact hs.2 i u y hu hy⟩
theorem av.cons_inv{v:AV}{l:List AV}{xs:List Value}(h:av ρ n C (v::l) xs):∃x uX,xs=x::uX/\aj ρ n C v x/\av ρ n C l uX:=by
 cases xs with
 |nil=>have:=h.1;simp at this
 |cons x uX=>
  exact⟨x,uX,rfl,h.2 0 v x rfl rfl,by have:=h.1;simpa using this,λi u y hu hy=>h.2 (i+1) u y (by simpa using hu) (by simpa using hy)⟩
theorem av.mF{xs:List Value}(h:av ρ n C [] xs):xs=[]:=by
 have:=h.1;cases xs with
 |nil=>rfl
 |cons a b=>simp at this
theorem av.append{l m:List AV}{xs ys:List Value}(h:av ρ n C l xs)(k:av ρ n C m ys):av ρ n C (l++m) (xs++ys):=by
 refine⟨by simp[h.1,k.1],λi v x hv hx=> ?_⟩;rcases Zi1 i l.length with hi|hi
 .rw[Zc9 hi]at hv;rw[Zc9 (by rw[<-h.1];exact hi)]at hx;exact h.2 i v x hv hx
 .rw[Zd0 hi]at hv;rw[Zd0 (by rw[<-h.1];exact hi), <-h.1]at hx;exact k.2 _ v x hv hx
theorem av.take{l:List AV}{xs:List Value}(h:av ρ n C l xs)(m:Nat):av ρ n C (l.take m) (xs.take m):=by
 refine⟨by simp[h.1],λi v x hv hx=> ?_⟩;rw[Zb1]at hv hx;split at hv
 .rename_i hi;rw[Za2 hi]at hx;exact h.2 i v x hv hx
 .cases hv
theorem av.drop{l:List AV}{xs:List Value}(h:av ρ n C l xs)(m:Nat):av ρ n C (l.drop m) (xs.drop m):=by refine⟨by simp[h.1],λi v x hv hx=> ?_⟩;rw[Zc6]at hv hx;exact h.2 _ v x hv hx
theorem av.aH{l vs:List AV}{xs ys:List Value}(h:av ρ n C l xs)(k:av ρ n C vs ys)(i:Nat):
  av ρ n C (Go.Ai.aH l i vs) (Go.Ai.aH xs i ys):=by
 unfold Go.Ai.aH;rw[k.1];exact(h.take i).append (k.append (h.drop _))
theorem av.get{l:List AV}{xs:List Value}(h:av ρ n C l xs){i:Nat}{v:AV}(hv:l[i]? =some v):∃x,xs[i]? =some x/\aj ρ n C v x:=by
 have hi:i<xs.length:=by rw[<-h.1];exact(H5.1 hv).1
 exact⟨xs[i],H1 hi,h.2 i v _ hv (H1 hi)⟩
theorem aj.CW{l:List AV}{cs:Array Value}(h:av ρ n C l cs.toList):aj ρ n C (.agg l) (.agg cs):=
 .agg l cs (by simpa using h.1) λi v x hv hx=>h.2 i v x hv (by simpa using hx)
theorem aj.rW{l:List AV}{cs:Array Value}(h:av ρ n C l cs.toList):aj ρ n C (.tuple l) (.tuple cs):=
 .tuple l cs (by simpa using h.1) λi v x hv hx=>h.2 i v x hv (by simpa using hx)
theorem aj.CL{l:List AV}{x:Value}(h:aj ρ n C (.agg l) x):∃cs,x= .agg cs/\av ρ n C l cs.toList:=by
 cases h with|agg _ cs hl h=>exact⟨cs,rfl,by simpa using hl,λi v x hv hx=>h i v x hv (by simpa using hx)⟩
theorem aj.SC{l:List AV}{x:Value}(h:aj ρ n C (.tuple l) x):∃cs,x= .tuple cs/\av ρ n C l cs.toList:=by
 cases h with|tuple _ cs hl h=>exact⟨cs,rfl,by simpa using hl,λi v x hv hx=>h i v x hv (by simpa using hx)⟩
theorem aj.Ae{f:FuncId}{a b:List AV}{x:Value}(h:aj ρ n C (.func f a b) x):
  ∃a' b',x= .func (.func f) a' b'/\av ρ n C a a'.toList/\av ρ n C b b'.toList:=by
 cases h with
 |func _ _ _ a' b' hx hy h1 h2=>exact⟨a',b',rfl,⟨by simpa using hx,λi v x hv hx=>h1 i v x hv (by simpa using hx)⟩,⟨by simpa using hy,λi v x hv hx=>h2 i v x hv (by simpa using hx)⟩⟩
theorem aj.cells{v:AV}{x:Value}(h:aj ρ n C v x):av ρ n C v.cells x.cells.toList:=by
 by_cases hv:∃l,v= .agg l
 .obtain⟨l,rfl⟩:=hv;obtain⟨cs,rfl,hs⟩:=h.CL;exact hs
 .have h1:v.cells=[v]:=(by cases v<;>first|rfl|exact absurd ⟨_,rfl⟩ hv);have h2:x.cells= #[x]:=(by cases h<;>first|rfl|exact absurd ⟨_,rfl⟩ hv);rw[h1,h2];exact av.cons h av.nil
def kV(ρ:Pos->Loc)(n:Nat)(C:Cells)(L:Loc)(w:World):AB->Prop
 |.cells cs fz=>∃(c:Array Value) (e:TypeId) (fr:Nat×Nat),w.heap[L.ay]? =some (.cells c e fr)/\c.size=L.size/\L.base+cs.length<=c.size/\
  av ρ n C cs ((c.toList.drop L.base).take cs.length)/\∀i,fz<=i->L.base+i<c.size->¬(fr.1<=L.base+i/\L.base+i<fr.2)
 |.map es clock=>∃(es':Array MapEntry),w.heap[L.ay]? =some (.map es' clock)/\es.length=es'.size/\
  ∀(i:Nat)(e:AV×AV×Nat)(e':MapEntry),es[i]? =some e->es'[i]? =some e'->aj ρ n C e.1 e'.key/\aj ρ n C e.2.1 e'.val/\e.2.2=e'.born
 |.iR s pos=>∃(bs:ByteArray),w.heap[L.ay]? =some (.stringIter bs pos)/\bs.data.toList.map UInt8.toNat=s/\L.base=0
 |.typed t cs=>∃(c:Array Value) (fr:Nat×Nat),w.heap[L.ay]? =some (.cells c t fr)/\c.size=L.size/\L.base+cs.length<=c.size/\
  av ρ n C cs ((c.toList.drop L.base).take cs.length)/\(∀i,0<=i->L.base+i<c.size->¬(fr.1<=L.base+i/\L.base+i<fr.2))/\L.base=0
theorem kV.mono{L:Loc}{w:World}{x:AB}(h:kV ρ n C L w x)(aQ:∀b:Pos,b.toNat<n->ρ' b=ρ b)(hn:n<=n'):kV ρ' n' C L w x:=by
 cases x with
 |cells cs fz=>obtain⟨c,e,fr,h1,h2,h3,h4,h5⟩:=h;exact⟨c,e,fr,h1,h2,h3,h4.mono aQ hn,h5⟩
 |map es clock=>obtain⟨es',h1,h2,h3⟩:=h;exact⟨es',h1,h2,λi e e' he jN=>let⟨a,b,c⟩:=h3 i e e' he jN;⟨a.mono aQ hn,b.mono aQ hn,c⟩⟩
 |iR s pos=>exact h
 |typed t cs=>obtain⟨c,fr,h1,h2,h3,h4,h5⟩:=h;exact⟨c,fr,h1,h2,h3,h4.mono aQ hn,h5⟩
theorem kV.of_heap{L:Loc}{w w':World}{x:AB}(h:kV ρ n C L w x)(hw:w'.heap[L.ay]? =w.heap[L.ay]?):kV ρ n C L w' x:=by
 cases x with
 |cells cs fz=>obtain⟨c,e,fr,h1,h2⟩:=h;exact⟨c,e,fr,by rw[hw];exact h1,h2⟩
 |map es clock=>obtain⟨es',h1,h2⟩:=h;exact⟨es',by rw[hw];exact h1,h2⟩
 |iR s pos=>obtain⟨bs,h1,h2⟩:=h;exact⟨bs,by rw[hw];exact h1,h2⟩
 |typed t cs=>obtain⟨c,fr,h1,h2⟩:=h;exact⟨c,fr,by rw[hw];exact h1,h2⟩
end
structure aT(ρ:Pos->Loc)(C:Cells)(st:St)(w:World):Prop where
 live:∀b x,st.heap.get b=some x->b.toNat<st.next.toNat/\(ρ b).ay<w.heap.size/\kV ρ st.next.toNat C (ρ b) w x
 inj:∀b b' x x',st.heap.get b=some x->st.heap.get b'=some x'->(ρ b).ay=(ρ b').ay->b=b'
 cV:∀a v,C a=some v->w.cell? a=some v/\∀b x,st.heap.get b=some x->(ρ b).ay≠a.block
 whole:∀a v,C a=some v->∀o,C ⟨a.block,o,none⟩=none->w.cell? ⟨a.block,o,none⟩=none
structure jr(ρ:Pos->Loc)(st:St)(w:World)(ρ':Pos->Loc)(st':St)(w':World):Prop where
 os:w'.os=w.os
 tape:w'.tape=w.tape
 output:w'.output=w.output
 size:w.heap.size<=w'.heap.size
 block:∀k,k<w.heap.size->(∀b x,st.heap.get b=some x->(ρ b).ay≠k)->w'.heap[k]? =w.heap[k]?
 nc:∀b x,st'.heap.get b=some x->(∃b' x',st.heap.get b'=some x'/\(ρ b').ay=(ρ' b).ay)\/w.heap.size<=(ρ' b).ay
theorem jr.refl(ρ:Pos->Loc)(st:St)(w:World):jr ρ st w ρ st w:=⟨rfl,rfl,rfl,Za3 _,λ_ _ _=>rfl,λb x h=>.inl ⟨b,x,h,rfl⟩⟩
theorem jr.trans{ρ dB kW:Pos->Loc}{st aN jO:St}{w w1 w2:World}(h:jr ρ st w dB aN w1)(k:jr dB aN w1 kW jO w2):jr ρ st w kW jO w2 where
 os:=k.os.trans h.os
 tape:=k.tape.trans h.tape
 output:=k.output.trans h.output
 size:=Zc3 h.size k.size
 block q hq hn:=by
  rw[k.block q (Zb9 hq h.size) λb x hb e=> ?_,h.block q hq hn];rcases h.nc b x hb with⟨b',x',h1,h2⟩|h1
  .exact hn b' x' h1 (h2.trans e)
  .rw[e]at h1;omega
 nc b x hb:=by
  rcases k.nc b x hb with⟨b',x',h1,h2⟩|h1
  . rcases h.nc b' x' h1 with⟨b'',x'',h3,h4⟩|h3
    .exact .inl ⟨b'',x'',h3,h4.trans h2⟩
    .right;rw[<-h2];exact h3
  .exact .inr (Zc3 h.size h1)
def eO(ρ:Pos->Loc)(n:Nat)(C:Cells)(fr:Fr)(tmps:Array Value):Prop:=
 ∀p v,fr.get p=some v->∃x,tmps[p.toNat - 1]? =some x/\aj ρ n C v x
theorem Pos.toNat_pos(p:Pos):0<p.toNat:=by
 induction p with
 |h=>simp[Pos.toNat]
 |o p ih=>simp[Pos.toNat];exact ih
 |i p ih=>simp[Pos.toNat]
theorem Pos.toNat_inj:∀{p q:Pos},p.toNat=q.toNat->p=q
 |.h,.h,_=>rfl
 |.h,.o q,hq=>by have:=q.toNat_pos;simp[Pos.toNat]at hq;omega
 |.h,.i q,hq=>by have:=q.toNat_pos;simp[Pos.toNat]at hq;omega
 |.o p,.h,hq=>by have:=p.toNat_pos;simp[Pos.toNat]at hq;omega
 |.o p,.o q,hq=>by simp[Pos.toNat]at hq;rw[Pos.toNat_inj (p:=p) (q:=q) (by omega)]
 |.o p,.i q,hq=>by simp[Pos.toNat]at hq;omega
 |.i p,.h,hq=>by have:=p.toNat_pos;simp[Pos.toNat]at hq;omega
 |.i p,.o q,hq=>by simp[Pos.toNat]at hq;omega
 |.i p,.i q,hq=>by simp[Pos.toNat]at hq;rw[Pos.toNat_inj (p:=p) (q:=q) (by omega)]
theorem Pos.aB(p:Pos):p.succ.toNat=p.toNat+1:=by
 induction p with
 |h=>rfl
 |o p ih=>simp[Pos.succ,Pos.toNat]
 |i p ih=>simp[Pos.succ,Pos.toNat,ih];omega
theorem Pos.Ic:∀(f m:Nat),0<m->m<2 ^ (f+1)->(Pos.UT f m).toNat=m
 |0,m,hp,hl=>by
  simp at hl;have:m=1:=by omega
  subst this;rfl
 |f +   1,m,hp,hl=>by
  unfold Pos.UT;split
  . (rename_i hb;have:=Za0 hb;have:m=1:=by omega);subst this;rfl
  . rename_i hb;have h1:1<m:=by
        rcases Zi1 1 m with hh|hh
        .exact hh
        .rw[Nat.ble_eq_true_of_le hh]at hb;cases hb
    have h2:m / 2<2 ^ (f+1):=(by have:2 ^ (f+1+1)=2*2 ^ (f+1):=(by rw[Nat.pow_succ];omega);omega);split
    .   rename_i he;have:=H3 he;simp only[Pos.toNat];rw[Pos.Ic f _ (by omega) h2];omega
    .   rename_i he;have:=Zb2 he;simp only[Pos.toNat];rw[Pos.Ic f _ (by omega) h2];omega
theorem ey(n:Nat):(key n).toNat=n+1:=Pos.Ic _ (n+1) (by omega) Nat.lt_log2_self
theorem T.dh{α:Type}(p:Pos):(T.e:T α).get p=none:=by cases p<;>rfl
theorem T.eo{α:Type}(x:Option α)(p:Pos)(t:T α):(T.put x p t).get p=x:=by
 induction p generalizing t with
 |h=>cases t<;>rfl
 |o p ih=>cases t<;>exact ih _
 |i p ih=>cases t<;>exact ih _
theorem T.bw{α:Type}(x:Option α){p q:Pos}(h:p≠q)(t:T α):(T.put x p t).get q=t.get q:=by
 induction p generalizing q t with
 |h=>cases q with
  |h=>exact absurd rfl h
  |o q=>cases t<;>simp[T.put,T.get,T.dh]
  |i q=>cases t<;>simp[T.put,T.get,T.dh]
 |o p ih=>cases q with
  |h=>cases t<;>simp[T.put,T.get]
  | o q=>cases t with
    |e=>simp only[T.put,T.get];rw[ih (λe=>h (by rw[e])),T.dh]
    |n l v r=>simp only[T.put,T.get];exact ih (λe=>h (by rw[e])) l
  |i q=>cases t<;>simp[T.put,T.get,T.dh]
 |i p ih=>cases q with
  |h=>cases t<;>simp[T.put,T.get]
  |o q=>cases t<;>simp[T.put,T.get,T.dh]
  | i q=>cases t with
    |e=>simp only[T.put,T.get];rw[ih (λe=>h (by rw[e])),T.dh]
    |n l v r=>simp only[T.put,T.get];exact ih (λe=>h (by rw[e])) r
theorem Pos.beq_eq:∀{p q:Pos},p.beq q=true↔p=q
 |.h,.h=>by simp[Pos.beq]
 |.h,.o q=>by simp[Pos.beq]
 |.h,.i q=>by simp[Pos.beq]
 |.o p,.h=>by simp[Pos.beq]
 |.o p,.o q=>by simp only[Pos.beq,Pos.o.injEq];exact Pos.beq_eq
 |.o p,.i q=>by simp[Pos.beq]
 |.i p,.h=>by simp[Pos.beq]
 |.i p,.o q=>by simp[Pos.beq]
 |.i p,.i q=>by simp only[Pos.beq,Pos.i.injEq];exact Pos.beq_eq
end
noncomputable section
section
variable{R:Type}
def kX{α:Type}(p:Pos):T α->Option α:=
 Pos.rec (motive:=λ_=>T α->Option α)
    (λt=>T.rec (motive:=λ_=>Option α) none (λ_ v _ _ _=>v) t)
    (λ_ ih t=>T.rec (motive:=λ_=>Option α) none (λl _ _ _ _=>ih l) t)
    (λ_ ih t=>T.rec (motive:=λ_=>Option α) none (λ_ _ r _ _=>ih r) t) p
def nh{α:Type}(x:Option α)(p:Pos):T α->(T α->R)->R:=
 Pos.rec (motive:=λ_=>T α->(T α->R)->R)
    (λt k=>T.rec (motive:=λ_=>R) (k (.n .e x .e)) (λl _ r _ _=>k (.n l x r)) t)
    (λ_ ih t k=>T.rec (motive:=λ_=>R) (ih .e λl=>k (.n l none .e)) (λl v r _ _=>ih l λl=>k (.n l v r)) t)
    (λ_ ih t k=>T.rec (motive:=λ_=>R) (ih .e λr=>k (.n .e none r)) (λl v r _ _=>ih r λr=>k (.n l v r)) t) p
def ni(n:Nat)(k:Nat->R):R:=Nat.rec (motive:=λ_=>R) (k 0) (λm _=>k (Nat.succ m)) n
def Oy(n:Int)(k:Int->R):R:=match n with
 |.ofNat m=>ni m λm=>k (.ofNat m)
 |.negSucc m=>ni m λm=>k (.negSucc m)
def SD(b:Bool)(k:Bool->R):R:=match b with
 |true=>k true
 |false=>k false
def ym{α:Type}(l:List α):(List α->R)->R:=
 List.rec (motive:=λ_=>(List α->R)->R) (λk=>k []) (λa _ ih k=>ih λt=>k (a::t)) l
def Ie(p:Pos):(Pos->R)->R:=
 Pos.rec (motive:=λ_=>(Pos->R)->R) (λk=>k .h) (λ_ ih k=>ih λp=>k (.o p)) (λ_ ih k=>ih λp=>k (.i p)) p
def UY(o:Option Nat)(k:Option Nat->R):R:=match o with
 |none=>k none
 |some n=>ni n λn=>k (some n)
def KL(v:AV)(k:AV->R):R:=match v with
 |.bool b=>SD b λb=>k (.bool b)
 |.int i n=>Oy n λn=>k (.int i n)
 |.str s=>ym s λs=>k (.str s)
 |.ptr b o=>Ie b λb=>ni o λo=>k (.ptr b o)
 |.slice b o l c es=>Ie b λb=>ni o λo=>ni l λl=>UY c λc=>k (.slice b o l c es)
 |.map b=>Ie b λb=>k (.map b)
 |.func f x y=>ym x λx=>ym y λy=>k (.func f x y)
 |.agg l=>ym l λl=>k (.agg l)
 |v=>k v
def MW(l:List AV):(List AV->R)->R:=
 List.rec (motive:=λ_=>(List AV->R)->R) (λk=>k []) (λa _ ih k=>KL a λa=>ih λt=>k (a::t)) l
def qv(v:AV)(k:AV->R):R:=match v with
 |.tuple l=>MW l λl=>k (.tuple l)
 |v=>KL v k
def CM(x:AB)(k:AB->R):R:=match x with
 |.cells cs fz=>ym cs λcs=>ni fz λfz=>k (.cells cs fz)
 |.map es c=>ym es λes=>ni c λc=>k (.map es c)
 |.iR s p=>ni p λp=>k (.iR s p)
 |.typed t cs=>ym cs λcs=>k (.typed t cs)
def PE(p:Pos):(Pos->R)->R:=
 Pos.rec (motive:=λ_=>(Pos->R)->R) (λk=>k (.o .h)) (λq _ k=>k (.i q)) (λ_ ih k=>ih λp=>k (.o p)) p
variable(z:R)
def SE(fr:Fr)(x:dM)(k:AV->R):R:=match x with
 |  .t p=>match kX p fr with
    |some v=>k v
    |none=>z
 |.c v=>k v
def Oz(fr:Fr)(xs:List dM):(List AV->R)->R:=
 List.rec (motive:=λ_=>(List AV->R)->R) (λk=>k []) (λx _ ih k=>SE z fr x λv=>ih λvs=>k (v::vs)) xs
def CN(fr:Fr)(g:Option (Pos×Bool))(yes no:R):R:=match g with
 |none=>yes
 |  some (p,want)=>match kX p fr with
    |some (.bool b)=>match b==want with
     |true=>yes
     |false=>no
    |some (.tuple _)=>no
    |_=>z
def jM(fr:Fr)(d:Option Pos)(v:AV)(k:Fr->R):R:=match d with
 |some p=>nh (some v) p fr k
 |none=>k fr
def delK(o:Option Pos)(h:T AB)(k:T AB->R):R:=match o with
 |some b=>nh none b h k
 |none=>k h
def KM(o:Option (Pos×AB))(h:T AB)(k:T AB->R):R:=match o with
 |some (b,x)=>CM x λx=>nh (some x) b h k
 |none=>k h
abbrev ic(R:Type):=FuncId->List AV->St->(AV->St->R)->R
def abM(st:St)(del:Option Pos)(set:Option (Pos×AB))(new:Option AB)(k:St->R):R:=
 delK del st.heap λh=>KM set h λh=>match new with
    |some x=>CM x λx=>nh (some x) st.next h λh=>PE st.next λn=>k { heap:=h,next:=n }
    |none=>k { heap:=h,next:=st.next }
def MX(call:ic R)(op:az)(xs:List AV)(st:St)(k:AV->St->R):R:=
 match op.run (λb=>kX b st.heap) st.next xs with
 |some (.val v)=>qv v λv=>k v st
 |some (.aF v del set new)=>qv v λv=>abM st del set new λst=>k v st
 |some (.call f args)=>ym args λargs=>call f args st k
 |none=>z
def Rm(call:ic R)(ops:List bg):Fr->St->(Fr->St->R)->R:=
 List.rec (motive:=λ_=>Fr->St->(Fr->St->R)->R) (λfr st k=>k fr st)
    (λo _ ih fr st k=>CN z fr o.guard
     (Oz z fr o.xs λxs=>MX z call o.k xs st λv st=>jM fr o.dst v λfr=>ih fr st k)
     (jM fr o.dst .undef λfr=>ih fr st k)) ops
def Ig (bA:Nat)(h:T AB)(recs:List Rec):(T AB->R)->R:=
 List.rec (motive:=λ_=>(T AB->R)->R) (λk=>k h)
    (fun r _ ih k=>match r.c with
     |  .new id ay=>match bA.testBit r.idx with
        |true=>ih λh'=>nh (some ay) id h' k
        |false=>ih k
     |.aF _ _=>k h
     |.pure=>ih k) recs
def UZ(h:T AB)(l:List (Pos×AB)):(T AB->R)->R:=
 List.rec (motive:=λ_=>(T AB->R)->R) (λk=>k h) (λx _ ih k=>ih λh'=>nh (some x.2) x.1 h' k) l
def U0(op:az)(xs:List AV)(v:AV)(h:T AB):Bool:=
 match op.run (λb=>kX b h) .h xs with
 |some (.val u)=>fC u v
 |_=>false
def oU(bA:Nat)(op:az)(xs:List AV)(v:AV):List (Pos×AB)->List Rec->Bool
 |_,[]=>true
 |  up,r::rs=>match r.c with
    | .new id ay=>match bA.testBit r.idx with
      |true=>oU bA op xs v ((id,ay)::up) rs
      |false=>oU bA op xs v up rs
    | .aF base _=>match bA.testBit r.idx with
      |true=>true
      |false=>(Ig bA base rs λh=>UZ h up λh=>U0 op xs v h)&&oU bA op xs v up rs
    |.pure=>oU bA op xs v up rs
def Ih (call:ic R)(ops:List (Nat×bg)):List Rec->T AB->Fr->St->(Fr->St->R)->R:=
 List.rec ( motive:=λ_=>List Rec->T AB->Fr->St->(Fr->St->R)->R)
    (λ_ _ fr st k=>k fr st)
    (fun jo _ ih recs base fr st k=>CN z fr jo.2.guard
     (Oz  z fr jo.2.xs λxs=>match jo.2.cls with
        | .new=>match jo.2.k.run (λ_=>none) st.next xs with
          |some (.aF v none none (some ay))=>qv v λv=>CM ay λay=>jM fr jo.2.dst v λfr=>PE st.next λn=>nh (some ay) st.next st.heap λh=>
              ih ({ idx:=jo.1,o:=jo.2,v:=v,c:= .new st.next ay,nx:=n }::recs) base fr { heap:=h,next:=n } k
          |_=>z
        |.aF=>MX z call jo.2.k xs st λv st'=>jM fr jo.2.dst v λfr=>ih ({ idx:=jo.1,o:=jo.2,v:=v,c:= .aF base st'.heap,nx:=st'.next }::recs) st'.heap fr st' k
        | _ =>match jo.2.k.run (λ_=>none) .h xs with
          |some (.val v)=>qv v λv=>jM fr jo.2.dst v λfr=>ih ({ idx:=jo.1,o:=jo.2,v:=v,c:= .pure,nx:=st.next }::recs) base fr st k
          | _ =>Ig jo.2.bA base recs λh=>match jo.2.k.run (λb=>kX b h) .h xs with
            | some (.val v)=>qv v λv=>match oU jo.2.bA jo.2.k xs v [] recs with
              |true=>jM fr jo.2.dst v λfr=>ih ({ idx:=jo.1,o:=jo.2,v:=v,c:= .pure,nx:=st.next }::recs) base fr st k
              |false=>z
            |_=>z)
     (jM fr jo.2.dst .undef λfr=>ih ({ idx:=jo.1,o:=jo.2,v:= .undef,c:= .pure,nx:=st.next }::recs) base fr st k)) ops
abbrev Uz(R:Type):=AC->Fr->St->(Fr->St->R)->(Nat->Fr->St->R)->(Fr->St->R)->R
def oV(call:ic R)(ih:Uz R):Uz R
 |.skip,fr,st,kn,_,_=>kn fr st
 |.region ops,fr,st,kn,_,_=>Rm z call ops fr st kn
 |.draw ops,fr,st,kn,_,_=>Ih z call ops [] st.heap fr st kn
 |.seq a b,fr,st,kn,kx,kr=>ih a fr st (λfr st=>ih b fr st kn kx kr) kx kr
 |  .cond x a b,fr,st,kn,kx,kr=>SE z fr x λv=>match v with
    |.bool true=>ih a fr st kn kx kr
    |.bool false=>ih b fr st kn kx kr
    |_=>z
 | .block id a,fr,st,kn,kx,kr=>ih a fr st kn (λru fr st=>match Nat.beq ru id with
     |true=>kn fr st
     |false=>kx ru fr st) kr
 |.loop a,fr,st,kn,kx,kr=>ih a fr st (λfr st=>ih (.loop a) fr st kn kx kr) kx kr
 |.exit id,fr,st,_,kx,_=>kx id fr st
 |.ret,fr,st,_,_,kr=>kr fr st
def PG(call:ic R)(n:Nat):Uz R:=
 Nat.rec (motive:=λ_=>Uz R) (λ_ _ _ _ _ _=>z) (λ_ ih=>oV z call ih) n
def Af(vs:List AV):Nat->Fr->(Fr->R)->R:=
 List.rec (motive:=λ_=>Nat->Fr->(Fr->R)->R) (λ_ fr k=>k fr)
    (λv _ ih i fr k=>nh (some v) (key i) fr λfr=>ih (i+1) fr k) vs
def Ag(st:St)(fr:Fr)(rs:List AP)(k:AV->R):R:=
 match cu (λb=>kX b st.heap) fr rs with
 |  some vs=>MW vs λvs=>match vs with
    |[v]=>k v
    |vs=>k (.tuple vs)
 |none=>z
def EN (O:dS  )(G:T cw)(m:Nat)(d:Nat):ic R:=
 Nat.rec (motive:=λ_=>ic R) (λ_ _ _ _=>z)
    (fun _ ih f args st k=>match O f with
     |  some s=>match s args st with
        |some (v,st')=>qv v λv=>k v st'
        |none=>z
     |  none=>match kX (key f) G with
        |some F=>match Nat.beq args.length F.nparams with
         |true=>Af args 0 .e λfr=>PG z ih m F.code fr st
              (λfr st=>Ag z st fr F.results λv=>k v st)
              (λ_ _ _=>z)
              (λfr st=>Ag z st fr F.results λv=>k v st)
         |false=>z
        |none=>z) d
end
end
end Go.Ai
