/- An evaluator over plain values, its compiler and its relation to worlds. -/
import Derived.Orders
import Derived.Below
set_option linter.all false
set_option linter.unusedSectionVars false
set_option linter.deprecated false
def H0:=@List.getElem?_eq_getElem
def H5:=@Option.some.injEq
def Za0:=@decide_eq_true
def Za1:=@List.getElem?_eq_some_iff
def Za2:=@decide_eq_false
def Za3:=@Nat.le_refl
def Za4:=@List.getElem?_cons_zero
def Za5:=@List.length_map
def Za6:=@Nat.eq_of_beq_eq_true
def Za7:=@if_neg
def Za8:=@List.mem_cons
def Za9:=@List.mem_cons_of_mem
def Zb0:=@Nat.le_trans
def Zb1:=@Option.bind_some
def Zb2:=@Nat.le_of_ble_eq_true
def Zb3:=@if_pos
def Zb4:=@List.getElem?_map
def Zb5:=@List.getD_eq_getElem?_getD
def Zb6:=@Bool.and_eq_true
def Zb7:=@List.not_mem_nil
def Zb8:=@List.getElem?_cons_succ
def Zb9:=@List.getElem?_append_right
def Zc0:=@List.mem_of_getElem?
def Zc1:=@List.getElem?_append_left
def Zc2:=@List.getElem_mem
def Zc3:=@Nat.zero_add
def Zc4:=@List.getElem?_eq_none
def Zc5:=@List.eq_nil_of_length_eq_zero
def Zc6:=@List.take_succ_eq_append_getElem
def Zc7:=@List.mem_map
def Zc8:=@List.map_append
def Zc9:=@List.length_cons
def Zd0:=@Nat.lt_of_lt_of_le
def Zd1:=@Prod.mk.injEq
def Zd2:=@List.map_cons
def Zd3:=@Array.getElem?_eq_some_iff
def Zd4:=@Int.toNat_natCast
def Zd5:=@List.getElem?_take
def Zd6:=@List.mem_cons_self
def Zd7:=@List.cons_append
def Zd8:=@List.mem_append
def Zd9:=@List.drop_eq_getElem_cons
def Ze0:=@List.append_nil
def Ze1:=@List.nil_append
def Ze2:=@Option.map_some
def Ze3:=@List.mem_iff_getElem?
def Ze4:=@or_false
def Ze5:=@List.getElem?_drop
def Ze6:=@List.length_append
def Ze7:=@decide_eq_true_eq
def Ze8:=@Nat.ne_of_beq_eq_false
def Ze9:=@Option.getD_some
def Zf0:=@List.getElem?_set_ne
def Zf1:=@Option.map_eq_some_iff
def Zf2:=@List.append_assoc
def Zf3:=@List.drop_zero
def Zf4:=@Bool.false_eq_true
def Zf5:=@List.flatten_cons
def Zf6:=@Bool.true_and
def Zf7:=@List.cons.injEq
def Zf8:=@List.range_succ
def Zf9:=@List.take_of_length_le
def Zg0:=@Nat.add_zero
def Zg1:=@List.getElem?_set_self
def Zg2:=@List.mem_iff_getElem
def Zg3:=@List.map_nil
def Zg4:=@List.drop_append_of_le_length
def Zg5:=@Array.getElem?_eq_getElem
def Zg6:=@List.mem_or_eq_of_mem_set
def Zg7:=@List.all_eq_true
def Zg8:=@Nat.mul_le_mul_right
def Zg9:=@of_decide_eq_true
def Zh0:=@if_false
def Zh1:=@Nat.succ_mul
def Zh2:=@decide_true
def Zh3:=@Nat.add_sub_cancel
def Zh4:=@List.map_map
def Zh5:=@List.getElem?_range
def Zh6:=@List.mem_range
def Zh7:=@if_true
def Zh8:=@List.mem_singleton
def Zh9:=@List.length_take
def Zi0:=@Int.tdiv_eq_ediv_of_nonneg
def Zi1:=@Bool.and_true
def Zi2:=@Bool.and_self
def Zi3:=@Option.some.inj
def Zi4:=@Nat.lt_or_ge
def Zi5:=@Nat.le_max_right
def Zi6:=@Array.length_toList
def Zi7:=@List.ext_getElem?
def Zi8:=@Nat.zero_le
def Zi9:=@List.length_nil
def Zj0:=@Option.getD_none
def Zj1:=@List.take_length
def Zj2:=@List.map_congr_left
def Zj3:=@Nat.add_mul
def Zj4:=@Bool.or_eq_true
def Zj5:=@Nat.le_max_left
def Zj6:=@Array.getElem?_setIfInBounds_ne
def Zj7:=@Array.getElem?_toList
def Zj8:=@List.set_append_right
def Zj9:=@Nat.add_assoc
def Zk0:=@Bool.not_true
def Zk1:=@Bool.not_false
def Zk2:=@Bool.not_eq_true'
def Zk3:=@Nat.sub_self
def Zk4:=@Nat.mod_eq_of_lt
def Zk5:=@List.filter_append
def Zk6:=@Array.getElem?_modify
def Zk7:=@Classical.byContradiction
def Zk8:=@Nat.min_eq_left
def Zk9:=@Function.comp_def
def Zl0:=@Nat.mul_le_mul_left
def Zl1:=@List.drop_drop
def Zl2:=@List.take_append_of_le_length
def Zl3:=@List.mem_filter
def Zl4:=@List.length_set
def Zl5:=@List.take_append_drop
def Zl6:=@List.length_filter_le
def Zl7:=@Array.getD_eq_getD_getElem?
def Zl8:=@Nat.mod_lt
def Zl9:=@Array.ext'
def Zm0:=@List.range_eq_range'
def Zm1:=@List.mem_append_left
def Zm2:=@Int.fdiv_eq_ediv_of_nonneg
def Zm3:=@beq_eq_false_iff_ne
def Zm4:=@List.replicate_succ
def Zm5:=@Option.isSome_iff_exists
def Zm6:=@Bool.eq_iff_iff
def Zm7:=@of_decide_eq_false
def Zm8:=@Nat.eq_zero_or_pos
def Zm9:=@List.getElem?_replicate
def Zn0:=@List.set_eq_take_append_cons_drop
def Zn1:=@Nat.le_of_lt
def Zn2:=@List.drop_take
def Zn3:=@List.size_toArray
def Zn4:=@Nat.zero_mul
def Zn5:=@List.drop_of_length_le
def Zn6:=@List.getElem_cons_succ
def Zn7:=@List.getElem_take
def Zn8:=@List.flatMap_cons
def Zn9:=@UInt8.lt_iff_toNat_lt
def Zo0:=@Array.eq_empty_of_size_eq_zero
def Zo1:=@List.getElem_map
def Zo2:=@Int.natCast_emod
def Zo3:=@List.countP_cons
def Zo4:=@Nat.lt_irrefl
def Zo5:=@List.sum_cons
def Zo6:=@Array.toList_extract
def Zo7:=@Nat.mul_one
def Zo8:=@Nat.one_mul
def Zo9:=@and_true
def Zp0:=@Array.getElem?_setIfInBounds
def Zp1:=@Array.getElem?_push
def Zp2:=@decide_false
def Zp3:=@Array.toList_setIfInBounds
def Zp4:=@Nat.mod_eq_sub_mod
def Zp5:=@Array.getElem?_append_left
def Zp6:=@List.set_cons_zero
def Zp7:=@List.length_range
def Zp8:=@Bool.false_or
def Zp9:=@List.range'_succ
def Zq0:=@List.length_drop
def Zq1:=@List.isEmpty_map
def Zq2:=@Nat.add_comm
def Zq3:=@Nat.sub_zero
def Zq4:=@Nat.blt_eq
def Zq5:=@List.map_set
def Zq6:=@UInt8.toNat_inj
def Zq7:=@List.take_left'
def Zq8:=@List.foldl_cons
def Zq9:=@Int.ediv_nonneg
def Zr0:=@List.sum_append
def Zr1:=@List.map_id
def Zr2:=@true_and
namespace Go.Ai
section
inductive Pos where
 |h
 |o (p:Pos)
 |i (p:Pos)
 deriving DecidableEq,Inhabited
def Pos.toNat:Pos->Nat
 | .h=>1
 | .o p=>2*p.toNat
 | .i p=>2*p.toNat+1
def Pos.succ:Pos->Pos
 | .h=> .o .h
 | .o p=> .i p
 | .i p=> .o p.succ
def Pos.ags:Nat->Nat->Pos
 |0,_=> .h
 |  f+1,n=>match Nat.ble n 1 with
    |true=> .h
    |false=>match Nat.beq (n % 2) 0 with
     |true=> .o (Pos.ags f (n / 2))
     |false=> .i (Pos.ags f (n / 2))
def key(n:Nat):Pos:=Pos.ags (n+1).log2 (n+1)
def Pos.beq:Pos->Pos->Bool
 | .h,.h=>true
 | .o a,.o b=>a.beq b
 | .i a,.i b=>a.beq b
 |_,_=>false
inductive T(α:Type) where
 |e
 |n (l:T α) (v:Option α) (r:T α)
 deriving Inhabited
def T.get{α:Type}:Pos->T α->Option α
 |_,.e=>none
 | .h,.n _ v _=>v
 | .o p,.n l _ _=>l.get p
 | .i p,.n _ _ r=>r.get p
def T.put{α:Type}(x:Option α):Pos->T α->T α
 | .h,.e=> .n .e x .e
 | .h,.n l _ r=> .n l x r
 | .o p,.e=> .n (T.put x p .e) none .e
 | .o p,.n l v r=> .n (T.put x p l) v r
 | .i p,.e=> .n .e none (T.put x p .e)
 | .i p,.n l v r=> .n l v (T.put x p r)
inductive AV where
 |bool (b:Bool)
 |int (k:IntKind) (n:Int)
 |str (s:List Nat)
 |ju
 |ptr (b:Pos) (off:Nat)
 |fp (xs:List (List AV)) (i j:Nat)
 |af
 |slice (b:Pos) (off len:Nat) (cap:Option Nat) (es:Nat)
 |fl (xs:List (List AV)) (es:Nat)
 |qE
 |map (b:Pos)
 |func (f:FuncId) (first captured:List AV)
 |iI
 |BW
 |iface (t:TypeId) (v:AV)
 |agg (l:List AV)
 |tuple (l:List AV)
 deriving Inhabited
inductive AB where
 |cells (cs:List AV) (fz:Nat)
 |map (es:List (AV×AV×Nat)) (clock:Nat)
 deriving Inhabited
def AV.cells:AV->List AV
 | .agg l=>l
 |v=>[v]
def AV.undef:AV:= .tuple []
def AV.one:AV->Bool
 | .agg _=>false
 | .tuple _=>false
 |_=>true
def aM:List AV->Bool
 |[]=>true
 |  v::l=>match v.one with
    |true=>aM l
    |false=>false
inductive eI where
 |val (v:AV)
 |bh (v:AV) (del:Option Pos) (set:Option (Pos×AB)) (new:Option AB)
 |call (f:FuncId) (args:List AV)
 deriving Inhabited
def nth{α:Type}:List α->Nat->Option α
 |[],_=>none
 |a::_,0=>some a
 |_::l,n+1=>nth l n
def cut{α:Type}(l:List α)(i n:Nat):Option (List α):=
 match Nat.ble (i+n) l.length with
 |true=>some ((l.drop i).take n)
 |false=>none
def aU{α:Type}(l:List α)(i:Nat)(vs:List α):List α:=l.take i++(vs++l.drop (i+vs.length))
def kA:List Nat->List Nat->Bool
 |[],[]=>true
 |  a::x,b::y=>match Nat.beq a b with
    |true=>kA x y
    |false=>false
 |_,_=>false
def aO:List Nat->List Nat->Bool
 |_,[]=>false
 |[],_::_=>true
 |  a::x,b::y=>match Nat.blt a b with
    |true=>true
    |false=>match Nat.beq a b with
     |true=>aO x y
     |false=>false
inductive PK where
 |b
 |i
 |s
 deriving Inhabited
inductive gZ where
 |num
 |bool
 |ptr
 |slice
 |map
 |func
 |iface
 |struct (fs:List (Nat×PK))
 deriving Inhabited
inductive arl where
 |int (k:IntKind)
 |same
 |ofBytes
 deriving Inhabited
inductive LK where
 |s
 |l
 |m
 deriving Inhabited
inductive aF where
 |move
 |pick
 |alloc (zero:List AV)
 |box
 |build (zero:List AV) (places:List (Nat×Nat))
 |buildSlice (es len:Nat) (zero:List AV) (places:List Nat)
 |load (n:Option Nat)
 |store (n:Nat)
 |nilCheck
 |bin (op:BinOp) (q:gZ)
 |un (op:UnOp)
 |conv (k:arl)
 |mkIface (t:TypeId)
 |mkFunc (f:FuncId) (VR:Nat)
 |mkMap
 |lookup (pk:PK) (zero:AV) (ok:Bool)
 |mapSet (pk:PK)
 |mkSlice (es bytes:Nat) (zero:List AV)
 |sliceS (lo hi:Bool)
 |sliceL (es:Nat) (lo hi mx:Bool)
 |fieldA (off:Nat)
 |idxA (es:Nat) (arr:Option Nat)
 |field (off:Nat) (n:Option Nat)
 |idxS
 |extract (i:Nat)
 |callF (f:FuncId)
 |callV
 |lenB (k:LK)
 |capB
 |append (es bytes:Nat)
 |copyB (es:Nat)
 |minB
 |maxB
 |clearS (es:Nat) (zero:List AV)
 |bad
 deriving Inhabited
def loI(k:IntKind):Int:=match k with
 | .i8=> -128| .i16=> -32768| .i32=> -2147483648| .i64=> -9223372036854775808|_=>0
def hiI(k:IntKind):Int:=match k with
 | .i8=>127| .i16=>32767| .i32=>2147483647| .i64=>9223372036854775807
 | .u8=>255| .u16=>65535| .u32=>4294967295| .u64=>18446744073709551615
def ax(k:IntKind)(n:Int):Int:=
 match Int.decLe (loI k) n with
 |  .isTrue _=>match Int.decLe n (hiI k)with
    | .isTrue _=>n
    | .isFalse _=>k.wrap n
 | .isFalse _=>k.wrap n
def Lu(a b:IntKind):Bool:=match decEq a b with
 | .isTrue _=>true
 | .isFalse _=>false
def zO(a b:Int):Bool:=match Int.decEq a b with
 | .isTrue _=>true
 | .isFalse _=>false
def BJ(a b:Int):Bool:=match Int.decLt a b with
 | .isTrue _=>true
 | .isFalse _=>false
def af4(a b:Int):Bool:=match Int.decLe a b with
 | .isTrue _=>true
 | .isFalse _=>false
def AD:PK->AV->AV->Option Bool
 | .b,.bool a,.bool b=>some (a==b)
 |  .i,.int k a,.int k' b=>match Lu k k' with
    |true=>some (zO a b)
    |false=>none
 | .s,.str a,.str b=>some (kA a b)
 |_,_,_=>none
def eqFields(xs ys:List AV):List (Nat×PK)->Option Bool
 |[]=>some true
 |  (o,pk)::fs=>match nth xs o,nth ys o with
    | some a,some b=>match AD pk a b with
      |some true=>eqFields xs ys fs
      |some false=>some false
      |none=>none
    |_,_=>none
def aaJ:gZ->AV->AV->Option Bool
 | .bool,.bool a,.bool b=>some (a==b)
 | .ptr,.ju,.ju=>some true
 | .ptr,.ju,.ptr _ _=>some false
 | .ptr,.ptr _ _,.ju=>some false
 | .ptr,.ju,.fp _ _ _=>some false
 | .ptr,.fp _ _ _,.ju=>some false
 |  .ptr,.ptr b o,.ptr b' o'=>match Pos.beq b b',Nat.beq o o' with
    |true,true=>some true
    |_,_=>none
 | .slice,.af,.af=>some true
 | .slice,.af,.slice _ _ _ _ _=>some false
 | .slice,.slice _ _ _ _ _,.af=>some false
 | .slice,.af,.fl _ _=>some false
 | .slice,.fl _ _,.af=>some false
 | .map,.qE,.qE=>some true
 | .map,.qE,.map _=>some false
 | .map,.map _,.qE=>some false
 | .func,.iI,.iI=>some true
 | .func,.iI,.func _ _ _=>some false
 | .func,.func _ _ _,.iI=>some false
 | .iface,.BW,.iface _ _=>some false
 | .iface,.iface _ _,.BW=>some false
 | .struct fs,.agg xs,.agg ys=>eqFields xs ys fs
 |_,_,_=>none
def oW (op:BinOp)(q:gZ):AV->AV->Option AV
 |  .int k a,.int k' b=>match op with
    | .shl=>match BJ b 0 with
      |true=>none
      |false=>some (.int k (ax k (a*2 ^ (min b.toNat k.bits))))
    | .shr=>match BJ b 0 with
      |true=>none
      |false=>some (.int k (a.fdiv (2 ^ (min b.toNat k.bits))))
    | op=>match Lu k k' with
      |false=>none
      | true=>match op with
        | .add=>some (.int k (ax k (a+b)))
        | .sub=>some (.int k (ax k (a - b)))
        | .mul=>some (.int k (ax k (a*b)))
        | .quo=>match zO b 0 with
          |true=>none
          |false=>some (.int k (ax k (a.tdiv b)))
        | .rem=>match zO b 0 with
          |true=>none
          |false=>some (.int k (a.tmod b))
        | .and=>some (.int k (k.wrap (BitVec.ofInt k.bits a &&& BitVec.ofInt k.bits b).toNat))
        | .or=>some (.int k (k.wrap (BitVec.ofInt k.bits a ||| BitVec.ofInt k.bits b).toNat))
        | .xor=>some (.int k (k.wrap (BitVec.ofInt k.bits a ^^^ BitVec.ofInt k.bits b).toNat))
        | .andNot=>some (.int k (k.wrap (BitVec.ofInt k.bits a &&& ~~~BitVec.ofInt k.bits b).toNat))
        | .eql=>some (.bool (zO a b))
        | .neq=>some (.bool (!zO a b))
        | .lss=>some (.bool (BJ a b))
        | .leq=>some (.bool (af4 a b))
        | .gtr=>some (.bool (BJ b a))
        | .geq=>some (.bool (af4 b a))
        |_=>none
 |  .str a,.str b=>match op with
    | .add=>match Nat.ble (a.length+b.length) 9223372036854775807 with
      |true=>some (.str (a++b))
      |false=>none
    | .eql=>some (.bool (kA a b))
    | .neq=>some (.bool (!kA a b))
    | .lss=>some (.bool (aO a b))
    | .leq=>some (.bool (aO a b||kA a b))
    | .gtr=>some (.bool (!(aO a b||kA a b)))
    | .geq=>some (.bool (!aO a b))
    |_=>none
 |  x,y=>match op with
    | .eql=>match aaJ q x y with
      |some b=>some (.bool b)
      |none=>none
    | .neq=>match aaJ q x y with
      |some b=>some (.bool (!b))
      |none=>none
    |_=>none
def unA(op:UnOp):AV->Option AV
 |  .bool b=>match op with
    | .not=>some (.bool (!b))
    |_=>none
 |  .int k n=>match op with
    | .neg=>some (.int k (ax k (0 - n)))
    |_=>none
 |_=>none
def bY(cells:List AV):List (Nat×Nat)->List AV->Option (List AV)
 |[],[]=>some cells
 |  (off,size)::ps,v::vs=>
    match Nat.beq v.cells.length size,Nat.ble (off+size) cells.length with
    |true,true=>bY (aU cells off v.cells) ps vs
    |_,_=>none
 |_,_=>none
def bU{α:Type}(l:List α):Nat->List α
 |0=>[]
 |n+1=>l++bU l n
def AE:AV->Option Nat
 |  .int _ n=>match n with
    | .ofNat m=>some m
    | .negSucc _=>none
 |_=>none
def Lv(n:Nat):AV:= .int .i64 (.ofNat n)
def rows(es:Nat)(cs:List AV):Nat->List (List AV)
 |0=>[]
 |n+1=>cs.take es::rows es (cs.drop es) n
def bounds:(lo hi mx:Bool)->List AV->Option (Option Nat×Option Nat×Option Nat)
 |false,false,false,[]=>some (none,none,none)
 |  true,false,false,[a]=>match AE a with
    |some l=>some (some l,none,none)
    |none=>none
 |  false,true,false,[b]=>match AE b with
    |some h=>some (none,some h,none)
    |none=>none
 |  true,true,false,[a,b]=>match AE a,AE b with
    |some l,some h=>some (some l,some h,none)
    |_,_=>none
 |  false,true,true,[b,c]=>match AE b,AE c with
    |some h,some m=>some (none,some h,some m)
    |_,_=>none
 |  true,true,true,[a,b,c]=>match AE a,AE b,AE c with
    |some l,some h,some m=>some (some l,some h,some m)
    |_,_,_=>none
 |_,_,_,_=>none
def dy(es n:Nat)(H:Pos->Option AB):AV->Option (List AV)
 | .af=>some []
 |  .slice b off _ _ _=>match Nat.beq (n*es) 0 with
    |true=>some []
    |false=>match H b with
     |some (.cells cs _)=>cut cs off (n*es)
     |_=>none
 |  .fl xs es'=>match Nat.beq es es',Nat.ble n xs.length with
    |true,true=>some (xs.take n).flatten
    |_,_=>none
 |  .str s=>match Nat.beq es 1,Nat.ble n s.length with
    |true,true=>some ((s.take n).map λc=> .int .u8 (.ofNat c))
    |_,_=>none
 |_=>none
def eJ:AV->Option Nat
 | .af=>some 0
 | .slice _ _ n _ _=>some n
 | .fl xs _=>some xs.length
 | .str s=>some s.length
 |_=>none
def gP(pk:PK)(k:AV):List (AV×AV×Nat)->Nat->Option (Option (Nat×AV))
 |[],_=>some none
 |  (k',v,_)::es,i=>match AD pk k k' with
    |some true=>some (some (i,v))
    |some false=>gP pk k es (i+1)
    |none=>none
def agt:PK->AV->Bool
 | .b,.bool _=>true
 | .i,.int _ _=>true
 | .s,.str _=>true
 |_,_=>false
def tL(k v:AV):List (AV×AV×Nat)->Nat->List (AV×AV×Nat)
 |[],_=>[]
 |(_,_,born)::es,0=>(k,v,born)::es
 |e::es,i+1=>e::tL k v es i
def bytesOf:List AV->Option (List Nat)
 |[]=>some []
 |  .int .u8 (.ofNat n)::l=>match Nat.blt n 256,bytesOf l with
    |true,some s=>some (n::s)
    |_,_=>none
 |_=>none
def YJ(_H:Pos->Option AB)(_next:Pos):List AV->Option eI
 |[x]=>some (.val x)
 |_=>none
def adl(_H:Pos->Option AB)(_next:Pos):List AV->Option eI
 |  [c,a,b]=>match c with
    | .bool true=>some (.val a)
    | .bool false=>some (.val b)
    |_=>none
 |_=>none
def Rz(_H:Pos->Option AB)(next:Pos)(zero:List AV):List AV->Option eI
 |[]=>some (.bh (.ptr next 0) none none (some (.cells zero 0)))
 |_=>none
def abJ(_H:Pos->Option AB)(next:Pos):List AV->Option eI
 |[x]=>some (.bh (.ptr next 0) none none (some (.cells x.cells 0)))
 |_=>none
def RA(_H:Pos->Option AB)(_next:Pos)(zero:List AV)(places:List (Nat×Nat)):List AV->Option eI
 |  xs=>match bY zero places xs with
    |some cs=>some (.val (.agg cs))
    |none=>none
def wZ(_H:Pos->Option AB)(next:Pos)(es len:Nat)(zero:List AV)(places:List Nat):List AV->Option eI
 |  xs=>match bY (bU zero len) (places.map λi=>(i*es,es)) xs with
    |some cs=>some (.bh (.slice next 0 len (some len) es) none none (some (.cells cs 0)))
    |none=>none
def zP (H :Pos->Option AB)(_next:Pos)(n:Option Nat):List AV->Option eI
 |  [p] =>match p with
    | .ptr b off=>match H b with
      | some (.cells cs _)=>match n with
        | none=>match nth cs off with
          |some v=>some (.val v)
          |none=>none
        | some n=>match cut cs off n with
          |some vs=>some (.val (.agg vs))
          |none=>none
      |_=>none
    | .fp xs i j=>match nth xs i with
      | some cs=>match n with
        | none=>match nth cs j with
          |some v=>some (.val v)
          |none=>none
        | some n=>match cut cs j n with
          |some vs=>some (.val (.agg vs))
          |none=>none
      |none=>none
    |_=>none
 |_=>none
def Lw (H:Pos->Option AB)(_next:Pos)(n:Nat):List AV->Option eI
 |  [p, v]=>match p with
    | .ptr b off=>match H b with
      | some (.cells cs fz)=>
        match Nat.beq v.cells.length n,Nat.ble (off+n) cs.length,Nat.ble fz off,aM v.cells with
        |true,true,true,true=>some (.bh .undef none (some (b,.cells (aU cs off v.cells) fz)) none)
        |_,_,_,_=>none
      |_=>none
    |_=>none
 |_=>none
def OM(_H:Pos->Option AB)(_next:Pos):List AV->Option eI
 |  [x]=>match x with
    | .ptr _ _=>some (.val x)
    | .fp _ _ _=>some (.val x)
    | .func _ _ _=>some (.val x)
    |_=>none
 |_=>none
def jv(_H:Pos->Option AB)(_next:Pos)(op:BinOp)(q:gZ):List AV->Option eI
 |  [x,y]=>match oW op q x y with
    |some v=>some (.val v)
    |none=>none
 |_=>none
def akG(_H:Pos->Option AB)(_next:Pos)(op:UnOp):List AV->Option eI
 |  [x]=>match unA op x with
    |some v=>some (.val v)
    |none=>none
 |_=>none
def FP (H:Pos->Option AB)(_next:Pos)(k:arl):List AV->Option eI
 |  [x] =>match k,x with
    | .int k,.int _ n=>some (.val (.int k (ax k n)))
    | .same,.str s=>some (.val (.str s))
    | .ofBytes,.af=>some (.val (.str []))
    | .ofBytes,.slice b off n _ _=>match Nat.beq n 0 with
      |true=>some (.val (.str []))
      | false=>match H b with
        |some (.cells cs _)=>match cut cs off n with
         |some l=>match bytesOf l with
          |some s=>some (.val (.str s))
          |none=>none
         |none=>none
        |_=>none
    |_,_=>none
 |_=>none
def RB(_H:Pos->Option AB)(_next:Pos)(t:TypeId):List AV->Option eI
 |[x]=>some (.val (.iface t x))
 |_=>none
def G8(_H:Pos->Option AB)(_next:Pos)(f:FuncId)(VR:Nat):List AV->Option eI
 |xs=>some (.val (.func f (xs.take VR) (xs.drop VR)))
def RD(_H:Pos->Option AB)(next:Pos):List AV->Option eI
 |_=>some (.bh (.map next) none none (some (.map [] 0)))
def kq (H:Pos->Option AB)(_next:Pos)(pk:PK)(zero:AV)(ok:Bool):List AV->Option eI
 |  [m, k]=>
    match (match m with
      | .qE=>match agt pk k with
        |true=>some none
        |false=>none
      | .map b=>match H b with
        |some (.map es _)=>gP pk k es 0
        |_=>none
      |_=>none)with
    |some (some (_,v))=>some (.val (match ok with|true=> .tuple [v,.bool true]|false=>v))
    |some none=>some (.val (match ok with|true=> .tuple [zero,.bool false]|false=>zero))
    |none=>none
 |_=>none
def yG (H:Pos->Option AB)(_next:Pos)(pk:PK):List AV->Option eI
 |  [m, k,v]=>match m with
    | .map b=>match H b with
      | some (.map es clock)=>match agt pk k,gP pk k es 0 with
        |true,some (some (i,_))=>some (.bh .undef none (some (b,.map (tL k v es i) clock)) none)
        |true,some none=>some (.bh .undef none (some (b,.map (es++[(k,v,clock)]) (clock+1))) none)
        |_,_=>none
      |_=>none
    |_=>none
 |_=>none
def Dc(_H:Pos->Option AB)(next:Pos)(es bytes:Nat)(zero:List AV):List AV->Option eI
 |  [l,c]=>match AE l,AE c with
    | some l,some c=>match Nat.ble l c,Nat.ble (bytes*c) 281474976710656,Nat.ble c 9223372036854775807 with
      |true,true,true=>some (.bh (.slice next 0 l (some c) es) none none (some (.cells (bU zero c) 0)))
      |_,_,_=>none
    |_,_=>none
 |_=>none
def VS(_H:Pos->Option AB)(_next:Pos)(lo hi:Bool):List AV->Option eI
 |  x ::bs=>match x,bounds lo hi false bs with
    | .str s,some (l,h,_)=>
      let h:=h.getD s.length
      let l:=l.getD 0
      match Nat.ble l h,Nat.ble h s.length with
      |true,true=>some (.val (.str ((s.take h).drop l)))
      |_,_=>none
    |_,_=>none
 |_=>none
def iP (_H:Pos->Option AB)(_next:Pos)(es:Nat)(lo hi mx:Bool):List AV->Option eI
 |  x ::bs=>match x,bounds lo hi mx bs with
    | .slice b off len cap es',some (l,h,m)=>
      match Nat.beq es es',Nat.ble (l.getD 0) (h.getD len)with
      | true,true=>match cap,m with
        | some c,some m=>match Nat.ble (h.getD len) m,Nat.ble m c with
          |true,true=>some (.val (.slice b (off+l.getD 0*es) (h.getD len - l.getD 0) (some (m - l.getD 0)) es))
          |_,_=>none
        | some c,none=>match Nat.ble (h.getD len) c with
          |true=>some (.val (.slice b (off+l.getD 0*es) (h.getD len - l.getD 0) (some (c - l.getD 0)) es))
          |false=>none
        | none,some m=>match Nat.ble (h.getD len) m,Nat.ble m len with
          |true,true=>some (.val (.slice b (off+l.getD 0*es) (h.getD len - l.getD 0) (some (m - l.getD 0)) es))
          |_,_=>none
        | none,none=>match Nat.ble (h.getD len) len with
          |true=>some (.val (.slice b (off+l.getD 0*es) (h.getD len - l.getD 0) none es))
          |false=>none
      |_,_=>none
    | .fl xs es',some (l,h,m)=>
      match Nat.beq es es' with
      | true=>match m with
        | some m=>match Nat.beq (l.getD 0) 0,Nat.beq (h.getD xs.length) 0,Nat.beq m 0 with
          |true,true,true=>some (.val (.slice .h 0 0 (some 0) es))
          |_,_,_=>none
        | none=>match Nat.ble (l.getD 0) (h.getD xs.length),Nat.ble (h.getD xs.length) xs.length with
          |true,true=>some (.val (.fl ((xs.take (h.getD xs.length)).drop (l.getD 0)) es))
          |_,_=>none
      |false=>none
    | .af,some (l,h,m)=>match Nat.beq (l.getD 0) 0,Nat.beq (h.getD 0) 0,Nat.beq (m.getD 0) 0 with
        |true,true,true=>some (.val .af)
        |_,_,_=>none
    |_,_=>none
 |_=>none
def VT(_H:Pos->Option AB)(_next:Pos)(off:Nat):List AV->Option eI
 |  [x]=>match x with
    | .ptr b o=>some (.val (.ptr b (o+off)))
    | .fp xs i j=>some (.val (.fp xs i (j+off)))
    |_=>none
 |_=>none
def sH (_H:Pos->Option AB)(_next:Pos)(es:Nat)(arr:Option Nat):List AV->Option eI
 |  [x, i]=>match AE i with
    | some i=>match arr,x with
      | none,.slice b off len _ _=>match Nat.blt i len with
        |true=>some (.val (.ptr b (off+i*es)))
        |false=>none
      | none,.fl xs es'=>match Nat.blt i xs.length,Nat.beq es es' with
        |true,true=>some (.val (.fp xs i 0))
        |_,_=>none
      | some n,.ptr b off=>match Nat.blt i n with
        |true=>some (.val (.ptr b (off+i*es)))
        |false=>none
      |_,_=>none
    |none=>none
 |_=>none
def RE (_H:Pos->Option AB)(_next:Pos)(off:Nat)(n:Option Nat):List AV->Option eI
 |  [x] =>match x with
    | .agg cs=>match n with
      | none=>match nth cs off with
        |some v=>some (.val v)
        |none=>none
      |some n=>some (.val (.agg ((cs.drop off).take n)))
    |_=>none
 |_=>none
def YK(_H:Pos->Option AB)(_next:Pos):List AV->Option eI
 |  [x,i]=>match x,AE i with
    | .str s,some i=>match nth s i with
      |some c=>some (.val (.int .u8 (.ofNat c)))
      |none=>none
    |_,_=>none
 |_=>none
def KE(_H:Pos->Option AB)(_next:Pos)(i:Nat):List AV->Option eI
 |  [x]=>match x with
    | .tuple vs=>match nth vs i with
      |some v=>some (.val v)
      |none=>none
    |_=>none
 |_=>none
def aaK(_H:Pos->Option AB)(_next:Pos)(f:FuncId):List AV->Option eI
 |xs=>some (.call f xs)
def aaL(_H:Pos->Option AB)(_next:Pos):List AV->Option eI
 |  x::xs=>match x with
    | .func f first captured=>some (.call f (first++(xs++captured)))
    |_=>none
 |_=>none
def PO(H:Pos->Option AB)(_next:Pos)(k:LK):List AV->Option eI
 |  [x]=>match k,x with
    | .m,.qE=>some (.val (Lv 0))
    | .m,.map b=>match H b with
      |some (.map es _)=>some (.val (Lv es.length))
      |_=>none
    | .s,.str s=>some (.val (Lv s.length))
    | .l,.af=>some (.val (Lv 0))
    | .l,.slice _ _ n _ _=>some (.val (Lv n))
    | .l,.fl xs _=>some (.val (Lv xs.length))
    |_,_=>none
 |_=>none
def lK (H:  Pos->Option AB)(next:Pos)(es bytes:Nat):List AV->Option eI
 |  [s, x]=> match eJ s,eJ x with
    | some n,some m=>
      match Nat.ble ((2*(n+m)+768)*bytes) 281474976710656,Nat.ble (n+m) 9223372036854775807 with
      | true,true=>match Nat.beq m 0,s with
        |true,.slice b off n c es'=>some (.val (.slice b off n c es'))
        |true,.fl xs es'=>some (.val (.fl xs es'))
        |true,.af=>some (.val .af)
        |false,.af=>match dy es m H x with
         |some new=>some (.bh (.slice next 0 m none es) none none (some (.cells new 0)))
         |none=>none
        |false,.slice b off n (some c) es'=>
         match Nat.ble (n+m) c with
         |  true=>match H b,dy es m H x with
            |some (.cells cs fz),some new=>match Nat.ble (off+(n+m)*es) cs.length,Nat.ble fz (off+n*es)&&Nat.beq es es',aM new with
             |true,true,true=>some (.bh (.slice b off (n+m) (some c) es) none (some (b,.cells (aU cs (off+n*es) new) fz)) none)
             |_,_,_=>none
            |_,_=>none
         |  false=>match dy es n H s,dy es m H x with
            |some gL,some new=>some (.bh (.slice next 0 (n+m) none es) none none (some (.cells (gL++new) 0)))
            |_,_=>none
        |false,.slice b off n none es'=>
         match H b,dy es n H s,dy es m H x with
         |  some (.cells _ fz),some gL,some new=>match Nat.ble fz (off+n*es)&&Nat.beq es es',aM new with
            |true,true=>some (.bh (.slice next 0 (n+m) none es) (some b) none (some (.cells (gL++new) (fz - off))))
            |_,_=>none
         |_,_,_=>none
        |_,_=>none
      |_,_=>none
    |_,_=>none
 |_=>none
def oX (H : Pos->Option AB)(_next:Pos)(es:Nat):List AV->Option eI
 |  [d, x]=>match eJ d,eJ x with
    | some n,some m=>
      let k:=min m n
      match Nat.beq k 0 with
      | true=>match d with
        | .str _=>none
        |_=>some (.val (Lv 0))
      | false=>match d with
        | .slice b off _ _ _=>match H b,dy es k H x with
          | some (.cells cs fz),some new=>match Nat.ble (off+k*es) cs.length,Nat.ble fz off,aM new with
            |true,true,true=>some (.bh (Lv k) none (some (b,.cells (aU cs off new) fz)) none)
            |_,_,_=>none
          |_,_=>none
        |_=>none
    |_,_=>none
 |_=>none
def La(_H:Pos->Option AB)(_next:Pos):List AV->Option eI
 |  [x,y]=>match x,y with
    | .int k a,.int _ b=>some (.val (.int k (match BJ b a with|true=>b|false=>a)))
    | .str a,.str b=>some (.val (.str (match aO a b||kA a b with|true=>a|false=>b)))
    |_,_=>none
 |_=>none
def Lb(_H:Pos->Option AB)(_next:Pos):List AV->Option eI
 |  [x,y]=>match x,y with
    | .int k a,.int _ b=>some (.val (.int k (match BJ a b with|true=>b|false=>a)))
    | .str a,.str b=>some (.val (.str (match aO a b with|true=>b|false=>a)))
    |_,_=>none
 |_=>none
def sP (H:Pos->Option AB)(_next:Pos)(es:Nat)(zero:List AV):List AV->Option eI
 |  [x] =>match x with
    | .af=>some (.val .undef)
    | .slice b off n _ _=>match Nat.beq n 0 with
      |true=>some (.val .undef)
      | false=>match H b with
        |some (.cells cs fz)=>match Nat.ble (off+n*es) cs.length,Nat.ble fz off,aM (bU zero n)with
         |true,true,true=>some (.bh .undef none (some (b,.cells (aU cs off (bU zero n)) fz)) none)
         |_,_,_=>none
        |_=>none
    |_=>none
 |_=>none
def aF.run(H:Pos->Option AB)(next:Pos):aF->List AV->Option eI
 | .move=>YJ H next
 | .pick=>adl H next
 | .alloc zero=>Rz H next zero
 | .box=>abJ H next
 | .build zero places=>RA H next zero places
 | .buildSlice es len zero places=>wZ H next es len zero places
 | .load n=>zP H next n
 | .store n=>Lw H next n
 | .nilCheck=>OM H next
 | .bin op q=>jv H next op q
 | .un op=>akG H next op
 | .conv k=>FP H next k
 | .mkIface t=>RB H next t
 | .mkFunc f VR=>G8 H next f VR
 | .mkMap=>RD H next
 | .lookup pk zero ok=>kq H next pk zero ok
 | .mapSet pk=>yG H next pk
 | .mkSlice es bytes zero=>Dc H next es bytes zero
 | .sliceS lo hi=>VS H next lo hi
 | .sliceL es lo hi mx=>iP H next es lo hi mx
 | .fieldA off=>VT H next off
 | .idxA es arr=>sH H next es arr
 | .field off n=>RE H next off n
 | .idxS=>YK H next
 | .extract i=>KE H next i
 | .callF f=>aaK H next f
 | .callV=>aaL H next
 | .lenB k=>PO H next k
 | .append es bytes=>lK H next es bytes
 | .copyB es=>oX H next es
 | .minB=>La H next
 | .maxB=>Lb H next
 | .clearS es zero=>sP H next es zero
 | .capB=>λ_=>none
 | .bad=>λ_=>none
inductive ij where
 |t (p:Pos)
 |c (v:AV)
 deriving Inhabited
inductive Cls where
 |pure
 |read
 |new
 |bh
 deriving Inhabited
structure bS where
 dst:Option Pos
 k:aF
 xs:List ij
 guard:Option (Pos×Bool)
 cls:Cls
 bZ:Nat
 deriving Inhabited
inductive AC where
 |skip
 |region (ops:List bS)
 |draw (ops:List (Nat×bS))
 |seq (a b:AC)
 |cond (x:ij) (a b:AC)
 |block (id:Nat) (a:AC)
 |loop (a:AC)
 |exit (id:Nat)
 |ret
 deriving Inhabited
inductive PT where
 |tmp (p:Pos)
 |cell (p:Pos) (n:Option Nat)
 deriving Inhabited
structure dO where
 code:AC
 nparams:Nat
 results:List PT
 deriving Inhabited
abbrev Fr:=T AV
structure St where
 heap:T AB
 next:Pos
 deriving Inhabited
inductive oe where
 |normal
 |exit (id:Nat)
 |ret
 deriving Inhabited
def He(fr:Fr):ij->Option AV
 | .t p=>fr.get p
 | .c v=>some v
def fU(fr:Fr):List ij->Option (List AV)
 |[]=>some []
 |  x::xs=>match He fr x with
    |some v=>match fU fr xs with
     |some vs=>some (v::vs)
     |none=>none
    |none=>none
def cH(fr:Fr):Option (Pos×Bool)->Option Bool
 |none=>some true
 |  some (p,want)=>match fr.get p with
    |some (.bool b)=>some (b==want)
    |some (.tuple _)=>some false
    |_=>none
def eE(fr:Fr)(d:Option Pos)(v:AV):Fr:=match d with
 |some p=>fr.put (some v) p
 |none=>fr
def ON(o:Option (Pos×AB))(h:T AB):T AB:=match o with
 |some (b,x)=>h.put (some x) b
 |none=>h
def Lx(o:Option Pos)(h:T AB):T AB:=match o with
 |some b=>h.put none b
 |none=>h
def St.bh(st:St)(del:Option Pos)(set:Option (Pos×AB))(new:Option AB):St:=
 match new with
 |some x=>{ heap:=T.put (some x) st.next (ON set (Lx del st.heap)),next:=st.next.succ }
 |none=>{ heap:=ON set (Lx del st.heap),next:=st.next }
abbrev au:=FuncId->List AV->St->Option (AV×St)
def cG(call:au)(k:aF)(xs:List AV)(st:St):Option (AV×St):=
 match k.run (λb=>st.heap.get b) st.next xs with
 |some (.val v)=>some (v,st)
 |some (.bh v del set new)=>some (v,st.bh del set new)
 |some (.call f args)=>call f args st
 |none=>none
def mD (call:au):List bS->Fr->St->Option (Fr×St)
 |[],fr,st=>some (fr,st)
 |  o::os,fr,st=>match cH fr o.guard with
    |some true=>match fU fr o.xs with
     |  some xs=>match cG call o.k xs st with
        |some (v,st')=>mD call os (eE fr o.dst v) st'
        |none=>none
     |none=>none
    |some false=>mD call os (eE fr o.dst .undef) st
    |none=>none
def fP:AV->AV->Bool
 | .bool a,.bool b=>a==b
 | .int k a,.int k' b=>Lu k k'&&zO a b
 | .str a,.str b=>kA a b
 | .ju,.ju=>true
 | .ptr b o,.ptr b' o'=>Pos.beq b b'&&Nat.beq o o'
 | .af,.af=>true
 | .slice b o l none es,.slice b' o' l' none es'=>Pos.beq b b'&&Nat.beq o o'&&Nat.beq l l'&&Nat.beq es es'
 | .slice b o l (some c) es,.slice b' o' l' (some c') es'=>Pos.beq b b'&&Nat.beq o o'&&Nat.beq l l'&&Nat.beq c c'&&Nat.beq es es'
 | .qE,.qE=>true
 | .map b,.map b'=>Pos.beq b b'
 | .iI,.iI=>true
 | .BW,.BW=>true
 |_,_=>false
def BX:List AV->List AV->Bool
 |[],[]=>true
 |a::x,b::y=>fP a b&&BX x y
 |_,_=>false
def NF(f:AV->AV->Bool):List AV->List AV->Bool
 |[],[]=>true
 |a::x,b::y=>f a b&&NF f x y
 |_,_=>false
def Cs(f:AV->AV->Bool):List (List AV)->List (List AV)->Bool
 |[],[]=>true
 |a::x,b::y=>NF f a b&&Cs f x y
 |_,_=>false
def NG:Nat->AV->AV->Bool
 |d+1,.fl a n,.fl a' n'=>Cs (NG d) a a'&&Nat.beq n n'
 |_,a,b=>fP a b
def mV:AV->AV->Bool
 | .func f a b,.func f' a' b'=>Nat.beq f f'&&BX a a'&&BX b b'
 | .fl a n,.fl a' n'=>NG 3 (.fl a n) (.fl a' n')
 |a,b=>fP a b
def tM:List AV->List AV->Bool
 |[],[]=>true
 |a::x,b::y=>mV a b&&tM x y
 |_,_=>false
def eo:AV->AV->Bool
 | .agg l,.agg l'=>tM l l'
 | .tuple l,.tuple l'=>tM l l'
 |a,b=>mV a b
inductive RC where
 |pure
 |new (id:Pos) (aN:AB)
 |bh (base:T AB) (h:T AB)
 deriving Inhabited
structure Rec where
 idx:Nat
 o:bS
 v:AV
 c:RC
 nx:Pos
 deriving Inhabited
def snap(bZ:Nat)(h:T AB):List Rec->T AB
 |[]=>h
 |  r ::rs=>match r.c with
    | .new id aN=>match bZ.testBit r.idx with
      |true=>(snap bZ h rs).put (some aN) id
      |false=>snap bZ h rs
    | .bh _ _=>h
    | .pure=>snap bZ h rs
def nE:List (Pos×AB)->T AB->T AB
 |[],h=>h
 |(id,aN)::l,h=>(nE l h).put (some aN) id
def oJ(k:aF)(xs:List AV)(v:AV)(h:T AB):Bool:=
 match k.run (λb=>h.get b) .h xs with
 |some (.val u)=>eo u v
 |_=>false
def nQ(bZ:Nat)(k:aF)(xs:List AV)(v:AV):List (Pos×AB)->List Rec->Bool
 |_,[]=>true
 |  up,r::rs=>match r.c with
    | .new id aN=>match bZ.testBit r.idx with
      |true=>nQ bZ k xs v ((id,aN)::up) rs
      |false=>nQ bZ k xs v up rs
    | .bh base _=>match bZ.testBit r.idx with
      |true=>true
      |false=>oJ k xs v (nE up (snap bZ base rs))&&nQ bZ k xs v up rs
    | .pure=>nQ bZ k xs v up rs
def ep (call:au):List (Nat×bS)->List Rec->T AB->Fr->St->Option (Fr×St)
 |[],_,_,fr,st=>some (fr,st)
 |  (j, o)::os,recs,base,fr,st=>match cH fr o.guard with
    |some false=>ep call os ({ idx:=j,o:=o,v:= .undef,c:= .pure,nx:=st.next }::recs) base (eE fr o.dst .undef) st
    | some true=>match fU fr o.xs with
      |none=>none
      | some xs=>match o.cls with
        | .new=>match o.k.run (λ_=>none) st.next xs with
          |some (.bh v none none (some aN))=>
           ep call os ({ idx:=j,o:=o,v:=v,c:= .new st.next aN,nx:=st.next.succ }::recs) base (eE fr o.dst v) { heap:=st.heap.put (some aN) st.next,next:=st.next.succ }
          |_=>none
        | .bh=>match cG call o.k xs st with
          |some (v,st')=>ep call os ({ idx:=j,o:=o,v:=v,c:= .bh base st'.heap,nx:=st'.next }::recs) st'.heap (eE fr o.dst v) st'
          |none=>none
        | _=>match o.k.run (λ_=>none) .h xs with
          |some (.val v)=>ep call os ({ idx:=j,o:=o,v:=v,c:= .pure,nx:=st.next }::recs) base (eE fr o.dst v) st
          |_=>match o.k.run (λb=>(snap o.bZ base recs).get b) .h xs with
           |some (.val v)=>match nQ o.bZ o.k xs v [] recs with
            |true=>ep call os ({ idx:=j,o:=o,v:=v,c:= .pure,nx:=st.next }::recs) base (eE fr o.dst v) st
            |false=>none
           |_=>none
    |none=>none
def bE(call:au)(ih:AC->Fr->St->Option (oe×Fr×St)):AC->Fr->St->Option (oe×Fr×St)
 | .skip,fr,st=>some (.normal,fr,st)
 |  .region ops,fr,st=>match mD call ops fr st with
    |some (fr,st)=>some (.normal,fr,st)
    |none=>none
 |  .draw ops,fr,st=>match ep call ops [] st.heap fr st with
    |some (fr,st)=>some (.normal,fr,st)
    |none=>none
 |  .seq a b,fr,st=>match ih a fr st with
    |some (.normal,fr,st)=>ih b fr st
    |r=>r
 |  .cond x a b,fr,st=>match He fr x with
    |some (.bool true)=>ih a fr st
    |some (.bool false)=>ih b fr st
    |_=>none
 |  .block id a,fr,st=>match ih a fr st with
    |some (.exit yd,fr,st)=>match Nat.beq yd id with
     |true=>some (.normal,fr,st)
     |false=>some (.exit yd,fr,st)
    |r=>r
 |  .loop a,fr,st=>match ih a fr st with
    |some (.normal,fr,st)=>ih (.loop a) fr st
    |r=>r
 | .exit id,fr,st=>some (.exit id,fr,st)
 | .ret,fr,st=>some (.ret,fr,st)
def exec(call:au):Nat->AC->Fr->St->Option (oe×Fr×St)
 |0=>λ_ _ _=>none
 |n+1=>bE call (exec call n)
def params:Nat->List AV->Fr->Fr
 |_,[],fr=>fr
 |i,v::vs,fr=>params (i+1) vs (fr.put (some v) (key i))
def gR (H:Pos->Option AB)(fr:Fr):List PT->Option (List AV)
 |[]=>some []
 |  .tmp p::rs=>match fr.get p with
    |some v=>match gR H fr rs with
     |some vs=>some (v::vs)
     |none=>none
    |none=>none
 |  .cell p n::rs=>match fr.get p with
    |some q=>match (aF.load n).run H .h [q]with
     |  some (.val v)=>match gR H fr rs with
        |some vs=>some (v::vs)
        |none=>none
     |_=>none
    |none=>none
def zQ:List AV->AV
 |[v]=>v
 |vs=> .tuple vs
abbrev eV:=FuncId->Option (List AV->St->Option (AV×St))
def uz (O:eV)(G:T dO)(m:Nat):Nat->au
 |0=>λ_ _ _=>none
 |  d+  1=>λf args st=>match O f with
    |some s=>s args st
    |none=>match G.get (key f)with
     |  some F=>match Nat.beq args.length F.nparams with
        |true=>match exec (uz O G m d) m F.code (params 0 args .e) st with
         |some (.normal,fr,st')=>match gR (λb=>st'.heap.get b) fr F.results with
          |some vs=>some (zQ vs,st')
          |none=>none
         |some (.ret,fr,st')=>match gR (λb=>st'.heap.get b) fr F.results with
          |some vs=>some (zQ vs,st')
          |none=>none
         |_=>none
        |false=>none
     |none=>none
inductive TK where
 |bool
 |int (k:IntKind)
 |string
 |ptr (elem:Nat)
 |slice (elem:Nat)
 |array (n elem:Nat)
 |map (k e:Nat)
 |struct (fs:List (Nat×Nat×Bool))
 |func
 |iface
 |upt
 |other
 deriving Inhabited
structure TI where
 k:TK
 size:Nat
 bytes:Nat
 zero:Option (List AV)
 BK:Bool:=false
 deriving Inhabited
def RF:Value->Option AV
 | .bool b=>some (.bool b)
 | .int k n=>some (.int k n)
 | .string s=>some (.str (s.data.toList.map UInt8.toNat))
 | .pointer none=>some .ju
 | .slice none 0 0=>some .af
 | .map none=>some .qE
 | .func (.func f) ⟨[]⟩ ⟨[]⟩=>some (.func f [] [])
 | .nilFunc=>some .iI
 | .nilIface=>some .BW
 |_=>none
def sQ:List Value->Option (List AV)
 |[]=>some []
 |  v::vs=>match RF v,sQ vs with
    |some a,some as=>some (a::as)
    |_,_=>none
def adm:Value->Option AV
 |  .agg cs=>match sQ cs.toList with
    |some l=>some (.agg l)
    |none=>none
 |v=>RF v
def uD:Operand->Option ij
 | .tmp t=>some (.t (key t))
 |  .const v=>match adm v with
    |some a=>some (.c a)
    |none=>none
 | .func f=>some (.c (.func f [] []))
 | .global _=>none
def mE:List Operand->Option (List ij)
 |[]=>some []
 |  x::xs=>match uD x,mE xs with
    |some a,some as=>some (a::as)
    |_,_=>none
def TK.isAgg:TK->Bool
 | .struct _=>true
 | .array _ _=>true
 |_=>false
abbrev TT:=T TI
def Dd(tt:TT)(t:Nat):Option gZ:=match tt.get (key t)with
 |  some ti=>match ti.k with
    | .bool=>some .bool
    | .int _=>some .num
    | .string=>some .num
    | .ptr _=>some .ptr
    | .slice _=>some .slice
    | .map _ _=>some .map
    | .func=>some .func
    | .iface=>some .iface
    | .struct fs=>match ti.BK,fields fs with
      |true,some l=>some (.struct l)
      |_,_=>none
    |_=>none
 |none=>none
where
 fields:List (Nat×Nat×Bool)->Option (List (Nat×PK))
  |[]=>some []
  |(off,t,named)::fs=>match named,tt.get (key t),fields fs with
   |true,some ti,some l=>match ti.k with
    | .bool=>some ((off,.b)::l)
    | .int _=>some ((off,.i)::l)
    | .string=>some ((off,.s)::l)
    |_=>none
   |_,_,_=>none
def De(ti:TI):Option Nat:=match ti.k.isAgg with
 |true=>some ti.size
 |false=>none
def Df:Option Operand->List Operand
 |some x=>[x]
 |none=>[]
def ku (tt:TT):Op->Option (aF×List ij×Cls)
 |  .move x=>match uD x with
    |some a=>some (.move,[a],.pure)
    |none=>none
 |  .assign x=>match uD x with
    |some a=>some (.move,[a],.pure)
    |none=>none
 |  .pick c a b=>match mE [c,a,b]with
    |some l=>some (.pick,l,.pure)
    |none=>none
 |  .alloc t=>match tt.get (key t)with
    |some ti=>match ti.zero with
     |some z=>some (.alloc z,[],.new)
     |none=>none
    |none=>none
 |  .box _ x=>match uD x with
    |some a=>some (.box,[a],.new)
    |none=>none
 |  .build t ps=>match tt.get (key t),mE (ps.toList.map (·.2))with
    |some ti,some l=>match ti.k,ti.zero with
     |  .struct fs,some z=>match places tt fs (ps.toList.map (·.1)),af5 tt fs with
        |some p,true=>some (.build z p,l,.pure)
        |_,_=>none
     |  .array _ e,some z=>match tt.get (key e)with
        |some te=>some (.build z (ps.toList.map λx=>(x.1*te.size,te.size)),l,.pure)
        |none=>none
     |_,_=>none
    |_,_=>none
 |  .buildSlice t len ps=>match tt.get (key t),mE (ps.toList.map (·.2))with
    |some ti,some l=>match ti.k with
     |  .slice e=>match tt.get (key e)with
        | some te=>match te.zero,Nat.ble (len*te.size) 16777216 with
          |some z,true=>some (.buildSlice te.size len z (ps.toList.map (·.1)),l,.new)
          |_,_=>none
        |none=>none
     |_=>none
    |_,_=>none
 |  .load t a=>match tt.get (key t),uD a with
    |some ti,some a=>some (.load (De ti),[a],.read)
    |_,_=>none
 |  .store t a x=>match tt.get (key t),mE [a,x]with
    |some ti,some l=>some (.store ti.size,l,.bh)
    |_,_=>none
 |  .nilCheck x=>match uD x with
    |some a=>some (.nilCheck,[a],.pure)
    |none=>none
 |  .binOp op t x y _=>match Dd tt t,mE [x,y]with
    |some q,some l=>some (.bin op q,l,.pure)
    |none,some l=>match op with
     | .eql=>none
     | .neq=>none
     |_=>some (.bin op .num,l,.pure)
    |_,_=>none
 |  .unOp op _ x=>match uD x with
    |some a=>some (.un op,[a],.pure)
    |none=>none
 |  .convert src dst x=>match tt.get (key src),tt.get (key dst),uD x with
    |some s,some d,some a=>match s.k,d.k with
     | .int _,.int k=>some (.conv (.int k),[a],.pure)
     | .string,.string=>some (.conv .same,[a],.pure)
     |  .slice e,.string=>match tt.get (key e)with
        | some te=>match te.k with
          | .int .u8=>some (.conv .ofBytes,[a],.read)
          |_=>none
        |none=>none
     |_,_=>none
    |_,_,_=>none
 |  .makeInterface t x=>match tt.get (key t),uD x with
    |some ti,some a=>match ti.k with
     | .iface=>none
     | .other=>none
     |_=>some (.mkIface t,[a],.pure)
    |_,_=>none
 |  .makeFunc fn first captured=>match fn,mE (first.toList++captured.toList)with
    | .func f,some l=>some (.mkFunc f first.size,l,.pure)
    |_,_=>none
 |  .makeMap t r=>match tt.get (key t)with
    |some ti=>match ti.k,r with
     | .map _ _,none=>some (.mkMap,[],.new)
     | .map _ _,some (.const (.int _ _))=>some (.mkMap,[],.new)
     |_,_=>none
    |none=>none
 |  .makeSlice t l c=>match tt.get (key t),mE [l,c]with
    |some ti,some xs=>match ti.k with
     |  .slice e=>match tt.get (key e)with
        | some te=>match te.zero with
          |some z=>some (.mkSlice te.size te.bytes z,xs,.new)
          |none=>none
        |none=>none
     |_=>none
    |_,_=>none
 |  .slice t x lo hi mx=>match tt.get (key t),mE ([x]++Df lo++Df hi++Df mx)with
    |some ti,some xs=>match ti.k with
     |  .string=>match mx with
        |none=>some (.sliceS lo.isSome hi.isSome,xs,.pure)
        |some _=>none
     |  .slice e=>match tt.get (key e)with
        |some te=>some (.sliceL te.size lo.isSome hi.isSome mx.isSome,xs,.pure)
        |none=>none
     |_=>none
    |_,_=>none
 |  .fieldAddr t x f=>match tt.get (key t),uD x with
    |some ti,some a=>match ti.k with
     |  .struct fs=>match nth fs f with
        | some (off,ft,_)=>match tt.get (key ft)with
          |some fi=>match Nat.beq fi.size 0 with
           |false=>some (.fieldA off,[a],.pure)
           |true=>none
          |none=>none
        |none=>none
     |_=>none
    |_,_=>none
 |  .field t x f=>match tt.get (key t),uD x with
    |some ti,some a=>match ti.k with
     |  .struct fs=>match nth fs f with
        | some (off,ft,_)=>match tt.get (key ft)with
          |some fi=>some (.field off (De fi),[a],.pure)
          |none=>none
        |none=>none
     |_=>none
    |_,_=>none
 |  .indexAddr t x ix=>match tt.get (key t),mE [x,ix]with
    |some ti,some l=>match ti.k with
     |  .slice e=>match tt.get (key e)with
        |some te=>some (.idxA te.size none,l,.pure)
        |none=>none
     |  .array n e=>match tt.get (key e)with
        |some te=>some (.idxA te.size (some n),l,.pure)
        |none=>none
     |_=>none
    |_,_=>none
 |  .index t x ix=>match tt.get (key t),mE [x,ix]with
    |some ti,some l=>match ti.k with
     | .string=>some (.idxS,l,.pure)
     |_=>none
    |_,_=>none
 |  .lookup t x ix ok=>match tt.get (key t),mE [x,ix]with
    |some ti,some l=>match ti.k with
     |  .map k e=>match tt.get (key k),tt.get (key e)with
        | some tk,some te=>match tk.k,te.zero with
          | .int _,some z=>some (.lookup .i (PU te z) ok,l,.read)
          | .string,some z=>some (.lookup .s (PU te z) ok,l,.read)
          | .bool,some z=>some (.lookup .b (PU te z) ok,l,.read)
          |_,_=>none
        |_,_=>none
     |_=>none
    |_,_=>none
 | .mapUpdate t m k v=>akH tt t m k v
 | .insert t m k v=>akH tt t m k v
 |  .extract x i=>match uD x with
    |some a=>some (.extract i,[a],.pure)
    |none=>none
 |  .call c=>match mE c.args.toList with
    |none=>none
    |some xs=>match c.callee with
     | .value (.func f)=>some (.callF f,xs,.bh)
     |  .value x=>match uD x with
        |some a=>some (.callV,a::xs,.bh)
        |none=>none
     | .invoke _ _=>none
     |  .builtin b=>match b with
        | .len=>match c.argTypes.toList,xs with
          |t::_,[_]=>match tt.get (key t)with
           |some ti=>match ti.k with
            | .string=>some (.lenB .s,xs,.pure)
            | .slice _=>some (.lenB .l,xs,.pure)
            | .map _ _=>some (.lenB .m,xs,.read)
            |_=>none
           |none=>none
          |_,_=>none
        | .append=>match c.argTypes.toList with
          |t::t2::_=>match tt.get (key t),tt.get (key t2)with
           |some ti,some t2i=>match ti.k,t2i.k with
            |_,.int _=>none
            | .slice _,.string=>none
            |  .slice e,_=>match tt.get (key e)with
               | some te=>match te.zero with
                 |some _=>some (.append te.size te.bytes,xs,.bh)
                 |none=>none
               |none=>none
            |_,_=>none
           |_,_=>none
          |_=>none
        | .copy=>match c.argTypes.toList with
          |t::_=>match tt.get (key t)with
           |some ti=>match ti.k with
            |  .slice e=>match tt.get (key e)with
               |some te=>some (.copyB te.size,xs,.bh)
               |none=>none
            |_=>none
           |none=>none
          |_=>none
        | .min=>match xs with
          |[_,_]=>some (.minB,xs,.pure)
          |_=>none
        | .max=>match xs with
          |[_,_]=>some (.maxB,xs,.pure)
          |_=>none
        | .clear=>match c.argTypes.toList with
          |t::_=>match tt.get (key t)with
           |some ti=>match ti.k with
            |  .slice e=>match tt.get (key e)with
               | some te=>match te.zero with
                 |some z=>some (.clearS te.size z,xs,.bh)
                 |none=>none
               |none=>none
            |_=>none
           |none=>none
          |_=>none
        |_=>none
 |_=>none
where
 af5 (tt:TT):List (Nat×Nat×Bool)->Bool
  |[]=>true
  |  (_,t,_)::l=>match tt.get (key t)with
     |some _=>af5 tt l
     |none=>false
 places (tt:TT) (fs:List (Nat×Nat×Bool)):List Nat->Option (List (Nat×Nat))
  |[]=>some []
  |  i ::is=>match nth fs i,places tt fs is with
     | some (off,t,_),some l=>match tt.get (key t)with
       |some ti=>some ((off,ti.size)::l)
       |none=>none
     |_,_=>none
 PU (te:TI) (z:List AV):AV:=match te.k.isAgg with
  |true=> .agg z
  |  false=>match z with
     |[v]=>v
     |_=> .agg z
 akH (tt:TT) (t:Nat) (m k v:Operand):Option (aF×List ij×Cls):=
  match tt.get (key t),mE [m,k,v]with
  |  some ti,some l=>match ti.k with
     | .map kt _=>match tt.get (key kt)with
       |some tk=>match tk.k with
        | .int _=>some (.mapSet .i,l,.bh)
        | .string=>some (.mapSet .s,l,.bh)
        | .bool=>some (.mapSet .b,l,.bh)
        |_=>none
       |none=>none
     |_=>none
  |_,_=>none
def abK(ops:Array Oper):Option (Nat×Bool)->Option (Option (Pos×Bool))
 |none=>some none
 |  some (j,b)=>match ops[j]? with
    |some o=>match o.dst with
     |some d=>some (some (key d,b))
     |none=>none
    |none=>none
def agu:List Oper->List Nat->List Nat
 |[],acc=>acc
 |o::os,acc=>agu os (acc++[o.after.toList.foldl (λs e=>match Region.binds .any e with
   |true=>s ||| 2 ^ e.on ||| (nth acc e.on).getD 0
   |false=>s) 0])
def uE(tt:TT)(nt:Nat)(ops:Array Oper):List Oper->List Nat->Option (List bS)
 |[],_=>some []
 |  o::os,bs=>match abK ops o.guard,uE tt nt ops os bs.tail,arn nt o.dst with
    |some g,some l,true=>match ku tt o.op with
     |some (k,xs,cls)=>some ({ dst:=o.dst.map key,k:=k,xs:=xs,guard:=g,cls:=cls,bZ:=bs.headD 0 }::l)
     |none=>some ({ dst:=o.dst.map key,k:= .bad,xs:=[],guard:=g,cls:= .bh,bZ:=bs.headD 0 }::l)
    |_,_,_=>none
where
 arn (nt:Nat):Option Tmp->Bool
  |none=>true
  |some d=>Nat.blt d nt
def bS.looks(o:bS):List Pos:=
 (match o.guard with|some (p,_)=>[p]|none=>[])++o.xs.filterMap λ| .t p=>some p| .c _=>none
def PV(p:Pos):List Pos->Bool
 |[]=>false
 |q::l=>Pos.beq p q||PV p l
def VU(a b:bS):Bool:=
 (match a.dst with
  |some d=> !PV d b.looks&&(match b.dst with|some d'=> !Pos.beq d d'|none=>true)
  |none=>true)&&
 (match b.dst with
  |some d=> !PV d a.looks
  |none=>true)
def BL:List (Nat×bS)->List (Nat×bS)->List (Nat×bS)
 |[],held=>held
 |  (i,o)::l,held=>match o.cls with
    | .bh=>held.filter (λx=>o.bZ.testBit x.1)++(i,o)::BL l (held.filter λx=> !o.bZ.testBit x.1)
    |_=>BL l (held++[(i,o)])
def Ly:Nat->List bS->List (Nat×bS)
 |_,[]=>[]
 |i,o::os=>(i,o)::Ly (i+1) os
def PW(m:Nat):Nat->List (Nat×bS)->Bool
 |seen,[]=>Nat.beq seen (2 ^ m - 1)
 |  seen,(i,o)::l=>Nat.blt i m&& !seen.testBit i&&Nat.beq (o.bZ &&& seen) o.bZ&&(match o.cls with| .bh=>Nat.beq o.bZ seen|_=>true)&&
    (l.all λx=>x.2.bZ.testBit i||VU o x.2)&&PW m (seen ||| 2 ^ i) l
def vQ (tt:TT)(nt:Nat):Code->Option AC
 | .skip=>some .skip
 |  .region _ ops draw=>match uE tt nt ops ops.toList (agu ops.toList [])with
    |none=>none
    |some l=>match draw with
     |false=>some (.region l)
     |  true=>match PW l.length 0 (BL (Ly 0 l) [])with
        |true=>some (.draw (BL (Ly 0 l) []))
        |false=>none
 |  .seq a b=>match vQ tt nt a,vQ tt nt b with
    |some a,some b=>some (.seq a b)
    |_,_=>none
 |  .cond c a b=>match uD c,vQ tt nt a,vQ tt nt b with
    |some c,some a,some b=>some (.cond c a b)
    |_,_,_=>none
 |  .block id a=>match vQ tt nt a with
    |some a=>some (.block id a)
    |none=>none
 |  .loop a=>match vQ tt nt a with
    |some a=>some (.loop a)
    |none=>none
 | .exit id=>some (.exit id)
 | .ret=>some .ret
 | .refuse _=>some (.region [{ dst:=none,k:= .bad,xs:=[],guard:=none,cls:= .bh,bZ:=0 }])
 |_=>none
def qG(tt:TT):List ResultVar->Option (List PT)
 |[]=>some []
 |  .tmp t::rs=>match qG tt rs with
    |some l=>some (.tmp (key t)::l)
    |none=>none
 |  .cell a t::rs=>match tt.get (key t),qG tt rs with
    |some ti,some l=>some (.cell (key a) (De ti)::l)
    |_,_=>none
def akI(tt:TT)(f:Func):Option dO:=match f.body with
 |  some c=>match vQ tt f.ntmps c,qG tt f.results.toList,Nat.ble (f.params.size+f.nfree) f.ntmps with
    |some a,some rs,true=>some { code:=a,nparams:=f.params.size+f.nfree,results:=rs }
    |_,_,_=>none
 |none=>none
structure Loc where
 aN:Nat
 base:Nat
 size:Nat
abbrev Cells:=Addr->Option Value
inductive aD(ρ:Pos->Loc)(n:Nat)(C:Cells):AV->Value->Prop where
 |bool (b:Bool):aD ρ n C (.bool b) (.bool b)
 |int (k:IntKind) (i:Int):aD ρ n C (.int k i) (.int k i)
 |str (s:List Nat) (bs:ByteArray) (h:bs.data.toList.map UInt8.toNat=s):aD ρ n C (.str s) (.string bs)
 |ju:aD ρ n C .ju (.pointer none)
 |ptr (b:Pos) (off:Nat) (h:b.toNat<n):aD ρ n C (.ptr b off) (.pointer (some ⟨(ρ b).aN,(ρ b).base+off,none⟩))
 |fp (xs:List (List AV)) (i j es:Nat) (aN base:Nat) (cell:Nat->Nat->Value)
  (hl:∀(i:Nat)(cs:List AV),xs[i]? =some cs->cs.length=es)
  (hc:∀(i j:Nat)(cs:List AV)(v:AV),xs[i]? =some cs->cs[j]? =some v->C ⟨aN,base+i*es+j,none⟩=some (cell i j))
  (hv:∀(i j:Nat)(cs:List AV)(v:AV),xs[i]? =some cs->cs[j]? =some v->aD ρ n C v (cell i j)):
  aD ρ n C (.fp xs i j) (.pointer (some ⟨aN,base+i*es+j,none⟩))
 |af:aD ρ n C .af (.slice none 0 0)
 |slice (b:Pos) (off len:Nat) (cap:Option Nat) (es bC:Nat) (a:Addr) (hl:len<=bC) (hc:∀c,cap=some c->c=bC)
  (ha:bC≠0->b.toNat<n/\a=⟨(ρ b).aN,(ρ b).base+off,none⟩/\(ρ b).base+off+bC*es<=(ρ b).size)
  (hk:cap=none->b.toNat<n):
  aD ρ n C (.slice b off len cap es) (.slice (some a) len bC)
 |fl (xs:List (List AV)) (es bC:Nat) (a:Addr) (cell:Nat->Nat->Value) (hl:xs.length<=bC)
  (hs:xs≠[]->a.spot=none)
  (dY:∀(i:Nat)(cs:List AV),xs[i]? =some cs->cs.length=es)
  (hc:∀(i j:Nat)(cs:List AV)(v:AV),xs[i]? =some cs->cs[j]? =some v->C ⟨a.block,a.off+i*es+j,none⟩=some (cell i j))
  (hv:∀(i j:Nat)(cs:List AV)(v:AV),xs[i]? =some cs->cs[j]? =some v->aD ρ n C v (cell i j)):
  aD ρ n C (.fl xs es) (.slice (some a) xs.length bC)
 |qE:aD ρ n C .qE (.map none)
 |map (b:Pos) (h:b.toNat<n):aD ρ n C (.map b) (.map (some (ρ b).aN))
 |func (f:FuncId) (x y:List AV) (x' y':Array Value) (hx:x.length=x'.size) (hy:y.length=y'.size)
  (rF:∀(i:Nat)(v:AV)(v':Value),x[i]? =some v->x'[i]? =some v'->aD ρ n C v v') (Ac:∀(i:Nat)(v:AV)(v':Value),y[i]? =some v->y'[i]? =some v'->aD ρ n C v v'):
  aD ρ n C (.func f x y) (.func (.func f) x' y')
 |iI:aD ρ n C .iI .nilFunc
 |BW:aD ρ n C .BW .nilIface
 |iface (t:TypeId) (v:AV) (x:Value) (h:aD ρ n C v x):aD ρ n C (.iface t v) (.iface t x)
 |agg (l:List AV) (cs:Array Value) (hl:l.length=cs.size) (h:∀(i:Nat)(v:AV)(v':Value),l[i]? =some v->cs[i]? =some v'->aD ρ n C v v'):
  aD ρ n C (.agg l) (.agg cs)
 |tuple (l:List AV) (cs:Array Value) (hl:l.length=cs.size) (h:∀(i:Nat)(v:AV)(v':Value),l[i]? =some v->cs[i]? =some v'->aD ρ n C v v'):
  aD ρ n C (.tuple l) (.tuple cs)
theorem aD.mono{ρ ρ':Pos->Loc}{n n':Nat}{C:Cells}{v:AV}{x:Value}(h:aD ρ n C v x)
  (bF:∀b:Pos,b.toNat<n->ρ' b=ρ b) (hn:n<=n'):aD ρ' n' C v x:=by
 induction h with
 |bool b=>exact .bool b
 |int k i=>exact .int k i
 |str s bs h=>exact .str s bs h
 |ju=>exact .ju
 |ptr b off h=>rw[<-bF b h];exact .ptr b off (by omega)
 |fp xs i j es aN base cell hl hc _ ih=>exact .fp xs i j es aN base cell hl hc ih
 |af=>exact .af
 |slice b off len cap es bC a hl hc ha hk=>
  refine .slice b off len cap es bC a hl hc (λh0=> ?_) (λh0=>by have:=hk h0;omega);obtain⟨h1,h2,h3⟩:=ha h0;rw[bF b h1];exact⟨by omega,h2,h3⟩
 |fl xs es bC a cell hl hs dY hc _ ih=>exact .fl xs es bC a cell hl hs dY hc ih
 |qE=>exact .qE
 |map b h=>rw[<-bF b h];exact .map b (by omega)
 |func f x y x' y' hx hy _ _ ih1 ZP=>exact .func f x y x' y' hx hy ih1 ZP
 |iI=>exact .iI
 |BW=>exact .BW
 |iface t v x _ ih=>exact .iface t v x ih
 |agg l cs hl _ ih=>exact .agg l cs hl ih
 |tuple l cs hl _ ih=>exact .tuple l cs hl ih
def aL(ρ:Pos->Loc)(n:Nat)(C:Cells)(l:List AV)(xs:List Value):Prop:=
 l.length=xs.length/\∀(i:Nat)(v:AV)(x:Value),l[i]? =some v->xs[i]? =some x->aD ρ n C v x
section
variable{ρ ρ' : Pos -> Loc}{n n' : Nat}{C : Cells}
theorem aL.mono{l:List AV}{xs:List Value}(h:aL ρ n C l xs)(bF:∀b:Pos,b.toNat<n->ρ' b=ρ b)(hn:n<=n'):
 aL ρ' n' C l xs:=⟨h.1,λi v x hv hx=>(h.2 i v x hv hx).mono bF hn⟩
theorem aL.nil:aL ρ n C [] []:=⟨rfl,λ_ _ _ h=>by simp at h⟩
theorem aL.cons{v:AV}{x:Value}{l:List AV}{xs:List Value}(h:aD ρ n C v x)(hs:aL ρ n C l xs):aL ρ n C (v::l) (x::xs):=
 ⟨by simp[hs.1],λi u y hu hy=>by
  cases i with
  |zero=>simp at hu hy;subst hu;subst hy;exact h
  |succ i=>simp at hu hy;exact hs.2 i u y hu hy⟩
theorem aL.cons_inv{v:AV}{l:List AV}{xs:List Value}(h:aL ρ n C (v::l) xs):∃x Ct,xs=x::Ct/\aD ρ n C v x/\aL ρ n C l Ct:=by
 cases xs with
 |nil=>have:=h.1;simp at this
 |cons x Ct=>
  exact⟨x,Ct,rfl,h.2 0 v x rfl rfl,by have:=h.1;simpa using this,λi u y hu hy=>h.2 (i+1) u y (by simpa using hu) (by simpa using hy)⟩
theorem aL.qx{xs:List Value}(h:aL ρ n C [] xs):xs=[]:=by
 have:=h.1;cases xs with
 |nil=>rfl
 |cons a b=>simp at this
theorem aL.append{l m:List AV}{xs ys:List Value}(h:aL ρ n C l xs)(k:aL ρ n C m ys):aL ρ n C (l++m) (xs++ys):=by
 refine⟨by simp[h.1,k.1],λi v x hv hx=> ?_⟩;rcases Zi4 i l.length with hi|hi
 . rw[Zc1 hi]at hv;rw[Zc1 (by rw[<-h.1];exact hi)]at hx;exact h.2 i v x hv hx
 . rw[Zb9 hi]at hv;rw[Zb9 (by rw[<-h.1];exact hi), <-h.1]at hx;exact k.2 _ v x hv hx
theorem aL.take{l:List AV}{xs:List Value}(h:aL ρ n C l xs)(m:Nat):aL ρ n C (l.take m) (xs.take m):=by
 refine⟨by simp[h.1],λi v x hv hx=> ?_⟩;rw[Zd5]at hv hx;split at hv
 . rename_i hi;rw[Zb3 hi]at hx;exact h.2 i v x hv hx
 . cases hv
theorem aL.drop{l:List AV}{xs:List Value}(h:aL ρ n C l xs)(m:Nat):aL ρ n C (l.drop m) (xs.drop m):=by refine⟨by simp[h.1],λi v x hv hx=> ?_⟩;rw[Ze5]at hv hx;exact h.2 _ v x hv hx
theorem aL.aU{l vs:List AV}{xs ys:List Value}(h:aL ρ n C l xs)(k:aL ρ n C vs ys)(i:Nat):
  aL ρ n C (Go.Ai.aU l i vs) (Go.Ai.aU xs i ys):=by
 unfold Go.Ai.aU;rw[k.1];exact(h.take i).append (k.append (h.drop _))
theorem aL.get{l:List AV}{xs:List Value}(h:aL ρ n C l xs){i:Nat}{v:AV}(hv:l[i]? =some v):∃x,xs[i]? =some x/\aD ρ n C v x:=by
 have hi:i<xs.length:=by rw[<-h.1];exact(Za1.1 hv).1
 exact⟨xs[i],H0 hi,h.2 i v _ hv (H0 hi)⟩
theorem aD.PY{l:List AV}{cs:Array Value}(h:aL ρ n C l cs.toList):aD ρ n C (.agg l) (.agg cs):=
 .agg l cs (by simpa using h.1) λi v x hv hx=>h.2 i v x hv (by simpa using hx)
theorem aD.yH{l:List AV}{cs:Array Value}(h:aL ρ n C l cs.toList):aD ρ n C (.tuple l) (.tuple cs):=
 .tuple l cs (by simpa using h.1) λi v x hv hx=>h.2 i v x hv (by simpa using hx)
theorem aD.FQ{l:List AV}{x:Value}(h:aD ρ n C (.agg l) x):∃cs,x= .agg cs/\aL ρ n C l cs.toList:=by
 cases h with|agg _ cs hl h=>exact⟨cs,rfl,by simpa using hl,λi v x hv hx=>h i v x hv (by simpa using hx)⟩
theorem aD.VV{l:List AV}{x:Value}(h:aD ρ n C (.tuple l) x):∃cs,x= .tuple cs/\aL ρ n C l cs.toList:=by
 cases h with|tuple _ cs hl h=>exact⟨cs,rfl,by simpa using hl,λi v x hv hx=>h i v x hv (by simpa using hx)⟩
theorem aD.RH{f:FuncId}{a b:List AV}{x:Value}(h:aD ρ n C (.func f a b) x):
  ∃a' b',x= .func (.func f) a' b'/\aL ρ n C a a'.toList/\aL ρ n C b b'.toList:=by
 cases h with
 |func _ _ _ a' b' hx hy h1 h2=>exact⟨a',b',rfl,⟨by simpa using hx,λi v x hv hx=>h1 i v x hv (by simpa using hx)⟩,⟨by simpa using hy,λi v x hv hx=>h2 i v x hv (by simpa using hx)⟩⟩
theorem aD.cells{v:AV}{x:Value}(h:aD ρ n C v x):aL ρ n C v.cells x.cells.toList:=by
 by_cases hv:∃l,v= .agg l
 . obtain⟨l,rfl⟩:=hv;obtain⟨cs,rfl,hs⟩:=h.FQ;exact hs
 . have h1:v.cells=[v]:=(by cases v<;>first|rfl|exact absurd ⟨_,rfl⟩ hv);have h2:x.cells= #[x]:=(by cases h<;>first|rfl|exact absurd ⟨_,rfl⟩ hv);rw[h1,h2];exact aL.cons h aL.nil
def tO(ρ:Pos->Loc)(n:Nat)(C:Cells)(L:Loc)(w:World):AB->Prop
 | .cells cs fz=>∃(c:Array Value) (e:TypeId) (fr:Nat×Nat),w.heap[L.aN]? =some (.cells c e fr)/\c.size=L.size/\L.base+cs.length<=c.size/\
  aL ρ n C cs ((c.toList.drop L.base).take cs.length)/\∀i,fz<=i->L.base+i<c.size->¬(fr.1<=L.base+i/\L.base+i<fr.2)
 | .map es clock=>∃(es':Array MapEntry),w.heap[L.aN]? =some (.map es' clock)/\es.length=es'.size/\
  ∀(i:Nat)(e:AV×AV×Nat)(e':MapEntry),es[i]? =some e->es'[i]? =some e'->aD ρ n C e.1 e'.key/\aD ρ n C e.2.1 e'.val/\e.2.2=e'.born
theorem tO.mono{L:Loc}{w:World}{x:AB}(h:tO ρ n C L w x)(bF:∀b:Pos,b.toNat<n->ρ' b=ρ b)(hn:n<=n'):tO ρ' n' C L w x:=by
 cases x with
 |cells cs fz=>obtain⟨c,e,fr,h1,h2,h3,h4,h5⟩:=h;exact⟨c,e,fr,h1,h2,h3,h4.mono bF hn,h5⟩
 |map es clock=>obtain⟨es',h1,h2,h3⟩:=h;exact⟨es',h1,h2,λi e e' he rH=>let⟨a,b,c⟩:=h3 i e e' he rH;⟨a.mono bF hn,b.mono bF hn,c⟩⟩
theorem tO.of_heap{L:Loc}{w w':World}{x:AB}(h:tO ρ n C L w x)(hw:w'.heap[L.aN]? =w.heap[L.aN]?):tO ρ n C L w' x:=by
 cases x with
 |cells cs fz=>obtain⟨c,e,fr,h1,h2⟩:=h;exact⟨c,e,fr,by rw[hw];exact h1,h2⟩
 |map es clock=>obtain⟨es',h1,h2⟩:=h;exact⟨es',by rw[hw];exact h1,h2⟩
end
structure cq(ρ:Pos->Loc)(C:Cells)(st:St)(w:World):Prop where
 live:∀b x,st.heap.get b=some x->b.toNat<st.next.toNat/\(ρ b).aN<w.heap.size/\tO ρ st.next.toNat C (ρ b) w x
 inj:∀b b' x x',st.heap.get b=some x->st.heap.get b'=some x'->(ρ b).aN=(ρ b').aN->b=b'
 eD:∀a v,C a=some v->w.cell? a=some v/\∀b x,st.heap.get b=some x->(ρ b).aN≠a.block
 whole:∀a v,C a=some v->∀o,C ⟨a.block,o,none⟩=none->w.cell? ⟨a.block,o,none⟩=none
structure qi(ρ:Pos->Loc)(st:St)(w:World)(ρ':Pos->Loc)(st':St)(w':World):Prop where
 os:w'.os=w.os
 tape:w'.tape=w.tape
 output:w'.output=w.output
 size:w.heap.size<=w'.heap.size
 block:∀k,k<w.heap.size->(∀b x,st.heap.get b=some x->(ρ b).aN≠k)->w'.heap[k]? =w.heap[k]?
 yI:∀b x,st'.heap.get b=some x->(∃b' x',st.heap.get b'=some x'/\(ρ b').aN=(ρ' b).aN)\/w.heap.size<=(ρ' b).aN
theorem qi.refl(ρ:Pos->Loc)(st:St)(w:World):qi ρ st w ρ st w:=⟨rfl,rfl,rfl,Za3 _,λ_ _ _=>rfl,λb x h=> .inl ⟨b,x,h,rfl⟩⟩
theorem qi.trans{ρ jY vq:Pos->Loc}{st bw w7:St}{w w1 w2:World}(h:qi ρ st w jY bw w1)(k:qi jY bw w1 vq w7 w2):qi ρ st w vq w7 w2 where
 os:=k.os.trans h.os
 tape:=k.tape.trans h.tape
 output:=k.output.trans h.output
 size:=Zb0 h.size k.size
 block q hq hn:=by
  rw[k.block q (Zd0 hq h.size) λb x hb e=> ?_,h.block q hq hn];rcases h.yI b x hb with⟨b',x',h1,h2⟩|h1
  . exact hn b' x' h1 (h2.trans e)
  . rw[e]at h1;omega
 yI b x hb:=by
  rcases k.yI b x hb with⟨b',x',h1,h2⟩|h1
  . rcases h.yI b' x' h1 with⟨b'',x'',h3,h4⟩|h3
    . exact .inl ⟨b'',x'',h3,h4.trans h2⟩
    . right;rw[<-h2];exact h3
  . exact .inr (Zb0 h.size h1)
def kY(ρ:Pos->Loc)(n:Nat)(C:Cells)(fr:Fr)(tmps:Array Value):Prop:=
 ∀p v,fr.get p=some v->∃x,tmps[p.toNat - 1]? =some x/\aD ρ n C v x
theorem Pos.toNat_pos(p:Pos):0<p.toNat:=by
 induction p with
 |h=>simp[Pos.toNat]
 |o p ih=>simp[Pos.toNat];exact ih
 |i p ih=>simp[Pos.toNat]
theorem Pos.toNat_inj:∀{p q:Pos},p.toNat=q.toNat->p=q
 | .h,.h,_=>rfl
 | .h,.o q,hq=>by have:=q.toNat_pos;simp[Pos.toNat]at hq;omega
 | .h,.i q,hq=>by have:=q.toNat_pos;simp[Pos.toNat]at hq;omega
 | .o p,.h,hq=>by have:=p.toNat_pos;simp[Pos.toNat]at hq;omega
 | .o p,.o q,hq=>by simp[Pos.toNat]at hq;rw[Pos.toNat_inj (p:=p) (q:=q) (by omega)]
 | .o p,.i q,hq=>by simp[Pos.toNat]at hq;omega
 | .i p,.h,hq=>by have:=p.toNat_pos;simp[Pos.toNat]at hq;omega
 | .i p,.o q,hq=>by simp[Pos.toNat]at hq;omega
 | .i p,.i q,hq=>by simp[Pos.toNat]at hq;rw[Pos.toNat_inj (p:=p) (q:=q) (by omega)]
theorem Pos.aC(p:Pos):p.succ.toNat=p.toNat+1:=by
 induction p with
 |h=>rfl
 |o p ih=>simp[Pos.succ,Pos.toNat]
 |i p ih=>simp[Pos.succ,Pos.toNat,ih];omega
theorem Pos.RI:∀(f m:Nat),0<m->m<2 ^ (f+1)->(Pos.ags f m).toNat=m
 |0,m,hp,hl=>by
  simp at hl;have:m=1:=by omega
  subst this;rfl
 |f +   1,m,hp,hl=>by
  unfold Pos.ags;split
  . (rename_i hb;have:=Zb2 hb;have:m=1:=by omega);subst this;rfl
  . rename_i hb;have h1:1<m:=by
        rcases Zi4 1 m with hh|hh
        . exact hh
        . rw[Nat.ble_eq_true_of_le hh]at hb;cases hb
    have h2:m / 2<2 ^ (f+1):=(by have:2 ^ (f+1+1)=2*2 ^ (f+1):=(by rw[Nat.pow_succ];omega);omega);split
    .   rename_i he;have:=Za6 he;simp only[Pos.toNat];rw[Pos.RI f _ (by omega) h2];omega
    .   rename_i he;have:=Ze8 he;simp only[Pos.toNat];rw[Pos.RI f _ (by omega) h2];omega
theorem iQ(n:Nat):(key n).toNat=n+1:=Pos.RI _ (n+1) (by omega) Nat.lt_log2_self
theorem T.dP{α:Type}(p:Pos):(T.e:T α).get p=none:=by cases p<;>rfl
theorem T.gH{α:Type}(x:Option α)(p:Pos)(t:T α):(T.put x p t).get p=x:=by
 induction p generalizing t with
 |h=>cases t<;>rfl
 |o p ih=>cases t<;>exact ih _
 |i p ih=>cases t<;>exact ih _
theorem T.bX{α:Type}(x:Option α){p q:Pos}(h:p≠q)(t:T α):(T.put x p t).get q=t.get q:=by
 induction p generalizing q t with
 |h=>cases q with
  |h=>exact absurd rfl h
  |o q=>cases t<;>simp[T.put,T.get,T.dP]
  |i q=>cases t<;>simp[T.put,T.get,T.dP]
 |o p ih=>cases q with
  |h=>cases t<;>simp[T.put,T.get]
  | o q=>cases t with
    |e=>simp only[T.put,T.get];rw[ih (λe=>h (by rw[e])),T.dP]
    |n l v r=>simp only[T.put,T.get];exact ih (λe=>h (by rw[e])) l
  |i q=>cases t<;>simp[T.put,T.get,T.dP]
 |i p ih=>cases q with
  |h=>cases t<;>simp[T.put,T.get]
  |o q=>cases t<;>simp[T.put,T.get,T.dP]
  | i q=>cases t with
    |e=>simp only[T.put,T.get];rw[ih (λe=>h (by rw[e])),T.dP]
    |n l v r=>simp only[T.put,T.get];exact ih (λe=>h (by rw[e])) r
theorem Pos.beq_eq:∀{p q:Pos},p.beq q=true↔p=q
 | .h,.h=>by simp[Pos.beq]
 | .h,.o q=>by simp[Pos.beq]
 | .h,.i q=>by simp[Pos.beq]
 | .o p,.h=>by simp[Pos.beq]
 | .o p,.o q=>by simp only[Pos.beq,Pos.o.injEq];exact Pos.beq_eq
 | .o p,.i q=>by simp[Pos.beq]
 | .i p,.h=>by simp[Pos.beq]
 | .i p,.o q=>by simp[Pos.beq]
 | .i p,.i q=>by simp only[Pos.beq,Pos.i.injEq];exact Pos.beq_eq
end
noncomputable section
section
variable{R : Type}
def BZ{α:Type}(p:Pos):T α->Option α:=
 Pos.rec (motive:=λ_=>T α->Option α)
    (λt=>T.rec (motive:=λ_=>Option α) none (λ_ v _ _ _=>v) t)
    (λ_ ih t=>T.rec (motive:=λ_=>Option α) none (λl _ _ _ _=>ih l) t)
    (λ_ ih t=>T.rec (motive:=λ_=>Option α) none (λ_ _ r _ _=>ih r) t) p
def xI{α:Type}(x:Option α)(p:Pos):T α->(T α->R)->R:=
 Pos.rec (motive:=λ_=>T α->(T α->R)->R)
    (λt k=>T.rec (motive:=λ_=>R) (k (.n .e x .e)) (λl _ r _ _=>k (.n l x r)) t)
    (λ_ ih t k=>T.rec (motive:=λ_=>R) (ih .e λl=>k (.n l none .e)) (λl v r _ _=>ih l λl=>k (.n l v r)) t)
    (λ_ ih t k=>T.rec (motive:=λ_=>R) (ih .e λr=>k (.n .e none r)) (λl v r _ _=>ih r λr=>k (.n l v r)) t) p
def vR(n:Nat)(k:Nat->R):R:=Nat.rec (motive:=λ_=>R) (k 0) (λm _=>k (Nat.succ m)) n
def aaM(n:Int)(k:Int->R):R:=match n with
 | .ofNat m=>vR m λm=>k (.ofNat m)
 | .negSucc m=>vR m λm=>k (.negSucc m)
def aes(b:Bool)(k:Bool->R):R:=match b with
 |true=>k true
 |false=>k false
def Hf{α:Type}(l:List α):(List α->R)->R:=
 List.rec (motive:=λ_=>(List α->R)->R) (λk=>k []) (λa _ ih k=>ih λt=>k (a::t)) l
def RJ(p:Pos):(Pos->R)->R:=
 Pos.rec (motive:=λ_=>(Pos->R)->R) (λk=>k .h) (λ_ ih k=>ih λp=>k (.o p)) (λ_ ih k=>ih λp=>k (.i p)) p
def agv(o:Option Nat)(k:Option Nat->R):R:=match o with
 |none=>k none
 |some n=>vR n λn=>k (some n)
def VW(v:AV)(k:AV->R):R:=match v with
 | .bool b=>aes b λb=>k (.bool b)
 | .int i n=>aaM n λn=>k (.int i n)
 | .str s=>Hf s λs=>k (.str s)
 | .ptr b o=>RJ b λb=>vR o λo=>k (.ptr b o)
 | .slice b o l c es=>RJ b λb=>vR o λo=>vR l λl=>agv c λc=>k (.slice b o l c es)
 | .map b=>RJ b λb=>k (.map b)
 | .func f x y=>Hf x λx=>Hf y λy=>k (.func f x y)
 | .agg l=>Hf l λl=>k (.agg l)
 |v=>k v
def YM(l:List AV):(List AV->R)->R:=
 List.rec (motive:=λ_=>(List AV->R)->R) (λk=>k []) (λa _ ih k=>VW a λa=>ih λt=>k (a::t)) l
def w9(v:AV)(k:AV->R):R:=match v with
 | .tuple l=>YM l λl=>k (.tuple l)
 |v=>VW v k
def Lc(x:AB)(k:AB->R):R:=match x with
 | .cells cs fz=>Hf cs λcs=>vR fz λfz=>k (.cells cs fz)
 | .map es c=>Hf es λes=>vR c λc=>k (.map es c)
def abL(p:Pos):(Pos->R)->R:=
 Pos.rec (motive:=λ_=>(Pos->R)->R) (λk=>k (.o .h)) (λq _ k=>k (.i q)) (λ_ ih k=>ih λp=>k (.o p)) p
variable(z : R)
def evK(fr:Fr)(x:ij)(k:AV->R):R:=match x with
 |  .t p=>match BZ p fr with
    |some v=>k v
    |none=>z
 | .c v=>k v
def adn(fr:Fr)(xs:List ij):(List AV->R)->R:=
 List.rec (motive:=λ_=>(List AV->R)->R) (λk=>k []) (λx _ ih k=>evK z fr x λv=>ih λvs=>k (v::vs)) xs
def Ld(fr:Fr)(g:Option (Pos×Bool))(yes no:R):R:=match g with
 |none=>yes
 |  some (p,want)=>match BZ p fr with
    |some (.bool b)=>match b==want with
     |true=>yes
     |false=>no
    |some (.tuple _)=>no
    |_=>z
def nR(fr:Fr)(d:Option Pos)(v:AV)(k:Fr->R):R:=match d with
 |some p=>xI (some v) p fr k
 |none=>k fr
def delK(o:Option Pos)(h:T AB)(k:T AB->R):R:=match o with
 |some b=>xI none b h k
 |none=>k h
def aoY(o:Option (Pos×AB))(h:T AB)(k:T AB->R):R:=match o with
 |some (b,x)=>Lc x λx=>xI (some x) b h k
 |none=>k h
abbrev sU(R:Type):=FuncId->List AV->St->(AV->St->R)->R
def aoZ(st:St)(del:Option Pos)(set:Option (Pos×AB))(new:Option AB)(k:St->R):R:=
 delK del st.heap λh=>aoY set h λh=>match new with
    |some x=>Lc x λx=>xI (some x) st.next h λh=>abL st.next λn=>k { heap:=h,next:=n }
    |none=>k { heap:=h,next:=st.next }
def YN(call:sU R)(op:aF)(xs:List AV)(st:St)(k:AV->St->R):R:=
 match op.run (λb=>BZ b st.heap) st.next xs with
 |some (.val v)=>w9 v λv=>k v st
 |some (.bh v del set new)=>w9 v λv=>aoZ st del set new λst=>k v st
 |some (.call f args)=>Hf args λargs=>call f args st k
 |none=>z
def ado(call:sU R)(ops:List bS):Fr->St->(Fr->St->R)->R:=
 List.rec (motive:=λ_=>Fr->St->(Fr->St->R)->R) (λfr st k=>k fr st)
    (λo _ ih fr st k=>Ld z fr o.guard
     (adn z fr o.xs λxs=>YN z call o.k xs st λv st=>nR fr o.dst v λfr=>ih fr st k)
     (nR fr o.dst .undef λfr=>ih fr st k)) ops
def RN (bZ:Nat)(h:T AB)(recs:List Rec):(T AB->R)->R:=
 List.rec (motive:=λ_=>(T AB->R)->R) (λk=>k h)
    (fun r _ ih k=>match r.c with
     |  .new id aN=>match bZ.testBit r.idx with
        |true=>ih λh'=>xI (some aN) id h' k
        |false=>ih k
     | .bh _ _=>k h
     | .pure=>ih k) recs
def agw(h:T AB)(l:List (Pos×AB)):(T AB->R)->R:=
 List.rec (motive:=λ_=>(T AB->R)->R) (λk=>k h) (λx _ ih k=>ih λh'=>xI (some x.2) x.1 h' k) l
def agx(op:aF)(xs:List AV)(v:AV)(h:T AB):Bool:=
 match op.run (λb=>BZ b h) .h xs with
 |some (.val u)=>eo u v
 |_=>false
def vr(bZ:Nat)(op:aF)(xs:List AV)(v:AV):List (Pos×AB)->List Rec->Bool
 |_,[]=>true
 |  up,r::rs=>match r.c with
    | .new id aN=>match bZ.testBit r.idx with
      |true=>vr bZ op xs v ((id,aN)::up) rs
      |false=>vr bZ op xs v up rs
    | .bh base _=>match bZ.testBit r.idx with
      |true=>true
      |false=>(RN bZ base rs λh=>agw h up λh=>agx op xs v h)&&vr bZ op xs v up rs
    | .pure=>vr bZ op xs v up rs
def RO (call:sU R)(ops:List (Nat×bS)):List Rec->T AB->Fr->St->(Fr->St->R)->R:=
 List.rec ( motive:=λ_=>List Rec->T AB->Fr->St->(Fr->St->R)->R)
    (λ_ _ fr st k=>k fr st)
    (fun jo _ ih recs base fr st k=>Ld z fr jo.2.guard
     (adn z fr jo.2.xs λxs=>match jo.2.cls with
        | .new=>match jo.2.k.run (λ_=>none) st.next xs with
          |some (.bh v none none (some aN))=>w9 v λv=>Lc aN λaN=>nR fr jo.2.dst v λfr=>abL st.next λn=>xI (some aN) st.next st.heap λh=>
              ih ({ idx:=jo.1,o:=jo.2,v:=v,c:= .new st.next aN,nx:=n }::recs) base fr { heap:=h,next:=n } k
          |_=>z
        | .bh=>YN z call jo.2.k xs st λv st'=>nR fr jo.2.dst v λfr=>ih ({ idx:=jo.1,o:=jo.2,v:=v,c:= .bh base st'.heap,nx:=st'.next }::recs) st'.heap fr st' k
        | _ =>match jo.2.k.run (λ_=>none) .h xs with
          |some (.val v)=>w9 v λv=>nR fr jo.2.dst v λfr=>ih ({ idx:=jo.1,o:=jo.2,v:=v,c:= .pure,nx:=st.next }::recs) base fr st k
          | _ =>RN jo.2.bZ base recs λh=>match jo.2.k.run (λb=>BZ b h) .h xs with
            | some (.val v)=>w9 v λv=>match vr jo.2.bZ jo.2.k xs v [] recs with
              |true=>nR fr jo.2.dst v λfr=>ih ({ idx:=jo.1,o:=jo.2,v:=v,c:= .pure,nx:=st.next }::recs) base fr st k
              |false=>z
            |_=>z)
     (nR fr jo.2.dst .undef λfr=>ih ({ idx:=jo.1,o:=jo.2,v:= .undef,c:= .pure,nx:=st.next }::recs) base fr st k)) ops
abbrev af6(R:Type):=AC->Fr->St->(Fr->St->R)->(Nat->Fr->St->R)->(Fr->St->R)->R
def vt(call:sU R)(ih:af6 R):af6 R
 | .skip,fr,st,kn,_,_=>kn fr st
 | .region ops,fr,st,kn,_,_=>ado z call ops fr st kn
 | .draw ops,fr,st,kn,_,_=>RO z call ops [] st.heap fr st kn
 | .seq a b,fr,st,kn,kx,kr=>ih a fr st (λfr st=>ih b fr st kn kx kr) kx kr
 |  .cond x a b,fr,st,kn,kx,kr=>evK z fr x λv=>match v with
    | .bool true=>ih a fr st kn kx kr
    | .bool false=>ih b fr st kn kx kr
    |_=>z
 | .block id a,fr,st,kn,kx,kr=>ih a fr st kn (λyd fr st=>match Nat.beq yd id with
     |true=>kn fr st
     |false=>kx yd fr st) kr
 | .loop a,fr,st,kn,kx,kr=>ih a fr st (λfr st=>ih (.loop a) fr st kn kx kr) kx kr
 | .exit id,fr,st,_,kx,_=>kx id fr st
 | .ret,fr,st,_,_,kr=>kr fr st
def abM(call:sU R)(n:Nat):af6 R:=
 Nat.rec (motive:=λ_=>af6 R) (λ_ _ _ _ _ _=>z) (λ_ ih=>vt z call ih) n
def PZ(vs:List AV):Nat->Fr->(Fr->R)->R:=
 List.rec (motive:=λ_=>Nat->Fr->(Fr->R)->R) (λ_ fr k=>k fr)
    (λv _ ih i fr k=>xI (some v) (key i) fr λfr=>ih (i+1) fr k) vs
def FR(st:St)(fr:Fr)(rs:List PT)(k:AV->R):R:=
 match gR (λb=>BZ b st.heap) fr rs with
 |  some vs=>YM vs λvs=>match vs with
    |[v]=>k v
    |vs=>k (.tuple vs)
 |none=>z
def NH (O:eV  )(G:T dO)(m:Nat)(d:Nat):sU R:=
 Nat.rec (motive:=λ_=>sU R) (λ_ _ _ _=>z)
    (fun _ ih f args st k=>match O f with
     |  some s=>match s args st with
        |some (v,st')=>w9 v λv=>k v st'
        |none=>z
     |  none=>match BZ (key f) G with
        |some F=>match Nat.beq args.length F.nparams with
         |true=>PZ args 0 .e λfr=>abM z ih m F.code fr st
              (λfr st=>FR z st fr F.results λv=>k v st)
              (λ_ _ _=>z)
              (λfr st=>FR z st fr F.results λv=>k v st)
         |false=>z
        |none=>z) d
end
end
end Go.Ai
