/-
  The abstract evaluator and its soundness, in one text. No conditions.
-/
import Derived.WalkKit
import Derived.WalkSpells
import Derived.Lib.SliceRun
namespace Go.AE
open Go
theorem Xaa:type_of% @List.getD_eq_getElem?_getD:=@List.getD_eq_getElem?_getD
theorem Xab:type_of% @Int.toNat_natCast:=@Int.toNat_natCast
theorem Xac:type_of% @List.getElem?_eq_getElem:=@List.getElem?_eq_getElem
theorem Xad:type_of% @decide_eq_true:=@decide_eq_true
theorem Xae:type_of% @Bool.and_eq_true:=@Bool.and_eq_true
theorem Xaf:type_of% @decide_eq_true_eq:=@decide_eq_true_eq
theorem Xag:type_of% @Nat.lt_or_ge:=@Nat.lt_or_ge
theorem Xah:type_of% @List.mem_singleton:=@List.mem_singleton
theorem Xai:type_of% @Bool.false_and:=@Bool.false_and
theorem Xaj:type_of% @Bool.true_and:=@Bool.true_and
theorem Xak:type_of% @List.length_map:=@List.length_map
theorem Xal:type_of% @List.length_append:=@List.length_append
theorem Xam:type_of% @List.length_set:=@List.length_set
theorem Xan:type_of% @List.mem_iff_getElem:=@List.mem_iff_getElem
theorem Xao:type_of% @List.mem_cons_of_mem:=@List.mem_cons_of_mem
theorem Xap:type_of% @List.length_nil:=@List.length_nil
theorem Xaq:type_of% @List.length_cons:=@List.length_cons
theorem Xar:type_of% @List.all_eq_true:=@List.all_eq_true
theorem Xas:type_of% @List.mem_cons_self:=@List.mem_cons_self
theorem Xat:type_of% @Int.le_refl:=@Int.le_refl
theorem Xau:type_of% @List.nil_append:=@List.nil_append
theorem Xav:type_of% @List.length_singleton:=@List.length_singleton
theorem Xaw:type_of% @List.getElem?_eq_none:=@List.getElem?_eq_none
theorem Xax:type_of% @List.mem_range:=@List.mem_range
theorem Xay:type_of% @List.not_mem_nil:=@List.not_mem_nil
theorem Xaz:type_of% @List.append_nil:=@List.append_nil
theorem XaA:type_of% @List.mem_cons:=@List.mem_cons
theorem XaB:type_of% @List.length_take:=@List.length_take
theorem XaC:type_of% @List.take_length:=@List.take_length
theorem XaD:type_of% @List.getElem?_take:=@List.getElem?_take
theorem XaE:type_of% @Nat.mul_le_mul_right:=@Nat.mul_le_mul_right
theorem XaF:type_of% @List.mem_map:=@List.mem_map
theorem XaG:type_of% @List.length_replicate:=@List.length_replicate
theorem XaH:type_of% @Nat.add_mul:=@Nat.add_mul
theorem XaI:type_of% @List.length_range:=@List.length_range
theorem XaJ:type_of% @List.eq_nil_of_length_eq_zero:=@List.eq_nil_of_length_eq_zero
theorem XaK:type_of% @List.append_assoc:=@List.append_assoc
theorem XaL:type_of% @List.mem_flatMap:=@List.mem_flatMap
theorem XaM:type_of% @List.mem_filter:=@List.mem_filter
theorem XaN:type_of% @List.any_eq_false:=@List.any_eq_false
theorem XaO:type_of% @List.getElem?_replicate_of_lt:=@List.getElem?_replicate_of_lt
theorem XaP:type_of% @Option.bind_some:=@Option.bind_some
theorem XaQ:type_of% @List.map_cons:=@List.map_cons
theorem XaR:type_of% @List.take_zero:=@List.take_zero
theorem XaS:type_of% @Nat.lt_of_lt_of_le:=@Nat.lt_of_lt_of_le
theorem XaT:type_of% @List.getElem?_append_right:=@List.getElem?_append_right
theorem XaU:type_of% @List.getElem?_append_left:=@List.getElem?_append_left
theorem XaV:type_of% @List.pairwise_iff_getElem:=@List.pairwise_iff_getElem
theorem XaW:type_of% @Bool.and_false:=@Bool.and_false
theorem XaX:type_of% @Bool.not_eq_true':=@Bool.not_eq_true'
theorem XaY:type_of% @List.drop_eq_nil_of_le:=@List.drop_eq_nil_of_le
theorem XaZ:type_of% @List.mem_of_getElem?:=@List.mem_of_getElem?
theorem Xa0:type_of% @List.getElem?_drop:=@List.getElem?_drop
theorem Xa1:type_of% @List.map_append:=@List.map_append
theorem Xa2:type_of% @List.mem_append_right:=@List.mem_append_right
theorem Xa3:type_of% @List.any_eq_not_all_not:=@List.any_eq_not_all_not
theorem Xa4:type_of% @List.mem_append_left:=@List.mem_append_left
theorem Xa5:type_of% @List.take_of_length_le:=@List.take_of_length_le
theorem Xa6:type_of% @List.foldl_append:=@List.foldl_append
theorem Xa7:type_of% @List.filter_cons_of_neg:=@List.filter_cons_of_neg
theorem Xa8:type_of% @List.filter_cons_of_pos:=@List.filter_cons_of_pos
theorem Xa9:type_of% @List.foldl_cons:=@List.foldl_cons
theorem Xba:type_of% @List.nodup_cons:=@List.nodup_cons
theorem Xbb:type_of% @List.ext_getElem?:=@List.ext_getElem?
theorem Xbc:type_of% @List.getElem_take:=@List.getElem_take
theorem Xbd:type_of% @Nat.le_of_ble_eq_true:=@Nat.le_of_ble_eq_true
theorem Xbe:type_of% @Bool.not_false:=@Bool.not_false
theorem Xbf:type_of% @Nat.eq_zero_or_pos:=@Nat.eq_zero_or_pos
theorem Xbg:type_of% @List.pairwise_singleton:=@List.pairwise_singleton
theorem Xbh:type_of% @Bool.or_eq_false_iff:=@Bool.or_eq_false_iff
theorem Xbi:type_of% @Bool.not_true:=@Bool.not_true
theorem Xbj:type_of% @List.size_toArray:=@List.size_toArray
theorem Xbk:type_of% @List.take_add_one:=@List.take_add_one
theorem Xbl:type_of% @List.getElem?_map:=@List.getElem?_map
theorem Xbm:type_of% @Int.toNat_of_nonneg:=@Int.toNat_of_nonneg
theorem Xbn:type_of% @List.getElem?_eq_some_iff:=@List.getElem?_eq_some_iff
theorem Xbo:type_of% @List.any_eq_true:=@List.any_eq_true
theorem Xbp:type_of% @Nat.add_assoc:=@Nat.add_assoc
theorem Xbq:type_of% @Bool.eq_iff_iff:=@Bool.eq_iff_iff
theorem Xbr:type_of% @Option.map_eq_some_iff:=@Option.map_eq_some_iff
theorem Xbs:type_of% @Array.getElem?_eq_some_iff:=@Array.getElem?_eq_some_iff
theorem Xbt:type_of% @List.length_drop:=@List.length_drop
theorem Xbu:type_of% @List.getElem_mem:=@List.getElem_mem
theorem Xbv:type_of% @Array.getElem?_toList:=@Array.getElem?_toList
theorem Xbw:type_of% @List.getElem_set_self:=@List.getElem_set_self
theorem Xbx:type_of% @Nat.div_lt_iff_lt_mul:=@Nat.div_lt_iff_lt_mul
theorem Xby:type_of% @List.drop_eq_getElem_cons:=@List.drop_eq_getElem_cons
theorem Xbz:type_of% @List.getElem_append_right:=@List.getElem_append_right
theorem XbA:type_of% @List.range_succ:=@List.range_succ
theorem XbB:type_of% @List.getElem_append_left:=@List.getElem_append_left
theorem XbC:type_of% @Bool.false_or:=@Bool.false_or
theorem XbD:type_of% @List.take_append_of_le_length:=@List.take_append_of_le_length
theorem XbE:type_of% @Array.length_toList:=@Array.length_toList
theorem XbF:type_of% @List.getElem_set_ne:=@List.getElem_set_ne
theorem XbG:type_of% @Int.emod_lt_of_pos:=@Int.emod_lt_of_pos
theorem XbH:type_of% @List.map_map:=@List.map_map
theorem XbI:type_of% @Bool.not_not:=@Bool.not_not
theorem XbJ:type_of% @List.mem_iff_getElem?:=@List.mem_iff_getElem?
theorem XbK:type_of% @List.length_filter_le:=@List.length_filter_le
theorem XbL:type_of% @Option.ne_none_iff_exists':=@Option.ne_none_iff_exists'
theorem XbM:type_of% @Array.getElem?_append_left:=@Array.getElem?_append_left
theorem XbN:type_of% @List.sum_cons:=@List.sum_cons
theorem XbO:type_of% @Nat.le_trans:=@Nat.le_trans
theorem XbP:type_of% @List.ext_getElem:=@List.ext_getElem
theorem XbQ:type_of% @Bool.true_or:=@Bool.true_or
theorem XbR:type_of% @List.flatMap_nil:=@List.flatMap_nil
theorem XbS:type_of% @Bool.and_true:=@Bool.and_true
theorem XbT:type_of% @Nat.div_add_mod:=@Nat.div_add_mod
theorem XbU:type_of% @Nat.add_sub_cancel:=@Nat.add_sub_cancel
theorem XbV:type_of% @Bool.or_eq_true:=@Bool.or_eq_true
theorem XbW:type_of% @Nat.mul_one:=@Nat.mul_one
theorem XbX:type_of% @Nat.add_zero:=@Nat.add_zero
theorem XbY:type_of% @Nat.mul_comm:=@Nat.mul_comm
theorem XbZ:type_of% @List.drop_append:=@List.drop_append
theorem Xb0:type_of% @List.getElem_map:=@List.getElem_map
inductive Ty where
  |int (k:IntKind)|bool|str|sl (t:Ty)|pair (a b:Ty)
  deriving DecidableEq
@[reducible] def Ty.den:Ty→Type
  | .int _=>Int
  | .bool=>Bool
  | .str=>List UInt8
  | .sl t=>List t.den
  | .pair a b=>a.den×b.den
def Ty.size:Ty→Nat
  | .pair a b=>a.size+b.size
  |_=>1
def Ty.dflt:(t:Ty)→t.den
  | .int _=>(0:Int)
  | .bool=>false
  | .str=>([]:List UInt8)
  | .sl _=>[]
  | .pair a b=>(a.dflt,b.dflt)
inductive CV where
  |int (k:IntKind) (n:Int)
  |bool (b:Bool)
  |kb (b:Bool)
  |str (s:List UInt8)
  |nil
  |imm (t:Ty) (l:List t.den)
  |own (x:Nat) (n:Bool)
  |iptr (t:Ty) (d:t.den) (c:Nat)
  |eptr (x:Nat) (i:Int) (c:Nat)
  |ptr (x:Nat) (c:Nat)
  |view (x:Nat) (i:Int)
  |fn (f:FuncId) (cap:List Nat)
  |skip
  |undef
inductive AV where
  |c (x:CV)
  |agg (l:List CV)
  |tup (l:List AV)
inductive ZFp where|no|at (i lo n base:Nat)
inductive ZuI where|deep (known:Bool) (h:ZFp)|shallow|frozen|mix (k:Int)
def Zq2:ZuI→Bool
  | .deep _ (.at _ _ _ _)=>true
  |_=>false
inductive Ob where
  |sl (e:TypeId) (t:Ty) (l:List t.den) (k:ZuI)
  |rc (cs:List CV)
  |dead
abbrev St:=List (Nat×Ob)
inductive Eff:Type 1 where
  |fail
  |ret (v:AV) (st:St)
  |req (p:Prop) (v:AV) (st:St)
  |br (b:Bool) (v1 v2:AV) (st:St)
  |nilt (p:Prop) (st:St)
  |niln (p:Prop) (st:St)
  |ite (b:Bool) (e1 e2:Eff)
  |any (α:Type) (f:α→Eff)
  |need (p:Prop) (e:Eff)
  |hyp (p:Prop) (v:AV) (st:St)
  |opt (α:Type) (o:Option α) (f:α→Eff)
def lk {α:Type _}:List (Nat×α)→Nat→Option α
  |[],_=>none
  |(a,b)::r,k=>match Nat.beq a k with|true=>some b|false=>lk r k
def Z0 {α:Type _}:List (Nat×α)→Nat→α→List (Nat×α)
  |[],_,_=>[]
  |(a,b)::r,k,v=>match Nat.beq a k with|true=>(a,v)::r|false=>(a,b)::Z0 r k v
def Zlr:(t:Ty)→t.den→List CV
  | .int k,n=>[.int k n]
  | .bool,b=>[.bool b]
  | .str,s=>[.str s]
  | .sl t,l=>[.imm t l]
  | .pair a b,d=>Zlr a d.1++Zlr b d.2
def ZfT (t t':Ty) (l:List t'.den):Option (List t.den):=
  match decEq t' t with
  |isTrue h=>some (h▸l)
  |isFalse _=>none
def same:IntKind→IntKind→Bool
  | .i64,.i64=>true
  | .u8,.u8=>true
  | .u64,.u64=>true
  |_,_=>false
def ofInt (k:IntKind):List CV→Option Int
  |[.int k' n]=>match same k k' with|true=>some n|false=>none
  |_=>none
def ZyM:List CV→Option Bool
  |[.bool b]=>some b
  |[.kb b]=>some b
  |_=>none
def ZBV:List CV→Option (List UInt8)
  |[.str s]=>some s
  |_=>none
def ZMo (st:St) (t:Ty):List CV→Option (List t.den)
  |[.nil]=>some []
  |[.imm t' l]=>ZfT t t' l
  |[.own x _]=>match lk st x with
    |some (.sl _ t' l kd)=>match Zq2 kd with
      |true=>none
      |false=>ZfT t t' l
    |_=>none
  |_=>none
def ZuS (st:St):(t:Ty)→List CV→Option t.den
  | .int k,cs=>ofInt k cs
  | .bool,cs=>ZyM cs
  | .str,cs=>ZBV cs
  | .sl t,cs=>ZMo st t cs
  | .pair a b,cs=>match ZuS st a (cs.take a.size)with
    |some x=>match ZuS st b (cs.drop a.size)with
      |some y=>some (x,y)
      |none=>none
    |none=>none
def ZeZ:List CV→List Nat
  |[]=>[]
  | .own x _::r=>x::ZeZ r
  |_::r=>ZeZ r
def Zf6 (st:St):List Nat→St
  |[]=>st
  |x::r=>match lk st x with
    |some (.sl e t l kd)=>match Zq2 kd with
      |true=>Zf6 st r
      |false=>Zf6 (Z0 st x (.sl e t l .frozen)) r
    |_=>Zf6 st r
def good:CV→Bool
  | .undef=>false
  | .skip=>false
  |_=>true
def ZFa (l:List CV):Option (List CV):=match l.all good with|true=>some l|false=>none
def cellsOf:AV→Option (List CV)
  | .c x=>ZFa [x]
  | .agg l=>ZFa l
  | .tup _=>none
abbrev Con:=List AV→St→Eff
structure Tys where
  eq:List TypeId:=[]
  ty:List (TypeId×Ty)
  ag:List (TypeId×Bool)
  el:List (TypeId×TypeId)
  fl:List (TypeId×List (Nat×TypeId))
  ar:List (TypeId×(Nat×TypeId)):=[]
  fnT:List TypeId:=[]
inductive Sched where
  |done
  |first (i:Nat) (r:Sched)
  |alt (i:Nat) (r m:Sched)
  |stop
structure Cfg where
  y:Tys
  n:Nat
  h:Nat
  tab:List (FuncId×Con)
  cut:List Nat:=[]
  hand:List (FuncId×List Nat):=[]
  good:List FuncId:=[]
  deep:List Nat:=[]
  sched:List (Nat×Sched):=[]
  frz:List Nat:=[]
  wrp:List Nat:=[]
  nils:List FuncId:=[]
abbrev Env:=Nat→AV
def upd (ρ:Env) (d:Nat) (v:AV):Env:=fun t=>match Nat.beq t d with|true=>v|false=>ρ t
def Zp7 (ρ:Env) (d:Option Nat) (v:AV):Env:=match d with|some d=>upd ρ d v|none=>ρ
def inR:IntKind→Int→Prop
  | .i64,n=>-9223372036854775808≤n∧n≤9223372036854775807
  | .u8,n=>0≤n∧n≤255
  | .u64,n=>0≤n∧n≤18446744073709551615
  |_,_=>False
def ZNB:IntKind→Int→Bool
  | .i64,.ofNat n=>Nat.blt n 9223372036854775808
  | .i64,.negSucc n=>Nat.blt n 9223372036854775808
  | .u8,.ofNat n=>Nat.blt n 256
  | .u64,.ofNat n=>Nat.blt n 18446744073709551616
  |_,_=>false
def ZCS:Value→CV
  | .int k n=>match ZNB k n with|true=>.int k n|false=>.undef
  | .bool b=>.kb b
  | .slice none 0 0=>.nil
  | .string s=>.str s.data.toList
  |_=>.undef
def ev1 (ρ:Env):Operand→AV
  | .tmp t=>ρ t
  | .const v=>.c (ZCS v)
  | .func f=>.c (.fn f [])
  | .global _=>.c .undef
def Zoh:AV→Option Bool
  | .c (.bool b)=>some b
  | .c (.kb b)=>some b
  |_=>none
def ZmP:Ty→Bool
  | .sl _=>false
  | .pair a b=>match ZmP a with|true=>ZmP b|false=>false
  |_=>true
def ZF:Ty→Nat→List Nat
  | .sl _,c=>[c]
  | .pair a b,c=>ZF a c++ZF b (c+a.size)
  |_,_=>[]
def ZdQ (lo n base q:Nat):Option Nat:=match Nat.ble lo q with
  |true=>match Nat.blt q (lo+n)with|true=>some (base+q)|false=>none
  |false=>none
def ZhW (lo n base:Nat):List Nat→List Nat
  |[]=>[]
  |q::r=>match ZdQ lo n base q with|some y=>y::ZhW lo n base r|none=>ZhW lo n base r
def ZeP (st:St) (hs:Nat→Option Nat):(t:Ty)→Nat→t.den→Option t.den
  | .sl t,c,l=>match hs c with
    |some y=>match lk st y with
      |some (.sl _ t' l' (.deep _ .no))=>ZfT t t' l'
      |_=>none
    |none=>some l
  | .pair a b,c,d=>match ZeP st hs a c d.1 with
    |some x=>match ZeP st hs b (c+a.size) d.2 with
      |some y=>some (x,y)
      |none=>none
    |none=>none
  | .int _,_,d=>some d
  | .bool,_,d=>some d
  | .str,_,d=>some d
def ZeR (st:St):List Nat→St
  |[]=>st
  |y::r=>ZeR (Z0 st y .dead) r
def Zpx:List Nat→Bool
  |[]=>true
  |x::r=>match r.any (Nat.beq x)with|true=>false|false=>Zpx r
def ZsS (st:St) (x:Nat):Option St:=
  match lk st x with
  |some (.sl e t l (.deep kn (.at i lo n base)))=>match Zpx (x::ZhW lo n base (ZF t 0))with
    |true=>match ZeP st (ZdQ lo n base) t 0 (l.getD i t.dflt)with
      |some d=>some (Z0 (ZeR st (ZhW lo n base (ZF t 0))) x (.sl e t (l.set i d) (.deep kn .no)))
      |none=>none
    |false=>none
  |_=>some st
def Ztr (st:St):List Nat→Option St
  |[]=>some st
  |x::r=>match ZsS st x with|some st'=>Ztr st' r|none=>none
def ZfZ (hs:Nat→Option Nat):(t:Ty)→Nat→t.den→St
  | .sl t,q,l=>match hs q with
    |some y=>[(y,.sl 0 t l (.deep false .no))]
    |none=>[]
  | .pair a b,q,d=>ZfZ hs a q d.1++ZfZ hs b (q+a.size) d.2
  |_,_,_=>[]
def Zrb (hs:Nat→Option Nat):(t:Ty)→Nat→t.den→List CV
  | .sl _,q,_=>match hs q with|some y=>[.own y false]|none=>[.undef]
  | .pair a b,q,d=>Zrb hs a q d.1++Zrb hs b (q+a.size) d.2
  | .int k,_,n=>[.int k n]
  | .bool,_,b=>[.bool b]
  | .str,_,s=>[.str s]
def Zx3 (st:St):St→Bool
  |[]=>true
  |(y,_)::r=>match lk st y with|some _=>false|none=>Zx3 st r
def ZBQ (st:St) (t:Ty):List CV→Option (List t.den×List Nat)
  |[.nil]=>some ([],[])
  |[.own x _]=>match lk st x with
    |some (.sl _ t' l (.deep _ .no))=>match ZfT t t' l with|some l=>some (l,[x])|none=>none
    |some (.sl _ t' l .shallow)=>match ZmP t' with
      |true=>match ZfT t t' l with|some l=>some (l,[x])|none=>none
      |false=>none
    |_=>none
  |_=>none
def ZbX (st:St):(t:Ty)→List CV→Option (t.den×List Nat)
  | .sl t,cs=>ZBQ st t cs
  | .pair a b,cs=>match ZbX st a (cs.take a.size)with
    |some (x,ns)=>match ZbX st b (cs.drop a.size)with
      |some (y,ms)=>some ((x,y),ns++ms)
      |none=>none
    |none=>none
  | .int k,cs=>match ofInt k cs with|some n=>some (n,[])|none=>none
  | .bool,cs=>match ZyM cs with|some n=>some (n,[])|none=>none
  | .str,cs=>match ZBV cs with|some n=>some (n,[])|none=>none
def ZeH (st:St):(t:Ty)→t.den→Nat→List CV→Option (t.den×List Nat)
  | .pair a b,d,c,cs=>match Nat.beq c 0&&Nat.beq cs.length (a.size+b.size)with
    |true=>ZbX st (.pair a b) cs
    |false=>match Nat.ble (c+cs.length) a.size with
      |true=>match ZeH st a d.1 c cs with|some (x,ns)=>some ((x,d.2),ns)|none=>none
      |false=>match Nat.ble a.size c with
        |true=>match ZeH st b d.2 (c - a.size) cs with|some (y,ns)=>some ((d.1,y),ns)|none=>none
        |false=>none
  | .sl t,_,c,cs=>match Nat.beq c 0&&Nat.beq cs.length 1 with|true=>ZbX st (.sl t) cs|false=>none
  | .int k,_,c,cs=>match Nat.beq c 0&&Nat.beq cs.length 1 with|true=>ZbX st (.int k) cs|false=>none
  | .bool,_,c,cs=>match Nat.beq c 0&&Nat.beq cs.length 1 with|true=>ZbX st .bool cs|false=>none
  | .str,_,c,cs=>match Nat.beq c 0&&Nat.beq cs.length 1 with|true=>ZbX st .str cs|false=>none
def ZC9 (c n:Nat):List Nat→Bool
  |[]=>true
  |q::r=>match Nat.ble c q with
    |true=>match Nat.blt q (c+n)with|true=>false|false=>ZC9 c n r
    |false=>ZC9 c n r
def w64 (n:Int):Int:=IntKind.i64.wrap n
def ZFR (op:BinOp) (x y:AV) (st:St):Eff:=
  match x,y with
  | .c (.int .i64 a),.c (.int .i64 b)=>
    match op with
    | .add=>.ret (.c (.int .i64 (w64 (a+b)))) st
    | .sub=>.ret (.c (.int .i64 (w64 (a - b)))) st
    | .mul=>.ret (.c (.int .i64 (w64 (a*b)))) st
    |_=>.fail
  |_,_=>.fail
def ZOd (C:Cfg) (d:Option Nat):Bool:=match d with|some d=>C.wrp.any (Nat.beq d)|none=>false
def ZE9 (op:BinOp) (x y:AV) (st:St):Eff:=
  match x,y with
  | .c (.int k a),.c (.int k' b)=>
    match same k k' with
    |true=>
      match op with
      | .add=>.req (inR k (a+b)) (.c (.int k (a+b))) st
      | .sub=>.req (inR k (a - b)) (.c (.int k (a - b))) st
      | .mul=>.req (inR k (a*b)) (.c (.int k (a*b))) st
      | .lss=>.ret (.c (.bool (decide (a<b)))) st
      | .leq=>.ret (.c (.bool (decide (a≤b)))) st
      | .gtr=>.ret (.c (.bool (decide (b<a)))) st
      | .geq=>.ret (.c (.bool (decide (b≤a)))) st
      | .eql=>.ret (.c (.bool (a==b))) st
      | .neq=>.ret (.c (.bool (a != b))) st
      | .quo=>.req (1≤b∧0≤a) (.c (.int k (a / b))) st
      | .rem=>.req (1≤b∧0≤a) (.c (.int k (a % b))) st
      | .xor=>match k with
        | .i64=>.req (0≤a∧0≤b) (.c (.int .i64 ((a.toNat ^^^ b.toNat:Nat):Int))) st
        |_=>.fail
      | .and=>match k with
        | .i64=>.req (0≤a∧0≤b) (.c (.int .i64 ((a.toNat &&& b.toNat:Nat):Int))) st
        |_=>.fail
      | .shl=>match k with
        | .i64=>.req ((0≤b∧b≤62)∧inR .i64 (a*2^b.toNat)) (.c (.int .i64 (a*2^b.toNat))) st
        |_=>.fail
      | .shr=>match k with
        | .i64=>.req ((0≤b∧b≤62)∧0≤a) (.c (.int .i64 (a / 2^b.toNat))) st
        |_=>.fail
      |_=>.fail
    |false=>.fail
  |x,y=>
    match Zoh x,Zoh y with
    |some a,some b=>
      match op with
      | .eql=>.ret (.c (.bool (a==b))) st
      | .neq=>.ret (.c (.bool (a != b))) st
      |_=>.fail
    |_,_=>.fail
def ZJv (C:Cfg) (st:St) (tys:List TypeId) (x:AV):Eff:=
  match tys with
  |[s]=>match lk C.y.el s with
    |some _=>match x with
      | .c .nil=>.ret (.c (.int .i64 0)) st
      | .c (.imm _ l)=>.ret (.c (.int .i64 l.length)) st
      | .c (.own x _)=>match lk st x with
        |some (.sl _ _ l .shallow)=>.ret (.c (.int .i64 l.length)) st
        |some (.sl _ _ l .frozen)=>.ret (.c (.int .i64 l.length)) st
        |some (.sl _ _ l (.deep _ _))=>.ret (.c (.int .i64 l.length)) st
        |_=>.fail
      | .c (.view x i)=>match lk st x with
        |some (.sl _ _ l .shallow)=>.ret (.c (.int .i64 ((l.length:Int) - i))) st
        |_=>.fail
      |_=>.fail
    |none=>.fail
  |_=>.fail
def Zz4 (C:Cfg) (st:St) (s:TypeId) (x i:AV):Eff:=
  match lk C.y.el s with
  |some e=>match lk C.y.ty e with
    |some te=>match x,i with
      | .c (.imm t l),.c (.int .i64 i)=>match Nat.beq te.size t.size with
        |true=>.req (0≤i∧i<l.length) (.c (.iptr t (l.getD i.toNat t.dflt) 0)) st
        |false=>.fail
      | .c (.own x _),.c (.int .i64 i)=>match lk st x with
        |some (.sl _ t l .shallow)=>match Nat.beq te.size t.size with
          |true=>.req (0≤i∧i<l.length) (.c (.eptr x i 0)) st
          |false=>.fail
        |some (.sl _ t l .frozen)=>match Nat.beq te.size t.size with
          |true=>.req (0≤i∧i<l.length) (.c (.iptr t (l.getD i.toNat t.dflt) 0)) st
          |false=>.fail
        |some (.sl _ t l (.deep _ _))=>match Nat.beq te.size t.size with
          |true=>.req (0≤i∧i<l.length) (.c (.eptr x i 0)) st
          |false=>.fail
        |some (.sl _ t l (.mix _))=>match Nat.beq te.size t.size with
          |true=>.req (0≤i∧i<l.length) (.c (.eptr x i 0)) st
          |false=>.fail
        |_=>.fail
      | .c (.view x v),.c (.int .i64 i)=>match lk st x with
        |some (.sl _ t l .shallow)=>match Nat.beq te.size t.size with
          |true=>.req (0≤i∧v+i<l.length) (.c (.eptr x (v+i) 0)) st
          |false=>.fail
        |_=>.fail
      |_,_=>.fail
    |none=>.fail
  |none=>match lk C.y.ar s,x,i with
    |some (m,e),.c (.eptr x j c),.c (.int .i64 i)=>match lk C.y.ty e,lk st x,Nat.beq c 0 with
      |some te,some (.sl _ t l .shallow),true=>match Nat.beq te.size t.size with
        |true=>.req (j=0∧(0≤i∧i<m)∧m≤l.length) (.c (.eptr x i 0)) st
        |false=>.fail
      |_,_,_=>.fail
    |_,_,_=>.fail
def cut (n c:Nat) (l:List CV):List CV:=(l.drop c).take n
def ZpG (n:Nat) (ag:Bool) (l:List CV):Option AV:=
  match Nat.beq l.length n with
  |true=>match ag with
    |true=>some (.agg l)
    |false=>match l with|[x]=>some (.c x)|_=>none
  |false=>none
def ld (v:AV) (st:St):Eff:=
  match v with
  | .c (.int .u8 n)=>.hyp (inR .u8 n) (.c (.int .u8 n)) st
  |v=>.ret v st
def Zk3 (n:Nat) (l:List Int):List CV:=(List.range n).map fun j=>.int .i64 (l.getD j 0)
def ZDW (n:Nat) (ag:Bool) (t:Ty) (l:List t.den) (i:Int) (c:Nat) (st:St):Eff:=
  match ZfT (.int .i64) t l,ag with
  |some l',true=>.req (i=0∧c=0∧n≤l.length) (.agg (Zk3 n l')) st
  |_,_=>.fail
def ZBt (C:Cfg) (st:St) (d:Option Nat) (ty:TypeId) (x:AV):Eff:=
  match lk C.y.ty ty,lk C.y.ag ty with
  |some t,some ag=>
    match x with
    | .c (.iptr t' d c)=>match ZpG t.size ag (cut t.size c (Zlr t' d))with
      |some v=>ld v st
      |none=>.fail
    | .c (.ptr x c)=>match lk st x with
      |some (.rc cs)=>match ZpG t.size ag (cut t.size c cs)with
        |some v=>ld v st
        |none=>.fail
      |_=>.fail
    | .c (.eptr x i c)=>match lk st x with
      |some (.sl _ t' l .shallow)=>match ZpG t.size ag (cut t.size c (Zlr t' (l.getD i.toNat t'.dflt)))with
        |some v=>ld v st
        |none=>ZDW t.size ag t' l i c st
      |some (.sl _ t' l (.deep _ _))=>match ZC9 c t.size (ZF t' 0)with
        |true=>match ZpG t.size ag (cut t.size c (Zrb (fun _=>none) t' 0 (l.getD i.toNat t'.dflt)))with
          |some v=>ld v st
          |none=>.fail
        |false=>match ZsS st x,d with
          |some st1,some d=>match lk st1 x with
            |some (.sl e' t' l (.deep kn .no))=>match Zx3 st1 (ZfZ (ZdQ c t.size ((d+1)*1000)) t' 0 (l.getD i.toNat t'.dflt))with
              |true=>match ZpG t.size ag (cut t.size c (Zrb (ZdQ c t.size ((d+1)*1000)) t' 0 (l.getD i.toNat t'.dflt)))with
                |some v=>.ret v (ZfZ (ZdQ c t.size ((d+1)*1000)) t' 0 (l.getD i.toNat t'.dflt)++Z0 st1 x (.sl e' t' l (.deep kn (.at i.toNat c t.size ((d+1)*1000)))))
                |none=>.fail
              |false=>.fail
            |_=>.fail
          |_,_=>.fail
      |some (.sl _ t' l (.mix kk))=>match ZpG t.size ag (cut t.size c (Zlr t' (l.getD i.toNat t'.dflt)))with
        |some v=>.need (kk≤i) (ld v st)
        |none=>.fail
      |_=>.fail
    |_=>.fail
  |_,_=>.fail
def Zvw (st:St):(t:Ty)→t.den→Nat→List CV→Option t.den
  | .pair a b,d,c,v=>
    match Nat.blt c a.size with
    |true=>match Zvw st a d.1 c v with|some x=>some (x,d.2)|none=>none
    |false=>match Zvw st b d.2 (c - a.size) v with|some y=>some (d.1,y)|none=>none
  |t,_,0,v=>ZuS st t v
  |_,_,_,_=>none
def ZKx (st:St) (x:Nat):Bool:=match lk st x with|some (.sl _ _ _ (.deep _ _))=>true|_=>false
def ZFQ (st:St) (x:Nat) (i:Int) (c:Nat) (cs:List CV):Eff:=
  match lk st x with
  |some (.sl e t l (.deep kn hh))=>match ZC9 c cs.length (ZF t 0)with
    |true=>match ZeH st t (l.getD i.toNat t.dflt) c cs with
      |some (d,[])=>.ret (.c .undef) (Z0 st x (.sl e t (l.set i.toNat d) (.deep kn hh)))
      |_=>.fail
    |false=>match ZsS st x with
      |some st1=>match lk st1 x with
        |some (.sl e t l (.deep kn .no))=>match ZeH st1 t (l.getD i.toNat t.dflt) c cs with
          |some (d,ns)=>match Zpx (x::ns)with
            |true=>.ret (.c .undef) (Z0 (ZeR st1 ns) x (.sl e t (l.set i.toNat d) (.deep kn .no)))
            |false=>.fail
          |none=>.fail
        |_=>.fail
      |none=>match hh with
        | .at i0 lo n _=>match Nat.beq lo c&&Nat.beq n cs.length with
          |true=>match ZeH st t (l.getD i.toNat t.dflt) c cs with
            |some (d,ns)=>match Zpx (x::ns)with
              |true=>.need (i0=i.toNat) (.ret (.c .undef) (Z0 (ZeR st ns) x (.sl e t (l.set i.toNat d) (.deep kn .no))))
              |false=>.fail
            |none=>.fail
          |false=>.fail
        | .no=>.fail
  |_=>.fail
def ZDX (st:St) (p v:AV):Eff:=
  match cellsOf v,p with
  |some cs,.c (.ptr x c)=>match Nat.beq cs.length 1,lk st x with
    |true,some (.rc old)=>match Nat.ble (c+cs.length) old.length with
      |true=>.ret (.c .undef) (Z0 st x (.rc (old.take c++cs++old.drop (c+cs.length))))
      |false=>.fail
    |_,_=>.fail
  |_,_=>.fail
def Zwe (st:St) (x:AV):Eff:=
  match x with
  | .c (.ptr x c)=>match lk st x with
    |some (.rc cs)=>match cs[c]? with
      |some (.fn f cap)=>.ret (.c (.fn f cap)) st
      |_=>.fail
    |_=>.fail
  |_=>.fail
def ZId (C:Cfg) (st:St) (ty:TypeId) (p v:AV):Eff:=
  match lk C.y.ty ty,cellsOf v with
  |some t,some cs=>
    match Nat.beq cs.length t.size with
    |true=>
      match p with
      | .c (.ptr x c)=>match lk st x with
        |some (.rc old)=>match Nat.ble (c+cs.length) old.length with
          |true=>.ret (.c .undef) (Z0 st x (.rc (old.take c++cs++old.drop (c+cs.length))))
          |false=>.fail
        |_=>.fail
      | .c (.eptr x i c)=>match ZKx st x with
        |true=>ZFQ st x i c cs
        |false=>match lk (Zf6 st (ZeZ cs)) x with
          |some (.sl e t' l .shallow)=>
            match Nat.beq cs.length 1 with
            |true=>match Zvw st t' (l.getD i.toNat t'.dflt) c cs with
              |some d=>.ret (.c .undef) (Z0 (Zf6 st (ZeZ cs)) x (.sl e t' (l.set i.toNat d) .shallow))
              |none=>.fail
            |false=>match Nat.beq c 0&&Nat.beq cs.length t'.size with
              |true=>match ZuS st t' cs with
                |some d=>.ret (.c .undef) (Z0 (Zf6 st (ZeZ cs)) x (.sl e t' (l.set i.toNat d) .shallow))
                |none=>.fail
              |false=>.fail
          |_=>match lk st x with
            |some (.sl e t' l (.mix kk))=>match Nat.beq c 0&&Nat.beq cs.length t'.size with
              |true=>match ZbX st t' cs with
                |some (d,ns)=>match Zpx (x::ns)with
                  |true=>.need (i=kk) (.ret (.c .undef) (Z0 (ZeR st ns) x (.sl e t' (l.set i.toNat d) (.mix (kk+1)))))
                  |false=>.fail
                |none=>.fail
              |false=>.fail
            |_=>.fail
      |_=>.fail
    |false=>.fail
  |_,_=>.fail
def Zzl:Ty→List CV
  | .int k=>[.int k 0]
  | .bool=>[.kb false]
  | .str=>[.str []]
  | .sl _=>[.nil]
  | .pair a b=>Zzl a++Zzl b
def Zig (st:St) (d:Option Nat) (o:Ob) (v:Nat→AV):Eff:=
  match d with
  |some d=>match lk st d with
    |none=>.ret (v d) ((d,o)::st)
    |some _=>.fail
  |none=>.fail
def ZrS (st:St) (ρ:Env) (t:Ty):Nat→List (Nat×Operand)→Option (List t.den×List Nat)
  |_,[]=>some ([],[])
  |j,(i,x)::r=>
    match Nat.beq i j with
    |true=>match cellsOf (ev1 ρ x)with
      |some cs=>match ZuS st t cs,ZrS st ρ t (j+1) r with
        |some d,some (l,ns)=>some (d::l,ZeZ cs++ns)
        |_,_=>none
      |none=>none
    |false=>none
def Zja (st:St) (ρ:Env) (t:Ty):Nat→List (Nat×Operand)→Option (List t.den×List Nat)
  |_,[]=>some ([],[])
  |j,(i,x)::r=>
    match Nat.beq i j with
    |true=>match cellsOf (ev1 ρ x)with
      |some cs=>match ZbX st t cs,Zja st ρ t (j+1) r with
        |some (d,ms),some (l,ns)=>some (d::l,ms++ns)
        |_,_=>none
      |none=>none
    |false=>none
def Zl:Nat:=4294967296
def ZGj (st:St) (t:Ty):AV→Option (List t.den)
  | .c .nil=>some []
  | .c (.imm t' l)=>ZfT t t' l
  | .c (.own x _)=>match lk st x with
    |some (.sl _ t' l .shallow)=>ZfT t t' l
    |some (.sl _ t' l .frozen)=>ZfT t t' l
    |some (.sl _ t' l (.deep _ .no))=>match ZmP t' with|true=>ZfT t t' l|false=>none
    |_=>none
  | .c (.view x i)=>match lk st x with
    |some (.sl _ t' l .shallow)=>ZfT t t' (l.drop i.toNat)
    |_=>none
  |_=>none
def ZBq (st:St) (t:Ty):AV→Option (Nat×List t.den)
  | .c (.own y _)=>match lk st y with
    |some (.sl _ t' l (.deep _ .no))=>match ZfT t t' l with|some l=>some (y,l)|none=>none
    |_=>none
  |_=>none
def ZM2 (st:St):AV→Bool
  | .c (.own y _)=>ZKx st y
  |_=>false
def ZNj (st:St) (t:Ty) (y:AV):Bool:=match ZmP t with|true=>false|false=>ZM2 st y
def Zya (st:St) (d:Option Nat) (e:TypeId) (t:Ty) (x y:AV):Eff:=
  match x with
  | .c .nil=>match ZBq st t y with
    |some (y0,l')=>match Zig (ZeR st [y0]) d (.sl e t l' (.deep true .no)) (fun d=>.c (.own d false))with
      | .ret v st'=>.req (l'.length≤Zl) v st'
      |_=>.fail
    |none=>.fail
  | .c (.own x _)=>match ZsS st x with
    |some st1=>match lk st1 x,ZBq st1 t y with
      |some (.sl e' t' l (.deep true .no)),some (y0,l')=>match Nat.beq e e' with
        |true=>match Nat.beq x y0 with
          |true=>.fail
          |false=>match ZfT t t' l with
            |some l=>match Zig (ZeR st1 [x,y0]) d (.sl e t (l++l') (.deep true .no)) (fun d=>.c (.own d false))with
              | .ret v st'=>.req (l.length+l'.length≤Zl) v st'
              |_=>.fail
            |none=>.fail
        |false=>.fail
      |_,_=>.fail
    |none=>.fail
  |_=>.fail
def Zyc (C:Cfg) (st:St) (d:Option Nat) (s s':TypeId) (x y:AV):Eff:=
  match lk C.y.el s,lk C.y.ty s' with
  |some e,some (.int .i64)=>match lk C.y.ty e with
    |some t=>match x,y with
      | .c .nil,.c (.int .i64 n)=>match Zig st d (.sl e t (List.replicate n.toNat t.dflt) .shallow) (fun d=>.c (.own d false))with
        | .ret v st'=>.req (1≤n∧n≤Zl) v st'
        |_=>.fail
      |_,_=>.fail
    |none=>.fail
  |_,_=>.fail
def Zwd (C:Cfg) (st:St) (d:Option Nat) (tys:List TypeId) (x y:AV):Eff:=
  match tys with
  |[s,s']=>
    match Nat.beq s s' with
    |true=>match lk C.y.el s with
      |some e=>match lk C.y.ty e with
        |some t=>match ZNj st t y with
         |true=>Zya st d e t x y
         |false=>match ZGj st t y with
          |some l'=>
            match x with
            | .c .nil=>match Zig st d (.sl e t l' .shallow) (fun d=>.c (.own d false))with
              | .ret v st'=>.req (l'.length≤Zl) v st'
              |_=>.fail
            | .c (.own x _)=>match lk st x with
              |some (.sl e' t' l .shallow)=>
                match Nat.beq e e' with
                |true=>match ZfT t t' l with
                  |some l=>match Zig (Z0 st x .dead) d (.sl e t (l++l') .shallow) (fun d=>.c (.own d false))with
                    | .ret v st'=>.req (l.length+l'.length≤Zl) v st'
                    |_=>.fail
                  |none=>.fail
                |false=>.fail
              |some (.sl _ t' l (.deep _ .no))=>
                match ZmP t with
                |true=>match ZfT t t' l with
                  |some l=>match Zig (ZeR st [x]) d (.sl 0 t (l++l') (.deep false .no)) (fun d=>.c (.own d false))with
                    | .ret v st'=>.req (l.length+l'.length≤Zl) v st'
                    |_=>.fail
                  |none=>.fail
                |false=>.fail
              |_=>.fail
            |_=>.fail
          |none=>.fail
        |none=>.fail
      |none=>.fail
    |false=>Zyc C st d s s' x y
  |_=>.fail
def ZtJ (y:Tys) (fl:List (Nat×TypeId)) (ρ:Env):List CV→List (Nat×Operand)→Option (List CV)
  |cs,[]=>some cs
  |cs,(i,x)::r=>
    match fl[i]?,cellsOf (ev1 ρ x)with
    |some (off,ty),some v=>match lk y.ty ty with
      |some t=>match Nat.beq v.length t.size with
        |true=>match Nat.ble (off+v.length) cs.length with
          |true=>ZtJ y fl ρ (cs.take off++v++cs.drop (off+v.length)) r
          |false=>none
        |false=>none
      |none=>none
    |_,_=>none
def ZNu:AV→List Nat
  | .c (.ptr x 0)=>[x]
  | .c (.fn _ cap)=>cap
  |_=>[]
def ZBA:Ob→List Nat
  | .rc cs=>ZeZ cs
  |_=>[]
def ZFt:List Nat→List Nat→List Nat
  |acc,[]=>acc
  |acc,x::r=>ZFt (match acc.contains x with|true=>acc|false=>acc++[x]) r
def ZKu (hs:List Nat):Nat→List AV→List Nat
  |_,[]=>[]
  |i,x::r=>(match hs.any (Nat.beq i)with
    |true=>(match x with | .c y=>ZeZ [y] | .agg l=>ZeZ l | .tup _=>[])
    |false=>[])++ZKu hs (i+1) r
def ZMP (hs:Option (List Nat)) (st:St) (args:List AV):List Nat:=
  let ds:=ZFt [] (args.flatMap ZNu++(match hs with|some hs=>ZKu hs 0 args|none=>[]))
  ZFt ds (ds.flatMap fun x=>match lk st x with|some o=>ZBA o|none=>[])
def Zfv:List Nat→Nat→Option Nat
  |[],_=>none
  |y::r,x=>match Nat.beq y x with|true=>some 0|false=>match Zfv r x with|some i=>some (i+1)|none=>none
def ZyO (ns:List Nat):List Nat→Option (List Nat)
  |[]=>some []
  |x::r=>match Zfv ns x,ZyO ns r with|some i,some l=>some (i::l)|_,_=>none
def ZyD (ns:List Nat) (st:St) (t:Option Ty):CV→CV
  | .nil=>match t with|some (.sl t)=>.imm t []|_=>.nil
  | .own x n=>match Zfv ns x with
    |some i=>.own i n
    |none=>match lk st x with|some (.sl _ t l .shallow)=>.imm t l|some (.sl _ t l .frozen)=>.imm t l|some (.sl _ t l (.deep _ .no))=>.imm t l|_=>.undef
  | .ptr x c=>match Zfv ns x with|some i=>.ptr i c|none=>.undef
  | .fn f cap=>match ZyO ns cap with|some l=>.fn f l|none=>.undef
  | .iptr _ _ _=>.undef
  | .eptr _ _ _=>.undef
  | .view _ _=>.undef
  | .kb b=>.bool b
  |x=>x
def ZCR:Ty→List Ty
  | .pair a b=>ZCR a++ZCR b
  |t=>[t]
def Zws (ns:List Nat) (st:St):List Ty→List CV→List CV
  |_,[]=>[]
  |[],x::r=>ZyD ns st none x::Zws ns st [] r
  |t::ts,x::r=>ZyD ns st (some t) x::Zws ns st ts r
def ZJD (ns:List Nat) (st:St) (t:Option Ty):AV→AV
  | .c x=>.c (ZyD ns st t x)
  | .agg l=>.agg (Zws ns st (match t with|some t=>ZCR t|none=>[]) l)
  | .tup l=>.tup l
def Zwr (C:Cfg) (ns:List Nat) (st:St):List TypeId→List AV→List AV
  |_,[]=>[]
  |[],x::r=>ZJD ns st none x::Zwr C ns st [] r
  |t::ts,x::r=>ZJD ns st (lk C.y.ty t) x::Zwr C ns st ts r
def Zq0 (ns:List Nat) (st:St):Ob→Ob
  | .rc cs=>.rc (Zws ns st [] cs)
  |o=>o
def Zd0 (ns:List Nat) (st:St):Nat→List Nat→St
  |_,[]=>[]
  |i,x::r=>match lk st x with
    |some o=>(i,Zq0 ns st o)::Zd0 ns st (i+1) r
    |none=>Zd0 ns st (i+1) r
def back (ns:List Nat) (d:Nat) (i:Nat):Nat:=
  match ns[i]? with|some x=>x|none=>(d+1)*1000+i
def ZpH (ns:List Nat) (d:Nat):CV→CV
  | .own i n=>.own (back ns d i) n
  | .ptr i c=>.ptr (back ns d i) c
  | .fn f cap=>.fn f (cap.map (back ns d))
  | .eptr i j c=>.eptr (back ns d i) j c
  | .view _ _=>.undef
  |x=>x
def ZE7 (ns:List Nat) (d:Nat):AV→AV
  | .c x=>.c (ZpH ns d x)
  | .agg l=>.agg (l.map (ZpH ns d))
  | .tup l=>.tup (l.map fun
    | .c x=>.c (ZpH ns d x)
    | .agg l=>.agg (l.map (ZpH ns d))
    | .tup l=>.tup l)
def Zg1 (ns:List Nat) (d:Nat):Ob→Ob
  | .rc cs=>.rc (cs.map (ZpH ns d))
  |o=>o
def Zu8 (ns:List Nat) (d:Nat) (st':St):St→Nat→List Nat→Option St
  |st,_,[]=>some st
  |st,i,x::r=>match lk st' i with
    |some o=>Zu8 ns d st' (Z0 st x (Zg1 ns d o)) (i+1) r
    |none=>none
def ZsR (ns:List Nat) (d:Nat):St→St→Option St
  |st,[]=>some st
  |st,(i,o)::r=>
    match Nat.blt i ns.length with
    |true=>ZsR ns d st r
    |false=>match lk st (back ns d i)with
      |none=>ZsR ns d ((back ns d i,Zg1 ns d o)::st) r
      |some _=>none
def ZBm (ns:List Nat) (d:Nat) (st st':St):Option St:=
  match Zu8 ns d st' st 0 ns with
  |some st1=>ZsR ns d st1 st'
  |none=>none
def Zj5:List CV→Bool
  |[]=>false
  | .imm _ _::_=>true
  | .iptr _ _ _::_=>true
  |_::r=>Zj5 r
def Zva:AV→Bool
  | .c x=>Zj5 [x]
  | .agg l=>Zj5 l
  | .tup l=>l.any fun | .c x=>Zj5 [x] | .agg l=>Zj5 l | .tup _=>true
def ZsT:Ob→Bool
  | .rc cs=>Zj5 cs
  | .sl _ (.int _) _ .shallow=>false
  | .sl _ .bool _ .shallow=>false
  | .sl _ .str _ .shallow=>false
  | .sl _ (.pair (.int _) (.int _)) _ .shallow=>false
  | .sl _ _ _ (.deep _ _)=>false
  | .dead=>false
  |_=>true
def Zmg (ns:List Nat) (st:St):List CV→Bool
  |[]=>false
  | .own x _::r=>match Zfv ns x with
    |some _=>Zmg ns st r
    |none=>match lk st x with
      |some (.sl _ _ _ .frozen)=>Zmg ns st r
      |_=>true
  |_::r=>Zmg ns st r
def ZyF (ns:List Nat) (st:St):AV→Bool
  | .c x=>Zmg ns st [x]
  | .agg l=>Zmg ns st l
  | .tup _=>true
def ZyG (ns:List Nat) (st:St) (x:Nat):Bool:=
  match lk st x with
  |some (.rc cs)=>Zmg ns st cs
  |some (.sl _ _ _ (.deep _ _))=>false
  |some _=>false
  |none=>true
def Zzs:Ob→Bool
  | .sl _ _ _ kd=>Zq2 kd
  |_=>false
def ZBX (st:St) (x:Nat):Bool:=match lk st x with|some o=>Zzs o|none=>false
def Zvp:List Nat→Bool
  |[]=>true
  |x::r=>!r.contains x&&Zvp r
def ZE6 (st:St):List Nat→Bool
  |[]=>true
  |x::r=>match lk st x with|some _=>ZE6 st r|none=>false
noncomputable def ZKo (e:Eff) (f:AV→St→Eff):Eff:=
  Eff.rec (motive:=fun _=>Eff) .fail (fun v st=>f v st)
    (fun p v st=>match f v st with
      | .ret v st=>.req p v st
      |_=>.fail)
    (fun _ _ _ _=>.fail) (fun _ _=>.fail) (fun _ _=>.fail) (fun b _ _ h1 h2=>.ite b h1 h2) (fun α _ ih=>.any α ih) (fun p _ ih=>.need p ih) (fun _ _ _=>.fail) (fun α o _ ih=>.opt α o ih) e
noncomputable def fNs {α:Sort _} (l:List Nat):(List Nat→α)→α:=
  List.rec (motive:=fun _=>(List Nat→α)→α) (fun k=>k []) (fun x _ ih k=>ih fun r'=>k (x::r')) l
noncomputable def fC {α:Sort _} (x:CV) (k:CV→α):α:=
  match x with
  | .int a b=>k (.int a b)
  | .bool b=>k (.bool b)
  | .kb b=>k (.kb b)
  | .str s=>k (.str s)
  | .nil=>k .nil
  | .imm t l=>k (.imm t l)
  | .own x n=>k (.own x n)
  | .iptr t d c=>k (.iptr t d c)
  | .eptr x i c=>k (.eptr x i c)
  | .ptr x c=>k (.ptr x c)
  | .view x i=>k (.view x i)
  | .fn f cap=>fNs cap fun cap=>k (.fn f cap)
  | .skip=>k .skip
  | .undef=>k .undef
noncomputable def fCs {α:Sort _} (l:List CV):(List CV→α)→α:=
  List.rec (motive:=fun _=>(List CV→α)→α) (fun k=>k []) (fun x _ ih k=>ih fun r'=>fC x fun x'=>k (x'::r')) l
noncomputable def fA1 {α:Sort _} (x:AV) (k:AV→α):α:=
  match x with
  | .c x=>fC x fun x=>k (.c x)
  | .agg l=>fCs l fun l=>k (.agg l)
  | .tup l=>k (.tup l)
noncomputable def fAs {α:Sort _} (l:List AV):(List AV→α)→α:=
  List.rec (motive:=fun _=>(List AV→α)→α) (fun k=>k []) (fun x _ ih k=>ih fun r'=>fA1 x fun x'=>k (x'::r')) l
noncomputable def fA {α:Sort _} (x:AV) (k:AV→α):α:=
  match x with
  | .c x=>fC x fun x=>k (.c x)
  | .agg l=>fCs l fun l=>k (.agg l)
  | .tup l=>fAs l fun l=>k (.tup l)
noncomputable def fO {α:Sort _} (o:Ob) (k:Ob→α):α:=
  match o with
  | .sl e t l .shallow=>k (.sl e t l .shallow)
  | .sl e t l .frozen=>k (.sl e t l .frozen)
  | .sl e t l (.mix i)=>k (.sl e t l (.mix i))
  | .sl e t l (.deep b .no)=>k (.sl e t l (.deep b .no))
  | .sl e t l (.deep b (.at i lo n base))=>k (.sl e t l (.deep b (.at i lo n base)))
  | .rc cs=>fCs cs fun cs=>k (.rc cs)
  | .dead=>k .dead
noncomputable def fSt {α:Sort _} (l:St):(St→α)→α:=
  List.rec (motive:=fun _=>(St→α)→α) (fun k=>k []) (fun p _ ih k=>ih fun r'=>match p with|(n,o)=>fO o fun o'=>k ((n,o')::r')) l
def Zvs (ns:List Nat):List AV→List Nat
  |[]=>[]
  | .c x::r=>(ZeZ [x]).filter (fun x=>!ns.contains x)++Zvs ns r
  | .agg l::r=>(ZeZ l).filter (fun x=>!ns.contains x)++Zvs ns r
  | .tup _::r=>Zvs ns r
def ZOc (st:St) (x:Nat):Bool:=match lk st x with|some o=>ZsT o|none=>false
def ZqH (g:Bool) (st:St) (ns:List Nat) (args:List AV):St:=
  match g||ns.any (ZOc st)with
  |true=>Zf6 st (Zvs ns args)
  |false=>st
def ZGq (hs:List Nat):Nat→List TypeId→List TypeId
  |_,[]=>[]
  |i,t::r=>(match hs.any (Nat.beq i)with|true=>4294967295|false=>t)::ZGq hs (i+1) r
noncomputable def ZFP (C:Cfg) (st:St) (d:Option Nat) (f:FuncId) (tys:List TypeId) (args:List AV):Eff:=
  match lk C.tab f with
  |some con=>fNs (ZMP (lk C.hand f) st args) fun ns=>match Ztr st (Zvs [] args++ns)with
    |none=>.fail
    |some st=>fSt (ZqH (C.good.any (Nat.beq f)) st ns args) fun st=>
    let d:=match d with|some d=>d|none=>0
    match Zvp ns&&ZE6 st ns && !ns.any (ZBX st)with
    |true=>
      ZKo (con (Zwr C ns st (match C.nils.any (Nat.beq f),lk C.hand f with|true,some hs=>ZGq hs 0 tys|_,_=>tys) args) (Zd0 ns st 0 ns)) fun v st'=>
        match ((args.any (ZyF ns st)||ns.any (ZyG ns st))&&(Zva v||st'.any fun p=>ZsT p.2))||st'.any (fun p=>Zzs p.2)with
        |true=>.fail
        |false=>match ZBm ns d st st' with
          |some st''=>.ret (ZE7 ns d v) st''
          |none=>.fail
    |false=>.fail
  |none=>.fail
def ZMN (C:Cfg) (d:Option Nat):Bool:=match d with|some d=>C.frz.any (Nat.beq d)|none=>false
def ZNJ:AV→List Nat
  | .c (.own y _)=>[y]
  |_=>[]
def Zyb (C:Cfg) (st:St) (d:Option Nat) (tys:List TypeId) (x y:AV):Eff:=
  match ZMN C d with
  |true=>Zwd C (Zf6 st (ZNJ y)) d tys x y
  |false=>Zwd C st d tys x y
def ZNY:Ty→Bool
  | .sl _=>true
  | .str=>true
  |_=>false
def ZAu (te:Ty) (st:St) (x:AV):Eff:=match ZNY te with
  |true=>match x with
    | .c (.view x i)=>match lk st x with
      |some (.sl e' t l .shallow)=>match ZfT te t l with
        |some l=>.ret (.c .undef) (Z0 st x (.sl e' te (l.take i.toNat++List.replicate (l.length - i.toNat) te.dflt) .shallow))
        |none=>.fail
      |_=>.fail
    |_=>.fail
  |false=>.fail
def ZCV (C:Cfg) (st:St) (tys:List TypeId) (x:AV):Eff:=
  match tys with
  |[s]=>match lk C.y.el s with
    |some e=>match lk C.y.ty e with
      |some (.int k)=>match x with
        | .c (.view x i)=>match lk st x with
          |some (.sl e' (.int k') l .shallow)=>match same k k' with
            |true=>.ret (.c .undef) (Z0 st x (.sl e' (.int k') (l.take i.toNat++List.replicate (l.length - i.toNat) (0:Int)) .shallow))
            |false=>.fail
          |_=>.fail
        |_=>.fail
      |some te=>ZAu te st x
      |none=>.fail
    |none=>.fail
  |_=>.fail
def ZJu (C:Cfg) (st:St) (tys:List TypeId) (x:AV):Eff:=
  match tys with
  |[s]=>match lk C.y.el s with
    |some _=>match x with
      | .c .nil=>.ret (.c (.int .i64 0)) st
      |_=>.fail
    |none=>.fail
  |_=>.fail
def Zuj (C:Cfg) (st:St) (d:Option Nat) (b:Builtin) (tys:List TypeId) (args:List AV):Eff:=
  match b,args with
  | .len,[x]=>ZJv C st tys x
  | .append,[x,y]=>Zyb C st d tys x y
  | .clear,[x]=>ZCV C st tys x
  | .max,[.c (.int .i64 a),.c (.int .i64 b)]=>.ret (.c (.int .i64 (max a b))) st
  | .min,[.c (.int .i64 a),.c (.int .i64 b)]=>.ret (.c (.int .i64 (min a b))) st
  | .cap,[x]=>ZJu C st tys x
  |_,_=>.fail
def ZpS (t:Ty) (l:List t.den) (lo hi:Option AV) (st:St):Eff:=
  match lo,hi with
  |none,none=>.ret (.c (.imm t l)) st
  |none,some (.c (.int .i64 h))=>.req (0≤h∧h≤l.length) (.c (.imm t (l.take h.toNat))) st
  |some (.c (.int .i64 b)),none=>.req (0≤b∧b≤l.length) (.c (.imm t (l.drop b.toNat))) st
  |some (.c (.int .i64 b)),some (.c (.int .i64 h))=>.req (0≤b∧b≤h∧h≤l.length) (.c (.imm t ((l.take h.toNat).drop b.toNat))) st
  |_,_=>.fail
def ZIc (C:Cfg) (st:St) (d:Option Nat) (s:TypeId) (x:AV) (lo hi:Option AV):Eff:=
  match lk C.y.el s with
  |some e=>match lk C.y.ty e with
    |some te=>match x with
      | .c (.imm t l)=>match Nat.beq te.size t.size with
        |true=>ZpS t l lo hi st
        |false=>.fail
      | .c (.own x _)=>match ZMN C d with
       |true=>match lk st x with
        |some (.sl e' t l kd)=>match Zq2 kd with
          |false=>match Nat.beq te.size t.size with
            |true=>ZpS t l lo hi (Z0 st x (.sl e' t l .frozen))
            |false=>.fail
          |true=>.fail
        |_=>.fail
       |false=>match lk st x with
        |some (.sl _ t l .frozen)=>match Nat.beq te.size t.size with
          |true=>ZpS t l lo hi st
          |false=>.fail
        |some (.sl e' t l .shallow)=>match Nat.beq te.size t.size with
          |true=>match lo,hi with
            |none,some (.c (.int .i64 h))=>match Zig (Z0 st x .dead) d (.sl e' t (l.take h.toNat) .shallow) (fun d=>.c (.own d false))with
              | .ret v st'=>.req (0≤h∧h≤l.length) v st'
              |_=>.fail
            |some (.c (.int .i64 b)),none=>.req (0≤b∧b≤l.length) (.c (.view x b)) st
            |_,_=>.fail
          |false=>.fail
        |_=>.fail
      | .c .nil=>match lo,hi with
        |none,some (.c (.int .i64 h))=>.req (h=0) (.c .nil) st
        |_,_=>.fail
      |_=>.fail
    |none=>.fail
  |none=>.fail
def ZGc (C:Cfg) (d:Option Nat):Bool:=match d with|some d=>C.deep.any (Nat.beq d)|none=>false
def ZJL:List AV→Bool
  |[]=>true
  | .tup _::_=>false
  |_::r=>ZJL r
def Zx2:List CV→Option (List Int)
  |[]=>some []
  | .int .i64 n::r=>match Zx2 r with|some l=>some (n::l)|none=>none
  |_=>none
noncomputable def Zby (C:Cfg) (ρ:Env) (st:St) (o:Oper):Eff:=
  match o.op with
  | .move x=>.ret (ev1 ρ x) st
  | .assign x=>.ret (ev1 ρ x) st
  | .pick c a b=>
    match ev1 ρ c with
    | .c (.kb c)=>.ret (match c with|true=>ev1 ρ a|false=>ev1 ρ b) st
    | .c (.bool c)=>
      match Zoh (ev1 ρ a),Zoh (ev1 ρ b)with
      |some x,some y=>.ret (.c (.bool (bif c then x else y))) st
      |_,_=>.br c (ev1 ρ a) (ev1 ρ b) st
    |_=>.fail
  | .binOp op t x y _=>
    match op,ev1 ρ x,ev1 ρ y with
    | .eql,.c .nil,.c .nil=>match lk C.y.el t with|some _=>.ret (.c (.kb true)) st|none=>.fail
    | .eql,.c (.imm _ l),.c .nil=>match lk C.y.el t with|some _=>.nilt (l=[]) st|none=>.fail
    | .eql,.c (.own x true),.c .nil=>match lk C.y.el t,lk st x with
      |some _,some (.sl _ _ l .shallow)=>.ret (.c (.bool l.isEmpty)) st
      |some _,some (.sl _ _ l .frozen)=>.ret (.c (.bool l.isEmpty)) st
      |some _,some (.sl _ _ l (.deep _ _))=>.ret (.c (.bool l.isEmpty)) st
      |_,_=>.fail
    | .eql,.c (.own x false),.c .nil=>match lk C.y.el t,lk st x with
      |some _,some (.sl _ _ l .shallow)=>.nilt (l=[]) st
      |some _,some (.sl _ _ l .frozen)=>.nilt (l=[]) st
      |some _,some (.sl _ _ l (.deep _ _))=>.nilt (l=[]) st
      |_,_=>.fail
    | .neq,.c .nil,.c .nil=>match lk C.y.el t with|some _=>.ret (.c (.kb false)) st|none=>.fail
    | .neq,.c (.imm _ l),.c .nil=>match lk C.y.el t with|some _=>.niln (l=[]) st|none=>.fail
    | .neq,.c (.own x true),.c .nil=>match lk C.y.el t,lk st x with
      |some _,some (.sl _ _ l .shallow)=>.ret (.c (.bool (!l.isEmpty))) st
      |some _,some (.sl _ _ l .frozen)=>.ret (.c (.bool (!l.isEmpty))) st
      |some _,some (.sl _ _ l (.deep _ _))=>.ret (.c (.bool (!l.isEmpty))) st
      |_,_=>.fail
    | .neq,.c (.own x false),.c .nil=>match lk C.y.el t,lk st x with
      |some _,some (.sl _ _ l .shallow)=>.niln (l=[]) st
      |some _,some (.sl _ _ l .frozen)=>.niln (l=[]) st
      |some _,some (.sl _ _ l (.deep _ _))=>.niln (l=[]) st
      |_,_=>.fail
    | .eql,.agg [.int .i64 a,.int .i64 b],.agg [.int .i64 c,.int .i64 d]=>match C.y.eq.any (Nat.beq t)with
      |true=>.ret (.c (.bool (a==c&&b==d))) st
      |false=>.fail
    | .neq,.agg [.int .i64 a,.int .i64 b],.agg [.int .i64 c,.int .i64 d]=>match C.y.eq.any (Nat.beq t)with
      |true=>.ret (.c (.bool (!(a==c&&b==d)))) st
      |false=>.fail
    |op,x,y=>match Zoh x with
      |some _=>match lk C.y.ty t with|some .bool=>ZE9 op x y st|_=>.fail
      |none=>match ZOd C o.dst with|true=>ZFR op x y st|false=>ZE9 op x y st
  | .unOp op _ x=>
    match op,ev1 ρ x with
    | .not,.c (.bool b)=>.ret (.c (.bool (!b))) st
    | .not,.c (.kb b)=>.ret (.c (.kb (!b))) st
    | .neg,.c (.int k n)=>.req (inR k (0 - n)) (.c (.int k (0 - n))) st
    |_,_=>.fail
  | .convert s t x=>
    match ev1 ρ x,lk C.y.ty s,lk C.y.ty t with
    | .c (.int _ n),some (.int _),some (.int k)=>.req (inR k n) (.c (.int k n)) st
    |_,_,_=>.fail
  | .nilCheck x=>match ev1 ρ x with
    | .c (.ptr x c)=>.ret (.c (.ptr x c)) st
    |_=>.fail
  | .indexAddr t x i=>Zz4 C st t (ev1 ρ x) (ev1 ρ i)
  | .fieldAddr t x f=>
    match lk C.y.fl t with
    |some fl=>match fl[f]? with
      |some (off,_)=>match ev1 ρ x with
        | .c (.iptr t d c)=>.ret (.c (.iptr t d (c+off))) st
        | .c (.eptr x i c)=>match lk st x with
          |some (.sl _ _ _ .shallow)=>.ret (.c (.eptr x i (c+off))) st
          |some (.sl _ _ _ (.deep _ _))=>.ret (.c (.eptr x i (c+off))) st
          |_=>.fail
        | .c (.ptr x c)=>.ret (.c (.ptr x (c+off))) st
        |_=>.fail
      |none=>.fail
    |none=>.fail
  | .load ty x=>match C.y.fnT.any (Nat.beq ty)with
    |true=>Zwe st (ev1 ρ x)
    |false=>ZBt C st o.dst ty (ev1 ρ x)
  | .store ty p v=>match C.y.fnT.any (Nat.beq ty)with
    |true=>ZDX st (ev1 ρ p) (ev1 ρ v)
    |false=>ZId C st ty (ev1 ρ p) (ev1 ρ v)
  | .extract x i=>match ev1 ρ x with
    | .tup l=>match l[i]? with|some v=>.ret v st|none=>.fail
    |_=>.fail
  | .alloc ty=>match lk C.y.ar ty with
    |some (m,_)=>match Nat.ble 1 m&&Nat.ble m 1000 with
      |true=>Zig st o.dst (.sl ty (.int .i64) (List.replicate m 0) .shallow) (fun d=>.c (.eptr d 0 0))
      |false=>.fail
    |none=>match C.y.fnT.any (Nat.beq ty)with
      |true=>Zig st o.dst (.rc [.undef]) (fun d=>.c (.ptr d 0))
      |false=>match lk C.y.ty ty with
        |some t=>Zig st o.dst (.rc (Zzl t)) (fun d=>.c (.ptr d 0))
        |none=>.fail
  | .index t x i=>match lk C.y.ar t,ev1 ρ x,ev1 ρ i with
    |some (m,_),.agg cs,.c (.int .i64 i)=>match Zx2 cs with
      |some l=>.req ((0≤i∧i<m)∧m≤l.length) (.c (.int .i64 (l.getD i.toNat 0))) st
      |none=>.fail
    |_,_,_=>.fail
  | .box ty x=>match lk C.y.ty ty,cellsOf (ev1 ρ x)with
    |some _,some cs=>Zig st o.dst (.rc cs) (fun d=>.c (.ptr d 0))
    |_,_=>.fail
  | .build ty ps=>match lk C.y.ty ty,lk C.y.fl ty with
    |some t,some fl=>match ZtJ C.y fl ρ (Zzl t) ps.toList with
      |some cs=>.ret (.agg cs) st
      |none=>.fail
    |_,_=>.fail
  | .buildSlice ty len ps=>match lk C.y.el ty with
    |some e=>match lk C.y.ty e with
      |some t=>match ZGc C o.dst with
       |true=>match Zja st ρ t 0 ps.toList with
        |some (l,ns)=>match Nat.beq l.length len&&Nat.ble (len*t.size) 16777216&&Zpx ns with
          |true=>Zig (ZeR st ns) o.dst (.sl e t l (.deep true .no)) (fun d=>.c (.own d false))
          |false=>.fail
        |none=>.fail
       |false=>match ZrS st ρ t 0 ps.toList with
        |some (l,ns)=>match Nat.beq l.length len&&Nat.ble (len*t.size) 16777216 with
          |true=>Zig (Zf6 st ns) o.dst (.sl e t l .shallow) (fun d=>.c (.own d false))
          |false=>.fail
        |none=>.fail
      |none=>.fail
    |none=>.fail
  | .makeSlice ty l c=>match lk C.y.el ty with
    |some e=>match lk C.y.ty e with
      |some t=>match ev1 ρ l,ev1 ρ c with
        | .c (.int .i64 n),.c (.int .i64 m)=>match Zig st o.dst (.sl e t (List.replicate n.toNat t.dflt) (match ZGc C o.dst with|true=>.deep true .no|false=>.shallow)) (fun d=>.c (.own d false))with
          | .ret v st'=>.req (0≤n∧n≤Zl∧m=n) v st'
          |_=>.fail
        |_,_=>.fail
      |none=>.fail
    |none=>.fail
  | .slice t x lo hi mx=>match mx with
    |none=>ZIc C st o.dst t (ev1 ρ x) (lo.map (ev1 ρ)) (hi.map (ev1 ρ))
    |some _=>.fail
  | .makeFunc (.func f) first cap=>
    match first.toList,cap.toList.mapM (fun x=>match ev1 ρ x with | .c (.ptr x 0)=>some x|_=>none)with
    |[],some ns=>.ret (.c (.fn f ns)) st
    |_,_=>.fail
  | .call c=>
    match c.callee with
    | .builtin b=>Zuj C st o.dst b c.argTypes.toList (c.args.toList.map (ev1 ρ))
    | .value f=>
      match ev1 ρ f with
      | .c (.fn f cap)=>match ZJL (c.args.toList.map (ev1 ρ)++cap.map fun x=>.c (.ptr x 0))with
        |true=>ZFP C st o.dst f c.argTypes.toList (c.args.toList.map (ev1 ρ)++cap.map fun x=>.c (.ptr x 0))
        |false=>.fail
      |_=>.fail
    |_=>.fail
  |_=>.fail
noncomputable def ZbD (e:Eff) (k:AV→St→Prop):Prop:=
  Eff.rec (motive:=fun _=>Prop) False (fun v st=>k v st) (fun p v st=>p∧k v st) (fun b v1 v2 st=>(b=true→k v1 st)∧(b=false→k v2 st))
    (fun p st=>∀b:Bool,(b=true→p)→k (.c (.bool b)) st) (fun p st=>∀b:Bool,(b=false→p)→k (.c (.bool b)) st)
    (fun b _ _ h1 h2=>(b=true→h1)∧(b=false→h2)) (fun _ _ ih=>∀x,ih x) (fun p _ ih=>p∧ih) (fun p v st=>p→k v st) (fun _ o _ ih=>∃x,o=some x∧ih x) e
def Zwc:List Oper→Nat→Option Nat
  |[],_=>none
  |o::_,0=>o.dst
  |_::r,j+1=>Zwc r j
def xb:Bool→Bool→Bool
  |true,true=>true
  |false,false=>true
  |_,_=>false
def Zzn (n:Nat):Option Nat→Bool
  |some d=>Nat.blt d n
  |none=>true
noncomputable def Zwf (C:Cfg) (all:List Oper) (o:Oper) (next:Env→St→Prop) (ρ:Env) (st:St):Prop:=
  match Zzn C.n o.dst with
  |false=>False
  |true=>
    match o.guard with
    |none=>ZbD (Zby C ρ st o) (fun v st'=>fA v fun v=>fSt st' fun st'=>next (Zp7 ρ o.dst v) st')
    |some (j,want)=>
      match Zwc all j with
      |some d=>match ρ d with
        | .c (.kb b)=>match xb b want with
          |true=>ZbD (Zby C ρ st o) (fun v st'=>fA v fun v=>fSt st' fun st'=>next (Zp7 ρ o.dst v) st')
          |false=>next (Zp7 ρ o.dst (.c .skip)) st
        | .c (.bool b)=>
            (b=want→ZbD (Zby C (upd ρ d (.c (.kb want))) st o) (fun v st'=>fA v fun v=>fSt st' fun st'=>next (Zp7 (upd ρ d (.c (.kb want))) o.dst v) st'))
            ∧ (b = !want→next (Zp7 (upd ρ d (.c (.kb (!want)))) o.dst (.c .skip)) st)
        | .c .skip=>next (Zp7 ρ o.dst (.c .skip)) st
        |_=>False
      |none=>False
noncomputable def ZsE (C:Cfg) (all:List Oper) (k:Env→St→Prop) (l:List Oper):Env→St→Prop:=
  List.rec (motive:=fun _=>Env→St→Prop) k (fun o _ next=>Zwf C all o next) l
inductive Ex where|normal|exit (id:Nat)|ret
end Go.AE
namespace Go.AE
open Go
def Imm (w:World) (N:Nat→Prop):(t:Ty)→t.den→List Value→Prop
 | .int k,n,cs=>cs=[.int k n]∧inR k n
 | .bool,b,cs=>cs=[.bool b]
 | .str,s,cs=>cs=[.string ⟨s.toArray⟩]
 | .sl t,l,cs=>∃a cap,cs=[.slice a l.length cap]∧l.length≤cap∧cap≤maxLen ∧
   (0<l.length→∃b o,a=some ⟨b,o,none⟩∧¬N b∧b<w.heap.size ∧
    ∀j (h:j<l.length),∃es,(∀c,c<t.size→w.cell? ⟨b,o+j*t.size+c,none⟩=es[c]?)∧Imm w N t l[j] es)
 | .pair a b,d,cs=>∃c1 c2,cs=c1++c2∧Imm w N a d.1 c1∧Imm w N b d.2 c2
theorem Imm.length {w:World} {N:Nat→Prop}:∀{t:Ty} {d:t.den} {cs:List Value},Imm w N t d cs→cs.length=t.size
 | .int _,_,_,h=>by rw[h.1];rfl
 | .bool,_,_,h=>by rw[show _=_ from h];rfl
 | .str,_,_,h=>by rw[show _=_ from h];rfl
 | .sl _,_,_,h=>by obtain⟨_,_,rfl,_⟩:=h;rfl
 | .pair a b,_,_,h=>by
  obtain⟨c1,c2,rfl,h1,h2⟩:=h
  rw[Xal,Imm.length h1,Imm.length h2,Ty.size]
theorem Ty.size_pos:∀t:Ty,0<t.size
 | .int _ | .bool | .str | .sl _=>by simp[Ty.size]
 | .pair a b=>by have:=a.size_pos;simp only[Ty.size];omega
structure Kept (w w':World) (N N':Nat→Prop):Prop where
 size:w.heap.size≤w'.heap.size
 block:∀b,b<w.heap.size→¬N b→w'.heap[b]? = w.heap[b]?
 more:∀b,b<w.heap.size→N' b→N b
theorem Kept.refl (w:World) (N:Nat→Prop):Kept w w N N:=⟨Nat.le_refl _,fun _ _ _=>rfl,fun _ _ h=>h⟩
theorem Kept.cell {w w':World} {N N':Nat→Prop} (k:Kept w w' N N') {a:Addr} (hb:a.block<w.heap.size) (hn:¬N a.block):w'.cell? a=w.cell? a:=
 World.cell?_of_block (k.block _ hb hn)
theorem Imm.kept {w w':World} {N N':Nat→Prop} (k:Kept w w' N N'):∀{t:Ty} {d:t.den} {cs:List Value},Imm w N t d cs→Imm w' N' t d cs
 | .int _,_,_,h=>h
 | .bool,_,_,h=>h
 | .str,_,_,h=>h
 | .sl t,l,cs,h=>by
  obtain⟨a,cap,rfl,h1,h2,h3⟩:=h
  refine⟨a,cap,rfl,h1,h2,fun hl=>?_⟩
  obtain⟨b,o,rfl,hn,hb,he⟩:=h3 hl
  refine⟨b,o,rfl,fun hn'=>hn (k.more b hb hn'),XaS hb k.size,fun j hj=>?_⟩
  obtain⟨es,hc,hi⟩:=he j hj
  exact⟨es,fun c hc'=>(k.cell (a:=⟨b,_,none⟩) hb hn).trans (hc c hc'),Imm.kept k hi⟩
 | .pair a b,d,cs,h=>by
  obtain⟨c1,c2,rfl,h1,h2⟩:=h
  exact⟨c1,c2,rfl,Imm.kept k h1,Imm.kept k h2⟩
theorem ZR {a k:Nat}:Nat.beq a k=true↔a=k:=⟨Nat.eq_of_beq_eq_true,fun h=>by subst h;exact Nat.beq_refl a⟩
theorem Z2 {α:Type _} (a:Nat) (b:α) (r:List (Nat×α)) (k:Nat):lk ((a,b)::r) k=if k=a then some b else lk r k:=by
 unfold lk
 cases h:Nat.beq a k
 ·rw[if_neg (fun e=>by rw[ZR.2 e.symm]at h;cases h)]
  cases r<;>rfl
 ·rw[if_pos (ZR.1 h).symm]
structure ZFr (v:Value) (n:Nat) (F:Nat→Prop) (Fs:Nat→Nat→Prop):Prop where
 all:∀b,F b↔(v.ownBlock=some b∨∃j,j<n∧Fs j b)
 own:∀b j,j<n→v.ownBlock=some b→¬Fs j b
 apart:∀j k b,j<n→k<n→j≠k→Fs j b→¬Fs k b
def Deep (w:World) (val:Nat→Value):(t:Ty)→(Nat→Option Nat)→Nat→t.den→List Value→(Nat→Prop)→Prop
 | .int k,_,_,n,cs,F=>(cs=[.int k n]∧inR k n)∧∀b,¬F b
 | .bool,_,_,x,cs,F=>cs=[.bool x]∧∀b,¬F b
 | .str,_,_,s,cs,F=>cs=[.string ⟨s.toArray⟩]∧∀b,¬F b
 | .sl t,ys,c,l,cs,F=>match ys c with
  |some y=>(∃a n cap,val y = .slice a n cap)∧cs=[val y]∧∀b,¬F b
  |none=>∃v e xs Fs,cs=[v]∧w.ownsRow 0 e t.size v l.length xs∧ZFr v l.length F Fs∧∀j (_:j<l.length),Deep w val t (fun _=>none) 0 l[j] ((xs.drop (j*t.size)).take t.size) (Fs j)
 | .pair a b,ys,c,d,cs,F=>∃c1 c2 F1 F2,cs=c1++c2∧(∀x,F x↔F1 x∨F2 x)∧(∀x,F1 x→¬F2 x)∧Deep w val a ys c d.1 c1 F1∧Deep w val b ys (c+a.size) d.2 c2 F2
theorem Zfn {w:World} {e:TypeId} {size n:Nat} {v:Value} {xs:List Value} (h:w.ownsRow 0 e size v n xs):∃a cap,v = .slice a n cap:=by
 rcases h.2 with⟨rfl,rfl⟩|⟨g,cap,cur,rfl,_⟩
 ·exact⟨_,_,rfl⟩
 ·exact⟨_,_,rfl⟩
theorem ZAN {w w':World} {e:TypeId} {size n:Nat} {v:Value} {xs:List Value} (h:w.ownsRow 0 e size v n xs) (hb:∀b,v.ownBlock=some b→w'.heap[b]? = w.heap[b]?):w'.ownsRow 0 e size v n xs:=by
 refine⟨h.1,?_⟩
 rcases h.2 with hn|⟨g,cap,cur,rfl,hb',hg,rest⟩
 ·exact .inl hn
 ·exact .inr ⟨g,cap,cur,rfl,hb',(hb g rfl).trans hg,rest⟩
theorem Deep.length {w:World} {val:Nat→Value}:∀{t:Ty} {ys:Nat→Option Nat} {c:Nat} {d:t.den} {cs:List Value} {F:Nat→Prop},Deep w val t ys c d cs F→cs.length=t.size
 | .int _,_,_,_,_,_,h=>by rw[h.1.1];rfl
 | .bool,_,_,_,_,_,h=>by rw[h.1];rfl
 | .str,_,_,_,_,_,h=>by rw[h.1];rfl
 | .sl t,ys,c,l,cs,F,h=>by
  unfold Deep at h
  split at h
  ·rw[h.2.1];rfl
  ·obtain⟨v,e,xs,Fs,rfl,_⟩:=h;rfl
 | .pair a b,_,_,_,_,_,h=>by
  obtain⟨c1,c2,F1,F2,rfl,_,_,h1,h2⟩:=h
  rw[Xal,Deep.length h1,Deep.length h2,Ty.size]
theorem Deep.congr {w:World} {val:Nat→Value}:∀{t:Ty} {ys:Nat→Option Nat} {c:Nat} {d:t.den} {cs:List Value} {F F':Nat→Prop},(∀b,F' b↔F b)→Deep w val t ys c d cs F→Deep w val t ys c d cs F'
 | .int _,_,_,_,_,_,_,hF,h=>⟨h.1,fun b hb=>h.2 b ((hF b).1 hb)⟩
 | .bool,_,_,_,_,_,_,hF,h=>⟨h.1,fun b hb=>h.2 b ((hF b).1 hb)⟩
 | .str,_,_,_,_,_,_,hF,h=>⟨h.1,fun b hb=>h.2 b ((hF b).1 hb)⟩
 | .sl t,ys,c,l,cs,F,F',hF,h=>by
  unfold Deep at h ⊢
  split
  ·rename_i y hy
   rw[hy]at h
   exact⟨h.1,h.2.1,fun b hb=>h.2.2 b ((hF b).1 hb)⟩
  ·rename_i hy
   rw[hy]at h
   obtain⟨v,e,xs,Fs,h1,h2,h3,h4⟩:=h
   exact⟨v,e,xs,Fs,h1,h2,⟨fun b=>(hF b).trans (h3.all b),h3.own,h3.apart⟩,h4⟩
 | .pair a b,_,_,_,_,_,_,hF,h=>by
  obtain⟨c1,c2,F1,F2,h1,h2,h3⟩:=h
  exact⟨c1,c2,F1,F2,h1,fun b=>(hF b).trans (h2 b),h3⟩
theorem Deep.kept {w w':World} {val val':Nat→Value}:∀{t:Ty} {ys:Nat→Option Nat} {c:Nat} {d:t.den} {cs:List Value} {F:Nat→Prop},(∀b,F b→w'.heap[b]? = w.heap[b]?)→(∀q∈ZF t c,∀y,ys q=some y→val' y=val y) →
  Deep w val t ys c d cs F→Deep w' val' t ys c d cs F
 | .int _,_,_,_,_,_,_,_,h=>h
 | .bool,_,_,_,_,_,_,_,h=>h
 | .str,_,_,_,_,_,_,_,h=>h
 | .sl t,ys,c,l,cs,F,hb,hv,h=>by
  unfold Deep at h ⊢
  split
  ·rename_i y hy
   rw[hy]at h
   rw[hv c (by simp[ZF]) y hy]
   exact h
  ·rename_i hy
   rw[hy]at h
   obtain⟨v,e,xs,Fs,h1,h2,h3,h4⟩:=h
   exact⟨v,e,xs,Fs,h1,ZAN h2 (fun b hb'=>hb b ((h3.all b).2 (.inl hb'))),h3,fun j hj=>(h4 j hj).kept (fun b hb'=>hb b ((h3.all b).2 (.inr ⟨j,hj,hb'⟩))) (fun _ _ _ hp=>by cases hp)⟩
 | .pair a b,ys,c,d,cs,F,hb,hv,h=>by
  obtain⟨c1,c2,F1,F2,h1,h2,h3,h4,h5⟩:=h
  exact⟨c1,c2,F1,F2,h1,h2,h3,h4.kept (fun b hb'=>hb b ((h2 b).2 (.inl hb'))) (fun q hq=>hv q (by simp[ZF,hq])),h5.kept (fun b hb'=>hb b ((h2 b).2 (.inr hb'))) (fun q hq=>hv q (by simp[ZF,hq]))⟩
theorem ZDe {l:List Value} {c n i:Nat} (hi:i<n):((l.drop c).take n)[i]? = l[c+i]? :=by
 rw[XaD,if_pos hi,Xa0]
theorem ZDc {w:World} {N:Nat→Prop} {e:TypeId} {t:Ty} {l:List t.den} {v:Value} {xs:List Value} (h:w.ownsRow 0 e t.size v l.length xs) (hN:∀b,v.ownBlock=some b→¬N b)
  (hi:∀j (hj:j<l.length),Imm w N t l[j] ((xs.drop (j*t.size)).take t.size)):Imm w N (.sl t) l [v]∧(0<l.length→∃g n cap,v = .slice (some ⟨g,0,none⟩) n cap):=by
 have h1':=h
 rcases h.2 with⟨rfl,h0⟩|⟨g,cap,cur,rfl,_,hg,hc,hm,_⟩
 ·exact⟨⟨none,0,by rw[h0],by omega,Nat.zero_le _,fun hl=>by omega⟩,fun hl=>by omega⟩
 ·refine⟨⟨_,cap,rfl,hc,hm,fun hl=>⟨g,0,rfl,hN g rfl,(Xbs.1 hg).1,fun j hj=>⟨(xs.drop (j*t.size)).take t.size,fun c hc'=>?_,hi j hj⟩⟩⟩,fun _=>⟨g,_,cap,rfl⟩⟩
  rw[ZDe hc',Nat.zero_add]
  refine h1'.cellAt _ ?_
  have:(j+1)*t.size≤l.length*t.size:=XaE _ (by omega)
  rw[XaH]at this
  omega
theorem Deep.imm {w:World} {val:Nat→Value} {N:Nat→Prop}:∀{t:Ty} {c:Nat} {d:t.den} {cs:List Value} {F:Nat→Prop},(∀b,F b→¬N b)→Deep w val t (fun _=>none) c d cs F→Imm w N t d cs
 | .int _,_,_,_,_,_,h=>h.1
 | .bool,_,_,_,_,_,h=>h.1
 | .str,_,_,_,_,_,h=>h.1
 | .sl t,c,l,cs,F,hN,h=>by
  obtain⟨v,e,xs,Fs,rfl,h2,h3,h4⟩:=h
  exact(ZDc h2 (fun b hb=>hN b ((h3.all b).2 (.inl hb))) (fun j hj=>(h4 j hj).imm (fun b hb=>hN b ((h3.all b).2 (.inr ⟨j,hj,hb⟩))))).1
 | .pair a b,c,d,cs,F,hN,h=>by
  obtain⟨c1,c2,F1,F2,h1,h2,h3,h4,h5⟩:=h
  exact⟨c1,c2,h1,h4.imm (fun b hb=>hN b ((h2 b).2 (.inl hb))),h5.imm (fun b hb=>hN b ((h2 b).2 (.inr hb)))⟩
def Ze6:ZFp→Nat→Nat→Option Nat
 | .no,_=>fun _=>none
 | .at i lo n base,j=>fun q=>if j=i then ZdQ lo n base q else none
def HoleIn (st:St) (t:Ty) (m:Nat):ZFp→Prop
 | .no=>True
 | .at i lo n base=>i<m∧∀q∈ZF t 0,∀y,ZdQ lo n base q=some y→∃o,lk st y=some o
theorem HoleIn.mono {st st':St} {t:Ty} {m:Nat} {h:ZFp} (hs:∀y o,lk st y=some o→∃o',lk st' y=some o') (hh:HoleIn st t m h):HoleIn st' t m h:=by
 cases h with
 |no=>trivial
 | _=> rename_i i lo n base; exact⟨hh.1,fun q hq y hy=>by
   obtain⟨o,ho⟩:=hh.2 q hq y hy
   exact hs y o ho⟩
def fnCaps (val:Nat→Value) (st:St):List Nat→List Value→Prop
 |[],[]=>True
 |x::r,v::vs=>(∃cs g,lk st x=some (.rc cs)∧val x = .pointer (some ⟨g,0,none⟩)∧v = .pointer (some ⟨g,0,none⟩))∧fnCaps val st r vs
 |_,_=>False
def NilOk (n:Bool) (o:Ob) (v:Value):Prop:=n=true→v = .slice none 0 0∨∀e t l k,o = .sl e t l k→l≠[]
def CvRep (w:World) (N:Nat→Prop) (val:Nat→Value) (st:St):CV→Value→Prop
 | .int k n,v=>v = .int k n∧inR k n
 | .bool b,v=>v = .bool b
 | .kb b,v=>v = .bool b
 | .str s,v=>v = .string ⟨s.toArray⟩
 | .nil,v=>v = .slice none 0 0
 | .imm t l,v=>Imm w N (.sl t) l [v]
 | .own x n,v=>(∃a n c,v = .slice a n c)∧∃o,lk st x=some o∧(o = .dead∨v=val x)∧NilOk n o v
 | .iptr t d c,v=>∃b o es,v = .pointer (some ⟨b,o+c,none⟩)∧¬N b∧b<w.heap.size∧(∀i,i<t.size→w.cell? ⟨b,o+i,none⟩=es[i]?)∧Imm w N t d es
 | .eptr x i c,v=>(∃p,v = .pointer p)∧∃o,lk st x=some o∧∀e t l k,o = .sl e t l k→0≤i∧i<l.length∧∃g n cap,val x = .slice (some ⟨g,0,none⟩) n cap∧v = .pointer (some ⟨g,i.toNat*t.size+c,none⟩)
 | .ptr x c,v=>∃cs g,lk st x=some (.rc cs)∧val x = .pointer (some ⟨g,0,none⟩)∧v = .pointer (some ⟨g,c,none⟩)
 | .view x i,v=>(∃A n c,v = .slice A n c)∧∃o,lk st x=some o∧∀e t l k,o = .sl e t l k→0≤i∧i≤l.length∧(i<l.length→∃g n cap c,val x = .slice (some ⟨g,0,none⟩) n cap∧v = .slice (some ⟨g,i.toNat*t.size,none⟩) (l.length - i.toNat) c)∧(i=l.length→∃A c,v = .slice A 0 c)
 | .fn f cap,v=>∃vs,v = .func (.func f) #[] vs∧fnCaps val st cap vs.toList
 | .skip,v=>v=undef
 | .undef,_=>True
def All2 {α β:Type} (R:α→β→Prop):List α→List β→Prop
 |[],[]=>True
 |a::l,b::m=>R a b∧All2 R l m
 |_,_=>False
def Av1 (w:World) (N:Nat→Prop) (val:Nat→Value) (st:St):AV→Value→Prop
 | .c x,v=>CvRep w N val st x v
 | .agg l,v=>∃vs,v = .agg vs∧All2 (CvRep w N val st) l vs.toList
 | .tup _,_=>False
def AvRep (w:World) (N:Nat→Prop) (val:Nat→Value) (st:St):AV→Value→Prop
 | .c x,v=>CvRep w N val st x v
 | .agg l,v=>∃vs,v = .agg vs∧All2 (CvRep w N val st) l vs.toList
 | .tup l,v=>∃vs,v = .tuple vs∧All2 (Av1 w N val st) l vs.toList
def ObRep (w:World) (N:Nat→Prop) (val:Nat→Value) (st:St):Ob→Value→List Nat→Prop
 | .sl e t l .shallow,v,F=>∃xs,w.ownsRow 0 e t.size v l.length xs∧F=v.ownBlock.toList ∧
   ∀j (h:j<l.length),Imm w N t l[j] ((xs.drop (j*t.size)).take t.size)
 | .sl _ t l .frozen,v,F=>F=[]∧Imm w N (.sl t) l [v]∧(0<l.length→∃g n cap,v = .slice (some ⟨g,0,none⟩) n cap)
 | .sl e t l (.deep kn h),v,F=>HoleIn st t l.length h∧∃e' xs Fs,(kn=true→e'=e)∧w.ownsRow 0 e' t.size v l.length xs∧ZFr v l.length (· ∈ F) Fs ∧
   ∀j (hj:j<l.length),Deep w val t (Ze6 h j) 0 l[j] ((xs.drop (j*t.size)).take t.size) (Fs j)
 | .sl e t l (.mix k),v,F=>(0≤k∧k≤l.length)∧∃xs Fs,w.ownsRow 0 e t.size v l.length xs∧ZFr v k.toNat (· ∈ F) Fs ∧
   (∀j (_:j<l.length),j<k.toNat→Deep w val t (fun _=>none) 0 l[j] ((xs.drop (j*t.size)).take t.size) (Fs j)) ∧
   ∀j (_:j<l.length),k.toNat≤j→Imm w N t l[j] ((xs.drop (j*t.size)).take t.size)
 | .rc cs,v,F=>∃g cur e,v = .pointer (some ⟨g,0,none⟩)∧F=[g]∧w.heap[g]? = some (.cells cur e (0,0))∧All2 (CvRep w N val st) cs cur.toList
 | .dead,_,F=>F=[]
def Compat:Ob→Ob→Prop
 | .sl _ _ _ _,.dead=>True
 | .dead,.dead=>True
 | .sl e t l _,.sl e' t' l' _=>e=e'∧t=t'∧l.length=l'.length
 | .rc _,.rc _=>True
 |_,_=>False
theorem NilOk.compat {n:Bool} {o o':Ob} {v:Value} (h:NilOk n o v) (hc:Compat o o'):NilOk n o' v:=fun hn=>by
 refine(h hn).imp id fun h1 e t l k ho=>?_
 subst ho
 cases o with
 |sl e0 t0 l0 k0=>
  obtain⟨_,rfl,hl⟩:=hc
  intro h0
  subst h0
  exact h1 _ _ _ _ rfl (XaJ hl)
 |rc _=>exact hc.elim
 |dead=>exact hc.elim
theorem Compat.refl:∀o:Ob,Compat o o
 | .sl _ _ _ _=>⟨rfl,rfl,rfl⟩
 | .rc _=>trivial
 | .dead=>trivial
theorem Compat.trans:∀{a b c:Ob},Compat a b→Compat b c→Compat a c
 | .sl _ _ _ _,.dead,.dead,_,_=>trivial
 | .dead,.dead,.dead,_,_=>trivial
 | .sl _ _ _ _,.sl _ _ _ _,.dead,_,_=>trivial
 | .sl _ _ _ _,.sl _ _ _ _,.sl _ _ _ _,⟨h1,h2,h3⟩,⟨k1,k2,k3⟩=>⟨h1.trans k1,h2.trans k2,h3.trans k3⟩
 | .rc _,.rc _,.rc _,_,_=>trivial
 | .rc _,.sl _ _ _ _,_,h,_=>h.elim
 | .rc _,.dead,_,h,_=>h.elim
 | .sl _ _ _ _,.rc _,_,h,_=>h.elim
 | .dead,.sl _ _ _ _,_,h,_=>h.elim
 | .dead,.rc _,_,h,_=>h.elim
 | .rc _,.rc _,.sl _ _ _ _,_,h=>h.elim
 | .rc _,.rc _,.dead,_,h=>h.elim
 | .sl _ _ _ _,.sl _ _ _ _,.rc _,_,h=>h.elim
 | .sl _ _ _ _,.dead,.sl _ _ _ _,_,h=>h.elim
 | .sl _ _ _ _,.dead,.rc _,_,h=>h.elim
 | .dead,.dead,.sl _ _ _ _,_,h=>h.elim
 | .dead,.dead,.rc _,_,h=>h.elim
def Stays (val val':Nat→Value) (st st':St):Prop:=∀y o,lk st y=some o→∃o',lk st' y=some o'∧Compat o o'∧val' y=val y
theorem Stays.refl (val:Nat→Value) (st:St):Stays val val st st:=fun _ o h=>⟨o,h,Compat.refl o,rfl⟩
theorem Stays.rc {val val':Nat→Value} {st st':St} (h:Stays val val' st st') {x:Nat} {cs:List CV} (hx:lk st x=some (.rc cs)):∃cs',lk st' x=some (.rc cs')∧val' x=val x:=by
 obtain⟨o',h1,h2,h3⟩:=h x _ hx
 cases o' with
 |rc cs'=>exact⟨cs',h1,h3⟩
 |sl _ _ _ _=>exact h2.elim
 |dead=>exact h2.elim
theorem fnCaps.kept {val val':Nat→Value} {st st':St} (h:Stays val val' st st'):∀{l:List Nat} {vs:List Value},fnCaps val st l vs→fnCaps val' st' l vs
 |[],[],_=>trivial
 |_::_,_::_,⟨⟨cs,g,h1,h2,h3⟩,hr⟩=>by
  obtain⟨cs',k1,k2⟩:=h.rc h1
  exact⟨⟨cs',g,k1,k2.trans h2,h3⟩,fnCaps.kept h hr⟩
 |[],_::_,h=>h.elim
 |_::_,[],h=>h.elim
theorem CvRep.kept {w w':World} {N N':Nat→Prop} {val val':Nat→Value} {st st':St} (k:Kept w w' N N') (h:Stays val val' st st') :
  ∀{x:CV} {v:Value},CvRep w N val st x v→CvRep w' N' val' st' x v
 | .int _ _,_,r=>r
 | .bool _,_,r=>r
 | .kb _,_,r=>r
 | .str _,_,r=>r
 | .nil,_,r=>r
 | .imm t l,_,r=>Imm.kept (t:=.sl t) k r
 | .own x n,v,r=>by
  obtain⟨hs,o,h1,h2,hn⟩:=r
  obtain⟨o',k1,k2,k3⟩:=h x o h1
  refine⟨hs,o',k1,?_,hn.compat k2⟩
  rcases h2 with rfl|rfl
  ·cases o' with
   |dead=>exact .inl rfl
   |sl _ _ _ _=>exact k2.elim
   |rc _=>exact k2.elim
  ·exact .inr k3.symm
 | .iptr t d c,v,r=>by
  obtain⟨b,o,es,h1,h2,h3,h4,h5⟩:=r
  exact⟨b,o,es,h1,fun hn=>h2 (k.more b h3 hn),XaS h3 k.size,fun i hi=>(k.cell (a:=⟨b,_,none⟩) h3 h2).trans (h4 i hi),h5.kept k⟩
 | .eptr x i c,v,r=>by
  obtain⟨hp,o,h1,h2⟩:=r
  obtain⟨o',k1,k2,k3⟩:=h x o h1
  refine⟨hp,o',k1,fun e t l kd ho=>?_⟩
  subst ho
  cases o with
  |sl e0 t0 l0 k0=>
   obtain⟨rfl,rfl,hl⟩:=k2
   obtain⟨p1,p2,p3⟩:=h2 _ _ _ _ rfl
   rw[k3]
   exact⟨p1,by rw[←hl];exact p2,p3⟩
  |rc _=>exact k2.elim
  |dead=>exact k2.elim
 | .ptr x c,v,r=>by
  obtain⟨cs,g,h1,h2,h3⟩:=r
  obtain⟨cs',k1,k2⟩:=h.rc h1
  exact⟨cs',g,k1,k2.trans h2,h3⟩
 | .view x i,v,r=>by
  obtain⟨hp,o,h1,h2⟩:=r
  obtain⟨o',k1,k2,k3⟩:=h x o h1
  refine⟨hp,o',k1,fun e t l kd ho=>?_⟩
  subst ho
  cases o with
  |sl e0 t0 l0 k0=>
   obtain⟨rfl,rfl,hl⟩:=k2
   obtain⟨p1,p2,p3,p4⟩:=h2 _ _ _ _ rfl
   rw[k3,←hl]
   exact⟨p1,p2,p3,p4⟩
  |rc _=>exact k2.elim
  |dead=>exact k2.elim
 | .fn f cap,v,r=>by
  obtain⟨vs,h1,h2⟩:=r
  exact⟨vs,h1,h2.kept h⟩
 | .skip,_,r=>r
 | .undef,_,_=>trivial
theorem All2.mono {α β:Type} {R R':α→β→Prop} (h:∀{a b},R a b→R' a b):∀{l:List α} {m:List β},All2 R l m→All2 R' l m
 |[],[],_=>trivial
 |_::_,_::_,⟨h1,h2⟩=>⟨h h1,All2.mono h h2⟩
 |[],_::_,h=>h.elim
 |_::_,[],h=>h.elim
theorem All2.length {α β:Type} {R:α→β→Prop}:∀{l:List α} {m:List β},All2 R l m→l.length=m.length
 |[],[],_=>rfl
 |_::_,_::_,⟨_,h2⟩=>congrArg (· + 1) (All2.length h2)
 |[],_::_,h=>h.elim
 |_::_,[],h=>h.elim
theorem All2.append {α β:Type} {R:α→β→Prop}:∀{l l':List α} {m m':List β},All2 R l m→All2 R l' m'→All2 R (l++l') (m++m')
 |[],_,[],_,_,h=>h
 |_::_,_,_::_,_,⟨h1,h2⟩,h=>⟨h1,All2.append h2 h⟩
 |[],_,_::_,_,h,_=>h.elim
 |_::_,_,[],_,h,_=>h.elim
theorem All2.take {α β:Type} {R:α→β→Prop}:∀(n:Nat) {l:List α} {m:List β},All2 R l m→All2 R (l.take n) (m.take n)
 |0,_,_,_=>trivial
 |_+1,[],[],_=>trivial
 |n+1,_::_,_::_,⟨h1,h2⟩=>⟨h1,All2.take n h2⟩
 |_+1,[],_::_,h=>h.elim
 |_+1,_::_,[],h=>h.elim
theorem All2.drop {α β:Type} {R:α→β→Prop}:∀(n:Nat) {l:List α} {m:List β},All2 R l m→All2 R (l.drop n) (m.drop n)
 |0,_,_,h=>h
 |_+1,[],[],_=>trivial
 |n+1,_::_,_::_,⟨_,h2⟩=>All2.drop n h2
 |_+1,[],_::_,h=>h.elim
 |_+1,_::_,[],h=>h.elim
theorem All2.get {α β:Type} {R:α→β→Prop}:∀{l:List α} {m:List β},All2 R l m→∀{i:Nat} {a:α},l[i]? = some a→∃b,m[i]? = some b∧R a b
 |[],[],_,_,_,h=>by simp at h
 |a::l,b::m,⟨h1,h2⟩,0,a',h=>by simp at h;subst h;exact⟨b,rfl,h1⟩
 |a::l,b::m,⟨h1,h2⟩,i+1,a',h=>by
  obtain⟨b',k1,k2⟩:=All2.get h2 (i:=i) (by simpa using h)
  exact⟨b',by simpa using k1,k2⟩
 |[],_::_,h,_,_,_=>h.elim
 |_::_,[],h,_,_,_=>h.elim
theorem Av1.kept {w w':World} {N N':Nat→Prop} {val val':Nat→Value} {st st':St} (k:Kept w w' N N') (h:Stays val val' st st') :
  ∀{x:AV} {v:Value},Av1 w N val st x v→Av1 w' N' val' st' x v
 | .c _,_,r=>CvRep.kept k h r
 | .agg _,_,⟨vs,h1,h2⟩=>⟨vs,h1,h2.mono (CvRep.kept k h)⟩
 | .tup _,_,r=>r.elim
theorem AvRep.kept {w w':World} {N N':Nat→Prop} {val val':Nat→Value} {st st':St} (k:Kept w w' N N') (h:Stays val val' st st') :
  ∀{x:AV} {v:Value},AvRep w N val st x v→AvRep w' N' val' st' x v
 | .c _,_,r=>CvRep.kept k h r
 | .agg _,_,⟨vs,h1,h2⟩=>⟨vs,h1,h2.mono (CvRep.kept k h)⟩
 | .tup _,_,⟨vs,h1,h2⟩=>⟨vs,h1,h2.mono (Av1.kept k h)⟩
theorem ObRep.kept {w w':World} {N N':Nat→Prop} {val val':Nat→Value} {st st':St} (k:Kept w w' N N') (h:Stays val val' st st')
  {o:Ob} {v:Value} {F:List Nat} (hF:∀b∈F,w'.heap[b]? = w.heap[b]?) (r:ObRep w N val st o v F):ObRep w' N' val' st' o v F:=by
 match o with
 | .sl e t l .shallow=>
  obtain⟨xs,h1,h2,h3⟩:=r
  refine⟨xs,⟨h1.1,?_⟩,h2,fun j hj=>(h3 j hj).kept k⟩
  rcases h1.2 with hn|⟨g,cap,cur,rfl,hb,hg,rest⟩
  ·exact .inl hn
  ·exact .inr ⟨g,cap,cur,rfl,hb,(hF g (by rw[h2];simp[Value.ownBlock])).trans hg,rest⟩
 | .sl _ t l .frozen=>exact⟨r.1,Imm.kept (t:=.sl t) k r.2.1,r.2.2⟩
 | .sl e t l (.deep kn hh)=>
  obtain⟨r0,e',xs,Fs,r1,r2,r3,r4⟩:=r
  refine⟨?_,e',xs,Fs,r1,ZAN r2 (fun b hb=>hF b ((r3.all b).2 (.inl hb))),r3,fun j hj=>(r4 j hj).kept (fun b hb=>hF b ((r3.all b).2 (.inr ⟨j,hj,hb⟩))) (fun q hq y hy=>?_)⟩
  ·cases hh with
   |no=>trivial
   | _=> rename_i i lo n base; exact⟨r0.1,fun q hq y hy=>by
     obtain⟨o,ho⟩:=r0.2 q hq y hy
     obtain⟨o',ho',_⟩:=h _ o ho
     exact⟨o',ho'⟩⟩
  ·cases hh with
   |no=>cases hy
   | _=>
    rename_i i lo n base
    simp only[Ze6]at hy
    split at hy
    ·obtain⟨o,ho⟩:=r0.2 q hq y hy
     obtain⟨o',_,_,ho'⟩:=h _ o ho
     exact ho'
    ·cases hy
 | .sl e t l (.mix kk)=>
  obtain⟨r0,xs,Fs,r2,r3,r4,r5⟩:=r
  exact⟨r0,xs,Fs,ZAN r2 (fun b hb=>hF b ((r3.all b).2 (.inl hb))),r3,fun j hj hjk=>(r4 j hj hjk).kept (fun b hb=>hF b ((r3.all b).2 (.inr ⟨j,hjk,hb⟩))) (fun q hq y hy=>by cases hy),fun j hj hjk=>(r5 j hj hjk).kept k⟩
 | .rc cs=>
  obtain⟨g,cur,e,h1,h2,h3,h4⟩:=r
  exact⟨g,cur,e,h1,h2,(hF g (by simp[h2])).trans h3,h4.mono (CvRep.kept k h)⟩
 | .dead=>exact r
structure Ctx where
 w0:World
 X:Nat→Prop
 A:Nat→Prop
 n:Nat
def ZI (X:Nat→Prop) (st:St) (fp:Nat→List Nat) (b:Nat):Prop:=X b∨∃x o,lk st x=some o∧b∈fp x
structure Fr (w0:World) (A:Nat→Prop) (w:World):Prop where
 os:w.os=w0.os
 tape:w.tape=w0.tape
 output:w.output=w0.output
 drawn:w0.drawn≤w.drawn
 size:w0.heap.size≤w.heap.size
 block:∀b,b<w0.heap.size→¬A b→w.heap[b]? = w0.heap[b]?
structure Objs (Γ:Ctx) (val:Nat→Value) (fp:Nat→List Nat) (st:St) (w:World):Prop where
 fr:Fr Γ.w0 Γ.A w
 rep:∀x o,lk st x=some o→ObRep w (ZI Γ.X st fp) val st o (val x) (fp x)
 own:∀x o,lk st x=some o→∀b∈fp x,b<w.heap.size∧¬Γ.X b∧(Γ.A b∨Γ.w0.heap.size≤b)
 apart:∀x y o o',x≠y→lk st x=some o→lk st y=some o'→∀b∈fp x,b∉fp y
 low:∀b,Γ.X b→b < Γ.w0.heap.size
structure Sim (Γ:Ctx) (val:Nat→Value) (fp:Nat→List Nat) (ρ:Env) (st:St) (a:Act) (w:World):Prop extends Objs Γ val fp st w where
 defers:a.defers=[]
 size:a.tmps.size=Γ.n
 env:∀t,AvRep w (ZI Γ.X st fp) val st (ρ t) (a.tmps.getD t undef)
structure Step (Γ:Ctx) (val val':Nat→Value) (fp fp':Nat→List Nat) (st st':St) (w w':World):Prop where
 objs:Objs Γ val' fp' st' w'
 kept:Kept w w' (ZI Γ.X st fp) (ZI Γ.X st' fp')
 stays:Stays val val' st st'
theorem Objs.step {Γ:Ctx} {val val':Nat→Value} {fp fp':Nat→List Nat} {st st':St} {w w':World} (h:Objs Γ val fp st w) (S:Nat→Prop)
  (hos:w'.os=w.os) (htape:w'.tape=w.tape) (hout':w'.output=w.output) (hdr:w.drawn≤w'.drawn) (hs:w.heap.size≤w'.heap.size)
  (hkeep:∀b,b<w.heap.size→(∀x o,S x→lk st x=some o→b∉fp x)→w'.heap[b]? = w.heap[b]?)
  (hout:∀y o,lk st y=some o→¬S y→lk st' y=some o∧val' y=val y∧fp' y=fp y)
  (hin:∀y o,lk st y=some o→S y→∃o',lk st' y=some o'∧Compat o o'∧val' y=val y)
  (hfp:∀y o,lk st' y=some o→(lk st y=none∨S y)→∀b∈fp' y,b<w'.heap.size∧(b<w.heap.size→∃x o,S x∧lk st x=some o∧b∈fp x))
  (hdisj:∀y z o o',y≠z→lk st' y=some o→lk st' z=some o'→(lk st y=none∨S y)→(lk st z=none∨S z)→∀b∈fp' y,b∉fp' z)
  (hnew:Kept w w' (ZI Γ.X st fp) (ZI Γ.X st' fp')→Stays val val' st st'→∀y o,lk st' y=some o→(lk st y=none∨S y)→ObRep w' (ZI Γ.X st' fp') val' st' o (val' y) (fp' y)) :
  Step Γ val val' fp fp' st st' w w':=by
 classical
 have hstay:Stays val val' st st':=fun y o hy=>by
  by_cases hS:S y
  ·exact hin y o hy hS
  ·obtain⟨h1,h2,_⟩:=hout y o hy hS
   exact⟨o,h1,Compat.refl o,h2⟩
 have hw0:Γ.w0.heap.size≤w.heap.size:=h.fr.size
 have hmore:∀b,b<w.heap.size→ZI Γ.X st' fp' b→ZI Γ.X st fp b:=by
  rintro b hb (hX|⟨x,o,hx,hbx⟩)
  ·exact .inl hX
  ·by_cases hn:lk st x=none∨S x
   ·obtain⟨x',o',_,h1,h2⟩:=(hfp x o hx hn b hbx).2 hb
    exact .inr ⟨x',o',h1,h2⟩
   ·obtain⟨h1,h2⟩:=not_or.1 hn
    obtain⟨o0,h0⟩:=XbL.1 h1
    obtain⟨_,_,k3⟩:=hout x o0 h0 h2
    exact .inr ⟨x,o0,h0,by rw[←k3];exact hbx⟩
 have hkept:Kept w w' (ZI Γ.X st fp) (ZI Γ.X st' fp'):=⟨hs,fun b hb hn=>hkeep b hb (fun x o hx hl hbx=>hn (.inr ⟨x,o,hl,hbx⟩)),hmore⟩
 refine⟨⟨⟨hos.trans h.fr.os,htape.trans h.fr.tape,hout'.trans h.fr.output,XbO h.fr.drawn hdr,XbO hw0 hs,fun b hb hA=>?_⟩,fun x o hx=>?_,fun x o hx b hb=>?_,fun x y o o' hne hx hy b hb=>?_,h.low⟩,hkept,hstay⟩
 ·rw[hkeep b (by omega) (fun x o _ hl hbx=>by
   rcases(h.own x o hl b hbx).2.2 with h1|h1
   ·exact hA h1
   ·omega)]
  exact h.fr.block b hb hA
 ·by_cases hn:lk st x=none∨S x
  ·exact hnew hkept hstay x o hx hn
  ·obtain⟨h1,h2⟩:=not_or.1 hn
   obtain⟨o0,h0⟩:=XbL.1 h1
   obtain⟨k1,k2,k3⟩:=hout x o0 h0 h2
   have:o=o0:=by rw[k1]at hx;exact(Option.some.inj hx).symm
   subst this
   rw[k2,k3]
   refine ObRep.kept hkept hstay (fun b hb=>hkeep b (h.own x o h0 b hb).1 (fun z oz hz hlz hbz=>?_)) (h.rep x o h0)
   exact h.apart x z o oz (fun e=>h2 (e▸hz)) h0 hlz b hb hbz
 ·by_cases hn:lk st x=none∨S x
  ·obtain⟨k1,k2⟩:=hfp x o hx hn b hb
   refine⟨k1,?_⟩
   by_cases hlt:b<w.heap.size
   ·obtain⟨x',o',_,h1,h2⟩:=k2 hlt
    exact(h.own x' o' h1 b h2).2
   ·exact⟨fun hX=>hlt (XaS (h.low b hX) hw0),.inr (by omega)⟩
  ·obtain⟨h1,h2⟩:=not_or.1 hn
   obtain⟨o0,h0⟩:=XbL.1 h1
   obtain⟨_,_,k3⟩:=hout x o0 h0 h2
   rw[k3]at hb
   obtain⟨p1,p2⟩:=h.own x o0 h0 b hb
   exact⟨XaS p1 hs,p2⟩
 ·
  have old:∀z oz,lk st' z=some oz→¬(lk st z=none∨S z)→∃o0,lk st z=some o0∧¬S z∧fp' z=fp z:=fun z oz _ hn=>by
   obtain⟨h1,h2⟩:=not_or.1 hn
   obtain⟨o0,h0⟩:=XbL.1 h1
   exact⟨o0,h0,h2,(hout z o0 h0 h2).2.2⟩
  by_cases hnx:lk st x=none∨S x
  ·by_cases hny:lk st y=none∨S y
   ·exact hdisj x y o o' hne hx hy hnx hny b hb
   ·obtain⟨oy,hy0,hyS,hfy⟩:=old y o' hy hny
    rw[hfy]
    intro hby
    have hlt:=(h.own y oy hy0 b hby).1
    obtain⟨z,oz,hz,hlz,hbz⟩:=(hfp x o hx hnx b hb).2 hlt
    exact h.apart z y oz oy (fun e=>hyS (e▸hz)) hlz hy0 b hbz hby
  ·obtain⟨ox,hx0,hxS,hfx⟩:=old x o hx hnx
   rw[hfx]at hb
   by_cases hny:lk st y=none∨S y
   ·intro hby
    have hlt:=(h.own x ox hx0 b hb).1
    obtain⟨z,oz,hz,hlz,hbz⟩:=(hfp y o' hy hny b hby).2 hlt
    exact h.apart z x oz ox (fun e=>hxS (e▸hz)) hlz hx0 b hbz hb
   ·obtain⟨oy,hy0,hyS,hfy⟩:=old y o' hy hny
    rw[hfy]
    exact h.apart x y ox oy hne hx0 hy0 b hb
theorem Sim.step {Γ:Ctx} {val val':Nat→Value} {fp fp':Nat→List Nat} {ρ:Env} {st st':St} {a:Act} {w w':World} (h:Sim Γ val fp ρ st a w) (s:Step Γ val val' fp fp' st st' w w') :
  Sim Γ val' fp' ρ st' a w':=
 { toObjs:=s.objs,defers:=h.defers,size:=h.size,env:=fun t=>(h.env t).kept s.kept s.stays }
theorem Zjp (l:Array Value) (d t:Nat) (v u:Value):(l.setIfInBounds d v).getD t u=if d=t∧t<l.size then v else l.getD t u:=by
 simp only[Array.getD_eq_getD_getElem?,Array.getElem?_setIfInBounds]
 by_cases h1:d=t
 ·subst h1
  by_cases h2:d<l.size
  ·simp[h2]
  ·simp[h2]
 ·simp[h1]
theorem ZK6 (ρ:Env) (d:Nat) (v:AV) (t:Nat):upd ρ d v t=if t=d then v else ρ t:=by
 unfold upd
 cases h:Nat.beq t d
 ·rw[if_neg (fun e=>by rw[ZR.2 e]at h;cases h)]
 ·rw[if_pos (ZR.1 h)]
theorem Sim.put {Γ:Ctx} {val:Nat→Value} {fp:Nat→List Nat} {ρ:Env} {st:St} {a:Act} {w:World} (h:Sim Γ val fp ρ st a w) {d:Option Nat} (hd:Zzn Γ.n d=true) {x:AV} {v:Value}
  (hx:AvRep w (ZI Γ.X st fp) val st x v):Sim Γ val fp (Zp7 ρ d x) st (a.put d v) w:=by
 cases d with
 |none=>exact h
 |some d=>
  have hd':d < Γ.n:=by
   simp only[Zzn]at hd
   exact of_decide_eq_true (by simpa [Nat.blt_eq]using hd)
  refine { toObjs:=h.toObjs,defers:=h.defers,size:=by simpa [Act.put]using h.size,env:=fun t=>?_ }
  simp only[Zp7,Act.put]
  rw[ZK6,Zjp]
  by_cases e:t=d
  ·subst e;rw[if_pos rfl,if_pos ⟨rfl,by rw[h.size];exact hd'⟩];exact hx
  ·rw[if_neg e,if_neg (fun k=>e k.1.symm)];exact h.env t
theorem Sim.upd_env {Γ:Ctx} {val:Nat→Value} {fp:Nat→List Nat} {ρ:Env} {st:St} {a:Act} {w:World} (h:Sim Γ val fp ρ st a w) {d:Nat} {x:AV}
  (hx:AvRep w (ZI Γ.X st fp) val st x (a.tmps.getD d undef)):Sim Γ val fp (upd ρ d x) st a w:=by
 refine { toObjs:=h.toObjs,defers:=h.defers,size:=h.size,env:=fun t=>?_ }
 rw[ZK6]
 by_cases e:t=d
 ·subst e;rw[if_pos rfl];exact hx
 ·rw[if_neg e];exact h.env t
end Go.AE
namespace Go.AE
open Go
def Zpb:Ty→List Value
 | .int k=>[.int k 0]
 | .bool=>[.bool false]
 | .str=>[.string ⟨#[]⟩]
 | .sl _=>[.slice none 0 0]
 | .pair a b=>Zpb a++Zpb b
def ZB3:Ty→TypeDesc→Prop
 | .int k,d=>d = .int k
 | .bool,d=>d = .bool
 | .str,d=>d = .string
 | .sl _,d=>∃e,d = .slice e
 | .pair _ _,d=>(∃fs,d = .struct fs)∨∃n e,d = .array n e
def fine:Ty→Bool
 | .int k=>same k k
 | .sl t=>fine t
 | .pair a b=>fine a&&fine b
 |_=>true
structure ZbB (P:Program) (y:Tys):Prop where
 ty:∀id t,lk y.ty id=some t→∃i z d,P.info? id=some i∧i.size=t.size∧i.zero=some z∧z.cells.toList=Zpb t∧i.bytes≤256∧P.underlying id=some d∧ZB3 t d∧fine t=true
 ag:∀id b,lk y.ag id=some b→∃d,P.underlying id=some d∧(match d with | .struct _=>true | .array _ _=>true|_=>false)=b
 el:∀s e,lk y.el s=some e→P.underlying s=some (.slice e)
 eq:∀t,y.eq.any (Nat.beq t)=true→∀(X Y:Operand) (a b c d:Int) (w:World),(do eqGuard .eql t X Y (.agg #[.int .i64 a,.int .i64 b]) (.agg #[.int .i64 c,.int .i64 d]);binOp .eql t (.agg #[.int .i64 a,.int .i64 b]) (.agg #[.int .i64 c,.int .i64 d]):Sem Value).run P w = .ok (.bool (a==c&&b==d)) w ∧
  (do eqGuard .neq t X Y (.agg #[.int .i64 a,.int .i64 b]) (.agg #[.int .i64 c,.int .i64 d]);binOp .neq t (.agg #[.int .i64 a,.int .i64 b]) (.agg #[.int .i64 c,.int .i64 d]):Sem Value).run P w = .ok (.bool (!(a==c&&b==d))) w
 fl:∀s l,lk y.fl s=some l→∃fs,P.underlying s=some (.struct fs)∧fs.size=l.length∧∀(i off:Nat) (ty:TypeId),(l:List (Nat×TypeId))[i]? = some (off,ty)→∃f:Field,fs[i]? = some f∧f.offset=off∧f.type=ty∧∃j,P.info? ty=some j∧j.size≠0
 ar:∀t m e,lk y.ar t=some (m,e)→P.underlying t=some (.array m e)∧lk y.ty e=some (.int .i64)∧∃i z,P.info? t=some i∧i.zero=some z∧z.cells.toList=List.replicate m (.int .i64 0)
 fnT:∀t,y.fnT.any (Nat.beq t)=true→(∃i z,P.info? t=some i∧i.size=1∧i.zero=some z∧z.cells.size=1)∧∃d,P.underlying t=some d∧(match d with | .struct _=>true | .array _ _=>true|_=>false)=false
section
variable {P:Program} {C:Cfg} {Γ:Ctx} {val:Nat→Value} {fp:Nat→List Nat} {ρ:Env} {st:St} {a:Act} {w:World} {o:Oper} {K:Act→World→Prop} {Q:Exit→Act→World→Prop}
theorem Zkq {s:Sem Value} {v:Value} {w':World} (hs:execOp a.eval o=(do pure (.value (←s)))) (hr:s.run P w = .ok v w') (hK:K (a.put o.dst v) w'):o.wp P a w K Q:=by
 unfold Oper.wp
 rw[hs]
 simp only[Sem.run_bind,hr,Result.andThen_ok,Sem.run_pure]
 exact hK
theorem ZNn {v:Value} (hs:execOp a.eval o=pure (.value v)) (hK:K (a.put o.dst v) w):o.wp P a w K Q:=by
 unfold Oper.wp
 rw[hs]
 exact hK
def OpY (P:Program) (o:Oper) (a:Act) (S:World→Prop) (w:World) (K:Act→World→Prop):Prop:=
 ∃v,(∀w1,S w1→(execOp a.eval o).run P w1 = .ok (.value v) w1)∧K (a.put o.dst v) w
abbrev OpT (P:Program) (o:Oper) (a:Act) (w:World) (K:Act→World→Prop):Prop:=OpY P o a (fun _=>True) w K
theorem OpY.wp {S:World→Prop} (h:OpY P o a S w K) (hS:S w):o.wp P a w K Q:=by
 obtain⟨v,h1,h2⟩:=h
 unfold Oper.wp
 rw[h1 w hS]
 exact h2
theorem Zmu {S:World→Prop} {s:Sem Value} {v:Value} (hs:execOp a.eval o=(do pure (.value (←s)))) (hr:∀w1,S w1→s.run P w1 = .ok v w1) (hK:K (a.put o.dst v) w):OpY P o a S w K:=
 ⟨v,fun w1 h1=>by rw[hs];simp only[Sem.run_bind,hr w1 h1,Result.andThen_ok,Sem.run_pure],hK⟩
theorem ZHs {S:World→Prop} {v:Value} (hs:execOp a.eval o=pure (.value v)) (hK:K (a.put o.dst v) w):OpY P o a S w K:=⟨v,fun w1 _=>by rw[hs];rfl,hK⟩
theorem Zpz {s:Sem Unit} {w':World} (hs:execOp a.eval o=(do s;pure .skip)) (hr:s.run P w = .ok () w') (hK:K (a.put o.dst undef) w'):o.wp P a w K Q:=by
 unfold Oper.wp
 rw[hs]
 simp only[Sem.run_bind,hr,Result.andThen_ok,Sem.run_pure]
 exact hK
theorem Zeq {a b:Nat} (h:Nat.blt a b=true):a<b:=by simpa [Nat.blt_eq]using h
theorem ZKw:∀{k:IntKind} {n:Int},ZNB k n=true→inR k n
 | .i64,.ofNat n,h=>by have h:n<_:=Zeq h;simp only[inR,Int.ofNat_eq_natCast];omega
 | .i64,.negSucc n,h=>by have h:n<_:=Zeq h;simp only[inR];omega
 | .u8,.ofNat n,h=>by have h:n<_:=Zeq h;simp only[inR,Int.ofNat_eq_natCast];omega
 | .u64,.ofNat n,h=>by have h:n<_:=Zeq h;simp only[inR,Int.ofNat_eq_natCast];omega
theorem ZKf {N:Nat→Prop} (v:Value):CvRep w N val st (ZCS v) v:=by
 unfold ZCS
 split
 ·rename_i k n
  split
  ·rename_i h
   exact⟨rfl,ZKw h⟩
  ·trivial
 ·rfl
 ·rfl
 ·rename_i s;cases s;simp[CvRep]
 ·trivial
theorem ZU (h:Sim Γ val fp ρ st a w) (x:Operand):AvRep w (ZI Γ.X st fp) val st (ev1 ρ x) (a.eval x):=by
 cases x with
 |tmp t=>exact h.env t
 |const v=>exact ZKf v
 |func f=>exact⟨#[],rfl,trivial⟩
 |global g=>trivial
theorem Zzv:∀{k k':IntKind},same k k'=true→k=k'
 | .i64,.i64,_=>rfl
 | .u8,.u8,_=>rfl
 | .u64,.u64,_=>rfl
theorem ZnB:∀{k:IntKind} {n:Int},inR k n→k.wrap n=n
 | .i64,n,h=>IntWalk.i64_in n h
 | .u8,n,h=>IntWalk.u8_in n h
 | .u64,n,h=>IntWalk.u64_in n h
 | .i8,_,h=>h.elim
 | .i16,_,h=>h.elim
 | .i32,_,h=>h.elim
 | .u16,_,h=>h.elim
 | .u32,_,h=>h.elim
def ZOM (e:Eff) (k:AV→St→Prop) (av:AV) (st':St):Prop:=ZbD e k→k av st'
theorem Zv2 {N:Nat→Prop} {x:AV} {b:Bool} {v:Value} (hb:Zoh x=some b) (h:AvRep w N val st x v):v = .bool b:=by
 cases x with
 |c x=>cases x<;>simp[Zoh]at hb<;>(subst hb;exact h)
 |agg l=>simp[Zoh]at hb
 |tup l=>simp[Zoh]at hb
theorem ZqJ {N:Nat→Prop} {k:IntKind} {n:Int} {v:Value} (h:AvRep w N val st (.c (.int k n)) v):v = .int k n∧inR k n:=h
theorem ZMD {a b:Int} (ha:0≤a):a.tdiv b=a / b:=Int.tdiv_eq_ediv_of_nonneg ha
theorem ZKm {k:IntKind} {a b:Int} (h:inR k a) (hb:1≤b) (ha:0≤a):inR k (a / b):=by
 have h1:0≤a / b:=Int.ediv_nonneg ha (by omega)
 have h2:a / b≤a:=Int.ediv_le_self _ ha
 cases k<;>simp only[inR]at h ⊢ <;> omega
theorem ZNF {k:IntKind} {a b:Int} (h:inR k a) (hb:1≤b) (ha:0≤a):inR k (a % b):=by
 have h1:0≤a % b:=Int.emod_nonneg _ (by omega)
 have h2:a % b≤a:=by
  rcases Int.lt_or_le a b with hl|hl
  ·rw[Int.emod_eq_of_lt ha hl];exact Xat _
  ·have:=XbG a (show 0<b by omega);omega
 cases k<;>simp only[inR]at h ⊢ <;> omega
theorem ZfB {N:Nat→Prop} {k:IntKind} {n:Int} {v:Value} (h:inR k n) (e:v = .int k n):AvRep w N val st (.c (.int k n)) v:=And.intro e h
theorem Zpv {N:Nat→Prop} {b:Bool} {v:Value} (e:v = .bool b):AvRep w N val st (.c (.bool b)) v:=e
theorem ZNo {a b:Int} (ha:inR .i64 a) (hb:inR .i64 b) (h1:0≤a) (h2:0≤b):inR .i64 ((a.toNat ^^^ b.toNat:Nat):Int)∧(BitVec.ofInt IntKind.i64.bits a ^^^ BitVec.ofInt IntKind.i64.bits b).toNat=a.toNat ^^^ b.toNat:=by
 simp only[inR]at ha hb ⊢
 have hx:a.toNat ^^^ b.toNat<2^63:=Nat.xor_lt_two_pow (by omega) (by omega)
 have e:∀n:Int,0≤n→n≤9223372036854775807→(BitVec.ofInt IntKind.i64.bits n).toNat=n.toNat:=fun n q1 q2=>by
  show (BitVec.ofInt 64 n).toNat=_
  obtain⟨A,rfl⟩:=Int.eq_ofNat_of_zero_le q1
  rw[BitVec.ofInt_natCast,BitVec.toNat_ofNat]
  rw[Nat.mod_eq_of_lt (by omega)]
  rfl
 refine⟨⟨by omega,by omega⟩,?_⟩
 rw[BitVec.toNat_xor,e a h1 ha.2,e b h2 hb.2]
theorem ZMU {a b:Int} (ha:inR .i64 a) (hb:inR .i64 b) (h1:0≤a) (h2:0≤b):inR .i64 ((a.toNat &&& b.toNat:Nat):Int)∧(BitVec.ofInt IntKind.i64.bits a &&& BitVec.ofInt IntKind.i64.bits b).toNat=a.toNat &&& b.toNat:=by
 simp only[inR]at ha hb ⊢
 have hx:a.toNat &&& b.toNat≤a.toNat:=Nat.and_le_left
 have e:∀n:Int,0≤n→n≤9223372036854775807→(BitVec.ofInt IntKind.i64.bits n).toNat=n.toNat:=fun n q1 q2=>by
  show (BitVec.ofInt 64 n).toNat=_
  obtain⟨A,rfl⟩:=Int.eq_ofNat_of_zero_le q1
  rw[BitVec.ofInt_natCast,BitVec.toNat_ofNat]
  rw[Nat.mod_eq_of_lt (by omega)]
  rfl
 refine⟨⟨by omega,by omega⟩,?_⟩
 rw[BitVec.toNat_and,e a h1 ha.2,e b h2 hb.2]
theorem ZG6 (n:Int):inR .i64 (w64 n):=by
 unfold w64
 rw[IntKind.wrap_i64]
 simp only[inR]
 omega
theorem ZMH {N:Nat→Prop} {op:BinOp} {t:TypeId} {x y:AV} {u v:Value} {k:AV→St→Prop} {X Y:Operand}
  (hx:AvRep w N val st x u) (hy:AvRep w N val st y v) (he:ZbD (ZFR op x y st) k) :
  ∃av r,(∀w1,(do eqGuard op t X Y u v;binOp op t u v:Sem Value).run P w1 = .ok r w1)∧AvRep w N val st av r∧k av st:=by
 unfold ZFR at he
 split at he
 ·rename_i a b
  obtain⟨rfl,ha⟩:=ZqJ hx
  obtain⟨rfl,hb⟩:=ZqJ hy
  have e:∀n,IntKind.i64.wrap n=w64 n:=fun n=>by unfold w64;rfl
  split at he
  ·exact⟨.c (.int .i64 (w64 (a+b))),.int .i64 (IntKind.i64.wrap (a+b)),fun w1=>by simp[go_sem,Op.intArith],ZfB (ZG6 _) (by rw[e]),he⟩
  ·exact⟨.c (.int .i64 (w64 (a - b))),.int .i64 (IntKind.i64.wrap (a - b)),fun w1=>by simp[go_sem,Op.intArith],ZfB (ZG6 _) (by rw[e]),he⟩
  ·exact⟨.c (.int .i64 (w64 (a*b))),.int .i64 (IntKind.i64.wrap (a*b)),fun w1=>by simp[go_sem,Op.intArith],ZfB (ZG6 _) (by rw[e]),he⟩
  ·exact he.elim
 ·exact he.elim
theorem ZH8 {N:Nat→Prop} {op:BinOp} {t:TypeId} {x y:AV} {u v:Value} {k:AV→St→Prop} {X Y:Operand}
  (ht:∀b,Zoh x=some b→P.underlying t=some .bool)
  (hx:AvRep w N val st x u) (hy:AvRep w N val st y v) (he:ZbD (ZE9 op x y st) k) :
  ∃av r,(∀w1,(do eqGuard op t X Y u v;binOp op t u v:Sem Value).run P w1 = .ok r w1)∧AvRep w N val st av r∧k av st:=by
 unfold ZE9 at he
 split at he
 ·rename_i k1 a k2 b
  obtain⟨rfl,ha⟩:=ZqJ hx
  obtain⟨rfl,hb⟩:=ZqJ hy
  split at he
  ·rename_i hs
   have hs:=Zzv hs
   subst hs
   split at he
   ·exact⟨.c (.int k1 (a+b)),.int k1 (k1.wrap (a+b)),fun w1=>by simp[go_sem,Op.intArith],ZfB he.1 (by rw[ZnB he.1]),he.2⟩
   ·exact⟨.c (.int k1 (a - b)),.int k1 (k1.wrap (a - b)),fun w1=>by simp[go_sem,Op.intArith],ZfB he.1 (by rw[ZnB he.1]),he.2⟩
   ·exact⟨.c (.int k1 (a*b)),.int k1 (k1.wrap (a*b)),fun w1=>by simp[go_sem,Op.intArith],ZfB he.1 (by rw[ZnB he.1]),he.2⟩
   ·exact⟨.c (.bool (decide (a<b))),.bool (decide (a<b)),fun w1=>by simp[go_sem],Zpv rfl,he⟩
   ·exact⟨.c (.bool (decide (a≤b))),.bool (decide (a≤b)),fun w1=>by simp[go_sem],Zpv rfl,he⟩
   ·exact⟨.c (.bool (decide (b<a))),.bool (decide (b<a)),fun w1=>by simp[go_sem],Zpv rfl,he⟩
   ·exact⟨.c (.bool (decide (b≤a))),.bool (decide (b≤a)),fun w1=>by simp[go_sem],Zpv rfl,he⟩
   ·exact⟨.c (.bool (a==b)),.bool (a==b),fun w1=>by simp[go_sem],Zpv rfl,he⟩
   ·exact⟨.c (.bool (a != b)),.bool (a != b),fun w1=>by simp[go_sem],Zpv rfl,he⟩
   ·obtain⟨⟨h1,h2⟩,hk⟩:=he
    have hne:b≠0:=by omega
    have hi:=ZKm ha h1 h2
    exact⟨.c (.int k1 (a / b)),.int k1 (k1.wrap (a.tdiv b)),fun w1=>by simp[go_sem,Op.intDiv,hne],ZfB hi (by rw[ZMD h2,ZnB hi]),hk⟩
   ·obtain⟨⟨h1,h2⟩,hk⟩:=he
    have hne:b≠0:=by omega
    have hi:=ZNF ha h1 h2
    exact⟨.c (.int k1 (a % b)),.int k1 (a.tmod b),fun w1=>by simp[go_sem,Op.intDiv,hne],ZfB hi (by rw[Int.tmod_eq_emod_of_nonneg h2]),hk⟩
   ·split at he
    ·obtain⟨⟨h1,h2⟩,hk⟩:=he
     obtain⟨e1,e2⟩:=ZNo ha hb h1 h2
     exact⟨.c (.int .i64 ((a.toNat ^^^ b.toNat:Nat):Int)),.int .i64 (IntKind.i64.wrap ((BitVec.ofInt IntKind.i64.bits a ^^^ BitVec.ofInt IntKind.i64.bits b).toNat:Int)),fun w1=>by simp[go_sem,Op.intBits],ZfB e1 (by rw[e2,ZnB e1]),hk⟩
    ·exact he.elim
   ·split at he
    ·obtain⟨⟨h1,h2⟩,hk⟩:=he
     obtain⟨e1,e2⟩:=ZMU ha hb h1 h2
     exact⟨.c (.int .i64 ((a.toNat &&& b.toNat:Nat):Int)),.int .i64 (IntKind.i64.wrap ((BitVec.ofInt IntKind.i64.bits a &&& BitVec.ofInt IntKind.i64.bits b).toNat:Int)),fun w1=>by simp[go_sem,Op.intBits],ZfB e1 (by rw[e2,ZnB e1]),hk⟩
    ·exact he.elim
   ·split at he
    ·obtain⟨⟨⟨h1,h2⟩,h3⟩,hk⟩:=he
     have hneg:¬b<0:=by omega
     have hm:min b.toNat 64=b.toNat:=by omega
     exact⟨.c (.int .i64 (a*2^b.toNat)),.int .i64 (IntKind.i64.wrap (a*2^min b.toNat 64)),fun w1=>by simp[go_sem,hm],ZfB h3 (by rw[hm,ZnB h3]),hk⟩
    ·exact he.elim
   ·split at he
    ·obtain⟨⟨⟨h1,h2⟩,h3⟩,hk⟩:=he
     have hneg:¬b<0:=by omega
     have hm:min b.toNat 64=b.toNat:=by omega
     have hp:(1:Int)≤2^b.toNat:=by
      have:=Int.pow_pos (n:=2) (m:=b.toNat) (by omega)
      omega
     have hi:=ZKm ha hp h3
     exact⟨.c (.int .i64 (a / 2^b.toNat)),.int .i64 (a.fdiv (2^min b.toNat 64)),fun w1=>by simp[go_sem,hm];rw[Int.fdiv_eq_ediv_of_nonneg _ (by omega)],ZfB hi (by rw[hm,Int.fdiv_eq_ediv_of_nonneg _ (by omega)]),hk⟩
    ·exact he.elim
   ·exact he.elim
  ·exact he.elim
 ·split at he
  ·rename_i a b h1 h2
   have hu:=ht _ h1
   obtain rfl:=Zv2 h1 hx
   obtain rfl:=Zv2 h2 hy
   split at he
   ·exact⟨.c (.bool (a==b)),.bool (a==b),fun w1=>by simp[go_sem,run_eql_bool w1 t a b hu],Zpv rfl,he⟩
   ·exact⟨.c (.bool (a != b)),.bool (a != b),fun w1=>by simp[go_sem,run_neq_bool w1 t a b hu];cases a<;>cases b<;>rfl,Zpv rfl,he⟩
   ·exact he.elim
  ·exact he.elim
theorem Znc {N:Nat→Prop}:∀{t:Ty} {d:t.den} {es:List Value},Imm w N t d es→All2 (CvRep w N val st) (Zlr t d) es
 | .int k,n,es,h=>by
  obtain⟨rfl,h⟩:=h
  exact⟨⟨rfl,h⟩,trivial⟩
 | .bool,b,es,h=>by
  rw[show es=_ from h]
  exact⟨rfl,trivial⟩
 | .str,s,es,h=>by
  rw[show es=_ from h]
  exact⟨rfl,trivial⟩
 | .sl t,l,es,h=>by
  obtain⟨a,cap,rfl,h'⟩:=h
  exact⟨⟨a,cap,rfl,h'⟩,trivial⟩
 | .pair a b,d,es,h=>by
  obtain⟨c1,c2,rfl,h1,h2⟩:=h
  exact(Znc h1).append (Znc h2)
theorem ZNA {N:Nat→Prop} {t:Ty} {l:List t.den} {v:Value} (h:Imm w N (.sl t) l [v]) {i:Nat} (hi:i<l.length) :
  ∃b o cap es,v = .slice (some ⟨b,o,none⟩) l.length cap∧¬N b∧b<w.heap.size∧(∀c,c<t.size→w.cell? ⟨b,o+i*t.size+c,none⟩=es[c]?)∧Imm w N t l[i] es:=by
 obtain⟨a,cap,hv,_,_,h3⟩:=h
 obtain⟨b,o,rfl,hn,hb,he⟩:=h3 (by omega)
 obtain⟨es,h4,h5⟩:=he i hi
 exact⟨b,o,cap,es,by simpa using hv,hn,hb,h4,h5⟩
theorem Zzp {N:Nat→Prop} {t:Ty} {l:List t.den} {v:Value} (h:Imm w N (.sl t) l [v]):∃a cap,v = .slice a l.length cap∧l.length≤cap∧cap≤maxLen:=by
 obtain⟨a,cap,hv,h1,h2,_⟩:=h
 exact⟨a,cap,by simpa using hv,h1,h2⟩
theorem ZKA {n:Nat} (h:n≤maxLen):inR .i64 (n:Int):=by
 simp only[inR,maxLen]at *
 omega
theorem ZiV {n:Nat} {ag:Bool} {l:List CV} {v:AV} (h:ZpG n ag l=some v):l.length=n∧((ag=true∧v = .agg l)∨(ag=false∧∃x,l=[x]∧v = .c x)):=by
 unfold ZpG at h
 split at h
 ·rename_i h1
  have h1:=ZR.1 h1
  refine⟨h1,?_⟩
  cases ag
  ·dsimp only at h
   split at h
   ·exact .inr ⟨rfl,_,rfl,by simpa using h.symm⟩
   ·cases h
  ·exact .inl ⟨rfl,by simpa using h.symm⟩
 ·cases h
theorem ZAa (hT:ZbB P C.y) {ty:TypeId} {t:Ty} {ag:Bool} (h1:lk C.y.ty ty=some t) (h2:lk C.y.ag ty=some ag) {b o:Nat} {vs:List Value} {cs:List CV} {N:Nat→Prop} {av:AV}
  (hav:ZpG t.size ag cs=some av) (hr:All2 (CvRep w N val st) cs vs) (hc0:∀i,i<t.size→w.cell? ⟨b,o+i,none⟩=vs[i]?) :
  ∃v,(∀w1:World,(∀i,i<t.size→w1.cell? ⟨b,o+i,none⟩=vs[i]?)→(Instr.loadAt ty (.pointer (some ⟨b,o,none⟩))).run P w1 = .ok v w1)∧AvRep w N val st av v:=by
 obtain⟨i,z,d,hi,hsz,_,_,_,hu,_⟩:=hT.ty ty t h1
 obtain⟨d',hu',hag⟩:=hT.ag ty ag h2
 rw[hu]at hu'
 obtain rfl:=Option.some.inj hu'
 obtain⟨hl,hcase⟩:=ZiV hav
 have hlen:vs.length=t.size:=by rw[←hr.length];exact hl
 have hisagg:∀w1,(isAgg ty).run P w1 = .ok ag w1:=fun w1=>by
  unfold isAgg
  simp only[Sem.run_bind,run_underlying hu,Result.andThen_ok]
  cases d<;>simp at hag<;>subst hag<;>rfl
 have hsize:∀w1,(sizeOf ty).run P w1 = .ok t.size w1:=fun w1=>by simp[sizeOf,typeInfo,hi,hsz]
 rcases hcase with⟨rfl,rfl⟩|⟨rfl,x,rfl,rfl⟩
 ·refine⟨.agg vs.toArray,fun w1 hc=>?_,vs.toArray,rfl,by simpa using hr⟩
  have hload:=run_loadCells_list (P:=P) w1 ⟨b,o,none⟩ vs (fun j v hj=>by
   have hj':j<vs.length:=(Xbn.1 hj).1
   rw[Addr.add_lit,hc j (by omega)];exact hj)
  rw[hlen]at hload
  simp[Instr.loadAt,Instr.sureAddr,loadVar,hisagg,hsize,hload]
 ·match vs,hr with
  |[v],hr=>
   refine⟨v,fun w1 hc=>?_,hr.1⟩
   have h0:=hc 0 (t.size_pos)
   simp at h0
   simp[Instr.loadAt,Instr.sureAddr,loadVar,hisagg,h0]
theorem ZuV (hT:ZbB P C.y) {ty:TypeId} {t:Ty} {ag:Bool} (h1:lk C.y.ty ty=some t) (h2:lk C.y.ag ty=some ag) {b o:Nat} {vs:List Value} {cs:List CV} {N:Nat→Prop} {av:AV}
  (hav:ZpG t.size ag cs=some av) (hr:All2 (CvRep w N val st) cs vs) (hc:∀i,i<t.size→w.cell? ⟨b,o+i,none⟩=vs[i]?) :
  ∃v,(Instr.loadAt ty (.pointer (some ⟨b,o,none⟩))).run P w = .ok v w∧AvRep w N val st av v:=by
 obtain⟨v,h3,h4⟩:=ZAa (P:=P) hT h1 h2 hav hr hc
 exact⟨v,h3 w hc,h4⟩
end
end Go.AE
namespace Go.AE
open Go
section
variable {P:Program} {C:Cfg} {Γ:Ctx} {val:Nat→Value} {fp:Nat→List Nat} {ρ:Env} {st:St} {a:Act} {w:World} {o:Oper} {k:AV→St→Prop} {K:Act→World→Prop} {Q:Exit→Act→World→Prop}
def Fol (Γ:Ctx) (val:Nat→Value) (fp:Nat→List Nat) (st:St) (a:Act) (w:World) (o:Oper) (k:AV→St→Prop) (K:Act→World→Prop):Prop:=
 ∀av st' v val' fp' w',k av st'→Step Γ val val' fp fp' st st' w w'→AvRep w' (ZI Γ.X st' fp') val' st' av v→K (a.put o.dst v) w'
def FolS (Γ:Ctx) (val:Nat→Value) (fp:Nat→List Nat) (st:St) (a:Act) (w:World) (o:Oper) (k:AV→St→Prop) (K:Act→World→Prop):Prop:=
 ∀av st' v val' fp',k av st'→Step Γ val val' fp fp' st st' w w→AvRep w (ZI Γ.X st' fp') val' st' av v→K (a.put o.dst v) w
theorem Step.refl (h:Objs Γ val fp st w):Step Γ val val fp fp st st w w:=⟨h,Kept.refl _ _,Stays.refl _ _⟩
theorem Fol.same (hK:Fol Γ val fp st a w o k K) (h:Objs Γ val fp st w) {av:AV} {v:Value} (hk:k av st) (hv:AvRep w (ZI Γ.X st fp) val st av v):K (a.put o.dst v) w:=
 hK av st v val fp w hk (Step.refl h) hv
theorem FolS.same (hK:FolS Γ val fp st a w o k K) (h:Objs Γ val fp st w) {av:AV} {v:Value} (hk:k av st) (hv:AvRep w (ZI Γ.X st fp) val st av v):K (a.put o.dst v) w:=hK av st v val fp hk (Step.refl h) hv
theorem Fol.still (hK:Fol Γ val fp st a w o k K) (_:Objs Γ val fp st w):FolS Γ val fp st a w o k K:=fun av st' v val' fp' hk hs hv=>hK av st' v val' fp' w hk hs hv
theorem ZgV {N:Nat→Prop} {e:TypeId} {t:Ty} {l:List t.den} {kd:ZuI} {v:Value} {F:List Nat} (h:ObRep w N val st (.sl e t l kd) v F):∃a cap,v = .slice a l.length cap∧l.length≤cap∧cap≤maxLen:=by
 cases kd with
 |deep kn hh=>
  obtain⟨_,e',xs,Fs,_,h1,_⟩:=h
  rcases h1.2 with⟨rfl,h0⟩|⟨g,cap,cur,rfl,_,_,h2,h3,_⟩
  ·exact⟨none,0,by rw[h0],by omega,Nat.zero_le _⟩
  ·exact⟨_,cap,rfl,h2,h3⟩
 |frozen=>exact Zzp h.2.1
 |mix kk=>
  obtain⟨_,xs,Fs,h1,_⟩:=h
  rcases h1.2 with⟨rfl,h0⟩|⟨g,cap,cur,rfl,_,_,h2,h3,_⟩
  ·exact⟨none,0,by rw[h0],by omega,Nat.zero_le _⟩
  ·exact⟨_,cap,rfl,h2,h3⟩
 |shallow=>
  obtain⟨xs,h1,_⟩:=h
  rcases h1.2 with⟨rfl,h0⟩|⟨g,cap,cur,rfl,_,_,h2,h3,_⟩
  ·exact⟨none,0,by rw[h0],by omega,Nat.zero_le _⟩
  ·exact⟨_,cap,rfl,h2,h3⟩
theorem ZtD {N:Nat→Prop} {e:TypeId} {t:Ty} {l:List t.den} {kd:ZuI} {v:Value} {F:List Nat} (h:ObRep w N val st (.sl e t l kd) v F) {n c:Nat} (hv:v = .slice none n c):l=[]:=by
 have imm:∀{N:Nat→Prop},Imm w N (.sl t) l [v]→l=[]:=by
  rintro N ⟨a,cap,h1,_,_,h3⟩
  rcases Xbf l.length with h0|h0
  ·exact XaJ h0
  ·obtain⟨b,o,rfl,_⟩:=h3 h0
   rw[hv]at h1;simp at h1
 cases kd with
 |deep kn hh=>
  obtain⟨_,e',xs,Fs,_,h1,_⟩:=h
  rcases h1.2 with⟨_,h0⟩|⟨g,cap,cur,h1,_⟩
  ·exact XaJ h0
  ·rw[h1]at hv;simp at hv
 |frozen=>exact imm h.2.1
 |mix kk=>
  obtain⟨_,xs,Fs,h1,_⟩:=h
  rcases h1.2 with⟨_,h0⟩|⟨g,cap,cur,h1,_⟩
  ·exact XaJ h0
  ·rw[h1]at hv;simp at hv
 |shallow=>
  obtain⟨xs,h1,_⟩:=h
  rcases h1.2 with⟨_,h0⟩|⟨g,cap,cur,h1,_⟩
  ·exact XaJ h0
  ·rw[h1]at hv;simp at hv
theorem ZIk {N:Nat→Prop} {t:Ty} {l:List t.den} {v:Value} (h:Imm w N (.sl t) l [v]) {n c:Nat} (hv:v = .slice none n c):l=[]:=by
 obtain⟨a,cap,h1,_,_,h3⟩:=h
 rcases Xbf l.length with h0|h0
 ·exact XaJ h0
 ·obtain⟨b,o,rfl,_⟩:=h3 h0
  rw[hv]at h1;simp at h1
theorem Zbk (h:Objs Γ val fp st w) {x:Nat} {n:Bool} {v:Value} (hv:AvRep w (ZI Γ.X st fp) val st (.c (.own x n)) v) {e:TypeId} {t:Ty} {l:List t.den} {kd:ZuI} (hx:lk st x=some (.sl e t l kd)) :
  v=val x∧ObRep w (ZI Γ.X st fp) val st (.sl e t l kd) (val x) (fp x):=by
 obtain⟨_,o,h1,h2,_⟩:=hv
 rw[hx]at h1
 obtain rfl:=Option.some.inj h1
 refine⟨?_,h.rep x _ hx⟩
 rcases h2 with h2|h2
 ·cases h2
 ·exact h2
theorem ZsX (h:Objs Γ val fp st w) {x:Nat} {v:Value} (hv:AvRep w (ZI Γ.X st fp) val st (.c (.own x true)) v) {e:TypeId} {t:Ty} {l:List t.den} {kd:ZuI} (hx:lk st x=some (.sl e t l kd))
  {A:Option Addr} {n c:Nat} (hA:v = .slice A n c):A.isNone=l.isEmpty:=by
 obtain⟨h1,h2⟩:=Zbk h hv hx
 obtain⟨_,o,h3,_,h4⟩:=hv
 rw[hx]at h3
 obtain rfl:=Option.some.inj h3
 cases A with
 |none=>rw[ZtD h2 (h1.symm.trans hA)];rfl
 |some A=>
  rcases h4 rfl with h4|h4
  ·rw[h4]at hA;simp at hA
  ·cases l with
   |nil=>exact absurd rfl (h4 _ _ _ _ rfl)
   |cons _ _=>rfl
theorem ZwU {N:Nat→Prop} {a b:Int} {u:Array Value} (h:All2 (CvRep w N val st) [.int .i64 a,.int .i64 b] u.toList):u = #[.int .i64 a,.int .i64 b]:=by
 obtain⟨l⟩:=u
 match l,h with
 |[x,y],h=>rw[h.1.1,h.2.1.1]
 |[],h=>exact h.elim
 |[_],h=>exact h.2.elim
 |_::_::_::_,h=>exact h.2.2.elim
theorem ZMS (hT:ZbB P C.y) (h:Sim Γ val fp ρ st a w) {op:BinOp} {t t':TypeId} {x y:Operand} (ho:o.op = .binOp op t x y t') (he:ZbD (Zby C ρ st o) k) (hK:FolS Γ val fp st a w o k K):OpT P o a w K:=by
 have hx:=ZU h x
 have hy:=ZU h y
 unfold Zby at he
 simp only[ho]at he
 have hex:execOp a.eval o=(do pure (.value (←(do eqGuard op t x y (a.eval x) (a.eval y);binOp op t (a.eval x) (a.eval y):Sem Value)))):=by simp only[execOp,ho]
 have go:∀{av:AV} {r:Value},(∀w1,(do eqGuard op t x y (a.eval x) (a.eval y);binOp op t (a.eval x) (a.eval y):Sem Value).run P w1 = .ok r w1)→AvRep w (ZI Γ.X st fp) val st av r→k av st→OpT P o a w K:=
  fun hr hv hk=>Zmu hex (fun w1 _=>hr w1) (hK.same h.toObjs hk hv)
 have eqn:∀{e:TypeId} {A:Option Addr} {n c:Nat} {q:Prop},op = .eql→lk C.y.el t=some e→a.eval x = .slice A n c→a.eval y = .slice none 0 0→(A=none→q)→(∀b:Bool,(b=true→q)→k (.c (.bool b)) st)→OpT P o a w K:=by
  intro e A n c q hop hel h1 h2 hq hk
  have hu:=hT.el t e hel
  subst hop
  refine go (av:=.c (.bool A.isNone)) (r:=.bool A.isNone) (fun w1=>?_) rfl (hk _ (fun hb=>hq (by simpa using hb)))
  rw[h1,h2]
  simp[go_sem,Lib.run_eql_slice_nil w1 t e A n c 0 0 hu]
 have neqn:∀{e:TypeId} {A:Option Addr} {n c:Nat} {q:Prop},op = .neq→lk C.y.el t=some e→a.eval x = .slice A n c→a.eval y = .slice none 0 0→(A=none→q)→(∀b:Bool,(b=false→q)→k (.c (.bool b)) st)→OpT P o a w K:=by
  intro e A n c q hop hel h1 h2 hq hk
  have hu:=hT.el t e hel
  subst hop
  refine go (av:=.c (.bool (!A.isNone))) (r:=.bool (!A.isNone)) (fun w1=>?_) rfl (hk _ (fun hb=>hq (by simpa using hb)))
  rw[h1,h2]
  simp[go_sem,run_neq_slice_nil_any w1 t e A n c 0 0 hu]
 have eqx:∀{e:TypeId} {A:Option Addr} {n c:Nat} {b:Bool},op = .eql→lk C.y.el t=some e→a.eval x = .slice A n c→a.eval y = .slice none 0 0→A.isNone=b→k (.c (.bool b)) st→OpT P o a w K:=by
  intro e A n c b hop hel h1 h2 hq hk
  have hu:=hT.el t e hel
  subst hop;subst hq
  refine go (av:=.c (.bool A.isNone)) (r:=.bool A.isNone) (fun w1=>?_) rfl hk
  rw[h1,h2]
  simp[go_sem,Lib.run_eql_slice_nil w1 t e A n c 0 0 hu]
 have neqx:∀{e:TypeId} {A:Option Addr} {n c:Nat} {b:Bool},op = .neq→lk C.y.el t=some e→a.eval x = .slice A n c→a.eval y = .slice none 0 0→A.isNone=b→k (.c (.bool (!b))) st→OpT P o a w K:=by
  intro e A n c b hop hel h1 h2 hq hk
  have hu:=hT.el t e hel
  subst hop;subst hq
  refine go (av:=.c (.bool (!A.isNone))) (r:=.bool (!A.isNone)) (fun w1=>?_) rfl hk
  rw[h1,h2]
  simp[go_sem,run_neq_slice_nil_any w1 t e A n c 0 0 hu]
 split at he
 ·rename_i h1 h2
  rw[h1]at hx;rw[h2]at hy
  split at he
  ·rename_i e hel
   have hu:=hT.el t e hel
   refine go (av:=.c (.kb true)) (r:=.bool true) (fun w1=>?_) rfl he
   rw[show a.eval x=_ from hx,show a.eval y=_ from hy]
   simp[go_sem,Lib.run_eql_slice_nil w1 t e none 0 0 0 0 hu]
  ·exact he.elim
 ·rename_i tt l h1 h2
  rw[h1]at hx;rw[h2]at hy
  split at he
  ·rename_i e hel
   obtain⟨A,cap,hv,_⟩:=Zzp hx
   exact eqn rfl hel hv hy (fun hA=>ZIk hx (by rw[hv,hA])) he
  ·exact he.elim
 ·rename_i x' h1 h2
  rw[h1]at hx;rw[h2]at hy
  split at he
  ·rename_i e e' t' l hel hl
   obtain⟨hv,hr⟩:=Zbk h.toObjs hx hl
   obtain⟨A,cap,hv',_⟩:=ZgV hr
   exact eqx rfl hel (hv.trans hv') hy (ZsX h.toObjs hx hl (hv.trans hv')) he
  ·rename_i e e' t' l hel hl
   obtain⟨hv,hr⟩:=Zbk h.toObjs hx hl
   obtain⟨A,cap,hv',_⟩:=ZgV hr
   exact eqx rfl hel (hv.trans hv') hy (ZsX h.toObjs hx hl (hv.trans hv')) he
  ·rename_i e e' t' l kn hh hel hl
   obtain⟨hv,hr⟩:=Zbk h.toObjs hx hl
   obtain⟨A,cap,hv',_⟩:=ZgV hr
   exact eqx rfl hel (hv.trans hv') hy (ZsX h.toObjs hx hl (hv.trans hv')) he
  ·exact he.elim
 ·rename_i x' h1 h2
  rw[h1]at hx;rw[h2]at hy
  split at he
  ·rename_i e e' t' l hel hl
   obtain⟨hv,hr⟩:=Zbk h.toObjs hx hl
   obtain⟨A,cap,hv',_⟩:=ZgV hr
   exact eqn rfl hel (hv.trans hv') hy (fun hA=>ZtD hr (by rw[hv',hA])) he
  ·rename_i e e' t' l hel hl
   obtain⟨hv,hr⟩:=Zbk h.toObjs hx hl
   obtain⟨A,cap,hv',_⟩:=ZgV hr
   exact eqn rfl hel (hv.trans hv') hy (fun hA=>ZtD hr (by rw[hv',hA])) he
  ·rename_i e e' t' l kn hh hel hl
   obtain⟨hv,hr⟩:=Zbk h.toObjs hx hl
   obtain⟨A,cap,hv',_⟩:=ZgV hr
   exact eqn rfl hel (hv.trans hv') hy (fun hA=>ZtD hr (by rw[hv',hA])) he
  ·exact he.elim
 ·rename_i h1 h2
  rw[h1]at hx;rw[h2]at hy
  split at he
  ·rename_i e hel
   have hu:=hT.el t e hel
   refine go (av:=.c (.kb false)) (r:=.bool false) (fun w1=>?_) rfl he
   rw[show a.eval x=_ from hx,show a.eval y=_ from hy]
   simp[go_sem,run_neq_slice_nil_any w1 t e none 0 0 0 0 hu]
  ·exact he.elim
 ·rename_i tt l h1 h2
  rw[h1]at hx;rw[h2]at hy
  split at he
  ·rename_i e hel
   obtain⟨A,cap,hv,_⟩:=Zzp hx
   exact neqn rfl hel hv hy (fun hA=>ZIk hx (by rw[hv,hA])) he
  ·exact he.elim
 ·rename_i x' h1 h2
  rw[h1]at hx;rw[h2]at hy
  split at he
  ·rename_i e e' t' l hel hl
   obtain⟨hv,hr⟩:=Zbk h.toObjs hx hl
   obtain⟨A,cap,hv',_⟩:=ZgV hr
   exact neqx rfl hel (hv.trans hv') hy (ZsX h.toObjs hx hl (hv.trans hv')) he
  ·rename_i e e' t' l hel hl
   obtain⟨hv,hr⟩:=Zbk h.toObjs hx hl
   obtain⟨A,cap,hv',_⟩:=ZgV hr
   exact neqx rfl hel (hv.trans hv') hy (ZsX h.toObjs hx hl (hv.trans hv')) he
  ·rename_i e e' t' l kn hh hel hl
   obtain⟨hv,hr⟩:=Zbk h.toObjs hx hl
   obtain⟨A,cap,hv',_⟩:=ZgV hr
   exact neqx rfl hel (hv.trans hv') hy (ZsX h.toObjs hx hl (hv.trans hv')) he
  ·exact he.elim
 ·rename_i x' h1 h2
  rw[h1]at hx;rw[h2]at hy
  split at he
  ·rename_i e e' t' l hel hl
   obtain⟨hv,hr⟩:=Zbk h.toObjs hx hl
   obtain⟨A,cap,hv',_⟩:=ZgV hr
   exact neqn rfl hel (hv.trans hv') hy (fun hA=>ZtD hr (by rw[hv',hA])) he
  ·rename_i e e' t' l hel hl
   obtain⟨hv,hr⟩:=Zbk h.toObjs hx hl
   obtain⟨A,cap,hv',_⟩:=ZgV hr
   exact neqn rfl hel (hv.trans hv') hy (fun hA=>ZtD hr (by rw[hv',hA])) he
  ·rename_i e e' t' l kn hh hel hl
   obtain⟨hv,hr⟩:=Zbk h.toObjs hx hl
   obtain⟨A,cap,hv',_⟩:=ZgV hr
   exact neqn rfl hel (hv.trans hv') hy (fun hA=>ZtD hr (by rw[hv',hA])) he
  ·exact he.elim
 ·rename_i p q r s h1 h2
  rw[h1]at hx;rw[h2]at hy
  split at he
  ·rename_i hq
   obtain⟨u,hu,hu2⟩:=hx
   obtain⟨v,hv,hv2⟩:=hy
   refine go (av:=.c (.bool (p==r&&q==s))) (r:=.bool (p==r&&q==s)) (fun w1=>?_) rfl he
   rw[hu,hv,ZwU hu2,ZwU hv2]
   exact(hT.eq t hq x y p q r s w1).1
  ·exact he.elim
 ·rename_i p q r s h1 h2
  rw[h1]at hx;rw[h2]at hy
  split at he
  ·rename_i hq
   obtain⟨u,hu,hu2⟩:=hx
   obtain⟨v,hv,hv2⟩:=hy
   refine go (av:=.c (.bool (!(p==r&&q==s)))) (r:=.bool (!(p==r&&q==s))) (fun w1=>?_) rfl he
   rw[hu,hv,ZwU hu2,ZwU hv2]
   exact(hT.eq t hq x y p q r s w1).2
  ·exact he.elim
 ·split at he
  ·rename_i b hb
   split at he
   ·rename_i hty
    obtain⟨i,z,d,_,_,_,_,_,hu,hd,_⟩:=hT.ty t _ hty
    have hd:d = .bool:=hd
    subst hd
    obtain⟨av,r,h1,h2,h3⟩:=ZH8 (P:=P) (X:=x) (Y:=y) (fun _ _=>hu) hx hy he
    exact go h1 h2 h3
   ·exact he.elim
  ·rename_i hb
   split at he
   ·obtain⟨av,r,h1,h2,h3⟩:=ZMH (P:=P) (t:=t) (X:=x) (Y:=y) hx hy he
    exact go h1 h2 h3
   ·obtain⟨av,r,h1,h2,h3⟩:=ZH8 (P:=P) (X:=x) (Y:=y) (fun b hb'=>by rw[hb]at hb';cases hb') hx hy he
    exact go h1 h2 h3
theorem ZLT (h:Sim Γ val fp ρ st a w) {x:Operand} (ho:o.op = .move x) (he:ZbD (Zby C ρ st o) k) (hK:FolS Γ val fp st a w o k K):OpT P o a w K:=by
 unfold Zby at he
 simp only[ho]at he
 exact ZHs (by simp only[execOp,ho]) (hK.same h.toObjs he (ZU h x))
theorem ZHr (h:Sim Γ val fp ρ st a w) {x:Operand} (ho:o.op = .assign x) (he:ZbD (Zby C ρ st o) k) (hK:FolS Γ val fp st a w o k K):OpT P o a w K:=by
 unfold Zby at he
 simp only[ho]at he
 exact ZHs (by simp only[execOp,ho]) (hK.same h.toObjs he (ZU h x))
theorem ZLU (h:Sim Γ val fp ρ st a w) {c x y:Operand} (ho:o.op = .pick c x y) (he:ZbD (Zby C ρ st o) k) (hK:FolS Γ val fp st a w o k K):OpT P o a w K:=by
 have hc:=ZU h c
 have hx:=ZU h x
 have hy:=ZU h y
 unfold Zby at he
 simp only[ho]at he
 have go:∀{b:Bool} {av:AV},a.eval c = .bool b→AvRep w (ZI Γ.X st fp) val st av (if b then a.eval x else a.eval y)→k av st→OpT P o a w K:=by
  intro b av h1 h2 h3
  refine⟨_,fun w1 _=>?_,hK.same h.toObjs h3 h2⟩
  unfold execOp
  simp only[ho,h1,asBool,Sem.run_bind,Sem.run_pure,Result.andThen_ok]
 split at he
 ·rename_i b hb
  rw[hb]at hc
  cases b
  ·exact go hc hy he
  ·exact go hc hx he
 ·rename_i b hb
  rw[hb]at hc
  split at he
  ·rename_i p q h1 h2
   have e1:=Zv2 h1 hx
   have e2:=Zv2 h2 hy
   refine go hc ?_ he
   cases b
   ·exact e2
   ·exact e1
  ·cases b
   ·exact go hc hy (he.2 rfl)
   ·exact go hc hx (he.1 rfl)
 ·exact he.elim
theorem ZNW (h:Sim Γ val fp ρ st a w) {op:UnOp} {t:TypeId} {x:Operand} (ho:o.op = .unOp op t x) (he:ZbD (Zby C ρ st o) k) (hK:FolS Γ val fp st a w o k K):OpT P o a w K:=by
 have hx:=ZU h x
 unfold Zby at he
 simp only[ho]at he
 have hex:execOp a.eval o=(do pure (.value (←Op.unary op (a.eval x)))):=by simp only[execOp,ho]
 split at he
 ·rename_i b hb
  rw[hb]at hx
  refine Zmu hex (v:=.bool (!b)) (fun w1 _=>?_) (hK.same h.toObjs he rfl)
  rw[show a.eval x=_ from hx];simp[Op.unary]
 ·rename_i b hb
  rw[hb]at hx
  refine Zmu hex (v:=.bool (!b)) (fun w1 _=>?_) (hK.same h.toObjs he rfl)
  rw[show a.eval x=_ from hx];simp[Op.unary]
 ·rename_i kd n hb
  rw[hb]at hx
  obtain⟨hv,hn⟩:=ZqJ hx
  refine Zmu hex (v:=.int kd (kd.wrap (0 - n))) (fun w1 _=>?_) (hK.same h.toObjs he.2 (ZfB he.1 (by rw[ZnB he.1])))
  rw[hv];simp[Op.unary,Op.intArith]
 ·exact he.elim
theorem ZEr (hT:ZbB P C.y) (h:Sim Γ val fp ρ st a w) {s t:TypeId} {x:Operand} (ho:o.op = .convert s t x) (he:ZbD (Zby C ρ st o) k) (hK:FolS Γ val fp st a w o k K):OpT P o a w K:=by
 have hx:=ZU h x
 unfold Zby at he
 simp only[ho]at he
 have hex:execOp a.eval o=(do pure (.value (←convert s t (a.eval x)))):=by simp only[execOp,ho]
 split at he
 ·rename_i kd n k1 k2 h1 h2 h3
  rw[h1]at hx
  obtain⟨hv,hn⟩:=ZqJ hx
  obtain⟨_,_,d1,_,_,_,_,_,hu1,hd1,_⟩:=hT.ty s _ h2
  obtain⟨_,_,d2,_,_,_,_,_,hu2,hd2,_⟩:=hT.ty t _ h3
  have hd1:d1 = .int k1:=hd1
  have hd2:d2 = .int k2:=hd2
  subst hd1;subst hd2
  refine Zmu hex (v:=.int k2 (k2.wrap n)) (fun w1 _=>?_) (hK.same h.toObjs he.2 (ZfB he.1 (by rw[ZnB he.1])))
  rw[hv];simp[convert,run_underlying hu1,run_underlying hu2,Conv.intToInt]
 ·exact he.elim
theorem ZDg (h:Sim Γ val fp ρ st a w) {x:Operand} (ho:o.op = .nilCheck x) (he:ZbD (Zby C ρ st o) k) (hK:FolS Γ val fp st a w o k K):o.wp P a w K Q:=by
 have hx:=ZU h x
 unfold Zby at he
 simp only[ho]at he
 split at he
 ·rename_i x' c h1
  rw[h1]at hx
  obtain⟨cs,g,h2,h3,h4⟩:=hx
  refine ZNn (v:=a.eval x) ?_ (hK.same h.toObjs he ⟨cs,g,h2,h3,h4⟩)
  simp only[execOp,ho]
  rw[h4]
 ·exact he.elim
theorem ZJ7 (h:Sim Γ val fp ρ st a w) {x:Operand} (ho:o.op = .nilCheck x) (he:ZbD (Zby C ρ st o) k) (hK:FolS Γ val fp st a w o k K):OpT P o a w K:=by
 have hx:=ZU h x
 unfold Zby at he
 simp only[ho]at he
 split at he
 ·rename_i x' c h1
  rw[h1]at hx
  obtain⟨cs,g,h2,h3,h4⟩:=hx
  refine ZHs (v:=a.eval x) ?_ (hK.same h.toObjs he ⟨cs,g,h2,h3,h4⟩)
  simp only[execOp,ho]
  rw[h4]
 ·exact he.elim
theorem ZEs (h:Sim Γ val fp ρ st a w) {x:Operand} {i:Nat} (ho:o.op = .extract x i) (he:ZbD (Zby C ρ st o) k) (hK:FolS Γ val fp st a w o k K):OpT P o a w K:=by
 have hx:=ZU h x
 unfold Zby at he
 simp only[ho]at he
 have hex:execOp a.eval o=(do pure (.value (←Instr.extract (a.eval x) i))):=by simp only[execOp,ho]
 split at he
 ·rename_i l h1
  rw[h1]at hx
  obtain⟨vs,hv,hr⟩:=hx
  split at he
  ·rename_i av hi
   obtain⟨r,h2,h3⟩:=hr.get hi
   have h2':vs[i]? = some r:=by simpa using h2
   refine Zmu hex (v:=r) (fun w1 _=>?_) (hK.same h.toObjs he ?_)
   ·rw[hv];simp[Instr.extract,h2']
   ·cases av with
    |c x=>exact h3
    |agg l=>exact h3
    |tup l=>exact h3.elim
  ·exact he.elim
 ·exact he.elim
theorem ZAi (hT:ZbB P C.y) (h:Sim Γ val fp ρ st a w) {t:TypeId} {x:Operand} {f:Nat} (ho:o.op = .fieldAddr t x f) (he:ZbD (Zby C ρ st o) k) (hK:FolS Γ val fp st a w o k K):OpT P o a w K:=by
 have hx:=ZU h x
 unfold Zby at he
 simp only[ho]at he
 have hex:execOp a.eval o=(do pure (.value (←Instr.fieldAt t (a.eval x) f))):=by simp only[execOp,ho]
 split at he
 ·rename_i fl hfl
  obtain⟨fs,hu,_,hf⟩:=hT.fl t fl hfl
  split at he
  ·rename_i off ty hoff
   obtain⟨fd,h1,h2,h3,j,h4,h5⟩:=hf f off ty hoff
   have go:∀{b c:Nat} {av:AV},a.eval x = .pointer (some ⟨b,c,none⟩)→AvRep w (ZI Γ.X st fp) val st av (.pointer (some ⟨b,c+off,none⟩))→k av st→OpT P o a w K:=by
    intro b c av e1 e2 e3
    refine Zmu hex (v:=.pointer (some ⟨b,c+off,none⟩)) (fun w1 _=>?_) (hK.same h.toObjs e3 e2)
    rw[e1]
    have hi:P.info? fd.type=some j:=by rw[h3];exact h4
    simp[Instr.fieldAt,run_underlying hu,h1,Instr.sureAddr,fieldPlace,sizeOf,typeInfo,hi,h5,h2,Addr.add_lit]
   split at he
   ·rename_i t' d c e1
    rw[e1]at hx
    obtain⟨b,o',es,q1,q2,q3,q4,q5⟩:=hx
    exact go (av:=.c (.iptr t' d (c+off))) q1 (Exists.intro b ⟨o',es,by rw[Xbp],q2,q3,q4,q5⟩) he
   ·rename_i x' i c e1
    rw[e1]at hx
    obtain⟨_,ob,q1,q2⟩:=hx
    split at he
    ·rename_i e t0 l hl
     rw[q1]at hl
     obtain rfl:=Option.some.inj hl
     obtain⟨r1,r2,g,n,cap,r3,r4⟩:=q2 e t0 l _ rfl
     refine go (av:=.c (.eptr x' i (c+off))) r4 (And.intro ⟨_,rfl⟩ ⟨_,q1,fun e' t' l' k' ho'=>?_⟩) he
     cases ho'
     exact⟨r1,r2,g,n,cap,r3,by rw[Xbp]⟩
    ·rename_i e t0 l kn hh hl
     rw[q1]at hl
     obtain rfl:=Option.some.inj hl
     obtain⟨r1,r2,g,n,cap,r3,r4⟩:=q2 e t0 l _ rfl
     refine go (av:=.c (.eptr x' i (c+off))) r4 (And.intro ⟨_,rfl⟩ ⟨_,q1,fun e' t' l' k' ho'=>?_⟩) he
     cases ho'
     exact⟨r1,r2,g,n,cap,r3,by rw[Xbp]⟩
    ·exact he.elim
   ·rename_i x' c e1
    rw[e1]at hx
    obtain⟨cs,g,q1,q2,q3⟩:=hx
    exact go (av:=.c (.ptr x' (c+off))) q3 (Exists.intro cs ⟨g,q1,q2,rfl⟩) he
   ·exact he.elim
  ·exact he.elim
 ·exact he.elim
end
end Go.AE
namespace Go.AE
open Go
section
variable {P:Program} {C:Cfg} {Γ:Ctx} {val:Nat→Value} {fp:Nat→List Nat} {ρ:Env} {st:St} {a:Act} {w:World} {o:Oper} {k:AV→St→Prop} {K:Act→World→Prop} {Q:Exit→Act→World→Prop}
theorem Znl {α:Type} {l:List α} {i:Nat} {d:α} (h:i<l.length):l.getD i d=l[i]:=by
 rw[Xaa,Xac h,Option.getD_some]
theorem Zm4 (hT:ZbB P C.y) {s e:TypeId} {te:Ty} (h1:lk C.y.el s=some e) (h2:lk C.y.ty e=some te) {b o n cap:Nat} {i:Int} (h0:0≤i) (hi:i<n) :
  (Instr.indexAt s (.slice (some ⟨b,o,none⟩) n cap) (.int .i64 i)).run P w = .ok (.pointer (some ⟨b,o+i.toNat*te.size,none⟩)) w:=by
 have hu:=hT.el s e h1
 obtain⟨j,z,d,hj,hsz,_⟩:=hT.ty e te h2
 simp[Instr.indexAt,asIntOf,run_underlying hu,h0,hi,sizeOf,typeInfo,hj,hsz,Addr.add_lit]
theorem ZAj (hT:ZbB P C.y) (h:Sim Γ val fp ρ st a w) {t:TypeId} {x i:Operand} (ho:o.op = .indexAddr t x i) (he:ZbD (Zby C ρ st o) k) (hK:FolS Γ val fp st a w o k K):OpT P o a w K:=by
 have hx:=ZU h x
 have hi:=ZU h i
 unfold Zby at he
 simp only[ho]at he
 unfold Zz4 at he
 have hex:execOp a.eval o=(do pure (.value (←Instr.indexAt t (a.eval x) (a.eval i)))):=by simp only[execOp,ho]
 have imm:∀{e:TypeId} {te t':Ty} {l:List t'.den} {n:Int},lk C.y.el t=some e→lk C.y.ty e=some te→te.size=t'.size→Imm w (ZI Γ.X st fp) (.sl t') l [a.eval x]→a.eval i = .int .i64 n →
   (0≤n∧n<l.length)∧k (.c (.iptr t' (l.getD n.toNat t'.dflt) 0)) st→OpT P o a w K:=by
  intro e te t' l n h1 h2 h3 h4 h5 ⟨⟨h6,h7⟩,h8⟩
  have hn:n.toNat<l.length:=by omega
  obtain⟨b,o',cap,es,q1,q2,q3,q4,q5⟩:=ZNA h4 hn
  refine Zmu hex (v:=.pointer (some ⟨b,o'+n.toNat*te.size,none⟩)) (fun w1 _=>?_) (hK.same h.toObjs h8 ?_)
  ·rw[q1,h5];exact Zm4 hT h1 h2 h6 h7
  ·rw[h3]
   exact Exists.intro b ⟨o'+n.toNat*t'.size,es,by simp,q2,q3,q4,by rw[Znl hn];exact q5⟩
 split at he
 ·rename_i e hel
  split at he
  ·rename_i te hte
   split at he
   ·rename_i t' l n h1 h2
    rw[h1]at hx;rw[h2]at hi
    split at he
    ·rename_i hsz
     exact imm hel hte (ZR.1 hsz) hx hi.1 he
    ·exact he.elim
   ·rename_i x' n h1 h2
    rw[h1]at hx;rw[h2]at hi
    split at he
    ·rename_i e' t' l hl
     split at he
     ·rename_i hsz
      have hsz:=ZR.1 hsz
      obtain⟨hv,hr⟩:=Zbk h.toObjs hx hl
      obtain⟨xs,hown,_⟩:=hr
      obtain⟨⟨h6,h7⟩,h8⟩:=he
      rcases hown.2 with⟨_,hz⟩|⟨g,cap,cur,hg,_⟩
      ·omega
      ·refine Zmu hex (v:=.pointer (some ⟨g,0+n.toNat*te.size,none⟩)) (fun w1 _=>?_) (hK.same h.toObjs h8 ?_)
       ·rw[hv,hg,hi.1];exact Zm4 hT hel hte h6 h7
       ·refine And.intro ⟨_,rfl⟩ ⟨_,hl,fun e2 t2 l2 k2 h2=>?_⟩
        cases h2
        exact⟨h6,h7,g,l.length,cap,hg,by rw[hsz];simp⟩
     ·exact he.elim
    ·rename_i e' t' l hl
     split at he
     ·rename_i hsz
      obtain⟨hv,hr⟩:=Zbk h.toObjs hx hl
      exact imm hel hte (ZR.1 hsz) (by rw[hv];exact hr.2.1) hi.1 he
     ·exact he.elim
    ·rename_i e' t' l kn hh hl
     split at he
     ·rename_i hsz
      have hsz:=ZR.1 hsz
      obtain⟨hv,hr⟩:=Zbk h.toObjs hx hl
      obtain⟨_,_,xs,Fs,_,hown,_⟩:=hr
      obtain⟨⟨h6,h7⟩,h8⟩:=he
      rcases hown.2 with⟨_,hz⟩|⟨g,cap,cur,hg,_⟩
      ·omega
      ·refine Zmu hex (v:=.pointer (some ⟨g,0+n.toNat*te.size,none⟩)) (fun w1 _=>?_) (hK.same h.toObjs h8 ?_)
       ·rw[hv,hg,hi.1];exact Zm4 hT hel hte h6 h7
       ·refine And.intro ⟨_,rfl⟩ ⟨_,hl,fun e2 t2 l2 k2 h2=>?_⟩
        cases h2
        exact⟨h6,h7,g,l.length,cap,hg,by rw[hsz];simp⟩
     ·exact he.elim
    ·rename_i e' t' l kk hl
     split at he
     ·rename_i hsz
      have hsz:=ZR.1 hsz
      obtain⟨hv,hr⟩:=Zbk h.toObjs hx hl
      obtain⟨_,xs,Fs,hown,_⟩:=hr
      obtain⟨⟨h6,h7⟩,h8⟩:=he
      rcases hown.2 with⟨_,hz⟩|⟨g,cap,cur,hg,_⟩
      ·omega
      ·refine Zmu hex (v:=.pointer (some ⟨g,0+n.toNat*te.size,none⟩)) (fun w1 _=>?_) (hK.same h.toObjs h8 ?_)
       ·rw[hv,hg,hi.1];exact Zm4 hT hel hte h6 h7
       ·refine And.intro ⟨_,rfl⟩ ⟨_,hl,fun e2 t2 l2 k2 h2=>?_⟩
        cases h2
        exact⟨h6,h7,g,l.length,cap,hg,by rw[hsz];simp⟩
     ·exact he.elim
    ·exact he.elim
   ·rename_i x' i n h1 h2
    rw[h1]at hx;rw[h2]at hi
    split at he
    ·rename_i e' t' l hl
     split at he
     ·rename_i hsz
      have hsz:=ZR.1 hsz
      obtain⟨_,ob,q1,q2⟩:=hx
      rw[hl]at q1
      obtain rfl:=Option.some.inj q1
      obtain⟨r1,r2,r3,r4⟩:=q2 _ _ _ _ rfl
      obtain⟨⟨h6,h7⟩,h8⟩:=he
      obtain⟨g,m,cap,c,hg,hv⟩:=r3 (by omega)
      refine Zmu hex (v:=.pointer (some ⟨g,i.toNat*t'.size+n.toNat*te.size,none⟩)) (fun w1 _=>?_) (hK.same h.toObjs h8 ?_)
      ·rw[hv,hi.1];exact Zm4 hT hel hte h6 (by omega)
      ·refine And.intro ⟨_,rfl⟩ ⟨_,hl,fun e2 t2 l2 k2 h2=>?_⟩
       cases h2
       refine⟨by omega,h7,g,m,cap,hg,?_⟩
       rw[hsz,←XaH,show (i+n).toNat=i.toNat+n.toNat by omega]
       rfl
     ·exact he.elim
    ·exact he.elim
   ·exact he.elim
  ·exact he.elim
 ·split at he
  ·rename_i m e x' j c n har h1 h2
   rw[h1]at hx;rw[h2]at hi
   obtain⟨hu,_,_⟩:=hT.ar t m e har
   split at he
   ·rename_i te e' t' l hte hl hc
    split at he
    ·rename_i hsz
     have hsz:=ZR.1 hsz
     have hc:=ZR.1 hc
     subst hc
     obtain⟨_,ob,q1,q2⟩:=hx
     rw[hl]at q1
     obtain rfl:=Option.some.inj q1
     obtain⟨r1,r2,g,nn,cap,hg,hv⟩:=q2 _ _ _ _ rfl
     obtain⟨⟨h5,⟨h6,h7⟩,h8⟩,h9⟩:=he
     subst h5
     refine Zmu hex (v:=.pointer (some ⟨g,0+n.toNat*te.size,none⟩)) (fun w1 _=>?_) (hK.same h.toObjs h9 ?_)
     ·obtain⟨jj,z,d,hj,hsz',_⟩:=hT.ty e te hte
      rw[hv,hi.1]
      simp[Instr.indexAt,Instr.sureAddr,asIntOf,run_underlying hu,h6,h7,sizeOf,typeInfo,hj,hsz',Addr.add_lit]
     ·refine And.intro ⟨_,rfl⟩ ⟨_,hl,fun e2 t2 l2 k2 h2=>?_⟩
      cases h2
      exact⟨h6,by omega,g,nn,cap,hg,by rw[hsz];simp⟩
    ·exact he.elim
   ·exact he.elim
  ·exact he.elim
theorem All2.cut {α:Type} {R:CV→α→Prop} (n c:Nat) {l:List CV} {m:List α} (h:All2 R l m):All2 R (cut n c l) ((m.drop c).take n):=(h.drop c).take n
theorem ZQ {l:List Value} {c n i:Nat} (hi:i<n):((l.drop c).take n)[i]? = l[c+i]? :=by
 rw[XaD,if_pos hi,Xa0]
theorem ZNC {N:Nat→Prop} {av:AV} {r:Value} (h:ZbD (ld av st) k) (hv:AvRep w N val st av r):k av st:=by
 unfold ld at h
 split at h
 ·exact h hv.2
 ·exact h
theorem ZFB (h:Sim Γ val fp ρ st a w):∀{l:List Operand} {ns:List Nat},l.mapM (fun x=>match ev1 ρ x with | .c (.ptr x 0)=>some x|_=>none)=some ns→fnCaps val st ns (l.map a.eval)
 |[],ns,h1=>by simp at h1;subst h1;trivial
 |x::l,ns,h1=>by
  rw[List.mapM_cons]at h1
  have hx:=ZU h x
  split at h1
  ·rename_i y hy
   rw[hy]at hx
   simp only[Option.bind_eq_bind,XaP,Option.bind_eq_some_iff,Option.pure_def,Option.some.injEq]at h1
   obtain⟨ns',h2,rfl⟩:=h1
   obtain⟨cs,g,q1,q2,q3⟩:=hx
   exact⟨⟨cs,g,q1,q2,q3⟩,ZFB h h2⟩
  ·simp at h1
theorem ZDf (h:Sim Γ val fp ρ st a w) {f:FuncId} {first cap:Array Operand} (ho:o.op = .makeFunc (.func f) first cap) (he:ZbD (Zby C ρ st o) k) (hK:FolS Γ val fp st a w o k K):o.wp P a w K Q:=by
 unfold Zby at he
 simp only[ho]at he
 split at he
 ·rename_i ns h1 h2
  have hc:=ZFB h h2
  have hf:first = #[]:=by cases first;simpa using h1
  refine Zkq (s:=Instr.makeFunc (.func f) (first.map a.eval) (cap.map a.eval)) (by simp only[execOp,ho]) (v:=.func (.func f) #[] (cap.map a.eval)) ?_ (hK.same h.toObjs he ⟨_,rfl,by simpa using hc⟩)
  subst hf
  simp[Instr.makeFunc]
 ·exact he.elim
theorem ZeM {b:Builtin} {args:Array Operand} {tys:Array TypeId} {v:Value} {w':World} (ho:o.op = .call { callee:=.builtin b,args:=args,argTypes:=tys }) {s:Sem Value}
  (hs:∀cs,builtin b tys o.type cs (args.map a.eval)=(do pure (.value (←s)))) (hr:s.run P w = .ok v w') (hK:K (a.put o.dst v) w'):o.wp P a w K Q:=by
 unfold Oper.wp execOp
 simp only[ho,resolve,invoke,Sem.run_bind,Sem.run_pure,Result.andThen_ok,hs,hr]
 exact hK
theorem ZEq {b:Builtin} {args:Array Operand} {tys:Array TypeId} {v:Value} (ho:o.op = .call { callee:=.builtin b,args:=args,argTypes:=tys }) {s:Sem Value}
  (hs:∀cs,builtin b tys o.type cs (args.map a.eval)=(do pure (.value (←s)))) (hr:∀w1,s.run P w1 = .ok v w1) (hK:K (a.put o.dst v) w):OpT P o a w K:=by
 refine⟨v,fun w1 _=>?_,hK⟩
 unfold execOp
 simp only[ho,resolve,invoke,Sem.run_bind,Sem.run_pure,Result.andThen_ok,hs,hr]
theorem ZJ6 (hT:ZbB P C.y) (h:Sim Γ val fp ρ st a w) {x:Operand} {tys:Array TypeId} (ho:o.op = .call { callee:=.builtin .len,args:=#[x],argTypes:=tys }) (he:ZbD (ZJv C st tys.toList (ev1 ρ x)) k) (hK:FolS Γ val fp st a w o k K):OpT P o a w K:=by
 have hx:=ZU h x
 unfold ZJv at he
 split at he
 ·rename_i s hs
  have htys:tys = #[s]:=by cases tys;simpa using hs
  subst htys
  split at he
  ·rename_i e hel
   have hu:=hT.el s e hel
   have go:∀{n cap:Nat} {A:Option Addr},a.eval x = .slice A n cap→n≤maxLen→k (.c (.int .i64 n)) st→OpT P o a w K:=by
    intro n cap A h1 h2 h3
    refine ZEq ho (s:=Builtin.len_ #[s] o.type #[a.eval x]) (fun cs=>by simp[builtin]) (v:=.int .i64 n) (fun w1=>?_) (hK.same h.toObjs h3 (ZfB (ZKA h2) rfl))
    rw[h1]
    simp[Builtin.len_,run_underlying hu,goInt]
   split at he
   ·rename_i h1
    rw[h1]at hx
    exact go (n:=0) hx (Nat.zero_le _) he
   ·rename_i t l h1
    rw[h1]at hx
    obtain⟨A,cap,hv,h2,h3⟩:=Zzp hx
    exact go hv (by omega) he
   ·rename_i x' h1
    rw[h1]at hx
    split at he
    ·rename_i e' t' l hl
     obtain⟨hv,hr⟩:=Zbk h.toObjs hx hl
     obtain⟨A,cap,hv',h2,h3⟩:=ZgV hr
     exact go (hv.trans hv') (by omega) he
    ·rename_i e' t' l hl
     obtain⟨hv,hr⟩:=Zbk h.toObjs hx hl
     obtain⟨A,cap,hv',h2,h3⟩:=ZgV hr
     exact go (hv.trans hv') (by omega) he
    ·rename_i e' t' l kn hh hl
     obtain⟨hv,hr⟩:=Zbk h.toObjs hx hl
     obtain⟨A,cap,hv',h2,h3⟩:=ZgV hr
     exact go (hv.trans hv') (by omega) he
    ·exact he.elim
   ·rename_i x' i h1
    rw[h1]at hx
    split at he
    ·rename_i e' t' l hl
     obtain⟨_,ob,q1,q2⟩:=hx
     rw[hl]at q1
     obtain rfl:=Option.some.inj q1
     obtain⟨r1,r2,r3,r4⟩:=q2 _ _ _ _ rfl
     obtain⟨_,_,_,h2,h3⟩:=ZgV (h.rep x' _ hl)
     have he':k (.c (.int .i64 ((l.length - i.toNat:Nat):Int))) st:=by
      rw[show ((l.length - i.toNat:Nat):Int)=(l.length:Int) - i by omega]
      exact he
     by_cases hi:i<l.length
     ·obtain⟨g,n,cap,c,_,hv⟩:=r3 hi
      exact go hv (by omega) he'
     ·obtain⟨A,c,hv⟩:=r4 (by omega)
      rw[show l.length - i.toNat=0 by omega]at he'
      exact go (n:=0) hv (Nat.zero_le _) he'
    ·exact he.elim
   ·exact he.elim
  ·exact he.elim
 ·exact he.elim
theorem ZOq (hT:ZbB P C.y) (h:Sim Γ val fp ρ st a w) {x:Operand} {tys:Array TypeId} (ho:o.op = .call { callee:=.builtin .cap,args:=#[x],argTypes:=tys }) (he:ZbD (ZJu C st tys.toList (ev1 ρ x)) k) (hK:FolS Γ val fp st a w o k K):OpT P o a w K:=by
 have hx:=ZU h x
 unfold ZJu at he
 split at he
 ·rename_i s hs
  have htys:tys = #[s]:=by cases tys;simpa using hs
  subst htys
  split at he
  ·rename_i e hel
   have hu:=hT.el s e hel
   split at he
   ·rename_i h1
    rw[h1]at hx
    have hx:a.eval x = .slice none 0 0:=hx
    refine ZEq ho (s:=Builtin.cap_ #[s] o.type #[a.eval x]) (fun cs=>by simp[builtin]) (v:=.int .i64 ((0:Nat):Int)) (fun w1=>?_) (hK.same h.toObjs he (ZfB (ZKA (Nat.zero_le _)) rfl))
    rw[hx]
    simp[Builtin.cap_,run_underlying hu,goInt]
   ·exact he.elim
  ·exact he.elim
 ·exact he.elim
end
end Go.AE
namespace Go.AE
open Go Go.RowKit
theorem Zd4 {α:Type _} (x:Nat) (v:α):∀(st:List (Nat×α)) (k:Nat),lk (Z0 st x v) k=if k=x then(lk st x).map (fun _=>v)else lk st k
 |[],k=>by simp[Z0,lk]
 |(a,b)::r,k=>by
  unfold Z0
  cases h:Nat.beq a x
  ·have hne:a≠x:=fun e=>by rw[ZR.2 e]at h;cases h
   dsimp only
   rw[Z2,Zd4 x v r k,Z2,Z2]
   by_cases h1:k=a
   ·rw[if_pos h1,if_neg (fun e=>hne (h1.symm.trans e)),if_pos h1]
   ·rw[if_neg h1,if_neg h1]
    by_cases h2:k=x
    ·rw[if_pos h2,if_pos h2,if_neg (fun e=>hne e.symm)]
    ·rw[if_neg h2,if_neg h2]
  ·have he:a=x:=ZR.1 h
   subst he
   dsimp only
   rw[Z2,Z2,Z2,if_pos rfl]
   by_cases h1:k=a
   ·rw[if_pos h1,if_pos h1];rfl
   ·rw[if_neg h1,if_neg h1,if_neg h1]
section
variable {P:Program} {C:Cfg} {Γ:Ctx} {val val' val'':Nat→Value} {fp fp' fp'':Nat→List Nat} {ρ:Env} {st st' st'':St} {a:Act} {w w' w'':World} {o:Oper} {k:AV→St→Prop} {K:Act→World→Prop} {Q:Exit→Act→World→Prop}
theorem Kept.trans {N N' N'':Nat→Prop} (h:Kept w w' N N') (k:Kept w' w'' N' N''):Kept w w'' N N'':=
 ⟨XbO h.size k.size,fun b hb hn=>(k.block b (XaS hb h.size) (fun hn'=>hn (h.more b hb hn'))).trans (h.block b hb hn),
  fun b hb hn=>h.more b hb (k.more b (XaS hb h.size) hn)⟩
theorem Stays.trans (h:Stays val val' st st') (k:Stays val' val'' st' st''):Stays val val'' st st'':=fun y o hy=>by
 obtain⟨o',h1,h2,h3⟩:=h y o hy
 obtain⟨o'',k1,k2,k3⟩:=k y o' h1
 exact⟨o'',k1,h2.trans k2,k3.trans h3⟩
theorem Step.trans (h:Step Γ val val' fp fp' st st' w w') (k:Step Γ val' val'' fp' fp'' st' st'' w' w''):Step Γ val val'' fp fp'' st st'' w w'':=
 ⟨k.objs,h.kept.trans k.kept,h.stays.trans k.stays⟩
theorem ZAe {N N':Nat→Prop} {e:TypeId} {t:Ty} {l:List t.den} {v:Value} {F:List Nat} (h:ObRep w N val st (.sl e t l .shallow) v F) (hF:∀b∈F,¬N' b) (hk:∀{t:Ty} {d:t.den} {cs:List Value},Imm w N t d cs→Imm w N' t d cs) :
  Imm w N' (.sl t) l [v]∧(0<l.length→∃g n cap,v = .slice (some ⟨g,0,none⟩) n cap):=by
 obtain⟨xs,h1,h2,h3⟩:=h
 have h1':=h1
 rcases h1.2 with⟨rfl,h0⟩|⟨g,cap,cur,rfl,_,hg,hc,hm,_⟩
 ·exact⟨⟨none,0,by rw[h0],by omega,Nat.zero_le _,fun hl=>by omega⟩,fun hl=>by omega⟩
 ·refine⟨⟨_,cap,rfl,hc,hm,fun hl=>⟨g,0,rfl,hF g (by rw[h2];simp[Value.ownBlock]),(Xbs.1 hg).1,fun j hj=>⟨(xs.drop (j*t.size)).take t.size,fun c hc'=>?_,hk (h3 j hj)⟩⟩⟩,fun _=>⟨g,_,cap,rfl⟩⟩
  rw[ZQ hc',Nat.zero_add]
  refine h1'.cellAt _ ?_
  have:(j+1)*t.size≤l.length*t.size:=XaE _ (by omega)
  rw[XaH]at this
  omega
theorem ZFJ {N N':Nat→Prop} {e:TypeId} {t:Ty} {l:List t.den} {v:Value} {F:List Nat} {kn:Bool} (h:ObRep w N val st (.sl e t l (.deep kn .no)) v F) (hF:∀b∈F,¬N' b) :
  Imm w N' (.sl t) l [v]∧(0<l.length→∃g n cap,v = .slice (some ⟨g,0,none⟩) n cap):=by
 obtain⟨_,e',xs,Fs,_,h2,h3,h4⟩:=h
 exact ZDc h2 (fun b hb=>hF b ((h3.all b).2 (.inl hb))) (fun j hj=>(h4 j hj).imm (fun b hb=>hF b ((h3.all b).2 (.inr ⟨j,hj,hb⟩))))
theorem ZNb {N N':Nat→Prop} {e:TypeId} {t:Ty} {l:List t.den} {v:Value} {F:List Nat} {kk:Int} (h:ObRep w N val st (.sl e t l (.mix kk)) v F) (hF:∀b∈F,¬N' b) (hk:∀{t:Ty} {d:t.den} {cs:List Value},Imm w N t d cs→Imm w N' t d cs) :
  Imm w N' (.sl t) l [v]∧(0<l.length→∃g n cap,v = .slice (some ⟨g,0,none⟩) n cap):=by
 obtain⟨_,xs,Fs,h2,h3,h4,h5⟩:=h
 refine ZDc h2 (fun b hb=>hF b ((h3.all b).2 (.inl hb))) (fun j hj=>?_)
 by_cases hjk:j<kk.toNat
 ·exact(h4 j hj hjk).imm (fun b hb=>hF b ((h3.all b).2 (.inr ⟨j,hjk,hb⟩)))
 ·exact hk (h5 j hj (by omega))
theorem ZIi (h:Objs Γ val fp st w) {x:Nat} {e:TypeId} {t:Ty} {l:List t.den} {kd:ZuI} (hx:lk st x=some (.sl e t l kd)) (hkd:Zq2 kd=false) :
  ∃fp',Step Γ val val fp fp' st (Z0 st x (.sl e t l .frozen)) w w:=by
 have hl:∀y,lk (Z0 st x (.sl e t l .frozen)) y=if y=x then some (.sl e t l .frozen)else lk st y:=fun y=>by rw[Zd4,hx];rfl
 refine⟨fun y=>if y=x then[]else fp y,h.step (fun y=>y=x) rfl rfl rfl (Nat.le_refl _) (Nat.le_refl _) (fun _ _ _=>rfl) (fun y o hy hn=>?_) (fun y o hy hn=>?_) (fun y o hy hn b hb=>?_) (fun y z o o' hne hy hz hn hn' b hb=>?_) (fun hkept hstay y o hy hn=>?_)⟩
 ·have hn:¬y=x:=hn
  rw[hl,if_neg hn];exact⟨hy,rfl,by simp[hn]⟩
 ·have hn:y=x:=hn
  subst hn
  rw[hx]at hy
  obtain rfl:=Option.some.inj hy
  exact⟨.sl e t l .frozen,by rw[hl,if_pos rfl],And.intro rfl (And.intro rfl rfl),rfl⟩
 ·have hyx:y=x:=by
   rcases hn with hn|hn
   ·rw[hl]at hy
    by_cases e:y=x
    ·exact e
    ·rw[if_neg e,hn]at hy;cases hy
   ·exact hn
  simp[hyx]at hb
 ·have hyx:y=x:=by
   rcases hn with hn|hn
   ·rw[hl]at hy
    by_cases e:y=x
    ·exact e
    ·rw[if_neg e,hn]at hy;cases hy
   ·exact hn
  simp[hyx]at hb
 ·have hyx:y=x:=by
   rcases hn with hn|hn
   ·rw[hl]at hy
    by_cases e:y=x
    ·exact e
    ·rw[if_neg e,hn]at hy;cases hy
   ·exact hn
  subst hyx
  rw[hl,if_pos rfl]at hy
  obtain rfl:=Option.some.inj hy
  have hr:=h.rep y _ hx
  refine⟨by simp,?_⟩
  have ZoO:∀b∈fp y,¬ZI Γ.X (Z0 st y (.sl e t l .frozen)) (fun z=>if z=y then[]else fp z) b:=fun b hb hn'=>by
   rcases hn' with hX|⟨z,oz,hz,hbz⟩
   ·exact(h.own y _ hx b hb).2.1 hX
   ·rw[hl]at hz
    by_cases e:z=y
    ·simp[e]at hbz
    ·rw[if_neg e]at hz
     simp[e]at hbz
     exact h.apart y z _ oz (fun e'=>e e'.symm) hx hz b hb hbz
  cases kd with
  |deep kn hh=>
   cases hh with
   |no=>exact ZFJ hr ZoO
   | _=>cases hkd
  |frozen=>exact⟨Imm.kept (t:=.sl t) hkept hr.2.1,hr.2.2⟩
  |mix kk=>exact ZNb hr ZoO (fun hi=>hi.kept hkept)
  |shallow=>exact ZAe hr ZoO (fun hi=>hi.kept hkept)
theorem Zhu:∀(ns:List Nat) {fp:Nat→List Nat} {st:St},Objs Γ val fp st w→∃fp',Step Γ val val fp fp' st (Zf6 st ns) w w
 |[],fp,_,h=>⟨fp,Step.refl h⟩
 |x::r,_,st,h=>by
  unfold Zf6
  split
  ·rename_i e t l kd hx
   split
   ·exact Zhu r h
   ·rename_i hk
    obtain⟨fp1,h1⟩:=ZIi h hx hk
    obtain⟨fp2,h2⟩:=Zhu r h1.objs
    exact⟨fp2,h1.trans h2⟩
  ·exact Zhu r h
theorem ZqM (h:Objs Γ val fp st w) {d:Nat} (hd:lk st d=none) {ob:Ob} {v:Value} {F:List Nat} (hos:w'.os=w.os) (htape:w'.tape=w.tape) (hout:w'.output=w.output) (hdr:w.drawn≤w'.drawn) (hs:w.heap.size≤w'.heap.size)
  (hblk:∀b,b<w.heap.size→w'.heap[b]? = w.heap[b]?) (hF:∀b∈F,w.heap.size≤b∧b<w'.heap.size)
  (hrep:∀{N':Nat→Prop} {val':Nat→Value},Kept w w' (ZI Γ.X st fp) N'→Stays val val' st ((d,ob)::st)→ObRep w' N' val' ((d,ob)::st) ob v F) :
  ∃val' fp',Step Γ val val' fp fp' st ((d,ob)::st) w w'∧val' d=v:=by
 refine⟨fun y=>if y=d then v else val y,fun y=>if y=d then F else fp y,h.step (fun _=>False) hos htape hout hdr hs (fun b hb _=>hblk b hb) (fun y o hy _=>?_) (fun _ _ _ hf=>hf.elim) (fun y o hy hn b hb=>?_) (fun y z o o' hne hy hz hn hn' b hb=>?_) (fun hkept hstay y o hy hn=>?_),by simp⟩
 ·have hne:y≠d:=fun e=>by rw[e,hd]at hy;cases hy
  rw[Z2,if_neg hne]
  exact⟨hy,by simp[hne],by simp[hne]⟩
 ·have hyd:y=d:=by
   rcases hn with hn|hn
   ·rw[Z2]at hy
    by_cases e:y=d
    ·exact e
    ·rw[if_neg e,hn]at hy;cases hy
   ·exact hn.elim
  simp[hyd]at hb
  obtain⟨h1,h2⟩:=hF b hb
  exact⟨h2,fun hlt=>by omega⟩
 ·have e1:∀{y:Nat} {o:Ob},lk ((d,ob)::st) y=some o→(lk st y=none∨False)→y=d:=fun {y o} hy hn=>by
   rcases hn with hn|hn
   ·rw[Z2]at hy
    by_cases e:y=d
    ·exact e
    ·rw[if_neg e,hn]at hy;cases hy
   ·exact hn.elim
  exact absurd ((e1 hy hn).trans (e1 hz hn').symm) hne
 ·have hyd:y=d:=by
   rcases hn with hn|hn
   ·rw[Z2]at hy
    by_cases e:y=d
    ·exact e
    ·rw[if_neg e,hn]at hy;cases hy
   ·exact hn.elim
  subst hyd
  rw[Z2,if_pos rfl]at hy
  obtain rfl:=Option.some.inj hy
  have:=hrep hkept hstay
  simpa using this
theorem Znj {d:Option Nat} {ob:Ob} {f:Nat→AV} (h:ZbD (Zig st d ob f) k):∃n,d=some n∧lk st n=none∧k (f n) ((n,ob)::st):=by
 unfold Zig at h
 split at h
 ·split at h
  ·rename_i n _ hn
   exact⟨n,rfl,hn,h⟩
  ·exact h.elim
 ·exact h.elim
theorem ZKh {N:Nat→Prop} {x:CV} {v:Value} (hg:good x=true) (h:CvRep w N val st x v):v.oneCell'=true:=by
 cases x with
 |int k n=>rw[h.1];rfl
 |bool b=>rw[show v=_ from h];rfl
 |kb b=>rw[show v=_ from h];rfl
 |str s=>rw[show v=_ from h];rfl
 |nil=>rw[show v=_ from h];rfl
 |imm t l=>obtain⟨A,cap,hv,_⟩:=h;simp at hv;rw[hv];rfl
 |own x=>obtain⟨⟨A,n,c,rfl⟩,_⟩:=h;rfl
 |iptr t d c=>obtain⟨b,o,es,rfl,_⟩:=h;rfl
 |eptr x i c=>obtain⟨⟨p,rfl⟩,_⟩:=h;rfl
 |ptr x c=>obtain⟨cs,g,_,_,rfl⟩:=h;rfl
 |view x i=>obtain⟨⟨A,n,c,rfl⟩,_⟩:=h;rfl
 |fn f cap=>obtain⟨vs,rfl,_⟩:=h;rfl
 |skip=>cases hg
 |undef=>cases hg
theorem ZBw {l l':List CV} (h:ZFa l=some l'):l'=l∧∀x∈l,good x=true:=by
 unfold ZFa at h
 split at h
 ·rename_i h1
  exact⟨by simpa using h.symm,by simpa using h1⟩
 ·cases h
theorem ZFu {N:Nat→Prop}:∀{l:List CV} {vs:List Value},(∀x∈l,good x=true)→All2 (CvRep w N val st) l vs→∀v∈vs,v.oneCell'=true
 |[],[],_,_,_,h=>by cases h
 |x::l,v::vs,hg,⟨h1,h2⟩,u,hu=>by
  cases hu with
  |head=>exact ZKh (hg x (by simp)) h1
  |tail _ hu=>exact ZFu (fun y hy=>hg y (by simp[hy])) h2 u hu
 |[],_::_,_,h,_,_=>h.elim
 |_::_,[],_,h,_,_=>h.elim
theorem Zpp {N:Nat→Prop} {x:AV} {cs:List CV} {v:Value} (hc:cellsOf x=some cs) (h:AvRep w N val st x v):All2 (CvRep w N val st) cs v.cells.toList∧(∀u∈v.cells.toList,u.oneCell'=true)∧∀y∈cs,good y=true:=by
 cases x with
 |c x=>
  obtain⟨rfl,hg⟩:=ZBw hc
  have h1:=ZKh (hg x (by simp)) h
  have hv:v.cells = #[v]:=by cases v<;>first|rfl|(simp[Value.oneCell']at h1)
  rw[hv]
  exact⟨⟨h,trivial⟩,by simpa using h1,hg⟩
 |agg l=>
  obtain⟨rfl,hg⟩:=ZBw hc
  obtain⟨vs,rfl,hr⟩:=h
  exact⟨hr,ZFu hg hr,hg⟩
 |tup l=>cases hc
theorem ZDO:∀{k:IntKind},same k k=true→inR k 0
 | .i64,_=>by simp[inR]
 | .u8,_=>by simp[inR]
 | .u64,_=>by simp[inR]
theorem ZwW {N:Nat→Prop}:∀{t:Ty},fine t=true→All2 (CvRep w N val st) (Zzl t) (Zpb t)
 | .int k,h=>⟨⟨rfl,ZDO h⟩,trivial⟩
 | .bool,_=>⟨rfl,trivial⟩
 | .str,_=>⟨rfl,trivial⟩
 | .sl t,_=>⟨rfl,trivial⟩
 | .pair a b,h=>by
  simp only[fine,Xae]at h
  exact(ZwW h.1).append (ZwW h.2)
theorem ZhN {N:Nat→Prop}:∀{t:Ty},fine t=true→Imm w N t t.dflt (Zpb t)
 | .int k,h=>And.intro rfl (ZDO h)
 | .bool,_=>rfl
 | .str,_=>rfl
 | .sl t,_=>⟨none,0,rfl,Nat.le_refl _,Nat.zero_le _,fun h=>absurd h (by simp[Ty.dflt])⟩
 | .pair a b,h=>by
  simp only[fine,Xae]at h
  exact⟨_,_,rfl,ZhN h.1,ZhN h.2⟩
theorem Zy7 (h:Sim Γ val fp ρ st a w) {n:Nat} (hn:lk st n=none) {cs:List CV} {cur:Array Value} {e:TypeId} {s:Sem Value} (hex:execOp a.eval o=(do pure (.value (←s))))
  (hr:s.run P w = .ok (.pointer (some ⟨w.heap.size,0,none⟩)) (w.alloc (.cells cur e))) (hrep:All2 (CvRep w (ZI Γ.X st fp) val st) cs cur.toList)
  (he:k (.c (.ptr n 0)) ((n,.rc cs)::st)) (hK:Fol Γ val fp st a w o k K):o.wp P a w K Q:=by
 obtain⟨val',fp',hstep,hv⟩:=ZqM (w':=w.alloc (.cells cur e)) h.toObjs hn (ob:=.rc cs) (v:=.pointer (some ⟨w.heap.size,0,none⟩)) (F:=[w.heap.size]) rfl rfl rfl (Nat.le_refl _) (by simp) (fun b hb=>Below.heap_alloc w _ b hb) (by simp)
  (fun hk hs=>⟨w.heap.size,cur,e,rfl,rfl,heap_alloc_new w _,hrep.mono (CvRep.kept hk hs)⟩)
 exact Zkq hex hr (hK _ _ _ _ _ _ he hstep ⟨cs,w.heap.size,by rw[Z2,if_pos rfl],hv,rfl⟩)
theorem ZHV (hT:ZbB P C.y) (h:Sim Γ val fp ρ st a w) {ty:TypeId} (ho:o.op = .alloc ty) (he:ZbD (Zby C ρ st o) k) (hK:Fol Γ val fp st a w o k K):o.wp P a w K Q:=by
 unfold Zby at he
 simp only[ho]at he
 split at he
 ·rename_i m e har
  obtain⟨_,_,i,z,hi,hz,hzc⟩:=hT.ar ty m e har
  split at he
  ·rename_i hm
   rw[Xae,Nat.ble_eq,Nat.ble_eq]at hm
   obtain⟨n,hd,hn,hk⟩:=Znj he
   have hlen:(List.replicate m (0:Int)).length=m:=XaG
   have hcs:z.cells.size=m:=by rw[←XbE,hzc,XaG]
   obtain⟨val',fp',hstep,hv⟩:=ZqM (w':=w.alloc (.cells z.cells ty)) h.toObjs hn (ob:=.sl ty (.int .i64) (List.replicate m (0:Int)) .shallow) (v:=.slice (some ⟨w.heap.size,0,none⟩) m m) (F:=[w.heap.size]) rfl rfl rfl (Nat.le_refl _) (by simp) (fun b hb=>Below.heap_alloc w _ b hb) (by simp)
    (fun hk _=>⟨z.cells.toList,by
     have:=World.ownsRow_lit (e:=ty) (size:=Ty.size (.int .i64)) w z.cells m (Nat.zero_le _) (by simp only[maxLen];omega) (by rw[hcs];simp[Ty.size])
     rw[hlen]
     exact this,by simp[Value.ownBlock],fun j hj=>by
     rw[hlen]at hj
     rw[hzc,List.drop_replicate,List.take_replicate,List.getElem_replicate,show min (Ty.size (.int .i64)) (m - j*Ty.size (.int .i64))=1 by simp only[Ty.size];omega]
     exact ZhN (t:=.int .i64) rfl⟩)
   refine Zkq (s:=Instr.alloc ty true (.tuple #[])) (by simp only[execOp,ho]) (v:=.pointer (some ⟨w.heap.size,0,none⟩)) (w':=w.alloc (.cells z.cells ty)) ?_ (hK _ _ _ _ _ _ hk hstep (And.intro ⟨_,rfl⟩ ⟨_,by rw[Z2,if_pos rfl],fun e2 t2 l2 k2 h2=>?_⟩))
   ·simp[Instr.alloc,zeroValue,typeInfo,hi,hz,newVar,newRow]
   ·cases h2
    exact⟨Xat _,by rw[hlen];omega,w.heap.size,m,m,hv,by simp⟩
  ·exact he.elim
 ·split at he
  ·rename_i hfn
   obtain⟨⟨i,z,hi,_,hz,hzs⟩,_⟩:=hT.fnT ty hfn
   obtain⟨n,hd,hn,hk⟩:=Znj he
   refine Zy7 h hn (s:=Instr.alloc ty true (.tuple #[])) (by simp only[execOp,ho]) (cur:=z.cells) (e:=ty) ?_ ?_ hk hK
   ·simp[Instr.alloc,zeroValue,typeInfo,hi,hz,newVar,newRow]
   ·have:z.cells.toList.length=1:=by rw[XbE,hzs]
    match hq:z.cells.toList,this with
    |[v],_=>exact⟨trivial,trivial⟩
  ·split at he
   ·rename_i t ht
    obtain⟨n,hd,hn,hk⟩:=Znj he
    obtain⟨i,z,d,hi,hsz,hz,hzc,_,_,_,hf⟩:=hT.ty ty t ht
    refine Zy7 h hn (s:=Instr.alloc ty true (.tuple #[])) (by simp only[execOp,ho]) (cur:=z.cells) (e:=ty) ?_ (by rw[hzc];exact ZwW hf) hk hK
    simp[Instr.alloc,zeroValue,typeInfo,hi,hz,newVar,newRow]
   ·exact he.elim
theorem ZBk {N:Nat→Prop}:∀{cs:List CV} {l:List Int} {vs:List Value},Zx2 cs=some l→All2 (CvRep w N val st) cs vs→∀j,j<l.length→vs[j]? = some (.int .i64 (l.getD j 0))∧inR .i64 (l.getD j 0)
 |[],l,vs,h,_,j,hj=>by
  simp only[Zx2]at h
  cases h
  simp at hj
 |c::cs,l,vs,h,h2,j,hj=>by
  unfold Zx2 at h
  split at h
  ·cases h;simp at hj
  ·rename_i n r heq
   cases heq
   split at h
   ·rename_i l' hl'
    cases h
    match vs,h2 with
    |v::vs,⟨⟨e,hr⟩,h4⟩=>
     cases j with
     |zero=>exact⟨by rw[e];rfl,hr⟩
     |succ j=>exact ZBk hl' h4 j (by simpa using hj)
   ·cases h
  ·cases h
theorem ZHY (hT:ZbB P C.y) (h:Sim Γ val fp ρ st a w) {t:TypeId} {x i:Operand} (ho:o.op = .index t x i) (he:ZbD (Zby C ρ st o) k) (hK:FolS Γ val fp st a w o k K):o.wp P a w K Q:=by
 have hx:=ZU h x
 have hi:=ZU h i
 unfold Zby at he
 simp only[ho]at he
 split at he
 ·rename_i m e cs n har h1 h2
  rw[h1]at hx;rw[h2]at hi
  obtain⟨hu,hte,_⟩:=hT.ar t m e har
  split at he
  ·rename_i l hl
   obtain⟨⟨⟨h6,h7⟩,h8⟩,h9⟩:=he
   obtain⟨vs,hv,hall⟩:=hx
   obtain⟨g1,g2⟩:=ZBk hl hall n.toNat (by omega)
   obtain⟨jj,z,d,hj,hsz,_,_,_,hue,hd,_⟩:=hT.ty e _ hte
   have hd:d = .int .i64:=hd
   subst hd
   have hsz:jj.size=1:=hsz
   refine Zkq (s:=Instr.index t (a.eval x) (a.eval i)) (by simp only[execOp,ho]) (v:=.int .i64 (l.getD n.toNat 0)) ?_ (hK.same h.toObjs h9 (And.intro rfl g2))
   rw[hv,hi.1]
   have g3:vs[n.toNat]? = some (.int .i64 (l.getD n.toNat 0)):=by rw[←Xbv];exact g1
   simp[Instr.index,asIntOf,run_underlying hu,h6,h7,sizeOf,typeInfo,hj,hsz,part,isAgg,run_underlying hue,g3]
  ·exact he.elim
 ·exact he.elim
theorem ZKX (h:Sim Γ val fp ρ st a w) {ty:TypeId} {x:Operand} (ho:o.op = .box ty x) (he:ZbD (Zby C ρ st o) k) (hK:Fol Γ val fp st a w o k K):o.wp P a w K Q:=by
 have hx:=ZU h x
 unfold Zby at he
 simp only[ho]at he
 split at he
 ·rename_i t cs ht hcs
  obtain⟨n,hd,hn,hk⟩:=Znj he
  obtain⟨h1,_,_⟩:=Zpp hcs hx
  refine Zy7 h hn (s:=Instr.box ty (a.eval x)) (by simp only[execOp,ho]) (cur:=(a.eval x).cells) (e:=ty) ?_ h1 hk hK
  simp[Instr.box,newVar,newRow]
 ·exact he.elim
end
end Go.AE
namespace Go.AE
open Go Go.RowKit
theorem ZFX (off:Nat):∀(vs:List Value) (k:Nat) (cells:Array Value),off+k+vs.length≤cells.size →
  ((vs.zipIdx k).foldl (fun cs (x:Value×Nat)=>cs.setIfInBounds (off+x.2) x.1) cells).toList=cells.toList.take (off+k)++vs++cells.toList.drop (off+k+vs.length)
 |[],k,cells,h=>by simp
 |v::vs,k,cells,h=>by
  simp only[Xaq]at h
  rw[List.zipIdx_cons,Xa9,ZFX off vs (k+1) _ (by simp;omega)]
  have hlen:off+k<cells.toList.length:=by simp;omega
  simp only[Array.toList_setIfInBounds,Xaq]
  rw[show off+(k+1)=off+k+1 from by omega,List.drop_set_of_lt (by omega),List.take_succ_eq_append_getElem (by simpa using hlen),List.take_set_of_le (by omega)]
  simp only[Xbw,XaK,List.cons_append,Xau]
  congr 3
  congr 1
  omega
theorem ZFU {place:Nat→Option (Nat×Nat)} {cells:Array Value} {i off size:Nat} {v:Value} {rest:List (Nat×Value)} (hp:place i=some (off,size)) (hs:v.cells.size=size) (hfit:off+size≤cells.size) :
  ∃cells',Instr.fill place cells ((i,v)::rest)=Instr.fill place cells' rest∧cells'.toList=cells.toList.take off++v.cells.toList++cells.toList.drop (off+size):=by
 subst hs
 refine⟨_,?_,ZFX off v.cells.toList 0 cells (by simpa using hfit)⟩
 rw[Instr.fill]
 simp only[hp]
 rw[if_neg (by simp;omega)]
 congr 1
 rw[←Array.foldl_toList,Array.toList_zipIdx]
section
variable {P:Program} {C:Cfg} {Γ:Ctx} {val val' val'':Nat→Value} {fp fp' fp'':Nat→List Nat} {ρ:Env} {st st' st'':St} {a:Act} {w w' w'':World} {o:Oper} {k:AV→St→Prop} {K:Act→World→Prop} {Q:Exit→Act→World→Prop}
theorem Zy2 (hT:ZbB P C.y) (h:Sim Γ val fp ρ st a w) {fl:List (Nat×TypeId)} {places:Array (Nat×Nat)} (hpl:∀(i off:Nat) (ty:TypeId) (t:Ty),fl[i]? = some (off,ty)→lk C.y.ty ty=some t→places[i]? = some (off,t.size)) :
  ∀(ps:List (Nat×Operand)) {cs cs':List CV} {cells:Array Value},ZtJ C.y fl ρ cs ps=some cs'→All2 (CvRep w (ZI Γ.X st fp) val st) cs cells.toList →
   ∃cells',Instr.fill (places[·]?) cells (ps.map fun (i,x)=>(i,a.eval x))=some cells'∧All2 (CvRep w (ZI Γ.X st fp) val st) cs' cells'.toList
 |[],cs,cs',cells,h1,hr=>by
  simp[ZtJ]at h1
  subst h1
  exact⟨cells,rfl,hr⟩
 |(i,x)::r,cs,cs',cells,h1,hr=>by
  unfold ZtJ at h1
  split at h1
  ·rename_i off ty v hfl hv
   split at h1
   ·rename_i t ht
    split at h1
    ·rename_i hsz
     have hsz:=ZR.1 hsz
     split at h1
     ·rename_i hle
      have hle:off+v.length≤cs.length:=Xbd hle
      obtain⟨p1,p2,p3⟩:=Zpp hv (ZU h x)
      have hl1:=p1.length
      have hl2:=hr.length
      obtain⟨cells1,q1,q2⟩:=ZFU (rest:=r.map fun (i,x)=>(i,a.eval x)) (hpl i off ty t hfl ht) (v:=a.eval x) (cells:=cells) (by simpa using hl1.symm.trans hsz) (by simp at hl2;omega)
      obtain⟨cells',q3,q4⟩:=Zy2 hT h hpl r (cells:=cells1) h1 (by
       rw[q2]
       exact((hr.take off).append p1).append (by rw[hsz];exact hr.drop _))
      exact⟨cells',by rw[XaQ];exact q1.trans q3,q4⟩
     ·cases h1
    ·cases h1
   ·cases h1
  ·cases h1
theorem ZHW (hT:ZbB P C.y) (h:Sim Γ val fp ρ st a w) {ty:TypeId} {ps:Array (Nat×Operand)} (ho:o.op = .build ty ps) (he:ZbD (Zby C ρ st o) k) (hK:Fol Γ val fp st a w o k K):o.wp P a w K Q:=by
 unfold Zby at he
 simp only[ho]at he
 split at he
 ·rename_i t fl ht hfl
  split at he
  ·rename_i cs hcs
   obtain⟨i,z,d,hi,hsz,hz,hzc,_,hu,_,hf⟩:=hT.ty ty t ht
   obtain⟨fs,hu',hlen,hfs⟩:=hT.fl ty fl hfl
   have hex:∀f∈fs.toList,∃j,P.info? f.type=some j:=by
    intro f hf'
    obtain⟨n,hn,hfn⟩:=Xan.1 hf'
    have hn':n<fl.length:=by rw[←hlen];simpa using hn
    obtain⟨f',h1,_,h3,j,h4,_⟩:=hfs n fl[n].1 fl[n].2 (Xac hn')
    have:f'=f:=by
     have h1':fs.toList[n]? = some f':=by simpa using h1
     rw[Xac hn,hfn]at h1'
     exact(Option.some.inj h1').symm
    subst this
    exact⟨j,by rw[h3];exact h4⟩
   have hpl:∀(l:List Field),(∀f∈l,∃j,P.info? f.type=some j)→∃places:List (Nat×Nat),l.mapM (fun f=>(P.info? f.type).map fun i=>(f.offset,i.size))=some places ∧
     ∀(n:Nat) (f:Field) (j:TypeInfo),l[n]? = some f→P.info? f.type=some j→places[n]? = some (f.offset,j.size):=by
    intro l
    induction l with
    |nil=>exact fun _=>⟨[],rfl,fun n f j hn=>by simp at hn⟩
    |cons f l ih=>
     intro hall
     obtain⟨j,hj⟩:=hall f (by simp)
     obtain⟨pl,h1,h2⟩:=ih (fun g hg=>hall g (by simp[hg]))
     refine⟨(f.offset,j.size)::pl,by simp[List.mapM_cons,hj,h1],fun n g j' hn hj'=>?_⟩
     cases n with
     |zero=>
      simp at hn
      subst hn
      rw[hj]at hj'
      obtain rfl:=Option.some.inj hj'
      rfl
     |succ n=>exact h2 n g j' (by simpa using hn) hj'
   obtain⟨places,hm,hplaces⟩:=hpl fs.toList hex
   obtain⟨cells',h1,h2⟩:=Zy2 hT h (places:=places.toArray) (fun i off fty ft e1 e2=>by
    obtain⟨f,k1,k2,k3,j,k4,_⟩:=hfs i off fty e1
    obtain⟨i',_,_,hi',hsz',_⟩:=hT.ty fty ft e2
    have:=hplaces i f i' (by simpa using k1) (by rw[k3];exact hi')
    simpa [k2,hsz']using this) ps.toList (cells:=z.cells) hcs (by rw[hzc];exact ZwW hf)
   refine Zkq (s:=Instr.build ty (ps.map fun (i,x)=>(i,a.eval x))) (by simp only[execOp,ho]) (v:=.agg cells') ?_ (hK.same h.toObjs he ⟨cells',rfl,h2⟩)
   refine run_build w ty _ cells' ?_
   unfold Program.built
   simp only[hi,hu',hz,hm]
   simpa using h1
  ·exact he.elim
 ·exact he.elim
end
end Go.AE
namespace Go.AE
open Go Go.RowKit
section
variable {P:Program} {C:Cfg} {Γ:Ctx} {val val' val'':Nat→Value} {fp fp' fp'':Nat→List Nat} {ρ:Env} {st st' st'':St} {a:Act} {w w' w'':World} {o:Oper} {k:AV→St→Prop} {K:Act→World→Prop} {Q:Exit→Act→World→Prop}
theorem ZtA {x:Nat}:∀{l:List CV},x∈ZeZ l↔∃n,CV.own x n∈l
 |[]=>by simp[ZeZ]
 |y::l=>by
  have ih:=ZtA (x:=x) (l:=l)
  cases y with
  |own z n=>
   constructor
   ·intro h
    rcases XaA.1 (show x∈z::ZeZ l from h)with rfl|h
    ·exact⟨n,Xas⟩
    ·obtain⟨m,hm⟩:=ih.1 h
     exact⟨m,Xao _ hm⟩
   ·rintro⟨m,hm⟩
    show x∈z::ZeZ l
    rcases XaA.1 hm with e|hm
    ·cases e;exact Xas
    ·exact Xao _ (ih.2 ⟨m,hm⟩)
  |_=>simp[ZeZ,ih]
theorem ZmQ {x:Nat} {e:TypeId} {t:Ty} {l:List t.den}:∀(ns:List Nat) {st:St} {kd:ZuI},Zq2 kd=false→lk st x=some (.sl e t l kd)→(x∈ns∨kd = .frozen→lk (Zf6 st ns) x=some (.sl e t l .frozen))∧(x∉ns→lk (Zf6 st ns) x=some (.sl e t l kd))
 |[],st,kd,_,h=>⟨fun hx=>by rcases hx with hx|rfl;(cases hx);exact h,fun _=>h⟩
 |y::ns,st,kd,hk,h=>by
  unfold Zf6
  split
  ·rename_i e' t' l' kd' hy
   split
   ·rename_i hk'
    have hxy:x≠y:=fun e0=>by subst e0;rw[h]at hy;cases hy;rw[hk]at hk';cases hk'
    have ih:=ZmQ ns hk h
    exact⟨fun hx=>ih.1 (hx.imp (fun hx=>(XaA.1 hx).resolve_left hxy) id),fun hn=>ih.2 (fun hm=>hn (Xao _ hm))⟩
   ·by_cases hxy:x=y
    ·subst hxy
     rw[h]at hy
     cases hy
     have h1:lk (Z0 st x (.sl e t l .frozen)) x=some (.sl e t l .frozen):=by rw[Zd4,if_pos rfl,h];rfl
     have ih:=ZmQ ns (kd:=.frozen) rfl h1
     exact⟨fun _=>ih.1 (.inr rfl),fun hn=>absurd (Xas) hn⟩
    ·have h1:lk (Z0 st y (.sl e' t' l' .frozen)) x=some (.sl e t l kd):=by rw[Zd4,if_neg hxy];exact h
     have ih:=ZmQ ns hk h1
     exact⟨fun hx=>ih.1 (hx.imp (fun hx=>(XaA.1 hx).resolve_left hxy) id),fun hn=>ih.2 (fun hm=>hn (Xao _ hm))⟩
  ·rename_i hy
   have hxy:x≠y:=fun e0=>by subst e0;exact hy _ _ _ _ h
   have ih:=ZmQ ns hk h
   exact⟨fun hx=>ih.1 (hx.imp (fun hx=>(XaA.1 hx).resolve_left hxy) id),fun hn=>ih.2 (fun hm=>hn (Xao _ hm))⟩
theorem Zuf {N:Nat→Prop} {t t':Ty} {l':List t'.den} {l:List t.den} {vs:List Value} (hc:ZfT t t' l'=some l) (h:Imm w N (.sl t') l' vs):Imm w N (.sl t) l vs:=by
 unfold ZfT at hc
 split at hc
 ·rename_i e _
  subst e
  cases hc
  exact h
 ·cases hc
theorem Ze4 {t t':Ty} {l':List t'.den} {l:List t.den} (hc:ZfT t t' l'=some l):∃h:t'=t,l=h▸l':=by
 unfold ZfT at hc
 split at hc
 ·rename_i e _
  exact⟨e,(Option.some.inj hc).symm⟩
 ·cases hc
theorem ZsG (h:Objs Γ val fp st w) {x:Nat} {n:Bool} {v:Value} (hv:CvRep w (ZI Γ.X st fp) val st (.own x n) v) {e:TypeId} {t:Ty} {l:List t.den} (hx:lk st x=some (.sl e t l .frozen)):Imm w (ZI Γ.X st fp) (.sl t) l [v]:=by
 obtain⟨h1,h2⟩:=Zbk (v:=v) h hv hx
 rw[h1]
 exact h2.2.1
theorem ZwG (h:Objs Γ val fp st' w):∀{t:Ty} {cs:List CV} {d:t.den} {vs:List Value},ZuS st t cs=some d →
  (∀x n,CV.own x n∈cs→∀e t l kd,Zq2 kd=false→lk st x=some (.sl e t l kd)→lk st' x=some (.sl e t l .frozen))→All2 (CvRep w (ZI Γ.X st' fp) val st') cs vs→Imm w (ZI Γ.X st' fp) t d vs:=by
 intro t
 induction t with
 |int k=>
  intro cs d vs h1 _ hr
  have h1:ofInt k cs=some d:=h1
  unfold ofInt at h1
  split at h1
  ·rename_i k' n
   split at h1
   ·rename_i hs
    have:=Zzv hs
    subst this
    cases h1
    match vs,hr with
    |[v],hr=>
     obtain⟨h2,h3⟩:=hr.1
     subst h2
     exact And.intro rfl h3
   ·cases h1
  ·cases h1
 |bool=>
  intro cs d vs h1 _ hr
  have h1:ZyM cs=some d:=h1
  unfold ZyM at h1
  split at h1<;>first|(cases h1;done)|skip
  all_goals
   cases h1
   match vs,hr with
   |[v],hr=>
    have:=hr.1
    rw[show v=_ from this]
    rfl
 |str=>
  intro cs d vs h1 _ hr
  have h1:ZBV cs=some d:=h1
  unfold ZBV at h1
  split at h1<;>first|(cases h1;done)|skip
  cases h1
  match vs,hr with
  |[v],hr=>
   have:=hr.1
   rw[show v=_ from this]
   rfl
 |sl t ih=>
  intro cs d vs h1 hf hr
  have h1:ZMo st t cs=some d:=h1
  unfold ZMo at h1
  split at h1
  ·cases h1
   match vs,hr with
   |[v],hr=>
    have:=hr.1
    rw[show v=_ from this]
    exact⟨none,0,rfl,Nat.le_refl _,Nat.zero_le _,fun h=>absurd h (by simp)⟩
  ·match vs,hr with
   |[v],hr=>exact Zuf h1 hr.1
  ·split at h1
   ·rename_i e t' l kd hx
    split at h1
    ·cases h1
    ·rename_i hk
     match vs,hr with
     |[v],hr=>exact Zuf h1 (ZsG h hr.1 (hf _ _ Xas _ _ _ _ hk hx))
   ·cases h1
  ·cases h1
 |pair a b iha ihb=>
  intro cs d vs h1 hf hr
  unfold ZuS at h1
  split at h1
  ·rename_i x hx
   split at h1
   ·rename_i y hy
    cases h1
    exact⟨vs.take a.size,vs.drop a.size,(List.take_append_drop _ _).symm,iha hx (fun z n hz=>hf z n (List.mem_of_mem_take hz)) (hr.take _),ihb hy (fun z n hz=>hf z n (List.mem_of_mem_drop hz)) (hr.drop _)⟩
   ·cases h1
  ·cases h1
theorem ZsU {N:Nat→Prop}:∀{t:Ty} {d:t.den} {cs:List Value},Imm w N t d cs→∀v∈cs,v.oneCell'=true
 | .int _,_,_,h,v,hv=>by rw[h.1]at hv;simp at hv;subst hv;rfl
 | .bool,_,_,h,v,hv=>by rw[show _=_ from h]at hv;simp at hv;subst hv;rfl
 | .str,_,_,h,v,hv=>by rw[show _=_ from h]at hv;simp at hv;subst hv;rfl
 | .sl _,_,_,h,v,hv=>by obtain⟨A,cap,rfl,_⟩:=h;simp at hv;subst hv;rfl
 | .pair _ _,_,_,h,v,hv=>by
  obtain⟨c1,c2,rfl,h1,h2⟩:=h
  rcases List.mem_append.1 hv with h|h
  ·exact ZsU h1 v h
  ·exact ZsU h2 v h
theorem ZB6 (h:Objs Γ val fp st' w):∀{t:Ty} {d d':t.den} {c:Nat} {x:CV} {v:Value} {es:List Value},Zvw st t d c [x]=some d' →
  (∀y n,CV.own y n∈[x]→∀e t l kd,Zq2 kd=false→lk st y=some (.sl e t l kd)→lk st' y=some (.sl e t l .frozen))→CvRep w (ZI Γ.X st' fp) val st' x v→Imm w (ZI Γ.X st' fp) t d es→Imm w (ZI Γ.X st' fp) t d' (es.set c v)∧c<t.size:=by
 have one:∀{t:Ty} {d d':t.den} {c:Nat} {x:CV} {v:Value} {es:List Value},(∀a b,t ≠ .pair a b)→Zvw st t d c [x]=some d'→c=0∧ZuS st t [x]=some d':=by
  intro t d d' c x v es ht h1
  cases t<;>cases c<;>first|(exact absurd rfl (ht _ _))|(exact⟨rfl,h1⟩)|(cases h1)
 intro t
 induction t with
 |pair a b iha ihb=>
  intro d d' c x v es h1 hf hr hi
  obtain⟨c1,c2,rfl,i1,i2⟩:=hi
  have l1:=i1.length
  unfold Zvw at h1
  split at h1
  ·rename_i hlt
   have hlt:=Zeq hlt
   split at h1
   ·rename_i y hy
    cases h1
    obtain⟨p1,p2⟩:=iha hy hf hr i1
    rw[List.set_append,if_pos (by omega)]
    exact⟨⟨_,_,rfl,p1,i2⟩,by simp only[Ty.size];omega⟩
   ·cases h1
  ·rename_i hlt
   have hge:a.size≤c:=by
    rcases Xag c a.size with h0|h0
    ·rw[show Nat.blt c a.size=true from by simpa [Nat.blt_eq]using h0]at hlt;cases hlt
    ·exact h0
   split at h1
   ·rename_i y hy
    cases h1
    obtain⟨p1,p2⟩:=ihb hy hf hr i2
    rw[List.set_append,if_neg (by omega),l1]
    exact⟨⟨_,_,rfl,i1,p1⟩,by simp only[Ty.size];omega⟩
   ·cases h1
 |_=>
  intro d d' c x v es h1 hf hr hi
  obtain⟨rfl,h2⟩:=one (v:=v) (es:=es) (by intros;simp) h1
  have hl:=hi.length
  refine⟨?_,by simp[Ty.size]⟩
  have h3:=ZwG h h2 hf (vs:=[v]) ⟨hr,trivial⟩
  match es,hl with
  |[u],_=>exact h3
theorem ZGY (h:Objs Γ val fp st w) {x g c:Nat} {old cs:List CV} {vs:List Value} (hx:lk st x=some (.rc old)) (hg:val x = .pointer (some ⟨g,0,none⟩)) (hr:All2 (CvRep w (ZI Γ.X st fp) val st) cs vs)
  (h1:∀v∈vs,v.oneCell'=true) (hfit:c+cs.length≤old.length) :
  ∃w',(storeCells ⟨g,c,none⟩ vs 0).run P w = .ok () w'∧Step Γ val val fp fp st (Z0 st x (.rc (old.take c++cs++old.drop (c+cs.length)))) w w':=by
 obtain⟨g',cur,e,r1,r2,r3,r4⟩:=h.rep x _ hx
 rw[hg]at r1
 obtain rfl:g=g':=by simpa using r1
 have hl:=hr.length
 have hl2:=r4.length
 have hrun:=run_storeCells_at (P:=P) g c e vs 0 cur w r3 (by simp at hl2;omega) h1
 rw[XbX,←hl]at hrun
 refine⟨_,hrun,?_⟩
 have hlk:∀y,lk (Z0 st x (.rc (old.take c++cs++old.drop (c+cs.length)))) y=if y=x then some (.rc (old.take c++cs++old.drop (c+cs.length)))else lk st y:=fun y=>by rw[Zd4,hx];rfl
 have only:∀{y:Nat} {ob:Ob},lk (Z0 st x (.rc (old.take c++cs++old.drop (c+cs.length)))) y=some ob→(lk st y=none∨y=x)→y=x:=fun {y ob} hy hn=>by
  rcases hn with hn|hn
  ·rw[hlk]at hy
   by_cases e0:y=x
   ·exact e0
   ·rw[if_neg e0,hn]at hy;cases hy
  ·exact hn
 refine h.step (fun y=>y=x) rfl rfl rfl (Nat.le_refl _) (by simp) (fun b hb hn=>setRow_other w g b _ (fun e0=>hn x _ rfl hx (by rw[r2];simp[e0]))) (fun y ob hy hn=>?_) (fun y ob hy hn=>?_) (fun y ob hy hn b hb=>?_) (fun y z o1 o2 hne hy hz hn hn' b hb=>?_) (fun hkept hstay y ob hy hn=>?_)
 ·have hn:¬y=x:=hn
  rw[hlk,if_neg hn];exact⟨hy,rfl,rfl⟩
 ·have hn:y=x:=hn
  subst hn
  rw[hx]at hy
  obtain rfl:=Option.some.inj hy
  exact⟨.rc (old.take c++cs++old.drop (c+cs.length)),by rw[hlk,if_pos rfl],(show Compat (.rc old) (.rc _) from trivial),rfl⟩
 ·obtain rfl:=only hy hn
  obtain⟨p1,p2⟩:=h.own y _ hx b hb
  exact⟨by simpa using p1,fun _=>⟨y,_,rfl,hx,hb⟩⟩
 ·exact absurd ((only hy hn).trans (only hz hn').symm) hne
 ·obtain rfl:=only hy hn
  rw[hlk,if_pos rfl]at hy
  obtain rfl:=Option.some.inj hy
  refine⟨g,_,e,hg,r2,setRow_heap w g cur _ e _ r3,?_⟩
  have k4:=r4.mono (CvRep.kept hkept hstay)
  have kr:=hr.mono (CvRep.kept hkept hstay)
  have:=((k4.take c).append kr).append (k4.drop (c+cs.length))
  rw[List.toList_toArray]
  exact this
theorem ZMB (h:Objs Γ val fp st w) {x g c n cap i:Nat} {e:TypeId} {t:Ty} {l:List t.den} {d:t.den} {v:Value} (hx:lk st x=some (.sl e t l .shallow)) (hg:val x = .slice (some ⟨g,0,none⟩) n cap)
  (hi:i<l.length) (h1:v.oneCell'=true) (hc:c<t.size) (hd:∀es,Imm w (ZI Γ.X st fp) t l[i] es→Imm w (ZI Γ.X st fp) t d (es.set c v)) :
  (storeCells ⟨g,i*t.size+c,none⟩ [v] 0).run P w = .ok () (w.setCell ⟨g,i*t.size+c,none⟩ v)∧Step Γ val val fp fp st (Z0 st x (.sl e t (l.set i d) .shallow)) w (w.setCell ⟨g,i*t.size+c,none⟩ v):=by
 obtain⟨xs,s1,s2,s3⟩:=h.rep x _ hx
 rw[hg]at s1 s2
 have hnl:n=l.length:=by
  rcases s1.2 with⟨h0,_⟩|⟨g',cap',cur,h0,_⟩
  ·simp at h0
  ·simp at h0;exact h0.2.1
 subst hnl
 have hin:i*t.size+c<l.length*t.size:=by
  have:(i+1)*t.size≤l.length*t.size:=XaE _ (by omega)
  rw[XaH]at this
  omega
 have hcell:=s1.cellAt _ hin
 have hxl:xs.length=l.length*t.size:=s1.1
 rw[Xac (by omega)]at hcell
 have hfro:=s1.frozenAt (i*t.size+c)
 obtain⟨k1,k2⟩:=s1.stored (i*t.size+c) v
 refine⟨?_,?_⟩
 ·simp[storeCells,run_store P w _ v _ h1,hcell,hfro,Addr.add_zero']
 have hlk:∀y,lk (Z0 st x (.sl e t (l.set i d) .shallow)) y=if y=x then some (.sl e t (l.set i d) .shallow)else lk st y:=fun y=>by rw[Zd4,hx];rfl
 have only:∀{y:Nat} {ob:Ob},lk (Z0 st x (.sl e t (l.set i d) .shallow)) y=some ob→(lk st y=none∨y=x)→y=x:=fun {y ob} hy hn=>by
  rcases hn with hn|hn
  ·rw[hlk]at hy
   by_cases e0:y=x
   ·exact e0
   ·rw[if_neg e0,hn]at hy;cases hy
  ·exact hn
 refine h.step (fun y=>y=x) rfl rfl rfl (Nat.le_refl _) (by simp) (fun b hb hn=>k2.block b hb (fun e0=>hn x _ rfl hx (by rw[s2];simp[Value.ownBlock]at e0 ⊢;exact e0))) (fun y ob hy hn=>?_) (fun y ob hy hn=>?_) (fun y ob hy hn b hb=>?_) (fun y z o1 o2 hne hy hz hn hn' b hb=>?_) (fun hkept hstay y ob hy hn=>?_)
 ·have hn:¬y=x:=hn
  rw[hlk,if_neg hn];exact⟨hy,rfl,rfl⟩
 ·have hn:y=x:=hn
  subst hn
  rw[hx]at hy
  obtain rfl:=Option.some.inj hy
  exact⟨.sl e t (l.set i d) .shallow,by rw[hlk,if_pos rfl],And.intro rfl (And.intro rfl (by simp)),rfl⟩
 ·obtain rfl:=only hy hn
  obtain⟨p1,p2⟩:=h.own y _ hx b hb
  exact⟨by simpa using p1,fun _=>⟨y,_,rfl,hx,hb⟩⟩
 ·exact absurd ((only hy hn).trans (only hz hn').symm) hne
 ·obtain rfl:=only hy hn
  rw[hlk,if_pos rfl]at hy
  obtain rfl:=Option.some.inj hy
  refine⟨xs.set (i*t.size+c) v,by rw[Xam,hg];exact k1,by rw[hg];exact s2,fun j hj=>?_⟩
  have hj':j<l.length:=by simpa using hj
  have hseg:((xs.set (i*t.size+c) v).drop (j*t.size)).take t.size=if j=i then((xs.drop (i*t.size)).take t.size).set c v else(xs.drop (j*t.size)).take t.size:=by
   apply Xbb
   intro q
   by_cases hq:q<t.size
   ·rw[ZQ hq]
    by_cases hji:j=i
    ·subst hji
     rw[if_pos rfl,List.getElem?_set,List.getElem?_set,ZQ hq]
     by_cases hcq:c=q
     ·subst hcq
      rw[if_pos rfl,if_pos rfl,if_pos (by omega),if_pos (by simp;omega)]
     ·rw[if_neg (by omega),if_neg hcq]
    ·rw[if_neg hji,ZQ hq,List.getElem?_set,if_neg]
     intro e0
     rcases Nat.lt_or_gt_of_ne hji with hlt|hlt
     ·have:=XaE t.size (show j+1≤i by omega)
      rw[XaH]at this
      omega
     ·have:=XaE t.size (show i+1≤j by omega)
      rw[XaH]at this
      omega
   ·rw[XaD,if_neg hq]
    by_cases hji:j=i
    ·rw[if_pos hji,Xaw (by simp;omega)]
    ·rw[if_neg hji,XaD,if_neg hq]
  rw[hseg]
  by_cases hji:j=i
  ·subst hji
   rw[if_pos rfl]
   simp only[Xbw]
   exact(hd _ (s3 j hj')).kept hkept
  ·rw[if_neg hji]
   rw[XbF (fun e0=>hji e0.symm)]
   exact(s3 j hj').kept hkept
end
end Go.AE
