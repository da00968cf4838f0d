/-
  An abstract evaluator of the model's Code over typed data (definitions alone): values, a small named store, what each operation does. Its soundness stands in the texts behind it.
-/
import Derived.WalkKit
namespace Go.AE
open Go

/-! ### Types of data, and their Lean types -/
inductive Ty where
  | int (k : IntKind) | bool | str | sl (t : Ty) | pair (a b : Ty)
  deriving DecidableEq

@[reducible] def Ty.den : Ty → Type
  | .int _ => Int
  | .bool => Bool
  | .str => List UInt8
  | .sl t => List t.den
  | .pair a b => a.den × b.den

def Ty.size : Ty → Nat
  | .pair a b => a.size + b.size
  | _ => 1

def Ty.dflt : (t : Ty) → t.den
  | .int _ => (0 : Int)
  | .bool => false
  | .str => ([] : List UInt8)
  | .sl _ => []
  | .pair a b => (a.dflt, b.dflt)

/-! ### Abstract values -/
inductive CV where
  | int (k : IntKind) (n : Int)
  | bool (b : Bool)
  | kb (b : Bool)
  | str (s : List UInt8)
  | nil
  | imm (t : Ty) (l : List t.den)
  | own (x : Nat) (n : Bool)
  | iptr (t : Ty) (d : t.den) (c : Nat)
  | eptr (x : Nat) (i : Int) (c : Nat)
  | ptr (x : Nat) (c : Nat)
  | view (x : Nat) (i : Int)
  | fn (f : FuncId) (cap : List Nat)
  | skip
  | undef

inductive AV where
  | c (x : CV)
  | agg (l : List CV)
  | tup (l : List AV)

/-- Which parts of a row of rows are out under names of their own: none, or cells of element i. -/
inductive Hole where | no | at (i lo n base : Nat)

inductive Kind where | deep (known : Bool) (h : Hole) | shallow | frozen

/-- Parts are out. -/
def openK : Kind → Bool
  | .deep _ (.at _ _ _ _) => true
  | _ => false

inductive Ob where
  | sl (e : TypeId) (t : Ty) (l : List t.den) (k : Kind)
  | rc (cs : List CV)
  | dead

abbrev St := List (Nat × Ob)

inductive Eff : Type 1 where
  | fail
  | ret (v : AV) (st : St)
  | req (p : Prop) (v : AV) (st : St)
  | br (b : Bool) (v1 v2 : AV) (st : St)
  | nilt (p : Prop) (st : St)
  | niln (p : Prop) (st : St)
  | ite (b : Bool) (e1 e2 : Eff)
  | any (α : Type) (f : α → Eff)
  | need (p : Prop) (e : Eff)
  | hyp (p : Prop) (v : AV) (st : St)
  | opt (α : Type) (o : Option α) (f : α → Eff)

def lk {α : Type _} : List (Nat × α) → Nat → Option α
  | [], _ => none
  | (a, b) :: r, k => match Nat.beq a k with | true => some b | false => lk r k

/-- The entry of a name replaced (nothing where there is none). -/
def sput {α : Type _} : List (Nat × α) → Nat → α → List (Nat × α)
  | [], _, _ => []
  | (a, b) :: r, k, v => match Nat.beq a k with | true => (a, v) :: r | false => (a, b) :: sput r k v

/-- The cells of a datum. -/
def toCV : (t : Ty) → t.den → List CV
  | .int k, n => [.int k n]
  | .bool, b => [.bool b]
  | .str, s => [.str s]
  | .sl t, l => [.imm t l]
  | .pair a b, d => toCV a d.1 ++ toCV b d.2

def castL (t t' : Ty) (l : List t'.den) : Option (List t.den) :=
  match decEq t' t with
  | isTrue h => some (h ▸ l)
  | isFalse _ => none

def same : IntKind → IntKind → Bool
  | .i64, .i64 => true
  | .u8, .u8 => true
  | .u64, .u64 => true
  | _, _ => false

def ofInt (k : IntKind) : List CV → Option Int
  | [.int k' n] => match same k k' with | true => some n | false => none
  | _ => none
def ofBool : List CV → Option Bool
  | [.bool b] => some b
  | [.kb b] => some b
  | _ => none
def ofStr : List CV → Option (List UInt8)
  | [.str s] => some s
  | _ => none
def ofSl (st : St) (t : Ty) : List CV → Option (List t.den)
  | [.nil] => some []
  | [.imm t' l] => castL t t' l
  | [.own x _] => match lk st x with
    | some (.sl _ t' l kd) => match openK kd with
      | true => none
      | false => castL t t' l
    | _ => none
  | _ => none

/-- The datum of cells. -/
def ofCV (st : St) : (t : Ty) → List CV → Option t.den
  | .int k, cs => ofInt k cs
  | .bool, cs => ofBool cs
  | .str, cs => ofStr cs
  | .sl t, cs => ofSl st t cs
  | .pair a b, cs => match ofCV st a (cs.take a.size) with
    | some x => match ofCV st b (cs.drop a.size) with
      | some y => some (x, y)
      | none => none
    | none => none

def ownsIn : List CV → List Nat
  | [] => []
  | .own x _ :: r => x :: ownsIn r
  | _ :: r => ownsIn r

def freeze (st : St) : List Nat → St
  | [] => st
  | x :: r => match lk st x with
    | some (.sl e t l kd) => match openK kd with
      | true => freeze st r
      | false => freeze (sput st x (.sl e t l .frozen)) r
    | _ => freeze st r

def good : CV → Bool
  | .undef => false
  | .skip => false
  | _ => true

def goods (l : List CV) : Option (List CV) := match l.all good with | true => some l | false => none

def cellsOf : AV → Option (List CV)
  | .c x => goods [x]
  | .agg l => goods l
  | .tup _ => none

abbrev Con := List AV → St → Eff

/-- What the program's tables say of the types that the texts use. -/
structure Tys where
  eq : List TypeId := []
  ty : List (TypeId × Ty)
  ag : List (TypeId × Bool)
  el : List (TypeId × TypeId)
  fl : List (TypeId × List (Nat × TypeId))

/-- How the operations of a region that draws its order may come up: 'first i r': operation i is taken first; 'alt i r m': operation i comes up, or one of m. -/
inductive Sched where
  | done
  | first (i : Nat) (r : Sched)
  | alt (i : Nat) (r m : Sched)
  | stop

structure Cfg where
  y : Tys
  n : Nat
  h : Nat
  tab : List (FuncId × Con)
  cut : List Nat := []
  hand : List (FuncId × List Nat) := []
  good : List FuncId := []
  deep : List Nat := []
  sched : List (Nat × Sched) := []
  frz : List Nat := []
  wrp : List Nat := []

abbrev Env := Nat → AV
def upd (ρ : Env) (d : Nat) (v : AV) : Env := fun t => match Nat.beq t d with | true => v | false => ρ t
def putE (ρ : Env) (d : Option Nat) (v : AV) : Env := match d with | some d => upd ρ d v | none => ρ

def inR : IntKind → Int → Prop
  | .i64, n => -9223372036854775808 ≤ n ∧ n ≤ 9223372036854775807
  | .u8, n => 0 ≤ n ∧ n ≤ 255
  | .u64, n => 0 ≤ n ∧ n ≤ 18446744073709551615
  | _, _ => False

def inRb : IntKind → Int → Bool
  | .i64, .ofNat n => Nat.blt n 9223372036854775808
  | .i64, .negSucc n => Nat.blt n 9223372036854775808
  | .u8, .ofNat n => Nat.blt n 256
  | .u64, .ofNat n => Nat.blt n 18446744073709551616
  | _, _ => false

def constCV : Value → CV
  | .int k n => match inRb k n with | true => .int k n | false => .undef
  | .bool b => .kb b
  | .slice none 0 0 => .nil
  | .string s => .str s.data.toList
  | _ => .undef

def ev1 (ρ : Env) : Operand → AV
  | .tmp t => ρ t
  | .const v => .c (constCV v)
  | .func f => .c (.fn f [])
  | .global _ => .c .undef

def boolOf : AV → Option Bool
  | .c (.bool b) => some b
  | .c (.kb b) => some b
  | _ => none

/-! ### Rows of rows that are owned -/

def flatTy : Ty → Bool
  | .sl _ => false
  | .pair a b => match flatTy a with | true => flatTy b | false => false
  | _ => true

/-- The places of the slices among a datum's cells. -/
def slAt : Ty → Nat → List Nat
  | .sl _, c => [c]
  | .pair a b, c => slAt a c ++ slAt b (c + a.size)
  | _, _ => []

/-- The name under which the cell at place q is out. -/
def outAt (lo n base q : Nat) : Option Nat := match Nat.ble lo q with
  | true => match Nat.blt q (lo + n) with | true => some (base + q) | false => none
  | false => none

def outNames (lo n base : Nat) : List Nat → List Nat
  | [] => []
  | q :: r => match outAt lo n base q with | some y => y :: outNames lo n base r | none => outNames lo n base r

/-- A datum with the parts laid back that were out. -/
def closeDen (st : St) (hs : Nat → Option Nat) : (t : Ty) → Nat → t.den → Option t.den
  | .sl t, c, l => match hs c with
    | some y => match lk st y with
      | some (.sl _ t' l' (.deep _ .no)) => castL t t' l'
      | _ => none
    | none => some l
  | .pair a b, c, d => match closeDen st hs a c d.1 with
    | some x => match closeDen st hs b (c + a.size) d.2 with
      | some y => some (x, y)
      | none => none
    | none => none
  | .int _, _, d => some d
  | .bool, _, d => some d
  | .str, _, d => some d

def kill (st : St) : List Nat → St
  | [] => st
  | y :: r => kill (sput st y .dead) r

def nodupB' : List Nat → Bool
  | [] => true
  | x :: r => match r.any (Nat.beq x) with | true => false | false => nodupB' r

def closeOb (st : St) (x : Nat) : Option St :=
  match lk st x with
  | some (.sl e t l (.deep kn (.at i lo n base))) => match nodupB' (x :: outNames lo n base (slAt t 0)) with
    | true => match closeDen st (outAt lo n base) t 0 (l.getD i t.dflt) with
      | some d => some (sput (kill st (outNames lo n base (slAt t 0))) x (.sl e t (l.set i d) (.deep kn .no)))
      | none => none
    | false => none
  | _ => some st

def closeAll (st : St) : List Nat → Option St
  | [] => some st
  | x :: r => match closeOb st x with | some st' => closeAll st' r | none => none

/-- The rows in a datum that go out: their names, and what they are. -/
def takes (hs : Nat → Option Nat) : (t : Ty) → Nat → t.den → St
  | .sl t, q, l => match hs q with
    | some y => [(y, .sl 0 t l (.deep false .no))]
    | none => []
  | .pair a b, q, d => takes hs a q d.1 ++ takes hs b (q + a.size) d.2
  | _, _, _ => []

/-- The cells of a datum of whose rows some are out. -/
def toCVh (hs : Nat → Option Nat) : (t : Ty) → Nat → t.den → List CV
  | .sl _, q, _ => match hs q with | some y => [.own y false] | none => [.undef]
  | .pair a b, q, d => toCVh hs a q d.1 ++ toCVh hs b (q + a.size) d.2
  | .int k, _, n => [.int k n]
  | .bool, _, b => [.bool b]
  | .str, _, s => [.str s]

def allNew (st : St) : St → Bool
  | [] => true
  | (y, _) :: r => match lk st y with | some _ => false | none => allNew st r

def moveSl (st : St) (t : Ty) : List CV → Option (List t.den × List Nat)
  | [.nil] => some ([], [])
  | [.own x _] => match lk st x with
    | some (.sl _ t' l (.deep _ .no)) => match castL t t' l with | some l => some (l, [x]) | none => none
    | some (.sl _ t' l .shallow) => match flatTy t' with
      | true => match castL t t' l with | some l => some (l, [x]) | none => none
      | false => none
    | _ => none
  | _ => none

/-- The datum of cells whose rows are given away, and these rows' names. -/
def moveDen (st : St) : (t : Ty) → List CV → Option (t.den × List Nat)
  | .sl t, cs => moveSl st t cs
  | .pair a b, cs => match moveDen st a (cs.take a.size) with
    | some (x, ns) => match moveDen st b (cs.drop a.size) with
      | some (y, ms) => some ((x, y), ns ++ ms)
      | none => none
    | none => none
  | .int k, cs => match ofInt k cs with | some n => some (n, []) | none => none
  | .bool, cs => match ofBool cs with | some n => some (n, []) | none => none
  | .str, cs => match ofStr cs with | some n => some (n, []) | none => none

/-- A datum with cells from place c on replaced; the rows among them are given away. -/
def setMove (st : St) : (t : Ty) → t.den → Nat → List CV → Option (t.den × List Nat)
  | .pair a b, d, c, cs => match Nat.beq c 0 && Nat.beq cs.length (a.size + b.size) with
    | true => moveDen st (.pair a b) cs
    | false => match Nat.ble (c + cs.length) a.size with
      | true => match setMove st a d.1 c cs with | some (x, ns) => some ((x, d.2), ns) | none => none
      | false => match Nat.ble a.size c with
        | true => match setMove st b d.2 (c - a.size) cs with | some (y, ns) => some ((d.1, y), ns) | none => none
        | false => none
  | .sl t, _, c, cs => match Nat.beq c 0 && Nat.beq cs.length 1 with | true => moveDen st (.sl t) cs | false => none
  | .int k, _, c, cs => match Nat.beq c 0 && Nat.beq cs.length 1 with | true => moveDen st (.int k) cs | false => none
  | .bool, _, c, cs => match Nat.beq c 0 && Nat.beq cs.length 1 with | true => moveDen st .bool cs | false => none
  | .str, _, c, cs => match Nat.beq c 0 && Nat.beq cs.length 1 with | true => moveDen st .str cs | false => none

/-- No slice among the cells from place c on. -/
def noSl (c n : Nat) : List Nat → Bool
  | [] => true
  | q :: r => match Nat.ble c q with
    | true => match Nat.blt q (c + n) with | true => false | false => noSl c n r
    | false => noSl c n r

/-- A number as 64 bits hold it. -/
def w64 (n : Int) : Int := IntKind.i64.wrap n

/-- An operator whose answer may wrap. -/
def evWrap (op : BinOp) (x y : AV) (st : St) : Eff :=
  match x, y with
  | .c (.int .i64 a), .c (.int .i64 b) =>
    match op with
    | .add => .ret (.c (.int .i64 (w64 (a + b)))) st
    | .sub => .ret (.c (.int .i64 (w64 (a - b)))) st
    | .mul => .ret (.c (.int .i64 (w64 (a * b)))) st
    | _ => .fail
  | _, _ => .fail

def inWrp (C : Cfg) (d : Option Nat) : Bool := match d with | some d => C.wrp.any (Nat.beq d) | none => false

def evBin (op : BinOp) (x y : AV) (st : St) : Eff :=
  match x, y with
  | .c (.int k a), .c (.int k' b) =>
    match same k k' with
    | true =>
      match op with
      | .add => .req (inR k (a + b)) (.c (.int k (a + b))) st
      | .sub => .req (inR k (a - b)) (.c (.int k (a - b))) st
      | .mul => .req (inR k (a * b)) (.c (.int k (a * b))) st
      | .lss => .ret (.c (.bool (decide (a < b)))) st
      | .leq => .ret (.c (.bool (decide (a ≤ b)))) st
      | .gtr => .ret (.c (.bool (decide (b < a)))) st
      | .geq => .ret (.c (.bool (decide (b ≤ a)))) st
      | .eql => .ret (.c (.bool (a == b))) st
      | .neq => .ret (.c (.bool (a != b))) st
      | .quo => .req (1 ≤ b ∧ 0 ≤ a) (.c (.int k (a / b))) st
      | .rem => .req (1 ≤ b ∧ 0 ≤ a) (.c (.int k (a % b))) st
      | .xor => match k with
        | .i64 => .req (0 ≤ a ∧ 0 ≤ b) (.c (.int .i64 ((a.toNat ^^^ b.toNat : Nat) : Int))) st
        | _ => .fail
      | .and => match k with
        | .i64 => .req (0 ≤ a ∧ 0 ≤ b) (.c (.int .i64 ((a.toNat &&& b.toNat : Nat) : Int))) st
        | _ => .fail
      | .shl => match k with
        | .i64 => .req ((0 ≤ b ∧ b ≤ 62) ∧ inR .i64 (a * 2 ^ b.toNat)) (.c (.int .i64 (a * 2 ^ b.toNat))) st
        | _ => .fail
      | .shr => match k with
        | .i64 => .req ((0 ≤ b ∧ b ≤ 62) ∧ 0 ≤ a) (.c (.int .i64 (a / 2 ^ b.toNat))) st
        | _ => .fail
      | _ => .fail
    | false => .fail
  | x, y =>
    match boolOf x, boolOf y with
    | some a, some b =>
      match op with
      | .eql => .ret (.c (.bool (a == b))) st
      | .neq => .ret (.c (.bool (a != b))) st
      | _ => .fail
    | _, _ => .fail

def evLen (C : Cfg) (st : St) (tys : List TypeId) (x : AV) : Eff :=
  match tys with
  | [s] => match lk C.y.el s with
    | some _ => match x with
      | .c .nil => .ret (.c (.int .i64 0)) st
      | .c (.imm _ l) => .ret (.c (.int .i64 l.length)) st
      | .c (.own x _) => match lk st x with
        | some (.sl _ _ l .shallow) => .ret (.c (.int .i64 l.length)) st
        | some (.sl _ _ l .frozen) => .ret (.c (.int .i64 l.length)) st
        | some (.sl _ _ l (.deep _ _)) => .ret (.c (.int .i64 l.length)) st
        | _ => .fail
      | _ => .fail
    | none => .fail
  | _ => .fail

def evIndexAddr (C : Cfg) (st : St) (s : TypeId) (x i : AV) : Eff :=
  match lk C.y.el s with
  | some e => match lk C.y.ty e with
    | some te => match x, i with
      | .c (.imm t l), .c (.int .i64 i) => match Nat.beq te.size t.size with
        | true => .req (0 ≤ i ∧ i < l.length) (.c (.iptr t (l.getD i.toNat t.dflt) 0)) st
        | false => .fail
      | .c (.own x _), .c (.int .i64 i) => match lk st x with
        | some (.sl _ t l .shallow) => match Nat.beq te.size t.size with
          | true => .req (0 ≤ i ∧ i < l.length) (.c (.eptr x i 0)) st
          | false => .fail
        | some (.sl _ t l .frozen) => match Nat.beq te.size t.size with
          | true => .req (0 ≤ i ∧ i < l.length) (.c (.iptr t (l.getD i.toNat t.dflt) 0)) st
          | false => .fail
        | some (.sl _ t l (.deep _ _)) => match Nat.beq te.size t.size with
          | true => .req (0 ≤ i ∧ i < l.length) (.c (.eptr x i 0)) st
          | false => .fail
        | _ => .fail
      | _, _ => .fail
    | none => .fail
  | none => .fail

def cut (n c : Nat) (l : List CV) : List CV := (l.drop c).take n

def asAV (n : Nat) (ag : Bool) (l : List CV) : Option AV :=
  match Nat.beq l.length n with
  | true => match ag with
    | true => some (.agg l)
    | false => match l with | [x] => some (.c x) | _ => none
  | false => none

/-- What is loaded; of a byte the range is known. -/
def ld (v : AV) (st : St) : Eff :=
  match v with
  | .c (.int .u8 n) => .hyp (inR .u8 n) (.c (.int .u8 n)) st
  | v => .ret v st

def evLoad (C : Cfg) (st : St) (d : Option Nat) (ty : TypeId) (x : AV) : Eff :=
  match lk C.y.ty ty, lk C.y.ag ty with
  | some t, some ag =>
    match x with
    | .c (.iptr t' d c) => match asAV t.size ag (cut t.size c (toCV t' d)) with
      | some v => ld v st
      | none => .fail
    | .c (.ptr x c) => match lk st x with
      | some (.rc cs) => match asAV t.size ag (cut t.size c cs) with
        | some v => ld v st
        | none => .fail
      | _ => .fail
    | .c (.eptr x i c) => match lk st x with
      | some (.sl _ t' l .shallow) => match asAV t.size ag (cut t.size c (toCV t' (l.getD i.toNat t'.dflt))) with
        | some v => ld v st
        | none => .fail
      | some (.sl _ t' l (.deep _ _)) => match noSl c t.size (slAt t' 0) with
        | true => match asAV t.size ag (cut t.size c (toCVh (fun _ => none) t' 0 (l.getD i.toNat t'.dflt))) with
          | some v => ld v st
          | none => .fail
        | false => match closeOb st x, d with
          | some st1, some d => match lk st1 x with
            | some (.sl e' t' l (.deep kn .no)) => match allNew st1 (takes (outAt c t.size ((d + 1) * 1000)) t' 0 (l.getD i.toNat t'.dflt)) with
              | true => match asAV t.size ag (cut t.size c (toCVh (outAt c t.size ((d + 1) * 1000)) t' 0 (l.getD i.toNat t'.dflt))) with
                | some v => .ret v (takes (outAt c t.size ((d + 1) * 1000)) t' 0 (l.getD i.toNat t'.dflt) ++ sput st1 x (.sl e' t' l (.deep kn (.at i.toNat c t.size ((d + 1) * 1000)))))
                | none => .fail
              | false => .fail
            | _ => .fail
          | _, _ => .fail
      | _ => .fail
    | _ => .fail
  | _, _ => .fail

/-- A datum with the cell number c replaced. -/
def setDen (st : St) : (t : Ty) → t.den → Nat → List CV → Option t.den
  | .pair a b, d, c, v =>
    match Nat.blt c a.size with
    | true => match setDen st a d.1 c v with | some x => some (x, d.2) | none => none
    | false => match setDen st b d.2 (c - a.size) v with | some y => some (d.1, y) | none => none
  | t, _, 0, v => ofCV st t v
  | _, _, _, _ => none

def isDeep (st : St) (x : Nat) : Bool := match lk st x with | some (.sl _ _ _ (.deep _ _)) => true | _ => false

/-- A store into a row of rows that is owned. -/
def evStoreD (st : St) (x : Nat) (i : Int) (c : Nat) (cs : List CV) : Eff :=
  match lk st x with
  | some (.sl e t l (.deep kn hh)) => match noSl c cs.length (slAt t 0) with
    | true => match setMove st t (l.getD i.toNat t.dflt) c cs with
      | some (d, []) => .ret (.c .undef) (sput st x (.sl e t (l.set i.toNat d) (.deep kn hh)))
      | _ => .fail
    | false => match closeOb st x with
      | some st1 => match lk st1 x with
        | some (.sl e t l (.deep kn .no)) => match setMove st1 t (l.getD i.toNat t.dflt) c cs with
          | some (d, ns) => match nodupB' (x :: ns) with
            | true => .ret (.c .undef) (sput (kill st1 ns) x (.sl e t (l.set i.toNat d) (.deep kn .no)))
            | false => .fail
          | none => .fail
        | _ => .fail
      | none => .fail
  | _ => .fail

def evStore (C : Cfg) (st : St) (ty : TypeId) (p v : AV) : Eff :=
  match lk C.y.ty ty, cellsOf v with
  | some t, some cs =>
    match Nat.beq cs.length t.size with
    | true =>
      match p with
      | .c (.ptr x c) => match lk st x with
        | some (.rc old) => match Nat.ble (c + cs.length) old.length with
          | true => .ret (.c .undef) (sput st x (.rc (old.take c ++ cs ++ old.drop (c + cs.length))))
          | false => .fail
        | _ => .fail
      | .c (.eptr x i c) => match isDeep st x with
        | true => evStoreD st x i c cs
        | false => match lk (freeze st (ownsIn cs)) x with
          | some (.sl e t' l .shallow) =>
            match Nat.beq cs.length 1 with
            | true => match setDen st t' (l.getD i.toNat t'.dflt) c cs with
              | some d => .ret (.c .undef) (sput (freeze st (ownsIn cs)) x (.sl e t' (l.set i.toNat d) .shallow))
              | none => .fail
            | false => match Nat.beq c 0 && Nat.beq cs.length t'.size with
              | true => match ofCV st t' cs with
                | some d => .ret (.c .undef) (sput (freeze st (ownsIn cs)) x (.sl e t' (l.set i.toNat d) .shallow))
                | none => .fail
              | false => .fail
          | _ => .fail
      | _ => .fail
    | false => .fail
  | _, _ => .fail

def zeroCV : Ty → List CV
  | .int k => [.int k 0]
  | .bool => [.kb false]
  | .str => [.str []]
  | .sl _ => [.nil]
  | .pair a b => zeroCV a ++ zeroCV b

/-- A new object of the name d. -/
def newOb (st : St) (d : Option Nat) (o : Ob) (v : Nat → AV) : Eff :=
  match d with
  | some d => match lk st d with
    | none => .ret (v d) ((d, o) :: st)
    | some _ => .fail
  | none => .fail

/-- The parts of a literal, in order from number j on, all there. -/
def partsFrom (st : St) (ρ : Env) (t : Ty) : Nat → List (Nat × Operand) → Option (List t.den × List Nat)
  | _, [] => some ([], [])
  | j, (i, x) :: r =>
    match Nat.beq i j with
    | true => match cellsOf (ev1 ρ x) with
      | some cs => match ofCV st t cs, partsFrom st ρ t (j + 1) r with
        | some d, some (l, ns) => some (d :: l, ownsIn cs ++ ns)
        | _, _ => none
      | none => none
    | false => none

/-- The parts of a literal whose rows are given away. -/
def partsMove (st : St) (ρ : Env) (t : Ty) : Nat → List (Nat × Operand) → Option (List t.den × List Nat)
  | _, [] => some ([], [])
  | j, (i, x) :: r =>
    match Nat.beq i j with
    | true => match cellsOf (ev1 ρ x) with
      | some cs => match moveDen st t cs, partsMove st ρ t (j + 1) r with
        | some (d, ms), some (l, ns) => some (d :: l, ms ++ ns)
        | _, _ => none
      | none => none
    | false => none

def bound : Nat := 4294967296

def listOf (st : St) (t : Ty) : AV → Option (List t.den)
  | .c .nil => some []
  | .c (.imm t' l) => castL t t' l
  | .c (.own x _) => match lk st x with
    | some (.sl _ t' l .shallow) => castL t t' l
    | some (.sl _ t' l .frozen) => castL t t' l
    | some (.sl _ t' l (.deep _ .no)) => match flatTy t' with | true => castL t t' l | false => none
    | _ => none
  | _ => none

def deepOf (st : St) (t : Ty) : AV → Option (Nat × List t.den)
  | .c (.own y _) => match lk st y with
    | some (.sl _ t' l (.deep _ .no)) => match castL t t' l with | some l => some (y, l) | none => none
    | _ => none
  | _ => none

def isDeepA (st : St) : AV → Bool
  | .c (.own y _) => isDeep st y
  | _ => false

def useDeep (st : St) (t : Ty) (y : AV) : Bool := match flatTy t with | true => false | false => isDeepA st y

/-- What is appended is an owned row of rows: it is given away. -/
def evAppendD (st : St) (d : Option Nat) (e : TypeId) (t : Ty) (x y : AV) : Eff :=
  match x with
  | .c .nil => match deepOf st t y with
    | some (y0, l') => match newOb (kill st [y0]) d (.sl e t l' (.deep true .no)) (fun d => .c (.own d false)) with
      | .ret v st' => .req (l'.length ≤ bound) v st'
      | _ => .fail
    | none => .fail
  | .c (.own x _) => match closeOb st x with
    | some st1 => match lk st1 x, deepOf st1 t y with
      | some (.sl e' t' l (.deep true .no)), some (y0, l') => match Nat.beq e e' with
        | true => match Nat.beq x y0 with
          | true => .fail
          | false => match castL t t' l with
            | some l => match newOb (kill st1 [x, y0]) d (.sl e t (l ++ l') (.deep true .no)) (fun d => .c (.own d false)) with
              | .ret v st' => .req (l.length + l'.length ≤ bound) v st'
              | _ => .fail
            | none => .fail
        | false => .fail
      | _, _ => .fail
    | none => .fail
  | _ => .fail

def evAppend (C : Cfg) (st : St) (d : Option Nat) (tys : List TypeId) (x y : AV) : Eff :=
  match tys with
  | [s, s'] =>
    match Nat.beq s s' with
    | true => match lk C.y.el s with
      | some e => match lk C.y.ty e with
        | some t => match useDeep st t y with
         | true => evAppendD st d e t x y
         | false => match listOf st t y with
          | some l' =>
            match x with
            | .c .nil => match newOb st d (.sl e t l' .shallow) (fun d => .c (.own d false)) with
              | .ret v st' => .req (l'.length ≤ bound) v st'
              | _ => .fail
            | .c (.own x _) => match lk st x with
              | some (.sl e' t' l .shallow) =>
                match Nat.beq e e' with
                | true => match castL t t' l with
                  | some l => match newOb (sput st x .dead) d (.sl e t (l ++ l') .shallow) (fun d => .c (.own d false)) with
                    | .ret v st' => .req (l.length + l'.length ≤ bound) v st'
                    | _ => .fail
                  | none => .fail
                | false => .fail
              | some (.sl _ t' l (.deep _ .no)) =>
                match flatTy t with
                | true => match castL t t' l with
                  | some l => match newOb (kill st [x]) d (.sl 0 t (l ++ l') (.deep false .no)) (fun d => .c (.own d false)) with
                    | .ret v st' => .req (l.length + l'.length ≤ bound) v st'
                    | _ => .fail
                  | none => .fail
                | false => .fail
              | _ => .fail
            | _ => .fail
          | none => .fail
        | none => .fail
      | none => .fail
    | false => .fail
  | _ => .fail

def setParts (y : Tys) (fl : List (Nat × TypeId)) (ρ : Env) : List CV → List (Nat × Operand) → Option (List CV)
  | cs, [] => some cs
  | cs, (i, x) :: r =>
    match fl[i]?, cellsOf (ev1 ρ x) with
    | some (off, ty), some v => match lk y.ty ty with
      | some t => match Nat.beq v.length t.size with
        | true => match Nat.ble (off + v.length) cs.length with
          | true => setParts y fl ρ (cs.take off ++ v ++ cs.drop (off + v.length)) r
          | false => none
        | false => none
      | none => none
    | _, _ => none

/-! ### Calls -/

/-- The names that a call hands over by reference: records behind pointers, what closures have captured, and what those records name. -/
def direct : AV → List Nat
  | .c (.ptr x 0) => [x]
  | .c (.fn _ cap) => cap
  | _ => []
def inner : Ob → List Nat
  | .rc cs => ownsIn cs
  | _ => []
def addNew : List Nat → List Nat → List Nat
  | acc, [] => acc
  | acc, x :: r => addNew (match acc.contains x with | true => acc | false => acc ++ [x]) r
/-- The rows of the arguments at the places hs. -/
def handed (hs : List Nat) : Nat → List AV → List Nat
  | _, [] => []
  | i, x :: r => (match hs.any (Nat.beq i) with
    | true => (match x with | .c y => ownsIn [y] | .agg l => ownsIn l | .tup _ => [])
    | false => []) ++ handed hs (i + 1) r
def names (hs : Option (List Nat)) (st : St) (args : List AV) : List Nat :=
  let ds := addNew [] (args.flatMap direct ++ (match hs with | some hs => handed hs 0 args | none => []))
  addNew ds (ds.flatMap fun x => match lk st x with | some o => inner o | none => [])

def posOf : List Nat → Nat → Option Nat
  | [], _ => none
  | y :: r, x => match Nat.beq y x with | true => some 0 | false => match posOf r x with | some i => some (i + 1) | none => none

def posAll (ns : List Nat) : List Nat → Option (List Nat)
  | [] => some []
  | x :: r => match posOf ns x, posAll ns r with | some i, some l => some (i :: l) | _, _ => none

/-- One cell, as the callee names it. 'ns': the names handed over. -/
def lend (ns : List Nat) (st : St) (t : Option Ty) : CV → CV
  | .nil => match t with | some (.sl t) => .imm t [] | _ => .nil
  | .own x n => match posOf ns x with
    | some i => .own i n
    | none => match lk st x with | some (.sl _ t l .shallow) => .imm t l | some (.sl _ t l .frozen) => .imm t l | some (.sl _ t l (.deep _ .no)) => .imm t l | _ => .undef
  | .ptr x c => match posOf ns x with | some i => .ptr i c | none => .undef
  | .fn f cap => match posAll ns cap with | some l => .fn f l | none => .undef
  | .iptr _ _ _ => .undef
  | .eptr _ _ _ => .undef
  | .view _ _ => .undef
  | .kb b => .bool b
  | x => x

def cellTys : Ty → List Ty
  | .pair a b => cellTys a ++ cellTys b
  | t => [t]

def lendL (ns : List Nat) (st : St) : List Ty → List CV → List CV
  | _, [] => []
  | [], x :: r => lend ns st none x :: lendL ns st [] r
  | t :: ts, x :: r => lend ns st (some t) x :: lendL ns st ts r

def lendA (ns : List Nat) (st : St) (t : Option Ty) : AV → AV
  | .c x => .c (lend ns st t x)
  | .agg l => .agg (lendL ns st (match t with | some t => cellTys t | none => []) l)
  | .tup l => .tup l

def lendArgs (C : Cfg) (ns : List Nat) (st : St) : List TypeId → List AV → List AV
  | _, [] => []
  | [], x :: r => lendA ns st none x :: lendArgs C ns st [] r
  | t :: ts, x :: r => lendA ns st (lk C.y.ty t) x :: lendArgs C ns st ts r

def lendO (ns : List Nat) (st : St) : Ob → Ob
  | .rc cs => .rc (lendL ns st [] cs)
  | o => o

def lendSt (ns : List Nat) (st : St) : Nat → List Nat → St
  | _, [] => []
  | i, x :: r => match lk st x with
    | some o => (i, lendO ns st o) :: lendSt ns st (i + 1) r
    | none => lendSt ns st (i + 1) r

/-- The caller's name of the callee's object i: one that was handed over, or a new one. -/
def back (ns : List Nat) (d : Nat) (i : Nat) : Nat :=
  match ns[i]? with | some x => x | none => (d + 1) * 1000 + i

def backCV (ns : List Nat) (d : Nat) : CV → CV
  | .own i n => .own (back ns d i) n
  | .ptr i c => .ptr (back ns d i) c
  | .fn f cap => .fn f (cap.map (back ns d))
  | .eptr i j c => .eptr (back ns d i) j c
  | .view _ _ => .undef
  | x => x

def backA (ns : List Nat) (d : Nat) : AV → AV
  | .c x => .c (backCV ns d x)
  | .agg l => .agg (l.map (backCV ns d))
  | .tup l => .tup (l.map fun
    | .c x => .c (backCV ns d x)
    | .agg l => .agg (l.map (backCV ns d))
    | .tup l => .tup l)

def backO (ns : List Nat) (d : Nat) : Ob → Ob
  | .rc cs => .rc (cs.map (backCV ns d))
  | o => o

/-- The callee's objects laid back into the caller's store: those that were handed over .. -/
def backOld (ns : List Nat) (d : Nat) (st' : St) : St → Nat → List Nat → Option St
  | st, _, [] => some st
  | st, i, x :: r => match lk st' i with
    | some o => backOld ns d st' (sput st x (backO ns d o)) (i + 1) r
    | none => none

/-- .. and the new ones. -/
def backNew (ns : List Nat) (d : Nat) : St → St → Option St
  | st, [] => some st
  | st, (i, o) :: r =>
    match Nat.blt i ns.length with
    | true => backNew ns d st r
    | false => match lk st (back ns d i) with
      | none => backNew ns d ((back ns d i, backO ns d o) :: st) r
      | some _ => none

def backSt (ns : List Nat) (d : Nat) (st st' : St) : Option St :=
  match backOld ns d st' st 0 ns with
  | some st1 => backNew ns d st1 st'
  | none => none

def hasImm : List CV → Bool
  | [] => false
  | .imm _ _ :: _ => true
  | .iptr _ _ _ :: _ => true
  | _ :: r => hasImm r
def hasImmA : AV → Bool
  | .c x => hasImm [x]
  | .agg l => hasImm l
  | .tup l => l.any fun | .c x => hasImm [x] | .agg l => hasImm l | .tup _ => true
def hasImmO : Ob → Bool
  | .rc cs => hasImm cs
  | .sl _ (.int _) _ .shallow => false
  | .sl _ .bool _ .shallow => false
  | .sl _ .str _ .shallow => false
  | .sl _ (.pair (.int _) (.int _)) _ .shallow => false
  | .sl _ _ _ (.deep _ _) => false
  | .dead => false
  | _ => true

/-- Does a call lend a row that the caller goes on owning? -/
def lends (ns : List Nat) (st : St) : List CV → Bool
  | [] => false
  | .own x _ :: r => match posOf ns x with
    | some _ => lends ns st r
    | none => match lk st x with
      | some (.sl _ _ _ .frozen) => lends ns st r
      | _ => true
  | _ :: r => lends ns st r
def lendsA (ns : List Nat) (st : St) : AV → Bool
  | .c x => lends ns st [x]
  | .agg l => lends ns st l
  | .tup _ => true
def lendsO (ns : List Nat) (st : St) (x : Nat) : Bool :=
  match lk st x with
  | some (.rc cs) => lends ns st cs
  | some (.sl _ _ _ (.deep _ _)) => false
  | some _ => false
  | none => true

/-- Parts of it are out. -/
def openO : Ob → Bool
  | .sl _ _ _ kd => openK kd
  | _ => false
def openIn (st : St) (x : Nat) : Bool := match lk st x with | some o => openO o | none => false

def nodupB : List Nat → Bool
  | [] => true
  | x :: r => !r.contains x && nodupB r

def allIn (st : St) : List Nat → Bool
  | [] => true
  | x :: r => match lk st x with | some _ => allIn st r | none => false

noncomputable def effMap (e : Eff) (f : AV → St → Eff) : Eff :=
  Eff.rec (motive := fun _ => Eff) .fail (fun v st => f v st)
    (fun p v st => match f v st with
      | .ret v st => .req p v st
      | _ => .fail)
    (fun _ _ _ _ => .fail) (fun _ _ => .fail) (fun _ _ => .fail) (fun b _ _ h1 h2 => .ite b h1 h2) (fun α _ ih => .any α ih) (fun p _ ih => .need p ih) (fun _ _ _ => .fail) (fun α o _ ih => .opt α o ih) e

/-! ### Forcing: the same values, evaluated -/

noncomputable def fNs {α : Sort _} (l : List Nat) : (List Nat → α) → α :=
  List.rec (motive := fun _ => (List Nat → α) → α) (fun k => k []) (fun x _ ih k => ih fun r' => k (x :: r')) l

noncomputable def fC {α : Sort _} (x : CV) (k : CV → α) : α :=
  match x with
  | .int a b => k (.int a b)
  | .bool b => k (.bool b)
  | .kb b => k (.kb b)
  | .str s => k (.str s)
  | .nil => k .nil
  | .imm t l => k (.imm t l)
  | .own x n => k (.own x n)
  | .iptr t d c => k (.iptr t d c)
  | .eptr x i c => k (.eptr x i c)
  | .ptr x c => k (.ptr x c)
  | .view x i => k (.view x i)
  | .fn f cap => fNs cap fun cap => k (.fn f cap)
  | .skip => k .skip
  | .undef => k .undef

noncomputable def fCs {α : Sort _} (l : List CV) : (List CV → α) → α :=
  List.rec (motive := fun _ => (List CV → α) → α) (fun k => k []) (fun x _ ih k => ih fun r' => fC x fun x' => k (x' :: r')) l

noncomputable def fA1 {α : Sort _} (x : AV) (k : AV → α) : α :=
  match x with
  | .c x => fC x fun x => k (.c x)
  | .agg l => fCs l fun l => k (.agg l)
  | .tup l => k (.tup l)

noncomputable def fAs {α : Sort _} (l : List AV) : (List AV → α) → α :=
  List.rec (motive := fun _ => (List AV → α) → α) (fun k => k []) (fun x _ ih k => ih fun r' => fA1 x fun x' => k (x' :: r')) l

noncomputable def fA {α : Sort _} (x : AV) (k : AV → α) : α :=
  match x with
  | .c x => fC x fun x => k (.c x)
  | .agg l => fCs l fun l => k (.agg l)
  | .tup l => fAs l fun l => k (.tup l)

noncomputable def fO {α : Sort _} (o : Ob) (k : Ob → α) : α :=
  match o with
  | .sl e t l .shallow => k (.sl e t l .shallow)
  | .sl e t l .frozen => k (.sl e t l .frozen)
  | .sl e t l (.deep b .no) => k (.sl e t l (.deep b .no))
  | .sl e t l (.deep b (.at i lo n base)) => k (.sl e t l (.deep b (.at i lo n base)))
  | .rc cs => fCs cs fun cs => k (.rc cs)
  | .dead => k .dead

noncomputable def fSt {α : Sort _} (l : St) : (St → α) → α :=
  List.rec (motive := fun _ => (St → α) → α) (fun k => k []) (fun p _ ih k => ih fun r' => match p with | (n, o) => fO o fun o' => k ((n, o') :: r')) l

/-- The rows that the arguments name, but for those that are handed over. -/
def ownArgs (ns : List Nat) : List AV → List Nat
  | [] => []
  | .c x :: r => (ownsIn [x]).filter (fun x => !ns.contains x) ++ ownArgs ns r
  | .agg l :: r => (ownsIn l).filter (fun x => !ns.contains x) ++ ownArgs ns r
  | .tup _ :: r => ownArgs ns r

def immIn (st : St) (x : Nat) : Bool := match lk st x with | some o => hasImmO o | none => false

/-- Where what is handed over holds read-only data, the rows that are lent are lent for good. -/
def forCall (g : Bool) (st : St) (ns : List Nat) (args : List AV) : St :=
  match g || ns.any (immIn st) with
  | true => freeze st (ownArgs ns args)
  | false => st

noncomputable def evCall (C : Cfg) (st : St) (d : Option Nat) (f : FuncId) (tys : List TypeId) (args : List AV) : Eff :=
  match lk C.tab f with
  | some con => fNs (names (lk C.hand f) st args) fun ns => match closeAll st (ownArgs [] args ++ ns) with
    | none => .fail
    | some st => fSt (forCall (C.good.any (Nat.beq f)) st ns args) fun st =>
    let d := match d with | some d => d | none => 0
    match nodupB ns && allIn st ns && !ns.any (openIn st) with
    | true =>
      effMap (con (lendArgs C ns st tys args) (lendSt ns st 0 ns)) fun v st' =>
        match ((args.any (lendsA ns st) || ns.any (lendsO ns st)) && (hasImmA v || st'.any fun p => hasImmO p.2)) || st'.any (fun p => openO p.2) with
        | true => .fail
        | false => match backSt ns d st st' with
          | some st'' => .ret (backA ns d v) st''
          | none => .fail
    | false => .fail
  | none => .fail

/-- A part of an own row that is only read from now on. -/
def inFrz (C : Cfg) (d : Option Nat) : Bool := match d with | some d => C.frz.any (Nat.beq d) | none => false

def ownA : AV → List Nat
  | .c (.own y _) => [y]
  | _ => []

/-- What is appended is only read from now on, where the text's table says so. -/
def evAppendF (C : Cfg) (st : St) (d : Option Nat) (tys : List TypeId) (x y : AV) : Eff :=
  match inFrz C d with
  | true => evAppend C (freeze st (ownA y)) d tys x y
  | false => evAppend C st d tys x y

/-- The rest of an own row of numbers set to zero. -/
def evClear (C : Cfg) (st : St) (tys : List TypeId) (x : AV) : Eff :=
  match tys with
  | [s] => match lk C.y.el s with
    | some e => match lk C.y.ty e with
      | some (.int k) => match x with
        | .c (.view x i) => match lk st x with
          | some (.sl e' (.int k') l .shallow) => match same k k' with
            | true => .ret (.c .undef) (sput st x (.sl e' (.int k') (l.take i.toNat ++ List.replicate (l.length - i.toNat) (0:Int)) .shallow))
            | false => .fail
          | _ => .fail
        | _ => .fail
      | _ => .fail
    | none => .fail
  | _ => .fail

def evBuiltin (C : Cfg) (st : St) (d : Option Nat) (b : Builtin) (tys : List TypeId) (args : List AV) : Eff :=
  match b, args with
  | .len, [x] => evLen C st tys x
  | .append, [x, y] => evAppendF C st d tys x y
  | .clear, [x] => evClear C st tys x
  | .max, [.c (.int .i64 a), .c (.int .i64 b)] => .ret (.c (.int .i64 (max a b))) st
  | .min, [.c (.int .i64 a), .c (.int .i64 b)] => .ret (.c (.int .i64 (min a b))) st
  | _, _ => .fail

def evSliceImm (t : Ty) (l : List t.den) (lo hi : Option AV) (st : St) : Eff :=
  match lo, hi with
  | none, none => .ret (.c (.imm t l)) st
  | none, some (.c (.int .i64 h)) => .req (0 ≤ h ∧ h ≤ l.length) (.c (.imm t (l.take h.toNat))) st
  | some (.c (.int .i64 b)), none => .req (0 ≤ b ∧ b ≤ l.length) (.c (.imm t (l.drop b.toNat))) st
  | some (.c (.int .i64 b)), some (.c (.int .i64 h)) => .req (0 ≤ b ∧ b ≤ h ∧ h ≤ l.length) (.c (.imm t ((l.take h.toNat).drop b.toNat))) st
  | _, _ => .fail


def evSlice (C : Cfg) (st : St) (d : Option Nat) (s : TypeId) (x : AV) (lo hi : Option AV) : Eff :=
  match lk C.y.el s with
  | some e => match lk C.y.ty e with
    | some te => match x with
      | .c (.imm t l) => match Nat.beq te.size t.size with
        | true => evSliceImm t l lo hi st
        | false => .fail
      | .c (.own x _) => match inFrz C d with
       | true => match lk st x with
        | some (.sl e' t l kd) => match openK kd with
          | false => match Nat.beq te.size t.size with
            | true => evSliceImm t l lo hi (sput st x (.sl e' t l .frozen))
            | false => .fail
          | true => .fail
        | _ => .fail
       | false => match lk st x with
        | some (.sl _ t l .frozen) => match Nat.beq te.size t.size with
          | true => evSliceImm t l lo hi st
          | false => .fail
        | some (.sl e' t l .shallow) => match Nat.beq te.size t.size with
          | true => match lo, hi with
            | none, some (.c (.int .i64 h)) => match newOb (sput st x .dead) d (.sl e' t (l.take h.toNat) .shallow) (fun d => .c (.own d false)) with
              | .ret v st' => .req (0 ≤ h ∧ h ≤ l.length) v st'
              | _ => .fail
            | some (.c (.int .i64 b)), none => .req (0 ≤ b ∧ b ≤ l.length) (.c (.view x b)) st
            | _, _ => .fail
          | false => .fail
        | _ => .fail
      | _ => .fail
    | none => .fail
  | none => .fail

/-- A literal or a made slice that is to own all in it. -/
def inDeep (C : Cfg) (d : Option Nat) : Bool := match d with | some d => C.deep.any (Nat.beq d) | none => false

/-- No tuple among the arguments. -/
def noTup : List AV → Bool
  | [] => true
  | .tup _ :: _ => false
  | _ :: r => noTup r

noncomputable def evOp (C : Cfg) (ρ : Env) (st : St) (o : Oper) : Eff :=
  match o.op with
  | .move x => .ret (ev1 ρ x) st
  | .assign x => .ret (ev1 ρ x) st
  | .pick c a b =>
    match ev1 ρ c with
    | .c (.kb c) => .ret (match c with | true => ev1 ρ a | false => ev1 ρ b) st
    | .c (.bool c) =>
      match boolOf (ev1 ρ a), boolOf (ev1 ρ b) with
      | some x, some y => .ret (.c (.bool (bif c then x else y))) st
      | _, _ => .br c (ev1 ρ a) (ev1 ρ b) st
    | _ => .fail
  | .binOp op t x y _ =>
    match op, ev1 ρ x, ev1 ρ y with
    | .eql, .c .nil, .c .nil => match lk C.y.el t with | some _ => .ret (.c (.kb true)) st | none => .fail
    | .eql, .c (.imm _ l), .c .nil => match lk C.y.el t with | some _ => .nilt (l = []) st | none => .fail
    | .eql, .c (.own x true), .c .nil => match lk C.y.el t, lk st x with
      | some _, some (.sl _ _ l .shallow) => .ret (.c (.bool l.isEmpty)) st
      | some _, some (.sl _ _ l .frozen) => .ret (.c (.bool l.isEmpty)) st
      | some _, some (.sl _ _ l (.deep _ _)) => .ret (.c (.bool l.isEmpty)) st
      | _, _ => .fail
    | .eql, .c (.own x false), .c .nil => match lk C.y.el t, lk st x with
      | some _, some (.sl _ _ l .shallow) => .nilt (l = []) st
      | some _, some (.sl _ _ l .frozen) => .nilt (l = []) st
      | some _, some (.sl _ _ l (.deep _ _)) => .nilt (l = []) st
      | _, _ => .fail
    | .neq, .c .nil, .c .nil => match lk C.y.el t with | some _ => .ret (.c (.kb false)) st | none => .fail
    | .neq, .c (.imm _ l), .c .nil => match lk C.y.el t with | some _ => .niln (l = []) st | none => .fail
    | .neq, .c (.own x true), .c .nil => match lk C.y.el t, lk st x with
      | some _, some (.sl _ _ l .shallow) => .ret (.c (.bool (!l.isEmpty))) st
      | some _, some (.sl _ _ l .frozen) => .ret (.c (.bool (!l.isEmpty))) st
      | some _, some (.sl _ _ l (.deep _ _)) => .ret (.c (.bool (!l.isEmpty))) st
      | _, _ => .fail
    | .neq, .c (.own x false), .c .nil => match lk C.y.el t, lk st x with
      | some _, some (.sl _ _ l .shallow) => .niln (l = []) st
      | some _, some (.sl _ _ l .frozen) => .niln (l = []) st
      | some _, some (.sl _ _ l (.deep _ _)) => .niln (l = []) st
      | _, _ => .fail
    | .eql, .agg [.int .i64 a, .int .i64 b], .agg [.int .i64 c, .int .i64 d] => match C.y.eq.any (Nat.beq t) with
      | true => .ret (.c (.bool (a == c && b == d))) st
      | false => .fail
    | .neq, .agg [.int .i64 a, .int .i64 b], .agg [.int .i64 c, .int .i64 d] => match C.y.eq.any (Nat.beq t) with
      | true => .ret (.c (.bool (!(a == c && b == d)))) st
      | false => .fail
    | op, x, y => match boolOf x with
      | some _ => match lk C.y.ty t with | some .bool => evBin op x y st | _ => .fail
      | none => match inWrp C o.dst with | true => evWrap op x y st | false => evBin op x y st
  | .unOp op _ x =>
    match op, ev1 ρ x with
    | .not, .c (.bool b) => .ret (.c (.bool (!b))) st
    | .not, .c (.kb b) => .ret (.c (.kb (!b))) st
    | .neg, .c (.int k n) => .req (inR k (0 - n)) (.c (.int k (0 - n))) st
    | _, _ => .fail
  | .convert s t x =>
    match ev1 ρ x, lk C.y.ty s, lk C.y.ty t with
    | .c (.int _ n), some (.int _), some (.int k) => .req (inR k n) (.c (.int k n)) st
    | _, _, _ => .fail
  | .nilCheck x => match ev1 ρ x with
    | .c (.ptr x c) => .ret (.c (.ptr x c)) st
    | _ => .fail
  | .indexAddr t x i => evIndexAddr C st t (ev1 ρ x) (ev1 ρ i)
  | .fieldAddr t x f =>
    match lk C.y.fl t with
    | some fl => match fl[f]? with
      | some (off, _) => match ev1 ρ x with
        | .c (.iptr t d c) => .ret (.c (.iptr t d (c + off))) st
        | .c (.eptr x i c) => match lk st x with
          | some (.sl _ _ _ .shallow) => .ret (.c (.eptr x i (c + off))) st
          | some (.sl _ _ _ (.deep _ _)) => .ret (.c (.eptr x i (c + off))) st
          | _ => .fail
        | .c (.ptr x c) => .ret (.c (.ptr x (c + off))) st
        | _ => .fail
      | none => .fail
    | none => .fail
  | .load ty x => evLoad C st o.dst ty (ev1 ρ x)
  | .store ty p v => evStore C st ty (ev1 ρ p) (ev1 ρ v)
  | .extract x i => match ev1 ρ x with
    | .tup l => match l[i]? with | some v => .ret v st | none => .fail
    | _ => .fail
  | .alloc ty => match lk C.y.ty ty with
    | some t => newOb st o.dst (.rc (zeroCV t)) (fun d => .c (.ptr d 0))
    | none => .fail
  | .box ty x => match lk C.y.ty ty, cellsOf (ev1 ρ x) with
    | some _, some cs => newOb st o.dst (.rc cs) (fun d => .c (.ptr d 0))
    | _, _ => .fail
  | .build ty ps => match lk C.y.ty ty, lk C.y.fl ty with
    | some t, some fl => match setParts C.y fl ρ (zeroCV t) ps.toList with
      | some cs => .ret (.agg cs) st
      | none => .fail
    | _, _ => .fail
  | .buildSlice ty len ps => match lk C.y.el ty with
    | some e => match lk C.y.ty e with
      | some t => match inDeep C o.dst with
       | true => match partsMove st ρ t 0 ps.toList with
        | some (l, ns) => match Nat.beq l.length len && Nat.ble (len * t.size) 16777216 && nodupB' ns with
          | true => newOb (kill st ns) o.dst (.sl e t l (.deep true .no)) (fun d => .c (.own d false))
          | false => .fail
        | none => .fail
       | false => match partsFrom st ρ t 0 ps.toList with
        | some (l, ns) => match Nat.beq l.length len && Nat.ble (len * t.size) 16777216 with
          | true => newOb (freeze st ns) o.dst (.sl e t l .shallow) (fun d => .c (.own d false))
          | false => .fail
        | none => .fail
      | none => .fail
    | none => .fail
  | .makeSlice ty l c => match lk C.y.el ty with
    | some e => match lk C.y.ty e with
      | some t => match ev1 ρ l, ev1 ρ c with
        | .c (.int .i64 n), .c (.int .i64 m) => match newOb st o.dst (.sl e t (List.replicate n.toNat t.dflt) (match inDeep C o.dst with | true => .deep true .no | false => .shallow)) (fun d => .c (.own d false)) with
          | .ret v st' => .req (0 ≤ n ∧ n ≤ bound ∧ m = n) v st'
          | _ => .fail
        | _, _ => .fail
      | none => .fail
    | none => .fail
  | .slice t x lo hi mx => match mx with
    | none => evSlice C st o.dst t (ev1 ρ x) (lo.map (ev1 ρ)) (hi.map (ev1 ρ))
    | some _ => .fail
  | .makeFunc (.func f) first cap =>
    match first.toList, cap.toList.mapM (fun x => match ev1 ρ x with | .c (.ptr x 0) => some x | _ => none) with
    | [], some ns => .ret (.c (.fn f ns)) st
    | _, _ => .fail
  | .call c =>
    match c.callee with
    | .builtin b => evBuiltin C st o.dst b c.argTypes.toList (c.args.toList.map (ev1 ρ))
    | .value f =>
      match ev1 ρ f with
      | .c (.fn f cap) => match noTup (c.args.toList.map (ev1 ρ) ++ cap.map fun x => .c (.ptr x 0)) with
        | true => evCall C st o.dst f c.argTypes.toList (c.args.toList.map (ev1 ρ) ++ cap.map fun x => .c (.ptr x 0))
        | false => .fail
      | _ => .fail
    | _ => .fail
  | _ => .fail

noncomputable def effK (e : Eff) (k : AV → St → Prop) : Prop :=
  Eff.rec (motive := fun _ => Prop) False (fun v st => k v st) (fun p v st => p ∧ k v st) (fun b v1 v2 st => (b = true → k v1 st) ∧ (b = false → k v2 st))
    (fun p st => ∀ b : Bool, (b = true → p) → k (.c (.bool b)) st) (fun p st => ∀ b : Bool, (b = false → p) → k (.c (.bool b)) st)
    (fun b _ _ h1 h2 => (b = true → h1) ∧ (b = false → h2)) (fun _ _ ih => ∀ x, ih x) (fun p _ ih => p ∧ ih) (fun p v st => p → k v st) (fun _ o _ ih => ∃ x, o = some x ∧ ih x) e

def dstOf : List Oper → Nat → Option Nat
  | [], _ => none
  | o :: _, 0 => o.dst
  | _ :: r, j + 1 => dstOf r j

def xb : Bool → Bool → Bool
  | true, true => true
  | false, false => true
  | _, _ => false

def dstOk (n : Nat) : Option Nat → Bool
  | some d => Nat.blt d n
  | none => true

/-- One operation with its guard; 'next': what follows it. -/
noncomputable def evOne (C : Cfg) (all : List Oper) (o : Oper) (next : Env → St → Prop) (ρ : Env) (st : St) : Prop :=
  match dstOk C.n o.dst with
  | false => False
  | true =>
    match o.guard with
    | none => effK (evOp C ρ st o) (fun v st' => fA v fun v => fSt st' fun st' => next (putE ρ o.dst v) st')
    | some (j, want) =>
      match dstOf all j with
      | some d => match ρ d with
        | .c (.kb b) => match xb b want with
          | true => effK (evOp C ρ st o) (fun v st' => fA v fun v => fSt st' fun st' => next (putE ρ o.dst v) st')
          | false => next (putE ρ o.dst (.c .skip)) st
        | .c (.bool b) =>
            (b = want → effK (evOp C (upd ρ d (.c (.kb want))) st o) (fun v st' => fA v fun v => fSt st' fun st' => next (putE (upd ρ d (.c (.kb want))) o.dst v) st'))
            ∧ (b = !want → next (putE (upd ρ d (.c (.kb (!want)))) o.dst (.c .skip)) st)
        | .c .skip => next (putE ρ o.dst (.c .skip)) st
        | _ => False
      | none => False

noncomputable def evOps (C : Cfg) (all : List Oper) (k : Env → St → Prop) (l : List Oper) : Env → St → Prop :=
  List.rec (motive := fun _ => Env → St → Prop) k (fun o _ next => evOne C all o next) l

inductive Ex where | normal | exit (id : Nat) | ret

end Go.AE
