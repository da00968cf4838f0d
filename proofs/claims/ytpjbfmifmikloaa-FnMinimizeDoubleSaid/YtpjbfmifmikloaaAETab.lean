/-
  A seat's tables, checked one entry at a time.
-/
import Derived.Test.YtpjbfmifmikloaaAELead
import Derived.KernelRfl
import Derived.Laws.StructEq
import Derived.ChangeKeysEq
namespace Go.AE
open Go Go.RowKit

def infoOf (P : Program) (id : TypeId) : TypeInfo := (P.info? id).getD default
def zeroOf (P : Program) (id : TypeId) : Value := ((infoOf P id).zero).getD undef
def descOf (P : Program) (id : TypeId) : TypeDesc := (P.underlying id).getD .bool
def fieldsOf (P : Program) (id : TypeId) : Array Field := match descOf P id with | .struct fs => fs | _ => #[]

structure TyOk1 (P : Program) (id : TypeId) (t : Ty) : Prop where
  info : P.info? id = some (infoOf P id)
  size : (infoOf P id).size = t.size
  zero : (infoOf P id).zero = some (zeroOf P id)
  cells : (zeroOf P id).cells.toList = zeroVals t
  bytes : Nat.ble (infoOf P id).bytes 256 = true
  under : P.underlying id = some (descOf P id)
  desc : scalarDesc t (descOf P id)
  fine : fine t = true

structure FlOk1 (P : Program) (id : TypeId) (l : List (Nat × TypeId)) : Prop where
  under : P.underlying id = some (.struct (fieldsOf P id))
  size : (fieldsOf P id).toList.map (fun f => (f.offset, f.type)) = l
  some_ : ∀ p ∈ l, P.info? p.2 = some (infoOf P p.2) ∧ Nat.blt 0 (infoOf P p.2).size = true

/-- A struct of two numbers that may be compared. -/
structure Eq1 (P : Program) (t : TypeId) : Prop where
  under : P.underlying t = some (.struct (P.fieldsOf t))
  held : P.stoodInHeld t = false
  guard : P.eqGuardType P.depth t = false
  fields : (P.fieldsOf t).toList.map (fun f => (f.offset, f.name == "_", P.underlying f.type, P.plainKey f.type)) = [(0, false, some (.int .i64), true), (1, false, some (.int .i64), true)]

theorem Eq1.run {P : Program} {t : TypeId} (h : Eq1 P t) (X Y : Operand) (a b c d : Int) (w : World) :
    (do eqGuard .eql t X Y (.agg #[.int .i64 a, .int .i64 b]) (.agg #[.int .i64 c, .int .i64 d]); binOp .eql t (.agg #[.int .i64 a, .int .i64 b]) (.agg #[.int .i64 c, .int .i64 d]) : Sem Value).run P w = .ok (.bool (a == c && b == d)) w ∧
    (do eqGuard .neq t X Y (.agg #[.int .i64 a, .int .i64 b]) (.agg #[.int .i64 c, .int .i64 d]); binOp .neq t (.agg #[.int .i64 a, .int .i64 b]) (.agg #[.int .i64 c, .int .i64 d]) : Sem Value).run P w = .ok (.bool (!(a == c && b == d))) w := by
  have hf := h.fields
  generalize hq : (P.fieldsOf t).toList = fs at hf
  have hlen := congrArg List.length hf
  match fs, hlen with
  | [f1, f2], _ =>
    simp only [List.map_cons, List.map_nil, List.cons.injEq, Prod.mk.injEq, and_true] at hf
    obtain ⟨⟨o1, n1, u1, k1⟩, o2, n2, u2, k2⟩ := hf
    have n1 : f1.name ≠ "_" := by simpa using n1
    have n2 : f2.name ≠ "_" := by simpa using n2
    have core : (Op.equalIn 10000 t (.agg #[.int .i64 a, .int .i64 b]) (.agg #[.int .i64 c, .int .i64 d])).run P w = .ok (a == c && b == d) w := by
      rw [run_equalIn_agg w 9999 t _ _ h.under h.held, hq]
      have p1 : ∀ (u v : Int) (w : World), (part f1.type #[.int .i64 u, .int .i64 v] f1.offset).run P w = .ok (.int .i64 u) w := fun u v w => by rw [o1]; exact run_part_plain w k1 rfl
      have p2 : ∀ (u v : Int) (w : World), (part f2.type #[.int .i64 u, .int .i64 v] f2.offset).run P w = .ok (.int .i64 v) w := fun u v w => by rw [o2]; exact run_part_plain w k2 rfl
      have q1 := run_equalIn_int w 9998 f1.type .i64 .i64 a c u1
      have q2 := run_equalIn_int w 9998 f2.type .i64 .i64 b d u2
      simp only [Op.eqFields, n1, n2, ne_eq, not_false_eq_true, if_true, Sem.run_bind, p1, Result.andThen_ok, q1]
      cases hac : (a == c)
      · simp
      · simp [p2, q2]
        by_cases e : b = d <;> simp [e]
    refine ⟨?_, ?_⟩
    · simp only [Sem.run_bind, run_eqGuard_agg w _ _ _ _ _ _ h.guard, Result.andThen_ok, run_eql_struct, core]
    · simp only [Sem.run_bind, run_eqGuard_agg w _ _ _ _ _ _ h.guard, Result.andThen_ok, run_neq_struct, core]

theorem tysOk_of {P : Program} {y : Tys} (h1 : ∀ p ∈ y.ty, TyOk1 P p.1 p.2)
    (h2 : ∀ p ∈ y.ag, P.underlying p.1 = some (descOf P p.1) ∧ (match descOf P p.1 with | .struct _ => true | .array _ _ => true | _ => false) = p.2)
    (he : ∀ t, y.eq.any (Nat.beq t) = true → Eq1 P t) (h3 : ∀ p ∈ y.el, P.underlying p.1 = some (.slice p.2)) (h4 : ∀ p ∈ y.fl, FlOk1 P p.1 p.2) : TysOk P y := by
  refine ⟨fun id t h => ?_, fun id b h => ?_, fun s e h => h3 _ (lk_of_mem h), fun t h X Y a b c d w => (he t h).run X Y a b c d w, fun s l h => ?_⟩
  · have := h1 _ (lk_of_mem h)
    exact ⟨_, _, _, this.info, this.size, this.zero, this.cells, by have := this.bytes; simpa using this, this.under, this.desc, this.fine⟩
  · exact ⟨_, h2 _ (lk_of_mem h)⟩
  · have := h4 _ (lk_of_mem h)
    dsimp only at this
    refine ⟨_, this.under, ?_, fun i off ty hi => ?_⟩
    · have hs := this.size
      rw [← hs]; simp
    · have hm := List.mem_of_getElem? hi
      obtain ⟨k1, k2⟩ := this.some_ _ hm
      have hs := this.size
      rw [← hs, List.getElem?_map] at hi
      obtain ⟨f, hf, e⟩ := Option.map_eq_some_iff.1 hi
      cases e
      refine ⟨f, by rw [← Array.getElem?_toList]; exact hf, rfl, rfl, _, k1, ?_⟩
      have := of_eq_true_blt k2
      omega

theorem tabOk_nil {P : Program} {y : Tys} {n h : Nat} : TabOk P { y := y, n := n, h := h, tab := [] } := fun _ _ h => by cases h

/-- One contract more. -/
structure Entry (P : Program) (f : FuncId) (con : Con) : Prop where
  ok : ConOk P f con
  there : ∃ fn c, P.funcs[f]? = some fn ∧ (fn.name == "runtime.NumGoroutine") = false ∧ fn.body = some c

theorem tabOk_of {P : Program} {C : Cfg} (h : ∀ p ∈ C.tab, Entry P p.1 p.2) : TabOk P C := fun f con hl => by
  have := h _ (lk_of_mem hl)
  exact ⟨this.ok, this.there⟩

theorem entry_of {P : Program} {C : Cfg} (hM : P.follows .mixedOrders = true) (hT : TysOk P C.y) (hC : ∀ p ∈ C.tab, Entry P p.1 p.2) {f : FuncId} {fn : Func} {c : Code} {con : Con} (hf : P.funcs[f]? = some fn)
    (hname : (fn.name == "runtime.NumGoroutine") = false) (hb : fn.body = some c) (hnt : fn.ntmps = C.n) (h : Keeps P C fn c con) : Entry P f con :=
  ⟨con_of_body hM hT (tabOk_of hC) hf hb hnt h, fn, c, hf, hname, hb⟩

end Go.AE
