/-
  A seat's tables, checked one entry at a time.
-/
import Derived.Test.YtkipgkpekkjebaaAELead
import Derived.KernelRfl
namespace Go.AE
open Go Go.RowKit

def infoOf (P : Program) (id : TypeId) : TypeInfo := (P.info? id).getD default
def zeroOf (P : Program) (id : TypeId) : Value := ((infoOf P id).zero).getD undef
def descOf (P : Program) (id : TypeId) : TypeDesc := (P.underlying id).getD .bool
def fieldsOf (P : Program) (id : TypeId) : Array Field := match descOf P id with | .struct fs => fs | _ => #[]

structure TyOk1 (P : Program) (id : TypeId) (t : Ty) : Prop where
  info : P.info? id = some (infoOf P id)
  size : (infoOf P id).size = t.size
  zero : (infoOf P id).zero = some (zeroOf P id)
  cells : (zeroOf P id).cells.toList = zeroVals t
  bytes : Nat.ble (infoOf P id).bytes 256 = true
  under : P.underlying id = some (descOf P id)
  desc : scalarDesc t (descOf P id)
  fine : fine t = true

structure FlOk1 (P : Program) (id : TypeId) (l : List (Nat × TypeId)) : Prop where
  under : P.underlying id = some (.struct (fieldsOf P id))
  size : (fieldsOf P id).toList.map (fun f => (f.offset, f.type)) = l
  some_ : ∀ p ∈ l, P.info? p.2 = some (infoOf P p.2) ∧ Nat.blt 0 (infoOf P p.2).size = true

theorem tysOk_of {P : Program} {y : Tys} (h1 : ∀ p ∈ y.ty, TyOk1 P p.1 p.2)
    (h2 : ∀ p ∈ y.ag, P.underlying p.1 = some (descOf P p.1) ∧ (match descOf P p.1 with | .struct _ => true | .array _ _ => true | _ => false) = p.2)
    (h3 : ∀ p ∈ y.el, P.underlying p.1 = some (.slice p.2)) (h4 : ∀ p ∈ y.fl, FlOk1 P p.1 p.2) : TysOk P y := by
  refine ⟨fun id t h => ?_, fun id b h => ?_, fun s e h => h3 _ (lk_of_mem h), fun s l h => ?_⟩
  · have := h1 _ (lk_of_mem h)
    exact ⟨_, _, _, this.info, this.size, this.zero, this.cells, by have := this.bytes; simpa using this, this.under, this.desc, this.fine⟩
  · exact ⟨_, h2 _ (lk_of_mem h)⟩
  · have := h4 _ (lk_of_mem h)
    dsimp only at this
    refine ⟨_, this.under, ?_, fun i off ty hi => ?_⟩
    · have hs := this.size
      rw [← hs]; simp
    · have hm := List.mem_of_getElem? hi
      obtain ⟨k1, k2⟩ := this.some_ _ hm
      have hs := this.size
      rw [← hs, List.getElem?_map] at hi
      obtain ⟨f, hf, e⟩ := Option.map_eq_some_iff.1 hi
      cases e
      refine ⟨f, by rw [← Array.getElem?_toList]; exact hf, rfl, rfl, _, k1, ?_⟩
      have := of_eq_true_blt k2
      omega

theorem tabOk_nil {P : Program} {y : Tys} {n h : Nat} : TabOk P { y := y, n := n, h := h, tab := [] } := fun _ _ h => by cases h

/-- One contract more. -/
structure Entry (P : Program) (f : FuncId) (con : Con) : Prop where
  ok : ConOk P f con
  there : ∃ fn c, P.funcs[f]? = some fn ∧ (fn.name == "runtime.NumGoroutine") = false ∧ fn.body = some c

theorem tabOk_of {P : Program} {C : Cfg} (h : ∀ p ∈ C.tab, Entry P p.1 p.2) : TabOk P C := fun f con hl => by
  have := h _ (lk_of_mem hl)
  exact ⟨this.ok, this.there⟩

theorem entry_of {P : Program} {C : Cfg} (hM : P.follows .mixedOrders = true) (hT : TysOk P C.y) (hC : ∀ p ∈ C.tab, Entry P p.1 p.2) {f : FuncId} {fn : Func} {c : Code} {con : Con} (hf : P.funcs[f]? = some fn)
    (hname : (fn.name == "runtime.NumGoroutine") = false) (hb : fn.body = some c) (hnt : fn.ntmps = C.n) (h : Keeps P C fn c con) : Entry P f con :=
  ⟨con_of_body hM hT (tabOk_of hC) hf hb hnt h, fn, c, hf, hname, hb⟩

end Go.AE
