/-
  Models: what a function computes, as a Lean function into Option; how a walk follows its model. Loops as fixed points; cuts.
-/
import Derived.Test.YtpjbfmifmikloaaAETab
namespace Go.AE
open Go Go.RowKit

def i64 (n : Int) : Prop := -9223372036854775808 ≤ n ∧ n ≤ 9223372036854775807

instance (n : Int) : Decidable (i64 n) := inferInstanceAs (Decidable (_ ∧ _))
instance (k : IntKind) (n : Int) : Decidable (inR k n) := by unfold inR; cases k <;> infer_instance

/-- What must hold for the model to go on. -/
def rq {α : Type} (p : Prop) [Decidable p] (m : Option α) : Option α := if p then m else none

/-- The model has an answer, and K holds of it. -/
def Ok {α : Type} (m : Option α) (K : α → Prop) : Prop := ∃ x, m = some x ∧ K x

theorem ok_rq {α : Type} {p : Prop} [Decidable p] {m : Option α} {K : α → Prop} (h : Ok (rq p m) K) : p ∧ Ok m K := by
  unfold rq at h
  split at h
  · rename_i hp; exact ⟨hp, h⟩
  · obtain ⟨x, h1, _⟩ := h; cases h1

theorem ok_t {α : Type} {b : Bool} {m m' : Option α} {K : α → Prop} (h : Ok (cond b m m') K) (hb : b = true) : Ok m K := by subst hb; exact h
theorem ok_f {α : Type} {b : Bool} {m m' : Option α} {K : α → Prop} (h : Ok (cond b m m') K) (hb : b = false) : Ok m' K := by subst hb; exact h

theorem ok_bind {α β : Type} {m : Option α} {f : α → Option β} {K : β → Prop} (h : Ok (m.bind f) K) : ∃ x, m = some x ∧ Ok (f x) K := by
  obtain ⟨y, h1, h2⟩ := h
  cases m with
  | none => cases h1
  | some x => exact ⟨x, rfl, y, h1, h2⟩

open Classical in
/-- A slice against nil: where its list is empty, both ways must give the same. -/
noncomputable def nt {α : Type} (p : Prop) (m m' : Option α) : Option α := if p then (if m = m' then m else none) else m'

theorem ok_nt {α : Type} {p : Prop} {m m' : Option α} {K : α → Prop} (h : Ok (nt p m m') K) {b : Bool} (hb : b = true → p) : Ok (cond b m m') K := by
  unfold nt at h
  split at h
  · split at h
    · rename_i e; subst e; cases b <;> exact h
    · obtain ⟨x, h1, _⟩ := h; cases h1
  · rename_i hp
    cases b with
    | false => exact h
    | true => exact absurd (hb rfl) hp

theorem ok_nt' {α : Type} {p : Prop} {m m' : Option α} {K : α → Prop} (h : Ok (nt p m m') K) {b : Bool} (hb : b = false → p) : Ok (cond b m' m) K := by
  unfold nt at h
  split at h
  · split at h
    · rename_i e; subst e; cases b <;> exact h
    · obtain ⟨x, h1, _⟩ := h; cases h1
  · rename_i hp
    cases b with
    | true => exact h
    | false => exact absurd (hb rfl) hp

theorem ok_some {α : Type} {x : α} {K : α → Prop} (h : Ok (some x) K) : K x := by
  obtain ⟨y, h1, h2⟩ := h
  cases h1
  exact h2

/-- One level up: what a piece of code behind a loop gives, inside that loop. -/
def up {α β : Type} (m : Option β) : Option (α ⊕ β) := m.map .inr

theorem ok_up {α β : Type} {m : Option β} {K : α ⊕ β → Prop} (h : Ok (up m : Option (α ⊕ β)) K) : Ok m fun x => K (.inr x) := by
  obtain ⟨y, h1, h2⟩ := h
  cases m with
  | none => cases h1
  | some x => cases h1; exact ⟨x, rfl, h2⟩

/-! ### Loops -/

/-- n rounds at most. -/
def rounds {S R : Type} (f : S → Option (S ⊕ R)) : Nat → S → Option R
  | 0, _ => none
  | n + 1, s => (f s).bind fun | .inl s' => rounds f n s' | .inr r => some r

theorem rounds_mono {S R : Type} {f : S → Option (S ⊕ R)} : ∀ {n m : Nat} {s : S} {r : R}, n ≤ m → rounds f n s = some r → rounds f m s = some r
  | 0, _, _, _, _, h => by cases h
  | n + 1, 0, _, _, h, _ => by omega
  | n + 1, m + 1, s, r, h, hr => by
    unfold rounds at hr ⊢
    cases hf : f s with
    | none => rw [hf] at hr; cases hr
    | some x =>
      rw [hf] at hr
      cases x with
      | inl s' => exact rounds_mono (by omega) hr
      | inr r' => exact hr

open Classical in
/-- The loop's answer, after however many rounds. -/
noncomputable def loop {S R : Type} (f : S → Option (S ⊕ R)) (s : S) : Option R := if h : ∃ n r, rounds f n s = some r then some h.choose_spec.choose else none

theorem loop_of {S R : Type} {f : S → Option (S ⊕ R)} {s : S} {n : Nat} {r : R} (h : rounds f n s = some r) : loop f s = some r := by
  have hex : ∃ n r, rounds f n s = some r := ⟨n, r, h⟩
  unfold loop
  rw [dif_pos hex]
  have h2 := hex.choose_spec.choose_spec
  have h3 := rounds_mono (Nat.le_max_left n hex.choose) h
  have h4 := rounds_mono (Nat.le_max_right n hex.choose) h2
  rw [h3] at h4
  cases h4
  rfl

theorem loop_rounds {S R : Type} {f : S → Option (S ⊕ R)} {s : S} {r : R} (h : loop f s = some r) : ∃ n, rounds f n s = some r := by
  unfold loop at h
  split at h
  · rename_i hex
    cases h
    exact ⟨_, hex.choose_spec.choose_spec⟩
  · cases h

/-- A loop's next round. -/
theorem loop_eq {S R : Type} (f : S → Option (S ⊕ R)) (s : S) : loop f s = (f s).bind fun | .inl s' => loop f s' | .inr r => some r := by
  cases hf : f s with
  | none =>
    unfold loop
    rw [dif_neg]
    · rfl
    · rintro ⟨n, r, h⟩
      cases n with
      | zero => cases h
      | succ n => unfold rounds at h; rw [hf] at h; cases h
  | some x =>
    cases x with
    | inr r => exact loop_of (n := 1) (by unfold rounds; rw [hf]; rfl)
    | inl s' =>
      show loop f s = loop f s'
      cases hl : loop f s' with
      | some r =>
        obtain ⟨n, hn⟩ := loop_rounds hl
        exact loop_of (n := n + 1) (by unfold rounds; rw [hf]; exact hn)
      | none =>
        cases hl2 : loop f s with
        | none => rfl
        | some r =>
          obtain ⟨n, hn⟩ := loop_rounds hl2
          cases n with
          | zero => cases hn
          | succ n =>
            unfold rounds at hn
            rw [hf] at hn
            rw [loop_of (show rounds f n s' = some r from hn)] at hl
            cases hl

/-- What a round must lead to: the next state, or the end. -/
def LK {S R : Type} (J : S → Prop) (K : R → Prop) : S ⊕ R → Prop
  | .inl s => J s
  | .inr r => K r

noncomputable def bd (fn : Func) : Code := match fn.body with | some c => c | none => .skip

section
variable {P : Program} {C : Cfg} {ρ : Env} {st : St}

theorem entry_by (hM : P.follows .mixedOrders = true) (hT : TysOk P C.y) (hC : TabOk P C) {f : FuncId} {fn : Func} {c : Code} {con : Con} (hf : P.funcs[f]? = some fn)
    (hname : (fn.name == "runtime.NumGoroutine") = false) (hb : fn.body = some c) (hnt : fn.ntmps = C.n) (h : Keeps P C fn c con) : Entry P f con :=
  ⟨con_of_body hM hT hC hf hb hnt h, fn, c, hf, hname, hb⟩

theorem evC_sem (hM : P.follows .mixedOrders = true) (hT : TysOk P C.y) (hC : TabOk P C) {c : Code} {k : Ex → Env → St → Prop} (h : evC P C c k ρ st) : SemC P C c k ρ st := code_sound hM hT hC c k ρ st h

/-- THE WALK OF A LOOP BY ITS MODEL. -/
theorem loop_model (hM : P.follows .mixedOrders = true) (hT : TysOk P C.y) (hC : TabOk P C) {S R : Type} (I : S → Env × St) {f : S → Option (S ⊕ R)} {K : R → Prop} {b : Code} {kk : Ex → Env → St → Prop} {s0 : S}
    (he : Ok (loop f s0) K) (h0 : Leads C ρ st (I s0).1 (I s0).2)
    (round : ∀ (s : S) (J : S → Prop), Ok (f s) (LK J K) → evC P C b (thn (fun ρ' st' => ∃ s', J s' ∧ Leads C ρ' st' (I s').1 (I s').2) kk) (I s).1 (I s).2) : SemC P C (.loop b) kk ρ st := by
  obtain ⟨r0, h1, h2⟩ := he
  obtain ⟨n0, h3⟩ := loop_rounds h1
  refine SemC.leads (ρ' := (I s0).1) (st' := (I s0).2) ?_ h0
  clear h0
  have key : ∀ s : { p : S × Nat // rounds f p.2 p.1 = some r0 }, evC P C b (thn (fun ρ' st' => ∃ s' : { p : S × Nat // rounds f p.2 p.1 = some r0 }, s'.1.2 < s.1.2 ∧ Leads C ρ' st' (I s'.1.1).1 (I s'.1.1).2) kk) (I s.1.1).1 (I s.1.1).2 := by
    rintro ⟨⟨s, n⟩, hs⟩
    cases n with
    | zero => cases hs
    | succ n =>
      have hs' : rounds f (n + 1) s = some r0 := hs
      unfold rounds at hs'
      have := round s (fun s' => rounds f n s' = some r0)
      cases hf : f s with
      | none => rw [hf] at hs'; cases hs'
      | some x =>
        rw [hf] at hs'
        rw [hf] at this
        have h5 := this ⟨x, rfl, by
          cases x with
          | inl s' => exact hs'
          | inr r => cases hs'; exact h2⟩
        refine cast (congrArg (fun m => evC P C b (thn m kk) (I s).1 (I s).2) (funext fun ρ' => funext fun st' => propext ⟨?_, ?_⟩)) h5
        · rintro ⟨s', q1, q2⟩; exact ⟨⟨(s', n), q1⟩, Nat.lt_succ_self n, q2⟩
        · rintro ⟨⟨⟨s', m⟩, q1⟩, q3, q2⟩
          exact ⟨s', rounds_mono (Nat.le_of_lt_succ q3) q1, q2⟩
  refine loop_rule hM hT hC (I := fun s : { p : S × Nat // rounds f p.2 p.1 = some r0 } => I s.1.1) (fun s => s.1.2) ⟨(s0, n0), h3⟩ (fun Γ val0 st0 val fp a w hn h0 hs hst => ⟨val, fp, hs, hst⟩) key

/-- THE WALK OF TWO PIECES WHERE THE STATE IS LAID ANEW BETWEEN THEM. -/
theorem seq_model (hM : P.follows .mixedOrders = true) (hT : TysOk P C.y) (hC : TabOk P C) {S : Type} (I : S → Env × St) (B : S → Prop) {x y : Code} {kk : Ex → Env → St → Prop}
    (rest : ∀ s : S, B s → evC P C y kk (I s).1 (I s).2) (part : evC P C x (thn (fun ρ' st' => ∃ s, B s ∧ Leads C ρ' st' (I s).1 (I s).2) kk) ρ st) : SemC P C (.seq x y) kk ρ st :=
  fun Γ val0 st0 val fp a w Q hn h0 h hs hk => by
    refine wp_seq (code_sound hM hT hC x _ ρ st part Γ val0 st0 val fp a w _ hn h0 h hs ?_)
    intro e ρ' st' val' fp' a' w' h1 h2 h3
    cases e with
    | normal =>
      obtain ⟨s, hb, hl⟩ := h1
      obtain ⟨val2, fp2, h4, h5⟩ := hl Γ val0 st0 val' fp' a' w' hn h0 h2 h3
      exact code_sound hM hT hC y kk _ _ (rest s hb) Γ val0 st0 val2 fp2 a' w' Q hn h0 h4 h5 hk
    | exit i => exact hk _ _ _ _ _ _ _ h1 h2 h3
    | ret => exact hk _ _ _ _ _ _ _ h1 h2 h3

end
end Go.AE
