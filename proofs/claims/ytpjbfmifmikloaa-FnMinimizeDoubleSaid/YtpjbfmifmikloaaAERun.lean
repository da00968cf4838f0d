/-
  Every operation; regions in the text's order and in any order; the evaluator of code, and what it says of the model's code; loops; functions.
-/
import Derived.Test.YtpjbfmifmikloaaAEOps8
import Derived.Test.YtpjbfmifmikloaaAEOps9
import Derived.Still
import Derived.Lib.MinMax
import Derived.Deep.LoopGhost
namespace Go.AE
open Go Go.RowKit

/-- Operations that only read. -/
def readO (o : Oper) : Bool :=
  match o.op with
  | .move _ => true
  | .assign _ => true
  | .pick _ _ _ => true
  | .binOp _ _ _ _ _ => true
  | .unOp _ _ _ => true
  | .convert _ _ _ => true
  | .nilCheck _ => true
  | .indexAddr _ _ _ => true
  | .fieldAddr _ _ _ => true
  | .load _ _ => true
  | .extract _ _ => true
  | .makeFunc _ _ _ => true
  | .call c => match c.callee with
    | .builtin .len => true
    | _ => false
  | _ => false

section
variable {P : Program} {C : Cfg} {Γ : Ctx} {val val' val'' : Nat → Value} {fp fp' fp'' : Nat → List Nat} {ρ : Env} {st st' st'' : St} {a : Act} {w w' w'' : World} {o : Oper} {k : AV → St → Prop} {K : Act → World → Prop} {Q : Exit → Act → World → Prop}

theorem one_arg {x : AV} {args : Array Operand} (h : args.toList.map (ev1 ρ) = [x]) : ∃ y, args = #[y] ∧ ev1 ρ y = x := by
  cases args with
  | mk l =>
    cases l with
    | nil => simp at h
    | cons y r =>
      cases r with
      | nil => exact ⟨y, rfl, by simpa using h⟩
      | cons z r => simp at h

theorem two_args {x x' : AV} {args : Array Operand} (h : args.toList.map (ev1 ρ) = [x, x']) : ∃ y y', args = #[y, y'] ∧ ev1 ρ y = x ∧ ev1 ρ y' = x' := by
  cases args with
  | mk l =>
    cases l with
    | nil => simp at h
    | cons y r =>
      cases r with
      | nil => simp at h
      | cons z r =>
        cases r with
        | nil =>
          simp only [List.map_cons, List.map_nil, List.cons.injEq, and_true] at h
          exact ⟨y, z, rfl, h.1, h.2⟩
        | cons u r => simp at h

theorem makeFunc_k {f : Fn} {first cap : Array Operand} (ho : o.op = .makeFunc f first cap) (he : effK (evOp C ρ st o) k) : ∃ g, f = .func g := by
  cases f with
  | func g => exact ⟨g, rfl⟩
  | _ => unfold evOp at he; simp only [ho] at he; exact he.elim

theorem op_still (hT : TysOk P C.y) (h : Sim Γ val fp ρ st a w) (hr : readO o = true) (he : effK (evOp C ρ st o) k) (hK : FolS Γ val fp st a w o k K) : o.wp P a w K Q := by
  unfold readO at hr
  split at hr
  · rename_i ho; exact (y_move h ho he hK).wp trivial
  · rename_i ho; exact (y_assign h ho he hK).wp trivial
  · rename_i ho; exact (y_pick h ho he hK).wp trivial
  · rename_i ho; exact (y_bin hT h ho he hK).wp trivial
  · rename_i ho; exact (y_un h ho he hK).wp trivial
  · rename_i ho; exact (y_convert hT h ho he hK).wp trivial
  · rename_i ho; exact sound_nilCheck h ho he hK
  · rename_i ho; exact (y_indexAddr hT h ho he hK).wp trivial
  · rename_i ho; exact (y_fieldAddr hT h ho he hK).wp trivial
  · rename_i ho; exact sound_load hT h ho he hK
  · rename_i ho; exact (y_extract h ho he hK).wp trivial
  · rename_i ho
    obtain ⟨g, rfl⟩ := makeFunc_k ho he
    exact sound_makeFunc h ho he hK
  · rename_i c ho
    split at hr
    · rename_i hc
      obtain ⟨callee, args, tys⟩ := c
      simp only at hc
      subst hc
      unfold evOp at he
      simp only [ho] at he
      unfold evBuiltin at he
      split at he
      · rename_i x _ hx
        obtain ⟨y, rfl, rfl⟩ := one_arg hx
        exact (y_len hT h ho he hK).wp trivial
      · rename_i hb _; cases hb
      · rename_i hb _; cases hb
      · rename_i hb _; cases hb
      · rename_i hb _; cases hb
      · exact he.elim
    · cases hr
  · cases hr

/-- What may be taken first in a region that draws its order: it looks at no memory, or at memory that nobody writes. -/
def firstO (ρ : Env) (o : Oper) : Bool :=
  match o.op with
  | .move _ => true
  | .assign _ => true
  | .pick _ _ _ => true
  | .binOp _ _ _ _ _ => true
  | .unOp _ _ _ => true
  | .convert _ _ _ => true
  | .indexAddr _ _ _ => true
  | .fieldAddr _ _ _ => true
  | .extract _ _ => true
  | .load _ x => match ev1 ρ x with | .c (.iptr _ _ _) => true | .c .skip => true | _ => false
  | .call c => match c.callee with
    | .builtin .len => true
    | _ => false
  | _ => false

theorem firstO_mono {ρ' : Env} (hρ : ∀ x, (∀ b, ev1 ρ x ≠ .c (.bool b)) → ev1 ρ' x = ev1 ρ x) (h : firstO ρ o = true) : firstO ρ' o = true := by
  unfold firstO at *
  cases ho : o.op with
  | load t x =>
    rw [ho] at h
    dsimp only at h ⊢
    split at h
    · rename_i hp
      rw [hρ _ (fun b => by rw [hp]; intro e; cases e), hp]
    · rename_i hp
      rw [hρ _ (fun b => by rw [hp]; intro e; cases e), hp]
    · cases h
  | _ => first | (rw [ho] at h; exact h) | rw [ho] at h

theorem op_first (hT : TysOk P C.y) (h : Sim Γ val fp ρ st a w) (hr : firstO ρ o = true) (he : effK (evOp C ρ st o) k) (hK : FolS Γ val fp st a w o k K) :
    ∃ B : List Nat, (∀ b ∈ B, b < w.heap.size ∧ ¬ NoGo Γ.X st fp b) ∧ OpY P o a (fun w1 => ∀ b ∈ B, w1.heap[b]? = w.heap[b]?) w K := by
  have go : OpT P o a w K → ∃ B : List Nat, (∀ b ∈ B, b < w.heap.size ∧ ¬ NoGo Γ.X st fp b) ∧ OpY P o a (fun w1 => ∀ b ∈ B, w1.heap[b]? = w.heap[b]?) w K := fun ⟨v, h1, h2⟩ =>
    ⟨[], (fun b hb => by cases hb), v, fun w1 _ => h1 w1 trivial, h2⟩
  unfold firstO at hr
  split at hr
  · rename_i ho; exact go (y_move h ho he hK)
  · rename_i ho; exact go (y_assign h ho he hK)
  · rename_i ho; exact go (y_pick h ho he hK)
  · rename_i ho; exact go (y_bin hT h ho he hK)
  · rename_i ho; exact go (y_un h ho he hK)
  · rename_i ho; exact go (y_convert hT h ho he hK)
  · rename_i ho; exact go (y_indexAddr hT h ho he hK)
  · rename_i ho; exact go (y_fieldAddr hT h ho he hK)
  · rename_i ho; exact go (y_extract h ho he hK)
  · rename_i ho
    split at hr
    · rename_i hp
      obtain ⟨b, h1, h2, v, h3, h4⟩ := y_load hT h ho hp he hK
      exact ⟨[b], fun b' hb => by rw [List.mem_singleton.1 hb]; exact ⟨h1, h2⟩, v, fun w1 hw1 => h3 w1 (hw1 b (List.mem_singleton.2 rfl)), h4⟩
    · rename_i hp
      unfold evOp at he
      simp only [ho] at he
      unfold evLoad at he
      simp only [hp] at he
      split at he <;> exact he.elim
    · cases hr
  · rename_i c ho
    split at hr
    · rename_i hc
      obtain ⟨callee, args, tys⟩ := c
      simp only at hc
      subst hc
      unfold evOp at he
      simp only [ho] at he
      unfold evBuiltin at he
      split at he
      · rename_i x _ hx
        obtain ⟨y, rfl, rfl⟩ := one_arg hx
        exact go (y_len hT h ho he hK)
      · rename_i hb _; cases hb
      · rename_i hb _; cases hb
      · rename_i hb _; cases hb
      · rename_i hb _; cases hb
      · exact he.elim
    · cases hr
  · cases hr

theorem op_sound (hT : TysOk P C.y) (hC : TabOk P C) (h : Sim Γ val fp ρ st a w) (he : effK (evOp C ρ st o) k) (hK : Fol Γ val fp st a w o k K) : o.wp P a w K Q := by
  cases hr : readO o with
  | true => exact op_still hT h hr he (hK.still h.toObjs)
  | false =>
    cases ho : o.op with
    | alloc t => exact sound_alloc hT h ho he hK
    | box t x => exact sound_box h ho he hK
    | build t ps => exact sound_build hT h ho he (hK)
    | buildSlice t len ps => exact sound_buildSlice hT h ho he hK
    | makeSlice t x y => exact sound_makeSlice hT h ho he hK
    | store t x y => exact sound_store hT h ho he hK
    | slice t x lo hi mx => exact sound_slice hT h ho he hK
    | call c =>
      obtain ⟨callee, args, tys⟩ := c
      cases callee with
      | value f => exact sound_call hC h ho he hK
      | builtin b =>
        unfold evOp at he
        simp only [ho] at he
        unfold evBuiltin at he
        split at he
        · rename_i x _ hx
          obtain ⟨y, rfl, rfl⟩ := one_arg hx
          exact (y_len hT h ho he (hK.still h.toObjs)).wp trivial
        · rename_i x x' _ hx
          obtain ⟨y, y', rfl, rfl, rfl⟩ := two_args hx
          exact sound_appendF hT h ho he hK
        · rename_i x _ hx
          obtain ⟨y, rfl, rfl⟩ := one_arg hx
          exact sound_clear hT h ho he hK
        · rename_i hx
          obtain ⟨y, y', rfl, h1, h2⟩ := two_args hx
          have e1 := ev1_rep h y
          have e2 := ev1_rep h y'
          rw [h1] at e1
          rw [h2] at e2
          obtain ⟨e1, r1⟩ := e1
          obtain ⟨e2, r2⟩ := e2
          refine wp_builtin ho (s := Builtin.max_ tys o.type #[a.eval y, a.eval y']) (fun cs => by simp [builtin]) (v := .int .i64 _) ?_ ((hK.still h.toObjs).same h.toObjs he (mk_int ?_ rfl))
          · rw [e1, e2]; exact Lib.run_max_ints ..
          · simp only [inR] at r1 r2 ⊢; omega
        · rename_i hx
          obtain ⟨y, y', rfl, h1, h2⟩ := two_args hx
          have e1 := ev1_rep h y
          have e2 := ev1_rep h y'
          rw [h1] at e1
          rw [h2] at e2
          obtain ⟨e1, r1⟩ := e1
          obtain ⟨e2, r2⟩ := e2
          refine wp_builtin ho (s := Builtin.min_ tys o.type #[a.eval y, a.eval y']) (fun cs => by simp [builtin]) (v := .int .i64 _) ?_ ((hK.still h.toObjs).same h.toObjs he (mk_int ?_ rfl))
          · rw [e1, e2]; exact Lib.run_min_ints ..
          · simp only [inR] at r1 r2 ⊢; omega
        · exact he.elim
      | _ => unfold evOp at he; simp only [ho] at he; exact he.elim
    | _ =>
      first
        | (exfalso; unfold readO at hr; rw [ho] at hr; exact Bool.noConfusion hr)
        | (unfold evOp at he; simp only [ho] at he; exact he.elim)

theorem val_only {s : Sem Value} {w1 w2 : World} {n : Next} (h : (do pure (Next.value (← s)) : Sem Next).run P w1 = .ok n w2) : ∃ v, n = .value v := by
  simp only [Sem.run_bind, Sem.run_pure] at h
  cases hq : s.run P w1 with
  | ok v w' =>
    rw [hq] at h
    simp only [Result.andThen_ok, Result.ok.injEq] at h
    exact ⟨v, h.1.symm⟩
  | halt x w' =>
    rw [hq] at h
    cases h

theorem read_val (hr : readO o = true) {w1 w2 : World} {n : Next} (h : (execOp a.eval o).run P w1 = .ok n w2) : ∃ v, n = .value v := by
  unfold readO at hr
  split at hr
  · rename_i ho; simp only [execOp, ho, Sem.run_pure, Result.ok.injEq] at h; exact ⟨_, h.1.symm⟩
  · rename_i ho; simp only [execOp, ho, Sem.run_pure, Result.ok.injEq] at h; exact ⟨_, h.1.symm⟩
  · rename_i c x y ho
    simp only [execOp, ho, Sem.run_bind] at h
    cases hq : (asBool (a.eval c)).run P w1 with
    | ok v w' =>
      rw [hq] at h
      simp only [Result.andThen_ok, Sem.run_pure, Result.ok.injEq] at h
      exact ⟨_, h.1.symm⟩
    | halt x w' => rw [hq] at h; cases h
  · rename_i ho; simp only [execOp, ho] at h; exact val_only h
  · rename_i ho; simp only [execOp, ho] at h; exact val_only h
  · rename_i ho; simp only [execOp, ho] at h; exact val_only h
  · rename_i x ho
    simp only [execOp, ho] at h
    split at h
    · cases h
    · cases h
    · cases h
    · split at h
      · cases h
      · simp only [Sem.run_bind] at h
        generalize hq : Sem.run P program w1 = r at h
        cases r with
        | halt x w' => cases h
        | ok pr w' =>
          simp only [Result.andThen_ok] at h
          generalize hq2 : Sem.run P (nilAhead _ _ _ _) w' = r2 at h
          cases r2 with
          | halt x w' => cases h
          | ok b w3 =>
            simp only [Result.andThen_ok] at h
            split at h
            · cases h
            · simp only [Sem.run_pure, Result.ok.injEq] at h
              exact ⟨_, h.1.symm⟩
      · simp only [Sem.run_pure, Result.ok.injEq] at h
        exact ⟨_, h.1.symm⟩
    · simp only [Sem.run_pure, Result.ok.injEq] at h
      exact ⟨_, h.1.symm⟩
  · rename_i ho; simp only [execOp, ho] at h; exact val_only h
  · rename_i ho; simp only [execOp, ho] at h; exact val_only h
  · rename_i ho; simp only [execOp, ho] at h; exact val_only h
  · rename_i ho; simp only [execOp, ho] at h; exact val_only h
  · rename_i ho; simp only [execOp, ho] at h; exact val_only h
  · rename_i c ho
    split at hr
    · rename_i hc
      obtain ⟨callee, args, tys⟩ := c
      simp only at hc
      subst hc
      simp only [execOp, ho, resolve, invoke, builtin, pure_bind] at h
      exact val_only h
    · cases hr
  · cases hr

/-- What only reads yields a value, and leaves the world as it is. -/
theorem still_of_wp (hr : readO o = true) {K : Act → Prop} (h : o.wp P a w (fun a' w' => w' = w ∧ K a') (fun _ _ _ => False)) : o.still P a w K := by
  unfold Oper.wp at h
  unfold Oper.still
  cases hq : (execOp a.eval o).run P w with
  | ok n w' =>
    rw [hq] at h
    obtain ⟨v, rfl⟩ := read_val hr hq
    exact h
  | halt x w' =>
    rw [hq] at h
    cases x <;> exact h.elim

end
end Go.AE
