/-
  Plain laws: counting splits over cubes.
-/
import Derived.Test.YtpjbfmifmikloaaP11V
import Derived.Test.YtpjbfmifmikloaaP12P
namespace Go.AE.Y
open Go Go.AE

/-! ### Assignments by number -/

/-! ### Under a cube -/

theorem evalB_litC {v : List Bool} (n : Int) : evalB v (litC n) = litB v n := by
  show decide ((1 : Int) ≤ sumB v [(1, n)]) = litB v n
  have e : sumB v [(1, n)] = bif litB v n then 1 else 0 := by
    unfold sumB
    rw [List.foldl_cons, List.foldl_nil]
    rfl
  rw [e]
  by_cases hq : litB v n = true
  · rw [hq, ctt]; rfl
  · have hq' : litB v n = false := by simpa using hq
    rw [hq', cff]; rfl

theorem all_under {v : List Bool} (l : List (List (Int × Int) × Int)) (c : List Int) : (l ++ c.map litC).all (evalB v) = (l.all (evalB v) && c.all (litB v)) := by
  rw [List.all_append, List.all_map]
  congr 1
  congr 1
  funext n
  exact evalB_litC n

theorem conB_litC {n : Int} (h : isLit n = true) : conB (litC n) = true := by
  unfold conB litC termAt
  simp [List.range_succ, h]

theorem probB_under {l : List (List (Int × Int) × Int)} {c : List Int} (hp : probB l = true) (hc : ∀ n ∈ c, isLit n = true) (hl : l.length + c.length ≤ 400) : probB (l ++ c.map litC) = true := by
  have ha := probB_all hp
  unfold probB
  simp only [Bool.and_eq_true, decide_eq_true_eq, List.all_eq_true]
  refine ⟨fun x hx => ?_, by simp; omega⟩
  rcases List.mem_append.1 hx with hx | hx
  · exact ha x hx
  · obtain ⟨n, hn, rfl⟩ := List.mem_map.1 hx
    exact conB_litC (hc n hn)

theorem foldr_add : ∀ (m : List Nat) (z : Nat), m.foldr (· + ·) z = m.foldr (· + ·) 0 + z := fun m z => by
  induction m with
  | nil => simp
  | cons y r ih => rw [List.foldr_cons, List.foldr_cons, ih]; omega

theorem sum_count {α β : Type} (vs : List α) (cs : List β) (P : α → Bool) (q : α → β → Bool) (h : ∀ v ∈ vs, cs.countP (q v) = 1) :
    (cs.map (fun c => vs.countP (fun v => P v && q v c))).foldr (· + ·) 0 = vs.countP P := by
  induction vs with
  | nil =>
    clear h
    induction cs with
    | nil => rfl
    | cons c r ih => rw [List.map_cons, List.foldr_cons, ih]; rfl
  | cons v r ih =>
    have ih' := ih (fun w hw => h w (List.mem_cons_of_mem _ hw))
    have hv := h v List.mem_cons_self
    rw [List.countP_cons, ← ih']
    have key : ∀ cs : List β, (cs.map (fun c => (v :: r).countP (fun v => P v && q v c))).foldr (· + ·) 0 = (cs.map (fun c => r.countP (fun v => P v && q v c))).foldr (· + ·) 0 + (if P v = true then cs.countP (q v) else 0) := by
      intro cs
      induction cs with
      | nil => simp
      | cons c s ihs =>
        rw [List.map_cons, List.foldr_cons, ihs, List.map_cons, List.foldr_cons, List.countP_cons, List.countP_cons]
        cases P v <;> cases q v c <;> simp <;> omega
    rw [key, hv]

/-! ### Draws -/

end Go.AE.Y
