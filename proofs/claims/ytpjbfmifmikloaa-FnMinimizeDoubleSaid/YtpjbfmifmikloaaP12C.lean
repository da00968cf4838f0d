/-
  Plain laws: problems under a cube, parts of a problem.
-/
import Derived.Test.YtpjbfmifmikloaaPX
namespace Go.AE.Y
open Go Go.AE

/-! ### Copies of a problem -/

/-- A loop that appends a row's elements one by one. -/
theorem loop_push {α R : Type} {f : Int × List α → Option ((Int × List α) ⊕ R)} (l : List α) (d : α) (o0 : List α) (fin : List α → R)
    (h : ∀ (i : Nat) (out : List α), i < l.length → out.length = o0.length + i → f (i, out) = some (.inl ((i : Int) + 1, out ++ [l.getD i d]))) (hn : f (l.length, o0 ++ l) = some (.inr (fin (o0 ++ l)))) :
    loop f (0, o0) = some (fin (o0 ++ l)) := by
  refine loop_fn (fun s : Int × List α => ∃ i : Nat, s.1 = i ∧ i ≤ l.length ∧ s.2 = o0 ++ l.take i) (fun s => l.length - s.1.toNat) (fun _ => fin (o0 ++ l)) ?_ _ ⟨0, rfl, Nat.zero_le _, by simp⟩
  rintro ⟨s, out⟩ ⟨i, rfl, hi, ho⟩
  dsimp only at ho ⊢
  rcases Nat.lt_or_ge i l.length with h1 | h1
  · left
    refine ⟨_, h i out h1 (by rw [ho]; simp; omega), ⟨i + 1, by simp, by omega, ?_⟩, by dsimp only; omega, rfl⟩
    dsimp only
    rw [ho, List.take_succ_eq_append_getElem h1, List.append_assoc]
    congr 2
    simp [List.getD_eq_getElem?_getD, h1]
  · right
    have : i = l.length := by omega
    subst this
    rw [List.take_length] at ho
    rw [ho, hn]

theorem swap_eta (c : List (Int × Int) × Int) : (c.1, c.2) = c := rfl

/-! ### A problem under a cube -/

def litC (n : Int) : List (Int × Int) × Int := ([(1, n)], 1)

theorem loop_push_map {α β R : Type} {f : Int × List β → Option ((Int × List β) ⊕ R)} (l : List α) (d : α) (g : α → β) (o0 : List β) (fin : List β → R)
    (h : ∀ (i : Nat) (out : List β), i < l.length → out.length = o0.length + i → f (i, out) = some (.inl ((i : Int) + 1, out ++ [g (l.getD i d)]))) (hn : f (l.length, o0 ++ l.map g) = some (.inr (fin (o0 ++ l.map g)))) :
    loop f (0, o0) = some (fin (o0 ++ l.map g)) := by
  refine loop_push (l.map g) (g d) o0 fin (fun i out hi ho => ?_) (by rw [List.length_map]; exact hn)
  rw [List.length_map] at hi
  rw [h i out hi ho, getD_map l g i d (g d) hi]

def cubeProbB (a : List (List (Int × Int) × Int)) (c : List Int) : Bool × List (List (Int × Int) × Int) :=
  bif probB a && (cubeB c && decide (a.length + c.length ≤ 400)) then (true, a ++ c.map litC) else (false, [])

theorem cubeB_len {c : List Int} (h : cubeB c = true) : c.length ≤ 4 := by
  unfold cubeB at h
  simp only [Bool.and_eq_true, decide_eq_true_eq] at h
  exact h.2

theorem cubeProbB_small {a : List (List (Int × Int) × Int)} {c : List Int} (h : smallC a) : smallC (cubeProbB a c).2 := by
  unfold cubeProbB
  cases hq : (probB a && (cubeB c && decide (a.length + c.length ≤ 400))) with
  | false => exact ⟨by simp, fun x hx => by simp at hx⟩
  | true =>
    simp only [Bool.and_eq_true, decide_eq_true_eq] at hq
    rw [ctt]
    refine ⟨by simp; omega, fun x hx => ?_⟩
    rcases List.mem_append.1 hx with hx | hx
    · exact h.2 x hx
    · obtain ⟨n, _, rfl⟩ := List.mem_map.1 hx
      simp [litC]

end Go.AE.Y
