/-
  Plain laws: violations add up.
-/
import Derived.Test.YtpjbfmifmikloaaP3
namespace Go.AE.Y
open Go Go.AE

theorem bad_fold {v : List Bool} : ∀ (l : List (List (Int × Int) × Int)) (a : Int), l.foldl (fun a c => bif evalB v c then a else a + 1) a = a + badB v l := by
  intro l
  unfold badB
  induction l with
  | nil => intro a; simp
  | cons c r ih =>
    intro a
    rw [List.foldl_cons, List.foldl_cons, ih, ih (bif evalB v c then 0 else 0 + 1)]
    cases evalB v c with
    | true => rw [ctt, ctt]; omega
    | false => rw [cff, cff]; omega

theorem badB_cons {v : List Bool} (c : List (Int × Int) × Int) (r : List (List (Int × Int) × Int)) : badB v (c :: r) = (bif evalB v c then 0 else 1) + badB v r := by
  conv => lhs; unfold badB
  rw [List.foldl_cons, bad_fold]
  simp

theorem badB_append {v : List Bool} (a b : List (List (Int × Int) × Int)) : badB v (a ++ b) = badB v a + badB v b := by
  conv => lhs; unfold badB
  rw [List.foldl_append, bad_fold]
  rfl

theorem badB_bound {v : List Bool} (l : List (List (Int × Int) × Int)) : 0 ≤ badB v l ∧ badB v l ≤ l.length := by
  induction l with
  | nil => simp [badB]
  | cons c r ih =>
    rw [badB_cons, List.length_cons]
    cases evalB v c with
    | true => rw [ctt]; omega
    | false => rw [cff]; omega

theorem badB_zero {v : List Bool} (l : List (List (Int × Int) × Int)) : (badB v l == 0) = l.all (evalB v) := by
  induction l with
  | nil => rfl
  | cons c r ih =>
    have hb := badB_bound (v := v) r
    rw [badB_cons, List.all_cons, ← ih]
    cases evalB v c with
    | true => rw [ctt, Bool.true_and]; congr 1; omega
    | false =>
      rw [cff, Bool.false_and, beq_eq_false_iff_ne]
      omega

theorem smallC_sub {l m : List (List (Int × Int) × Int)} (h : smallC l) (hs : ∀ x ∈ m, x ∈ l) (hl : m.length ≤ l.length) : smallC m := ⟨Nat.le_trans hl h.1, fun x hx => h.2 x (hs x hx)⟩
theorem probB_sub {l m : List (List (Int × Int) × Int)} (h : probB l = true) (hs : ∀ x ∈ m, x ∈ l) (hl : m.length ≤ l.length) : probB m = true := by
  have ha := probB_all h
  unfold probB at h ⊢
  simp only [Bool.and_eq_true, decide_eq_true_eq, List.all_eq_true] at h ⊢
  exact ⟨fun x hx => ha x (hs x hx), by omega⟩

end Go.AE.Y
