/-
  Plain laws: violations add up.
-/
import Derived.Test.YtpjbfmifmikloaaP3
namespace Go.AE.Y
open Go Go.AE

theorem bad_fold {v : List Bool} : ∀ (l : List (List (Int × Int) × Int)) (a : Int), l.foldl (fun a c => bif evalB v c then a else a + 1) a = a + badB v l := by
  intro l
  unfold badB
  induction l with
  | nil => intro a; simp
  | cons c r ih =>
    intro a
    rw [List.foldl_cons, List.foldl_cons, ih, ih (bif evalB v c then 0 else 0 + 1)]
    cases evalB v c with
    | true => rw [ctt, ctt]; omega
    | false => rw [cff, cff]; omega

theorem badB_cons {v : List Bool} (c : List (Int × Int) × Int) (r : List (List (Int × Int) × Int)) : badB v (c :: r) = (bif evalB v c then 0 else 1) + badB v r := by
  conv => lhs; unfold badB
  rw [List.foldl_cons, bad_fold]
  simp

theorem badB_append {v : List Bool} (a b : List (List (Int × Int) × Int)) : badB v (a ++ b) = badB v a + badB v b := by
  conv => lhs; unfold badB
  rw [List.foldl_append, bad_fold]
  rfl

theorem badB_bound {v : List Bool} (l : List (List (Int × Int) × Int)) : 0 ≤ badB v l ∧ badB v l ≤ l.length := by
  induction l with
  | nil => simp [badB]
  | cons c r ih =>
    rw [badB_cons, List.length_cons]
    cases evalB v c with
    | true => rw [ctt]; omega
    | false => rw [cff]; omega

theorem badB_zero {v : List Bool} (l : List (List (Int × Int) × Int)) : (badB v l == 0) = l.all (evalB v) := by
  induction l with
  | nil => rfl
  | cons c r ih =>
    have hb := badB_bound (v := v) r
    rw [badB_cons, List.all_cons, ← ih]
    cases evalB v c with
    | true => rw [ctt, Bool.true_and]; congr 1; omega
    | false =>
      rw [cff, Bool.false_and, beq_eq_false_iff_ne]
      omega

theorem impl_satisfies_eq {l : List (List (Int × Int) × Int)} {v : List Bool} (h : smallC l) (hp : ∀ x ∈ l, conB x = true) (hv : v.length = 12) : impl_satisfies l v = some (l.all (evalB v)) := by
  have h1 := h.1
  unfold impl_satisfies slices_ContainsFunc_impl_Constraint__impl_satisfies_1 slices_IndexFunc_impl_Constraint__impl_satisfies_1
  obtain ⟨r, hr1, hr2⟩ := loop_find (f := slices_IndexFunc_impl_Constraint__impl_satisfies_1_l1 l v) l ([], 0) (fun x => !evalB v x) (fun i hi => by
    unfold slices_IndexFunc_impl_Constraint__impl_satisfies_1_l1 impl_satisfies_1
    simp (disch := omega) only [cdec_pos, rq_pos, Int.toNat_natCast]
    rw [impl_Constraint_holds_eq (h.2 _ (getD_mem hi)) (hp _ (getD_mem hi)) hv, bind_s, bind_s]
    cases evalB v (l.getD i ([], 0)) with
    | true => rw [cnt, rq_i64 (by omega) (by omega), cnt]
    | false => rw [cnf, cnf]) (by
    unfold slices_IndexFunc_impl_Constraint__impl_satisfies_1_l1
    simp (disch := omega) only [cdec_neg])
  rw [hr1, bind_s, bind_s, hr2]
  rw [List.any_eq_not_all_not]
  simp

theorem smallC_sub {l m : List (List (Int × Int) × Int)} (h : smallC l) (hs : ∀ x ∈ m, x ∈ l) (hl : m.length ≤ l.length) : smallC m := ⟨Nat.le_trans hl h.1, fun x hx => h.2 x (hs x hx)⟩
theorem probB_sub {l m : List (List (Int × Int) × Int)} (h : probB l = true) (hs : ∀ x ∈ m, x ∈ l) (hl : m.length ≤ l.length) : probB m = true := by
  have ha := probB_all h
  unfold probB at h ⊢
  simp only [Bool.and_eq_true, decide_eq_true_eq, List.all_eq_true] at h ⊢
  exact ⟨fun x hx => ha x (hs x hx), by omega⟩

end Go.AE.Y
