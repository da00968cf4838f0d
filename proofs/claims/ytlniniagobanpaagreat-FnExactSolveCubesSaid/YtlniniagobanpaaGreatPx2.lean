/-
  Plain laws of the models, in one text. No conditions.
-/
import Derived.Test.YtlniniagobanpaaGreatPx1
namespace Go.AE.Y
open Go Go.AE
set_option maxHeartbeats 400000

def learnT (D : List Int) : ProbT := [(onesL (litsF (negL D)), 1)]
def learnS (D : List Int) : List StepT := [((7:Int), ((0:Int), ((0:Int), (onesL (litsF (negL D)), (1 : Int)))))]

theorem learn_clause {D : List Int} (hD : DecOk D) : clauseB (negL D) = (true, 1, onesL (litsF (negL D))) := by
  have hd := dec_len hD
  unfold clauseB
  rw [dec_neg hD, decide_eq_true (show (negL D).length ≤ 40 by unfold negL; rw [List.length_map]; omega)]
  rfl

theorem fail_eq {D : List Int} {L : ProbT} {S : List StepT} (hD : DecOk D) (hl : L.length ≤ 2000) (hS : S.length < 1000) (f : Int) (m : Bool) :
    impl_searching_fail__Rsd D f m L S = some (L ++ learnT D, S ++ learnS D) := by
  have hd := dec_len hD
  have hlf := litsF_len (negL D)
  have hol : (onesL (litsF (negL D))).length ≤ 12 := by unfold onesL; rw [List.length_map]; exact hlf
  unfold impl_searching_fail__Rsd
  refine (loop_push_map (f := impl_searching_fail__Rsd_l1 D L S) D 0 (fun x => 0 - x) [] (fun _ => (L ++ learnT D, S ++ learnS D)) (fun i out hi ho => ?_) ?_)
  · have := isLit_iff.1 (hD.1 _ (getD_mem (l := D) (i := i) (d := 0) hi))
    unfold impl_searching_fail__Rsd_l1
    dsimp only
    rw [cdec_pos (by omega), rq_pos ⟨by omega, by omega⟩, Int.toNat_natCast, rq_i64 (by omega) (by omega), rq_pos (by simp only [bound, List.length_cons, List.length_nil]; simp at ho; omega), rq_i64 (by omega) (by omega)]
  · unfold impl_searching_fail__Rsd_l1 impl_searching_fail__Rsd_j1 impl_searching_fail__Rsd_j2
    dsimp only
    rw [cdec_neg (by omega), List.nil_append, show D.map (fun x => 0 - x) = negL D from rfl, impl_ClauseOf_eq _ (by unfold negL; rw [List.length_map]; omega), bind_s, learn_clause hD]
    dsimp only
    rw [rq_pos (by simp [bound]; omega), own_eq _ (by (try dsimp only) <;> omega), bind_s, rq_pos (by simp [bound]; omega)]
    rfl

theorem learn_eq {D : List Int} {L : ProbT} {S : List StepT} (hD : DecOk D) (hl : L.length ≤ 2000) (hS : S.length < 1000) (f : Int) :
    spec_l5Learn__ss f D L S = some (f, L ++ learnT D, S ++ learnS D) := by
  have hd := dec_len hD
  have hlf := litsF_len (negL D)
  have hol : (onesL (litsF (negL D))).length ≤ 12 := by unfold onesL; rw [List.length_map]; exact hlf
  unfold spec_l5Learn__ss
  refine (loop_push_map (f := spec_l5Learn__ss_l1 f D L S) D 0 (fun x => 0 - x) [] (fun _ => (f, L ++ learnT D, S ++ learnS D)) (fun i out hi ho => ?_) ?_)
  · have := isLit_iff.1 (hD.1 _ (getD_mem (l := D) (i := i) (d := 0) hi))
    unfold spec_l5Learn__ss_l1
    dsimp only
    rw [cdec_pos (by omega), rq_pos ⟨by omega, by omega⟩, Int.toNat_natCast, rq_i64 (by omega) (by omega), rq_pos (by simp only [bound, List.length_cons, List.length_nil]; simp at ho; omega), rq_i64 (by omega) (by omega)]
  · unfold spec_l5Learn__ss_l1 spec_l5Learn__ss_j1
    dsimp only
    rw [cdec_neg (by omega), List.nil_append, show D.map (fun x => 0 - x) = negL D from rfl, spec_ClauseOf_eq _ (by unfold negL; rw [List.length_map]; omega), bind_s, learn_clause hD]
    dsimp only
    rw [rq_pos (by simp [bound]; omega), rq_pos (by simp [bound]; omega)]
    rfl

/-- The first open variable, on both sides. -/
theorem free_same {p : List Int} {r : Int × Bool × List Bool} {q : Int} (h1 : impl_valuesOf p = some r) (h2 : spec_l5Free p = some q) : q = r.1 := by
  unfold impl_valuesOf at h1
  unfold spec_l5Free at h2
  refine loop_sim (fun (s : Int × List Bool) (t : Int) => s.1 = t) (fun r q => q = r.1) ?_ rfl h1 h2
  rintro ⟨i, o⟩ t rfl a b ha hb
  unfold impl_valuesOf_l1 at ha
  unfold spec_l5Free_l1 at hb
  dsimp only at ha hb
  by_cases c1 : i < (p.length : Int)
  · rw [cdec_pos c1] at ha hb
    by_cases c2 : 0 ≤ i ∧ i < (p.length : Int)
    · rw [rq_pos c2] at ha hb
      by_cases c3 : p.getD i.toNat 0 = 0
      · rw [cbeq_pos c3] at ha hb
        by_cases c4 : i64 (i + 1)
        · rw [rq_pos c4] at ha hb
          cases ha
          cases hb
          exact Or.inr ⟨_, _, rfl, rfl, rfl⟩
        · rw [rq_neg c4] at hb
          cases hb
      · rw [cbeq_neg c3] at ha hb
        by_cases c5 : o.length + [(decide ((0:Int) < (p.getD i.toNat 0)))].length ≤ bound
        · rw [rq_pos c5] at ha
          by_cases c4 : i64 (i + 1)
          · rw [rq_pos c4] at ha hb
            cases ha
            cases hb
            exact Or.inl ⟨_, _, rfl, rfl, rfl⟩
          · rw [rq_neg c4] at hb
            cases hb
        · rw [rq_neg c5] at ha
          cases ha
    · rw [rq_neg c2] at hb
      cases hb
  · rw [cdec_neg c1] at ha hb
    unfold impl_valuesOf_j1 at ha
    cases ha
    cases hb
    exact Or.inr ⟨_, _, rfl, rfl, rfl⟩

end Go.AE.Y
namespace Go.AE.Y
open Go Go.AE
set_option maxHeartbeats 400000

/-- What the reference's search gives back where the program's gives r. -/
def conv (r : VR) : SR := (bif r.1 then 1 else bif r.2.2.1 then 0 else 2, r.2.1, r.2.2.2.1, r.2.2.2.2.1, r.2.2.2.2.2)
def nilV (r : VR) : Prop := r.1 = false → r.2.2.2.1 = []

theorem j1_same {D : List Int} {L : ProbT} {S : List StepT} {fuel : Int} {rec1 : List Int → Int → Bool → ProbT → List StepT → Option VR} {rec2 : Int → List Int → ProbT → List StepT → Option SR}
    (hrec : ∀ (l : Int) (L' : ProbT) (S' : List StepT) (f' : Int), DecOk (D ++ [l]) → goodL L' → L'.length ≤ 400 + S'.length → S'.length ≤ 1000 → fewT S' → (0 ≤ f' ∧ f' ≤ 2000) → ∃ r, rec1 (D ++ [l]) f' false L' S' = some r ∧ VisOk (D ++ [l]) L' S' f' r ∧ rec2 f' (D ++ [l]) L' S' = some (conv r) ∧ (fewT r.2.2.2.2.2 ∧ nilV r))
    (hD : DecOk D) (hL : goodL L) (hl : L.length ≤ 400 + S.length) (hS : S.length < 1000) (hw : fewT S) (hf : 1 ≤ fuel ∧ fuel ≤ 2000) {r : VR} {q : SR}
    (e : impl_searching_visit__Rsd_j1 D fuel false L S rec1 (asgF D D.length) = some r) (e2 : spec_l5Search__ss_j1 fuel D L S rec2 (asgF D D.length) = some q) : q = conv r ∧ nilV r := by
  have hd := dec_len hD
  obtain ⟨p1, p2, p3, p4, p5⟩ := asg_ok hD D.length (Nat.le_refl _)
  unfold impl_searching_visit__Rsd_j1 at e
  unfold spec_l5Search__ss_j1 at e2
  obtain ⟨⟨i, out⟩, e1, ⟨t1, t2, t3⟩, hc⟩ := impl_propagate_ex hL (by omega) p1
  dsimp only at t1 t2 t3 hc
  rw [e1, bind_s] at e
  rw [propagate_same hL (by omega) p1, e1, bind_s] at e2
  dsimp only at e e2
  rcases hc with ⟨rfl, hk⟩ | ⟨h0, hk⟩
  · rw [cdec_pos (by omega)] at e
    rw [cdec_neg (by omega)] at e2
    obtain ⟨r4, e4, h⟩ := impl_valuesOf_ex t1
    obtain ⟨r5, e5, _⟩ := spec_l5Free_ex t1
    have e6 := free_same e4 e5
    rw [e4, bind_s] at e
    rw [e5, bind_s] at e2
    rcases h with ⟨rfl, ht⟩ | ⟨k, hk12, hk0, rfl⟩
    · dsimp only at e e6
      subst e6
      rw [ctt] at e
      rw [cbeq_pos rfl] at e2
      have h12 := t1.1
      have e7 : loop (spec_l5Search__ss_l1 fuel L S (-1, out)) ((0 : Int), ([] : List Bool)) = some (1, fuel - 1, out.map (fun n => decide (0 < n)), L, S) := by
        refine (loop_push_map (f := spec_l5Search__ss_l1 fuel L S (-1, out)) out 0 (fun n => decide (0 < n)) [] (fun o => (1, fuel - 1, o, L, S)) (fun i o hi ho => ?_) ?_)
        · unfold spec_l5Search__ss_l1
          dsimp only
          rw [cdec_pos (by omega), rq_pos ⟨by omega, by omega⟩, Int.toNat_natCast, rq_pos (by simp only [bound, List.length_cons, List.length_nil]; simp at ho; omega), rq_i64 (by omega) (by omega)]
        · unfold spec_l5Search__ss_l1 spec_l5Search__ss_j2
          dsimp only
          rw [cdec_neg (by omega), List.nil_append]
          rfl
      rw [e7] at e2
      have a1 := Option.some.inj e
      have a2 := Option.some.inj e2
      rw [← a1, ← a2]
      exact ⟨rfl, fun h => by cases h⟩
    · dsimp only at e e6
      subst e6
      rw [cff, rq_i64 (by omega) (by omega)] at e
      rw [cbeq_neg (by omega), rq_i64 (by omega) (by omega)] at e2
      have hvar : ∀ l : Int, vof l = (k : Int) + 1 → ∀ i, i < D.length → vof (D.getD i 0) ≠ vof l := fun l hl i hi => by
        rw [hl]
        exact p3 k (t3 k hk0) i hi
      refine loop_sim (fun (s : Int × Int × Bool × ProbT × List StepT) (t : Int × Int × ProbT × List StepT) => t = (s.1, s.2.1, s.2.2.2.1, s.2.2.2.2) ∧ ∃ n : Nat, s.1 = n ∧ n ≤ 2 ∧ (0 ≤ s.2.1 ∧ s.2.1 ≤ fuel) ∧ s.2.2.1 = false ∧ Ext L S s.2.2.2.1 s.2.2.2.2 ∧ fewT s.2.2.2.2) (fun r q => q = conv r ∧ nilV r) ?_ ⟨rfl, 0, rfl, by omega, ⟨by (try dsimp only) <;> omega, by (try dsimp only) <;> omega⟩, rfl, Ext.refl hL (by omega), hw⟩ e e2
      rintro ⟨s, f, m, L', S'⟩ t ⟨ht, n, hs, hn, hf', hm, hx, hw'⟩ a b ha hb
      dsimp only at ht hs hf' hm hx hw'
      subst ht
      subst hs
      subst hm
      unfold impl_searching_visit__Rsd_l1 at ha
      unfold spec_l5Search__ss_l2 at hb
      dsimp only at ha hb
      rcases Nat.lt_or_ge n 2 with h1 | h1
      · have hlit : ∃ l, [((k : Int) + 1), (0 - ((k : Int) + 1))].getD n 0 = l ∧ vof l = (k : Int) + 1 ∧ isLit l = true := by
          have : n = 0 ∨ n = 1 := by omega
          rcases this with rfl | rfl
          · exact ⟨(k : Int) + 1, rfl, by unfold vof; omega, isLit_iff.2 ⟨by omega, by omega, by omega⟩⟩
          · exact ⟨0 - ((k : Int) + 1), rfl, by unfold vof; omega, isLit_iff.2 ⟨by omega, by omega, by omega⟩⟩
        obtain ⟨l, el, hv, hli⟩ := hlit
        have hlen := hx.len
        have htop := hx.top
        obtain ⟨⟨ok, f8, mu, vals, L8, S8⟩, e8, ⟨f1, x1, sa1, no1⟩, e9, w8, n8⟩ := hrec l L' S' f (dec_snoc hD hli (hvar l hv)) hx.good (by omega) htop hw' ⟨by omega, by omega⟩
        rw [cdec_pos (by simp; omega), rq_pos ⟨by omega, by simp; omega⟩, Int.toNat_natCast, el, Clone5_eq (by omega), bind_s, rq_pos (by simp [bound]; omega), e8, bind_s] at ha
        rw [cdec_pos (by simp; omega), rq_pos ⟨by omega, by simp; omega⟩, rq_pos (by simp [bound]; omega), rq_pos (by simp [bound]; omega), List.nil_append, Int.toNat_natCast, el, e9, bind_s] at hb
        unfold spec_l5Search__ss_j4 conv at hb
        dsimp only at ha hb f1 x1 w8
        cases ok with
        | true =>
          rw [ctt] at ha hb
          rw [cbne_pos (by decide)] at hb
          exact Or.inr ⟨_, _, (Option.some.inj ha).symm, (Option.some.inj hb).symm, rfl, fun h => by cases h⟩
        | false =>
          rw [cff] at ha hb
          cases mu with
          | true =>
            rw [ctt] at ha hb
            rw [cbne_pos (by decide)] at hb
            exact Or.inr ⟨_, _, (Option.some.inj ha).symm, (Option.some.inj hb).symm, rfl, fun _ => n8 rfl⟩
          | false =>
            rw [cff, rq_i64 (by omega) (by omega)] at ha
            rw [cff, cbne_neg rfl, rq_i64 (by omega) (by omega)] at hb
            exact Or.inl ⟨_, _, (Option.some.inj ha).symm, (Option.some.inj hb).symm, rfl, n + 1, by simp, by omega, ⟨by (try dsimp only) <;> omega, by (try dsimp only) <;> omega⟩, rfl, hx.trans x1, w8⟩
      · have hn2 : n = 2 := by omega
        have hlen := hx.len
        rw [cdec_neg (by simp; omega)] at ha hb
        unfold impl_searching_visit__Rsd_j3 at ha
        unfold spec_l5Search__ss_j3 at hb
        dsimp only at ha hb
        by_cases q3 : 1000 ≤ (S'.length : Int)
        · rw [cdec_pos q3] at ha hb
          exact Or.inr ⟨_, _, (Option.some.inj ha).symm, (Option.some.inj hb).symm, rfl, fun _ => rfl⟩
        · rw [cdec_neg q3] at ha hb
          unfold impl_searching_visit__Rsd_j2 at ha
          dsimp only at ha
          rw [fail_eq hD (by omega) (by omega), bind_s] at ha
          rw [learn_eq hD (by omega) (by omega), bind_s] at hb
          exact Or.inr ⟨_, _, (Option.some.inj ha).symm, (Option.some.inj hb).symm, rfl, fun _ => rfl⟩
  · rw [cdec_neg (by omega)] at e
    rw [cdec_pos h0] at e2
    unfold impl_searching_visit__Rsd_j2 at e
    dsimp only at e
    rw [fail_eq hD (by omega) (by omega), bind_s] at e
    rw [learn_eq hD (by omega) (by omega), bind_s] at e2
    have a1 := Option.some.inj e
    have a2 := Option.some.inj e2
    rw [← a1, ← a2]
    exact ⟨rfl, fun _ => rfl⟩


theorem rec_same {D : List Int} {L : ProbT} {S : List StepT} {fuel : Int} {rec1 : List Int → Int → Bool → ProbT → List StepT → Option VR} {rec2 : Int → List Int → ProbT → List StepT → Option SR}
    (hrec : ∀ (l : Int) (L' : ProbT) (S' : List StepT) (f' : Int), DecOk (D ++ [l]) → goodL L' → L'.length ≤ 400 + S'.length → S'.length ≤ 1000 → fewT S' → (0 ≤ f' ∧ f' ≤ 2000) → ∃ r, rec1 (D ++ [l]) f' false L' S' = some r ∧ VisOk (D ++ [l]) L' S' f' r ∧ rec2 f' (D ++ [l]) L' S' = some (conv r) ∧ (fewT r.2.2.2.2.2 ∧ nilV r))
    (hD : DecOk D) (hL : goodL L) (hl : L.length ≤ 400 + S.length) (hS : S.length ≤ 1000) (hw : fewT S) (hf : 0 ≤ fuel ∧ fuel ≤ 2000) {r : VR} {q : SR}
    (e : impl_searching_visit__Rsd_rec rec1 D fuel false L S = some r) (e2 : spec_l5Search__ss_rec rec2 fuel D L S = some q) : q = conv r ∧ nilV r := by
  have hd := dec_len hD
  unfold impl_searching_visit__Rsd_rec at e
  unfold spec_l5Search__ss_rec at e2
  by_cases q1 : fuel = 0
  · rw [cbeq_pos q1] at e e2
    have a1 := Option.some.inj e
    have a2 := Option.some.inj e2
    rw [← a1, ← a2]
    exact ⟨rfl, fun _ => rfl⟩
  rw [cbeq_neg q1] at e e2
  by_cases q2 : 1000 ≤ (S.length : Int)
  · rw [cdec_pos q2] at e e2
    have a1 := Option.some.inj e
    have a2 := Option.some.inj e2
    rw [← a1, ← a2]
    exact ⟨rfl, fun _ => rfl⟩
  rw [cdec_neg q2, rq_i64 (by omega) (by omega), rq_pos ⟨by omega, by simp only [bound]; omega, rfl⟩] at e e2
  refine loop_sim (fun (s : Int × List Int) (t : Int × List Int) => s = t ∧ ∃ n : Nat, s.1 = n ∧ n ≤ D.length ∧ s.2 = asgF D n) (fun r q => q = conv r ∧ nilV r) ?_ ⟨rfl, 0, rfl, Nat.zero_le _, rfl⟩ e e2
  rintro ⟨s, o⟩ t ⟨ht, n, hs, hn, ho⟩ a b ha hb
  dsimp only at hs ho
  subst ht
  subst hs
  subst ho
  unfold impl_searching_visit__Rsd_l2 at ha
  unfold spec_l5Search__ss_l3 at hb
  dsimp only at ha hb
  rcases Nat.lt_or_ge n D.length with h1 | h1
  · have hli := hD.1 _ (getD_mem (l := D) (i := n) (d := 0) h1)
    have hlit := isLit_iff.1 hli
    have h12 := (asg_ok hD n hn).1.1
    have hvv : vof (D.getD n 0) = if 0 < D.getD n 0 then D.getD n 0 else 0 - D.getD n 0 := by unfold vof; split <;> omega
    rw [cdec_pos (by omega), rq_pos ⟨by omega, by omega⟩, Int.toNat_natCast, spec_l3Assign_eq hli (asg_ok hD n hn).1, bind_s, rq_i64 (by omega) (by omega)] at hb
    have ea : a = .inl ((n : Int) + 1, asgF D (n + 1)) := by
      rw [cdec_pos (by omega), rq_pos ⟨by omega, by omega⟩, Int.toNat_natCast, impl_variableOf_eq (by omega), bind_s] at ha
      have e : asgF D (n + 1) = setL (D.getD n 0) (asgF D n) := rfl
      rw [e]
      unfold setL
      by_cases q : 0 < D.getD n 0
      · rw [if_pos q] at hvv
        rw [hvv, rq_i64 (by omega) (by omega), rq_pos ⟨by omega, by omega⟩, cdec_neg (by omega), rq_i64 (by omega) (by omega)] at ha
        rw [if_pos q]
        exact (Option.some.inj ha).symm
      · rw [if_neg q] at hvv
        rw [hvv, rq_i64 (by omega) (by omega), rq_pos ⟨by omega, by omega⟩, cdec_pos (by omega), rq_i64 (by omega) (by omega), rq_i64 (by omega) (by omega), rq_pos ⟨by omega, by rw [List.length_set]; omega⟩, rq_i64 (by omega) (by omega), List.set_set] at ha
        rw [if_neg q]
        exact (Option.some.inj ha).symm
    exact Or.inl ⟨_, _, ea, (Option.some.inj hb).symm, rfl, n + 1, by simp, by omega, rfl⟩
  · have : n = D.length := by omega
    subst this
    rw [cdec_neg (by omega)] at ha hb
    cases hj : impl_searching_visit__Rsd_j1 D fuel false L S rec1 (asgF D D.length) with
    | none => rw [hj] at ha; cases ha
    | some r =>
      cases hk : spec_l5Search__ss_j1 fuel D L S rec2 (asgF D D.length) with
      | none => rw [hk] at hb; cases hb
      | some q =>
        rw [hj] at ha
        rw [hk] at hb
        exact Or.inr ⟨r, q, (Option.some.inj ha).symm, (Option.some.inj hb).symm, j1_same hrec hD hL hl (by omega) hw ⟨by omega, by omega⟩ hj hk⟩

/-- One visit on both sides, if the visits that it makes agree. -/
theorem body_same {D : List Int} {L : ProbT} {S : List StepT} {fuel : Int} {rec1 : List Int → Int → Bool → ProbT → List StepT → Option VR} {rec2 : Int → List Int → ProbT → List StepT → Option SR}
    (hrec : ∀ (l : Int) (L' : ProbT) (S' : List StepT) (f' : Int), DecOk (D ++ [l]) → goodL L' → L'.length ≤ 400 + S'.length → S'.length ≤ 1000 → fewT S' → (0 ≤ f' ∧ f' ≤ 2000) → ∃ r, rec1 (D ++ [l]) f' false L' S' = some r ∧ VisOk (D ++ [l]) L' S' f' r ∧ rec2 f' (D ++ [l]) L' S' = some (conv r) ∧ (fewT r.2.2.2.2.2 ∧ nilV r))
    (hrec1 : ∀ (l : Int) (L' : ProbT) (S' : List StepT) (f' : Int), DecOk (D ++ [l]) → goodL L' → L'.length ≤ 400 + S'.length → S'.length ≤ 1000 → (0 ≤ f' ∧ f' ≤ 2000) → ∃ r, rec1 (D ++ [l]) f' false L' S' = some r ∧ VisOk (D ++ [l]) L' S' f' r)
    (hrec2 : ∀ (l : Int) (L' : ProbT) (S' : List StepT) (f' : Int), DecOk (D ++ [l]) → goodL L' → L'.length ≤ 400 + S'.length → S'.length ≤ 1000 → fewT S' → (0 ≤ f' ∧ f' ≤ 2000) → ∃ r, rec2 f' (D ++ [l]) L' S' = some r ∧ SeaOk L' S' f' r.2.2.2.1 r.2.2.2.2 r.2.1)
    (hD : DecOk D) (hL : goodL L) (hl : L.length ≤ 400 + S.length) (hS : S.length ≤ 1000) (hw : fewT S) (hf : 0 ≤ fuel ∧ fuel ≤ 2000) :
    ∃ r, impl_searching_visit__Rsd_rec rec1 D fuel false L S = some r ∧ VisOk D L S fuel r ∧ spec_l5Search__ss_rec rec2 fuel D L S = some (conv r) ∧ (fewT r.2.2.2.2.2 ∧ nilV r) := by
  obtain ⟨r, e, hr⟩ := visit_body hrec1 hD hL hl hS hf
  obtain ⟨q, e2, hq⟩ := search_body hrec2 hD hL hl hS hw hf
  obtain ⟨h, hn⟩ := rec_same hrec hD hL hl hS hw hf e e2
  subst h
  exact ⟨r, e, hr, e2, hq.few, hn⟩

/-- The two searches, with the same fuel of depth. -/
theorem search_same : ∀ (n : Nat) (D : List Int) (L : ProbT) (S : List StepT) (fuel : Int), DecOk D → goodL L → L.length ≤ 400 + S.length → S.length ≤ 1000 → fewT S → (0 ≤ fuel ∧ fuel ≤ 2000) → 13 ≤ n + D.length →
    ∃ r, impl_searching_visit__Rsd n D fuel false L S = some r ∧ VisOk D L S fuel r ∧ spec_l5Search__ss n fuel D L S = some (conv r) ∧ (fewT r.2.2.2.2.2 ∧ nilV r)
  | 0, D, L, S, fuel, hD, _, _, _, _, _, hn => by have := dec_len hD; omega
  | n + 1, D, L, S, fuel, hD, hL, hl, hS, hw, hf, hn => by
    show ∃ r, impl_searching_visit__Rsd_rec (impl_searching_visit__Rsd n) D fuel false L S = some r ∧ VisOk D L S fuel r ∧ spec_l5Search__ss_rec (spec_l5Search__ss n) fuel D L S = some (conv r) ∧ _
    have hlen : ∀ l : Int, 13 ≤ n + (D ++ [l]).length := fun l => by rw [List.length_append, List.length_singleton]; omega
    exact body_same (fun l L' S' f' h1 h2 h3 h4 h5 h6 => search_same n (D ++ [l]) L' S' f' h1 h2 h3 h4 h5 h6 (hlen l))
      (fun l L' S' f' h1 h2 h3 h4 h5 => visit_ok n (D ++ [l]) L' S' f' h1 h2 h3 h4 h5 (hlen l))
      (fun l L' S' f' h1 h2 h3 h4 h5 h6 => search_ok n (D ++ [l]) L' S' f' h1 h2 h3 h4 h5 h6 (hlen l)) hD hL hl hS hw hf

end Go.AE.Y
namespace Go.AE.Y
open Go Go.AE
set_option maxHeartbeats 400000

abbrev SolT := Int × List Bool × List StepT

/-- What solving gives. -/
structure SolOk (x : ProbT) (f : Int) (r : SolT) : Prop where
  top : r.2.2.length ≤ 1000
  few : fewT r.2.2
  steps : r.1 ≠ 2 → r.2.2 = []
  bad : ¬ (probB x = true ∧ 0 ≤ f ∧ f ≤ 2000) → r = (3, [], [])
  good : probB x = true → 0 ≤ f ∧ f ≤ 2000 → (r.1 = 1 ∧ r.2.1.length = 12 ∧ satL x r.2.1) ∨ (r.1 = 2 ∧ r.2.1 = [] ∧ ∀ v, ¬ satL x v) ∨ (r.1 = 0 ∧ r.2.1 = [])

theorem isFuel_eq (f : Int) : impl_isFuel f = some (decide (0 ≤ f) && decide (f ≤ 2000)) := by
  unfold impl_isFuel
  rw [impl_within_eq, bind_s]

/-- The steps are handed out as they are. -/
theorem out_same {r : SR} (htop : r.2.2.2.2.length ≤ 1000) (hw : fewT r.2.2.2.2) : loop (spec_SolveProblem_l1 r) ((0 : Int), ([] : List StepT)) = some (r.1, ([] : List Bool), r.2.2.2.2) := by
  have := loop_push_map (f := spec_SolveProblem_l1 r) r.2.2.2.2 zS (fun s => s) [] (fun o => (r.1, ([] : List Bool), o)) (fun i o hi ho => ?_) ?_
  · rw [List.map_id'] at this
    exact this
  · have hm := hw _ (getD_mem (l := r.2.2.2.2) (i := i) (d := zS) hi)
    change (r.2.2.2.2.getD i (0, (0, (0, ([], 0))))).2.2.2.1.length ≤ 12 at hm
    unfold spec_SolveProblem_l1
    dsimp only
    rw [cdec_pos (by omega), rq_pos ⟨by omega, by omega⟩, Int.toNat_natCast, l1Copy_eq _ (by omega), bind_s]
    dsimp only
    rw [rq_pos (by simp only [bound, List.length_cons, List.length_nil]; simp at ho; omega), rq_i64 (by omega) (by omega)]
    rfl
  · unfold spec_SolveProblem_l1 spec_SolveProblem_j1
    dsimp only
    rw [cdec_neg (by omega), List.nil_append, List.map_id']
    rfl

theorem solve_same {x : ProbT} (hs : smallC x) (f : Int) : ∃ r, impl_SolveProblem x f = some r ∧ spec_SolveProblem x f = some r ∧ SolOk x f r := by
  have hnil : fewT [] := fun s h => absurd h List.not_mem_nil
  unfold impl_SolveProblem spec_SolveProblem
  rw [impl_ProblemValid_eq x hs, spec_ProblemValid_eq x hs, bind_s, bind_s]
  cases hp : probB x with
  | false =>
    rw [cnf, cnf]
    exact ⟨_, rfl, rfl, by simp, hnil, fun _ => rfl, fun _ => rfl, fun h => by rw [hp] at h; cases h⟩
  | true =>
    rw [cnt, cnt, isFuel_eq, bind_s]
    by_cases q1 : 0 ≤ f
    · rw [decide_eq_true q1, tand, cdec_neg (by omega)]
      by_cases q2 : f ≤ 2000
      · rw [decide_eq_true q2, cnt, cdec_neg (by omega)]
        have hall := probB_all hp
        have hlen : x.length ≤ 400 := by
          unfold probB at hp
          simp only [Bool.and_eq_true, decide_eq_true_eq] at hp
          exact hp.2
        have hg : goodL x := fun c hc => ⟨hall c hc, hs.2 c hc⟩
        have hd : DecOk [] := ⟨fun x hx => absurd hx List.not_mem_nil, fun i j hi => by simp at hi⟩
        obtain ⟨r, e, hv, e2, hw, hn⟩ := body_same (D := []) (L := x) (S := []) (fuel := f) (rec1 := impl_searching_visit__Rsd 64) (rec2 := spec_l5Search__ss 64)
          (fun l L' S' f' h1 h2 h3 h4 h5 h6 => search_same 64 ([] ++ [l]) L' S' f' h1 h2 h3 h4 h5 h6 (by simp))
          (fun l L' S' f' h1 h2 h3 h4 h5 => visit_ok 64 ([] ++ [l]) L' S' f' h1 h2 h3 h4 h5 (by simp))
          (fun l L' S' f' h1 h2 h3 h4 h5 h6 => search_ok 64 ([] ++ [l]) L' S' f' h1 h2 h3 h4 h5 h6 (by simp)) hd hg (by simp; omega) (by simp) hnil ⟨q1, q2⟩
        have e' : impl_searching_visit__R0s 64 [] f false x = some r := by
          rw [← e]
          exact first_visit (impl_searching_visit__R0s 63) [] f false x
        rw [CloneC_eq x (by omega), bind_s, e', bind_s, rq_pos (by simp [bound]; omega), List.nil_append, first_search, e2, bind_s]
        have htop := hv.ext.top
        have hsat := hv.sat
        have hno := hv.no
        obtain ⟨ok, f8, mu, vals, L8, S8⟩ := r
        dsimp only at htop hw hsat hno
        unfold conv
        dsimp only
        cases ok with
        | true =>
          rw [ctt, ctt, cbne_pos (by decide)]
          exact ⟨_, rfl, rfl, by simp, hnil, fun _ => rfl, fun h => absurd ⟨hp, q1, q2⟩ h, fun _ _ => Or.inl ⟨rfl, hsat rfl⟩⟩
        | false =>
          have hvals : vals = [] := hn rfl
          subst hvals
          rw [cff, cff]
          cases mu with
          | true =>
            rw [ctt, ctt, cbne_pos (by decide)]
            exact ⟨_, rfl, rfl, by simp, hnil, fun _ => rfl, fun h => absurd ⟨hp, q1, q2⟩ h, fun _ _ => Or.inr (Or.inr ⟨rfl, rfl⟩)⟩
          | false =>
            rw [cff, cff, cbne_neg rfl]
            refine ⟨_, rfl, out_same (r := (2, f8, [], L8, S8)) htop hw, htop, hw, fun h => absurd rfl h, fun h => absurd ⟨hp, q1, q2⟩ h, fun _ _ => Or.inr (Or.inl ⟨rfl, rfl, fun v h => hno rfl rfl v h (fun x hx => absurd hx List.not_mem_nil)⟩)⟩
      · rw [decide_eq_false q2, cnf, cdec_pos (by omega)]
        exact ⟨_, rfl, rfl, by simp, hnil, fun _ => rfl, fun _ => rfl, fun _ h => absurd h.2 q2⟩
    · rw [decide_eq_false q1, show (false && decide (f ≤ 2000)) = false from Bool.false_and _, cnf, cdec_pos (by omega)]
      exact ⟨_, rfl, rfl, by simp, hnil, fun _ => rfl, fun _ => rfl, fun _ h => absurd h.1 q1⟩

end Go.AE.Y
namespace Go.AE.Y
open Go Go.AE

def stepOf (r : StepR) : StepT := (r.2.1, (r.2.2.1, (r.2.2.2.1, (r.2.2.2.2.2, r.2.2.2.2.1))))
def liftRow (p : List StepT) (c : List Int) : List StepT := p.filterMap (fun s => bif (liftB s c).1 then some (stepOf (liftB s c)) else none)
def baseF (a : List (List StepT)) (cs : List (List Int)) : Nat → List StepT
  | 0 => []
  | n + 1 => baseF a cs n ++ liftRow (a.getD n []) (cs.getD n [])
theorem baseF_succ (a : List (List StepT)) (cs : List (List Int)) (n : Nat) : baseF a cs (n + 1) = baseF a cs n ++ liftRow (a.getD n []) (cs.getD n []) := rfl
def unitS : StepT := ((7:Int), ((0:Int), ((0:Int), (([] : List (Int × Int)), (1:Int)))))
def negStep (c : List Int) : StepT := stepOf (liftB unitS c)
def joinF (vars : List Int) : Nat → List StepT → List StepT
  | 0, out => out
  | n + 1, out => joinF vars n (out ++ (cubesB (vars.take n)).map negStep)
def rowsOk (a : List (List StepT)) : Bool := a.all (fun p => decide (p.length ≤ 1000))
def allSteps (vars : List Int) (a : List (List StepT)) : List StepT := joinF vars vars.length (baseF a (cubesB vars) (cubesB vars).length)
def mergeB (vars : List Int) (a : List (List StepT)) : Bool × List StepT :=
  bif varsB vars && decide (a.length = (cubesB vars).length) then (bif rowsOk a && decide ((allSteps vars a).length ≤ 1000) then (true, allSteps vars a) else (false, [])) else (false, [])

theorem liftRow_snoc {p : List StepT} {c : List Int} {i : Nat} (h : i < p.length) : liftRow (p.take (i + 1)) c = liftRow (p.take i) c ++ (bif (liftB (p.getD i zS) c).1 then [stepOf (liftB (p.getD i zS) c)] else []) := by
  unfold liftRow
  rw [List.take_add_one, List.getElem?_eq_getElem h, List.filterMap_append, List.getD_eq_getElem?_getD, List.getElem?_eq_getElem h]
  congr 1
  show List.filterMap _ [p[i]] = bif (liftB p[i] c).1 then [stepOf (liftB p[i] c)] else []
  rw [List.filterMap_cons]
  cases (liftB p[i] c).1 with
  | true => rfl
  | false => rfl

theorem liftRow_len (p : List StepT) (c : List Int) : (liftRow p c).length ≤ p.length := List.length_filterMap_le _ _

theorem joinF_len (vars : List Int) : ∀ n out, out.length ≤ (joinF vars n out).length
  | 0, _ => Nat.le_refl _
  | n + 1, out => by
    have := joinF_len vars n (out ++ (cubesB (vars.take n)).map negStep)
    rw [List.length_append] at this
    unfold joinF
    omega

theorem baseF_len {a : List (List StepT)} {cs : List (List Int)} {i : Nat} : ∀ n, i ≤ n → (baseF a cs i).length ≤ (baseF a cs n).length
  | 0, h => by rw [show i = 0 by omega]; exact Nat.le_refl _
  | n + 1, h => by
    rcases Nat.lt_or_ge i (n + 1) with h1 | h1
    · have := baseF_len (a := a) (cs := cs) (i := i) n (by omega)
      rw [baseF_succ, List.length_append]
      omega
    · rw [show i = n + 1 by omega]; exact Nat.le_refl _

theorem varsB_take {l : List Int} (h : varsB l = true) (n : Nat) : varsB (l.take n) = true := by
  unfold varsB at h ⊢
  simp only [Bool.and_eq_true, List.all_eq_true, decide_eq_true_eq] at h ⊢
  refine ⟨fun i hi => ?_, by rw [List.length_take]; omega⟩
  have hi' := List.mem_range.1 hi
  rw [List.length_take] at hi'
  have := h.1 i (List.mem_range.2 (by omega))
  unfold varAt at this ⊢
  have e : ∀ j, j ≤ i → (l.take n).getD j 0 = l.getD j 0 := fun j hj => by rw [List.getD_eq_getElem?_getD, List.getElem?_take_of_lt (by omega), ← List.getD_eq_getElem?_getD]
  rw [e i (Nat.le_refl _), e (i - 1) (by omega)]
  exact this

theorem cubes_valid {l : List Int} (h : varsB l = true) : ∀ c ∈ cubesB l, cubeB c = true := fun c hc => by
  obtain ⟨h1, h2⟩ := varsB_spec h
  exact cubeB_of_like h (cubesB_like l.length l rfl h2 c hc)

theorem cubeB_asc {c : List Int} (h : cubeB c = true) : ∀ k i, i + k + 1 < c.length → vof (c.getD i 0) < vof (c.getD (i + k + 1) 0) := by
  unfold cubeB at h
  simp only [Bool.and_eq_true, List.all_eq_true] at h
  have st : ∀ i, i + 1 < c.length → vof (c.getD i 0) < vof (c.getD (i + 1) 0) := fun i hi => by
    have := h.1 (i + 1) (List.mem_range.2 hi)
    unfold cubeAt at this
    simp only [Bool.and_eq_true, Bool.or_eq_true, decide_eq_true_eq] at this
    rcases this.2 with q | q
    · exact absurd (beq_iff_eq.1 q) (by omega)
    · exact q
  intro k
  induction k with
  | zero => intro i hi; exact st i hi
  | succ k ih =>
    intro i hi
    have h1 := ih i (by omega)
    have h2 := st (i + k + 1) (by omega)
    show vof (c.getD i 0) < vof (c.getD (i + k + 1 + 1) 0)
    omega

theorem litsOk_neg {c : List Int} (h : cubeB c = true) : litsOk (negL c) = true := by
  have hl := cubeB_lits h
  have inj : ∀ i j, i < c.length → j < c.length → vof (c.getD i 0) = vof (c.getD j 0) → i = j := fun i j hi hj e => by
    rcases Nat.lt_or_ge i j with q | q
    · have := cubeB_asc h (j - i - 1) i (by omega)
      rw [show i + (j - i - 1) + 1 = j by omega] at this
      omega
    · rcases Nat.lt_or_ge j i with q' | q'
      · have := cubeB_asc h (i - j - 1) j (by omega)
        rw [show j + (i - j - 1) + 1 = i by omega] at this
        omega
      · omega
  unfold litsOk negL
  simp only [Bool.and_eq_true, List.all_eq_true, Bool.not_eq_true', List.any_eq_false, beq_iff_eq]
  refine ⟨fun x hx => ?_, fun x hx y hy e => ?_⟩
  · obtain ⟨z, hz, rfl⟩ := List.mem_map.1 hx
    rw [isLit_neg]
    exact isLit_iff.2 (hl z hz)
  · obtain ⟨z, hz, rfl⟩ := List.mem_map.1 hx
    obtain ⟨w, hw, rfl⟩ := List.mem_map.1 hy
    obtain ⟨i, hi, rfl⟩ := List.mem_iff_getElem.1 hz
    obtain ⟨j, hj, rfl⟩ := List.mem_iff_getElem.1 hw
    have e1 : c.getD i 0 = c[i] := by rw [List.getD_eq_getElem?_getD, List.getElem?_eq_getElem hi]; rfl
    have e2 : c.getD j 0 = c[j] := by rw [List.getD_eq_getElem?_getD, List.getElem?_eq_getElem hj]; rfl
    have := inj i j hi hj (by rw [e1, e2]; unfold vof; omega)
    subst this
    have := hl _ hz
    omega

theorem negL_len (c : List Int) : (negL c).length = c.length := List.length_map ..

theorem clause_neg {c : List Int} (h : cubeB c = true) : (clauseB (negL c)).1 = true ∧ liftB unitS c = (true, 7, 0, 0, (clauseB (negL c)).2.1, (clauseB (negL c)).2.2) := by
  have h4 := cubeB_len h
  have e : (clauseB (negL c)).1 = true := by
    unfold clauseB
    rw [litsOk_neg h, negL_len, decide_eq_true (show c.length ≤ 40 by omega)]
    rfl
  refine ⟨e, ?_⟩
  have hok : okStep unitS = true := by decide
  unfold liftB
  rw [hok, ctt, show litsS unitS ++ negL c = negL c from rfl]
  unfold putB
  rw [e, ctt]

theorem unit_small : smallS unitS := Nat.zero_le _

/-! ### Joining -/

theorem take_vars {l : List Int} (h : varsB l = true) (n : Nat) : (l.take n).length ≤ 4 ∧ ∀ i, i < (l.take n).length → 1 ≤ (l.take n).getD i 0 ∧ (l.take n).getD i 0 ≤ 12 := varsB_spec (varsB_take h n)

theorem spec_l12Join_eq {vars : List Int} {out : List StepT} (hv : varsB vars = true) (ho : out.length ≤ 100000) : spec_l12Join vars out = some (joinF vars vars.length out) := by
  obtain ⟨v4, v1⟩ := varsB_spec hv
  unfold spec_l12Join
  rw [rq_i64 (by omega) (by omega)]
  refine (loop_fn (f := spec_l12Join_l1 vars) (fun s : Int × List StepT => ∃ n : Nat, s.1 = (n : Int) - 1 ∧ n ≤ vars.length ∧ s.2.length ≤ 100000 + 16 * (4 - n)) (fun s => (s.1 + 1).toNat) (fun s => joinF vars (s.1 + 1).toNat s.2) ?_ _ ⟨vars.length, rfl, Nat.le_refl _, by (try dsimp only) <;> omega⟩).trans (by dsimp only; rw [show ((vars.length : Int) - 1 + 1).toNat = vars.length by omega])
  rintro ⟨s, o⟩ ⟨n, hs, hn, hl⟩
  dsimp only at hs hl ⊢
  subst hs
  unfold spec_l12Join_l1
  dsimp only
  cases n with
  | zero =>
    right
    rw [cdec_neg (by omega)]
    rfl
  | succ n =>
    left
    obtain ⟨t4, t1⟩ := take_vars hv n
    have hr := cubesB_ok t4
    have hcv := cubes_valid (varsB_take hv n)
    have e : (((n + 1 : Nat) : Int) - 1).toNat = n := by omega
    have e' : (((n + 1 : Nat) : Int) - 1 + 1).toNat = n + 1 := by omega
    rw [cdec_pos (by omega), rq_pos ⟨by omega, by omega⟩, e, e', spec_l12Cubes_eq t4 t1, bind_s]
    have h16 := hr.1
    refine ⟨(((n : Nat) : Int) - 1, o ++ (cubesB (vars.take n)).map negStep), ?_, ⟨n, rfl, by omega, by (try dsimp only) <;> (rw [List.length_append, List.length_map]; omega)⟩, by (try dsimp only) <;> omega, ?_⟩
    · refine loop_fn (f := spec_l12Join_l2 (((n + 1 : Nat) : Int) - 1)) (fun t : Int × List StepT × List (List Int) => ∃ i : Nat, t.1 = i ∧ i ≤ (cubesB (vars.take n)).length ∧ t.2.1 = o ++ ((cubesB (vars.take n)).take i).map negStep ∧ t.2.2 = cubesB (vars.take n)) (fun t => (cubesB (vars.take n)).length - t.1.toNat) (fun _ => .inl (((n : Nat) : Int) - 1, o ++ (cubesB (vars.take n)).map negStep)) ?_ _ ⟨0, rfl, Nat.zero_le _, by simp, rfl⟩
      rintro ⟨t, q, cs⟩ ⟨i, ht, hi, hq, hcs⟩
      dsimp only at ht hq hcs ⊢
      subst ht
      subst hq
      subst hcs
      unfold spec_l12Join_l2
      dsimp only
      rcases Nat.lt_or_ge i (cubesB (vars.take n)).length with h1 | h1
      · left
        have hmem := getD_mem (l := cubesB (vars.take n)) (i := i) (d := []) h1
        have hc := hcv _ hmem
        rw [cdec_pos (by omega), rq_pos ⟨by omega, by omega⟩, Int.toNat_natCast, show spec_l12Lift ((7:Int), ((0:Int), ((0:Int), (([] : List (Int × Int)), (1:Int))))) ((cubesB (vars.take n)).getD i []) = some (liftB unitS ((cubesB (vars.take n)).getD i [])) from spec_l12Lift_eq unitS _ unit_small (by have := hr.2 _ hmem; omega) (cubeB_in hc).2, bind_s, rq_pos (by simp [bound]; omega), rq_i64 (by omega) (by omega), set_getD]
        refine ⟨_, rfl, ⟨i + 1, by simp, by omega, ?_, rfl⟩, by (try dsimp only) <;> omega, rfl⟩
        dsimp only
        rw [take_snoc [] h1, List.map_append, List.append_assoc]
        rfl
      · right
        have : i = (cubesB (vars.take n)).length := by omega
        rw [cdec_neg (by omega), rq_i64 (by omega) (by omega), this, List.take_length, show ((n + 1 : Nat) : Int) - 1 - 1 = (n : Int) - 1 by omega]
    · dsimp only
      rw [show ((n : Int) - 1 + 1).toNat = n by omega]
      rfl

theorem impl_join_eq {vars : List Int} {out : List StepT} (hv : varsB vars = true) (ho : out.length ≤ 100000) : impl_MergeProofs_j1 vars out = some (bif decide ((joinF vars vars.length out).length ≤ 1000) then (true, joinF vars vars.length out) else (false, [])) := by
  obtain ⟨v4, v1⟩ := varsB_spec hv
  unfold impl_MergeProofs_j1
  rw [rq_i64 (by omega) (by omega)]
  refine (loop_fn (f := impl_MergeProofs_l1 vars) (fun s : Int × List StepT => ∃ n : Nat, s.1 = (n : Int) - 1 ∧ n ≤ vars.length ∧ s.2.length ≤ 100000 + 16 * (4 - n)) (fun s => (s.1 + 1).toNat) (fun s => bif decide ((joinF vars (s.1 + 1).toNat s.2).length ≤ 1000) then (true, joinF vars (s.1 + 1).toNat s.2) else (false, [])) ?_ _ ⟨vars.length, rfl, Nat.le_refl _, by (try dsimp only) <;> omega⟩).trans (by dsimp only; rw [show ((vars.length : Int) - 1 + 1).toNat = vars.length by omega])
  rintro ⟨s, o⟩ ⟨n, hs, hn, hl⟩
  dsimp only at hs hl ⊢
  subst hs
  unfold impl_MergeProofs_l1
  dsimp only
  cases n with
  | zero =>
    right
    unfold impl_MergeProofs_j2
    rw [cdec_neg (by omega)]
    have e0 : joinF vars (((0 : Nat) : Int) - 1 + 1).toNat o = o := rfl
    rw [e0]
    by_cases h : o.length ≤ 1000
    · rw [cdec_neg (by omega), decide_eq_true h]; rfl
    · rw [cdec_pos (by omega), decide_eq_false h]; rfl
  | succ n =>
    left
    obtain ⟨t4, t1⟩ := take_vars hv n
    have hr := cubesB_ok t4
    have hcv := cubes_valid (varsB_take hv n)
    have e : (((n + 1 : Nat) : Int) - 1).toNat = n := by omega
    have e' : (((n + 1 : Nat) : Int) - 1 + 1).toNat = n + 1 := by omega
    rw [cdec_pos (by omega), rq_pos ⟨by omega, by omega⟩, e, e', impl_cubesOf_eq t4 t1, bind_s]
    have h16 := hr.1
    refine ⟨(((n : Nat) : Int) - 1, o ++ (cubesB (vars.take n)).map negStep), ?_, ⟨n, rfl, by omega, by (try dsimp only) <;> (rw [List.length_append, List.length_map]; omega)⟩, by (try dsimp only) <;> omega, ?_⟩
    · refine loop_fn (f := impl_MergeProofs_l2 (((n + 1 : Nat) : Int) - 1) (cubesB (vars.take n))) (fun t : Int × List StepT × List (List Int) => ∃ i : Nat, t.1 = i ∧ i ≤ (cubesB (vars.take n)).length ∧ t.2.1 = o ++ ((cubesB (vars.take n)).take i).map negStep ∧ t.2.2 = cubesB (vars.take n)) (fun t => (cubesB (vars.take n)).length - t.1.toNat) (fun _ => .inl (((n : Nat) : Int) - 1, o ++ (cubesB (vars.take n)).map negStep)) ?_ _ ⟨0, rfl, Nat.zero_le _, by simp, rfl⟩
      rintro ⟨t, q, cs⟩ ⟨i, ht, hi, hq, hcs⟩
      dsimp only at ht hq hcs ⊢
      subst ht
      subst hq
      subst hcs
      unfold impl_MergeProofs_l2
      dsimp only
      rcases Nat.lt_or_ge i (cubesB (vars.take n)).length with h1 | h1
      · left
        have hmem := getD_mem (l := cubesB (vars.take n)) (i := i) (d := []) h1
        have hc := hcv _ hmem
        have hc4 := hr.2 _ hmem
        obtain ⟨c1, c2⟩ := clause_neg hc
        rw [cdec_pos (by omega), rq_pos ⟨by omega, by omega⟩, Int.toNat_natCast, impl_negations_eq _ (by omega) (cubeB_in hc).2, bind_s, impl_ClauseOf_eq _ (by rw [negL_len]; omega), bind_s, rq_pos (by simp [bound]; omega), rq_i64 (by omega) (by omega), set_getD]
        refine ⟨_, rfl, ⟨i + 1, by simp, by omega, ?_, rfl⟩, by (try dsimp only) <;> omega, rfl⟩
        dsimp only
        rw [take_snoc [] h1, List.map_append, List.append_assoc]
        have en : negStep ((cubesB (vars.take n)).getD i []) = ((7:Int), ((0:Int), ((0:Int), ((clauseB (negL ((cubesB (vars.take n)).getD i []))).2.2, (clauseB (negL ((cubesB (vars.take n)).getD i []))).2.1)))) := by unfold negStep stepOf; rw [c2]
        rw [List.map_cons, List.map_nil, en]
      · right
        have : i = (cubesB (vars.take n)).length := by omega
        rw [cdec_neg (by omega), rq_i64 (by omega) (by omega), this, List.take_length, show ((n + 1 : Nat) : Int) - 1 - 1 = (n : Int) - 1 by omega]
    · dsimp only
      rw [show ((n : Int) - 1 + 1).toNat = n by omega]
      rfl

/-! ### The whole -/

theorem rows_bad {a : List (List StepT)} {i : Nat} (h : i < a.length) (hb : ¬ (a.getD i []).length ≤ 1000) : rowsOk a = false := by
  unfold rowsOk
  rw [List.all_eq_false]
  exact ⟨_, getD_mem (d := []) h, by rw [decide_eq_false hb]; decide⟩

theorem rows_good {a : List (List StepT)} (h : ∀ i, i < a.length → (a.getD i []).length ≤ 1000) : rowsOk a = true := by
  unfold rowsOk
  rw [List.all_eq_true]
  intro x hx
  obtain ⟨j, hj, rfl⟩ := List.mem_iff_getElem.1 hx
  have := h j hj
  rw [List.getD_eq_getElem?_getD, List.getElem?_eq_getElem hj] at this
  exact decide_eq_true this

theorem baseF_le {a : List (List StepT)} {cs : List (List Int)} : ∀ n, (∀ j, j < n → (a.getD j []).length ≤ 1000) → (baseF a cs n).length ≤ 1000 * n
  | 0, _ => Nat.le_refl _
  | n + 1, h => by
    have := baseF_le (a := a) (cs := cs) n (fun j hj => h j (by omega))
    have h1 := h n (by omega)
    have h2 := liftRow_len (a.getD n []) (cs.getD n [])
    unfold baseF
    rw [List.length_append]
    omega

theorem impl_MergeProofs_eq (vars : List Int) (a : List (List StepT)) (ha : smallSS a) (hn : vars.length ≤ 1048576) : impl_MergeProofs vars a = some (mergeB vars a) := by
  unfold impl_MergeProofs mergeB
  rw [impl_SplitCubes_eq vars (by omega), bind_s]
  unfold splitB
  cases hv : varsB vars with
  | false => rw [cff, cnf, Bool.false_and, cff]
  | true =>
    rw [ctt, cnt, Bool.true_and]
    dsimp only
    obtain ⟨v4, v1⟩ := varsB_spec hv
    have hr := cubesB_ok v4
    have h16 := hr.1
    have hcv := cubes_valid hv
    by_cases hl : a.length = (cubesB vars).length
    case neg => rw [cbne_pos (by omega), decide_eq_false hl, cff]
    rw [cbne_neg (by omega), decide_eq_true hl, ctt]
    refine loop_fn (f := impl_MergeProofs_l3 vars a (true, cubesB vars)) (fun s : Int × List StepT × List (List Int) => ∃ i : Nat, s.1 = i ∧ i ≤ (cubesB vars).length ∧ s.2.1 = baseF a (cubesB vars) i ∧ s.2.2 = cubesB vars ∧ ∀ j, j < i → (a.getD j []).length ≤ 1000) (fun s => (cubesB vars).length - s.1.toNat) (fun _ => bif rowsOk a && decide ((allSteps vars a).length ≤ 1000) then (true, allSteps vars a) else (false, [])) ?_ _ ⟨0, rfl, Nat.zero_le _, rfl, rfl, fun j hj => by omega⟩
    rintro ⟨s, o, cs⟩ ⟨i, hs, hi, ho, hcs, hp⟩
    dsimp only at hs ho hcs ⊢
    subst hs
    subst ho
    subst hcs
    have hbl := baseF_le (a := a) (cs := cubesB vars) i hp
    unfold impl_MergeProofs_l3
    dsimp only
    rcases Nat.lt_or_ge i (cubesB vars).length with h1 | h1
    · rw [cdec_pos (by omega), rq_pos ⟨by omega, by omega⟩, rq_pos ⟨by omega, by omega⟩, Int.toNat_natCast]
      by_cases h2 : (a.getD i []).length ≤ 1000
      · left
        rw [cdec_neg (by omega), rq_pos ⟨by omega, by omega⟩]
        have hmem := getD_mem (l := cubesB vars) (i := i) (d := []) h1
        have hc := hcv _ hmem
        have hc4 := hr.2 _ hmem
        have hsm := ha.2 _ (getD_mem (l := a) (i := i) (d := []) (by omega))
        refine ⟨((i : Int) + 1, baseF a (cubesB vars) (i + 1), cubesB vars), ?_, ⟨i + 1, by simp, by omega, rfl, rfl, fun j hj => ?_⟩, by (try dsimp only) <;> omega, rfl⟩
        · refine loop_fn (f := impl_MergeProofs_l4 a i (cubesB vars)) (fun t : Int × List StepT => ∃ n : Nat, t.1 = n ∧ n ≤ (a.getD i []).length ∧ t.2 = baseF a (cubesB vars) i ++ liftRow ((a.getD i []).take n) ((cubesB vars).getD i [])) (fun t => (a.getD i []).length - t.1.toNat) (fun _ => .inl ((i : Int) + 1, baseF a (cubesB vars) (i + 1), cubesB vars)) ?_ _ ⟨0, rfl, Nat.zero_le _, by rw [List.take_zero]; exact (List.append_nil _).symm⟩
          rintro ⟨t, q⟩ ⟨n, ht, hn', hq⟩
          dsimp only at ht hq ⊢
          subst ht
          subst hq
          have hll := liftRow_len ((a.getD i []).take n) ((cubesB vars).getD i [])
          rw [List.length_take] at hll
          unfold impl_MergeProofs_l4
          dsimp only
          rw [Int.toNat_natCast, Int.toNat_natCast]
          rcases Nat.lt_or_ge n (a.getD i []).length with h3 | h3
          · left
            have hs' := hsm.2 _ (getD_mem (l := a.getD i []) (i := n) (d := zS) h3)
            have eL : impl_LiftStep ((a.getD i []).getD n (0, (0, (0, ([], 0))))) ((cubesB vars).getD i []) = some (liftB ((a.getD i []).getD n zS) ((cubesB vars).getD i [])) := by
              refine (impl_LiftStep_eq _ _ hs' (by omega)).trans ?_
              unfold liftC
              rw [hc, ctt]
            have esn := liftRow_snoc (c := (cubesB vars).getD i []) h3
            rw [cdec_pos (by omega), rq_pos ⟨by omega, by omega⟩, eL, bind_s]
            generalize liftB ((a.getD i []).getD n zS) ((cubesB vars).getD i []) = L at esn ⊢
            cases hb : L.1 with
            | true =>
              rw [hb, ctt] at esn
              rw [ctt, rq_pos (by simp only [List.length_append, bound, List.length_cons, List.length_nil]; omega), rq_i64 (by omega) (by omega)]
              refine ⟨_, rfl, ⟨n + 1, by simp, by omega, ?_⟩, by (try dsimp only) <;> omega, rfl⟩
              dsimp only
              rw [esn, List.append_assoc]
              rfl
            | false =>
              rw [hb, cff, List.append_nil] at esn
              rw [cff, rq_i64 (by omega) (by omega)]
              refine ⟨_, rfl, ⟨n + 1, by simp, by omega, ?_⟩, by (try dsimp only) <;> omega, rfl⟩
              dsimp only
              rw [esn]
          · right
            have : n = (a.getD i []).length := by omega
            rw [cdec_neg (by omega), rq_i64 (by omega) (by omega), this, List.take_length, set_getD]
            rfl
        · rcases Nat.lt_or_ge j i with h3 | h3
          · exact hp j h3
          · rw [show j = i by omega]; exact h2
      · right
        rw [cdec_pos (by omega), rows_bad (by omega) h2, Bool.false_and, cff]
    · right
      have : i = (cubesB vars).length := by omega
      have hrow : rowsOk a = true := rows_good (fun j hj => hp j (by omega))
      rw [cdec_neg (by omega), impl_join_eq hv (by omega), hrow, Bool.true_and, this]
      rfl

theorem spec_MergeProofs_eq (vars : List Int) (a : List (List StepT)) (ha : smallSS a) (hn : vars.length ≤ 1048576) : spec_MergeProofs vars a = some (mergeB vars a) := by
  unfold spec_MergeProofs mergeB
  rw [spec_l12Vars_eq vars (by omega), bind_s]
  change cond (!(varsB vars)) _ _ = _
  cases hv : varsB vars with
  | false => rw [cnf, Bool.false_and, cff]
  | true =>
    rw [cnt, Bool.true_and]
    obtain ⟨v4, v1⟩ := varsB_spec hv
    have hr := cubesB_ok v4
    have h16 := hr.1
    have hcv := cubes_valid hv
    rw [spec_l12Cubes_eq v4 v1, bind_s]
    by_cases hl : a.length = (cubesB vars).length
    case neg => rw [cbne_pos (by omega), decide_eq_false hl, cff]
    rw [cbne_neg (by omega), decide_eq_true hl, ctt]
    have hbad : ∀ {i : Nat} {o : List StepT}, i ≤ (cubesB vars).length → o.length ≤ (baseF a (cubesB vars) i).length → 1000 < o.length → (allSteps vars a).length ≤ 1000 → False := fun hi h1 h2 h3 => by
      have h4 := baseF_len (a := a) (cs := cubesB vars) (cubesB vars).length hi
      have h5 := joinF_len vars vars.length (baseF a (cubesB vars) (cubesB vars).length)
      unfold allSteps at h3
      omega
    refine loop_fn (f := spec_MergeProofs_l1 vars a) (fun s : Int × List (List Int) × List StepT => ∃ i : Nat, s.1 = i ∧ i ≤ (cubesB vars).length ∧ s.2.1 = cubesB vars ∧ s.2.2 = baseF a (cubesB vars) i ∧ ∀ j, j < i → (a.getD j []).length ≤ 1000) (fun s => (cubesB vars).length - s.1.toNat) (fun _ => bif rowsOk a && decide ((allSteps vars a).length ≤ 1000) then (true, allSteps vars a) else (false, [])) ?_ _ ⟨0, rfl, Nat.zero_le _, rfl, rfl, fun j hj => by omega⟩
    rintro ⟨s, cs, o⟩ ⟨i, hs, hi, hcs, ho, hp⟩
    dsimp only at hs ho hcs ⊢
    subst hs
    subst ho
    subst hcs
    have hbl := baseF_le (a := a) (cs := cubesB vars) i hp
    unfold spec_MergeProofs_l1
    dsimp only
    rcases Nat.lt_or_ge i (cubesB vars).length with h1 | h1
    · rw [cdec_pos (by omega)]
      have hmem := getD_mem (l := cubesB vars) (i := i) (d := []) h1
      have hc := hcv _ hmem
      have hc4 := hr.2 _ hmem
      have hsm := ha.2 _ (getD_mem (l := a) (i := i) (d := []) (by omega))
      have hsl := hsm.1
      have inner : ∃ r, loop (spec_MergeProofs_l2 a i) ((0 : Int), cubesB vars, baseF a (cubesB vars) i) = some r ∧ ((r = .inl ((i : Int) + 1, cubesB vars, baseF a (cubesB vars) (i + 1)) ∧ (a.getD i []).length ≤ 1000) ∨ (r = .inr (false, []) ∧ (rowsOk a && decide ((allSteps vars a).length ≤ 1000)) = false)) := by
        refine loop_ex (f := spec_MergeProofs_l2 a i) (fun t : Int × List (List Int) × List StepT => ∃ n : Nat, t.1 = n ∧ n ≤ (a.getD i []).length ∧ t.2.1 = cubesB vars ∧ t.2.2 = baseF a (cubesB vars) i ++ liftRow ((a.getD i []).take n) ((cubesB vars).getD i []) ∧ (0 < n → (a.getD i []).length ≤ 1000)) (fun t => (a.getD i []).length - t.1.toNat) _ ?_ _ ⟨0, rfl, Nat.zero_le _, rfl, by rw [List.take_zero]; exact (List.append_nil _).symm, fun h => by omega⟩
        rintro ⟨t, cs, q⟩ ⟨n, ht, hn', hcs, hq, hz⟩
        dsimp only at ht hq hcs ⊢
        subst ht
        subst hq
        subst hcs
        have hll := liftRow_len ((a.getD i []).take n) ((cubesB vars).getD i [])
        rw [List.length_take] at hll
        unfold spec_MergeProofs_l2
        dsimp only
        rw [rq_pos ⟨by omega, by omega⟩, Int.toNat_natCast, Int.toNat_natCast]
        rcases Nat.lt_or_ge n (a.getD i []).length with h3 | h3
        · have hs' := hsm.2 _ (getD_mem (l := a.getD i []) (i := n) (d := zS) h3)
          have eL : spec_l12Lift ((a.getD i []).getD n (0, (0, (0, ([], 0))))) ((cubesB vars).getD i []) = some (liftB ((a.getD i []).getD n zS) ((cubesB vars).getD i [])) := spec_l12Lift_eq _ _ hs' (by omega) (cubeB_in hc).2
          have esn := liftRow_snoc (c := (cubesB vars).getD i []) h3
          rw [cdec_pos (by omega), rq_pos ⟨by omega, by omega⟩, rq_pos ⟨by omega, by omega⟩, rq_pos ⟨by omega, by omega⟩, eL, bind_s]
          unfold spec_MergeProofs_j2
          dsimp only
          rw [rq_pos ⟨by omega, by omega⟩, Int.toNat_natCast]
          by_cases h2 : (a.getD i []).length ≤ 1000
          case neg =>
            right
            rw [cdec_pos (by omega)]
            exact ⟨_, rfl, Or.inr ⟨rfl, by rw [rows_bad (by omega) h2, Bool.false_and]⟩⟩
          rw [cdec_neg (by omega)]
          by_cases h5 : 1000 < (baseF a (cubesB vars) i ++ liftRow ((a.getD i []).take n) ((cubesB vars).getD i [])).length
          · right
            rw [cdec_pos (by omega)]
            refine ⟨_, rfl, Or.inr ⟨rfl, ?_⟩⟩
            have hle : (baseF a (cubesB vars) i ++ liftRow ((a.getD i []).take n) ((cubesB vars).getD i [])).length ≤ (baseF a (cubesB vars) (i + 1)).length := by
              have : (liftRow ((a.getD i []).take n) ((cubesB vars).getD i [])).length ≤ (liftRow (a.getD i []) ((cubesB vars).getD i [])).length := by
                have e : a.getD i [] = (a.getD i []).take n ++ (a.getD i []).drop n := (List.take_append_drop n _).symm
                conv => rhs; rw [e]
                unfold liftRow
                rw [List.filterMap_append, List.length_append]
                omega
              rw [baseF_succ, List.length_append, List.length_append]
              omega
            rw [decide_eq_false (fun h => hbad (i := i + 1) (by omega) hle h5 h), Bool.and_false]
          · left
            rw [cdec_neg (by omega), set_getD]
            rw [List.length_append] at h5
            generalize liftB ((a.getD i []).getD n zS) ((cubesB vars).getD i []) = L at esn ⊢
            cases hb : L.1 with
            | true =>
              rw [hb, ctt] at esn
              rw [ctt, rq_pos (by simp only [List.length_append, bound, List.length_cons, List.length_nil]; omega), rq_i64 (by omega) (by omega)]
              refine ⟨_, rfl, ⟨n + 1, by simp, by omega, rfl, ?_, fun _ => h2⟩, by (try dsimp only) <;> omega⟩
              dsimp only
              rw [esn, List.append_assoc]
              rfl
            | false =>
              rw [hb, cff, List.append_nil] at esn
              rw [cff, rq_i64 (by omega) (by omega)]
              refine ⟨_, rfl, ⟨n + 1, by simp, by omega, rfl, ?_, fun _ => h2⟩, by (try dsimp only) <;> omega⟩
              dsimp only
              rw [esn]
        · right
          have : n = (a.getD i []).length := by omega
          rw [cdec_neg (by omega), rq_i64 (by omega) (by omega)]
          refine ⟨_, rfl, Or.inl ⟨?_, ?_⟩⟩
          · rw [this, List.take_length]
            rfl
          · rcases Nat.lt_or_ge 0 n with h4 | h4
            · exact hz h4
            · omega
      obtain ⟨r, e, h | h⟩ := inner
      · left
        rw [e, h.1]
        refine ⟨_, rfl, ⟨i + 1, by simp, by omega, rfl, rfl, fun j hj => ?_⟩, by (try dsimp only) <;> omega, rfl⟩
        rcases Nat.lt_or_ge j i with h3 | h3
        · exact hp j h3
        · rw [show j = i by omega]; exact h.2
      · right
        rw [e, h.1, h.2, cff]
    · right
      have : i = (cubesB vars).length := by omega
      have hrow : rowsOk a = true := rows_good (fun j hj => hp j (by omega))
      unfold spec_MergeProofs_j1
      rw [cdec_neg (by omega), spec_l12Join_eq hv (by omega), bind_s, hrow, Bool.true_and, this]
      show up (cond (decide (1000 < ((allSteps vars a).length : Int))) (some (false, [])) (some (true, allSteps vars a))) = _
      by_cases h : (allSteps vars a).length ≤ 1000
      · rw [cdec_neg (by omega), decide_eq_true h, ctt]; rfl
      · rw [cdec_pos (by omega), decide_eq_false h, cff]; rfl

theorem baseF_small {a : List (List StepT)} {cs : List (List Int)} : ∀ n, ∀ s ∈ baseF a cs n, smallS s
  | 0, s, h => absurd h List.not_mem_nil
  | n + 1, s, h => by
    unfold baseF at h
    rcases List.mem_append.1 h with h | h
    · exact baseF_small n s h
    · unfold liftRow at h
      obtain ⟨t, _, ht⟩ := List.mem_filterMap.1 h
      cases hb : (liftB t (cs.getD n [])).1 with
      | false => rw [hb, cff] at ht; cases ht
      | true =>
        rw [hb, ctt] at ht
        cases ht
        have := liftB_len t (cs.getD n [])
        show (liftB t (cs.getD n [])).2.2.2.2.2.length ≤ _
        omega

theorem joinF_small {vars : List Int} : ∀ n out, (∀ s ∈ out, smallS s) → ∀ s ∈ joinF vars n out, smallS s
  | 0, _, h => h
  | n + 1, out, h => by
    refine joinF_small n _ (fun s hs => ?_)
    rcases List.mem_append.1 hs with hs | hs
    · exact h s hs
    · obtain ⟨c, _, rfl⟩ := List.mem_map.1 hs
      have := liftB_len unitS c
      show (liftB unitS c).2.2.2.2.2.length ≤ _
      omega

theorem mergeB_small (vars : List Int) (a : List (List StepT)) : smallSL (mergeB vars a).2 ∧ (mergeB vars a).2.length ≤ 1000 := by
  have hnil : smallSL ([] : List StepT) := ⟨Nat.zero_le _, fun s hs => absurd hs List.not_mem_nil⟩
  unfold mergeB
  cases varsB vars && decide (a.length = (cubesB vars).length) with
  | false => rw [cff]; exact ⟨hnil, Nat.zero_le _⟩
  | true =>
    rw [ctt]
    cases hq : rowsOk a && decide ((allSteps vars a).length ≤ 1000) with
    | false => rw [cff]; exact ⟨hnil, Nat.zero_le _⟩
    | true =>
      rw [ctt]
      rw [Bool.and_eq_true, decide_eq_true_eq] at hq
      exact ⟨⟨by have := hq.2; (try dsimp only) <;> omega, joinF_small _ _ (baseF_small _)⟩, hq.2⟩

end Go.AE.Y
namespace Go.AE.Y
open Go Go.AE

/-! ### Lengths -/

/-! ### Draws -/

end Go.AE.Y
namespace Go.AE.Y
open Go Go.AE
set_option maxHeartbeats 400000

/-- What solving a problem gives, on both sides. -/
noncomputable def solF (x : ProbT) (f : Int) : SolT := (impl_SolveProblem x f).getD (3, [], [])

theorem solF_all {x : ProbT} (hs : smallC x) (f : Int) : impl_SolveProblem x f = some (solF x f) ∧ spec_SolveProblem x f = some (solF x f) ∧ SolOk x f (solF x f) := by
  obtain ⟨r, h1, h2, h3⟩ := solve_same hs f
  have e : solF x f = r := by unfold solF; rw [h1]; rfl
  rw [e]
  exact ⟨h1, h2, h3⟩

def underF (a : ProbT) (c : List Int) : ProbT := a ++ c.map litC

/-- Solving cube by cube, as data. -/
noncomputable def cubesSolB (a : ProbT) (vars : List Int) (f : Int) : SolT :=
  if varsB vars = true ∧ probB a = true ∧ (0 ≤ f ∧ f ≤ 2000) ∧ a.length + vars.length ≤ 400 then
    match (cubesB vars).find? (fun c => decide ((solF (underF a c) f).1 ≠ 2)) with
    | some c => ((solF (underF a c) f).1, (solF (underF a c) f).2.1, [])
    | none => bif (mergeB vars ((cubesB vars).map (fun c => (solF (underF a c) f).2.2))).1 then (2, [], (mergeB vars ((cubesB vars).map (fun c => (solF (underF a c) f).2.2))).2) else (0, [], [])
  else (3, [], [])

theorem under_small {a : ProbT} {vars c : List Int} (hs : smallC a) (hn : a.length + vars.length ≤ 400) (hc : c ∈ cubesB vars) : smallC (underF a c) := by
  have hl := (cubesB_length vars.length vars rfl).2 c hc
  refine ⟨by unfold underF; rw [List.length_append, List.length_map]; omega, fun x hx => ?_⟩
  rcases List.mem_append.1 hx with h | h
  · exact hs.2 x h
  · obtain ⟨y, _, rfl⟩ := List.mem_map.1 h
    show 1 ≤ 1048576
    omega

theorem sol_len {x : ProbT} (hs : smallC x) (f : Int) : (solF x f).2.1.length ≤ 12 := by
  have ho := (solF_all hs f).2.2
  by_cases q : probB x = true ∧ 0 ≤ f ∧ f ≤ 2000
  · rcases ho.good q.1 q.2 with g | g | g
    · have := g.2.1
      omega
    · rw [g.2.1]; exact Nat.zero_le _
    · rw [g.2]; exact Nat.zero_le _
  · rw [ho.bad q]; exact Nat.zero_le _

theorem cubesSolB_small {a : ProbT} (hs : smallC a) (vars : List Int) (f : Int) : (cubesSolB a vars f).2.1.length ≤ 12 ∧ smallSL (cubesSolB a vars f).2.2 ∧ (cubesSolB a vars f).2.2.length ≤ 1000 := by
  have hnil : smallSL ([] : List StepT) := ⟨Nat.zero_le _, fun s hs => absurd hs List.not_mem_nil⟩
  unfold cubesSolB
  split
  · rename_i hq
    cases hfind : (cubesB vars).find? (fun c => decide ((solF (underF a c) f).1 ≠ 2)) with
    | some c => exact ⟨sol_len (under_small hs hq.2.2.2 (List.mem_of_find?_eq_some hfind)) f, hnil, Nat.zero_le _⟩
    | none =>
      dsimp only
      have hb := mergeB_small vars ((cubesB vars).map (fun c => (solF (underF a c) f).2.2))
      cases (mergeB vars ((cubesB vars).map (fun c => (solF (underF a c) f).2.2))).1 with
      | true => rw [ctt]; exact ⟨Nat.zero_le _, hb.1, hb.2⟩
      | false => rw [cff]; exact ⟨Nat.zero_le _, hnil, Nat.zero_le _⟩
  · exact ⟨Nat.zero_le _, hnil, Nat.zero_le _⟩


theorem rowsS_small {a : ProbT} (hs : smallC a) {vars : List Int} (hv : varsB vars = true) (hn : a.length + vars.length ≤ 400) (f : Int) : smallSS ((cubesB vars).map (fun c => (solF (underF a c) f).2.2)) := by
  refine ⟨by rw [List.length_map]; have := (cubesB_ok (varsB_spec hv).1).1; omega, fun s h => ?_⟩
  obtain ⟨c, hc, rfl⟩ := List.mem_map.1 h
  have ho := (solF_all (under_small hs hn hc) f).2.2
  refine ⟨by have := ho.top; (try dsimp only) <;> omega, fun t ht => ?_⟩
  have := ho.few t ht
  unfold smallS
  omega

end Go.AE.Y
namespace Go.AE.Y
open Go Go.AE

theorem markBoolS_full (a : List Bool) (k : Int) (hk : 0 ≤ k ∧ k ≤ 9000000000000000000) (h : a.length ≤ 4000000000) :
    ∃ r, laws_markBoolS k a = some r ∧ r.1 = k + a.length ∧ r.2.length = a.length ∧ ∀ j : Nat, j < a.length → r.2.getD j false = ((k + j) % 3 == 0) := by
  unfold laws_markBoolS
  refine loop_ex (fun s : Int × Int × List Bool => ∃ i : Nat, s.2.1 = i ∧ i ≤ a.length ∧ s.1 = k + i ∧ s.2.2.length = a.length ∧ ∀ j : Nat, j < i → s.2.2.getD j false = ((k + j) % 3 == 0)) (fun s => a.length - s.2.1.toNat) (fun r : Int × List Bool => r.1 = k + a.length ∧ r.2.length = a.length ∧ ∀ j : Nat, j < a.length → r.2.getD j false = ((k + j) % 3 == 0)) ?_ _ ⟨0, rfl, Nat.zero_le _, by dsimp only; omega, rfl, fun j hj => by omega⟩
  rintro ⟨k1, s, a1⟩ ⟨i, rfl, hi, hk1, hl, hpre⟩
  dsimp only at hk1 hl hpre ⊢
  subst hk1
  unfold laws_markBoolS_l1
  rcases Nat.lt_or_ge i a.length with h1 | h1
  · left
    dsimp only
    rw [cdec_pos (by omega), rq_pos ⟨by omega, by omega⟩, rq_pos ⟨by omega, by omega⟩, rq_i64 (by omega) (by omega), rq_i64 (by omega) (by omega), Int.toNat_natCast]
    refine ⟨_, rfl, ⟨i + 1, by simp, by omega, by simp only [Int.natCast_add]; omega, by simp [hl], fun j hj => ?_⟩, by dsimp only; omega⟩
    dsimp only
    rcases Nat.lt_or_ge j i with h4 | h4
    · rw [getD_set_ne' (by omega)]
      exact hpre j h4
    · have : j = i := by omega
      subst this
      rw [getD_set_eq' (by omega)]
  · right
    have : i = a.length := by omega
    subst this
    dsimp only
    rw [cdec_neg (by omega)]
    exact ⟨_, rfl, by dsimp only, hl, hpre⟩

theorem heldBoolS_of (a : List Bool) (k : Int) (hk : 0 ≤ k ∧ k ≤ 9000000000000000000) (h : a.length ≤ 4000000000) (hm : ∀ j : Nat, j < a.length → a.getD j false = ((k + j) % 3 == 0)) : laws_heldBoolS a k = some (k + a.length) := by
  unfold laws_heldBoolS
  refine loop_fn (fun s : Int × Int => ∃ i : Nat, s.2 = i ∧ i ≤ a.length ∧ s.1 = k + i) (fun s => a.length - s.2.toNat) (fun _ => k + a.length) ?_ _ ⟨0, rfl, Nat.zero_le _, by dsimp only; omega⟩
  rintro ⟨k1, s⟩ ⟨i, rfl, hi, hk1⟩
  dsimp only at hk1 ⊢
  subst hk1
  unfold laws_heldBoolS_l1
  rcases Nat.lt_or_ge i a.length with h1 | h1
  · left
    dsimp only
    rw [cdec_pos (by omega), rq_pos ⟨by omega, by omega⟩, rq_pos ⟨by omega, by omega⟩, Int.toNat_natCast, hm i h1, bne_self_eq_false, cff, rq_i64 (by omega) (by omega), rq_i64 (by omega) (by omega)]
    exact ⟨_, rfl, ⟨i + 1, by simp, by omega, by simp only [Int.natCast_add]; omega⟩, by dsimp only; omega, rfl⟩
  · right
    have : i = a.length := by omega
    subst this
    dsimp only
    rw [cdec_neg (by omega)]

end Go.AE.Y
namespace Go.AE.Y
open Go Go.AE
set_option maxHeartbeats 400000

/-- A loop that pushes what each element gives, until an element that ends it; the state holds more that stays. -/
theorem loop_firstS {α β R S : Type} {f : S → Option (S ⊕ R)} (st : Int → List β → S) (l : List α) (d : α) (p : α → Bool) (g : α → β) (bad : α → R) (fin : R)
    (h : ∀ (i : Nat) (o : List β), i < l.length → o.length = i → f (st i o) = some (bif p (l.getD i d) then .inr (bad (l.getD i d)) else .inl (st ((i : Int) + 1) (o ++ [g (l.getD i d)]))))
    (hn : f (st l.length (l.map g)) = some (.inr fin)) :
    loop f (st 0 []) = some ((l.find? p).elim fin bad) := by
  have key : ∀ k i : Nat, i + k = l.length → loop f (st i ((l.take i).map g)) = some (((l.drop i).find? p).elim fin bad) := by
    intro k
    induction k with
    | zero =>
      intro i hi
      have : i = l.length := by omega
      subst this
      rw [loop_eq, List.take_length, hn, bind_s, List.drop_length]
      rfl
    | succ k ih =>
      intro i hi
      have hlt : i < l.length := by omega
      have e : l.getD i d = l[i] := by rw [List.getD_eq_getElem?_getD, List.getElem?_eq_getElem hlt]; rfl
      rw [loop_eq, h i _ hlt (by rw [List.length_map, List.length_take]; omega), bind_s, List.drop_eq_getElem_cons hlt, List.find?_cons, e]
      cases hp : p l[i] with
      | true => rw [ctt]; rfl
      | false =>
        rw [cff]
        have := ih (i + 1) (by omega)
        rw [take_snoc d hlt, List.map_append, e] at this
        exact this
  have := key l.length 0 (by omega)
  rw [List.take_zero, List.drop_zero] at this
  exact this

/-- The end of solving cube by cube: the proofs merged. -/
noncomputable def endB (vars : List Int) (rows : List (List StepT)) : SolT :=
  bif (mergeB vars rows).1 then (2, [], (mergeB vars rows).2) else (0, [], [])

theorem impl_end_eq (vars : List Int) (rows : List (List StepT)) (hr : smallSS rows) (hn : vars.length ≤ 1048576) : impl_SolveCubes_j1 vars rows = some (endB vars rows) := by
  unfold impl_SolveCubes_j1 endB
  rw [impl_MergeProofs_eq vars rows hr hn, bind_s]
  cases (mergeB vars rows).1 with
  | true => rw [cnt, ctt]
  | false => rw [cnf, cff]

theorem spec_end_eq (vars : List Int) (rows : List (List StepT)) (hr : smallSS rows) (hn : vars.length ≤ 1048576) : spec_SolveCubes_j1 vars rows = some (endB vars rows) := by
  unfold spec_SolveCubes_j1 endB
  rw [spec_MergeProofs_eq vars rows hr hn, bind_s]
  cases (mergeB vars rows).1 with
  | true => rw [cnt, ctt]
  | false => rw [cnf, cff]

theorem bne2 {α : Type} {a : Int} {x y : α} : cond (a != 2) x y = cond (decide (a ≠ 2)) x y := by
  by_cases h : a = 2
  · rw [cbne_neg h, cdec_neg (fun q => q h)]
  · rw [cbne_pos h, cdec_pos h]

theorem impl_loop_eq {a : ProbT} {vars : List Int} {f : Int} (hs : smallC a) (hv : varsB vars = true) (hp : probB a = true) (hn : a.length + vars.length ≤ 400) :
    loop (impl_SolveCubes_l1 a vars f (true, cubesB vars)) ((0 : Int), ([] : List (List StepT)), cubesB vars) =
      some (((cubesB vars).find? (fun c => decide ((solF (underF a c) f).1 ≠ 2))).elim (endB vars ((cubesB vars).map (fun c => (solF (underF a c) f).2.2))) (fun c => ((solF (underF a c) f).1, (solF (underF a c) f).2.1, []))) := by
  have hv4 := (varsB_spec hv).1
  have hlen := (cubesB_ok hv4).1
  refine loop_firstS (f := impl_SolveCubes_l1 a vars f (true, cubesB vars)) (fun i o => (i, o, cubesB vars)) (cubesB vars) [] (fun c => decide ((solF (underF a c) f).1 ≠ 2)) (fun c => (solF (underF a c) f).2.2) (fun c => ((solF (underF a c) f).1, (solF (underF a c) f).2.1, [])) _ ?_ ?_
  · intro i o hi ho
    have hm := getD_mem (l := cubesB vars) (i := i) (d := []) hi
    have hc4 := (cubesB_ok hv4).2 _ hm
    have hcb := cubes_valid hv _ hm
    have hsm := under_small hs hn hm
    have he := (solF_all hsm f).1
    have hl := (cubesB_length vars.length vars rfl).2 _ hm
    have ecp : cubeProbB a ((cubesB vars).getD i []) = (true, underF a ((cubesB vars).getD i [])) := by
      unfold cubeProbB underF
      rw [hp, hcb, decide_eq_true (show a.length + ((cubesB vars).getD i []).length ≤ 400 by omega)]
      rfl
    unfold impl_SolveCubes_l1
    dsimp only
    rw [cdec_pos (by omega), rq_pos ⟨by omega, by omega⟩, Int.toNat_natCast, impl_CubeProblem_eq a _ hs (by omega), bind_s, ecp]
    dsimp only
    rw [he, bind_s, bne2, rq_pos (by simp [bound]; omega), rq_i64 (by omega) (by omega), set_getD]
    cases decide ((solF (underF a ((cubesB vars).getD i [])) f).1 ≠ 2) with
    | true => rw [ctt, ctt]
    | false => rw [cff, cff]
  · unfold impl_SolveCubes_l1
    dsimp only
    rw [cdec_neg (by omega), impl_end_eq vars _ (rowsS_small hs hv hn f) (by omega)]
    rfl

theorem spec_loop_eq {a : ProbT} {vars : List Int} {f : Int} (hs : smallC a) (hv : varsB vars = true) (hn : a.length + vars.length ≤ 400) :
    loop (spec_SolveCubes_l1 a vars f) ((0 : Int), cubesB vars, ([] : List (List StepT))) =
      some (((cubesB vars).find? (fun c => decide ((solF (underF a c) f).1 ≠ 2))).elim (endB vars ((cubesB vars).map (fun c => (solF (underF a c) f).2.2))) (fun c => ((solF (underF a c) f).1, (solF (underF a c) f).2.1, []))) := by
  have hv4 := (varsB_spec hv).1
  have hlen := (cubesB_ok hv4).1
  refine loop_firstS (f := spec_SolveCubes_l1 a vars f) (fun i o => (i, cubesB vars, o)) (cubesB vars) [] (fun c => decide ((solF (underF a c) f).1 ≠ 2)) (fun c => (solF (underF a c) f).2.2) (fun c => ((solF (underF a c) f).1, (solF (underF a c) f).2.1, [])) _ ?_ ?_
  · intro i o hi ho
    have hm := getD_mem (l := cubesB vars) (i := i) (d := []) hi
    have hc4 := (cubesB_ok hv4).2 _ hm
    have hsm := under_small hs hn hm
    have he := (solF_all hsm f).2.1
    have eu : spec_l12Under a ((cubesB vars).getD i []) = some (underF a ((cubesB vars).getD i [])) := spec_l12Under_eq a _ hs (by omega)
    unfold spec_SolveCubes_l1
    dsimp only
    rw [cdec_pos (by omega), rq_pos ⟨by omega, by omega⟩, Int.toNat_natCast, eu, bind_s]
    rw [he, bind_s, bne2, rq_pos (by simp [bound]; omega), rq_i64 (by omega) (by omega), set_getD]
    cases decide ((solF (underF a ((cubesB vars).getD i [])) f).1 ≠ 2) with
    | true => rw [ctt, ctt]
    | false => rw [cff, cff]
  · unfold spec_SolveCubes_l1
    dsimp only
    rw [cdec_neg (by omega), spec_end_eq vars _ (rowsS_small hs hv hn f) (by omega)]
    rfl

theorem cubesSolB_good {a : ProbT} {vars : List Int} {f : Int} (hv : varsB vars = true) (hp : probB a = true) (hf : 0 ≤ f ∧ f ≤ 2000) (hn : a.length + vars.length ≤ 400) :
    cubesSolB a vars f = (((cubesB vars).find? (fun c => decide ((solF (underF a c) f).1 ≠ 2))).elim (endB vars ((cubesB vars).map (fun c => (solF (underF a c) f).2.2))) (fun c => ((solF (underF a c) f).1, (solF (underF a c) f).2.1, []))) := by
  unfold cubesSolB endB
  rw [if_pos ⟨hv, hp, hf, hn⟩]
  cases (cubesB vars).find? (fun c => decide ((solF (underF a c) f).1 ≠ 2)) with
  | none => rfl
  | some c => rfl

theorem cubesSolB_bad {a : ProbT} {vars : List Int} {f : Int} (h : ¬ (varsB vars = true ∧ probB a = true ∧ (0 ≤ f ∧ f ≤ 2000) ∧ a.length + vars.length ≤ 400)) : cubesSolB a vars f = (3, [], []) := if_neg h

theorem impl_SolveCubes_eq {a : ProbT} {vars : List Int} (f : Int) (hs : smallC a) (hl : vars.length ≤ 1048576) : impl_SolveCubes a vars f = some (cubesSolB a vars f) := by
  have ha := hs.1
  unfold impl_SolveCubes
  rw [impl_SplitCubes_eq vars (by omega), bind_s]
  unfold splitB
  cases hv : varsB vars with
  | false =>
    rw [cff, cnf, cubesSolB_bad (fun h => by rw [hv] at h; cases h.1)]
  | true =>
    rw [ctt, cnt, impl_ProblemValid_eq a hs, bind_s]
    cases hp : probB a with
    | false => rw [cnf, cubesSolB_bad (fun h => by rw [hp] at h; cases h.2.1)]
    | true =>
      rw [cnt, isFuel_eq, bind_s]
      by_cases q1 : 0 ≤ f
      · by_cases q2 : f ≤ 2000
        · rw [decide_eq_true q1, decide_eq_true q2, show (true && true) = true from Bool.true_and _, cnt, rq_i64 (by omega) (by omega)]
          by_cases q3 : a.length + vars.length ≤ 400
          · rw [cdec_neg (by omega), impl_loop_eq hs hv hp q3, cubesSolB_good hv hp ⟨q1, q2⟩ q3]
          · rw [cdec_pos (by omega), cubesSolB_bad (fun h => q3 h.2.2.2)]
        · rw [decide_eq_false q2, Bool.and_false, cnf, cubesSolB_bad (fun h => q2 h.2.2.1.2)]
      · rw [decide_eq_false q1, Bool.false_and, cnf, cubesSolB_bad (fun h => q1 h.2.2.1.1)]

theorem spec_SolveCubes_eq {a : ProbT} {vars : List Int} (f : Int) (hs : smallC a) (hl : vars.length ≤ 1048576) : spec_SolveCubes a vars f = some (cubesSolB a vars f) := by
  have ha := hs.1
  have ev : spec_l12Vars vars = some (varsB vars) := spec_l12Vars_eq vars (by omega)
  unfold spec_SolveCubes
  rw [spec_ProblemValid_eq a hs, bind_s]
  cases hp : probB a with
  | false => rw [cnf, cubesSolB_bad (fun h => by rw [hp] at h; cases h.2.1)]
  | true =>
    rw [cnt, ev, bind_s]
    cases hv : varsB vars with
    | false => rw [cnf, cubesSolB_bad (fun h => by rw [hv] at h; cases h.1)]
    | true =>
      rw [cnt]
      by_cases q1 : f < 0
      · rw [cdec_pos q1, cubesSolB_bad (fun h => by have := h.2.2.1.1; omega)]
      · rw [cdec_neg q1]
        by_cases q2 : 2000 < f
        · rw [cdec_pos q2, cubesSolB_bad (fun h => by have := h.2.2.1.2; omega)]
        · rw [cdec_neg q2, rq_i64 (by omega) (by omega)]
          by_cases q3 : a.length + vars.length ≤ 400
          · rw [cdec_neg (by omega), spec_l12Cubes_eq (varsB_spec hv).1 (varsB_spec hv).2, bind_s, spec_loop_eq hs hv q3, cubesSolB_good hv hp ⟨by omega, by omega⟩ q3]
          · rw [cdec_pos (by omega), cubesSolB_bad (fun h => q3 h.2.2.2)]

/-- SolveCubes returns what the reference returns, and what it returns is its own. -/
theorem law_FnExactSolveCubes (a : ProbT) (vars : List Int) (f : Int) (h : okD (.sl (.pair (.sl (.pair (.int .i64) (.int .i64))) (.int .i64))) a) : laws_FnExactSolveCubes a vars f = some true := by
  unfold laws_FnExactSolveCubes
  by_cases h0 : 1048576 < (vars.length : Int)
  · rw [cdec_pos h0]
  rw [cdec_neg h0]
  obtain ⟨r, hr, hr2⟩ := szConstraintS_ex a h
  rw [hr, bind_s]
  by_cases h1 : r < 0
  · rw [cdec_pos h1]
  rw [cdec_neg h1]
  have hs : smallC a := hr2.resolve_left h1
  obtain ⟨hb, hc, hc'⟩ := cubesSolB_small hs vars f
  obtain ⟨m1, q1, q2, q2'⟩ := markConOk a hs
  obtain ⟨m2, q4, q5, q5'⟩ := markIntS_ex vars m1.1 ⟨q2, by omega⟩ (by omega)
  obtain ⟨m3, e3, k3, l3, g3⟩ := markBoolS_full (cubesSolB a vars f).2.1 1 ⟨by omega, by omega⟩ (by omega)
  obtain ⟨m4, e4, d4, l4, p4, p4'⟩ := markStepS_held (cubesSolB a vars f).2.2 m3.1 ⟨by omega, by omega⟩ hc
  have e5 : laws_heldBoolS m3.2 1 = some m3.1 := by
    rw [heldBoolS_of m3.2 1 ⟨by omega, by omega⟩ (by omega) (fun j hj => g3 j (by omega)), k3, l3]
  have e6 : laws_heldStepS m4.2 m3.1 = some m4.1 := heldStepS_at d4 (by omega) (by omega) (by omega)
  rw [toConstraintS_eq a hs, bind_s, toIntS_eq vars (by omega), bind_s, spec_SolveCubes_eq f hs (by omega), bind_s, bind_s, bind_s, impl_SolveCubes_eq f hs (by omega), bind_s, bne_self_eq_false, cff, eqBoolS_self _ (by omega), bind_s, cnt, eqStepS_self _ hc, bind_s, cnt, bind_s, eqConstraintS_self a hs, bind_s, cnt, bind_s, eqIntS_self vars (by omega), bind_s, cnt, q1, bind_s, q4, bind_s, cdec_neg (by omega), cff, bind_s, cnt, bind_s, cnt, e3, bind_s, e4, bind_s, e5, bind_s, cdec_neg (by omega), e6, bind_s, cdec_neg (by omega), bne_self_eq_false, cff, bind_s, bind_s, impl_SolveCubes_eq f hs (by omega), bind_s, bne_self_eq_false, cff, eqBoolS_self _ (by omega), bind_s, cnt, eqStepS_self _ hc, bind_s, cnt, bind_s, cdec_neg (by omega), e6, bind_s, cdec_neg (by omega), bne_self_eq_false, cff]

end Go.AE.Y
