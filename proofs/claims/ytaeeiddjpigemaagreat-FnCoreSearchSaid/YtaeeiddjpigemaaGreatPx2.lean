/-
  Plain laws of the models, in one text. No conditions.
-/
import Derived.Test.YtaeeiddjpigemaaGreatPx1
namespace Go.AE.Y
open Go Go.AE
set_option maxHeartbeats 400000

theorem loop_inv {S R : Type} {f : S → Option (S ⊕ R)} (Inv : S → Prop) (Q : R → Prop)
  (step : ∀ s, Inv s → ∀ a, f s = some a → (∃ s', a = .inl s' ∧ Inv s') ∨ (∃ r, a = .inr r ∧ Q r)) {s : S} {r : R} (hs : Inv s) (h : loop f s = some r) : Q r := by
 obtain ⟨n, hn⟩ := loop_rounds h
 have key : ∀ n s, Inv s → rounds f n s = some r → Q r := by
  intro n
  induction n with
  | zero => intro s _ h1; unfold rounds at h1; exact absurd h1 (by simp)
  | succ n ih =>
   intro s hs h1
   unfold rounds at h1
   cases hf : f s with
   | none => rw [hf] at h1; exact absurd h1 (by simp)
   | some a =>
    rw [hf] at h1
    rcases step s hs a hf with ⟨s', e, h2⟩ | ⟨r', e, h2⟩
    ·subst e
     exact ih s' h2 h1
    ·subst e
     have h3 : r' = r := by simpa using h1
     rw [← h3]
     exact h2
 exact key n s hs hn

def subP (p q : List Int) : Prop := ∀ j, p.getD j 0 ≠ 0 → q.getD j 0 = p.getD j 0
theorem subP.refl (p : List Int) : subP p p := fun _ _ => rfl
theorem subP.trans {p q r : List Int} (a : subP p q) (b : subP q r) : subP p r := fun j h => by
 have h1 := a j h
 rw [← h1] at h ⊢
 exact b j h

def fix1 (c : List (Int × Int) × Int) (q : List Int) : Prop := 0 ≤ slkF c.1 q c.1.length - c.2 ∧ ∀ i, i < c.1.length → unZ (c.1.getD i (0, 0)).2 q = 0 → (c.1.getD i (0, 0)).1 ≤ slkF c.1 q c.1.length - c.2
def fixP (L : ProbT) (q : List Int) : Prop := ∀ c ∈ L, fix1 c q

def impT (c : List (Int × Int) × Int) (p : List Int) (t : Int × Int) : Bool := decide (unZ t.2 p = 0) && decide (slkF c.1 p c.1.length - c.2 < t.1)
def impF (c : List (Int × Int) × Int) (p : List Int) : List Int := (c.1.filter (impT c p)).map (fun t => t.2)

theorem impl_implied_eq {c : List (Int × Int) × Int} {p : List Int} (hc : conB c = true) (hl : c.1.length ≤ 1048576) (hp : OkP p) : impl_Constraint_implied c p = some (impF c p) := by
 obtain ⟨c1, c2⟩ := con_at hc
 unfold impl_Constraint_implied
 rw [impl_slack_eq hc hl hp, bind_s]
 refine loop_fn (f := impl_Constraint_implied_l1 c p (slkF c.1 p c.1.length - c.2)) (fun s : Int × List Int => ∃ n : Nat, s.1 = n ∧ n ≤ c.1.length ∧ s.2.length ≤ n ∧ s.2 = ((c.1.take n).filter (impT c p)).map (fun t => t.2)) (fun s => c.1.length - s.1.toNat) (fun _ => impF c p) ?_ _ ⟨0, rfl, Nat.zero_le _, Nat.le_refl _, rfl⟩
 rintro ⟨s, o⟩ ⟨n, hs, hn, ho, hall⟩
 dsimp only at hs ho hall ⊢
 subst hs
 unfold impl_Constraint_implied_l1
 dsimp only
 rcases Nat.lt_or_ge n c.1.length with h1 | h1
 ·left
  obtain ⟨l1, l2, l3⟩ := c2 n h1
  rw [cdec_pos (by omega), rq_pos ⟨by omega, by omega⟩, Int.toNat_natCast, impl_under_eq l1 hp, bind_s]
  have hsn : ((c.1.take (n + 1)).filter (impT c p)).map (fun t => t.2) = o ++ (bif impT c p (c.1.getD n (0, 0)) then [(c.1.getD n (0, 0)).2] else []) := by
   rw [take_snoc (0, 0) h1, List.filter_append, List.map_append, hall]
   congr 1
   cases hq : impT c p (c.1.getD n (0, 0)) with
   | true => rw [List.filter_cons_of_pos hq, ctt]; rfl
   | false => rw [List.filter_cons_of_neg (by rw [hq]; decide), cff]; rfl
  by_cases q : unZ (c.1.getD n (0, 0)).2 p = 0
  ·rw [cbeq_pos q]
   by_cases q2 : slkF c.1 p c.1.length - c.2 < (c.1.getD n (0, 0)).1
   ·rw [cdec_pos q2, rq_pos (by simp [bound]; omega), rq_i64 (by omega) (by omega)]
    refine ⟨_, rfl, ⟨n + 1, by simp, by omega, by simp; omega, ?_⟩, by (try dsimp only) <;> omega, rfl⟩
    rw [hsn]
    unfold impT
    rw [decide_eq_true q, decide_eq_true q2]
    rfl
   ·rw [cdec_neg q2, rq_i64 (by omega) (by omega)]
    refine ⟨_, rfl, ⟨n + 1, by simp, by omega, by (try dsimp only) <;> omega, ?_⟩, by (try dsimp only) <;> omega, rfl⟩
    rw [hsn]
    unfold impT
    rw [decide_eq_false q2, Bool.and_false, cff, List.append_nil]
  ·rw [cbeq_neg q, rq_i64 (by omega) (by omega)]
   refine ⟨_, rfl, ⟨n + 1, by simp, by omega, by (try dsimp only) <;> omega, ?_⟩, by (try dsimp only) <;> omega, rfl⟩
   rw [hsn]
   unfold impT
   rw [decide_eq_false q, Bool.false_and, cff, List.append_nil]
 ·right
  have : n = c.1.length := by omega
  subst this
  rw [cdec_neg (by omega), hall, List.take_length]
  rfl

theorem impF_mem {c : List (Int × Int) × Int} {p : List Int} {l : Int} (h : l ∈ impF c p) : ∃ i, i < c.1.length ∧ (c.1.getD i (0, 0)).2 = l ∧ unZ l p = 0 ∧ slkF c.1 p c.1.length - c.2 < (c.1.getD i (0, 0)).1 := by
 unfold impF at h
 obtain ⟨t, ht, rfl⟩ := List.mem_map.1 h
 obtain ⟨h1, h2⟩ := List.mem_filter.1 ht
 obtain ⟨i, hi, rfl⟩ := List.mem_iff_getElem.1 h1
 have e : c.1.getD i (0, 0) = c.1[i] := by rw [List.getD_eq_getElem?_getD, List.getElem?_eq_getElem hi]; rfl
 unfold impT at h2
 rw [Bool.and_eq_true, decide_eq_true_eq, decide_eq_true_eq] at h2
 exact ⟨i, hi, by rw [e], h2.1, by rw [e]; exact h2.2⟩

theorem impF_nil {c : List (Int × Int) × Int} {p : List Int} (h : impF c p = []) (h0 : 0 ≤ slkF c.1 p c.1.length - c.2) : fix1 c p := by
 refine ⟨h0, fun i hi hu => ?_⟩
 rcases Int.lt_or_le (slkF c.1 p c.1.length - c.2) (c.1.getD i (0, 0)).1 with q | q
 ·exfalso
  have hm := getD_mem (l := c.1) (i := i) (d := (0, 0)) hi
  have : (c.1.getD i (0, 0)).2 ∈ impF c p := List.mem_map.2 ⟨_, List.mem_filter.2 ⟨hm, by unfold impT; rw [decide_eq_true hu, decide_eq_true q]; rfl⟩, rfl⟩
  rw [h] at this
  exact absurd this List.not_mem_nil
 ·exact q

def setAll (r : List Int) (o : List Int) : List Int := r.foldl (fun o l => setL l o) o

theorem setAll_snoc (r : List Int) (l : Int) (o : List Int) : setAll (r ++ [l]) o = setL l (setAll r o) := by
 unfold setAll
 rw [List.foldl_append]
 rfl

theorem setAll_ok {r : List Int} : ∀ {o : List Int}, (∀ l ∈ r, isLit l = true) → OkP o → OkP (setAll r o) := by
 induction r with
 | nil => intro o _ h; exact h
 | cons l r ih => intro o hl h; exact ih (fun x hx => hl x (List.mem_cons_of_mem _ hx)) (setL_ok (hl l List.mem_cons_self) h).1

theorem vof_neg {l : Int} (h : l < 0) : vof l = 0 - l := by unfold vof; omega
theorem vof_pos {l : Int} (h : ¬ l < 0) : vof l = l := by unfold vof; omega

theorem unZ_zero {l : Int} {p : List Int} (_hl : isLit l = true) : unZ l p = 0 ↔ p.getD (vof l - 1).toNat 0 = 0 := by
 unfold unZ
 by_cases q : l < 0
 ·rw [if_pos q, vof_neg q]
  omega
 ·rw [if_neg q, vof_pos q]

theorem setAll_keep {r : List Int} {p : List Int} : ∀ {o : List Int}, (∀ l ∈ r, isLit l = true ∧ unZ l p = 0) → OkP o → subP p o → subP p (setAll r o) := by
 induction r with
 | nil => intro o _ _ h; exact h
 | cons l r ih =>
  intro o hl ho h
  have h0 := hl l List.mem_cons_self
  obtain ⟨s1, _, _, _, _, s6⟩ := setL_ok h0.1 ho
  refine ih (fun x hx => hl x (List.mem_cons_of_mem _ hx)) s1 (fun j hj => ?_)
  rw [s6, if_neg (fun e => ?_), h j hj]
  have := (unZ_zero h0.1).1 h0.2
  rw [show (vof l - 1).toNat = j by omega] at this
  exact hj this

theorem setAll_below {r : List Int} {q : List Int} : ∀ {o : List Int}, (∀ l ∈ r, isLit l = true ∧ 0 < unZ l q) → OkP o → OkP q → subP o q → subP (setAll r o) q := by
 induction r with
 | nil => intro o _ _ _ h; exact h
 | cons l r ih =>
  intro o hl ho hq h
  have h0 := hl l List.mem_cons_self
  have hlit := isLit_iff.1 h0.1
  obtain ⟨s1, _, _, _, _, s6⟩ := setL_ok h0.1 ho
  refine ih (fun x hx => hl x (List.mem_cons_of_mem _ hx)) s1 hq (fun j hj => ?_)
  rw [s6] at hj ⊢
  by_cases e : (j : Int) + 1 = vof l
  ·rw [if_pos e]
   have h2 := h0.2
   unfold unZ at h2
   have h3 := hq.2 j
   by_cases q1 : 0 < l
   ·rw [if_pos q1]
    rw [if_neg (show ¬ l < 0 by omega)] at h2
    rw [vof_pos (show ¬ l < 0 by omega)] at e
    rw [show (l - 1).toNat = j by omega] at h2
    omega
   ·rw [if_neg q1]
    rw [if_pos (show l < 0 by omega)] at h2
    rw [vof_neg (show l < 0 by omega)] at e
    rw [show (0 - l - 1).toNat = j by omega] at h2
    omega
  ·rw [if_neg e] at hj ⊢
   exact h j hj

theorem prop3_eq {o r : List Int} (hp : OkP o) (hr : r.length ≤ 1048576) (hl : ∀ l ∈ r, isLit l = true) (m : Bool) {i : Int} (hi : 0 ≤ i ∧ i ≤ 2000000) :
  loop (impl_propagate_l3 i r) (m, (0 : Int), o) = some (.inl (m || decide (r ≠ []), i + 1, setAll r o)) := by
 refine loop_fn (f := impl_propagate_l3 i r) (fun s : Bool × Int × List Int => ∃ n : Nat, s.2.1 = n ∧ n ≤ r.length ∧ OkP s.2.2 ∧ s.2.2 = setAll (r.take n) o ∧ s.1 = (m || decide (0 < n))) (fun s => r.length - s.2.1.toNat) (fun _ => (.inl (m || decide (r ≠ []), i + 1, setAll r o))) ?_ _ ⟨0, rfl, Nat.zero_le _, hp, rfl, by simp⟩
 rintro ⟨md, s, x⟩ ⟨n, hs, hn, ho, hx, hm⟩
 dsimp only at hs ho hx hm ⊢
 subst hs
 unfold impl_propagate_l3
 dsimp only
 rcases Nat.lt_or_ge n r.length with h1 | h1
 ·left
  have l1 := hl _ (getD_mem (l := r) (i := n) (d := 0) h1)
  have hlit := isLit_iff.1 l1
  have ho12 := ho.1
  rw [cdec_pos (by omega), rq_pos ⟨by omega, by omega⟩, Int.toNat_natCast]
  refine ⟨(true, (n : Int) + 1, setL (r.getD n 0) x), ?_, ⟨n + 1, by simp, by omega, (setL_ok l1 ho).1, ?_, by simp⟩, by (try dsimp only) <;> omega, rfl⟩
  ·unfold setL
   by_cases q : 0 < r.getD n 0
   ·rw [cdec_pos q, if_pos q, rq_i64 (by omega) (by omega), rq_pos ⟨by omega, by omega⟩, rq_i64 (by omega) (by omega)]
   ·rw [cdec_neg q, if_neg q, rq_i64 (by omega) (by omega), rq_i64 (by omega) (by omega), rq_pos ⟨by omega, by omega⟩, rq_i64 (by omega) (by omega)]
  ·dsimp only
   rw [take_snoc 0 h1, setAll_snoc, ← hx]
 ·right
  have hnn : n = r.length := by omega
  rw [cdec_neg (by omega), rq_i64 (by omega) (by omega), hx, hm, hnn, List.take_length]
  congr 4
  rw [show decide (0 < r.length) = decide (r ≠ []) from decide_eq_decide.2 (by rw [List.length_pos_iff])]

theorem unZ_sub {l : Int} {p q : List Int} (hl : isLit l = true) (h : subP p q) (h0 : unZ l p ≠ 0) : unZ l q = unZ l p := by
 have h1 : p.getD (vof l - 1).toNat 0 ≠ 0 := fun e => h0 ((unZ_zero hl).2 e)
 have h2 := h _ h1
 have h3 := isLit_iff.1 hl
 unfold unZ
 by_cases q1 : l < 0
 ·rw [vof_neg q1] at h2
  rw [if_pos q1, if_pos q1, h2]
 ·rw [vof_pos q1] at h2
  rw [if_neg q1, if_neg q1, h2]

theorem slk_mono {c : List (Int × Int) × Int} {p q : List Int} (hc : conB c = true) (h : subP p q) : ∀ n, n ≤ c.1.length → slkF c.1 q n ≤ slkF c.1 p n ∧ ∀ i, i < n → 0 ≤ unZ (c.1.getD i (0, 0)).2 p → unZ (c.1.getD i (0, 0)).2 q < 0 → slkF c.1 q n + (c.1.getD i (0, 0)).1 ≤ slkF c.1 p n
 | 0, _ => ⟨Int.le_refl _, fun i hi => by omega⟩
 | n + 1, hn => by
  obtain ⟨ih1, ih2⟩ := slk_mono hc h n (by omega)
  obtain ⟨l1, l2, l3⟩ := (con_at hc).2 n (by omega)
  have e : ∀ p, slkF c.1 p (n + 1) = slkF c.1 p n + (if 0 ≤ unZ (c.1.getD n (0, 0)).2 p then (c.1.getD n (0, 0)).1 else 0) := fun _ => rfl
  rw [e p, e q]
  have hs : ¬ 0 ≤ unZ (c.1.getD n (0, 0)).2 p → ¬ 0 ≤ unZ (c.1.getD n (0, 0)).2 q := fun h1 => by
   rw [unZ_sub l1 h (by omega)]
   exact h1
  refine ⟨?_, fun i hi h1 h2 => ?_⟩
  ·by_cases q1 : 0 ≤ unZ (c.1.getD n (0, 0)).2 p
   ·rw [if_pos q1]
    split <;> omega
   ·rw [if_neg q1, if_neg (hs q1)]
    omega
  ·rcases Nat.lt_or_ge i n with h3 | h3
   ·have := ih2 i h3 h1 h2
    by_cases q1 : 0 ≤ unZ (c.1.getD n (0, 0)).2 p
    ·rw [if_pos q1]
     split <;> omega
    ·rw [if_neg q1, if_neg (hs q1)]
     omega
   ·have : i = n := by omega
    subst this
    rw [if_pos h1, if_neg (by omega)]
    omega

theorem imp_below {c : List (Int × Int) × Int} {p q : List Int} (hc : conB c = true) (h : subP p q) (hf : fix1 c q) : 0 ≤ slkF c.1 p c.1.length - c.2 ∧ ∀ l ∈ impF c p, isLit l = true ∧ 0 < unZ l q := by
 obtain ⟨m1, m2⟩ := slk_mono hc h c.1.length (Nat.le_refl _)
 refine ⟨by have := hf.1; omega, fun l hl => ?_⟩
 obtain ⟨i, hi, rfl, hu, hs⟩ := impF_mem hl
 obtain ⟨l1, l2, l3⟩ := (con_at hc).2 i hi
 refine ⟨l1, ?_⟩
 rcases Int.lt_trichotomy (unZ (c.1.getD i (0, 0)).2 q) 0 with q1 | q1 | q1
 ·have := m2 i hi (by omega) q1
  have := hf.1
  omega
 ·have := hf.2 i hi q1
  omega
 ·exact q1

theorem impF_lit {c : List (Int × Int) × Int} {p : List Int} (hc : conB c = true) : ∀ l ∈ impF c p, isLit l = true ∧ unZ l p = 0 := fun l hl => by
 obtain ⟨i, hi, rfl, hu, _⟩ := impF_mem hl
 exact ⟨((con_at hc).2 i hi).1, hu⟩

theorem impF_len {c : List (Int × Int) × Int} {p : List Int} : (impF c p).length ≤ c.1.length := by
 unfold impF
 rw [List.length_map]
 exact List.length_filter_le _ _

theorem prop2_step {L : ProbT} (hL : goodL L) (hl : L.length ≤ 1048576) {md : Bool} {n : Nat} {o : List Int} (ho : OkP o) (hn : n ≤ L.length) :
  impl_propagate_l2 L (md, (n : Int), o) = some (if n < L.length then (if slkF (L.getD n ([], 0)).1 o (L.getD n ([], 0)).1.length - (L.getD n ([], 0)).2 < 0 then .inr (.inr ((n : Int), o)) else .inl (md || decide (impF (L.getD n ([], 0)) o ≠ []), (n : Int) + 1, setAll (impF (L.getD n ([], 0)) o) o)) else .inr (.inl (md, o))) := by
 unfold impl_propagate_l2
 dsimp only
 by_cases h1 : n < L.length
 ·have hmem := getD_mem (l := L) (i := n) (d := ([], 0)) h1
  obtain ⟨g1, g2⟩ := hL _ hmem
  rw [cdec_pos (by omega), rq_pos ⟨by omega, by omega⟩, Int.toNat_natCast, impl_slack_eq g1 g2 ho, bind_s, if_pos h1]
  by_cases q : slkF (L.getD n ([], 0)).1 o (L.getD n ([], 0)).1.length - (L.getD n ([], 0)).2 < 0
  ·rw [cdec_pos q, if_pos q]
  ·rw [cdec_neg q, if_neg q, impl_implied_eq g1 g2 ho, bind_s, prop3_eq ho (Nat.le_trans impF_len g2) (fun l h => (impF_lit g1 l h).1) md ⟨by omega, by omega⟩]
 ·rw [cdec_neg (by omega), if_neg h1]

theorem prop_fix {L : ProbT} {p : List Int} {r : Int × List Int} (hL : goodL L) (hl : L.length ≤ 1048576) (hp : OkP p) (h : impl_propagate L p = some r) (h0 : r.1 < 0) : OkP r.2 ∧ subP p r.2 ∧ fixP L r.2 := by
 unfold impl_propagate at h
 rw [Clone5_eq (by have := hp.1; omega), bind_s] at h
 have key := loop_inv (f := impl_propagate_l1 L) (fun s : Bool × List Int => OkP s.2 ∧ subP p s.2 ∧ (s.1 = false → fixP L s.2)) (fun r => r.1 < 0 → OkP r.2 ∧ subP p r.2 ∧ fixP L r.2) ?_ (s := (true, p)) (r := r) ⟨hp, subP.refl p, fun h => by cases h⟩ h
 ·exact key h0
 rintro ⟨md, o⟩ ⟨ho, hs, hk⟩ a ha
 dsimp only at ho hs hk
 unfold impl_propagate_l1 at ha
 dsimp only at ha
 cases md with
 | false =>
  rw [cff] at ha
  right
  injection ha with ha
  exact ⟨_, ha.symm, fun _ => ⟨ho, hs, hk rfl⟩⟩
 | true =>
  rw [ctt] at ha
  have inner := loop_inv (f := impl_propagate_l2 L) (fun s : Bool × Int × List Int => ∃ n : Nat, s.2.1 = n ∧ n ≤ L.length ∧ OkP s.2.2 ∧ subP o s.2.2 ∧ (s.1 = false → s.2.2 = o ∧ ∀ k, k < n → fix1 (L.getD k ([], 0)) o))
   (fun a => (∃ md out, a = .inl (md, out) ∧ OkP out ∧ subP o out ∧ (md = false → fixP L out)) ∨ (∃ i out, a = .inr (i, out) ∧ 0 ≤ i)) ?_ (s := (false, (0 : Int), o)) (r := a) ⟨0, rfl, Nat.zero_le _, ho, subP.refl o, fun _ => ⟨rfl, fun k hk => by omega⟩⟩ ha
  ·rcases inner with ⟨md, out, rfl, q1, q2, q3⟩ | ⟨i, out, rfl, q1⟩
   ·exact Or.inl ⟨_, rfl, q1, hs.trans q2, q3⟩
   ·exact Or.inr ⟨_, rfl, fun h => absurd h (by (try dsimp only) <;> omega)⟩
  rintro ⟨md, s, x⟩ ⟨n, e, hn, hx, hsx, hkx⟩ a ha
  dsimp only at e hx hsx hkx
  subst e
  rw [prop2_step hL hl hx hn] at ha
  injection ha with ha
  by_cases h1 : n < L.length
  ·rw [if_pos h1] at ha
   have hmem := getD_mem (l := L) (i := n) (d := ([], 0)) h1
   obtain ⟨g1, g2⟩ := hL _ hmem
   by_cases q : slkF (L.getD n ([], 0)).1 x (L.getD n ([], 0)).1.length - (L.getD n ([], 0)).2 < 0
   ·rw [if_pos q] at ha
    exact Or.inr ⟨_, ha.symm, Or.inr ⟨_, _, rfl, by omega⟩⟩
   ·rw [if_neg q] at ha
    refine Or.inl ⟨_, ha.symm, n + 1, by simp, by omega, setAll_ok (fun l h => (impF_lit g1 l h).1) hx, hsx.trans (setAll_keep (impF_lit g1) hx (subP.refl x)), fun hf => ?_⟩
    dsimp only at hf ⊢
    rw [Bool.or_eq_false_iff, decide_eq_false_iff_not, Classical.not_not] at hf
    obtain ⟨k1, k2⟩ := hkx hf.1
    rw [hf.2]
    refine ⟨k1, fun k hk => ?_⟩
    rcases Nat.lt_or_ge k n with h2 | h2
    ·exact k2 k h2
    ·have : k = n := by omega
     subst this
     rw [← k1]
     exact impF_nil hf.2 (by omega)
  ·rw [if_neg h1] at ha
   refine Or.inr ⟨_, ha.symm, Or.inl ⟨_, _, rfl, hx, hsx, fun hf => ?_⟩⟩
   obtain ⟨k1, k2⟩ := hkx hf
   rw [k1]
   intro c hc
   obtain ⟨k, hk, rfl⟩ := List.mem_iff_getElem.1 hc
   have := k2 k (by omega)
   rwa [List.getD_eq_getElem?_getD, List.getElem?_eq_getElem hk] at this

theorem prop_stuck {L : ProbT} {p q : List Int} {r : Int × List Int} (hL : goodL L) (hl : L.length ≤ 1048576) (hp : OkP p) (hq : OkP q) (hf : fixP L q) (hs : subP p q) (h : impl_propagate L p = some r) : r.1 < 0 := by
 unfold impl_propagate at h
 rw [Clone5_eq (by have := hp.1; omega), bind_s] at h
 refine loop_inv (f := impl_propagate_l1 L) (fun s : Bool × List Int => OkP s.2 ∧ subP s.2 q) (fun r => r.1 < 0) ?_ (s := (true, p)) (r := r) ⟨hp, hs⟩ h
 rintro ⟨md, o⟩ ⟨ho, hs⟩ a ha
 dsimp only at ho hs
 unfold impl_propagate_l1 at ha
 dsimp only at ha
 cases md with
 | false =>
  rw [cff] at ha
  right
  injection ha with ha
  exact ⟨_, ha.symm, by show (-1 : Int) < 0; decide⟩
 | true =>
  rw [ctt] at ha
  have inner := loop_inv (f := impl_propagate_l2 L) (fun s : Bool × Int × List Int => ∃ n : Nat, s.2.1 = n ∧ n ≤ L.length ∧ OkP s.2.2 ∧ subP s.2.2 q)
   (fun a => ∃ md out, a = .inl (md, out) ∧ OkP out ∧ subP out q) ?_ (s := (false, (0 : Int), o)) (r := a) ⟨0, rfl, Nat.zero_le _, ho, hs⟩ ha
  ·obtain ⟨md, out, rfl, q1, q2⟩ := inner
   exact Or.inl ⟨_, rfl, q1, q2⟩
  rintro ⟨md, s, x⟩ ⟨n, e, hn, hx, hsx⟩ a ha
  dsimp only at e hx hsx
  subst e
  rw [prop2_step hL hl hx hn] at ha
  injection ha with ha
  by_cases h1 : n < L.length
  ·rw [if_pos h1] at ha
   have hmem := getD_mem (l := L) (i := n) (d := ([], 0)) h1
   obtain ⟨g1, g2⟩ := hL _ hmem
   obtain ⟨i1, i2⟩ := imp_below g1 hsx (hf _ hmem)
   rw [if_neg (by omega)] at ha
   exact Or.inl ⟨_, ha.symm, n + 1, by simp, by omega, setAll_ok (fun l h => (impF_lit g1 l h).1) hx, setAll_below i2 hx hq hsx⟩
  ·rw [if_neg h1] at ha
   exact Or.inr ⟨_, ha.symm, _, _, rfl, hx, hsx⟩

end Go.AE.Y
namespace Go.AE.Y
open Go Go.AE
set_option maxHeartbeats 400000

abbrev SR := Int × Int × List Bool × ProbT × List StepT
def fewT (S : List StepT) : Prop := ∀ s ∈ S, s.2.2.2.1.length ≤ 12
structure SeaOk (L : ProbT) (S : List StepT) (fuel : Int) (L' : ProbT) (S' : List StepT) (f' : Int) : Prop where
 fu : 0 ≤ f' ∧ f' ≤ fuel
 good : goodL L'
 len : L'.length + S.length = L.length + S'.length
 top : S'.length ≤ 1000
 few : fewT S'

theorem SeaOk.trans {L L' L'' : ProbT} {S S' S'' : List StepT} {f f' f'' : Int} (a : SeaOk L S f L' S' f') (b : SeaOk L' S' f' L'' S'' f'') : SeaOk L S f L'' S'' f'' :=
 ⟨⟨b.fu.1, by have := a.fu; have := b.fu; omega⟩, b.good, by have := a.len; have := b.len; omega, b.top, b.few⟩

end Go.AE.Y
namespace Go.AE.Y
open Go Go.AE

theorem first_visit (r : List Int → Int → Bool → ProbT → Option VR) (D : List Int) (f : Int) (m : Bool) (L : ProbT) : impl_searching_visit__R0s_rec r D f m L = impl_searching_visit__Rsd_rec (impl_searching_visit__Rsd 64) D f m L [] := by
 unfold impl_searching_visit__R0s_rec impl_searching_visit__Rsd_rec
 have e1 : impl_searching_visit__R0s_l1 D = fun r4 => impl_searching_visit__Rsd_l1 D r4 (impl_searching_visit__Rsd 64) := rfl
 have e2 : impl_searching_visit__R0s_j1 D f m L = impl_searching_visit__Rsd_j1 D f m L [] (impl_searching_visit__Rsd 64) := by
  unfold impl_searching_visit__R0s_j1 impl_searching_visit__Rsd_j1
  rw [e1]
  rfl
 have e3 : impl_searching_visit__R0s_l2 D f m L = impl_searching_visit__Rsd_l2 D f m L [] (impl_searching_visit__Rsd 64) := by
  unfold impl_searching_visit__R0s_l2 impl_searching_visit__Rsd_l2
  rw [e2]
 rw [e3]
 rfl

theorem CloneC_eq (a : ProbT) (h : a.length ≤ 1048576) : slices_Clone_impl_Constraint a = some a := by
 unfold slices_Clone_impl_Constraint
 refine nt_pos (fun e => by rw [e]) ?_
 rw [rq_pos (by simp only [List.length_nil, bound]; omega), List.nil_append]

end Go.AE.Y
namespace Go.AE.Y
open Go Go.AE
set_option maxHeartbeats 400000

end Go.AE.Y
namespace Go.AE.Y
open Go Go.AE
set_option maxHeartbeats 400000

def learnT (D : List Int) : ProbT := [(onesL (litsF (negL D)), 1)]
def learnS (D : List Int) : List StepT := [((7:Int), ((0:Int), ((0:Int), (onesL (litsF (negL D)), (1 : Int)))))]

theorem learn_clause {D : List Int} (hD : DecOk D) : clauseB (negL D) = (true, 1, onesL (litsF (negL D))) := by
 have hd := dec_len hD
 unfold clauseB
 rw [dec_neg hD, decide_eq_true (show (negL D).length ≤ 40 by unfold negL; rw [List.length_map]; omega)]
 rfl

theorem fail_eq {D : List Int} {L : ProbT} {S : List StepT} (hD : DecOk D) (hl : L.length ≤ 2000) (hS : S.length < 1000) (f : Int) (m : Bool) :
  impl_searching_fail__Rsd D f m L S = some (L ++ learnT D, S ++ learnS D) := by
 have hd := dec_len hD
 have hlf := litsF_len (negL D)
 have hol : (onesL (litsF (negL D))).length ≤ 12 := by unfold onesL; rw [List.length_map]; exact hlf
 unfold impl_searching_fail__Rsd
 refine (loop_push_map (f := impl_searching_fail__Rsd_l1 D L S) D 0 (fun x => 0 - x) [] (fun _ => (L ++ learnT D, S ++ learnS D)) (fun i out hi ho => ?_) ?_)
 ·have := isLit_iff.1 (hD.1 _ (getD_mem (l := D) (i := i) (d := 0) hi))
  unfold impl_searching_fail__Rsd_l1
  dsimp only
  rw [cdec_pos (by omega), rq_pos ⟨by omega, by omega⟩, Int.toNat_natCast, rq_i64 (by omega) (by omega), rq_pos (by simp only [bound, List.length_cons, List.length_nil]; simp at ho; omega), rq_i64 (by omega) (by omega)]
 ·unfold impl_searching_fail__Rsd_l1 impl_searching_fail__Rsd_j1 impl_searching_fail__Rsd_j2
  dsimp only
  rw [cdec_neg (by omega), List.nil_append, show D.map (fun x => 0 - x) = negL D from rfl, impl_ClauseOf_eq _ (by unfold negL; rw [List.length_map]; omega), bind_s, learn_clause hD]
  dsimp only
  rw [rq_pos (by simp [bound]; omega), own_eq _ (by (try dsimp only) <;> omega), bind_s, rq_pos (by simp [bound]; omega)]
  rfl

end Go.AE.Y
namespace Go.AE.Y
open Go Go.AE
set_option maxHeartbeats 400000

def totC (c : List (Int × Int) × Int) : Int := (c.1.map (fun t => t.1)).sum
def negC (c : List (Int × Int) × Int) : List (Int × Int) × Int := (c.1.map (fun t => (t.1, 0 - t.2)), max 0 (totC c - c.2 + 1))
def noEnd (L : ProbT) : Prop := ∀ q, OkP q → ¬ fixP L q
def learnC (D : List Int) : List (Int × Int) × Int := (onesL (litsF (negL D)), 1)
def rupS (c : List (Int × Int) × Int) : StepT := (7, (0, (0, c)))

theorem learnC_con {D : List Int} (hD : DecOk D) : conB (learnC D) = true := conB_ones (fun x hx => (litsOk_all (dec_neg hD)).1 x ((litsF_mem (dec_neg hD) x).1 hx)) (litsF_asc (dec_neg hD))
theorem learnC_len (D : List Int) : (learnC D).1.length ≤ 12 := by
 show (onesL (litsF (negL D))).length ≤ 12
 unfold onesL
 rw [List.length_map]
 exact litsF_len (negL D)

theorem ones_slk (q : List Int) (ls : List Int) : ∀ n, n ≤ ls.length → slkF (onesL ls) q n = ((ls.take n).countP (fun l => decide (0 ≤ unZ l q)) : Nat)
 | 0, _ => rfl
 | n + 1, hn => by
  have e : slkF (onesL ls) q (n + 1) = slkF (onesL ls) q n + (if 0 ≤ unZ ((onesL ls).getD n (0, 0)).2 q then ((onesL ls).getD n (0, 0)).1 else 0) := rfl
  rw [e, ones_slk q ls n (by omega), ones_get (by omega), take_snoc 0 (by omega), List.countP_append]
  dsimp only
  by_cases h : 0 ≤ unZ (ls.getD n 0) q
  ·rw [if_pos h, List.countP_singleton, if_pos (decide_eq_true h)]
   omega
  ·rw [if_neg h, List.countP_singleton, if_neg (by rw [decide_eq_true_eq]; exact h)]
   omega

theorem ones_len (ls : List Int) : (onesL ls).length = ls.length := List.length_map ..

theorem all_true {ls q : List Int} (h : fix1 (onesL ls, (ls.length : Int)) q) : ∀ l ∈ ls, 0 < unZ l q := by
 obtain ⟨h1, h2⟩ := h
 dsimp only at h1 h2
 rw [ones_len, ones_slk q ls ls.length (Nat.le_refl _), List.take_length] at h1 h2
 have hle := List.countP_le_length (p := fun l => decide (0 ≤ unZ l q)) (l := ls)
 have hall : ∀ l ∈ ls, 0 ≤ unZ l q := fun l hl => by
  have := List.countP_eq_length.1 (show ls.countP (fun l => decide (0 ≤ unZ l q)) = ls.length by omega) l hl
  exact of_decide_eq_true this
 intro l hl
 obtain ⟨i, hi, rfl⟩ := List.mem_iff_getElem.1 hl
 have e : ls.getD i 0 = ls[i] := by rw [List.getD_eq_getElem?_getD, List.getElem?_eq_getElem hi]; rfl
 have := hall _ hl
 rcases Int.lt_or_eq_of_le this with q1 | q1
 ·exact q1
 ·have := h2 i hi (by rw [ones_get hi, e]; exact q1.symm)
  rw [ones_get hi] at this
  dsimp only at this
  omega

theorem clause_true {ls q : List Int} {x : Int} (hn : ls.Pairwise (fun x y => vof x < vof y)) (h : fix1 (onesL ls, 1) q) (hx : ∀ l ∈ ls, l ≠ x → unZ l q < 0) : 0 < unZ x q := by
 obtain ⟨h1, h2⟩ := h
 dsimp only at h1 h2
 rw [ones_len, ones_slk q ls ls.length (Nat.le_refl _), List.take_length] at h1 h2
 have hnd : ls.Nodup := hn.imp (fun {a b} hab e => by rw [e] at hab; omega)
 have hle : ls.countP (fun l => decide (0 ≤ unZ l q)) ≤ ls.count x := List.countP_mono_left (fun l hl hp => by
  have hp := of_decide_eq_true hp
  by_cases e : l = x
  ·rw [e]; exact beq_self_eq_true x
  ·have := hx l hl e
   omega)
 have h3 := List.nodup_iff_count.1 hnd x
 have hpos : 0 < ls.countP (fun l => decide (0 ≤ unZ l q)) := by omega
 obtain ⟨l, hl, hp⟩ := List.countP_pos_iff.1 hpos
 have hp := of_decide_eq_true hp
 have hlx : l = x := by
  by_cases e : l = x
  ·exact e
  ·have := hx l hl e
   omega
 subst hlx
 obtain ⟨i, hi, rfl⟩ := List.mem_iff_getElem.1 hl
 have e : ls.getD i 0 = ls[i] := by rw [List.getD_eq_getElem?_getD, List.getElem?_eq_getElem hi]; rfl
 rcases Int.lt_or_eq_of_le hp with q1 | q1
 ·exact q1
 ·have := h2 i hi (by rw [ones_get hi, e]; exact q1.symm)
  rw [ones_get hi] at this
  dsimp only at this
  omega

theorem unZ_neg {l : Int} {q : List Int} (h : l ≠ 0) : unZ (0 - l) q = 0 - unZ l q := by
 unfold unZ
 by_cases h1 : l < 0
 ·rw [if_pos h1, if_neg (show ¬ 0 - l < 0 by omega)]
  omega
 ·rw [if_neg h1, if_pos (show 0 - l < 0 by omega), show (0 - (0 - l) - 1 : Int) = l - 1 by omega]

theorem sum_ones1 (ls : List Int) : totC (onesL ls, 1) = ls.length := by
 unfold totC onesL
 induction ls with
 | nil => rfl
 | cons x ls ih =>
  dsimp only at ih ⊢
  rw [List.map_cons, List.map_cons, List.sum_cons, ih, List.length_cons]
  omega

theorem negC_learn (D : List Int) : negC (learnC D) = (onesL ((litsF (negL D)).map (fun l => 0 - l)), (((litsF (negL D)).map (fun l => 0 - l)).length : Int)) := by
 have h := sum_ones1 (litsF (negL D))
 unfold negC learnC
 rw [h]
 dsimp only
 rw [List.length_map]
 have e1 : (onesL (litsF (negL D))).map (fun t => (t.1, 0 - t.2)) = onesL ((litsF (negL D)).map (fun l => 0 - l)) := by
  unfold onesL
  rw [List.map_map, List.map_map]
  rfl
 rw [e1, show max (0 : Int) ((litsF (negL D)).length - 1 + 1) = ((litsF (negL D)).length : Int) by omega]

theorem neg_true {D q : List Int} (hD : DecOk D) (h : fix1 (negC (learnC D)) q) : ∀ d ∈ D, 0 < unZ d q := by
 rw [negC_learn] at h
 intro d hd
 have h1 := all_true h
 refine h1 d (List.mem_map.2 ⟨0 - d, (litsF_mem (dec_neg hD) _).2 (List.mem_map.2 ⟨d, hd, rfl⟩), by omega⟩)

theorem learn_true {D q : List Int} {l : Int} (hD : DecOk (D ++ [l])) (h : fix1 (learnC (D ++ [l])) q) (hd : ∀ d ∈ D, 0 < unZ d q) : 0 < unZ (0 - l) q := by
 refine clause_true (litsF_asc (dec_neg hD)) h (fun x hx hne => ?_)
 have hm := (litsF_mem (dec_neg hD) x).1 hx
 obtain ⟨d, hdm, rfl⟩ := List.mem_map.1 hm
 have hlit := isLit_iff.1 (hD.1 d hdm)
 rcases List.mem_append.1 hdm with h1 | h1
 ·have := hd d h1
  rw [unZ_neg hlit.1]
  omega
 ·rw [List.mem_singleton] at h1
  rw [h1] at hne
  exact absurd rfl hne

theorem end_split {D : List Int} {L : ProbT} {v : Int} (hD : DecOk D) (hv : DecOk (D ++ [v]) ∧ DecOk (D ++ [0 - v])) (h1 : learnC (D ++ [v]) ∈ L) (h2 : learnC (D ++ [0 - v]) ∈ L) : noEnd (L ++ [negC (learnC D)]) := fun q hq hf => by
 have hd := neg_true hD (hf _ (List.mem_append_right _ List.mem_cons_self))
 have hl := isLit_iff.1 (hv.1.1 v (List.mem_append_right _ List.mem_cons_self))
 have a := learn_true hv.1 (hf _ (List.mem_append_left _ h1)) hd
 have b := learn_true hv.2 (hf _ (List.mem_append_left _ h2)) hd
 rw [show (0 - (0 - v) : Int) = v by omega] at b
 rw [unZ_neg hl.1] at a
 omega

theorem asg_below {D q : List Int} (hD : DecOk D) (hq : OkP q) (h : ∀ d ∈ D, 0 < unZ d q) : ∀ n, n ≤ D.length → subP (asgF D n) q
 | 0, _ => fun j hj => absurd (rep12 j) hj
 | n + 1, hn => by
  have hm := getD_mem (l := D) (i := n) (d := 0) (by omega)
  exact setAll_below (r := [D.getD n 0]) (fun l hl => by rw [List.mem_singleton] at hl; rw [hl]; exact ⟨hD.1 _ hm, h _ hm⟩) (asg_ok hD n (by omega)).1 hq (asg_below hD hq h n (by omega))

theorem end_conflict {D : List Int} {L : ProbT} {i : Int} {out : List Int} (hD : DecOk D) (hL : goodL L) (hl : L.length ≤ 1048576) (he : impl_propagate L (asgF D D.length) = some (i, out)) (hi : 0 ≤ i) : noEnd (L ++ [negC (learnC D)]) := fun q hq hf => by
 have hd := neg_true hD (hf _ (List.mem_append_right _ List.mem_cons_self))
 have := prop_stuck hL hl (asg_ok hD D.length (Nat.le_refl _)).1 hq (fun c hc => hf c (List.mem_append_left _ hc)) (asg_below hD hq hd D.length (Nat.le_refl _)) he
 dsimp only at this
 omega

inductive RupExt (L : ProbT) (S : List StepT) : ProbT → List StepT → Prop where
 | refl : RupExt L S L S
 | snoc {L' : ProbT} {S' : List StepT} {c : List (Int × Int) × Int} : RupExt L S L' S' → conB c = true → c.1.length ≤ 12 → noEnd (L' ++ [negC c]) → RupExt L S (L' ++ [c]) (S' ++ [rupS c])

theorem RupExt.trans {L L' L'' : ProbT} {S S' S'' : List StepT} (a : RupExt L S L' S') (b : RupExt L' S' L'' S'') : RupExt L S L'' S'' := by
 induction b with
 | refl => exact a
 | snoc _ h1 h2 h3 ih => exact ih.snoc h1 h2 h3

theorem RupExt.sub {L L' : ProbT} {S S' : List StepT} (a : RupExt L S L' S') : ∀ c ∈ L, c ∈ L' := by
 induction a with
 | refl => exact fun c h => h
 | snoc _ _ _ _ ih => exact fun c h => List.mem_append_left _ (ih c h)

def VisRup (D : List Int) (L : ProbT) (S : List StepT) (r : VR) : Prop := RupExt L S r.2.2.2.2.1 r.2.2.2.2.2 ∧ (r.1 = false → r.2.2.1 = false → learnC D ∈ r.2.2.2.2.1)

theorem visit_chain {D : List Int} {L : ProbT} {S : List StepT} {fuel : Int} {rec_ : List Int → Int → Bool → ProbT → List StepT → Option VR}
  (hrec : ∀ (l : Int) (L' : ProbT) (S' : List StepT) (f' : Int), DecOk (D ++ [l]) → goodL L' → L'.length ≤ 400 + S'.length → S'.length ≤ 1000 → (0 ≤ f' ∧ f' ≤ 2000) → ∃ r, rec_ (D ++ [l]) f' false L' S' = some r ∧ VisOk (D ++ [l]) L' S' f' r ∧ VisRup (D ++ [l]) L' S' r)
  (hD : DecOk D) (hL : goodL L) (hl : L.length ≤ 400 + S.length) (hS : S.length ≤ 1000) (hf : 0 ≤ fuel ∧ fuel ≤ 2000) : ∃ r, impl_searching_visit__Rsd_rec rec_ D fuel false L S = some r ∧ VisOk D L S fuel r ∧ VisRup D L S r := by
 have hd := dec_len hD
 have much : VisOk D L S fuel (false, fuel, true, ([] : List Bool), L, S) := ⟨⟨hf.1, Int.le_refl _⟩, Ext.refl hL hS, fun h => (by cases h), fun _ h => (by cases h)⟩
 have muchR : VisRup D L S (false, fuel, true, ([] : List Bool), L, S) := ⟨RupExt.refl, fun _ h => (by cases h)⟩
 unfold impl_searching_visit__Rsd_rec
 by_cases q1 : fuel = 0
 ·exact ⟨_, by rw [cbeq_pos q1], much, muchR⟩
 rw [cbeq_neg q1]
 by_cases q2 : 1000 ≤ (S.length : Int)
 ·exact ⟨_, by rw [cdec_pos q2], much, muchR⟩
 rw [cdec_neg q2, rq_i64 (by omega) (by omega), rq_pos ⟨by omega, by simp only [bound]; omega, rfl⟩]
 obtain ⟨p1, p2, p3, p4, p5⟩ := asg_ok hD D.length (Nat.le_refl _)

 have tail : ∃ r, impl_searching_visit__Rsd_j1 D fuel false L S rec_ (asgF D D.length) = some r ∧ VisOk D L S fuel r ∧ VisRup D L S r := by
  unfold impl_searching_visit__Rsd_j1
  obtain ⟨⟨i, out⟩, e1, ⟨t1, t2, t3⟩, hc⟩ := impl_propagate_ex hL (by omega) p1
  dsimp only at t1 t2 t3 hc
  rw [e1, bind_s]
  dsimp only
  have failed : ∀ (f : Int) (L' : ProbT) (S' : List StepT), (0 ≤ f ∧ f ≤ fuel) → Ext L S L' S' → S'.length < 1000 → (∀ v, satL L v → ¬ agD D v) → RupExt L S L' S' → noEnd (L' ++ [negC (learnC D)]) → ∃ r, impl_searching_visit__Rsd_j2 D (f, false, L', S') = some r ∧ VisOk D L S fuel r ∧ VisRup D L S r := fun f L' S' hf' hx hs' hno hru hne => by
   obtain ⟨⟨L2, S2⟩, e, hx2⟩ := fail_ok hD hx.good (by have := hx.len; omega) hs' (fun v hv => hno v (hx.back v hv)) f false
   have e0 := fail_eq hD (by have := hx.len; omega) hs' f false (L := L')
   rw [e] at e0
   injection e0 with e0
   injection e0 with e1 e2
   unfold impl_searching_visit__Rsd_j2
   dsimp only
   rw [e, bind_s]
   refine ⟨_, rfl, ⟨hf', hx.trans hx2, fun h => (by cases h), fun _ _ => hno⟩, ?_⟩
   rw [e1, e2]
   exact ⟨hru.snoc (learnC_con hD) (learnC_len D) hne, fun _ _ => List.mem_append_right _ List.mem_cons_self⟩
  rcases hc with ⟨rfl, hk⟩ | ⟨h0, hk⟩
  ·rw [cdec_pos (by omega)]
   obtain ⟨r4, e4, h | h⟩ := impl_valuesOf_ex t1
   ·obtain ⟨rfl, ht⟩ := h
    rw [e4, bind_s]
    dsimp only
    rw [ctt]
    refine ⟨_, rfl, ⟨⟨by (try dsimp only) <;> omega, by (try dsimp only) <;> omega⟩, Ext.refl hL hS, fun _ => ⟨by show (out.map _).length = 12; rw [List.length_map]; exact t1.1, fun c hcm => ?_⟩, fun h => (by cases h)⟩, ⟨RupExt.refl, fun h => (by cases h)⟩⟩
    have ha : agP out (out.map (fun n => decide (0 < n))) := fun j hne => by
     rcases Nat.lt_or_ge j out.length with h1 | h1
     ·rw [List.getD_eq_getElem?_getD, List.getElem?_map, List.getElem?_eq_getElem h1, List.getD_eq_getElem?_getD, List.getElem?_eq_getElem h1]
      rfl
     ·rw [List.getD_eq_getElem?_getD, List.getElem?_eq_none h1] at hne
      exact absurd rfl hne
    exact slk_total (hL c hcm).1 t1 ha ht (hk c hcm)
   ·obtain ⟨k, hk12, hk0, rfl⟩ := h
    rw [e4, bind_s]
    dsimp only
    rw [cff, rq_i64 (by omega) (by omega)]
    have hvar : ∀ l : Int, vof l = (k : Int) + 1 → ∀ i, i < D.length → vof (D.getD i 0) ≠ vof l := fun l hl i hi => by
     rw [hl]
     exact p3 k (t3 k hk0) i hi
    refine loop_ex (f := impl_searching_visit__Rsd_l1 D ((k : Int) + 1, false, []) rec_) (fun s : Int × Int × Bool × ProbT × List StepT => ∃ n : Nat, s.1 = n ∧ n ≤ 2 ∧ (0 ≤ s.2.1 ∧ s.2.1 ≤ fuel) ∧ s.2.2.1 = false ∧ Ext L S s.2.2.2.1 s.2.2.2.2 ∧ (1 ≤ n → ∀ v, satL L v → agD D v → litB v ((k : Int) + 1) = false) ∧ (2 ≤ n → ∀ v, satL L v → agD D v → litB v (0 - ((k : Int) + 1)) = false) ∧ RupExt L S s.2.2.2.1 s.2.2.2.2 ∧ (1 ≤ n → learnC (D ++ [((k : Int) + 1)]) ∈ s.2.2.2.1) ∧ (2 ≤ n → learnC (D ++ [0 - ((k : Int) + 1)]) ∈ s.2.2.2.1)) (fun s => 2 - s.1.toNat) (fun r => VisOk D L S fuel r ∧ VisRup D L S r) ?_ _ ⟨0, rfl, by omega, ⟨by (try dsimp only) <;> omega, by (try dsimp only) <;> omega⟩, rfl, Ext.refl hL hS, fun h => by omega, fun h => by omega, RupExt.refl, fun h => by omega, fun h => by omega⟩
    rintro ⟨s, f, m, L', S'⟩ ⟨n, hs, hn, hf', hm, hx, g1, g2, hru, u1, u2⟩
    dsimp only at hs hf' hm hx g1 g2 hru u1 u2 ⊢
    subst hs
    subst hm
    unfold impl_searching_visit__Rsd_l1
    dsimp only
    rcases Nat.lt_or_ge n 2 with h1 | h1
    ·have hlit : ∃ l, [((k : Int) + 1), (0 - ((k : Int) + 1))].getD n 0 = l ∧ vof l = (k : Int) + 1 ∧ isLit l = true ∧ ((n = 0 ∧ l = (k : Int) + 1) ∨ (n = 1 ∧ l = 0 - ((k : Int) + 1))) := by
      have : n = 0 ∨ n = 1 := by omega
      rcases this with rfl | rfl
      ·exact ⟨(k : Int) + 1, rfl, by unfold vof; omega, isLit_iff.2 ⟨by omega, by omega, by omega⟩, Or.inl ⟨rfl, rfl⟩⟩
      ·exact ⟨0 - ((k : Int) + 1), rfl, by unfold vof; omega, isLit_iff.2 ⟨by omega, by omega, by omega⟩, Or.inr ⟨rfl, rfl⟩⟩
     obtain ⟨l, el, hv, hli, hnl⟩ := hlit
     have hlen := hx.len
     have htop := hx.top
     obtain ⟨r8, e8, ⟨f1, x1, sa1, no1⟩, ⟨v1, v2⟩⟩ := hrec l L' S' f (dec_snoc hD hli (hvar l hv)) hx.good (by omega) htop ⟨by omega, by omega⟩
     rw [cdec_pos (by simp; omega), rq_pos ⟨by omega, by simp; omega⟩, Int.toNat_natCast, el, Clone5_eq (by omega), bind_s, rq_pos (by simp [bound]; omega), e8, bind_s]
     cases hok : r8.1 with
     | true =>
      right
      rw [ctt]
      refine ⟨_, rfl, ⟨⟨by (try dsimp only) <;> omega, by (try dsimp only) <;> omega⟩, hx.trans x1, fun _ => ⟨(sa1 hok).1, fun c hcm => ?_⟩, fun h => (by cases h)⟩, ⟨hru.trans v1, fun h => (by cases h)⟩⟩
      exact hx.back _ (sa1 hok).2 c hcm
     | false =>
      rw [cff]
      cases hmu : r8.2.2.1 with
      | true =>
       right
       rw [ctt]
       exact ⟨_, rfl, ⟨⟨by (try dsimp only) <;> omega, by (try dsimp only) <;> omega⟩, hx.trans x1, fun h => (by cases h), fun _ h => (by cases h)⟩, ⟨hru.trans v1, fun _ h => (by cases h)⟩⟩
      | false =>
       left
       have hno : ∀ v, satL L v → agD D v → litB v l = false := fun v h1 h2 => by
        cases hb : litB v l with
        | false => rfl
        | true =>
         exfalso
         refine no1 hok hmu v (hx.sound v h1) (fun x hxm => ?_)
         rcases List.mem_append.1 hxm with h | h
         ·exact h2 x h
         ·rw [List.mem_singleton] at h; rw [h]; exact hb
       rw [cff, rq_i64 (by omega) (by omega)]
       refine ⟨_, rfl, ⟨n + 1, by simp, by omega, ⟨by (try dsimp only) <;> omega, by (try dsimp only) <;> omega⟩, rfl, hx.trans x1, fun _ => ?_, fun h2 => ?_, hru.trans v1, fun _ => ?_, fun h2 => ?_⟩, by (try dsimp only) <;> omega⟩
       ·rcases hnl with ⟨rfl, rfl⟩ | ⟨rfl, rfl⟩
        ·exact hno
        ·exact g1 (by omega)
       ·rcases hnl with ⟨rfl, rfl⟩ | ⟨rfl, rfl⟩
        ·omega
        ·exact hno
       ·rcases hnl with ⟨rfl, rfl⟩ | ⟨rfl, rfl⟩
        ·exact v2 hok hmu
        ·exact v1.sub _ (u1 (by omega))
       ·rcases hnl with ⟨rfl, rfl⟩ | ⟨rfl, rfl⟩
        ·omega
        ·exact v2 hok hmu
    ·right
     have hn2 : n = 2 := by omega
     rw [cdec_neg (by simp; omega)]
     unfold impl_searching_visit__Rsd_j3
     dsimp only
     have hno : ∀ v, satL L v → ¬ agD D v := fun v h1 h2 => by
      have a1 := g1 (by omega) v h1 h2
      have a2 := g2 (by omega) v h1 h2
      rw [litB_flip (by omega), a1] at a2
      cases a2
     by_cases q3 : 1000 ≤ (S'.length : Int)
     ·rw [cdec_pos q3]
      exact ⟨_, rfl, ⟨⟨by (try dsimp only) <;> omega, by (try dsimp only) <;> omega⟩, hx, fun h => (by cases h), fun _ h => (by cases h)⟩, ⟨hru, fun _ h => (by cases h)⟩⟩
     ·rw [cdec_neg q3]
      obtain ⟨r, e, hr⟩ := failed f L' S' hf' hx (by omega) hno hru (end_split hD ⟨dec_snoc hD (isLit_iff.2 ⟨by omega, by omega, by omega⟩) (hvar _ (by unfold vof; omega)), dec_snoc hD (isLit_iff.2 ⟨by omega, by omega, by omega⟩) (hvar _ (by unfold vof; omega))⟩ (u1 (by omega)) (u2 (by omega)))
      rw [e]
      exact ⟨_, rfl, hr⟩
  ·rw [cdec_neg (by omega)]
   exact failed _ L S ⟨by omega, by omega⟩ (Ext.refl hL hS) (by omega) (fun v h1 h2 => hk v (p2 v h2) h1) (RupExt.refl) (end_conflict hD hL (by omega) e1 (by (try dsimp only) <;> omega))
 obtain ⟨r, er, hr⟩ := tail
 refine ⟨r, ?_, hr⟩
 refine loop_fn (f := impl_searching_visit__Rsd_l2 D fuel false L S rec_) (fun s : Int × List Int => ∃ n : Nat, s.1 = n ∧ n ≤ D.length ∧ s.2 = asgF D n) (fun s => D.length - s.1.toNat) (fun _ => r) ?_ _ ⟨0, rfl, Nat.zero_le _, rfl⟩
 rintro ⟨s, o⟩ ⟨n, hs, hn, ho⟩
 dsimp only at hs ho ⊢
 subst hs
 subst ho
 unfold impl_searching_visit__Rsd_l2
 dsimp only
 rcases Nat.lt_or_ge n D.length with h1 | h1
 ·left
  have hlit := isLit_iff.1 (hD.1 _ (getD_mem (l := D) (i := n) (d := 0) h1))
  have h12 := (asg_ok hD n hn).1.1
  have hvv : vof (D.getD n 0) = if 0 < D.getD n 0 then D.getD n 0 else 0 - D.getD n 0 := by unfold vof; split <;> omega
  refine ⟨((n : Int) + 1, asgF D (n + 1)), ?_, ⟨n + 1, by simp, by omega, rfl⟩, by (try dsimp only) <;> omega, rfl⟩
  rw [cdec_pos (by omega), rq_pos ⟨by omega, by omega⟩, Int.toNat_natCast, impl_variableOf_eq (by omega), bind_s]
  have e : asgF D (n + 1) = setL (D.getD n 0) (asgF D n) := rfl
  rw [e]
  unfold setL
  by_cases q : 0 < D.getD n 0
  ·rw [if_pos q] at hvv
   rw [hvv, if_pos q, rq_i64 (by omega) (by omega), rq_pos ⟨by omega, by omega⟩, cdec_neg (by omega), rq_i64 (by omega) (by omega)]
  ·rw [if_neg q] at hvv
   rw [hvv, if_neg q, rq_i64 (by omega) (by omega), rq_pos ⟨by omega, by omega⟩, cdec_pos (by omega), rq_i64 (by omega) (by omega), rq_i64 (by omega) (by omega), rq_pos ⟨by omega, by rw [List.length_set]; omega⟩, rq_i64 (by omega) (by omega), List.set_set]
 ·right
  have : n = D.length := by omega
  subst this
  rw [cdec_neg (by omega), er]
  rfl

theorem visit_rup : ∀ (n : Nat) (D : List Int) (L : ProbT) (S : List StepT) (fuel : Int), DecOk D → goodL L → L.length ≤ 400 + S.length → S.length ≤ 1000 → (0 ≤ fuel ∧ fuel ≤ 2000) → 13 ≤ n + D.length → ∃ r, impl_searching_visit__Rsd n D fuel false L S = some r ∧ VisOk D L S fuel r ∧ VisRup D L S r
 | 0, D, L, S, fuel, hD, _, _, _, _, hn => by have := dec_len hD; omega
 | n + 1, D, L, S, fuel, hD, hL, hl, hS, hf, hn => by
  show ∃ r, impl_searching_visit__Rsd_rec (impl_searching_visit__Rsd n) D fuel false L S = some r ∧ _
  exact visit_chain (fun l L' S' f' h1 h2 h3 h4 h5 => visit_rup n (D ++ [l]) L' S' f' h1 h2 h3 h4 h5 (by rw [List.length_append, List.length_singleton]; omega)) hD hL hl hS hf

end Go.AE.Y
namespace Go.AE.Y
open Go Go.AE
set_option maxHeartbeats 400000

theorem neg_sum {v : List Bool} : ∀ l : List (Int × Int), (∀ t ∈ l, t.2 ≠ 0) → sumB v (l.map (fun t => (t.1, 0 - t.2))) + sumB v l = (l.map (fun t => t.1)).sum
 | [], _ => rfl
 | t :: l, h => by
  have ih := neg_sum (v := v) l (fun x hx => h x (List.mem_cons_of_mem _ hx))
  have h0 := h t List.mem_cons_self
  rw [List.map_cons, List.map_cons, List.sum_cons, sumB_cons, sumB_cons]
  dsimp only
  rw [litB_flip h0]
  cases litB v t.2 with
  | true => rw [ctt, Bool.not_true, cff]; omega
  | false => rw [cff, Bool.not_false, ctt]; omega

theorem con_nz {c : ConT} (h : conB c = true) : ∀ t ∈ c.1, t.2 ≠ 0 := fun t ht => (isLit_iff.1 (conB_ok h t ht).1.2).1

theorem neg_eval {c : ConT} {v : List Bool} (h : conB c = true) : evalB v (negC c) = !evalB v c := by
 have h1 := neg_sum (v := v) c.1 (con_nz h)
 have h2 : 0 ≤ sumB v (c.1.map (fun t => (t.1, 0 - t.2))) := sumB_nonneg (fun t ht => by
  obtain ⟨x, hx, rfl⟩ := List.mem_map.1 ht
  exact (conB_ok h x hx).2)
 unfold evalB negC totC
 dsimp only
 rw [Bool.eq_iff_iff, Bool.not_eq_true', decide_eq_true_eq, decide_eq_false_iff_not]
 omega

theorem sum_tot {c : ConT} (h : conB c = true) : 0 ≤ totC c ∧ totC c ≤ 1000 * c.1.length := by
 have key : ∀ l : List (Int × Int), (∀ t ∈ l, okS t ∧ 1 ≤ t.1) → 0 ≤ (l.map (fun t => t.1)).sum ∧ (l.map (fun t => t.1)).sum ≤ 1000 * l.length := by
  intro l
  induction l with
  | nil => intro _; exact ⟨Int.le_refl _, Int.le_refl _⟩
  | cons t l ih =>
   intro ht
   obtain ⟨h1, h2⟩ := ih (fun x hx => ht x (List.mem_cons_of_mem _ hx))
   obtain ⟨⟨h3, _⟩, h4⟩ := ht t List.mem_cons_self
   rw [List.map_cons, List.sum_cons, List.length_cons]
   omega
 exact key c.1 (conB_ok h)

theorem con_12 {c : ConT} (h : conB c = true) : c.1.length ≤ 12 := by
 have hc := h
 unfold conB at h
 simp only [Bool.and_eq_true, decide_eq_true_eq, List.all_eq_true, List.mem_range] at h
 have key : ∀ i, i < c.1.length → (i : Int) + 1 ≤ vof (c.1.getD i (0, 0)).2 := by
  intro i
  induction i with
  | zero =>
   intro hi
   have := vof_lit ((con_at hc).2 0 hi).1
   omega
  | succ i ih =>
   intro hi
   have h1 := ih (by omega)
   have h2 := h.1 (i + 1) hi
   unfold termAt at h2
   simp only [Bool.and_eq_true, Bool.or_eq_true, decide_eq_true_eq, beq_iff_eq, Nat.add_sub_cancel] at h2
   have h3 := h2.2.2
   omega
 rcases Nat.lt_or_ge 12 c.1.length with q | q
 ·have h1 := key 12 q
  have h2 := vof_lit ((con_at hc).2 12 q).1
  omega
 ·exact q

theorem neg_con {c : ConT} (h : conB c = true) : conB (negC c) = true := by
 have ht := sum_tot h
 have h12 := con_12 h
 have hb := (con_at h).1
 unfold conB at h ⊢
 simp only [Bool.and_eq_true, decide_eq_true_eq, List.all_eq_true, List.mem_range] at h ⊢
 refine ⟨fun i hi => ?_, by show 0 ≤ max 0 (totC c - c.2 + 1); omega, by show max 0 (totC c - c.2 + 1) ≤ 20000; omega⟩
 have hi' : i < c.1.length := by
  have : (negC c).1.length = c.1.length := List.length_map ..
  omega
 have e : ∀ j, j < c.1.length → (negC c).1.getD j (0, 0) = ((c.1.getD j (0, 0)).1, 0 - (c.1.getD j (0, 0)).2) := fun j hj => getD_map c.1 (fun t => (t.1, 0 - t.2)) j (0, 0) (0, 0) hj
 have h1 := h.1 i hi'
 unfold termAt at h1 ⊢
 rw [e i hi']
 have hv : ∀ x : Int, vof (0 - x) = vof x := fun x => by unfold vof; omega
 have hl : ∀ x : Int, isLit (0 - x) = isLit x := fun x => by
  rw [Bool.eq_iff_iff, isLit_iff, isLit_iff]
  omega
 simp only [hv, hl]
 by_cases q : i = 0
 ·subst q
  exact h1
 ·rw [e (i - 1) (by omega)]
  simp only [hv]
  exact h1

def zero12 : List Int := List.replicate 12 0
theorem zero_ok : OkP zero12 := ⟨rfl, fun j => Or.inl (rep12 j)⟩

noncomputable def rupB (L : ProbT) (c : ConT) : Bool := decide (0 ≤ ((impl_propagate (L ++ [negC c]) zero12).getD (-1, [])).1)

theorem good_neg {L : ProbT} {c : ConT} (hL : goodL L) (hc : conB c = true) : goodL (L ++ [negC c]) := fun x hx => by
 rcases List.mem_append.1 hx with h | h
 ·exact hL x h
 ·rw [List.mem_singleton] at h
  rw [h]
  have h12 := con_12 (neg_con hc)
  exact ⟨neg_con hc, by omega⟩

theorem rup_eq {L : ProbT} {c : ConT} (hL : goodL L) (hl : L.length ≤ 1000000) (hc : conB c = true) : ∃ out, impl_propagate (L ++ [negC c]) zero12 = some out ∧ rupB L c = decide (0 ≤ out.1) := by
 obtain ⟨r, e, _⟩ := impl_propagate_ex (good_neg hL hc) (by rw [List.length_append, List.length_singleton]; omega) zero_ok
 refine ⟨r, e, ?_⟩
 unfold rupB
 rw [e]
 rfl

theorem rup_sound {L : ProbT} {c : ConT} {v : List Bool} (hL : goodL L) (hl : L.length ≤ 1000000) (hc : conB c = true) (h : rupB L c = true) (hv : satL L v) : evalB v c = true := by
 obtain ⟨r, e, _, hr⟩ := impl_propagate_ex (good_neg hL hc) (by rw [List.length_append, List.length_singleton]; omega) zero_ok
 unfold rupB at h
 rw [e] at h
 have h : 0 ≤ r.1 := of_decide_eq_true h
 rcases hr with hr | hr
 ·omega
 ·have hno := hr.2 v (fun j hj => absurd (rep12 j) hj)
  cases q : evalB v c with
  | true => rfl
  | false =>
   exfalso
   refine hno (fun x hx => ?_)
   rcases List.mem_append.1 hx with h1 | h1
   ·exact hv x h1
   ·rw [List.mem_singleton] at h1
    rw [h1, neg_eval hc, q]
    rfl

theorem rup_of_noEnd {L : ProbT} {c : ConT} (hL : goodL L) (hl : L.length ≤ 1000000) (hc : conB c = true) (h : noEnd (L ++ [negC c])) : rupB L c = true := by
 have hg := good_neg hL hc
 have hlen : (L ++ [negC c]).length ≤ 1048576 := by rw [List.length_append, List.length_singleton]; omega
 obtain ⟨r, e, _⟩ := impl_propagate_ex hg hlen zero_ok
 unfold rupB
 rw [e]
 refine decide_eq_true ?_
 show 0 ≤ r.1
 rcases Int.lt_or_le r.1 0 with q | q
 ·obtain ⟨f1, _, f3⟩ := prop_fix hg hlen zero_ok e q
  exact absurd f3 (h _ f1)
 ·exact q

end Go.AE.Y
namespace Go.AE.Y
open Go Go.AE
set_option maxHeartbeats 400000

abbrev DbT := ProbT × List Bool
def conAt (d : DbT) (i : Int) : ConT := d.1.getD i.toNat ([], 0)
def liveB (d : DbT) (i : Int) : Bool := (decide (0 ≤ i) && decide (i < d.1.length)) && !(d.2.getD i.toNat false)
def leftN (d : DbT) : Nat → ProbT
 | 0 => []
 | n + 1 => leftN d n ++ (bif d.2.getD n false then [] else [d.1.getD n ([], 0)])
def leftD (d : DbT) : ProbT := leftN d d.1.length
def noneG (s : StepT) : Bool := decide (s.2.2.2.1 = []) && decide (s.2.2.2.2 = 0)
def partsB (s : StepT) : Bool := if s.1 = 1 ∨ s.1 = 2 ∨ s.1 = 3 ∨ s.1 = 5 then noneG s else if s.1 = 4 ∨ s.1 = 6 ∨ s.1 = 8 then noneG s && decide (s.2.2.1 = 0) else if s.1 = 7 then decide (s.2.1 = 0) && decide (s.2.2.1 = 0) else false
noncomputable def deriveB (d : DbT) (s : StepT) : ConR :=
 if s.1 = 6 then axB s.2.1
 else if s.1 = 7 then (bif conB s.2.2.2 && rupB (leftD d) s.2.2.2 then outC s.2.2.2 else noC)
 else bif liveB d s.2.1 then
  (if s.1 = 1 then (bif liveB d s.2.2.1 then addB (conAt d s.2.1) (conAt d s.2.2.1) else noC)
  else if s.1 = 2 then mulB (conAt d s.2.1) s.2.2.1
  else if s.1 = 3 then divB (conAt d s.2.1) s.2.2.1
  else if s.1 = 4 then satB (conAt d s.2.1)
  else weakB (conAt d s.2.1) s.2.2.1)
 else noC
noncomputable def stepD (d : DbT) (s : StepT) : Option DbT :=
 bif partsB s then
  (if s.1 = 8 then (bif liveB d s.2.1 then some (d.1, d.2.set s.2.1.toNat true) else none)
  else (bif (deriveB d s).1 then some (d.1 ++ [ofR (deriveB d s)], d.2 ++ [false]) else none))
 else none
noncomputable def runB : DbT → List StepT → Option DbT
 | d, [] => some d
 | d, s :: r => (stepD d s).bind fun d' => runB d' r
def startD (l : ProbT) : DbT := (l, List.replicate l.length false)
def byF (S : List StepT) : List StepT := S.filter (fun s => decide (s.1 ≠ 8))

theorem leftN_sub (d : DbT) : ∀ n, n ≤ d.1.length → ∀ c ∈ leftN d n, ∃ i, i < n ∧ d.1.getD i ([], 0) = c
 | 0, _ => fun c hc => absurd hc List.not_mem_nil
 | n + 1, hn => fun c hc => by
  unfold leftN at hc
  rcases List.mem_append.1 hc with h | h
  ·obtain ⟨i, hi, e⟩ := leftN_sub d n (by omega) c h
   exact ⟨i, by omega, e⟩
  ·cases hg : d.2.getD n false with
   | true => rw [hg, ctt] at h; exact absurd h List.not_mem_nil
   | false => rw [hg, cff, List.mem_singleton] at h; exact ⟨n, by omega, h.symm⟩

theorem leftN_len (d : DbT) : ∀ n, (leftN d n).length ≤ n
 | 0 => Nat.le_refl _
 | n + 1 => by
  have := leftN_len d n
  unfold leftN
  rw [List.length_append]
  cases d.2.getD n false with
  | true => rw [ctt, List.length_nil]; omega
  | false => rw [cff, List.length_singleton]; omega

theorem left_good {d : DbT} (h : goodL d.1) : goodL (leftD d) := fun c hc => by
 obtain ⟨i, hi, rfl⟩ := leftN_sub d d.1.length (Nat.le_refl _) c hc
 exact h _ (getD_mem hi)

theorem con_live {d : DbT} {i : Int} (h : liveB d i = true) : 0 ≤ i ∧ i.toNat < d.1.length ∧ conAt d i ∈ d.1 := by
 unfold liveB at h
 simp only [Bool.and_eq_true, decide_eq_true_eq] at h
 have : i.toNat < d.1.length := by omega
 exact ⟨h.1.1, this, getD_mem this⟩

theorem mulB_ok {c : ConT} {k : Int} (h : (mulB c k).1 = true) : conB c = true ∧ 1 ≤ k ∧ ofR (mulB c k) = mulC c k ∧ conB (ofR (mulB c k)) = true := by
 unfold mulB at h ⊢
 cases q : conB c && (decide (1 ≤ k) && decide (k ≤ 1000)) with
 | false => rw [q, cff] at h; cases h
 | true =>
  rw [q, ctt] at h
  rw [ctt]
  simp only [Bool.and_eq_true, decide_eq_true_eq] at q
  exact ⟨q.1, q.2.1, validC_ok h⟩

theorem divB_ok {c : ConT} {k : Int} (h : (divB c k).1 = true) : conB c = true ∧ 1 ≤ k ∧ ofR (divB c k) = divC c k ∧ conB (ofR (divB c k)) = true := by
 unfold divB at h ⊢
 cases q : conB c && (decide (1 ≤ k) && decide (k ≤ 1000)) with
 | false => rw [q, cff] at h; cases h
 | true =>
  rw [q, ctt] at h
  rw [ctt]
  simp only [Bool.and_eq_true, decide_eq_true_eq] at q
  exact ⟨q.1, q.2.1, validC_ok h⟩

theorem conB_iff {c : ConT} : conB c = true ↔ (∀ i, i < c.1.length → isLit (c.1.getD i (0, 0)).2 = true ∧ 1 ≤ (c.1.getD i (0, 0)).1 ∧ (c.1.getD i (0, 0)).1 ≤ 1000) ∧ (c.1.Pairwise (fun x y => vof x.2 < vof y.2)) ∧ 0 ≤ c.2 ∧ c.2 ≤ 20000 := by
 constructor
 ·intro h
  obtain ⟨h1, h2⟩ := con_at h
  refine ⟨h2, ?_, h1⟩
  unfold conB at h
  simp only [Bool.and_eq_true, decide_eq_true_eq, List.all_eq_true, List.mem_range] at h
  have step : ∀ i, i + 1 < c.1.length → vof (c.1.getD i (0, 0)).2 < vof (c.1.getD (i + 1) (0, 0)).2 := fun i hi => by
   have h3 := h.1 (i + 1) hi
   unfold termAt at h3
   simp only [Bool.and_eq_true, Bool.or_eq_true, decide_eq_true_eq, beq_iff_eq, Nat.add_sub_cancel] at h3
   have := h3.2.2
   omega
  have far : ∀ k i, i + k + 1 < c.1.length → vof (c.1.getD i (0, 0)).2 < vof (c.1.getD (i + k + 1) (0, 0)).2 := by
   intro k
   induction k with
   | zero => exact fun i hi => step i hi
   | succ k ih =>
    intro i hi
    have a := ih i (by omega)
    have b := step (i + k + 1) (by omega)
    rw [show i + (k + 1) + 1 = i + k + 1 + 1 by omega]
    omega
  rw [List.pairwise_iff_getElem]
  intro i j hi hj hij
  have := far (j - i - 1) i (by omega)
  rw [show i + (j - i - 1) + 1 = j by omega] at this
  rwa [List.getD_eq_getElem?_getD, List.getD_eq_getElem?_getD, List.getElem?_eq_getElem hi, List.getElem?_eq_getElem hj] at this
 ·rintro ⟨h1, h2, h3, h4⟩
  unfold conB
  simp only [Bool.and_eq_true, decide_eq_true_eq, List.all_eq_true, List.mem_range]
  refine ⟨fun i hi => ?_, h3, h4⟩
  obtain ⟨a, b, e⟩ := h1 i hi
  unfold termAt
  simp only [Bool.and_eq_true, Bool.or_eq_true, decide_eq_true_eq, beq_iff_eq]
  refine ⟨a, ⟨b, e⟩, ?_⟩
  by_cases q : i = 0
  ·exact Or.inl q
  ·right
   have := List.pairwise_iff_getElem.1 h2 (i - 1) i (by omega) hi (by omega)
   rwa [List.getD_eq_getElem?_getD, List.getD_eq_getElem?_getD, List.getElem?_eq_getElem hi, List.getElem?_eq_getElem (show i - 1 < c.1.length by omega)]

theorem conB_mem {c : ConT} : conB c = true ↔ (∀ t ∈ c.1, isLit t.2 = true ∧ 1 ≤ t.1 ∧ t.1 ≤ 1000) ∧ (c.1.Pairwise (fun x y => vof x.2 < vof y.2)) ∧ 0 ≤ c.2 ∧ c.2 ≤ 20000 := by
 rw [conB_iff]
 refine and_congr_left (fun _ => ⟨fun h t ht => ?_, fun h i hi => h _ (getD_mem hi)⟩)
 obtain ⟨i, hi, rfl⟩ := List.mem_iff_getElem.1 ht
 have := h i hi
 rwa [List.getD_eq_getElem?_getD, List.getElem?_eq_getElem hi] at this

theorem satC_con {c : ConT} (h : conB c = true) : conB (satC c) = true := by
 obtain ⟨h1, h2, h3, h4⟩ := conB_mem.1 h
 rw [conB_mem]
 unfold satC
 by_cases q : 0 < c.2
 ·rw [if_pos q]
  refine ⟨fun t ht => ?_, List.pairwise_map.2 (h2.imp (fun hab => hab)), h3, h4⟩
  obtain ⟨x, hx, rfl⟩ := List.mem_map.1 ht
  have := h1 x hx
  dsimp only
  exact ⟨this.1, by omega, by omega⟩
 ·rw [if_neg q]
  exact ⟨fun t ht => absurd ht List.not_mem_nil, List.Pairwise.nil, h3, h4⟩

theorem coefV_nonneg {l : List (Int × Int)} {x : Int} (h : ∀ t ∈ l, 1 ≤ t.1) : 0 ≤ coefV l x := by
 unfold coefV
 induction l with
 | nil => exact Int.le_refl _
 | cons t l ih =>
  have i1 := ih (fun y hy => h y (List.mem_cons_of_mem _ hy))
  have := h t List.mem_cons_self
  by_cases q : vof t.2 = x
  ·rw [List.filter_cons_of_pos (p := fun t : Int × Int => decide (vof t.2 = x)) (decide_eq_true q), List.map_cons, List.sum_cons]
   omega
  ·rw [List.filter_cons_of_neg (p := fun t : Int × Int => decide (vof t.2 = x)) (by rw [decide_eq_true_eq]; exact q)]
   exact i1

theorem weakC_con {c : ConT} {x : Int} (h : conB c = true) : conB (weakC c x) = true := by
 obtain ⟨h1, h2, h3, h4⟩ := conB_mem.1 h
 have := coefV_nonneg (x := x) (fun t ht => (h1 t ht).2.1)
 rw [conB_mem]
 unfold weakC
 exact ⟨fun t ht => h1 t (List.mem_filter.1 ht).1, h2.filter _, by dsimp only; omega, by dsimp only; omega⟩

theorem axC_con {l : Int} (h : isLit l = true) : conB ([(1, l)], 0) = true := by
 rw [conB_mem]
 refine ⟨fun t ht => ?_, List.pairwise_singleton _ _, Int.le_refl _, by show (0 : Int) ≤ 20000; decide⟩
 rw [List.mem_singleton] at ht
 subst ht
 exact ⟨h, by show (1 : Int) ≤ 1; decide, by show (1 : Int) ≤ 1000; decide⟩

def refsB (s : StepT) (k : Nat) : Prop := if s.1 = 7 then True else if s.1 = 6 then False else (k : Int) = s.2.1 ∨ (s.1 = 1 ∧ (k : Int) = s.2.2.1)

theorem derive_ok {d : DbT} {s : StepT} (hd : goodL d.1) (hl : d.1.length ≤ 1000000) (h : (deriveB d s).1 = true) : conB (ofR (deriveB d s)) = true ∧ ∀ v, (∀ k, k < d.1.length → refsB s k → evalB v (d.1.getD k ([], 0)) = true) → evalB v (ofR (deriveB d s)) = true := by
 unfold deriveB at h ⊢
 by_cases k6 : s.1 = 6
 ·rw [if_pos k6] at h ⊢
  unfold axB at h ⊢
  cases q : isLit s.2.1 with
  | false => rw [q, cff] at h; cases h
  | true => rw [ctt]; exact ⟨axC_con q, fun v _ => ax_sound⟩
 rw [if_neg k6] at h ⊢
 by_cases k7 : s.1 = 7
 ·rw [if_pos k7] at h ⊢
  cases q : conB s.2.2.2 && rupB (leftD d) s.2.2.2 with
  | false => rw [q, cff] at h; cases h
  | true =>
   rw [ctt]
   rw [Bool.and_eq_true] at q
   refine ⟨q.1, fun v hv => rup_sound (left_good hd) (by have := leftN_len d d.1.length; unfold leftD; omega) q.1 q.2 (fun c hc => ?_)⟩
   obtain ⟨i, hi, rfl⟩ := leftN_sub d d.1.length (Nat.le_refl _) c hc
   exact hv i hi (by unfold refsB; rw [if_pos k7]; trivial)
 rw [if_neg k7] at h ⊢
 have hr : ∀ k, refsB s k ↔ ((k : Int) = s.2.1 ∨ (s.1 = 1 ∧ (k : Int) = s.2.2.1)) := fun k => by
  unfold refsB
  rw [if_neg k7, if_neg k6]
 cases qa : liveB d s.2.1 with
 | false => rw [qa, cff] at h; cases h
 | true =>
  rw [qa, ctt] at h
  rw [ctt]
  obtain ⟨a0, a1, a2⟩ := con_live qa
  have ca := (hd _ a2).1
  have ea : ∀ v, (∀ k, k < d.1.length → refsB s k → evalB v (d.1.getD k ([], 0)) = true) → evalB v (conAt d s.2.1) = true := fun v hv => hv s.2.1.toNat a1 ((hr _).2 (Or.inl (by omega)))
  by_cases k1 : s.1 = 1
  ·rw [if_pos k1] at h ⊢
   cases qb : liveB d s.2.2.1 with
   | false => rw [qb, cff] at h; cases h
   | true =>
    rw [qb, ctt] at h
    rw [ctt]
    obtain ⟨b0, b1, b2⟩ := con_live qb
    have cb := (hd _ b2).1
    refine ⟨?_, fun v hv => add_sound ca cb (ea v hv) (hv s.2.2.1.toNat b1 ((hr _).2 (Or.inr ⟨k1, by omega⟩))) h⟩
    unfold addB at h ⊢
    rw [ca, cb, Bool.true_and, ctt] at h ⊢
    exact (normB_ok h).2
  rw [if_neg k1] at h ⊢
  by_cases k2 : s.1 = 2
  ·rw [if_pos k2] at h ⊢
   obtain ⟨m1, m2, m3, m4⟩ := mulB_ok h
   exact ⟨m4, fun v hv => by rw [m3]; exact mul_sound m2 (ea v hv)⟩
  rw [if_neg k2] at h ⊢
  by_cases k3 : s.1 = 3
  ·rw [if_pos k3] at h ⊢
   obtain ⟨m1, m2, m3, m4⟩ := divB_ok h
   exact ⟨m4, fun v hv => by rw [m3]; exact div_sound m2 (ea v hv)⟩
  rw [if_neg k3] at h ⊢
  by_cases k4 : s.1 = 4
  ·rw [if_pos k4]
   unfold satB
   rw [ca, ctt]
   exact ⟨satC_con ca, fun v hv => sat_sound ca (ea v hv)⟩
  rw [if_neg k4] at h ⊢
  unfold weakB at h ⊢
  cases q : conB (conAt d s.2.1) && (decide (1 ≤ s.2.2.1) && decide (s.2.2.1 ≤ 12)) with
  | false => rw [q, cff] at h; cases h
  | true => rw [ctt]; exact ⟨weakC_con ca, fun v hv => weak_sound ca (ea v hv)⟩

structure Trace (L cs : ProbT) (by_ : List StepT) : Prop where
 len : cs.length = by_.length
 con : ∀ c ∈ cs, conB c = true ∧ c.1.length ≤ 1048576
 refs : ∀ j, j < cs.length → (by_.getD j zS).1 ≠ 8 ∧ ∀ k, refsB (by_.getD j zS) k → (by_.getD j zS).1 ≠ 7 → k < L.length + j
 range : ∀ j, j < cs.length → (by_.getD j zS).1 ≠ 7 → (by_.getD j zS).1 ≠ 6 → 0 ≤ (by_.getD j zS).2.1 ∧ ((by_.getD j zS).1 = 1 → 0 ≤ (by_.getD j zS).2.2.1)
 imp : ∀ j, j < cs.length → ∀ v, (∀ k, k < L.length + j → refsB (by_.getD j zS) k → evalB v ((L ++ cs).getD k ([], 0)) = true) → evalB v (cs.getD j ([], 0)) = true

theorem run_trace : ∀ (S : List StepT) (d d' : DbT), goodL d.1 → d.1.length + S.length ≤ 1000000 → runB d S = some d' → ∃ cs, d'.1 = d.1 ++ cs ∧ Trace d.1 cs (byF S)
 | [], d, d', _, _, h => by
  have h : some d = some d' := h
  injection h with h
  subst h
  exact ⟨[], (List.append_nil _).symm, rfl, fun c hc => absurd hc List.not_mem_nil, fun j hj => absurd hj (Nat.not_lt_zero _), fun j hj => absurd hj (Nat.not_lt_zero _), fun j hj => absurd hj (Nat.not_lt_zero _)⟩
 | s :: S, d, d', hd, hl, h => by
  have h : (stepD d s).bind (fun d' => runB d' S) = some d' := h
  rw [List.length_cons] at hl
  cases hs : stepD d s with
  | none => rw [hs] at h; cases h
  | some d1 =>
   rw [hs, bind_s] at h
   unfold stepD at hs
   cases hp : partsB s with
   | false => rw [hp, cff] at hs; cases hs
   | true =>
    rw [hp, ctt] at hs
    by_cases k8 : s.1 = 8
    ·rw [if_pos k8] at hs
     cases hv : liveB d s.2.1 with
     | false => rw [hv, cff] at hs; cases hs
     | true =>
      rw [hv, ctt] at hs
      injection hs with hs
      subst hs
      obtain ⟨cs, e, ht⟩ := run_trace S (d.1, d.2.set s.2.1.toNat true) d' hd (by show d.1.length + S.length ≤ 1000000; omega) h
      refine ⟨cs, e, ?_⟩
      have : byF (s :: S) = byF S := List.filter_cons_of_neg (by rw [decide_eq_true_eq]; exact fun q => q k8)
      rw [this]
      exact ht
    ·rw [if_neg k8] at hs
     cases hv : (deriveB d s).1 with
     | false => rw [hv, cff] at hs; cases hs
     | true =>
      rw [hv, ctt] at hs
      injection hs with hs
      subst hs
      obtain ⟨o1, o2⟩ := derive_ok hd (by omega) hv
      have o12 := con_12 o1
      obtain ⟨cs, e, ht⟩ := run_trace S (d.1 ++ [ofR (deriveB d s)], d.2 ++ [false]) d' (fun c hc => by
       rcases List.mem_append.1 hc with q | q
       ·exact hd c q
       ·rw [List.mem_singleton] at q
        rw [q]
        exact ⟨o1, by omega⟩) (by show (d.1 ++ [ofR (deriveB d s)]).length + S.length ≤ 1000000; rw [List.length_append, List.length_singleton]; omega) h
      have eby : byF (s :: S) = s :: byF S := List.filter_cons_of_pos (p := fun s : StepT => decide (s.1 ≠ 8)) (decide_eq_true k8)
      dsimp only at e ht
      have hlen : (d.1 ++ [ofR (deriveB d s)]).length = d.1.length + 1 := by rw [List.length_append, List.length_singleton]
      have hrefs : ∀ k, refsB s k → s.1 ≠ 7 → k < d.1.length := fun k hk h7 => by
       unfold refsB at hk
       rw [if_neg h7] at hk
       unfold deriveB at hv
       by_cases k6 : s.1 = 6
       ·rw [if_pos k6] at hk; exact hk.elim
       ·rw [if_neg k6] at hk
        rw [if_neg k6, if_neg h7] at hv
        cases qa : liveB d s.2.1 with
        | false => rw [qa, cff] at hv; cases hv
        | true =>
         rw [qa, ctt] at hv
         obtain ⟨a0, a1, _⟩ := con_live qa
         rcases hk with hk | ⟨k1, hk⟩
         ·omega
         ·rw [if_pos k1] at hv
          cases qb : liveB d s.2.2.1 with
          | false => rw [qb, cff] at hv; cases hv
          | true =>
           obtain ⟨b0, b1, _⟩ := con_live qb
           omega
      have hrange : s.1 ≠ 7 → s.1 ≠ 6 → 0 ≤ s.2.1 ∧ (s.1 = 1 → 0 ≤ s.2.2.1) := fun h7 h6 => by
       unfold deriveB at hv
       rw [if_neg h6, if_neg h7] at hv
       cases qa : liveB d s.2.1 with
       | false => rw [qa, cff] at hv; cases hv
       | true =>
        rw [qa, ctt] at hv
        obtain ⟨a0, a1, _⟩ := con_live qa
        refine ⟨a0, fun k1 => ?_⟩
        rw [if_pos k1] at hv
        cases qb : liveB d s.2.2.1 with
        | false => rw [qb, cff] at hv; cases hv
        | true => exact (con_live qb).1
      refine ⟨ofR (deriveB d s) :: cs, by rw [e, List.append_assoc]; rfl, ?_⟩
      rw [eby]
      refine ⟨by rw [List.length_cons, List.length_cons, ht.len], fun c hc => ?_, fun j hj => ?_, fun j hj => ?_, fun j hj => ?_⟩
      ·rcases List.mem_cons.1 hc with q | q
       ·rw [q]; exact ⟨o1, by omega⟩
       ·exact ht.con c q
      ·cases j with
       | zero => exact ⟨k8, fun k hk h7 => by have := hrefs k hk h7; omega⟩
       | succ j =>
        have hj' : j < cs.length := by rw [List.length_cons] at hj; omega
        obtain ⟨r1, r2⟩ := ht.refs j hj'
        exact ⟨r1, fun k hk h7 => by have := r2 k hk h7; omega⟩
      ·cases j with
       | zero => exact hrange
       | succ j =>
        have hj' : j < cs.length := by rw [List.length_cons] at hj; omega
        exact ht.range j hj'
      ·cases j with
       | zero =>
        intro v hv'
        refine o2 v (fun k hk hr => ?_)
        have := hv' k (by omega) hr
        rwa [List.getD_eq_getElem?_getD, List.getElem?_append_left hk, ← List.getD_eq_getElem?_getD] at this
       | succ j =>
        have hj' : j < cs.length := by rw [List.length_cons] at hj; omega
        intro v hv'
        refine ht.imp j hj' v (fun k hk hr => ?_)
        have := hv' k (by omega) hr
        rwa [show d.1 ++ ofR (deriveB d s) :: cs = d.1 ++ [ofR (deriveB d s)] ++ cs by rw [List.append_assoc]; rfl] at this

end Go.AE.Y
namespace Go.AE.Y
open Go Go.AE
set_option maxHeartbeats 400000

def conv (r : VR) : SR := (bif r.1 then 1 else bif r.2.2.1 then 0 else 2, r.2.1, r.2.2.2.1, r.2.2.2.2.1, r.2.2.2.2.2)
end Go.AE.Y
namespace Go.AE.Y
open Go Go.AE
set_option maxHeartbeats 400000

abbrev SolT := Int × List Bool × List StepT

theorem isFuel_eq (f : Int) : impl_isFuel f = some (decide (0 ≤ f) && decide (f ≤ 2000)) := by
 unfold impl_isFuel
 rw [impl_within_eq, bind_s]

end Go.AE.Y
namespace Go.AE.Y
open Go Go.AE
set_option maxHeartbeats 400000

theorem solve_rup {x : ProbT} (hs : smallC x) {f : Int} {r : SolT} (h : impl_SolveProblem x f = some r) (h2 : r.1 = 2) : probB x = true ∧ ∃ L', RupExt x [] L' r.2.2 ∧ learnC [] ∈ L' := by
 unfold impl_SolveProblem at h
 rw [impl_ProblemValid_eq x hs, bind_s] at h
 cases hp : probB x with
 | false =>
  rw [hp, cnf] at h
  injection h with h
  rw [← h] at h2
  exact absurd h2 (show ¬ (3 : Int) = 2 by decide)
 | true =>
  refine ⟨rfl, ?_⟩
  rw [hp, cnt, isFuel_eq, bind_s] at h
  cases hq : decide (0 ≤ f) && decide (f ≤ 2000) with
  | false =>
   rw [hq, cnf] at h
   injection h with h
   rw [← h] at h2
   exact absurd h2 (show ¬ (3 : Int) = 2 by decide)
  | true =>
   have hq' := hq
   rw [Bool.and_eq_true, decide_eq_true_eq, decide_eq_true_eq] at hq'
   have hall := probB_all hp
   have hlen : x.length ≤ 400 := by
    unfold probB at hp
    simp only [Bool.and_eq_true, decide_eq_true_eq] at hp
    exact hp.2
   have hg : goodL x := fun c hc => ⟨hall c hc, hs.2 c hc⟩
   have hd : DecOk [] := ⟨fun x hx => absurd hx List.not_mem_nil, fun i j hi => by simp at hi⟩
   obtain ⟨v, e, hv, hr⟩ := visit_chain (D := []) (L := x) (S := []) (fuel := f) (rec_ := impl_searching_visit__Rsd 64) (fun l L' S' f' h1 h2 h3 h4 h5 => visit_rup 64 ([] ++ [l]) L' S' f' h1 h2 h3 h4 h5 (by simp)) hd hg (by simp; omega) (by simp) hq'
   have e' : impl_searching_visit__R0s 64 [] f false x = some v := by
    rw [← e]
    exact first_visit (impl_searching_visit__R0s 63) [] f false x
   rw [hq, cnt, CloneC_eq x (by omega), bind_s, e', bind_s] at h
   cases hok : v.1 with
   | true =>
    rw [hok, ctt] at h
    injection h with h
    rw [← h] at h2
    exact absurd h2 (show ¬ (1 : Int) = 2 by decide)
   | false =>
    rw [hok, cff] at h
    cases hmu : v.2.2.1 with
    | true =>
     rw [hmu, ctt] at h
     injection h with h
     rw [← h] at h2
     exact absurd h2 (show ¬ (0 : Int) = 2 by decide)
    | false =>
     rw [hmu, cff] at h
     injection h with h
     rw [← h]
     exact ⟨v.2.2.2.2.1, hr.1, hr.2 hok hmu⟩

end Go.AE.Y
namespace Go.AE.Y
open Go Go.AE
set_option maxHeartbeats 400000

def needS (s : StepT) (i : Nat) (out : List Bool) : List Bool :=
 if s.1 = 7 then List.replicate i true ++ out.drop i
 else if s.1 = 6 then out
 else if s.1 = 1 then (out.set s.2.1.toNat true).set s.2.2.1.toNat true
 else out.set s.2.1.toNat true
def needN (n : Nat) (by_ : List StepT) : Nat → List Bool → List Bool
 | 0, out => out
 | k + 1, out => needN n by_ k (bif out.getD (n + k) false then needS (by_.getD k zS) (n + k) out else out)

def RefOk (s : StepT) (i : Nat) : Prop := s.1 ≠ 7 → s.1 ≠ 6 → 0 ≤ s.2.1 ∧ s.2.1.toNat < i ∧ (s.1 = 1 → 0 ≤ s.2.2.1 ∧ s.2.2.1.toNat < i)

theorem needS_len {s : StepT} {i : Nat} {out : List Bool} (h : i ≤ out.length) : (needS s i out).length = out.length := by
 unfold needS
 split
 ·rw [List.length_append, List.length_replicate, List.length_drop]; omega
 ·split
  ·rfl
  ·split
   ·rw [List.length_set, List.length_set]
   ·rw [List.length_set]

theorem fill_get {i j : Nat} {out : List Bool} : (List.replicate i true ++ out.drop i).getD j false = if j < i then true else out.getD j false := by
 rw [List.getD_eq_getElem?_getD]
 by_cases q : j < i
 ·rw [if_pos q, List.getElem?_append_left (by rw [List.length_replicate]; exact q), List.getElem?_replicate_of_lt q]
  rfl
 ·rw [if_neg q, List.getElem?_append_right (by rw [List.length_replicate]; omega), List.length_replicate, List.getElem?_drop, show i + (j - i) = j by omega, List.getD_eq_getElem?_getD]

theorem set_keep {out : List Bool} {a j : Nat} (h : out.getD j false = true) : (out.set a true).getD j false = true := by
 by_cases e : a = j
 ·subst e
  rcases Nat.lt_or_ge a out.length with q | q
  ·exact getD_set_eq' q
  ·rw [List.getD_eq_getElem?_getD, List.getElem?_eq_none q] at h
   cases h
 ·rw [getD_set_ne' e]
  exact h

theorem needS_get {s : StepT} {i : Nat} {out : List Bool} (hi : i ≤ out.length) (h : RefOk s i) : (∀ j, out.getD j false = true → (needS s i out).getD j false = true) ∧ (∀ j, i ≤ j → (needS s i out).getD j false = out.getD j false) ∧ ∀ j, j < i → refsB s j → (needS s i out).getD j false = true := by
 have hrf : s.1 ≠ 7 → ∀ j, refsB s j → s.1 ≠ 6 ∧ ((j : Int) = s.2.1 ∨ (s.1 = 1 ∧ (j : Int) = s.2.2.1)) := fun h7 j hj => by
  unfold refsB at hj
  rw [if_neg h7] at hj
  by_cases k6 : s.1 = 6
  ·rw [if_pos k6] at hj
   exact hj.elim
  ·rw [if_neg k6] at hj
   exact ⟨k6, hj⟩
 unfold needS
 by_cases k7 : s.1 = 7
 ·rw [if_pos k7]
  refine ⟨fun j hj => ?_, fun j hj => ?_, fun j hj _ => ?_⟩
  ·rw [fill_get]
   split
   ·rfl
   ·exact hj
  ·rw [fill_get, if_neg (by omega)]
  ·rw [fill_get, if_pos hj]
 rw [if_neg k7]
 by_cases k6 : s.1 = 6
 ·rw [if_pos k6]
  exact ⟨fun j hj => hj, fun j _ => rfl, fun j _ hr => absurd k6 (hrf k7 j hr).1⟩
 rw [if_neg k6]
 obtain ⟨a0, a1, hb⟩ := h k7 k6
 by_cases k1 : s.1 = 1
 ·rw [if_pos k1]
  obtain ⟨b0, b1⟩ := hb k1
  refine ⟨fun j hj => set_keep (set_keep hj), fun j hj => ?_, fun j hj hr => ?_⟩
  ·rw [getD_set_ne' (by omega), getD_set_ne' (by omega)]
  ·rcases (hrf k7 j hr).2 with hr | ⟨_, hr⟩
   ·rw [show j = s.2.1.toNat by omega]
    exact set_keep (getD_set_eq' (by omega))
   ·rw [show j = s.2.2.1.toNat by omega]
    exact getD_set_eq' (by rw [List.length_set]; omega)
 ·rw [if_neg k1]
  refine ⟨fun j hj => set_keep hj, fun j hj => getD_set_ne' (by omega), fun j hj hr => ?_⟩
  rcases (hrf k7 j hr).2 with hr | ⟨k, _⟩
  ·rw [show j = s.2.1.toNat by omega]
   exact getD_set_eq' (by omega)
  ·exact absurd k k1

theorem needN_spec {n : Nat} {by_ : List StepT} : ∀ (m : Nat) (out : List Bool), n + m ≤ out.length → (∀ k, k < m → RefOk (by_.getD k zS) (n + k)) →
  (needN n by_ m out).length = out.length ∧ (∀ j, out.getD j false = true → (needN n by_ m out).getD j false = true) ∧ (∀ j, n + m ≤ j + 1 → (needN n by_ m out).getD j false = out.getD j false) ∧
  ∀ k, k < m → (needN n by_ m out).getD (n + k) false = true → ∀ j, j < n + k → refsB (by_.getD k zS) j → (needN n by_ m out).getD j false = true
 | 0, out, _, _ => ⟨rfl, fun j h => h, fun j _ => rfl, fun k hk => absurd hk (Nat.not_lt_zero _)⟩
 | m + 1, out, hl, hr => by
  have hm := hr m (by omega)
  obtain ⟨g1, g2, g3⟩ := needS_get (out := out) (by omega) hm
  have hlen : (bif out.getD (n + m) false then needS (by_.getD m zS) (n + m) out else out).length = out.length := by
   cases out.getD (n + m) false with
   | true => rw [ctt]; exact needS_len (by omega)
   | false => rw [cff]
  obtain ⟨i1, i2, i3, i4⟩ := needN_spec m (bif out.getD (n + m) false then needS (by_.getD m zS) (n + m) out else out) (by omega) (fun k hk => hr k (by omega))
  show (needN n by_ m (bif out.getD (n + m) false then needS (by_.getD m zS) (n + m) out else out)).length = _ ∧ _
  have e : needN n by_ (m + 1) out = needN n by_ m (bif out.getD (n + m) false then needS (by_.getD m zS) (n + m) out else out) := rfl
  rw [e]
  have keep : ∀ j, n + m ≤ j → (bif out.getD (n + m) false then needS (by_.getD m zS) (n + m) out else out).getD j false = out.getD j false := fun j hj => by
   cases out.getD (n + m) false with
   | true => rw [ctt]; exact g2 j hj
   | false => rw [cff]
  refine ⟨by rw [i1, hlen], fun j hj => i2 j ?_, fun j hj => by rw [i3 j (by omega), keep j (by omega)], fun k hk hkt j hj hrf => ?_⟩
  ·cases out.getD (n + m) false with
   | true => rw [ctt]; exact g1 j hj
   | false => rw [cff]; exact hj
  ·rcases Nat.lt_or_ge k m with q | q
   ·exact i4 k q hkt j hj hrf
   ·have : k = m := by omega
    subst this
    rw [i3 (n + k) (by omega), keep (n + k) (by omega)] at hkt
    refine i2 j ?_
    rw [hkt, ctt]
    exact g3 j hj hrf

def falseB (c : ConT) : Bool := conB c && decide (totC c < c.2)
theorem sum_le_tot {v : List Bool} : ∀ l : List (Int × Int), (∀ t ∈ l, 1 ≤ t.1) → sumB v l ≤ (l.map (fun t => t.1)).sum
 | [], _ => Int.le_refl _
 | t :: l, h => by
  have ih := sum_le_tot (v := v) l (fun x hx => h x (List.mem_cons_of_mem _ hx))
  have := h t List.mem_cons_self
  rw [sumB_cons, List.map_cons, List.sum_cons]
  cases litB v t.2 with
  | true => rw [ctt]; omega
  | false => rw [cff]; omega
theorem false_no {c : ConT} (h : falseB c = true) (v : List Bool) : ¬ evalB v c = true := by
 unfold falseB at h
 rw [Bool.and_eq_true, decide_eq_true_eq] at h
 rw [evalB_of]
 have := sum_le_tot (v := v) c.1 (fun t ht => (conB_ok h.1 t ht).2)
 have h2 := h.2
 unfold totC at h2
 omega

theorem need_sound {L cs : ProbT} {by_ : List StepT} (ht : Trace L cs by_) {out : List Bool} (hl : out.length = L.length + cs.length) {v : List Bool}
  (hv : ∀ i, i < L.length → (needN L.length by_ cs.length out).getD i false = true → evalB v (L.getD i ([], 0)) = true) :
  ∀ j, j < L.length + cs.length → (needN L.length by_ cs.length out).getD j false = true → evalB v ((L ++ cs).getD j ([], 0)) = true := by
 have hr : ∀ k, k < cs.length → RefOk (by_.getD k zS) (L.length + k) := fun k hk h7 h6 => by
  obtain ⟨a0, b0⟩ := ht.range k hk h7 h6
  have hf := (ht.refs k hk).2
  have ha : refsB (by_.getD k zS) (by_.getD k zS).2.1.toNat := by
   unfold refsB
   rw [if_neg h7, if_neg h6]
   exact Or.inl (by omega)
  refine ⟨a0, hf _ ha h7, fun k1 => ⟨b0 k1, hf _ ?_ h7⟩⟩
  have := b0 k1
  unfold refsB
  rw [if_neg h7, if_neg h6]
  exact Or.inr ⟨k1, by omega⟩
 obtain ⟨_, _, _, n4⟩ := needN_spec cs.length out (by omega) hr
 intro j
 induction j using Nat.strongRecOn with
 | _ j ih =>
  intro hj hn
  rcases Nat.lt_or_ge j L.length with q | q
  ·rw [List.getD_eq_getElem?_getD, List.getElem?_append_left q, ← List.getD_eq_getElem?_getD]
   exact hv j q hn
  ·have hk : j - L.length < cs.length := by omega
   have e : L.length + (j - L.length) = j := by omega
   have h1 := ht.imp (j - L.length) hk v (fun i hi hrf => ih i (by omega) (by omega) (n4 (j - L.length) hk (by rw [e]; exact hn) i hi hrf))
   rwa [List.getD_eq_getElem?_getD, List.getElem?_append_right q, ← List.getD_eq_getElem?_getD]

def findF (d : DbT) : Option Nat := (List.range d.1.length).find? (fun i => !(d.2.getD i false) && falseB (d.1.getD i ([], 0)))
noncomputable def refuteB (l : ProbT) (S : List StepT) : Option (DbT × Nat) :=
 if probB l = true ∧ S.length ≤ 1000 then (runB (startD l) S).bind fun d => (findF d).map fun i => (d, i) else none
def needR (l : ProbT) (S : List StepT) (r : DbT × Nat) : List Bool := needN l.length (byF S) (r.1.1.length - l.length) ((List.replicate r.1.1.length false).set r.2 true)
noncomputable def usedB (l : ProbT) (S : List StepT) : Bool × List Int :=
 match refuteB l S with
 | some r => (true, (idsB l.length).filter (fun i => (needR l S r).getD i.toNat false))
 | none => (false, [])

theorem prob_good {l : ProbT} (hs : smallC l) (hp : probB l = true) : goodL l ∧ l.length ≤ 400 := by
 refine ⟨fun c hc => ⟨probB_all hp c hc, hs.2 c hc⟩, ?_⟩
 unfold probB at hp
 simp only [Bool.and_eq_true, decide_eq_true_eq] at hp
 exact hp.2

theorem refute_sound {l : ProbT} {S : List StepT} {r : DbT × Nat} (hs : smallC l) (h : refuteB l S = some r) : probB l = true ∧ S.length ≤ 1000 ∧ (∃ cs, r.1.1 = l ++ cs ∧ Trace l cs (byF S)) ∧ r.2 < r.1.1.length ∧ falseB (r.1.1.getD r.2 ([], 0)) = true ∧
  ∀ v, ¬ (∀ i, i < l.length → (needR l S r).getD i false = true → evalB v (l.getD i ([], 0)) = true) := by
 unfold refuteB at h
 by_cases q : probB l = true ∧ S.length ≤ 1000
 ·rw [if_pos q] at h
  obtain ⟨hg, h400⟩ := prob_good hs q.1
  cases hr : runB (startD l) S with
  | none => rw [hr] at h; cases h
  | some d =>
   rw [hr, bind_s] at h
   cases hf : findF d with
   | none => rw [hf] at h; cases h
   | some i =>
    rw [hf] at h
    have h : some (d, i) = some r := h
    injection h with h
    subst h
    obtain ⟨cs, e, ht⟩ := run_trace S (startD l) d hg (by show l.length + _ ≤ _; omega) hr
    have e : d.1 = l ++ cs := e
    have ht : Trace l cs (byF S) := ht
    have hi := List.mem_range.1 (List.mem_of_find?_eq_some hf)
    have hfi := List.find?_some hf
    rw [Bool.and_eq_true] at hfi
    refine ⟨q.1, q.2, ⟨cs, e, ht⟩, hi, hfi.2, fun v hv => ?_⟩
    have hlen : d.1.length = l.length + cs.length := by rw [e, List.length_append]
    have hsub : d.1.length - l.length = cs.length := by omega
    have hv' := need_sound ht (out := (List.replicate d.1.length false).set i true) (by rw [List.length_set, List.length_replicate]; exact hlen) (v := v) (fun j hj hn => hv j hj (by unfold needR; dsimp only; rw [hsub]; exact hn)) i (by omega) ?_
    ·rw [← e] at hv'
     exact false_no hfi.2 v hv'
    ·obtain ⟨_, n2, _⟩ := needN_spec (n := l.length) (by_ := byF S) cs.length ((List.replicate d.1.length false).set i true) (by rw [List.length_set, List.length_replicate]; omega) (fun k hk h7 h6 => by
      obtain ⟨a0, b0⟩ := ht.range k hk h7 h6
      have hrf := (ht.refs k hk).2
      refine ⟨a0, hrf _ (by unfold refsB; rw [if_neg h7, if_neg h6]; exact Or.inl (by omega)) h7, fun k1 => ⟨b0 k1, hrf _ (by have := b0 k1; unfold refsB; rw [if_neg h7, if_neg h6]; exact Or.inr ⟨k1, by omega⟩) h7⟩⟩)
     exact n2 i (getD_set_eq' (by rw [List.length_replicate]; exact hi))
 ·rw [if_neg q] at h
  cases h

theorem run_append : ∀ (S T : List StepT) (d : DbT), runB d (S ++ T) = (runB d S).bind fun d' => runB d' T
 | [], T, d => rfl
 | s :: S, T, d => by
  show (stepD d s).bind (fun d' => runB d' (S ++ T)) = ((stepD d s).bind fun d' => runB d' S).bind fun d' => runB d' T
  cases stepD d s with
  | none => rfl
  | some d' => exact run_append S T d'

theorem left_all {l : ProbT} : ∀ n, n ≤ l.length → leftN (startD l) n = l.take n
 | 0, _ => rfl
 | n + 1, hn => by
  have e : (startD l).2.getD n false = false := by
   show (List.replicate l.length false).getD n false = false
   rw [List.getD_eq_getElem?_getD, List.getElem?_replicate_of_lt (by omega)]
   rfl
  unfold leftN
  rw [e, cff, left_all n (by omega), take_snoc ([], 0) (by omega)]
  rfl

theorem rups_run {L L' : ProbT} {S' : List StepT} (h : RupExt L [] L' S') (hL : goodL L) : goodL L' ∧ L'.length = L.length + S'.length ∧ (L'.length ≤ 1000000 → runB (startD L) S' = some (startD L')) := by
 induction h with
 | refl => exact ⟨hL, rfl, fun _ => rfl⟩
 | snoc _ h1 h2 h3 ih =>
  rename_i L1 S1 c _
  obtain ⟨i1, i2, i3⟩ := ih
  refine ⟨fun x hx => ?_, by rw [List.length_append, List.length_append, List.length_singleton, List.length_singleton]; omega, fun hle => ?_⟩
  ·rcases List.mem_append.1 hx with q | q
   ·exact i1 x q
   ·rw [List.mem_singleton] at q
    rw [q]
    exact ⟨h1, by omega⟩
  ·rw [List.length_append, List.length_singleton] at hle
   rw [run_append, i3 (by omega), bind_s]
   show (stepD (startD L1) (rupS c)).bind (fun d' => some d') = _
   have hru : rupB (leftD (startD L1)) c = true := by
    have e : leftD (startD L1) = L1 := by
     show leftN (startD L1) L1.length = L1
     rw [left_all _ (Nat.le_refl _), List.take_length]
    rw [e]
    exact rup_of_noEnd i1 (by omega) h1 h3
   have hp : partsB (rupS c) = true := by
    unfold partsB rupS
    dsimp only
    rw [if_neg (by decide), if_neg (by decide), if_pos rfl]
    rfl
   have hder : deriveB (startD L1) (rupS c) = outC c := by
    unfold deriveB
    rw [if_neg (show ¬ (rupS c).1 = 6 from (by decide : ¬ (7 : Int) = 6)), if_pos (show (rupS c).1 = 7 from rfl)]
    show (bif conB c && rupB (leftD (startD L1)) c then outC c else noC) = outC c
    rw [h1, hru, Bool.true_and, ctt]
   unfold stepD
   rw [hp, ctt, if_neg (show ¬ (rupS c).1 = 8 from (by decide : ¬ (7 : Int) = 8)), hder, show (outC c).1 = true from rfl, ctt, bind_s]
   show some ((L1 ++ [c], List.replicate L1.length false ++ [false]) : DbT) = some (L1 ++ [c], List.replicate (L1 ++ [c]).length false)
   rw [List.length_append, List.length_singleton, List.replicate_succ']

theorem solve_refutes {x : ProbT} (hs : smallC x) {f : Int} {r : SolT} (h : impl_SolveProblem x f = some r) (h2 : r.1 = 2) (ht : r.2.2.length ≤ 1000) : ∃ q, refuteB x r.2.2 = some q := by
 obtain ⟨hp, L', hr, hm⟩ := solve_rup hs h h2
 obtain ⟨hg, h400⟩ := prob_good hs hp
 obtain ⟨r1, r2, r3⟩ := rups_run hr hg
 have hrun := r3 (by omega)
 unfold refuteB
 rw [if_pos ⟨hp, ht⟩, hrun, bind_s]
 have hd : DecOk [] := ⟨fun x hx => absurd hx List.not_mem_nil, fun i j hi => by simp at hi⟩
 have hf : falseB (learnC []) = true := by
  unfold falseB
  rw [learnC_con hd]
  have : totC (learnC []) = ((litsF (negL [])).length : Int) := sum_ones1 _
  rw [this]
  have hz : litsF (negL []) = [] := by
   cases hl : litsF (negL []) with
   | nil => rfl
   | cons y l =>
    have := (litsF_mem (dec_neg hd) y).1 (by rw [hl]; exact List.mem_cons_self)
    exact absurd this List.not_mem_nil
  rw [hz]
  rfl
 obtain ⟨i, hi, e⟩ := List.mem_iff_getElem.1 hm
 have hsome : (findF (startD L')).isSome = true := by
  unfold findF
  rw [List.find?_isSome]
  refine ⟨i, List.mem_range.2 hi, ?_⟩
  have e1 : (startD L').2.getD i false = false := by
   show (List.replicate L'.length false).getD i false = false
   rw [List.getD_eq_getElem?_getD, List.getElem?_replicate_of_lt hi]
   rfl
  have e2 : (startD L').1.getD i ([], 0) = learnC [] := by
   show L'.getD i ([], 0) = _
   rw [List.getD_eq_getElem?_getD, List.getElem?_eq_getElem hi, e]
   rfl
  rw [e1, e2, hf]
  rfl
 obtain ⟨i, hi⟩ := Option.isSome_iff_exists.1 hsome
 rw [hi]
 exact ⟨_, rfl⟩

end Go.AE.Y
namespace Go.AE.Y
open Go Go.AE

theorem partB_sub {l : List (List (Int × Int) × Int)} {c d : List Int} (h : ∀ x ∈ c, x ∈ d) (ho : openB (partB l d) = true) : openB (partB l c) = true := openB_sub (partB_mono h) ho

theorem coreF_closed {l : List (List (Int × Int) × Int)} (h : openB l = false) : ∀ t, openB (partB l (coreF l l.length t)) = false
 | 0 => by
  show openB (partB l (idsB l.length)) = false
  rw [partB_ids]
  exact h
 | t + 1 => by
  have hn : coreF l l.length (t + 1) = coreStep l (coreF l l.length t) ((l.length : Int) - 1 - t) := rfl
  rw [hn]
  unfold coreStep
  cases hq : openB (partB l (outB (coreF l l.length t) ((l.length : Int) - 1 - t))) with
  | true => rw [ctt]; exact coreF_closed h t
  | false => rw [cff]; exact hq

theorem coreF_step {l : List (List (Int × Int) × Int)} {n t : Nat} : (coreF l n (t + 1)).Sublist (coreF l n t) := coreStep_sub

theorem coreF_le {l : List (List (Int × Int) × Int)} {n t : Nat} : ∀ s, (coreF l n (t + s)).Sublist (coreF l n t)
 | 0 => List.Sublist.refl _
 | s + 1 => (coreF_step (t := t + s)).trans (coreF_le s)

theorem coreF_need {l : List (List (Int × Int) × Int)} {k : Int} (hk : k ∈ coreF l l.length l.length) : openB (partB l (outB (coreF l l.length l.length) k)) = true := by
 have hin := coreF_in k hk
 have ht : ∃ t : Nat, t < l.length ∧ k = (l.length : Int) - 1 - t := ⟨(l.length - 1 - k.toNat), by omega, by omega⟩
 obtain ⟨t, ht, rfl⟩ := ht
 have h1 : (coreF l l.length l.length).Sublist (coreF l l.length (t + 1)) := by
  have := coreF_le (l := l) (n := l.length) (t := t + 1) (l.length - (t + 1))
  rwa [show t + 1 + (l.length - (t + 1)) = l.length by omega] at this
 have h2 : (coreF l l.length l.length).Sublist (coreF l l.length t) := h1.trans coreF_step
 have hn : coreF l l.length (t + 1) = coreStep l (coreF l l.length t) ((l.length : Int) - 1 - t) := rfl
 unfold coreStep at hn
 have hq : openB (partB l (outB (coreF l l.length t) ((l.length : Int) - 1 - t))) = true := by
  cases hq : openB (partB l (outB (coreF l l.length t) ((l.length : Int) - 1 - t))) with
  | true => rfl
  | false =>
   rw [hq, cff] at hn
   have := h1.subset hk
   rw [hn] at this
   exact absurd rfl (outB_sub _ this).2
 exact partB_sub (fun x hx => outB_mem (h2.subset (outB_sub x hx).1) (outB_sub x hx).2) hq

theorem partB_part_out {l : List (List (Int × Int) × Int)} {c : List Int} {p : Nat} (hn : c.Nodup) (hp : p < c.length) : ∀ y ∈ partB (partB l c) (outB (idsB (partB l c).length) p), y ∈ partB l (outB c (c.getD p 0)) := by
 intro y hy
 have hl : (partB l c).length = c.length := by simp [partB]
 unfold partB at hy
 obtain ⟨n, hn1, rfl⟩ := List.mem_map.1 hy
 obtain ⟨hn2, hn3⟩ := outB_sub n hn1
 have hl' : (List.map (fun k => l.getD k.toNat ([], 0)) c).length = c.length := by simp
 rw [hl'] at hn2
 obtain ⟨hn4, hn5⟩ := idsB_mem.1 hn2
 rw [getD_map (d := 0) (h := by omega)]
 refine List.mem_map.2 ⟨c.getD n.toNat 0, outB_mem (getD_mem (by omega)) (fun e => ?_), rfl⟩
 have g1 : c.getD n.toNat 0 = c[n.toNat]'(by omega) := by rw [List.getD_eq_getElem?_getD, List.getElem?_eq_getElem (by omega)]; rfl
 have g2 : c.getD p 0 = c[p] := by rw [List.getD_eq_getElem?_getD, List.getElem?_eq_getElem hp]; rfl
 rw [g1, g2] at e
 have := (List.getElem_inj hn).1 e
 omega

theorem core_min {l : List (List (Int × Int) × Int)} (hp : probB l = true) (ho : openB l = false) : minB (partB l (coreF l l.length l.length)) = true := by
 have hlen := coreF_len (l := l) (n := l.length) (t := l.length)
 have hl := probB_len hp
 unfold minB
 rw [partB_prob hp coreF_in (by omega), coreF_closed ho]
 show needB _ = true
 unfold needB
 rw [List.all_eq_true]
 intro p hpm
 have hpm := List.mem_range.1 hpm
 have hq : (partB l (coreF l l.length l.length)).length = (coreF l l.length l.length).length := by simp [partB]
 exact openB_sub (partB_part_out coreF_nodup (by omega)) (coreF_need (getD_mem (d := 0) (by omega)))

theorem idsB_asc (n : Nat) : (idsB n).Pairwise (· < ·) := by
 unfold idsB
 rw [List.pairwise_map]
 exact List.pairwise_lt_range.imp (fun h => by omega)

theorem coreF_keep {l : List (List (Int × Int) × Int)} : keepB (coreF l l.length l.length) l.length = true := keepB_of coreF_in ((idsB_asc _).sublist (coreF_sub _))

end Go.AE.Y
namespace Go.AE.Y
open Go Go.AE
set_option maxHeartbeats 400000

theorem core_used {x : ProbT} {S : List StepT} {q : DbT × Nat} (hs : smallC x) (hm : minB x = true) (h : refuteB x S = some q) : ∀ i, i < x.length → (needR x S q).getD i false = true := fun i hi => by
 cases hn : (needR x S q).getD i false with
 | true => rfl
 | false =>
  exfalso
  unfold minB needB at hm
  simp only [Bool.and_eq_true] at hm
  have h1 := List.all_eq_true.1 hm.2.2 i (List.mem_range.2 hi)
  unfold openB at h1
  obtain ⟨k, _, hk⟩ := List.any_eq_true.1 h1
  obtain ⟨_, _, _, _, _, hno⟩ := refute_sound hs h
  refine hno (bitsB k) (fun j hj hnj => ?_)
  refine List.all_eq_true.1 hk _ (List.mem_map.2 ⟨(j : Int), outB_mem (idsB_mem.2 ⟨by omega, by omega⟩) (fun e => ?_), by rw [Int.toNat_natCast]⟩)
  have : j = i := by omega
  rw [this, hn] at hnj
  cases hnj

theorem used_all {x : ProbT} {S : List StepT} {q : DbT × Nat} (h : refuteB x S = some q) (ha : ∀ i, i < x.length → (needR x S q).getD i false = true) : usedB x S = (true, idsB x.length) := by
 unfold usedB
 rw [h]
 dsimp only
 rw [List.filter_eq_self.2 (fun i hi => by
  have := idsB_mem.1 hi
  exact ha i.toNat (by omega))]

end Go.AE.Y
namespace Go.AE.Y
open Go Go.AE
set_option maxHeartbeats 400000

theorem Grow_Term_eq {n : Int} (h : 0 ≤ n ∧ n ≤ 4000000) : slices_Grow_impl_Term n = some [] := by
 unfold slices_Grow_impl_Term
 rw [cdec_neg (by omega), rq_i64 (by omega) (by omega), rq_i64 (by omega) (by omega)]
 by_cases q : 0 < n - (0 - 0)
 ·rw [cdec_pos q, rq_pos rfl, rq_pos ⟨by omega, by simp only [bound]; omega⟩, rq_pos ⟨by omega, by omega⟩]
  rfl
 ·rw [cdec_neg q]

theorem Concat_Term_eq {x y : List (Int × Int)} (hx : x.length ≤ 1000) (hy : y.length ≤ 1000) : slices_Concat_impl_Term [x, y] = some (x ++ y) := by
 have e0 : slices_Concat_impl_Term_l1 [x, y] ((0 : Int), (0 : Int)) = some (.inl ((x.length : Int), (1 : Int))) := by
  unfold slices_Concat_impl_Term_l1
  dsimp only
  rw [cdec_pos (by simp), rq_pos ⟨by omega, by simp⟩]
  show rq (i64 (0 + (x.length : Int))) _ = _
  rw [rq_i64 (by omega) (by omega)]
  show cond (decide (0 + (x.length : Int) < 0)) none _ = _
  rw [cdec_neg (by omega), rq_i64 (by omega) (by omega)]
  show some (Sum.inl (0 + (x.length : Int), (0 : Int) + 1)) = _
  rw [Int.zero_add]
  rfl
 have e1 : slices_Concat_impl_Term_l1 [x, y] ((x.length : Int), (1 : Int)) = some (.inl ((x.length : Int) + (y.length : Int), (2 : Int))) := by
  unfold slices_Concat_impl_Term_l1
  dsimp only
  rw [cdec_pos (by simp), rq_pos ⟨by omega, by simp⟩]
  show rq (i64 ((x.length : Int) + (y.length : Int))) _ = _
  rw [rq_i64 (by omega) (by omega)]
  show cond (decide ((x.length : Int) + (y.length : Int) < 0)) none _ = _
  rw [cdec_neg (by omega), rq_i64 (by omega) (by omega)]
  rfl
 have g0 : slices_Concat_impl_Term_l2 [x, y] ((0 : Int), ([] : List (Int × Int))) = some (.inl ((1 : Int), x)) := by
  unfold slices_Concat_impl_Term_l2
  dsimp only
  rw [cdec_pos (by simp), rq_pos ⟨by omega, by simp⟩]
  show rq (([] : List (Int × Int)).length + x.length ≤ bound) _ = _
  rw [rq_pos (by simp [bound]; omega), rq_i64 (by omega) (by omega)]
  rfl
 have g1 : slices_Concat_impl_Term_l2 [x, y] ((1 : Int), x) = some (.inl ((2 : Int), x ++ y)) := by
  unfold slices_Concat_impl_Term_l2
  dsimp only
  rw [cdec_pos (by simp), rq_pos ⟨by omega, by simp⟩]
  show rq (x.length + y.length ≤ bound) _ = _
  rw [rq_pos (by simp only [bound]; omega), rq_i64 (by omega) (by omega)]
  rfl
 have g2 : slices_Concat_impl_Term_l2 [x, y] ((2 : Int), x ++ y) = some (.inr (.inr (x ++ y))) := by
  unfold slices_Concat_impl_Term_l2
  dsimp only
  rw [cdec_neg (by simp)]
 have e2 : slices_Concat_impl_Term_l1 [x, y] ((x.length : Int) + (y.length : Int), (2 : Int)) = some (.inr (x ++ y)) := by
  unfold slices_Concat_impl_Term_l1
  dsimp only
  rw [cdec_neg (by simp), Grow_Term_eq ⟨by omega, by omega⟩, bind_s, loop_eq, g0, bind_s]
  dsimp only
  rw [loop_eq, g1, bind_s]
  dsimp only
  rw [loop_eq, g2, bind_s]
 unfold slices_Concat_impl_Term
 rw [loop_eq, e0, bind_s]
 dsimp only
 rw [loop_eq, e1, bind_s]
 dsimp only
 rw [loop_eq, e2, bind_s]

theorem loop_map {α R : Type} {f : Int × List α → Option ((Int × List α) ⊕ R)} (l : List α) (d : α) (g : α → α) (fin : List α → R)
  (h : ∀ (i : Nat) (out : List α), i < l.length → out.length = l.length → out.getD i d = l.getD i d → f ((i : Int), out) = some (.inl ((i : Int) + 1, out.set i (g (l.getD i d)))))
  (hn : f ((l.length : Int), l.map g) = some (.inr (fin (l.map g)))) : loop f ((0 : Int), l) = some (fin (l.map g)) := by
 refine loop_fn (f := f) (fun s : Int × List α => ∃ i : Nat, s.1 = i ∧ i ≤ l.length ∧ s.2 = (l.take i).map g ++ l.drop i) (fun s => l.length - s.1.toNat) (fun _ => fin (l.map g)) ?_ _ ⟨0, rfl, Nat.zero_le _, by simp⟩
 rintro ⟨s, out⟩ ⟨i, hs, hi, ho⟩
 dsimp only at hs ho ⊢
 subst hs
 rcases Nat.lt_or_ge i l.length with h1 | h1
 ·left
  have hlen : out.length = l.length := by rw [ho, List.length_append, List.length_map, List.length_take, List.length_drop]; omega
  have hl1 : ((l.take i).map g).length = i := by rw [List.length_map, List.length_take]; omega
  have hget : out.getD i d = l.getD i d := by
   rw [ho, List.getD_eq_getElem?_getD, List.getElem?_append_right (by omega), hl1, Nat.sub_self, List.getElem?_drop, Nat.add_zero, List.getD_eq_getElem?_getD]
  refine ⟨_, h i out h1 hlen hget, ⟨i + 1, by simp, by omega, ?_⟩, by dsimp only; omega, rfl⟩
  dsimp only
  rw [ho, List.set_append_right _ _ (by omega), hl1, Nat.sub_self, List.drop_eq_getElem_cons h1, List.set_cons_zero, take_snoc d h1, List.map_append, List.append_assoc]
  rfl
 ·right
  have : i = l.length := by omega
  subst this
  rw [List.take_length, List.drop_length, List.append_nil] at ho
  rw [ho, hn]

theorem con_small {c : ConT} (h : conB c = true) : c.1.length ≤ 12 ∧ 0 ≤ c.2 ∧ c.2 ≤ 20000 := ⟨con_12 h, (con_at h).1⟩

theorem impl_Add_eq {a b : ConT} (ha : conB a = true) (hb : conB b = true) : impl_AddConstraints a b = some (addB a b) := by
 have a1 := con_small ha
 have b1 := con_small hb
 unfold impl_AddConstraints impl_AddConstraints_j1 addB
 rw [impl_ConstraintValid_eq a (by omega), bind_s, ha, cnt, impl_ConstraintValid_eq b (by omega), bind_s, hb, cnt, Concat_Term_eq (by omega) (by omega), bind_s, rq_i64 (by omega) (by omega), impl_normal_gen (ok_app ha hb) (by rw [List.length_append]; omega) ⟨by omega, by omega⟩, bind_s, Bool.true_and, ctt]

def flipR (r : ConR) : Bool × List (Int × Int) × Int := (r.1, r.2.2, r.2.1)

theorem impl_valid_gen {c : ConT} (h : c.1.length ≤ 1000) : impl_Constraint_valid c = some (flipR (validC c)) := by
 unfold impl_Constraint_valid validC flipR
 rw [impl_ConstraintValid_eq c (by omega), bind_s]
 cases conB c with
 | true => rw [cnt, ctt]; rfl
 | false => rw [cnf, cff]; rfl

theorem mul_1000 {a k : Int} (ha : 0 ≤ a ∧ a ≤ 20000) (hk : 1 ≤ k ∧ k ≤ 1000) : 0 ≤ a * k ∧ a * k ≤ 20000000 := by
 refine ⟨Int.mul_nonneg ha.1 (by omega), ?_⟩
 have := Int.mul_le_mul ha.2 hk.2 (by omega) (by omega)
 omega

theorem impl_Mul_eq {c : ConT} {k : Int} (hc : conB c = true) : impl_MultiplyConstraint c k = some (flipR (mulB c k)) := by
 have c1 := con_small hc
 obtain ⟨_, c2⟩ := con_at hc
 unfold impl_MultiplyConstraint mulB
 rw [impl_ConstraintValid_eq c (by omega), bind_s, hc, cnt, impl_within_eq, bind_s, Bool.true_and]
 cases hq : decide (1 ≤ k) && decide (k ≤ 1000) with
 | false => rw [cnf, cff]; rfl
 | true =>
  simp only [Bool.and_eq_true, decide_eq_true_eq] at hq
  have hb := mul_1000 c1.2 hq
  rw [cnt, ctt]
  have e : impl_Constraint_changed__impl_MultiplyConstraint_1 c k = some (flipR (validC (mulC c k))) := by
   unfold impl_Constraint_changed__impl_MultiplyConstraint_1
   have e1 : impl_MultiplyConstraint_1 c.2 k = some (c.2 * k) := by
    unfold impl_MultiplyConstraint_1
    rw [rq_i64 (by omega) (by omega)]
   rw [own_eq c (by omega), bind_s, e1, bind_s]
   refine loop_map c.1 (0, 0) (fun t => (t.1 * k, t.2)) (fun _ => flipR (validC (mulC c k))) (fun i out hi hl hg => ?_) ?_
   ·obtain ⟨l1, l2, l3⟩ := c2 i hi
    have hb2 := mul_1000 (a := (c.1.getD i (0, 0)).1) ⟨by omega, by omega⟩ hq
    unfold impl_Constraint_changed__impl_MultiplyConstraint_1_l1
    dsimp only
    have e2 : impl_MultiplyConstraint_1 (c.1.getD i (0, 0)).1 k = some ((c.1.getD i (0, 0)).1 * k) := by
     unfold impl_MultiplyConstraint_1
     rw [rq_i64 (by omega) (by omega)]
    rw [cdec_pos (by omega), rq_pos ⟨by omega, by omega⟩, Int.toNat_natCast, hg, e2, bind_s, rq_pos ⟨by omega, by omega⟩, rq_i64 (by omega) (by omega)]
   ·unfold impl_Constraint_changed__impl_MultiplyConstraint_1_l1 impl_Constraint_changed__impl_MultiplyConstraint_1_j1
    dsimp only
    have e3 : impl_Constraint_valid (c.1.map (fun t => (t.1 * k, t.2)), c.2 * k) = some (flipR (validC (mulC c k))) := impl_valid_gen (c := mulC c k) (by show (c.1.map _).length ≤ 1000; rw [List.length_map]; omega)
    rw [cdec_neg (by omega), e3, bind_s]
    generalize flipR (validC (mulC c k)) = q
    rfl
  rw [e, bind_s]

theorem impl_Div_eq {c : ConT} {k : Int} (hc : conB c = true) : impl_DivideConstraint c k = some (flipR (divB c k)) := by
 have c1 := con_small hc
 obtain ⟨_, c2⟩ := con_at hc
 unfold impl_DivideConstraint divB
 rw [impl_ConstraintValid_eq c (by omega), bind_s, hc, cnt, impl_within_eq, bind_s, Bool.true_and]
 cases hq : decide (1 ≤ k) && decide (k ≤ 1000) with
 | false => rw [cnf, cff]; rfl
 | true =>
  simp only [Bool.and_eq_true, decide_eq_true_eq] at hq
  rw [cnt, ctt]
  have e1 : ∀ n : Int, 0 ≤ n → n ≤ 20000 → impl_DivideConstraint_1 n k = some (upI n k) := fun n h1 h2 => by
   unfold impl_DivideConstraint_1 upI
   rw [rq_i64 (by omega) (by omega), rq_i64 (by omega) (by omega), rq_pos ⟨by omega, by omega⟩]
  have e : impl_Constraint_changed__impl_DivideConstraint_1 c k = some (flipR (validC (divC c k))) := by
   unfold impl_Constraint_changed__impl_DivideConstraint_1
   rw [own_eq c (by omega), bind_s, e1 c.2 (by omega) (by omega), bind_s]
   refine loop_map c.1 (0, 0) (fun t => (upI t.1 k, t.2)) (fun _ => flipR (validC (divC c k))) (fun i out hi hl hg => ?_) ?_
   ·obtain ⟨l1, l2, l3⟩ := c2 i hi
    unfold impl_Constraint_changed__impl_DivideConstraint_1_l1
    dsimp only
    rw [cdec_pos (by omega), rq_pos ⟨by omega, by omega⟩, Int.toNat_natCast, hg, e1 _ (by omega) (by omega), bind_s, rq_pos ⟨by omega, by omega⟩, rq_i64 (by omega) (by omega)]
   ·unfold impl_Constraint_changed__impl_DivideConstraint_1_l1 impl_Constraint_changed__impl_DivideConstraint_1_j1
    dsimp only
    have e3 : impl_Constraint_valid (c.1.map (fun t => (upI t.1 k, t.2)), upI c.2 k) = some (flipR (validC (divC c k))) := impl_valid_gen (c := divC c k) (by show (c.1.map _).length ≤ 1000; rw [List.length_map]; omega)
    rw [cdec_neg (by omega), e3, bind_s]
    generalize flipR (validC (divC c k)) = q
    rfl
  rw [e, bind_s]

theorem impl_Sat_eq {c : ConT} (hc : conB c = true) : impl_SaturateConstraint c = some (satB c) := by
 have c1 := con_small hc
 unfold impl_SaturateConstraint satB
 rw [impl_ConstraintValid_eq c (by omega), bind_s, hc, cnt, ctt]
 by_cases q : 0 < c.2
 ·rw [cdec_pos q]
  have := loop_push_map (f := impl_SaturateConstraint_l1 c) c.1 (0, 0) (fun t => (min t.1 c.2, t.2)) [] (fun _ => outC (satC c)) (fun i out hi ho => ?_) ?_
  ·exact this
  ·unfold impl_SaturateConstraint_l1
   dsimp only
   rw [cdec_pos (by omega), rq_pos ⟨by omega, by omega⟩, Int.toNat_natCast, rq_pos (by simp only [bound, List.length_cons, List.length_nil]; simp at ho; omega), rq_i64 (by omega) (by omega)]
  ·unfold impl_SaturateConstraint_l1 satC
   dsimp only
   rw [cdec_neg (by omega), List.nil_append, if_pos q]
   rfl
 ·rw [cdec_neg q]
  unfold satC
  rw [if_neg q]
  rfl

theorem coefV_snoc (l : List (Int × Int)) (t : Int × Int) (x : Int) : coefV (l ++ [t]) x = coefV l x + (if vof t.2 = x then t.1 else 0) := by
 unfold coefV
 rw [List.filter_append, List.map_append, List.sum_append]
 congr 1
 by_cases q : vof t.2 = x
 ·rw [List.filter_cons_of_pos (p := fun t : Int × Int => decide (vof t.2 = x)) (decide_eq_true q), if_pos q]
  show t.1 + 0 = t.1
  omega
 ·rw [List.filter_cons_of_neg (p := fun t : Int × Int => decide (vof t.2 = x)) (by rw [decide_eq_true_eq]; exact q), if_neg q]
  rfl

theorem keep_snoc (l : List (Int × Int)) (t : Int × Int) (x : Int) : (l ++ [t]).filter (fun t => !decide (vof t.2 = x)) = l.filter (fun t => !decide (vof t.2 = x)) ++ (if vof t.2 = x then [] else [t]) := by
 rw [List.filter_append]
 congr 1
 by_cases q : vof t.2 = x
 ·rw [List.filter_cons_of_neg (by rw [decide_eq_true q]; decide), if_pos q]
  rfl
 ·rw [List.filter_cons_of_pos (by rw [decide_eq_false q]; rfl), if_neg q]
  rfl

theorem coefV_before {c : ConT} {x : Int} {i : Nat} (hc : conB c = true) (hi : i < c.1.length) (hx : vof (c.1.getD i (0, 0)).2 = x) : coefV (c.1.take i) x = 0 := by
 have hp := (conB_mem.1 hc).2.1
 unfold coefV
 have : (c.1.take i).filter (fun t => decide (vof t.2 = x)) = [] := List.filter_eq_nil_iff.2 (fun t ht => by
  obtain ⟨j, hj, rfl⟩ := List.mem_iff_getElem.1 ht
  rw [List.length_take] at hj
  have := List.pairwise_iff_getElem.1 hp j i (by omega) hi (by omega)
  rw [List.getD_eq_getElem?_getD, List.getElem?_eq_getElem hi] at hx
  have hx : vof (c.1[i]).2 = x := hx
  rw [List.getElem_take, decide_eq_true_eq]
  omega)
 rw [this]
 rfl

theorem coefV_le {c : ConT} {x : Int} (hc : conB c = true) : ∀ i, i ≤ c.1.length → 0 ≤ coefV (c.1.take i) x ∧ coefV (c.1.take i) x ≤ 1000 * i
 | 0, _ => ⟨Int.le_refl _, Int.le_refl _⟩
 | i + 1, hi => by
  have ih := coefV_le (x := x) hc i (by omega)
  obtain ⟨l1, l2, l3⟩ := (con_at hc).2 i (by omega)
  rw [take_snoc (0, 0) (by omega), coefV_snoc]
  split <;> omega

theorem impl_Weak_eq {c : ConT} {x : Int} (hc : conB c = true) : impl_WeakenConstraint c x = some (weakB c x) := by
 have c1 := con_small hc
 obtain ⟨_, c2⟩ := con_at hc
 unfold impl_WeakenConstraint weakB
 rw [impl_ConstraintValid_eq c (by omega), bind_s, hc, cnt, impl_within_eq, bind_s, Bool.true_and]
 cases hq : decide (1 ≤ x) && decide (x ≤ 12) with
 | false => rw [cnf, cff]; rfl
 | true =>
  rw [cnt, ctt]
  refine loop_fn (f := impl_WeakenConstraint_l1 c x) (fun s : Int × Int × List (Int × Int) => ∃ n : Nat, s.1 = n ∧ n ≤ c.1.length ∧ s.2.1 = max 0 (c.2 - coefV (c.1.take n) x) ∧ s.2.2 = (c.1.take n).filter (fun t => !decide (vof t.2 = x))) (fun s => c.1.length - s.1.toNat) (fun _ => outC (weakC c x)) ?_ _ ⟨0, rfl, Nat.zero_le _, by show c.2 = max 0 (c.2 - 0); omega, rfl⟩
  rintro ⟨s, b, o⟩ ⟨n, hs, hn, hb, ho⟩
  dsimp only at hs hb ho ⊢
  subst hs
  have hcl := coefV_le (x := x) hc n hn
  have hol : o.length ≤ n := by
   rw [ho]
   have := List.length_filter_le (fun t : Int × Int => !decide (vof t.2 = x)) (c.1.take n)
   rw [List.length_take] at this
   omega
  unfold impl_WeakenConstraint_l1
  dsimp only
  rcases Nat.lt_or_ge n c.1.length with h1 | h1
  ·left
   obtain ⟨l1, l2, l3⟩ := c2 n h1
   have hlit := isLit_iff.1 l1
   rw [cdec_pos (by omega), rq_pos ⟨by omega, by omega⟩, Int.toNat_natCast, impl_variableOf_eq (by omega), bind_s]
   by_cases q : vof (c.1.getD n (0, 0)).2 = x
   ·have h0 := coefV_before hc h1 q
    rw [cbeq_pos q, rq_i64 (by omega) (by omega), rq_i64 (by omega) (by omega)]
    refine ⟨_, rfl, ⟨n + 1, by simp, by omega, ?_, ?_⟩, by (try dsimp only) <;> omega, rfl⟩
    ·dsimp only
     rw [take_snoc (0, 0) h1, coefV_snoc, if_pos q, h0, Int.zero_add]
    ·dsimp only
     rw [take_snoc (0, 0) h1, keep_snoc, if_pos q, List.append_nil, ho]
   ·rw [cbeq_neg q, rq_pos (by simp only [bound, List.length_cons, List.length_nil]; omega), rq_i64 (by omega) (by omega)]
    refine ⟨_, rfl, ⟨n + 1, by simp, by omega, ?_, ?_⟩, by (try dsimp only) <;> omega, rfl⟩
    ·dsimp only
     rw [take_snoc (0, 0) h1, coefV_snoc, if_neg q, Int.add_zero]
     exact hb
    ·dsimp only
     rw [take_snoc (0, 0) h1, keep_snoc, if_neg q, ho]
  ·right
   have hnn : n = c.1.length := by omega
   rw [hnn, List.take_length] at hb ho
   rw [cdec_neg (by omega), hb, ho]
   rfl

end Go.AE.Y
namespace Go.AE.Y
open Go Go.AE
set_option maxHeartbeats 400000

theorem tot_snoc {c : ConT} {n : Nat} (h : n < c.1.length) : ((c.1.take (n + 1)).map (fun t => t.1)).sum = ((c.1.take n).map (fun t => t.1)).sum + (c.1.getD n (0, 0)).1 := by
 rw [take_snoc (0, 0) h, List.map_append, List.sum_append]
 show _ + ((c.1.getD n (0, 0)).1 + 0) = _
 omega

theorem tot_le {c : ConT} (hc : conB c = true) : ∀ n, n ≤ c.1.length → 0 ≤ ((c.1.take n).map (fun t => t.1)).sum ∧ ((c.1.take n).map (fun t => t.1)).sum ≤ 1000 * n
 | 0, _ => ⟨Int.le_refl _, Int.le_refl _⟩
 | n + 1, h => by
  have ih := tot_le hc n (by omega)
  obtain ⟨l1, l2, l3⟩ := (con_at hc).2 n (by omega)
  rw [tot_snoc (by omega)]
  omega

theorem impl_total_eq {c : ConT} (hc : conB c = true) : impl_Constraint_total c = some (totC c) := by
 have c1 := con_small hc
 unfold impl_Constraint_total
 refine loop_fn (f := impl_Constraint_total_l1 c) (fun s : Int × Int => ∃ n : Nat, s.2 = n ∧ n ≤ c.1.length ∧ s.1 = ((c.1.take n).map (fun t => t.1)).sum) (fun s => c.1.length - s.2.toNat) (fun _ => totC c) ?_ _ ⟨0, rfl, Nat.zero_le _, rfl⟩
 rintro ⟨x, s⟩ ⟨n, hs, hn, hx⟩
 dsimp only at hs hx ⊢
 subst hs
 have hb := tot_le hc n hn
 unfold impl_Constraint_total_l1
 dsimp only
 rcases Nat.lt_or_ge n c.1.length with h1 | h1
 ·left
  obtain ⟨l1, l2, l3⟩ := (con_at hc).2 n h1
  rw [cdec_pos (by omega), rq_pos ⟨by omega, by omega⟩, Int.toNat_natCast, rq_i64 (by omega) (by omega), rq_i64 (by omega) (by omega)]
  exact ⟨_, rfl, ⟨n + 1, by simp, by omega, by dsimp only; rw [tot_snoc h1, hx]⟩, by (try dsimp only) <;> omega, rfl⟩
 ·right
  have : n = c.1.length := by omega
  rw [this, List.take_length] at hx
  rw [cdec_neg (by omega), hx]
  rfl

theorem impl_False_eq {c : ConT} (hl : c.1.length ≤ 1048576) : impl_ConstraintFalse c = some (falseB c) := by
 unfold impl_ConstraintFalse falseB
 rw [impl_ConstraintValid_eq c (by omega), bind_s]
 cases hc : conB c with
 | false => rw [cff, Bool.false_and]
 | true => rw [ctt, impl_total_eq hc, bind_s, Bool.true_and]

theorem impl_neg_eq {c : ConT} (hc : conB c = true) : impl_Constraint_negation c = some ((negC c).2, (negC c).1) := by
 have c1 := con_small hc
 have ht := sum_tot hc
 obtain ⟨_, c2⟩ := con_at hc
 unfold impl_Constraint_negation impl_Constraint_negation_j1 impl_Constraint_negation_j2
 rw [impl_total_eq hc, bind_s, rq_i64 (by omega) (by omega), rq_i64 (by omega) (by omega)]
 have := loop_push_map (f := impl_Constraint_negation_l1 c (max 0 (totC c - c.2 + 1))) c.1 (0, 0) (fun t => (t.1, 0 - t.2)) [] (fun o => (max 0 (totC c - c.2 + 1), o)) (fun i out hi ho => ?_) ?_
 ·rw [List.nil_append] at this
  exact this
 ·obtain ⟨l1, _, _⟩ := c2 i hi
  have hlit := isLit_iff.1 l1
  unfold impl_Constraint_negation_l1 impl_Constraint_negation_j3
  dsimp only
  rw [cdec_pos (by omega), rq_pos ⟨by omega, by omega⟩, Int.toNat_natCast, rq_i64 (by omega) (by omega), rq_pos (by simp only [bound, List.length_cons, List.length_nil]; simp at ho; omega), rq_i64 (by omega) (by omega)]
 ·unfold impl_Constraint_negation_l1
  dsimp only
  rw [cdec_neg (by omega)]

theorem impl_rup_eq {L : ProbT} {c : ConT} (hL : goodL L) (hl : L.length ≤ 1000000) (hc : conB c = true) : impl_rup L c = some (rupB L c) := by
 obtain ⟨r, e, eb⟩ := rup_eq hL hl hc
 unfold impl_rup impl_rup_j1
 rw [CloneC_eq L (by omega), bind_s, impl_neg_eq hc, bind_s, rq_pos (by simp only [bound, List.length_cons, List.length_nil]; omega), rq_pos ⟨by omega, by simp only [bound]; omega, rfl⟩]
 show (impl_propagate (L ++ [negC c]) zero12).bind _ = _
 rw [e, bind_s, eb]

theorem leftN_snoc (d : DbT) (n : Nat) : leftN d (n + 1) = leftN d n ++ (bif d.2.getD n false then [] else [d.1.getD n ([], 0)]) := rfl

theorem impl_left_eq {d : DbT} (hg : d.2.length = d.1.length) (hl : d.1.length ≤ 1000000) : impl_running_left__Rss d.1 d.2 = some (leftD d) := by
 unfold impl_running_left__Rss
 refine loop_fn (f := impl_running_left__Rss_l1 d.1 d.2) (fun s : Int × ProbT => ∃ n : Nat, s.1 = n ∧ n ≤ d.1.length ∧ s.2 = leftN d n) (fun s => d.1.length - s.1.toNat) (fun _ => leftD d) ?_ _ ⟨0, rfl, Nat.zero_le _, rfl⟩
 rintro ⟨s, o⟩ ⟨n, hs, hn, ho⟩
 dsimp only at hs ho ⊢
 subst hs
 have hlen := leftN_len d n
 unfold impl_running_left__Rss_l1
 dsimp only
 rcases Nat.lt_or_ge n d.1.length with h1 | h1
 ·left
  rw [cdec_pos (by omega), rq_pos ⟨by omega, by omega⟩, rq_pos ⟨by omega, by omega⟩, Int.toNat_natCast]
  cases hq : d.2.getD n false with
  | true =>
   rw [cnt, rq_i64 (by omega) (by omega)]
   exact ⟨_, rfl, ⟨n + 1, by simp, by omega, by dsimp only; rw [leftN_snoc, hq, ctt, List.append_nil, ho]⟩, by (try dsimp only) <;> omega, rfl⟩
  | false =>
   rw [cnf, rq_pos (by rw [ho]; simp only [bound, List.length_cons, List.length_nil]; omega), rq_i64 (by omega) (by omega)]
   exact ⟨_, rfl, ⟨n + 1, by simp, by omega, by dsimp only; rw [leftN_snoc, hq, cff, ho]⟩, by (try dsimp only) <;> omega, rfl⟩
 ·right
  have : n = d.1.length := by omega
  rw [cdec_neg (by omega), ho, this]
  rfl

theorem impl_has_eq {d : DbT} {i : Int} (hg : d.2.length = d.1.length) (hl : d.1.length ≤ 1000000) : impl_running_has__Rss i d.1 d.2 = some (liveB d i) := by
 unfold impl_running_has__Rss liveB
 rw [rq_i64 (by omega) (by omega), impl_within_eq, bind_s]
 by_cases q1 : 0 ≤ i
 ·rw [decide_eq_true q1, Bool.true_and]
  by_cases q2 : i < d.1.length
  ·rw [decide_eq_true (show i ≤ (d.1.length : Int) - 1 by omega), ctt, rq_pos ⟨by omega, by omega⟩, decide_eq_true q2, Bool.true_and, Bool.true_and]
  ·rw [decide_eq_false (show ¬ i ≤ (d.1.length : Int) - 1 by omega), cff, decide_eq_false q2, Bool.and_false, Bool.false_and]
 ·rw [decide_eq_false q1, Bool.false_and, cff, Bool.false_and, Bool.false_and]

theorem refers_eq (k : Int) : ∃ n b, impl_refers k = some (n, b) ∧ ((k = 1 ∧ n = 2 ∧ b = false) ∨ ((k = 2 ∨ k = 3 ∨ k = 5) ∧ n = 1 ∧ b = true) ∨ ((k = 4 ∨ k = 8) ∧ n = 1 ∧ b = false) ∨ ((k = 6 ∨ k = 7) ∧ n = 0 ∧ b = false) ∨ ((k ≤ 0 ∨ 9 ≤ k) ∧ n = -1 ∧ b = false)) := by
 unfold impl_refers
 by_cases k1 : k = 1
 ·rw [cbeq_pos k1]; exact ⟨_, _, rfl, Or.inl ⟨k1, rfl, rfl⟩⟩
 rw [cbeq_neg k1]
 by_cases k2 : k = 2
 ·rw [cbeq_pos k2]; exact ⟨_, _, rfl, by simp [k2]⟩
 rw [cbeq_neg k2]
 by_cases k3 : k = 3
 ·rw [cbeq_pos k3]; exact ⟨_, _, rfl, by simp [k3]⟩
 rw [cbeq_neg k3]
 by_cases k5 : k = 5
 ·rw [cbeq_pos k5]; exact ⟨_, _, rfl, by simp [k5]⟩
 rw [cbeq_neg k5]
 by_cases k4 : k = 4
 ·rw [cbeq_pos k4]; exact ⟨_, _, rfl, by simp [k4]⟩
 rw [cbeq_neg k4]
 by_cases k8 : k = 8
 ·rw [cbeq_pos k8]; exact ⟨_, _, rfl, by simp [k8]⟩
 rw [cbeq_neg k8]
 by_cases k6 : k = 6
 ·rw [cbeq_pos k6]; exact ⟨_, _, rfl, by simp [k6]⟩
 rw [cbeq_neg k6]
 by_cases k7 : k = 7
 ·rw [cbeq_pos k7]; exact ⟨_, _, rfl, by simp [k7]⟩
 rw [cbeq_neg k7]
 exact ⟨_, _, rfl, Or.inr (Or.inr (Or.inr (Or.inr ⟨by omega, rfl, rfl⟩)))⟩

theorem Same_none_eq {s : StepT} (hl : s.2.2.2.1.length ≤ 1048576) : impl_ConstraintSame s.2.2.2 (([] : List (Int × Int)), (0 : Int)) = some (noneG s) := by
 unfold impl_ConstraintSame noneG
 by_cases q : s.2.2.2.2 = 0
 ·rw [cbeq_pos q, decide_eq_true q, Bool.and_true]
  have e : slices_Equal_impl_Term s.2.2.2.1 [] = some (decide (s.2.2.2.1 = [])) := by
   unfold slices_Equal_impl_Term
   cases hs : s.2.2.2.1 with
   | nil =>
    rw [show ((([] : List (Int × Int)).length : Int) != (([] : List (Int × Int)).length : Int)) = false by simp, cff, loop_eq]
    unfold slices_Equal_impl_Term_l1
    rw [cdec_neg (by simp), bind_s]
    rfl
   | cons t l =>
    rw [show (((t :: l).length : Int) != (([] : List (Int × Int)).length : Int)) = true by simp; omega, ctt, decide_eq_false (by simp)]
  rw [e, bind_s]
 ·rw [cbeq_neg q, decide_eq_false q, Bool.and_false]

theorem impl_parts_eq {s : StepT} (hl : s.2.2.2.1.length ≤ 1048576) : impl_Step_shaped s = some (partsB s) := by
 obtain ⟨n, b, e, h⟩ := refers_eq s.1
 have hs := Same_none_eq hl
 unfold impl_Step_shaped partsB
 rw [e, bind_s]
 dsimp only
 rcases h with ⟨k, rfl, rfl⟩ | ⟨k, rfl, rfl⟩ | ⟨k, rfl, rfl⟩ | ⟨k, rfl, rfl⟩ | ⟨k, rfl, rfl⟩
 ·rw [cdec_pos (by omega), cdec_pos (by omega), cbeq_pos rfl, cbeq_neg (by omega), hs, bind_s, if_pos (Or.inl k)]
 ·rw [cdec_pos (by omega), cdec_pos (by omega), cbeq_neg (by omega), ctt, cbeq_neg (by omega), hs, bind_s, if_pos (by omega)]
 ·rw [cdec_pos (by omega), cdec_pos (by omega), cbeq_neg (by omega), cff, if_neg (by omega), if_pos (by omega)]
  by_cases q : s.2.2.1 = 0
  ·rw [cbeq_pos q, cbeq_neg (by omega), hs, bind_s, decide_eq_true q, Bool.and_true]
  ·rw [cbeq_neg q, decide_eq_false q, Bool.and_false]
 ·rw [cdec_pos (by omega), cdec_neg (by omega), if_neg (by omega)]
  rcases k with k | k
  ·rw [cbeq_pos k, cbeq_neg (by omega), cff, if_pos (by omega)]
   by_cases q : s.2.2.1 = 0
   ·rw [cbeq_pos q, cbeq_neg (by omega), hs, bind_s, decide_eq_true q, Bool.and_true]
   ·rw [cbeq_neg q, decide_eq_false q, Bool.and_false]
  ·rw [cbeq_neg (by omega), if_neg (by omega), if_pos k]
   by_cases q0 : s.2.1 = 0
   ·rw [cbeq_pos q0, cbeq_neg (by omega), cff, decide_eq_true q0, Bool.true_and]
    by_cases q : s.2.2.1 = 0
    ·rw [cbeq_pos q, cbeq_pos k, decide_eq_true q]
    ·rw [cbeq_neg q, decide_eq_false q]
   ·rw [cbeq_neg q0, decide_eq_false q0, Bool.false_and]
 ·rw [cdec_neg (by omega), if_neg (by omega), if_neg (by omega), if_neg (by omega)]

end Go.AE.Y
namespace Go.AE.Y
open Go Go.AE
set_option maxHeartbeats 400000

structure DbOk (d : DbT) : Prop where
 good : goodL d.1
 gone : d.2.length = d.1.length
 few : d.1.length ≤ 900000

theorem impl_Lit_eq (l : Int) : impl_LiteralAxiom l = some (axB l) := by
 unfold impl_LiteralAxiom axB
 rw [impl_isLiteral_eq, bind_s]
 cases isLit l with
 | true => rw [cnt, ctt]; rfl
 | false => rw [cnf, cff]; rfl

theorem left_few {d : DbT} (h : DbOk d) : (leftD d).length ≤ 900000 := by
 have := leftN_len d d.1.length
 have := h.few
 unfold leftD
 omega

theorem impl_push_eq {d : DbT} (h : DbOk d) (f : Bool) (t : List (Int × Int)) (b : Int) : impl_running_step__Rss_j3 d.1 d.2 ((t, b), f) = some (f, d.1 ++ [(t, b)], d.2 ++ [false]) := by
 have := h.few
 have := h.gone
 unfold impl_running_step__Rss_j3 impl_running_step__Rss_j4
 dsimp only
 rw [rq_pos (by simp only [bound, List.length_cons, List.length_nil]; omega), rq_pos (by simp only [bound, List.length_cons, List.length_nil]; omega)]

theorem impl_step_eq {d : DbT} {s : StepT} (h : DbOk d) (hl : s.2.2.2.1.length ≤ 1048576) : ∃ r, impl_running_step__Rss s d.1 d.2 = some r ∧ (r.1 = true → stepD d s = some (r.2.1, r.2.2)) ∧ (r.1 = false → stepD d s = none) := by
 have hf := h.few
 have hg := h.gone
 obtain ⟨n, b, e, hk⟩ := refers_eq s.1
 unfold impl_running_step__Rss impl_running_step__Rss_j1 stepD
 rw [e, bind_s, impl_parts_eq hl, bind_s]
 dsimp only
 cases hp : partsB s with
 | false => rw [cnf, cff]; exact ⟨_, rfl, fun q => (by cases q), fun _ => rfl⟩
 | true =>
  rw [cnt, ctt]
  have hkind : 1 ≤ s.1 ∧ s.1 ≤ 8 := by
   unfold partsB at hp
   by_cases q1 : s.1 = 1 ∨ s.1 = 2 ∨ s.1 = 3 ∨ s.1 = 5
   ·omega
   ·rw [if_neg q1] at hp
    by_cases q2 : s.1 = 4 ∨ s.1 = 6 ∨ s.1 = 8
    ·omega
    ·rw [if_neg q2] at hp
     by_cases q3 : s.1 = 7
     ·omega
     ·rw [if_neg q3] at hp; cases hp

  have push : ∀ (r : ConR) (f : Bool) (t : List (Int × Int)) (c : Int), r.1 = f → (f = true → r = (f, c, t)) → s.1 ≠ 8 → deriveB d s = r → ∃ q, impl_running_step__Rss_j3 d.1 d.2 ((t, c), f) = some q ∧ (q.1 = true → (if s.1 = 8 then (bif liveB d s.2.1 then some (d.1, d.2.set s.2.1.toNat true) else none) else (bif (deriveB d s).1 then some (d.1 ++ [ofR (deriveB d s)], d.2 ++ [false]) else none)) = some (q.2.1, q.2.2)) ∧
    (q.1 = false → (if s.1 = 8 then (bif liveB d s.2.1 then some (d.1, d.2.set s.2.1.toNat true) else none) else (bif (deriveB d s).1 then some (d.1 ++ [ofR (deriveB d s)], d.2 ++ [false]) else none)) = none) := fun r f t c h1 h2 h8 hd => by
   rw [impl_push_eq h, if_neg h8, hd, h1]
   cases f with
   | true =>
    rw [ctt, h2 rfl]
    exact ⟨_, rfl, fun _ => rfl, fun q => by cases q⟩
   | false =>
    rw [cff]
    exact ⟨_, rfl, fun q => (by cases q), fun _ => rfl⟩
  have flip : ∀ r : ConR, (r.1 = true → r = (r.1, (flipR r).2.2, (flipR r).2.1)) := fun r _ => rfl
  have dead : liveB d s.2.1 = false → s.1 ≠ 6 → s.1 ≠ 7 → (if s.1 = 8 then (bif liveB d s.2.1 then some (d.1, d.2.set s.2.1.toNat true) else none) else (bif (deriveB d s).1 then some (d.1 ++ [ofR (deriveB d s)], d.2 ++ [false]) else none)) = none := fun q h6 h7 => by
   by_cases k8 : s.1 = 8
   ·rw [if_pos k8, q, cff]
   ·rw [if_neg k8]
    unfold deriveB
    rw [if_neg h6, if_neg h7, q, cff]
    rfl
  have hA : s.1 ≠ 6 → s.1 ≠ 7 → liveB d s.2.1 = true → deriveB d s = (if s.1 = 1 then (bif liveB d s.2.2.1 then addB (conAt d s.2.1) (conAt d s.2.2.1) else noC) else if s.1 = 2 then mulB (conAt d s.2.1) s.2.2.1 else if s.1 = 3 then divB (conAt d s.2.1) s.2.2.1 else if s.1 = 4 then satB (conAt d s.2.1) else weakB (conAt d s.2.1) s.2.2.1) := fun h6 h7 q => by
   unfold deriveB
   rw [if_neg h6, if_neg h7, q, ctt]
  by_cases k67 : s.1 = 6 ∨ s.1 = 7
  ·have hn : n = 0 := by omega
   rw [hn, cdec_neg (by omega), cdec_neg (by omega)]
   unfold impl_running_step__Rss_j2
   rw [cbeq_neg (by omega), cbeq_neg (by omega), cbeq_neg (by omega), cbeq_neg (by omega), cbeq_neg (by omega), cbeq_neg (by omega)]
   rcases k67 with k | k
   ·rw [cbeq_pos k, impl_Lit_eq, bind_s]
    exact push (axB s.2.1) _ _ _ rfl (fun _ => rfl) (by omega) (by unfold deriveB; rw [if_pos k])
   ·rw [cbeq_neg (by omega), cbeq_pos k, impl_ConstraintValid_eq s.2.2.2 (by omega), bind_s]
    have hd : deriveB d s = (bif conB s.2.2.2 && rupB (leftD d) s.2.2.2 then outC s.2.2.2 else noC) := by
     unfold deriveB
     rw [if_neg (by omega), if_pos k]
    cases hc : conB s.2.2.2 with
    | false =>
     rw [cff]
     rw [hc, Bool.false_and, cff] at hd
     exact push noC _ _ _ rfl (fun q => by cases q) (by omega) hd
    | true =>
     rw [ctt, impl_left_eq h.gone (by omega), bind_s, impl_rup_eq (left_good h.good) (by have := left_few h; omega) hc, bind_s]
     rw [hc, Bool.true_and] at hd
     cases hr : rupB (leftD d) s.2.2.2 with
     | true =>
      rw [hr, ctt] at hd
      exact push (outC s.2.2.2) _ _ _ rfl (fun _ => rfl) (by omega) hd
     | false =>
      rw [hr, cff] at hd
      exact push noC _ _ _ rfl (fun q => by cases q) (by omega) hd
  ·have hn : 1 ≤ n := by omega
   rw [cdec_pos (by omega), impl_has_eq h.gone (by omega), bind_s]
   cases qa : liveB d s.2.1 with
   | false =>
    rw [cnf]
    have dd := dead qa (by omega) (by omega)
    rw [qa] at dd
    exact ⟨_, rfl, fun q => (by cases q), fun _ => dd⟩
   | true =>
    obtain ⟨a0, a1, a2⟩ := con_live qa
    have ca : conB (d.1.getD s.2.1.toNat ([], 0)) = true := (h.good _ a2).1
    have hA := hA (by omega) (by omega) qa
    rw [qa] at push
    rw [cnt]
    by_cases k1 : s.1 = 1
    ·have hn : n = 2 := by omega
     rw [if_pos k1] at hA
     rw [hn, cdec_pos (by omega), impl_has_eq h.gone (by omega), bind_s]
     cases qb : liveB d s.2.2.1 with
     | false =>
      rw [qb, cff] at hA
      rw [cnf]
      exact ⟨_, rfl, fun q => (by cases q), fun _ => by rw [if_neg (show ¬ s.1 = 8 by omega), hA]; rfl⟩
     | true =>
      obtain ⟨b0, b1, b2⟩ := con_live qb
      have cb : conB (d.1.getD s.2.2.1.toNat ([], 0)) = true := (h.good _ b2).1
      rw [qb, ctt] at hA
      unfold impl_running_step__Rss_j2
      rw [cnt, cbeq_neg (by omega), cbeq_pos k1, rq_pos ⟨a0, by omega⟩, rq_pos ⟨b0, by omega⟩, impl_Add_eq ca cb, bind_s]
      exact push (addB _ _) _ _ _ rfl (fun _ => rfl) (by omega) hA
    ·have hn : n = 1 := by omega
     rw [if_neg k1] at hA
     rw [hn, cdec_neg (by omega)]
     unfold impl_running_step__Rss_j2
     by_cases k8 : s.1 = 8
     ·rw [cbeq_pos k8, rq_pos ⟨a0, by omega⟩]
      exact ⟨_, rfl, fun _ => (by rw [if_pos k8, ctt]), fun q => by cases q⟩
     rw [cbeq_neg k8, cbeq_neg k1]
     by_cases k2 : s.1 = 2
     ·rw [if_pos k2] at hA
      rw [cbeq_pos k2, rq_pos ⟨a0, by omega⟩, impl_Mul_eq ca, bind_s]
      exact push (mulB _ _) _ _ _ rfl (flip _) (by omega) hA
     rw [if_neg k2] at hA
     rw [cbeq_neg k2]
     by_cases k3 : s.1 = 3
     ·rw [if_pos k3] at hA
      rw [cbeq_pos k3, rq_pos ⟨a0, by omega⟩, impl_Div_eq ca, bind_s]
      exact push (divB _ _) _ _ _ rfl (flip _) (by omega) hA
     rw [if_neg k3] at hA
     rw [cbeq_neg k3]
     by_cases k4 : s.1 = 4
     ·rw [if_pos k4] at hA
      rw [cbeq_pos k4, rq_pos ⟨a0, by omega⟩, impl_Sat_eq ca, bind_s]
      exact push (satB _) _ _ _ rfl (fun _ => rfl) (by omega) hA
     rw [if_neg k4] at hA
     rw [cbeq_neg k4, cbeq_pos (by omega), rq_pos ⟨a0, by omega⟩, impl_Weak_eq ca, bind_s]
     exact push (weakB _ _) _ _ _ rfl (fun _ => rfl) (by omega) hA

theorem step_ok {d d' : DbT} {s : StepT} (h : DbOk d) (hf : d.1.length < 900000) (hs : stepD d s = some d') : DbOk d' ∧ d'.1.length ≤ d.1.length + 1 := by
 unfold stepD at hs
 cases hp : partsB s with
 | false => rw [hp, cff] at hs; cases hs
 | true =>
  rw [hp, ctt] at hs
  by_cases k8 : s.1 = 8
  ·rw [if_pos k8] at hs
   cases hv : liveB d s.2.1 with
   | false => rw [hv, cff] at hs; cases hs
   | true =>
    rw [hv, ctt] at hs
    injection hs with hs
    subst hs
    exact ⟨⟨h.good, by dsimp only; rw [List.length_set]; exact h.gone, h.few⟩, Nat.le_succ _⟩
  ·rw [if_neg k8] at hs
   cases hv : (deriveB d s).1 with
   | false => rw [hv, cff] at hs; cases hs
   | true =>
    rw [hv, ctt] at hs
    injection hs with hs
    subst hs
    have o1 := (derive_ok h.good (by have := h.few; omega) hv).1
    have o12 := con_12 o1
    have hg := h.gone
    refine ⟨⟨fun c hc => ?_, by dsimp only; rw [List.length_append, List.length_append, List.length_singleton, List.length_singleton, hg], by dsimp only; rw [List.length_append, List.length_singleton]; omega⟩, by dsimp only; rw [List.length_append, List.length_singleton]; omega⟩
    rcases List.mem_append.1 hc with q | q
    ·exact h.good c q
    ·rw [List.mem_singleton] at q
     rw [q]
     exact ⟨o1, by omega⟩

theorem run_snoc {d d' : DbT} {S : List StepT} {n : Nat} (hn : n < S.length) (h : runB d (S.take n) = some d') : runB d (S.take (n + 1)) = stepD d' (S.getD n zS) := by
 rw [take_snoc zS hn, run_append, h, bind_s]
 show (stepD d' (S.getD n zS)).bind (fun d'' => some d'') = _
 cases stepD d' (S.getD n zS) <;> rfl

theorem run_none {d d' : DbT} {S : List StepT} {n : Nat} (hn : n < S.length) (h : runB d (S.take n) = some d') (h2 : stepD d' (S.getD n zS) = none) : runB d S = none := by
 have e : S = S.take (n + 1) ++ S.drop (n + 1) := (List.take_append_drop _ _).symm
 rw [e, run_append, run_snoc hn h, h2]
 rfl

theorem start_ok {l : ProbT} (hg : goodL l) (h4 : l.length ≤ 400) : DbOk (startD l) := ⟨hg, List.length_replicate, by show l.length ≤ 900000; omega⟩

def smallSt (S : List StepT) : Prop := ∀ s ∈ S, s.2.2.2.1.length ≤ 1048576

theorem impl_run_eq {l : ProbT} {S : List StepT} (hs : smallC l) (hS : smallSt S) :
  ∃ r, impl_run l S = some r ∧ ((r.1 = true ∧ r.2.1 = -1 ∧ (probB l = true ∧ S.length ≤ 1000) ∧ runB (startD l) S = some (r.2.2.1, r.2.2.2.1)) ∨ (r.1 = false ∧ 0 ≤ r.2.2.2.2 ∧ ¬ ((probB l = true ∧ S.length ≤ 1000) ∧ ∃ d, runB (startD l) S = some d))) := by
 unfold impl_run impl_run_j1
 rw [impl_ProblemValid_eq l hs, bind_s]
 cases hp : probB l with
 | false => rw [cnf]; exact ⟨_, rfl, Or.inr ⟨rfl, Int.le_refl _, fun h => by cases h.1.1⟩⟩
 | true =>
  rw [cnt]
  by_cases q : 1000 < (S.length : Int)
  ·rw [cdec_pos q]; exact ⟨_, rfl, Or.inr ⟨rfl, Int.le_refl _, fun h => by have := h.1.2; omega⟩⟩
  ·obtain ⟨hg, h4⟩ := prob_good hs hp
   rw [cdec_neg q, CloneC_eq l (by omega), bind_s, rq_pos ⟨by omega, by simp only [bound]; omega, rfl⟩, Int.toNat_natCast]
   have := loop_ex (f := impl_run_l1 S) (fun s : Int × ProbT × List Bool => ∃ n : Nat, s.1 = n ∧ n ≤ S.length ∧ runB (startD l) (S.take n) = some (s.2.1, s.2.2) ∧ DbOk (s.2.1, s.2.2) ∧ s.2.1.length ≤ 400 + n) (fun s => S.length - s.1.toNat)
    (fun r => (r.1 = true ∧ r.2.1 = -1 ∧ (true = true ∧ S.length ≤ 1000) ∧ runB (startD l) S = some (r.2.2.1, r.2.2.2.1)) ∨ (r.1 = false ∧ 0 ≤ r.2.2.2.2 ∧ ¬ ((true = true ∧ S.length ≤ 1000) ∧ ∃ d, runB (startD l) S = some d))) ?_ ((0 : Int), l, List.replicate l.length false) ⟨0, rfl, Nat.zero_le _, rfl, start_ok hg h4, by show l.length ≤ 400 + 0; omega⟩
   ·exact this
   rintro ⟨i, all, gone⟩ ⟨n, hn1, hn, hr, hok, hlen⟩
   dsimp only at hn1 hr hok hlen
   subst hn1
   unfold impl_run_l1
   dsimp only
   rcases Nat.lt_or_ge n S.length with h1 | h1
   ·have hm := hS _ (getD_mem (l := S) (i := n) (d := zS) h1)
    obtain ⟨r, er, h2, h3⟩ := impl_step_eq hok hm
    have er : impl_running_step__Rss (S.getD n (0, (0, (0, ([], 0))))) all gone = some r := er
    rw [cdec_pos (by omega), rq_pos ⟨by omega, by omega⟩, Int.toNat_natCast, er, bind_s]
    cases hr1 : r.1 with
    | true =>
     left
     rw [cnt, rq_i64 (by omega) (by omega)]
     have h2 := h2 hr1
     have hso := step_ok hok (by dsimp only; omega) h2
     refine ⟨_, rfl, ⟨n + 1, by simp, by omega, ?_, hso.1, ?_⟩, by (try dsimp only) <;> omega⟩
     ·dsimp only
      rw [run_snoc h1 hr]
      exact h2
     ·have := hso.2
      dsimp only at this ⊢
      omega
    | false =>
     right
     rw [cnf]
     refine ⟨_, rfl, Or.inr ⟨rfl, by (try dsimp only) <;> omega, fun h => ?_⟩⟩
     obtain ⟨_, d, hd⟩ := h
     rw [run_none h1 hr (h3 hr1)] at hd
     cases hd
   ·right
    have hnn : n = S.length := by omega
    rw [hnn, List.take_length] at hr
    rw [cdec_neg (by omega)]
    exact ⟨_, rfl, Or.inl ⟨rfl, rfl, ⟨rfl, by omega⟩, hr⟩⟩

end Go.AE.Y
namespace Go.AE.Y
open Go Go.AE
set_option maxHeartbeats 400000

theorem run_ok : ∀ (S : List StepT) (d d' : DbT), DbOk d → d.1.length + S.length ≤ 900000 → runB d S = some d' → DbOk d' ∧ d'.1.length ≤ d.1.length + S.length ∧ ∀ s ∈ S, partsB s = true
 | [], d, d', h, _, hr => by
  have hr : some d = some d' := hr
  injection hr with hr
  subst hr
  exact ⟨h, Nat.le_refl _, fun s hs => absurd hs List.not_mem_nil⟩
 | s :: S, d, d', h, hl, hr => by
  have hr : (stepD d s).bind (fun d1 => runB d1 S) = some d' := hr
  rw [List.length_cons] at hl
  cases hs : stepD d s with
  | none => rw [hs] at hr; cases hr
  | some d1 =>
   rw [hs, bind_s] at hr
   obtain ⟨o1, o2⟩ := step_ok h (by omega) hs
   obtain ⟨i1, i2, i3⟩ := run_ok S d1 d' o1 (by omega) hr
   refine ⟨i1, by rw [List.length_cons]; omega, fun x hx => ?_⟩
   rcases List.mem_cons.1 hx with e | e
   ·rw [e]
    unfold stepD at hs
    cases hp : partsB s with
    | true => rfl
    | false => rw [hp, cff] at hs; cases hs
   ·exact i3 x e

theorem parts_kind {s : StepT} (hp : partsB s = true) : 1 ≤ s.1 ∧ s.1 ≤ 8 := by
 unfold partsB at hp
 by_cases q1 : s.1 = 1 ∨ s.1 = 2 ∨ s.1 = 3 ∨ s.1 = 5
 ·omega
 ·rw [if_neg q1] at hp
  by_cases q2 : s.1 = 4 ∨ s.1 = 6 ∨ s.1 = 8
  ·omega
  ·rw [if_neg q2] at hp
   by_cases q3 : s.1 = 7
   ·omega
   ·rw [if_neg q3] at hp; cases hp

theorem refute_iff {l : ProbT} {S : List StepT} {q : DbT × Nat} : refuteB l S = some q ↔ (probB l = true ∧ S.length ≤ 1000) ∧ runB (startD l) S = some q.1 ∧ findF q.1 = some q.2 := by
 unfold refuteB
 by_cases h : probB l = true ∧ S.length ≤ 1000
 ·rw [if_pos h]
  cases hr : runB (startD l) S with
  | none => exact ⟨fun e => (by cases e), fun e => (by cases e.2.1)⟩
  | some d =>
   rw [bind_s]
   cases hf : findF d with
   | none =>
    refine ⟨fun e => (by cases e), fun e => ?_⟩
    have e1 := e.2.1
    injection e1 with e1
    have e2 := e.2.2
    rw [← e1, hf] at e2
    cases e2
   | some i =>
    constructor
    ·intro e
     have e : some (d, i) = some q := e
     injection e with e
     subst e
     exact ⟨h, rfl, hf⟩
    ·intro e
     have e1 := e.2.1
     injection e1 with e1
     have e2 := e.2.2
     rw [← e1, hf] at e2
     injection e2 with e2
     show some (d, i) = some q
     rw [e1, e2]
 ·rw [if_neg h]
  exact ⟨fun e => (by cases e), fun e => absurd e.1 h⟩

theorem loop_findN {R : Type} {f : Int → Option (Int ⊕ R)} (n : Nat) (p : Nat → Bool) (hit : Nat → R) (miss : R)
  (h : ∀ i : Nat, i < n → f i = some (bif p i then .inr (hit i) else .inl ((i : Int) + 1))) (hn : f n = some (.inr miss)) : loop f 0 = some (match (List.range n).find? p with | some i => hit i | none => miss) := by
 have key : ∀ k i : Nat, i + k = n → loop f (i : Int) = some (match (List.range' i k).find? p with | some i => hit i | none => miss) := by
  intro k
  induction k with
  | zero =>
   intro i hi
   rw [loop_eq, show i = n by omega, hn]
   rfl
  | succ k ih =>
   intro i hi
   rw [loop_eq, h i (by omega), List.range'_succ, List.find?_cons]
   cases p i with
   | true => rfl
   | false =>
    rw [cff]
    exact ih (i + 1) (by omega)
 have := key n 0 (by omega)
 rw [List.range_eq_range']
 exact this

theorem impl_findF {r : Bool × Int × ProbT × List Bool × Int} (h : DbOk (r.2.2.1, r.2.2.2.1)) : loop (impl_refuting_l1 r) (0 : Int) = some (match findF (r.2.2.1, r.2.2.2.1) with | some i => (true, (i : Int), r.2.2.1, r.2.2.2.1, 0) | none => (true, -1, r.2.2.1, r.2.2.2.1, 0)) := by
 have hf := h.few
 have hg := h.gone
 dsimp only at hf hg
 unfold findF
 refine loop_findN r.2.2.1.length _ (fun i => (true, (i : Int), r.2.2.1, r.2.2.2.1, 0)) (true, -1, r.2.2.1, r.2.2.2.1, 0) (fun i hi => ?_) ?_
 ·unfold impl_refuting_l1
  rw [cdec_pos (by omega), rq_pos ⟨by omega, by omega⟩, rq_pos ⟨by omega, by omega⟩, Int.toNat_natCast]
  dsimp only
  cases hgi : r.2.2.2.1.getD i false with
  | true =>
   rw [cnt, rq_i64 (by omega) (by omega)]
   rfl
  | false =>
   have hm := (h.good _ (getD_mem (l := r.2.2.1) (i := i) (d := ([], 0)) hi)).2
   have hfe : impl_ConstraintFalse (r.2.2.1.getD i ([], 0)) = some (falseB (r.2.2.1.getD i ([], 0))) := impl_False_eq hm
   rw [cnf, hfe, bind_s]
   cases falseB (r.2.2.1.getD i ([], 0)) with
   | true => rfl
   | false => rw [cff, rq_i64 (by omega) (by omega)]; rfl
 ·unfold impl_refuting_l1
  rw [cdec_neg (by omega)]

theorem start_run {l : ProbT} {S : List StepT} {d : DbT} (hs : smallC l) (hp : probB l = true ∧ S.length ≤ 1000) (h : runB (startD l) S = some d) : DbOk d ∧ d.1.length ≤ 400 + S.length ∧ ∀ s ∈ S, partsB s = true := by
 obtain ⟨hg, h4⟩ := prob_good hs hp.1
 have e : (startD l).1.length = l.length := rfl
 obtain ⟨a, b, c⟩ := run_ok S (startD l) d (start_ok hg h4) (by rw [e]; omega) h
 exact ⟨a, by rw [e] at b; omega, c⟩

theorem impl_refuting_eq {l : ProbT} {S : List StepT} (hs : smallC l) (hS : smallSt S) :
  ∃ r, impl_refuting l S = some r ∧ ((∃ q : DbT × Nat, refuteB l S = some q ∧ r = (true, (q.2 : Int), q.1.1, q.1.2, 0)) ∨ (refuteB l S = none ∧ ((r.1 = true ∧ r.2.1 = -1) ∨ (r.1 = false ∧ r.2.2.2.2 = -1)))) := by
 obtain ⟨r, e, h⟩ := impl_run_eq hs hS
 unfold impl_refuting
 rw [e, bind_s]
 rcases h with ⟨h1, h2, h3, h4⟩ | ⟨h1, h2, h3⟩
 ·rw [h1, ctt, h2, cdec_neg (by decide), impl_findF (start_run hs h3 h4).1]
  cases hf : findF (r.2.2.1, r.2.2.2.1) with
  | some i => exact ⟨_, rfl, Or.inl ⟨((r.2.2.1, r.2.2.2.1), i), refute_iff.2 ⟨h3, h4, hf⟩, rfl⟩⟩
  | none =>
   refine ⟨_, rfl, Or.inr ⟨?_, Or.inl ⟨rfl, rfl⟩⟩⟩
   cases hq : refuteB l S with
   | none => rfl
   | some q =>
    obtain ⟨_, b, c⟩ := refute_iff.1 hq
    rw [h4] at b
    injection b with b
    rw [← b, hf] at c
    cases c
 ·rw [h1, cff, cdec_pos h2]
  refine ⟨_, rfl, Or.inr ⟨?_, Or.inr ⟨rfl, rfl⟩⟩⟩
  cases hq : refuteB l S with
  | none => rfl
  | some q =>
   obtain ⟨a, b, c⟩ := refute_iff.1 hq
   exact absurd ⟨a, _, b⟩ h3

theorem impl_CheckRefutation_eq {l : ProbT} {S : List StepT} (hs : smallC l) (hS : smallSt S) : impl_CheckRefutation l S = some (refuteB l S).isSome := by
 obtain ⟨r, e, h⟩ := impl_refuting_eq hs hS
 unfold impl_CheckRefutation
 rw [e, bind_s]
 rcases h with ⟨q, hq, er⟩ | ⟨hq, ⟨h1, h2⟩ | ⟨h1, h2⟩⟩
 ·rw [hq, er]
  show some (decide ((0 : Int) ≤ (q.2 : Int))) = _
  rw [decide_eq_true (by omega)]
  rfl
 ·rw [hq, h1, ctt, h2]; rfl
 ·rw [hq, h1, cff, h2]; rfl

theorem trace_ref {L cs : ProbT} {by_ : List StepT} (ht : Trace L cs by_) : ∀ k, k < cs.length → RefOk (by_.getD k zS) (L.length + k) := fun k hk h7 h6 => by
 obtain ⟨a0, b0⟩ := ht.range k hk h7 h6
 have hf := (ht.refs k hk).2
 have ha : refsB (by_.getD k zS) (by_.getD k zS).2.1.toNat := by
  unfold refsB
  rw [if_neg h7, if_neg h6]
  exact Or.inl (by omega)
 refine ⟨a0, hf _ ha h7, fun k1 => ⟨b0 k1, hf _ ?_ h7⟩⟩
 have := b0 k1
 unfold refsB
 rw [if_neg h7, if_neg h6]
 exact Or.inr ⟨k1, by omega⟩

theorem fill_set {k : Nat} {out : List Bool} (h : k < out.length) : (List.replicate k true ++ out.drop k).set k true = List.replicate (k + 1) true ++ out.drop (k + 1) := by
 rw [List.set_append, if_neg (by rw [List.length_replicate]; omega), List.length_replicate, Nat.sub_self, List.drop_eq_getElem_cons h, List.set_cons_zero, List.replicate_succ', List.append_assoc]
 rfl

theorem loop_pick {β R : Type} {f : Int × List β → Option ((Int × List β) ⊕ R)} (n : Nat) (p : Nat → Bool) (g : Nat → β) (fin : R)
  (h : ∀ (i : Nat) (out : List β), i < n → out.length ≤ n → f ((i : Int), out) = some (.inl ((i : Int) + 1, bif p i then out ++ [g i] else out)))
  (hn : f ((n : Int), ((List.range n).filter p).map g) = some (.inr fin)) : loop f ((0 : Int), []) = some fin := by
 refine loop_fn (fun s : Int × List β => ∃ i : Nat, s.1 = i ∧ i ≤ n ∧ s.2 = ((List.range i).filter p).map g) (fun s => n - s.1.toNat) (fun _ => fin) ?_ _ ⟨0, rfl, Nat.zero_le _, rfl⟩
 rintro ⟨i, out⟩ ⟨j, hj, hl, ho⟩
 dsimp only at hj ho
 subst hj
 rcases Nat.lt_or_ge j n with q | q
 ·left
  have hlen : out.length ≤ n := by
   rw [ho, List.length_map]
   have := List.length_filter_le p (List.range j)
   rw [List.length_range] at this
   omega
  rw [h j out q hlen]
  refine ⟨_, rfl, ⟨j + 1, by simp, by omega, ?_⟩, by (try dsimp only) <;> omega, rfl⟩
  dsimp only
  rw [List.range_succ, List.filter_append, List.map_append, ho]
  cases hp : p j with
  | true => rw [ctt, List.filter_cons_of_pos hp]; rfl
  | false => rw [cff, List.filter_cons_of_neg (by rw [hp]; decide)]; exact (List.append_nil _).symm
 ·right
  have : j = n := by omega
  rw [ho, this]
  exact hn

theorem byF_at (S : List StepT) : byF S = ((List.range S.length).filter (fun i => decide ((S.getD i zS).1 ≠ 8))).map (fun i => S.getD i zS) := by
 have e : (List.range S.length).map (fun i => S.getD i zS) = S := by
  refine List.ext_getElem (by rw [List.length_map, List.length_range]) (fun i h1 h2 => ?_)
  rw [List.getElem_map, List.getElem_range, List.getD_eq_getElem?_getD, List.getElem?_eq_getElem h2]
  rfl
 have := List.filter_map (f := fun i => S.getD i zS) (p := fun s : StepT => decide (s.1 ≠ 8)) (l := List.range S.length)
 rw [e] at this
 exact this

theorem used_pick {need : List Bool} {n : Nat} : (idsB n).filter (fun i => need.getD i.toNat false) = ((List.range n).filter (fun i => need.getD i false)).map (fun (i : Nat) => (i : Int)) := by
 unfold idsB
 rw [List.filter_map]
 rfl

theorem impl_refs_1 {k : Int} {n : Int} {b : Bool} (h : impl_refers k = some (n, b)) (hk : 1 ≤ k ∧ k ≤ 8) : (k = 1 → n = 2) ∧ (k = 2 ∨ k = 3 ∨ k = 4 ∨ k = 5 ∨ k = 8 → n = 1) ∧ (k = 6 ∨ k = 7 → n = 0) := by
 obtain ⟨n', b', e, q⟩ := refers_eq k
 rw [h] at e
 injection e with e
 injection e with e1 e2
 subst e1
 exact ⟨by omega, by omega, by omega⟩

theorem impl_need_step {l cs : ProbT} {by_ : List StepT} (hn : l.length + cs.length ≤ 900000) (ht : Trace l cs by_) (hk : ∀ k, k < cs.length → 1 ≤ (by_.getD k zS).1 ∧ (by_.getD k zS).1 ≤ 8) {m : Nat} (hm : m < cs.length) {out : List Bool} (ho : out.length = l.length + cs.length) :
  impl_needed_l1 l by_ (((l.length + m : Nat) : Int), out) = some (.inl (((l.length + m : Nat) : Int) - 1, bif out.getD (l.length + m) false then needS (by_.getD m zS) (l.length + m) out else out)) := by
 have hlen := ht.len
 obtain ⟨n, b, e, _⟩ := refers_eq (by_.getD m zS).1
 obtain ⟨n1, n2, n3⟩ := impl_refs_1 e (hk m hm)
 have hkm := hk m hm
 have h8 := (ht.refs m hm).1
 have hr := trace_ref ht m hm
 have e : impl_refers (by_.getD m (0, (0, (0, ([], 0))))).1 = some (n, b) := e
 unfold impl_needed_l1
 dsimp only
 rw [cdec_pos (by omega), rq_i64 (by omega) (by omega), rq_pos ⟨by omega, by omega⟩, show (((l.length + m : Nat) : Int) - (l.length : Int)).toNat = m by omega, e, bind_s, rq_pos ⟨by omega, by omega⟩, Int.toNat_natCast]
 cases hg : out.getD (l.length + m) false with
 | false => rw [cnf, rq_i64 (by omega) (by omega)]; rfl
 | true =>
  rw [cnt]
  show _ = some (Sum.inl (((l.length + m : Nat) : Int) - 1, needS (by_.getD m zS) (l.length + m) out))
  change cond ((by_.getD m zS).1 == (7 : Int)) _ _ = _
  unfold needS
  by_cases k7 : (by_.getD m zS).1 = 7
  ·rw [cbeq_pos k7, if_pos k7]
   refine loop_fn (fun s : Int × List Bool => ∃ k : Nat, s.1 = k ∧ k ≤ l.length + m ∧ s.2 = List.replicate k true ++ out.drop k) (fun s => l.length + m - s.1.toNat) (fun _ => _) ?_ _ ⟨0, rfl, Nat.zero_le _, rfl⟩
   rintro ⟨i8, i9⟩ ⟨k, hk1, hk2, hk3⟩
   dsimp only at hk1 hk3
   subst hk1
   have hl9 : i9.length = out.length := by
    rw [hk3, List.length_append, List.length_replicate, List.length_drop]; omega
   unfold impl_needed_l2
   dsimp only
   by_cases q : k < l.length + m
   ·left
    rw [cdec_pos (by omega), rq_pos ⟨by omega, by omega⟩, rq_i64 (by omega) (by omega), Int.toNat_natCast]
    exact ⟨_, rfl, ⟨k + 1, by simp, by omega, by dsimp only; rw [hk3, fill_set (by omega)]⟩, by (try dsimp only) <;> omega, rfl⟩
   ·right
    have : k = l.length + m := by omega
    subst this
    rw [cdec_neg (by omega), rq_i64 (by omega) (by omega), hk3]
  rw [cbeq_neg k7, if_neg k7]
  by_cases k6 : (by_.getD m zS).1 = 6
  ·rw [if_pos k6, cdec_neg (by omega), rq_i64 (by omega) (by omega)]
  rw [if_neg k6, cdec_pos (by omega)]
  obtain ⟨a0, a1, hb⟩ := hr k7 k6
  have a0' : 0 ≤ (by_.getD m (0, (0, (0, ([], 0))))).2.1 := a0
  have a1' : (by_.getD m (0, (0, (0, ([], 0))))).2.1.toNat < l.length + m := a1
  rw [rq_pos ⟨a0', by omega⟩]
  unfold impl_needed_j2
  rw [show (((l.length + m : Nat) : Int) - (l.length : Int)).toNat = m by omega]
  by_cases k1 : (by_.getD m zS).1 = 1
  ·obtain ⟨b0, b1⟩ := hb k1
   have b0' : 0 ≤ (by_.getD m (0, (0, (0, ([], 0))))).2.2.1 := b0
   have b1' : (by_.getD m (0, (0, (0, ([], 0))))).2.2.1.toNat < l.length + m := b1
   rw [cdec_pos (by omega), if_pos k1, rq_pos ⟨b0', by rw [List.length_set]; omega⟩, rq_i64 (by omega) (by omega)]
   rfl
  ·rw [cdec_neg (by omega), if_neg k1, rq_i64 (by omega) (by omega)]
   rfl

theorem refute_all {l : ProbT} {S : List StepT} {q : DbT × Nat} (hs : smallC l) (h : refuteB l S = some q) : ∃ cs, q.1.1 = l ++ cs ∧ Trace l cs (byF S) ∧ l.length + cs.length ≤ 1400 ∧ l.length ≤ 400 ∧ S.length ≤ 1000 ∧ q.2 < q.1.1.length ∧ ∀ k, k < cs.length → 1 ≤ ((byF S).getD k zS).1 ∧ ((byF S).getD k zS).1 ≤ 8 := by
 obtain ⟨h1, h2, ⟨cs, e, ht⟩, h4, _⟩ := refute_sound hs h
 obtain ⟨hp, hr, hf⟩ := refute_iff.1 h
 obtain ⟨a, b, c⟩ := start_run hs hp hr
 have hl : q.1.1.length = l.length + cs.length := by rw [e, List.length_append]
 refine ⟨cs, e, ht, by omega, (prob_good hs h1).2, h2, h4, fun k hk => parts_kind (c _ ?_)⟩
 have := getD_mem (l := byF S) (i := k) (d := zS) (by have := ht.len; omega)
 exact (List.mem_filter.1 this).1

theorem impl_needed_eq {l : ProbT} {S : List StepT} (hs : smallC l) (hS : smallSt S) : impl_needed l S = some (match refuteB l S with | some q => (true, needR l S q) | none => (false, [])) := by
 obtain ⟨r, e, h⟩ := impl_refuting_eq hs hS
 unfold impl_needed
 rw [e, bind_s]
 rcases h with ⟨q, hq, er⟩ | ⟨hq, ⟨h1, h2⟩ | ⟨h1, h2⟩⟩
 ·obtain ⟨cs, e1, ht, hn, h4, hS2, hq2, hkind⟩ := refute_all hs hq
  have hlen : q.1.1.length = l.length + cs.length := by rw [e1, List.length_append]
  rw [hq, er, ctt, cdec_neg (by dsimp only; omega)]
  refine loop_pick S.length (fun i => decide ((S.getD i zS).1 ≠ 8)) (fun i => S.getD i zS) _ (fun i out hi ho => ?_) ?_
  ·unfold impl_needed_l3
   dsimp only
   rw [cdec_pos (by omega), rq_pos ⟨by omega, by omega⟩, Int.toNat_natCast]
   change cond ((S.getD i zS).1 != (8 : Int)) _ _ = _
   by_cases q8 : (S.getD i zS).1 = 8
   ·rw [show ((S.getD i zS).1 != (8 : Int)) = false by rw [q8]; rfl, cff, rq_i64 (by omega) (by omega), decide_eq_false (by omega)]
    rfl
   ·rw [show ((S.getD i zS).1 != (8 : Int)) = true by rw [bne_iff_ne]; exact q8, ctt, rq_pos (by simp only [bound, List.length_cons, List.length_nil]; omega), rq_i64 (by omega) (by omega), decide_eq_true q8]
    rfl
  ·rw [← byF_at]
   unfold impl_needed_l3
   dsimp only
   rw [cdec_neg (by omega)]
   unfold impl_needed_j1
   dsimp only
   rw [rq_pos ⟨by omega, by simp only [bound]; omega, rfl⟩, Int.toNat_natCast, rq_pos ⟨by omega, by rw [List.length_replicate]; omega⟩, rq_i64 (by omega) (by omega), Int.toNat_natCast]
   have hl : loop (impl_needed_l1 l (byF S)) ((q.1.1.length : Int) - 1, (List.replicate q.1.1.length false).set q.2 true) = some (true, needR l S q) := by
    have hsub : q.1.1.length - l.length = cs.length := by omega
    unfold needR
    rw [hsub]
    refine loop_fn (fun s : Int × List Bool => ∃ m : Nat, s.1 = (l.length : Int) + m - 1 ∧ m ≤ cs.length ∧ s.2.length = l.length + cs.length ∧ needN l.length (byF S) m s.2 = needN l.length (byF S) cs.length ((List.replicate q.1.1.length false).set q.2 true)) (fun s => (s.1 + 1).toNat) (fun _ => _) ?_ _ ⟨cs.length, by dsimp only; omega, Nat.le_refl _, by dsimp only; rw [List.length_set, List.length_replicate]; exact hlen, rfl⟩
    rintro ⟨i3, out⟩ ⟨m, hm1, hm2, hm3, hm4⟩
    dsimp only at hm1 hm3 hm4
    cases m with
    | zero =>
     right
     unfold impl_needed_l1
     dsimp only
     rw [cdec_neg (by omega), ← hm4]
     rfl
    | succ m =>
     left
     have : i3 = ((l.length + m : Nat) : Int) := by omega
     subst this
     have hlo : (bif out.getD (l.length + m) false then needS ((byF S).getD m zS) (l.length + m) out else out).length = out.length := by
      cases out.getD (l.length + m) false with
      | true => rw [ctt]; exact needS_len (by omega)
      | false => rw [cff]
     refine ⟨_, impl_need_step (by omega) ht hkind (by omega) hm3, ⟨m, by dsimp only; omega, by omega, by dsimp only; rw [hlo]; exact hm3, hm4⟩, by dsimp only; omega, rfl⟩
   rw [hl]
   rfl
 ·rw [hq, h1, ctt, h2, cdec_pos (by decide)]
 ·rw [hq, h1, cff, h2, cdec_pos (by decide)]

theorem need_len {l : ProbT} {S : List StepT} {q : DbT × Nat} (hs : smallC l) (h : refuteB l S = some q) : (needR l S q).length = q.1.1.length := by
 obtain ⟨cs, e1, ht, hn, h4, hS2, hq2, hkind⟩ := refute_all hs h
 have hlen : q.1.1.length = l.length + cs.length := by rw [e1, List.length_append]
 have hsub : q.1.1.length - l.length = cs.length := by omega
 unfold needR
 rw [hsub]
 have := (needN_spec (n := l.length) (by_ := byF S) cs.length ((List.replicate q.1.1.length false).set q.2 true) (by rw [List.length_set, List.length_replicate]; omega) (trace_ref ht)).1
 rw [this, List.length_set, List.length_replicate]

theorem impl_UsedInputs_eq {l : ProbT} {S : List StepT} (hs : smallC l) (hS : smallSt S) : impl_UsedInputs l S = some (usedB l S) := by
 unfold impl_UsedInputs usedB
 rw [impl_needed_eq hs hS, bind_s]
 cases hq : refuteB l S with
 | none => rfl
 | some q =>
  obtain ⟨cs, e1, ht, hn, h4, hS2, hq2, hkind⟩ := refute_all hs hq
  have hlen : q.1.1.length = l.length + cs.length := by rw [e1, List.length_append]
  have hnl := need_len hs hq
  dsimp only
  rw [cnt, used_pick]
  refine loop_pick l.length (fun i => (needR l S q).getD i false) (fun (i : Nat) => (i : Int)) _ (fun i out hi ho => ?_) ?_
  ·unfold impl_UsedInputs_l1
   dsimp only
   rw [cdec_pos (by omega), rq_pos ⟨by omega, by omega⟩, Int.toNat_natCast]
   cases (needR l S q).getD i false with
   | true => rw [ctt, rq_pos (by simp only [bound, List.length_cons, List.length_nil]; omega), rq_i64 (by omega) (by omega)]; rfl
   | false => rw [cff, rq_i64 (by omega) (by omega)]; rfl
  ·unfold impl_UsedInputs_l1
   dsimp only
   rw [cdec_neg (by omega)]

end Go.AE.Y
namespace Go.AE.Y
open Go Go.AE
set_option maxHeartbeats 400000

end Go.AE.Y
namespace Go.AE.Y
open Go Go.AE
set_option maxHeartbeats 400000

theorem bits_all {v : List Bool} (hv : v.length = 12) : ∃ k, k < 4096 ∧ bitsB k = v := by
 have hlt : (BitVec.ofBoolListBE v).toNat < 4096 := Nat.lt_of_lt_of_eq (BitVec.ofBoolListBE v).isLt (show 2 ^ v.length = 4096 by rw [hv])
 have hb : ∀ i, i < 12 → (BitVec.ofBoolListBE v).toNat.testBit (11 - i) = v.getD i false := fun i hi => by
  have e := BitVec.getMsbD_ofBoolListBE (bs := v) (i := i)
  rw [← e, BitVec.getMsbD, BitVec.getLsbD, decide_eq_true (by omega), Bool.true_and, show v.length - 1 - i = 11 - i by omega]
 generalize (BitVec.ofBoolListBE v).toNat = k at hlt hb
 refine ⟨k, hlt, ?_⟩
 refine List.ext_getElem (by rw [bitsB_len, hv]) (fun i h1 h2 => ?_)
 have hi : i < 12 := by omega
 have e1 : (bitsB k).getD i false = v.getD i false := by
  rw [bitsB_get hi, ← hb i hi, Nat.testBit_eq_decide_div_mod_eq]
  rfl
 rw [List.getD_eq_getElem?_getD, List.getD_eq_getElem?_getD, List.getElem?_eq_getElem h1, List.getElem?_eq_getElem h2] at e1
 exact e1

theorem closed_no {x : ProbT} (h : openB x = false) {v : List Bool} (hv : v.length = 12) : ¬ satL x v := fun hs => by
 obtain ⟨k, hk, e⟩ := bits_all hv
 have : openB x = true := by
  unfold openB
  exact List.any_eq_true.2 ⟨k, List.mem_range.2 hk, List.all_eq_true.2 (fun c hc => by rw [e]; exact hs c hc)⟩
 rw [h] at this
 cases this

abbrev SolT' := Int × List Bool × List StepT
theorem impl_Solve_top {x : ProbT} (hs : smallC x) (hp : probB x = true) : ∃ r : SolT', impl_SolveProblem x 2000 = some r ∧ ((r.1 = 1 ∧ r.2.1.length = 12 ∧ satL x r.2.1) ∨ (r.1 = 2 ∧ r.2.2.length ≤ 1000) ∨ r.1 = 0) := by
 have hall := probB_all hp
 have hlen : x.length ≤ 400 := by
  unfold probB at hp
  simp only [Bool.and_eq_true, decide_eq_true_eq] at hp
  exact hp.2
 have hg : goodL x := fun c hc => ⟨hall c hc, hs.2 c hc⟩
 have hd : DecOk [] := ⟨fun x hx => absurd hx List.not_mem_nil, fun i j hi => by simp at hi⟩
 obtain ⟨r, e, hv⟩ := visit_body (D := []) (L := x) (S := []) (fuel := 2000) (rec_ := impl_searching_visit__Rsd 64) (fun l L' S' f' h1 h2 h3 h4 h5 => visit_ok 64 ([] ++ [l]) L' S' f' h1 h2 h3 h4 h5 (by simp)) hd hg (by simp; omega) (by simp) ⟨by omega, by omega⟩
 have e' : impl_searching_visit__R0s 64 [] 2000 false x = some r := by
  rw [← e]
  exact first_visit (impl_searching_visit__R0s 63) [] 2000 false x
 unfold impl_SolveProblem
 rw [impl_ProblemValid_eq x hs, bind_s, hp, cnt]
 have ef : impl_isFuel 2000 = some true := by
  unfold impl_isFuel
  rw [impl_within_eq, bind_s]
  rfl
 rw [ef, bind_s, cnt, CloneC_eq x (by omega), bind_s, e', bind_s]
 cases hok : r.1 with
 | true =>
  rw [ctt]
  exact ⟨_, rfl, Or.inl ⟨rfl, hv.sat hok⟩⟩
 | false =>
  rw [cff]
  cases hmu : r.2.2.1 with
  | true =>
   rw [ctt]
   exact ⟨_, rfl, Or.inr (Or.inr rfl)⟩
  | false =>
   rw [cff]
   exact ⟨_, rfl, Or.inr (Or.inl ⟨rfl, hv.ext.top⟩)⟩

theorem rup_small {L L' : ProbT} {S S' : List StepT} (h : RupExt L S L' S') (hS : smallSt S) : smallSt S' := by
 induction h with
 | refl => exact hS
 | snoc _ h1 h2 h3 ih =>
  intro s hs
  rcases List.mem_append.1 hs with q | q
  ·exact ih s q
  ·rw [List.mem_singleton.1 q]
   show _ ≤ 1048576
   unfold rupS
   dsimp only
   omega

theorem law_FnCoreSearch {a : List Int} (ha : ∀ x ∈ a, 0 ≤ x ∧ x ≤ 255) : laws_FnCoreSearch a = some true := by
 unfold laws_FnCoreSearch
 by_cases h0 : 1048576 < (a.length : Int)
 ·rw [cdec_pos h0]
 rw [cdec_neg h0]
 obtain ⟨l, h1, h2, h3⟩ := spec_DrawMinimalCore_ok ha
 have hs : smallC l := ⟨by omega, fun x hx => by have := h3 x hx; omega⟩
 have hlen := coreB_len (l := l)
 rw [h1, bind_s, impl_MinimalCore_eq hs, bind_s, spec_MinimalCore_eq hs, bind_s, bne_self_eq_false, cff, cpInts_self _ (by omega), bind_s, cnt]
 unfold coreB
 cases hq : probB l && !openB l with
 | false => rw [cff]; dsimp only; rw [cnf, beq_self_eq_true, ctt, bind_s]
 | true =>
  rw [ctt]
  simp only [Bool.and_eq_true, Bool.not_eq_true'] at hq
  obtain ⟨hp, ho⟩ := hq
  dsimp only
  have hlen := coreF_len (l := l) (n := l.length) (t := l.length)
  have hin : ∀ x ∈ coreF l l.length l.length, 0 ≤ x ∧ x < l.length := coreF_in
  have hs2 : smallC (partB l (coreF l l.length l.length)) := partB_sm hs (by omega) hin
  have hp2 : probB (partB l (coreF l l.length l.length)) = true := partB_prob hp hin (by omega)
  have hm := core_min hp ho
  have hc := coreF_closed ho l.length
  obtain ⟨r, e1, hok⟩ := impl_Solve_top hs2 hp2
  rw [cnt, impl_SubProblem_eq l _ hs (by omega), bind_s]
  unfold subProbB
  rw [hp, coreF_keep, Bool.and_self, ctt]
  dsimp only
  rw [e1, bind_s, cnt]
  rcases hok with ⟨q1, q2, q3⟩ | ⟨q1, q2⟩ | q1
  ·exact absurd q3 (closed_no hc q2)
  ·obtain ⟨_, L', hru, _⟩ := solve_rup hs2 e1 q1
   have hS : smallSt r.2.2 := rup_small hru (fun s hs => absurd hs List.not_mem_nil)
   obtain ⟨q, hq⟩ := solve_refutes hs2 e1 q1 q2
   have hu := used_all hq (core_used hs2 hm hq)
   rw [q1, bne_self_eq_false, cff, impl_UsedInputs_eq hs2 hS, bind_s, hu]
   dsimp only
   rw [ctt, idsB_len, beq_self_eq_true, ctt, impl_CheckRefutation_eq hs2 hS, bind_s, hq]
   rfl
  ·rw [q1, cbne_pos (by decide), ctt]
   rfl

end Go.AE.Y
