/-
  Plain laws: domains of models.
-/
import Derived.Test.YtpjbfmifmikloaaP8X
import Derived.Test.YtpjbfmifmikloaaP9
namespace Go.AE.Y
open Go Go.AE

def fitAt (m : ModT) (d : List (List Bool)) (i : Nat) : Bool := decide (((d.getD i []).length : Int) = m.1.getD i 0 + 1)
def fitsB (m : ModT) (d : List (List Bool)) : Bool := decide (d.length = m.1.length) && (List.range d.length).all (fitAt m d)
def domB (m : ModT) (d : List (List Bool)) : Bool := modB m && fitsB m d
def noneB (row : List Bool) : Bool := !row.any (fun b => true == b)
def emptyB (d : List (List Bool)) : Bool := d.any noneB
def inAt (d : List (List Bool)) (x : List Int) (i : Nat) : Bool := (d.getD i []).getD (x.getD i 0).toNat false
def inB (d : List (List Bool)) (x : List Int) : Bool := (List.range x.length).all (inAt d x)
def smallD (d : List (List Bool)) : Prop := d.length ≤ 1048576 ∧ ∀ x ∈ d, x.length ≤ 1048576

theorem modB_size {m : ModT} (hm : modB m = true) {i : Nat} (hi : i < m.1.length) : 0 ≤ m.1.getD i 0 ∧ m.1.getD i 0 ≤ 3 := by
  unfold modB at hm
  simp only [Bool.and_eq_true, decide_eq_true_eq, List.all_eq_true] at hm
  have h2 := hm.2.2.1 _ (getD_mem (l := m.1) (i := i) (d := 0) hi)
  unfold cellB at h2
  simp only [Bool.and_eq_true, decide_eq_true_eq] at h2
  omega

theorem impl_DomainsValid_eq (m : ModT) (d : List (List Bool)) (h : smallM m) (hd : smallD d) : impl_DomainsValid m d = some (domB m d) := by
  have hd1 := hd.1
  unfold impl_DomainsValid domB
  rw [impl_ModelValid_eq m h, bind_s]
  cases hm : modB m with
  | false => rw [cnf, Bool.false_and]
  | true =>
    obtain ⟨m1, m2, m3⟩ := modB_len hm
    rw [cnt, Bool.true_and]
    unfold fitsB
    by_cases hl : d.length = m.1.length
    · rw [cbne_neg (by omega), decide_eq_true hl, Bool.true_and, loop_all d.length (fitAt m d) false true]
      · cases (List.range d.length).all (fitAt m d) <;> rfl
      · intro i hi _
        have hz := modB_size hm (i := i) (by omega)
        unfold impl_DomainsValid_l1 fitAt
        rw [cdec_pos (by omega), rq_pos ⟨by omega, by omega⟩, rq_pos ⟨by omega, by omega⟩, Int.toNat_natCast, rq_i64 (by omega) (by omega)]
        by_cases h1 : ((d.getD i []).length : Int) = m.1.getD i 0 + 1
        · rw [cbne_neg h1, decide_eq_true h1, rq_i64 (by omega) (by omega), ctt]
        · rw [cbne_pos h1, decide_eq_false h1, cff]
      · unfold impl_DomainsValid_l1
        rw [cdec_neg (by omega)]
    · rw [cbne_pos (by omega), decide_eq_false hl, Bool.false_and]

theorem spec_l8Fits_eq (m : ModT) (d : List (List Bool)) (hm : modB m = true) (hd : smallD d) : spec_l8Fits m d = some (fitsB m d) := by
  have hd1 := hd.1
  obtain ⟨m1, m2, m3⟩ := modB_len hm
  unfold spec_l8Fits fitsB
  by_cases hl : d.length = m.1.length
  · rw [cbne_neg (by omega), decide_eq_true hl, Bool.true_and, loop_all d.length (fitAt m d) false true]
    · cases (List.range d.length).all (fitAt m d) <;> rfl
    · intro i hi _
      have hz := modB_size hm (i := i) (by omega)
      unfold spec_l8Fits_l1 fitAt
      rw [cdec_pos (by omega), rq_pos ⟨by omega, by omega⟩, rq_pos ⟨by omega, by omega⟩, Int.toNat_natCast, rq_i64 (by omega) (by omega)]
      by_cases h1 : ((d.getD i []).length : Int) = m.1.getD i 0 + 1
      · rw [cbne_neg h1, decide_eq_true h1, rq_i64 (by omega) (by omega), ctt]
      · rw [cbne_pos h1, decide_eq_false h1, cff]
    · unfold spec_l8Fits_l1
      rw [cdec_neg (by omega)]
  · rw [cbne_pos (by omega), decide_eq_false hl, Bool.false_and]

theorem spec_DomainsValid_eq (m : ModT) (d : List (List Bool)) (h : smallM m) (hd : smallD d) : spec_DomainsValid m d = some (domB m d) := by
  unfold spec_DomainsValid domB
  rw [spec_ModelValid_eq m h, bind_s]
  cases hm : modB m with
  | false => rw [cff, Bool.false_and]
  | true => rw [ctt, spec_l8Fits_eq m d hm hd, bind_s, Bool.true_and]

theorem any_snoc (l : List Bool) {k : Nat} (h : k < l.length) : (l.take (k + 1)).any (fun b => true == b) = ((l.take k).any (fun b => true == b) || l.getD k false) := by
  rw [List.take_add_one, List.getD_eq_getElem?_getD, List.getElem?_eq_getElem h, List.any_append]
  simp only [Option.toList_some, List.any_cons, List.any_nil, Bool.or_false, Option.getD_some]
  cases l[k] <;> rfl

/-! ### Cells in domains -/

theorem domB_row {m : ModT} {d : List (List Bool)} (h : domB m d = true) : modB m = true ∧ d.length = m.1.length ∧ ∀ i, i < d.length → ((d.getD i []).length : Int) = m.1.getD i 0 + 1 := by
  unfold domB fitsB fitAt at h
  simp only [Bool.and_eq_true, decide_eq_true_eq, List.all_eq_true] at h
  exact ⟨h.1, h.2.1, fun i hi => h.2.2 i (List.mem_range.2 hi)⟩

theorem cellsB_at {m : ModT} {x : List Int} (h : cellsB m x = true) : x.length = m.1.length ∧ ∀ i, i < x.length → 0 ≤ x.getD i 0 ∧ x.getD i 0 ≤ m.1.getD i 0 := by
  unfold cellsB cellAt at h
  simp only [Bool.and_eq_true, decide_eq_true_eq, List.all_eq_true] at h
  exact ⟨h.1, fun i hi => h.2 i (List.mem_range.2 hi)⟩

def cellsInB (m : ModT) (d : List (List Bool)) (x : List Int) : Bool := domB m d && (cellsB m x && inB d x)

/-! ### The laws -/

@[reducible] def tyDom : Ty := .sl (.sl .bool)

theorem szDom_ex (d : List (List Bool)) (left : Int) (h0 : 0 ≤ left) (h1 : left ≤ 1048576) (h : okD tyDom d) : ∃ r, laws_szBoolSS d left = some r ∧ r ≤ left ∧ (r < 0 ∨ smallD d) := by
  obtain ⟨k1, k2⟩ := h
  obtain ⟨r, e, q1, q2⟩ := szBoolSS_ex d left h0 h1 k1 (fun x hx => (k2 x hx).1)
  refine ⟨r, e, q1, ?_⟩
  by_cases hr : r < 0
  · exact Or.inl hr
  · exact Or.inr (q2 (by omega))

theorem toDom_eq (d : List (List Bool)) (h : smallD d) : laws_toBoolSS d = some d := toBoolSS_eq d (by have := h.1; omega) (fun x hx => by have := h.2 x hx; omega)
theorem eqDom_self (d : List (List Bool)) (h : smallD d) : laws_eqBoolSS d d = some true := eqBoolSS_same d (by have := h.1; omega) (fun x hx => by have := h.2 x hx; omega)

end Go.AE.Y
