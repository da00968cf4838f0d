/-
  Contracts kept by spec.l12Cube, spec.CubeHolds and laws.FnExactCubeHolds. Each holds under what its contract requires, and nothing else.
-/
import Derived.Test.YtkipgkpekkjebaaY1D
namespace Go.AE.Y1
open Go Go.AE Go.Proofs

def absI (n : Int) : Int := max n (0 - n)

theorem absI_eq (n : Int) : absI n = n.natAbs := by unfold absI; omega

theorem getD_map {α β : Type} (f : α → β) (l : List α) (d : α) {i : Nat} (h : i < l.length) (e : β) : (l.map f).getD i e = f (l.getD i d) := by
  rw [getD_at h, getD_at (by simpa using h), List.getElem_map]

theorem varsL_abs {l : List Int} (h : lits l) : varsL (l.map absI) = isCubeL l := by
  unfold varsL isCubeL
  rw [List.length_map]
  congr 1
  refine allN_congr fun j hj => ?_
  have h1 := h j hj
  have hr := isLit_range h1
  have hn := isLit_ne h1
  unfold varAt cubeAt
  rw [h1, getD_map absI l 0 hj, absI_eq, Bool.true_and]
  rw [decide_eq_true (show (1 : Int) ≤ (l.getD j 0).natAbs by omega), decide_eq_true (show ((l.getD j 0).natAbs : Int) ≤ 12 by omega), Bool.true_and, Bool.true_and]
  by_cases h0 : j = 0
  · simp [h0]
  · rw [getD_map absI l 0 (show j - 1 < l.length by omega), absI_eq]
    congr 1
    exact decide_eq_decide.2 (by omega)

theorem take_map_succ {α β : Type} (f : α → β) (l : List α) (d : α) {i : Nat} (h : i < l.length) : (l.take i).map f ++ [f (l.getD i d)] = (l.take (i + 1)).map f := by
  rw [List.take_succ_eq_append_getElem h, List.map_append, getD_at h]
  rfl

theorem k54 : Entry Try.prog 54 cIsCube := by
  refine entry_of (C := { y := tys, n := 28, h := 0, tab := [(96, cL1Lit), (69, cL1Abs), (60, cL12Vars)] }) mixed tys_ok ?_ (fn := Try.f54) (c := bd Try.f54) (by kernel_rfl) (by kernel_rfl) (by kernel_rfl) (by kernel_rfl) ?_
  · simp only [List.forall_mem_cons]
    exact ⟨k96, k69, k60, fun p h => by cases h⟩
  intro args st k he
  unfold cIsCube at he
  split at he
  rotate_left
  · exact he.elim
  rename_i l
  refine ⟨rfl, rfl, ?_⟩
  have hb : l.length ≤ 4294967296 := he.1
  change List Int at l
  refine loop_rule mixed tys_ok (tabOk_of (by simp only [List.forall_mem_cons]; exact ⟨k96, k69, k60, fun p h => by cases h⟩)) (I := fun i : { i : Nat // i ≤ l.length ∧ ∀ j, j < i → isLit (l.getD j 0) = true } => (envOf [(0, .c (.imm int l)), (3, .c (.own 5)), (4, .c (.int .i64 i.1))], [(5, .sl 3 int ((l.take i.1).map absI) .shallow)])) (fun i => l.length - i.1) ⟨0, Nat.zero_le _, fun j hj => absurd hj (Nat.not_lt_zero j)⟩ ?_ ?_
  · exact leads_to ⟨rfl, rfl, rfl, trivial⟩ rfl
  · rintro ⟨i, hle, hi⟩
    refine And.intro (fun h1 => ?_) (fun h1 => ?_)
    · have h1 := of_decide_eq_true h1
      have h' : i < l.length := by dsimp only at h1; omega
      refine And.intro ⟨by omega, h1⟩ (And.intro (fun h2 => ?_) (fun h2 => ?_))
      · have h2 : isLit (l.getD i 0) = false := not_true_eq h2
        refine ⟨rfl, _, _, leads_none [2] rfl rfl, cast_k (fun x => k (.c (.bool x)) []) he.2 ?_⟩
        simp only [isCubeL, allN_false i h' (show cubeAt l i = false by simp only [cubeAt, h2, Bool.false_and]), Bool.false_and]
      · have h2 : isLit (l.getD i 0) = true := not_false_eq h2
        have hr := isLit_range h2
        refine And.intro ⟨by omega, h1⟩ (And.intro ?_ ?_)
        · show inR .i64 (0 - l.getD i 0)
          exact ⟨by omega, by omega⟩
        · refine And.intro ?_ ?_
          · show ((l.take i).map absI).length + 1 ≤ 4294967296
            rw [List.length_map, List.length_take]
            omega
          · refine And.intro ⟨by dsimp only; omega, by dsimp only; omega⟩ ⟨⟨i + 1, h', fun j hj => ?_⟩, by dsimp only; omega, ?_⟩
            · rcases Nat.lt_or_ge j i with hj' | hj'
              · exact hi j hj'
              · have : j = i := by omega
                subst this
                exact h2
            · refine leads_ren [(5, 25)] rfl rfl ⟨?_, trivial⟩ ⟨rfl, ⟨rfl, rfl⟩, rfl, trivial⟩
              exact congrArg (fun x => Ob.sl 3 int x .shallow) (take_map_succ absI l 0 h')
    · have h1 := of_decide_eq_false h1
      have e : i = l.length := by dsimp only at h1; omega
      subst e
      refine And.intro ?_ ?_
      · show ((l.take l.length).map absI).length ≤ 4294967296
        rw [List.length_map, List.length_take]
        omega
      · refine ⟨rfl, _, _, leads_none [2] rfl rfl, cast_k (fun x => k (.c (.bool x)) []) he.2 ?_⟩
        show varsL ((l.take l.length).map absI) = isCubeL l
        rw [List.take_length]
        exact varsL_abs hi

theorem k15 : Entry Try.prog 15 cCubeHolds := by
  refine entry_of (C := { y := tys, n := 27, h := 0, tab := [(54, cIsCube), (55, cL1True)] }) mixed tys_ok ?_ (fn := Try.f15) (c := bd Try.f15) (by kernel_rfl) (by kernel_rfl) (by kernel_rfl) (by kernel_rfl) ?_
  · simp only [List.forall_mem_cons]
    exact ⟨k54, k55, fun p h => by cases h⟩
  intro args st k he
  unfold cCubeHolds at he
  split at he
  rotate_left
  · exact he.elim
  rename_i l v
  change List Int at l
  change List Bool at v
  refine ⟨rfl, rfl, ?_⟩
  obtain ⟨⟨hb, hv⟩, hk⟩ := he
  have hb' : l.length ≤ 4294967296 := hb
  refine And.intro hb ?_
  have loop : isCubeL l = true → v.length = 12 → ∀ ρ, EnvOk ρ [(0, .c (.imm int l)), (1, .c (.imm .bool v)), (5, .c (.int .i64 0))] → True := fun _ _ _ _ => trivial
  refine And.intro (fun h1 => ?_) (fun h1 => ?_)
  · have h1 : isCubeL l = true := not_false_eq h1
    refine And.intro (fun h2 => ?_) (fun h2 => ?_)
    · have h2 : ((v.length : Int) != 12) = true := h2
      have h2 : v.length ≠ 12 := by simp only [bne_iff_ne] at h2; omega
      refine ⟨rfl, _, _, Leads.refl _ _, cast_k (fun x => k (.c (.bool x)) []) hk ?_⟩
      simp [cubeHoldsL, h1, h2]
    · have h2 : ((v.length : Int) != 12) = false := h2
      have h2 : v.length = 12 := by simp only [bne_eq_false_iff_eq] at h2; omega
      have hl := isCubeL_lits h1
      refine loop_rule mixed tys_ok (tabOk_of (by simp only [List.forall_mem_cons]; exact ⟨k54, k55, fun p h => by cases h⟩)) (I := fun i : { i : Nat // ∀ j, j < i → holdsL v (l.getD j 0) = true } => (envOf [(0, .c (.imm int l)), (1, .c (.imm .bool v)), (5, .c (.int .i64 i.1))], [])) (fun i => l.length - i.1) ⟨0, fun j hj => absurd hj (Nat.not_lt_zero j)⟩ ?_ ?_
      · exact leads_to ⟨rfl, rfl, rfl, trivial⟩ rfl
      · rintro ⟨i, hi⟩
        refine And.intro (fun h3 => ?_) (fun h3 => ?_)
        · have h3 := of_decide_eq_true h3
          have h' : i < l.length := by dsimp only at h3; omega
          refine And.intro ⟨by omega, h3⟩ (And.intro ⟨hl i h', h2⟩ (And.intro (fun h4 => ?_) (fun h4 => ?_)))
          · have h4 : holdsL v (l.getD i 0) = false := not_true_eq h4
            refine ⟨rfl, _, _, Leads.refl _ _, cast_k (fun x => k (.c (.bool x)) []) hk ?_⟩
            simp only [cubeHoldsL, allN_false (p := fun i => holdsL v (l.getD i 0)) i h' h4, Bool.and_false]
          · have h4 : holdsL v (l.getD i 0) = true := not_false_eq h4
            refine And.intro ⟨by dsimp only; omega, by dsimp only; omega⟩ ⟨⟨i + 1, fun j hj => ?_⟩, by dsimp only; omega, ?_⟩
            · rcases Nat.lt_or_ge j i with hj' | hj'
              · exact hi j hj'
              · have : j = i := by omega
                subst this
                exact h4
            · exact leads_to ⟨rfl, rfl, rfl, trivial⟩ rfl
        · have h3 := of_decide_eq_false h3
          refine ⟨rfl, _, _, Leads.refl _ _, cast_k (fun x => k (.c (.bool x)) []) hk ?_⟩
          rw [cubeHoldsL, allN_true (p := fun i => holdsL v (l.getD i 0)) (fun j hj => hi j (by dsimp only at h3; omega)), h1, h2]
          rfl
  · have h1 : isCubeL l = false := not_true_eq h1
    refine ⟨rfl, _, _, Leads.refl _ _, cast_k (fun x => k (.c (.bool x)) []) hk ?_⟩
    simp [cubeHoldsL, h1]

set_option maxHeartbeats 20000000

def cTrueIB : Con := fun args st => match args, st with
  | [.c (.imm (.int .i64) _), .c (.imm .bool _)], [] => .ret (.c (.bool true)) []
  | _, _ => .fail

theorem k3 : Entry Try.prog 3 cTrueIB := by
  refine entry_of (C := { y := tys, n := 40, h := 0, tab := [(15, cCubeHolds), (16, cToIntS), (17, cToBoolS), (18, cCubeHolds), (19, cEqIntS), (20, cEqBoolS)] }) mixed tys_ok ?_ (fn := Try.f3) (c := bd Try.f3) (by kernel_rfl) (by kernel_rfl) (by kernel_rfl) (by kernel_rfl) ?_
  · simp only [List.forall_mem_cons]
    exact ⟨k15, k16, k17, k18, k19, k20, fun p h => by cases h⟩
  intro args st k he
  unfold cTrueIB at he
  split at he
  rotate_left
  · exact he.elim
  rename_i l v
  change List Int at l
  change List Bool at v
  refine ⟨rfl, rfl, ?_⟩
  refine And.intro (fun h1 => ?_) (fun h1 => ?_)
  · exact ⟨rfl, _, _, Leads.refl _ _, he⟩
  · have h1 : decide ((1048576 : Int) < l.length) = false := h1
    have h1 := of_decide_eq_false h1
    refine And.intro (fun h2 => ?_) (fun h2 => ?_)
    · exact ⟨rfl, _, _, Leads.refl _ _, he⟩
    · have h2 : decide ((1048576 : Int) < v.length) = false := h2
      have h2 := of_decide_eq_false h2
      have b1 : l.length ≤ bound := by unfold bound; omega
      have b2 : v.length ≤ bound := by unfold bound; omega
      refine And.intro b1 (And.intro b2 (And.intro ⟨b1, b2⟩ (And.intro b1 (And.intro b2 (And.intro ⟨b1, b2⟩ ?_)))))
      refine And.intro (fun h3 => ?_) (fun h3 => ?_)
      · have h3 : (cubeHoldsL l v != cubeHoldsL l v) = true := h3
        simp at h3
      · refine And.intro b1 (And.intro b1 (And.intro (fun h4 => ?_) (fun h4 => ?_)))
        · have h4 : (!decide (l = l)) = true := h4
          simp at h4
        · refine And.intro b2 (And.intro b2 (And.intro (fun h5 => ?_) (fun h5 => ?_)))
          · have h5 : (!decide (v = v)) = true := h5
            simp at h5
          · exact ⟨rfl, _, _, leads_none [4] rfl rfl, he⟩

end Go.AE.Y1
