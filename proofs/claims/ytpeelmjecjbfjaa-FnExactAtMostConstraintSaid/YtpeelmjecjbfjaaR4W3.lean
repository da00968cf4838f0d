/-
  Walks: each function keeps the contract that its model gives. No conditions.
-/
import Derived.Test.YtpeelmjecjbfjaaR4Tab
import Derived.Test.YtpeelmjecjbfjaaR4W2
namespace Go.AE.Y
open Go Go.AE Go.Proofs
set_option linter.unusedVariables false
set_option maxHeartbeats 2000000
set_option maxRecDepth 100000

noncomputable def c_slices_IndexFunc_int__impl_isObjective_1 : Con := fun args st => match args, st with
  | [.c (.imm (.int .i64) s_), .c (.fn 205 [])], [] => .opt (Int) (slices_IndexFunc_int__impl_isObjective_1 s_) (fun r => .ret (.c (.int .i64 r)) [])
  | _, _ => .fail

noncomputable def C_slices_IndexFunc_int__impl_isObjective_1 : Cfg := { y := tys, n := 19, h := 0, tab := [(205, c_impl_isObjective_1)], cut := [], hand := [], good := [], deep := [], sched := [] }

theorem t_slices_IndexFunc_int__impl_isObjective_1 : TabOk Try.prog C_slices_IndexFunc_int__impl_isObjective_1 := by
  refine tabOk_of ?_
  simp only [C_slices_IndexFunc_int__impl_isObjective_1, List.forall_mem_cons]
  exact ⟨k_impl_isObjective_1, fun p h => by cases h⟩

theorem k_slices_IndexFunc_int__impl_isObjective_1 : Entry Try.prog 237 c_slices_IndexFunc_int__impl_isObjective_1 := by
  refine entry_by (C := C_slices_IndexFunc_int__impl_isObjective_1) mixed tys_ok t_slices_IndexFunc_int__impl_isObjective_1 (fn := Try.f237) (c := bd Try.f237) (by kernel_rfl) (by kernel_rfl) (by kernel_rfl) (by kernel_rfl) ?_
  intro args st k he
  unfold c_slices_IndexFunc_int__impl_isObjective_1 at he
  split at he
  rotate_left
  · exact he.elim
  rename_i s_
  have he : Ok (slices_IndexFunc_int__impl_isObjective_1 s_) (fun r => k (.c (.int .i64 r)) []) := he
  refine ⟨rfl, rfl, ?_⟩
  refine loop_model mixed tys_ok t_slices_IndexFunc_int__impl_isObjective_1 (S := Int) (I := (fun i => (envOf [(0, .c (.imm (.int .i64) s_)), (1, .c (.fn 205 [])), (7, .c (.int .i64 (s_.length:Int))), (8, .c (.int .i64 i))], []))) (f := slices_IndexFunc_int__impl_isObjective_1_l1 s_) (K := (fun r => k (.c (.int .i64 r)) [])) he (leads_ren [] (l := [(0, .c (.imm (.int .i64) s_)), (1, .c (.fn 205 [])), (7, .c (.int .i64 (s_.length:Int))), (8, .c (.int .i64 (0:Int)))]) (st' := []) rfl rfl trivial ⟨.inl rfl, ⟨rfl, trivial⟩, rfl, rfl, trivial⟩) ?_
  rintro i J1 he
  refine And.intro (fun hb => ?_) (fun hb => ?_)
  · have he := ok_t he hb
    have he := ok_rq he
    refine And.intro he.1 ?_
    have he := he.2
    obtain ⟨r1_, hr, he⟩ := ok_bind he
    refine ⟨r1_, hr, ?_⟩
    refine And.intro (fun hb => ?_) (fun hb => ?_)
    · have he := ok_t he hb
      have he := ok_some he
      exact ⟨rfl, _, _, Leads.refl _ _, he⟩
    · have he := ok_f he hb
      have he := ok_rq he
      refine And.intro he.1 ?_
      have he := he.2
      have he := ok_some he
      exact ⟨(i + (1:Int)), he, (leads_ren [] (l := [(0, .c (.imm (.int .i64) s_)), (1, .c (.fn 205 [])), (7, .c (.int .i64 (s_.length:Int))), (8, .c (.int .i64 (i + (1:Int))))]) (st' := []) rfl rfl trivial ⟨.inl rfl, ⟨rfl, trivial⟩, rfl, rfl, trivial⟩)⟩
  · have he := ok_f he hb
    have he := ok_some he
    exact ⟨rfl, _, _, Leads.refl _ _, he⟩

noncomputable def c_slices_ContainsFunc_int__impl_isObjective_1 : Con := fun args st => match args, st with
  | [.c (.imm (.int .i64) s_), .c (.fn 205 [])], [] => .opt (Bool) (slices_ContainsFunc_int__impl_isObjective_1 s_) (fun r => .ret (.c (.bool r)) [])
  | _, _ => .fail

noncomputable def C_slices_ContainsFunc_int__impl_isObjective_1 : Cfg := { y := tys, n := 9, h := 0, tab := [(237, c_slices_IndexFunc_int__impl_isObjective_1)], cut := [], hand := [], good := [], deep := [], sched := [] }

theorem t_slices_ContainsFunc_int__impl_isObjective_1 : TabOk Try.prog C_slices_ContainsFunc_int__impl_isObjective_1 := by
  refine tabOk_of ?_
  simp only [C_slices_ContainsFunc_int__impl_isObjective_1, List.forall_mem_cons]
  exact ⟨k_slices_IndexFunc_int__impl_isObjective_1, fun p h => by cases h⟩

theorem k_slices_ContainsFunc_int__impl_isObjective_1 : Entry Try.prog 174 c_slices_ContainsFunc_int__impl_isObjective_1 := by
  refine entry_by (C := C_slices_ContainsFunc_int__impl_isObjective_1) mixed tys_ok t_slices_ContainsFunc_int__impl_isObjective_1 (fn := Try.f174) (c := bd Try.f174) (by kernel_rfl) (by kernel_rfl) (by kernel_rfl) (by kernel_rfl) ?_
  intro args st k he
  unfold c_slices_ContainsFunc_int__impl_isObjective_1 at he
  split at he
  rotate_left
  · exact he.elim
  rename_i s_
  have he : Ok (slices_ContainsFunc_int__impl_isObjective_1 s_) (fun r => k (.c (.bool r)) []) := he
  refine ⟨rfl, rfl, ?_⟩
  obtain ⟨r1_, hr, he⟩ := ok_bind he
  refine ⟨r1_, hr, ?_⟩
  have he := ok_some he
  exact ⟨rfl, _, _, Leads.refl _ _, he⟩

noncomputable def c_impl_isObjective : Con := fun args st => match args, st with
  | [.agg [.imm (.int .i64) m_0, .imm (.pair (.int .i64) (.pair (.sl (.int .i64)) (.pair (.sl (.int .i64)) (.pair (.int .i64) (.sl (.sl (.int .i64))))))) m_1], .c (.imm (.int .i64) coefs)], [] => .opt (Bool) (impl_isObjective (m_0, m_1) coefs) (fun r => .ret (.c (.bool r)) [])
  | _, _ => .fail

noncomputable def C_impl_isObjective : Cfg := { y := tys, n := 16, h := 0, tab := [(174, c_slices_ContainsFunc_int__impl_isObjective_1)], cut := [], hand := [], good := [], deep := [], sched := [] }

theorem t_impl_isObjective : TabOk Try.prog C_impl_isObjective := by
  refine tabOk_of ?_
  simp only [C_impl_isObjective, List.forall_mem_cons]
  exact ⟨k_slices_ContainsFunc_int__impl_isObjective_1, fun p h => by cases h⟩

theorem k_impl_isObjective : Entry Try.prog 100 c_impl_isObjective := by
  refine entry_by (C := C_impl_isObjective) mixed tys_ok t_impl_isObjective (fn := Try.f100) (c := bd Try.f100) (by kernel_rfl) (by kernel_rfl) (by kernel_rfl) (by kernel_rfl) ?_
  intro args st k he
  unfold c_impl_isObjective at he
  split at he
  rotate_left
  · exact he.elim
  rename_i m_0 m_1 coefs
  have he : Ok (impl_isObjective (m_0, m_1) coefs) (fun r => k (.c (.bool r)) []) := he
  refine ⟨rfl, rfl, ?_⟩
  refine And.intro (fun hb => ?_) (fun hb => ?_)
  · have he := ok_t he hb
    obtain ⟨r1_, hr, he⟩ := ok_bind he
    refine ⟨r1_, hr, ?_⟩
    have he := ok_some he
    exact ⟨rfl, _, _, (leads_ren [] (l := [(4, .c (.bool (!r1_)))]) (st' := []) rfl rfl trivial ⟨.inl rfl, trivial⟩), he⟩
  · have he := ok_f he hb
    have he := ok_some he
    exact ⟨rfl, _, _, (leads_ren [] (l := [(4, .c (.bool false))]) (st' := []) rfl rfl trivial ⟨.inr rfl, trivial⟩), he⟩

noncomputable def c_impl_Model_boolVar : Con := fun args st => match args, st with
  | [.agg [.imm (.int .i64) m_0, .imm (.pair (.int .i64) (.pair (.sl (.int .i64)) (.pair (.sl (.int .i64)) (.pair (.int .i64) (.sl (.sl (.int .i64))))))) m_1], .c (.int .i64 cell), .c (.int .i64 value)], [] => .opt (Int) (impl_Model_boolVar (m_0, m_1) cell value) (fun r => .ret (.c (.int .i64 r)) [])
  | _, _ => .fail

noncomputable def C_impl_Model_boolVar : Cfg := { y := tys, n := 27, h := 0, tab := [], cut := [], hand := [], good := [], deep := [], sched := [] }

theorem t_impl_Model_boolVar : TabOk Try.prog C_impl_Model_boolVar := tabOk_of (fun p h => by cases h)

theorem k_impl_Model_boolVar : Entry Try.prog 102 c_impl_Model_boolVar := by
  refine entry_by (C := C_impl_Model_boolVar) mixed tys_ok t_impl_Model_boolVar (fn := Try.f102) (c := bd Try.f102) (by kernel_rfl) (by kernel_rfl) (by kernel_rfl) (by kernel_rfl) ?_
  intro args st k he
  unfold c_impl_Model_boolVar at he
  split at he
  rotate_left
  · exact he.elim
  rename_i m_0 m_1 cell value
  have he : Ok (impl_Model_boolVar (m_0, m_1) cell value) (fun r => k (.c (.int .i64 r)) []) := he
  refine ⟨rfl, rfl, ?_⟩
  have he := ok_rq he
  refine And.intro he.1 ?_
  have he := he.2
  have he := ok_rq he
  refine And.intro he.1 ?_
  have he := he.2
  refine loop_model mixed tys_ok t_impl_Model_boolVar (S := Int × Int) (I := (fun (v, i) => (envOf [(7, .c (.int .i64 v)), (15, .c (.imm (.int .i64) ((m_0, m_1).1.take cell.toNat))), (16, .c (.int .i64 (((m_0, m_1).1.take cell.toNat).length:Int))), (17, .c (.int .i64 i))], []))) (f := impl_Model_boolVar_l1 (m_0, m_1) cell) (K := (fun r => k (.c (.int .i64 r)) [])) he (leads_ren [] (l := [(7, .c (.int .i64 ((1:Int) + value))), (15, .c (.imm (.int .i64) ((m_0, m_1).1.take cell.toNat))), (16, .c (.int .i64 (((m_0, m_1).1.take cell.toNat).length:Int))), (17, .c (.int .i64 (0:Int)))]) (st' := []) rfl rfl trivial ⟨rfl, .inl rfl, rfl, rfl, trivial⟩) ?_
  rintro ⟨v, i⟩ J1 he
  refine And.intro (fun hb => ?_) (fun hb => ?_)
  · have he := ok_t he hb
    have he := ok_rq he
    refine And.intro he.1 ?_
    have he := he.2
    have he := ok_rq he
    refine And.intro he.1 ?_
    have he := he.2
    have he := ok_rq he
    refine And.intro he.1 ?_
    have he := he.2
    have he := ok_rq he
    refine And.intro he.1 ?_
    have he := he.2
    have he := ok_some he
    exact ⟨((v + ((((m_0, m_1).1.take cell.toNat).getD i.toNat 0) + (1:Int))), (i + (1:Int))), he, (leads_ren [] (l := [(7, .c (.int .i64 (v + ((((m_0, m_1).1.take cell.toNat).getD i.toNat 0) + (1:Int))))), (15, .c (.imm (.int .i64) ((m_0, m_1).1.take cell.toNat))), (16, .c (.int .i64 (((m_0, m_1).1.take cell.toNat).length:Int))), (17, .c (.int .i64 (i + (1:Int))))]) (st' := []) rfl rfl trivial ⟨rfl, .inl rfl, rfl, rfl, trivial⟩)⟩
  · have he := ok_f he hb
    have he := ok_some he
    exact ⟨rfl, _, _, Leads.refl _ _, he⟩

noncomputable def c_impl_isLiteral : Con := fun args st => match args, st with
  | [.c (.int .i64 l)], [] => .opt (Bool) (impl_isLiteral l) (fun r => .ret (.c (.bool r)) [])
  | _, _ => .fail

noncomputable def C_impl_isLiteral : Cfg := { y := tys, n := 9, h := 0, tab := [(101, c_impl_within)], cut := [], hand := [], good := [], deep := [], sched := [] }

theorem t_impl_isLiteral : TabOk Try.prog C_impl_isLiteral := by
  refine tabOk_of ?_
  simp only [C_impl_isLiteral, List.forall_mem_cons]
  exact ⟨k_impl_within, fun p h => by cases h⟩

theorem k_impl_isLiteral : Entry Try.prog 110 c_impl_isLiteral := by
  refine entry_by (C := C_impl_isLiteral) mixed tys_ok t_impl_isLiteral (fn := Try.f110) (c := bd Try.f110) (by kernel_rfl) (by kernel_rfl) (by kernel_rfl) (by kernel_rfl) ?_
  intro args st k he
  unfold c_impl_isLiteral at he
  split at he
  rotate_left
  · exact he.elim
  rename_i l
  have he : Ok (impl_isLiteral l) (fun r => k (.c (.bool r)) []) := he
  refine ⟨rfl, rfl, ?_⟩
  refine And.intro (fun hb => ?_) (fun hb => ?_)
  · have he := ok_t he hb
    obtain ⟨r1_, hr, he⟩ := ok_bind he
    refine ⟨r1_, hr, ?_⟩
    have he := ok_some he
    exact ⟨rfl, _, _, Leads.refl _ _, he⟩
  · have he := ok_f he hb
    have he := ok_some he
    exact ⟨rfl, _, _, Leads.refl _ _, he⟩

noncomputable def c_impl_variableOf : Con := fun args st => match args, st with
  | [.c (.int .i64 l)], [] => .opt (Int) (impl_variableOf l) (fun r => .ret (.c (.int .i64 r)) [])
  | _, _ => .fail

noncomputable def C_impl_variableOf : Cfg := { y := tys, n := 7, h := 0, tab := [], cut := [], hand := [], good := [], deep := [], sched := [] }

theorem t_impl_variableOf : TabOk Try.prog C_impl_variableOf := tabOk_of (fun p h => by cases h)

theorem k_impl_variableOf : Entry Try.prog 111 c_impl_variableOf := by
  refine entry_by (C := C_impl_variableOf) mixed tys_ok t_impl_variableOf (fn := Try.f111) (c := bd Try.f111) (by kernel_rfl) (by kernel_rfl) (by kernel_rfl) (by kernel_rfl) ?_
  intro args st k he
  unfold c_impl_variableOf at he
  split at he
  rotate_left
  · exact he.elim
  rename_i l
  have he : Ok (impl_variableOf l) (fun r => k (.c (.int .i64 r)) []) := he
  refine ⟨rfl, rfl, ?_⟩
  have he := ok_rq he
  refine And.intro he.1 ?_
  have he := he.2
  have he := ok_some he
  exact ⟨rfl, _, _, Leads.refl _ _, he⟩

noncomputable def c_impl_ConstraintValid : Con := fun args st => match args, st with
  | [.agg [.imm (.pair (.int .i64) (.int .i64)) c__0, .int .i64 c__1]], [] => .opt (Bool) (impl_ConstraintValid (c__0, c__1)) (fun r => .ret (.c (.bool r)) [])
  | _, _ => .fail

noncomputable def C_impl_ConstraintValid : Cfg := { y := tys, n := 37, h := 0, tab := [(101, c_impl_within), (110, c_impl_isLiteral), (111, c_impl_variableOf)], cut := [], hand := [], good := [], deep := [], sched := [] }

theorem t_impl_ConstraintValid : TabOk Try.prog C_impl_ConstraintValid := by
  refine tabOk_of ?_
  simp only [C_impl_ConstraintValid, List.forall_mem_cons]
  exact ⟨k_impl_within, k_impl_isLiteral, k_impl_variableOf, fun p h => by cases h⟩

theorem k_impl_ConstraintValid : Entry Try.prog 22 c_impl_ConstraintValid := by
  refine entry_by (C := C_impl_ConstraintValid) mixed tys_ok t_impl_ConstraintValid (fn := Try.f22) (c := bd Try.f22) (by kernel_rfl) (by kernel_rfl) (by kernel_rfl) (by kernel_rfl) ?_
  intro args st k he
  unfold c_impl_ConstraintValid at he
  split at he
  rotate_left
  · exact he.elim
  rename_i c__0 c__1
  have he : Ok (impl_ConstraintValid (c__0, c__1)) (fun r => k (.c (.bool r)) []) := he
  refine ⟨rfl, rfl, ?_⟩
  refine loop_model mixed tys_ok t_impl_ConstraintValid (S := Int × Int) (I := (fun (before, i) => (envOf [(1, .c (.ptr 10000000 0)), (3, .c (.int .i64 before)), (7, .c (.imm (.pair (.int .i64) (.int .i64)) (c__0, c__1).1)), (8, .c (.int .i64 ((c__0, c__1).1.length:Int))), (9, .c (.int .i64 i))], [(10000000, .rc [.imm (.pair (.int .i64) (.int .i64)) (c__0, c__1).1, .int .i64 (c__0, c__1).2])]))) (f := impl_ConstraintValid_l1 (c__0, c__1)) (K := (fun r => k (.c (.bool r)) [])) he (leads_ren [(10000000, 1)] (l := [(1, .c (.ptr 10000000 0)), (3, .c (.int .i64 (0:Int))), (7, .c (.imm (.pair (.int .i64) (.int .i64)) (c__0, c__1).1)), (8, .c (.int .i64 ((c__0, c__1).1.length:Int))), (9, .c (.int .i64 (0:Int)))]) (st' := [(10000000, .rc [.imm (.pair (.int .i64) (.int .i64)) (c__0, c__1).1, .int .i64 (c__0, c__1).2])]) rfl rfl ⟨⟨.inl rfl, rfl, trivial⟩, trivial⟩ ⟨⟨⟨rfl, rfl⟩, rfl⟩, rfl, .inl rfl, rfl, rfl, trivial⟩) ?_
  rintro ⟨before, i⟩ J1 he
  refine And.intro (fun hb => ?_) (fun hb => ?_)
  · have he := ok_t he hb
    have he := ok_rq he
    refine And.intro he.1 ?_
    have he := he.2
    obtain ⟨r1_, hr, he⟩ := ok_bind he
    refine ⟨r1_, hr, ?_⟩
    refine And.intro (fun hb => ?_) (fun hb => ?_)
    · have he := ok_f he hb
      obtain ⟨r2_, hr, he⟩ := ok_bind he
      refine ⟨r2_, hr, ?_⟩
      refine And.intro (fun hb => ?_) (fun hb => ?_)
      · have he := ok_f he hb
        obtain ⟨r3_, hr, he⟩ := ok_bind he
        refine ⟨r3_, hr, ?_⟩
        refine And.intro (fun hb => ?_) (fun hb => ?_)
        · have he := ok_t he hb
          have he := ok_some he
          exact ⟨rfl, _, _, (leads_ren [] (l := [(2, .c (.bool false))]) (st' := []) rfl rfl trivial ⟨.inr rfl, trivial⟩), he⟩
        · have he := ok_f he hb
          obtain ⟨r4_, hr, he⟩ := ok_bind he
          refine ⟨r4_, hr, ?_⟩
          have he := ok_rq he
          refine And.intro he.1 ?_
          have he := he.2
          have he := ok_some he
          exact ⟨(r4_, (i + (1:Int))), he, (leads_ren [] (l := [(1, .c (.ptr 10000000 0)), (3, .c (.int .i64 r4_)), (7, .c (.imm (.pair (.int .i64) (.int .i64)) (c__0, c__1).1)), (8, .c (.int .i64 ((c__0, c__1).1.length:Int))), (9, .c (.int .i64 (i + (1:Int))))]) (st' := [(10000000, .rc [.imm (.pair (.int .i64) (.int .i64)) (c__0, c__1).1, .int .i64 (c__0, c__1).2])]) rfl rfl ⟨⟨.inl rfl, rfl, trivial⟩, trivial⟩ ⟨⟨⟨rfl, rfl⟩, rfl⟩, rfl, .inl rfl, rfl, rfl, trivial⟩)⟩
      · have he := ok_t he hb
        have he := ok_some he
        exact ⟨rfl, _, _, (leads_ren [] (l := [(2, .c (.bool false))]) (st' := []) rfl rfl trivial ⟨.inr rfl, trivial⟩), he⟩
    · have he := ok_t he hb
      have he := ok_some he
      exact ⟨rfl, _, _, (leads_ren [] (l := [(2, .c (.bool false))]) (st' := []) rfl rfl trivial ⟨.inr rfl, trivial⟩), he⟩
  · have he := ok_f he hb
    obtain ⟨r5_, hr, he⟩ := ok_bind he
    refine ⟨r5_, hr, ?_⟩
    have he := ok_some he
    exact ⟨rfl, _, _, (leads_ren [] (l := [(2, .c (.bool r5_))]) (st' := []) rfl rfl trivial ⟨.inl rfl, trivial⟩), he⟩

noncomputable def c_impl_Constraint_valid__s : Con := fun args st => match args, st with
  | [.agg [.own 0 false, .int .i64 c_1]], [(0, .sl 140 (.pair (.int .i64) (.int .i64)) o0 .shallow)] => .opt (Bool × Int × (List (Int × Int))) (impl_Constraint_valid__s c_1 o0) (fun r => .ret (.tup [.agg [.own 901 false, .int .i64 r.2.1], .c (.bool r.1)]) [(0, .dead), (900, .rc [.own 901 false, .int .i64 r.2.1]), (901, .sl 140 (.pair (.int .i64) (.int .i64)) r.2.2 .shallow)])
  | _, _ => .fail

noncomputable def C_impl_Constraint_valid__s : Cfg := { y := tys, n := 9, h := 1, tab := [(22, c_impl_ConstraintValid)], cut := [], hand := [], good := [], deep := [], sched := [] }

theorem t_impl_Constraint_valid__s : TabOk Try.prog C_impl_Constraint_valid__s := by
  refine tabOk_of ?_
  simp only [C_impl_Constraint_valid__s, List.forall_mem_cons]
  exact ⟨k_impl_ConstraintValid, fun p h => by cases h⟩

theorem k_impl_Constraint_valid__s : Entry Try.prog 206 c_impl_Constraint_valid__s := by
  refine entry_by (C := C_impl_Constraint_valid__s) mixed tys_ok t_impl_Constraint_valid__s (fn := Try.f206) (c := bd Try.f206) (by kernel_rfl) (by kernel_rfl) (by kernel_rfl) (by kernel_rfl) ?_
  intro args st k he
  unfold c_impl_Constraint_valid__s at he
  split at he
  rotate_left
  · exact he.elim
  rename_i c_1 o0
  have he : Ok (impl_Constraint_valid__s c_1 o0) (fun r => k (.tup [.agg [.own 901 false, .int .i64 r.2.1], .c (.bool r.1)]) [(0, .dead), (900, .rc [.own 901 false, .int .i64 r.2.1]), (901, .sl 140 (.pair (.int .i64) (.int .i64)) r.2.2 .shallow)]) := he
  refine ⟨rfl, rfl, ?_⟩
  obtain ⟨r1_, hr, he⟩ := ok_bind he
  refine ⟨r1_, hr, ?_⟩
  refine And.intro (fun hb => ?_) (fun hb => ?_)
  · have he := ok_t he hb
    have he := ok_some he
    exact ⟨rfl, _, _, (leads_ren [(900, 2)] (l := [(2, .c (.ptr 900 0)), (3, .c (.bool false))]) (st' := [(0, .dead), (900, .rc [.own 901 false, .int .i64 (0:Int)]), (901, .sl 140 (.pair (.int .i64) (.int .i64)) ([] : List (Int × Int)) .shallow)]) rfl rfl ⟨trivial, ⟨⟨rfl, trivial⟩, rfl, trivial⟩, trivial, trivial⟩ ⟨⟨⟨rfl, rfl⟩, rfl⟩, .inr rfl, trivial⟩), he⟩
  · have he := ok_f he hb
    have he := ok_some he
    exact ⟨rfl, _, _, (leads_ren [(900, 2), (901, 0)] (l := [(2, .c (.ptr 900 0)), (3, .c (.bool true))]) (st' := [(0, .dead), (900, .rc [.own 901 false, .int .i64 c_1]), (901, .sl 140 (.pair (.int .i64) (.int .i64)) o0 .shallow)]) rfl rfl ⟨trivial, ⟨⟨⟨rfl, rfl⟩, trivial⟩, rfl, trivial⟩, ⟨rfl, rfl⟩, trivial⟩ ⟨⟨⟨rfl, rfl⟩, rfl⟩, .inr rfl, trivial⟩), he⟩

noncomputable def c_impl_normal : Con := fun args st => match args, st with
  | [.c (.imm (.pair (.int .i64) (.int .i64)) a0), .c (.int .i64 a1)], [] => .opt (Bool × Int × (List (Int × Int))) (impl_normal a0 a1) (fun r => .ret (.tup [.agg [.own 901 false, .int .i64 r.2.1], .c (.bool r.1)]) [(900, .rc [.own 901 false, .int .i64 r.2.1]), (901, .sl 140 (.pair (.int .i64) (.int .i64)) r.2.2 .shallow)])
  | _, _ => .fail

noncomputable def C_impl_normal : Cfg := { y := tys, n := 84, h := 0, tab := [(206, c_impl_Constraint_valid__s)], cut := [10, 18, 20], hand := [(206, [0])], good := [], deep := [], sched := [(7, (.first 0 (.first 5 (.alt 1 (.first 2 (.first 3 (.alt 4 (.alt 6 (.first 7 (.first 8 (.alt 9 .done .stop))) .stop) (.alt 6 (.alt 4 (.first 7 (.first 8 (.alt 9 .done .stop))) .stop) .stop)))) (.alt 6 (.alt 1 (.first 2 (.first 3 (.alt 4 (.first 7 (.first 8 (.alt 9 .done .stop))) .stop))) .stop) .stop))))), (8, (.first 0 (.first 4 (.alt 1 (.first 2 (.alt 3 (.alt 5 (.first 6 (.first 7 (.alt 8 .done .stop))) .stop) (.alt 5 (.alt 3 (.first 6 (.first 7 (.alt 8 .done .stop))) .stop) .stop))) (.alt 5 (.alt 1 (.first 2 (.alt 3 (.first 6 (.first 7 (.alt 8 .done .stop))) .stop)) .stop) .stop)))))] }

theorem t_impl_normal : TabOk Try.prog C_impl_normal := by
  refine tabOk_of ?_
  simp only [C_impl_normal, List.forall_mem_cons]
  exact ⟨k_impl_Constraint_valid__s, fun p h => by cases h⟩

theorem k_impl_normal : Entry Try.prog 103 c_impl_normal := by
  refine entry_by (C := C_impl_normal) mixed tys_ok t_impl_normal (fn := Try.f103) (c := bd Try.f103) (by kernel_rfl) (by kernel_rfl) (by kernel_rfl) (by kernel_rfl) ?_
  intro args st k he
  unfold c_impl_normal at he
  split at he
  rotate_left
  · exact he.elim
  rename_i a0 a1
  have he : Ok (impl_normal a0 a1) (fun r => k (.tup [.agg [.own 901 false, .int .i64 r.2.1], .c (.bool r.1)]) [(900, .rc [.own 901 false, .int .i64 r.2.1]), (901, .sl 140 (.pair (.int .i64) (.int .i64)) r.2.2 .shallow)]) := he
  refine ⟨rfl, rfl, ?_⟩
  refine seq_model mixed tys_ok t_impl_normal (S := Int × (List Int)) (I := (fun (i3, i4) => (envOf [(1, .c (.int .i64 i3)), (4, .c (.ptr 10001000 0)), (6, .c (.eptr 10001001 (0:Int) 0))], [(10001000, .rc [.nil, .int .i64 (0:Int)]), (10001001, .sl 207 (.int .i64) i4 .shallow)]))) (B := fun s => Ok (impl_normal_j1 s) (fun r => k (.tup [.agg [.own 901 false, .int .i64 r.2.1], .c (.bool r.1)]) [(900, .rc [.own 901 false, .int .i64 r.2.1]), (901, .sl 140 (.pair (.int .i64) (.int .i64)) r.2.2 .shallow)])) ?_ ?_
  · rintro ⟨i3, i4⟩ he
    refine seq_model mixed tys_ok t_impl_normal (S := Int × (List (Int × Int))) (I := (fun (i9, i_03) => (envOf [(1, .c (.int .i64 i9)), (4, .c (.ptr 10005000 0)), (9, .c (.ptr 10005001 0))], [(10005000, .rc [.nil, .int .i64 (0:Int)]), (10005001, .rc [.own 10005002 false, .int .i64 (0:Int)]), (10005002, .sl 140 (.pair (.int .i64) (.int .i64)) i_03 .shallow)]))) (B := fun s => Ok (impl_normal_j2 s) (fun r => k (.tup [.agg [.own 901 false, .int .i64 r.2.1], .c (.bool r.1)]) [(900, .rc [.own 901 false, .int .i64 r.2.1]), (901, .sl 140 (.pair (.int .i64) (.int .i64)) r.2.2 .shallow)])) ?_ ?_
    · rintro ⟨i9, i_03⟩ he
      obtain ⟨r1_, hr, he⟩ := ok_bind he
      refine ⟨r1_, hr, ?_⟩
      have he := ok_some he
      exact ⟨rfl, _, _, (leads_ren [(900, 10005000), (901, 82901)] (l := [(4, .c (.ptr 900 0)), (5, .c (.bool r1_.1))]) (st' := [(900, .rc [.own 901 false, .int .i64 r1_.2.1]), (901, .sl 140 (.pair (.int .i64) (.int .i64)) r1_.2.2 .shallow)]) rfl rfl ⟨⟨⟨⟨rfl, rfl⟩, trivial⟩, rfl, trivial⟩, ⟨rfl, rfl⟩, trivial⟩ ⟨⟨⟨rfl, rfl⟩, rfl⟩, .inl rfl, trivial⟩), he⟩
    · skip
      have he := ok_rq he
      refine And.intro he.1 ?_
      have he := he.2
      refine loop_model mixed tys_ok t_impl_normal (S := Int × Int × (List (Int × Int))) (I := (fun (i5, i6, i_01) => (envOf [(1, .c (.int .i64 i5)), (4, .c (.ptr 10002000 0)), (9, .c (.ptr 10002001 0)), (44, .agg [.int .i64 (i4.getD 0 0), .int .i64 (i4.getD 1 0), .int .i64 (i4.getD 2 0), .int .i64 (i4.getD 3 0), .int .i64 (i4.getD 4 0), .int .i64 (i4.getD 5 0), .int .i64 (i4.getD 6 0), .int .i64 (i4.getD 7 0), .int .i64 (i4.getD 8 0), .int .i64 (i4.getD 9 0), .int .i64 (i4.getD 10 0), .int .i64 (i4.getD 11 0), .int .i64 (i4.getD 12 0)]), (45, .c (.int .i64 i6))], [(10002000, .rc [.nil, .int .i64 (0:Int)]), (10002001, .rc [.own 10002002 false, .int .i64 (0:Int)]), (10002002, .sl 140 (.pair (.int .i64) (.int .i64)) i_01 .shallow)]))) (f := impl_normal_l1 i4) (K := (fun r => k (.tup [.agg [.own 901 false, .int .i64 r.2.1], .c (.bool r.1)]) [(900, .rc [.own 901 false, .int .i64 r.2.1]), (901, .sl 140 (.pair (.int .i64) (.int .i64)) r.2.2 .shallow)])) he (leads_ren [(10002000, 10001000), (10002001, 9)] (l := [(1, .c (.int .i64 i3)), (4, .c (.ptr 10002000 0)), (9, .c (.ptr 10002001 0)), (44, .agg [.int .i64 (i4.getD 0 0), .int .i64 (i4.getD 1 0), .int .i64 (i4.getD 2 0), .int .i64 (i4.getD 3 0), .int .i64 (i4.getD 4 0), .int .i64 (i4.getD 5 0), .int .i64 (i4.getD 6 0), .int .i64 (i4.getD 7 0), .int .i64 (i4.getD 8 0), .int .i64 (i4.getD 9 0), .int .i64 (i4.getD 10 0), .int .i64 (i4.getD 11 0), .int .i64 (i4.getD 12 0)]), (45, .c (.int .i64 (0:Int)))]) (st' := [(10002000, .rc [.nil, .int .i64 (0:Int)]), (10002001, .rc [.own 10002002 false, .int .i64 (0:Int)]), (10002002, .sl 140 (.pair (.int .i64) (.int .i64)) ([] : List (Int × Int)) .shallow)]) rfl rfl ⟨⟨rfl, rfl, trivial⟩, ⟨⟨rfl, trivial⟩, rfl, trivial⟩, trivial, trivial⟩ ⟨rfl, ⟨⟨rfl, rfl⟩, rfl⟩, ⟨⟨rfl, rfl⟩, rfl⟩, ⟨rfl, rfl, rfl, rfl, rfl, rfl, rfl, rfl, rfl, rfl, rfl, rfl, rfl, trivial⟩, rfl, trivial⟩) ?_
      rintro ⟨i5, i6, i_01⟩ J1 he
      refine And.intro (fun hb => ?_) (fun hb => ?_)
      · have he := ok_t he hb
        have he := ok_rq he
        refine And.intro he.1 ?_
        have he := he.2
        refine And.intro (fun hb => ?_) (fun hb => ?_)
        · have he := ok_t he hb
          have he := ok_rq he
          refine And.intro he.1 ?_
          have he := he.2
          have he := ok_rq he
          refine And.intro he.1 ?_
          have he := he.2
          have he := ok_some he
          exact ⟨(i5, (i6 + (1:Int)), (i_01 ++ [(([(i4.getD 0 0), (i4.getD 1 0), (i4.getD 2 0), (i4.getD 3 0), (i4.getD 4 0), (i4.getD 5 0), (i4.getD 6 0), (i4.getD 7 0), (i4.getD 8 0), (i4.getD 9 0), (i4.getD 10 0), (i4.getD 11 0), (i4.getD 12 0)].getD i6.toNat 0), i6)])), he, (leads_ren [(10002002, 58)] (l := [(1, .c (.int .i64 i5)), (4, .c (.ptr 10002000 0)), (9, .c (.ptr 10002001 0)), (44, .agg [.int .i64 (i4.getD 0 0), .int .i64 (i4.getD 1 0), .int .i64 (i4.getD 2 0), .int .i64 (i4.getD 3 0), .int .i64 (i4.getD 4 0), .int .i64 (i4.getD 5 0), .int .i64 (i4.getD 6 0), .int .i64 (i4.getD 7 0), .int .i64 (i4.getD 8 0), .int .i64 (i4.getD 9 0), .int .i64 (i4.getD 10 0), .int .i64 (i4.getD 11 0), .int .i64 (i4.getD 12 0)]), (45, .c (.int .i64 (i6 + (1:Int))))]) (st' := [(10002000, .rc [.nil, .int .i64 (0:Int)]), (10002001, .rc [.own 10002002 false, .int .i64 (0:Int)]), (10002002, .sl 140 (.pair (.int .i64) (.int .i64)) (i_01 ++ [(([(i4.getD 0 0), (i4.getD 1 0), (i4.getD 2 0), (i4.getD 3 0), (i4.getD 4 0), (i4.getD 5 0), (i4.getD 6 0), (i4.getD 7 0), (i4.getD 8 0), (i4.getD 9 0), (i4.getD 10 0), (i4.getD 11 0), (i4.getD 12 0)].getD i6.toNat 0), i6)]) .shallow)]) rfl rfl ⟨⟨rfl, rfl, trivial⟩, ⟨⟨⟨rfl, rfl⟩, trivial⟩, rfl, trivial⟩, ⟨rfl, rfl⟩, trivial⟩ ⟨rfl, ⟨⟨rfl, rfl⟩, rfl⟩, ⟨⟨rfl, rfl⟩, rfl⟩, ⟨rfl, rfl, rfl, rfl, rfl, rfl, rfl, rfl, rfl, rfl, rfl, rfl, rfl, trivial⟩, rfl, trivial⟩)⟩
        · have he := ok_f he hb
          refine And.intro (fun hb => ?_) (fun hb => ?_)
          · have he := ok_t he hb
            refine seq_model mixed tys_ok t_impl_normal (S := Int × (List (Int × Int))) (I := (fun (i8, i_02) => (envOf [(1, .c (.int .i64 i5)), (4, .c (.ptr 10004000 0)), (9, .c (.ptr 10004001 0)), (11, .c (.int .i64 i8)), (44, .agg [.int .i64 (i4.getD 0 0), .int .i64 (i4.getD 1 0), .int .i64 (i4.getD 2 0), .int .i64 (i4.getD 3 0), .int .i64 (i4.getD 4 0), .int .i64 (i4.getD 5 0), .int .i64 (i4.getD 6 0), .int .i64 (i4.getD 7 0), .int .i64 (i4.getD 8 0), .int .i64 (i4.getD 9 0), .int .i64 (i4.getD 10 0), .int .i64 (i4.getD 11 0), .int .i64 (i4.getD 12 0)]), (45, .c (.int .i64 i6))], [(10004000, .rc [.nil, .int .i64 (0:Int)]), (10004001, .rc [.own 10004002 false, .int .i64 (0:Int)]), (10004002, .sl 140 (.pair (.int .i64) (.int .i64)) i_02 .shallow)]))) (B := fun s => Ok (impl_normal_j3 i5 i6 s) (LK J1 (fun r => k (.tup [.agg [.own 901 false, .int .i64 r.2.1], .c (.bool r.1)]) [(900, .rc [.own 901 false, .int .i64 r.2.1]), (901, .sl 140 (.pair (.int .i64) (.int .i64)) r.2.2 .shallow)]))) ?_ ?_
            · rintro ⟨i8, i_02⟩ he
              have he := ok_rq he
              refine And.intro he.1 ?_
              have he := he.2
              have he := ok_rq he
              refine And.intro he.1 ?_
              have he := he.2
              have he := ok_some he
              exact ⟨((i5 - i8), (i6 + (1:Int)), i_02), he, (leads_ren [(10002000, 10004000), (10002001, 10004001), (10002002, 10004002)] (l := [(1, .c (.int .i64 (i5 - i8))), (4, .c (.ptr 10002000 0)), (9, .c (.ptr 10002001 0)), (44, .agg [.int .i64 (i4.getD 0 0), .int .i64 (i4.getD 1 0), .int .i64 (i4.getD 2 0), .int .i64 (i4.getD 3 0), .int .i64 (i4.getD 4 0), .int .i64 (i4.getD 5 0), .int .i64 (i4.getD 6 0), .int .i64 (i4.getD 7 0), .int .i64 (i4.getD 8 0), .int .i64 (i4.getD 9 0), .int .i64 (i4.getD 10 0), .int .i64 (i4.getD 11 0), .int .i64 (i4.getD 12 0)]), (45, .c (.int .i64 (i6 + (1:Int))))]) (st' := [(10002000, .rc [.nil, .int .i64 (0:Int)]), (10002001, .rc [.own 10002002 false, .int .i64 (0:Int)]), (10002002, .sl 140 (.pair (.int .i64) (.int .i64)) i_02 .shallow)]) rfl rfl ⟨⟨rfl, rfl, trivial⟩, ⟨⟨⟨rfl, rfl⟩, trivial⟩, rfl, trivial⟩, ⟨rfl, rfl⟩, trivial⟩ ⟨rfl, ⟨⟨rfl, rfl⟩, rfl⟩, ⟨⟨rfl, rfl⟩, rfl⟩, ⟨rfl, rfl, rfl, rfl, rfl, rfl, rfl, rfl, rfl, rfl, rfl, rfl, rfl, trivial⟩, rfl, trivial⟩)⟩
            · skip
              have he := ok_rq he
              refine And.intro he.1 ?_
              have he := he.2
              have he := ok_rq he
              refine And.intro he.1 ?_
              have he := he.2
              have he := ok_rq he
              refine And.intro he.1 ?_
              have he := he.2
              exact ⟨(([(i4.getD 0 0), (i4.getD 1 0), (i4.getD 2 0), (i4.getD 3 0), (i4.getD 4 0), (i4.getD 5 0), (i4.getD 6 0), (i4.getD 7 0), (i4.getD 8 0), (i4.getD 9 0), (i4.getD 10 0), (i4.getD 11 0), (i4.getD 12 0)].getD i6.toNat 0), (i_01 ++ [((0 - ([(i4.getD 0 0), (i4.getD 1 0), (i4.getD 2 0), (i4.getD 3 0), (i4.getD 4 0), (i4.getD 5 0), (i4.getD 6 0), (i4.getD 7 0), (i4.getD 8 0), (i4.getD 9 0), (i4.getD 10 0), (i4.getD 11 0), (i4.getD 12 0)].getD i6.toNat 0)), (0 - i6))])), he, (leads_ren [(10004000, 10002000), (10004001, 10002001), (10004002, 71)] (l := [(1, .c (.int .i64 i5)), (4, .c (.ptr 10004000 0)), (9, .c (.ptr 10004001 0)), (11, .c (.int .i64 ([(i4.getD 0 0), (i4.getD 1 0), (i4.getD 2 0), (i4.getD 3 0), (i4.getD 4 0), (i4.getD 5 0), (i4.getD 6 0), (i4.getD 7 0), (i4.getD 8 0), (i4.getD 9 0), (i4.getD 10 0), (i4.getD 11 0), (i4.getD 12 0)].getD i6.toNat 0))), (44, .agg [.int .i64 (i4.getD 0 0), .int .i64 (i4.getD 1 0), .int .i64 (i4.getD 2 0), .int .i64 (i4.getD 3 0), .int .i64 (i4.getD 4 0), .int .i64 (i4.getD 5 0), .int .i64 (i4.getD 6 0), .int .i64 (i4.getD 7 0), .int .i64 (i4.getD 8 0), .int .i64 (i4.getD 9 0), .int .i64 (i4.getD 10 0), .int .i64 (i4.getD 11 0), .int .i64 (i4.getD 12 0)]), (45, .c (.int .i64 i6))]) (st' := [(10004000, .rc [.nil, .int .i64 (0:Int)]), (10004001, .rc [.own 10004002 false, .int .i64 (0:Int)]), (10004002, .sl 140 (.pair (.int .i64) (.int .i64)) (i_01 ++ [((0 - ([(i4.getD 0 0), (i4.getD 1 0), (i4.getD 2 0), (i4.getD 3 0), (i4.getD 4 0), (i4.getD 5 0), (i4.getD 6 0), (i4.getD 7 0), (i4.getD 8 0), (i4.getD 9 0), (i4.getD 10 0), (i4.getD 11 0), (i4.getD 12 0)].getD i6.toNat 0)), (0 - i6))]) .shallow)]) rfl rfl ⟨⟨rfl, rfl, trivial⟩, ⟨⟨⟨rfl, rfl⟩, trivial⟩, rfl, trivial⟩, ⟨rfl, rfl⟩, trivial⟩ ⟨rfl, ⟨⟨rfl, rfl⟩, rfl⟩, ⟨⟨rfl, rfl⟩, rfl⟩, rfl, ⟨rfl, rfl, rfl, rfl, rfl, rfl, rfl, rfl, rfl, rfl, rfl, rfl, rfl, trivial⟩, rfl, trivial⟩)⟩
          · have he := ok_f he hb
            have he := ok_rq he
            refine And.intro he.1 ?_
            have he := he.2
            have he := ok_some he
            exact ⟨(i5, (i6 + (1:Int)), i_01), he, (leads_ren [] (l := [(1, .c (.int .i64 i5)), (4, .c (.ptr 10002000 0)), (9, .c (.ptr 10002001 0)), (44, .agg [.int .i64 (i4.getD 0 0), .int .i64 (i4.getD 1 0), .int .i64 (i4.getD 2 0), .int .i64 (i4.getD 3 0), .int .i64 (i4.getD 4 0), .int .i64 (i4.getD 5 0), .int .i64 (i4.getD 6 0), .int .i64 (i4.getD 7 0), .int .i64 (i4.getD 8 0), .int .i64 (i4.getD 9 0), .int .i64 (i4.getD 10 0), .int .i64 (i4.getD 11 0), .int .i64 (i4.getD 12 0)]), (45, .c (.int .i64 (i6 + (1:Int))))]) (st' := [(10002000, .rc [.nil, .int .i64 (0:Int)]), (10002001, .rc [.own 10002002 false, .int .i64 (0:Int)]), (10002002, .sl 140 (.pair (.int .i64) (.int .i64)) i_01 .shallow)]) rfl rfl ⟨⟨rfl, rfl, trivial⟩, ⟨⟨⟨rfl, rfl⟩, trivial⟩, rfl, trivial⟩, ⟨rfl, rfl⟩, trivial⟩ ⟨rfl, ⟨⟨rfl, rfl⟩, rfl⟩, ⟨⟨rfl, rfl⟩, rfl⟩, ⟨rfl, rfl, rfl, rfl, rfl, rfl, rfl, rfl, rfl, rfl, rfl, rfl, rfl, trivial⟩, rfl, trivial⟩)⟩
      · have he := ok_f he hb
        exact ⟨(i5, i_01), ok_up he, (leads_ren [(10005000, 10002000), (10005001, 10002001), (10005002, 10002002)] (l := [(1, .c (.int .i64 i5)), (4, .c (.ptr 10005000 0)), (9, .c (.ptr 10005001 0))]) (st' := [(10005000, .rc [.nil, .int .i64 (0:Int)]), (10005001, .rc [.own 10005002 false, .int .i64 (0:Int)]), (10005002, .sl 140 (.pair (.int .i64) (.int .i64)) i_01 .shallow)]) rfl rfl ⟨⟨rfl, rfl, trivial⟩, ⟨⟨⟨rfl, rfl⟩, trivial⟩, rfl, trivial⟩, ⟨rfl, rfl⟩, trivial⟩ ⟨rfl, ⟨⟨rfl, rfl⟩, rfl⟩, ⟨⟨rfl, rfl⟩, rfl⟩, trivial⟩)⟩
  · skip
    refine loop_model mixed tys_ok t_impl_normal (S := Int × Int × (List Int)) (I := (fun (i, i1, i2) => (envOf [(1, .c (.int .i64 i)), (4, .c (.ptr 10000000 0)), (6, .c (.eptr 10000001 (0:Int) 0)), (12, .c (.imm (.pair (.int .i64) (.int .i64)) a0)), (13, .c (.int .i64 (a0.length:Int))), (14, .c (.int .i64 i1))], [(10000000, .rc [.nil, .int .i64 (0:Int)]), (10000001, .sl 207 (.int .i64) i2 .shallow)]))) (f := impl_normal_l2 a0) (K := (fun r => k (.tup [.agg [.own 901 false, .int .i64 r.2.1], .c (.bool r.1)]) [(900, .rc [.own 901 false, .int .i64 r.2.1]), (901, .sl 140 (.pair (.int .i64) (.int .i64)) r.2.2 .shallow)])) he (leads_ren [(10000000, 4), (10000001, 6)] (l := [(1, .c (.int .i64 a1)), (4, .c (.ptr 10000000 0)), (6, .c (.eptr 10000001 (0:Int) 0)), (12, .c (.imm (.pair (.int .i64) (.int .i64)) a0)), (13, .c (.int .i64 (a0.length:Int))), (14, .c (.int .i64 (0:Int)))]) (st' := [(10000000, .rc [.nil, .int .i64 (0:Int)]), (10000001, .sl 207 (.int .i64) (List.replicate 13 0) .shallow)]) rfl rfl ⟨⟨rfl, rfl, trivial⟩, ⟨rfl, rfl⟩, trivial⟩ ⟨rfl, ⟨⟨rfl, rfl⟩, rfl⟩, ⟨⟨rfl, rfl⟩, rfl, rfl⟩, .inl rfl, rfl, rfl, trivial⟩) ?_
    rintro ⟨i, i1, i2⟩ J1 he
    refine And.intro (fun hb => ?_) (fun hb => ?_)
    · have he := ok_t he hb
      have he := ok_rq he
      refine And.intro he.1 ?_
      have he := he.2
      refine And.intro (fun hb => ?_) (fun hb => ?_)
      · have he := ok_t he hb
        have he := ok_rq he
        refine And.intro he.1 ?_
        have he := he.2
        refine And.intro (by kernel_rfl) ?_
        have he := ok_rq he
        have hq1 := he.1
        have he := he.2
        have he := ok_rq he
        have hq2 := he.1
        have he := he.2
        have he := ok_rq he
        have hq3 := he.1
        have he := he.2
        have he := ok_rq he
        have hq4 := he.1
        have he := he.2
        refine And.intro ?_ (And.intro ?_ (trivial))
        · skip
          refine And.intro hq1 ?_
          refine And.intro hq2 ?_
          refine And.intro ?_ (And.intro ?_ (trivial))
          · skip
            refine And.intro ?_ trivial
            refine And.intro hq3 ?_
            refine And.intro hq2 ?_
            refine And.intro ?_ trivial
            have he := ok_rq he
            refine And.intro he.1 ?_
            have he := he.2
            have he := ok_some he
            exact ⟨((i - (a0.getD i1.toNat (0, 0)).1), (i1 + (1:Int)), (i2.set (0 - (a0.getD i1.toNat (0, 0)).2).toNat ((i2.getD (0 - (a0.getD i1.toNat (0, 0)).2).toNat 0) - (a0.getD i1.toNat (0, 0)).1))), he, (leads_ren [] (l := [(1, .c (.int .i64 (i - (a0.getD i1.toNat (0, 0)).1))), (4, .c (.ptr 10000000 0)), (6, .c (.eptr 10000001 (0:Int) 0)), (12, .c (.imm (.pair (.int .i64) (.int .i64)) a0)), (13, .c (.int .i64 (a0.length:Int))), (14, .c (.int .i64 (i1 + (1:Int))))]) (st' := [(10000000, .rc [.nil, .int .i64 (0:Int)]), (10000001, .sl 207 (.int .i64) (i2.set (0 - (a0.getD i1.toNat (0, 0)).2).toNat ((i2.getD (0 - (a0.getD i1.toNat (0, 0)).2).toNat 0) - (a0.getD i1.toNat (0, 0)).1)) .shallow)]) rfl rfl ⟨⟨rfl, rfl, trivial⟩, ⟨rfl, rfl⟩, trivial⟩ ⟨rfl, ⟨⟨rfl, rfl⟩, rfl⟩, ⟨⟨rfl, rfl⟩, rfl, rfl⟩, .inl rfl, rfl, rfl, trivial⟩)⟩
          · skip
            refine And.intro ?_ trivial
            refine And.intro hq3 ?_
            refine And.intro hq2 ?_
            refine And.intro ?_ trivial
            have he := ok_rq he
            refine And.intro he.1 ?_
            have he := he.2
            have he := ok_some he
            exact ⟨((i - (a0.getD i1.toNat (0, 0)).1), (i1 + (1:Int)), (i2.set (0 - (a0.getD i1.toNat (0, 0)).2).toNat ((i2.getD (0 - (a0.getD i1.toNat (0, 0)).2).toNat 0) - (a0.getD i1.toNat (0, 0)).1))), he, (leads_ren [] (l := [(1, .c (.int .i64 (i - (a0.getD i1.toNat (0, 0)).1))), (4, .c (.ptr 10000000 0)), (6, .c (.eptr 10000001 (0:Int) 0)), (12, .c (.imm (.pair (.int .i64) (.int .i64)) a0)), (13, .c (.int .i64 (a0.length:Int))), (14, .c (.int .i64 (i1 + (1:Int))))]) (st' := [(10000000, .rc [.nil, .int .i64 (0:Int)]), (10000001, .sl 207 (.int .i64) (i2.set (0 - (a0.getD i1.toNat (0, 0)).2).toNat ((i2.getD (0 - (a0.getD i1.toNat (0, 0)).2).toNat 0) - (a0.getD i1.toNat (0, 0)).1)) .shallow)]) rfl rfl ⟨⟨rfl, rfl, trivial⟩, ⟨rfl, rfl⟩, trivial⟩ ⟨rfl, ⟨⟨rfl, rfl⟩, rfl⟩, ⟨⟨rfl, rfl⟩, rfl, rfl⟩, .inl rfl, rfl, rfl, trivial⟩)⟩
        · skip
          refine And.intro ?_ trivial
          refine And.intro hq1 ?_
          refine And.intro hq2 ?_
          refine And.intro ?_ trivial
          refine And.intro hq3 ?_
          refine And.intro hq2 ?_
          refine And.intro ?_ trivial
          have he := ok_rq he
          refine And.intro he.1 ?_
          have he := he.2
          have he := ok_some he
          exact ⟨((i - (a0.getD i1.toNat (0, 0)).1), (i1 + (1:Int)), (i2.set (0 - (a0.getD i1.toNat (0, 0)).2).toNat ((i2.getD (0 - (a0.getD i1.toNat (0, 0)).2).toNat 0) - (a0.getD i1.toNat (0, 0)).1))), he, (leads_ren [] (l := [(1, .c (.int .i64 (i - (a0.getD i1.toNat (0, 0)).1))), (4, .c (.ptr 10000000 0)), (6, .c (.eptr 10000001 (0:Int) 0)), (12, .c (.imm (.pair (.int .i64) (.int .i64)) a0)), (13, .c (.int .i64 (a0.length:Int))), (14, .c (.int .i64 (i1 + (1:Int))))]) (st' := [(10000000, .rc [.nil, .int .i64 (0:Int)]), (10000001, .sl 207 (.int .i64) (i2.set (0 - (a0.getD i1.toNat (0, 0)).2).toNat ((i2.getD (0 - (a0.getD i1.toNat (0, 0)).2).toNat 0) - (a0.getD i1.toNat (0, 0)).1)) .shallow)]) rfl rfl ⟨⟨rfl, rfl, trivial⟩, ⟨rfl, rfl⟩, trivial⟩ ⟨rfl, ⟨⟨rfl, rfl⟩, rfl⟩, ⟨⟨rfl, rfl⟩, rfl, rfl⟩, .inl rfl, rfl, rfl, trivial⟩)⟩
      · have he := ok_f he hb
        refine And.intro (by kernel_rfl) ?_
        have he := ok_rq he
        have hq1 := he.1
        have he := he.2
        have he := ok_rq he
        have hq2 := he.1
        have he := he.2
        have he := ok_rq he
        have hq3 := he.1
        have he := he.2
        refine And.intro ?_ (And.intro ?_ (trivial))
        · skip
          refine And.intro hq1 ?_
          refine And.intro ?_ (And.intro ?_ (trivial))
          · skip
            refine And.intro ?_ trivial
            refine And.intro hq2 ?_
            refine And.intro hq1 ?_
            refine And.intro ?_ trivial
            have he := ok_rq he
            refine And.intro he.1 ?_
            have he := he.2
            have he := ok_some he
            exact ⟨(i, (i1 + (1:Int)), (i2.set (a0.getD i1.toNat (0, 0)).2.toNat ((i2.getD (a0.getD i1.toNat (0, 0)).2.toNat 0) + (a0.getD i1.toNat (0, 0)).1))), he, (leads_ren [] (l := [(1, .c (.int .i64 i)), (4, .c (.ptr 10000000 0)), (6, .c (.eptr 10000001 (0:Int) 0)), (12, .c (.imm (.pair (.int .i64) (.int .i64)) a0)), (13, .c (.int .i64 (a0.length:Int))), (14, .c (.int .i64 (i1 + (1:Int))))]) (st' := [(10000000, .rc [.nil, .int .i64 (0:Int)]), (10000001, .sl 207 (.int .i64) (i2.set (a0.getD i1.toNat (0, 0)).2.toNat ((i2.getD (a0.getD i1.toNat (0, 0)).2.toNat 0) + (a0.getD i1.toNat (0, 0)).1)) .shallow)]) rfl rfl ⟨⟨rfl, rfl, trivial⟩, ⟨rfl, rfl⟩, trivial⟩ ⟨rfl, ⟨⟨rfl, rfl⟩, rfl⟩, ⟨⟨rfl, rfl⟩, rfl, rfl⟩, .inl rfl, rfl, rfl, trivial⟩)⟩
          · skip
            refine And.intro ?_ trivial
            refine And.intro hq2 ?_
            refine And.intro hq1 ?_
            refine And.intro ?_ trivial
            have he := ok_rq he
            refine And.intro he.1 ?_
            have he := he.2
            have he := ok_some he
            exact ⟨(i, (i1 + (1:Int)), (i2.set (a0.getD i1.toNat (0, 0)).2.toNat ((i2.getD (a0.getD i1.toNat (0, 0)).2.toNat 0) + (a0.getD i1.toNat (0, 0)).1))), he, (leads_ren [] (l := [(1, .c (.int .i64 i)), (4, .c (.ptr 10000000 0)), (6, .c (.eptr 10000001 (0:Int) 0)), (12, .c (.imm (.pair (.int .i64) (.int .i64)) a0)), (13, .c (.int .i64 (a0.length:Int))), (14, .c (.int .i64 (i1 + (1:Int))))]) (st' := [(10000000, .rc [.nil, .int .i64 (0:Int)]), (10000001, .sl 207 (.int .i64) (i2.set (a0.getD i1.toNat (0, 0)).2.toNat ((i2.getD (a0.getD i1.toNat (0, 0)).2.toNat 0) + (a0.getD i1.toNat (0, 0)).1)) .shallow)]) rfl rfl ⟨⟨rfl, rfl, trivial⟩, ⟨rfl, rfl⟩, trivial⟩ ⟨rfl, ⟨⟨rfl, rfl⟩, rfl⟩, ⟨⟨rfl, rfl⟩, rfl, rfl⟩, .inl rfl, rfl, rfl, trivial⟩)⟩
        · skip
          refine And.intro ?_ trivial
          refine And.intro hq1 ?_
          refine And.intro ?_ trivial
          refine And.intro hq2 ?_
          refine And.intro hq1 ?_
          refine And.intro ?_ trivial
          have he := ok_rq he
          refine And.intro he.1 ?_
          have he := he.2
          have he := ok_some he
          exact ⟨(i, (i1 + (1:Int)), (i2.set (a0.getD i1.toNat (0, 0)).2.toNat ((i2.getD (a0.getD i1.toNat (0, 0)).2.toNat 0) + (a0.getD i1.toNat (0, 0)).1))), he, (leads_ren [] (l := [(1, .c (.int .i64 i)), (4, .c (.ptr 10000000 0)), (6, .c (.eptr 10000001 (0:Int) 0)), (12, .c (.imm (.pair (.int .i64) (.int .i64)) a0)), (13, .c (.int .i64 (a0.length:Int))), (14, .c (.int .i64 (i1 + (1:Int))))]) (st' := [(10000000, .rc [.nil, .int .i64 (0:Int)]), (10000001, .sl 207 (.int .i64) (i2.set (a0.getD i1.toNat (0, 0)).2.toNat ((i2.getD (a0.getD i1.toNat (0, 0)).2.toNat 0) + (a0.getD i1.toNat (0, 0)).1)) .shallow)]) rfl rfl ⟨⟨rfl, rfl, trivial⟩, ⟨rfl, rfl⟩, trivial⟩ ⟨rfl, ⟨⟨rfl, rfl⟩, rfl⟩, ⟨⟨rfl, rfl⟩, rfl, rfl⟩, .inl rfl, rfl, rfl, trivial⟩)⟩
    · have he := ok_f he hb
      exact ⟨(i, i2), ok_up he, (leads_ren [(10001000, 10000000), (10001001, 10000001)] (l := [(1, .c (.int .i64 i)), (4, .c (.ptr 10001000 0)), (6, .c (.eptr 10001001 (0:Int) 0))]) (st' := [(10001000, .rc [.nil, .int .i64 (0:Int)]), (10001001, .sl 207 (.int .i64) i2 .shallow)]) rfl rfl ⟨⟨rfl, rfl, trivial⟩, ⟨rfl, rfl⟩, trivial⟩ ⟨rfl, ⟨⟨rfl, rfl⟩, rfl⟩, ⟨⟨rfl, rfl⟩, rfl, rfl⟩, trivial⟩)⟩

noncomputable def c_impl_AtMostConstraint : Con := fun args st => match args, st with
  | [.agg [.imm (.int .i64) m_0, .imm (.pair (.int .i64) (.pair (.sl (.int .i64)) (.pair (.sl (.int .i64)) (.pair (.int .i64) (.sl (.sl (.int .i64))))))) m_1], .c (.imm (.int .i64) coefs), .c (.int .i64 most)], [] => .opt (Bool × Int × (List (Int × Int))) (impl_AtMostConstraint (m_0, m_1) coefs most) (fun r => .ret (.tup [.agg [.own 901 false, .int .i64 r.2.1], .c (.bool r.1)]) [(900, .rc [.own 901 false, .int .i64 r.2.1]), (901, .sl 140 (.pair (.int .i64) (.int .i64)) r.2.2 .shallow)])
  | _, _ => .fail

noncomputable def C_impl_AtMostConstraint : Cfg := { y := tys, n := 63, h := 0, tab := [(39, c_impl_ModelValid), (100, c_impl_isObjective), (101, c_impl_within), (102, c_impl_Model_boolVar), (103, c_impl_normal)], cut := [13], hand := [], good := [], deep := [], sched := [(10, (.first 0 (.first 1 (.first 2 (.first 3 (.first 4 (.first 5 (.first 6 (.first 7 (.first 9 (.first 10 (.alt 8 (.alt 11 (.alt 12 (.alt 13 (.alt 14 (.first 15 .done) .stop) .stop) .stop) .stop) .stop))))))))))))] }

theorem t_impl_AtMostConstraint : TabOk Try.prog C_impl_AtMostConstraint := by
  refine tabOk_of ?_
  simp only [C_impl_AtMostConstraint, List.forall_mem_cons]
  exact ⟨k_impl_ModelValid, k_impl_isObjective, k_impl_within, k_impl_Model_boolVar, k_impl_normal, fun p h => by cases h⟩

theorem k_impl_AtMostConstraint : Entry Try.prog 17 c_impl_AtMostConstraint := by
  refine entry_by (C := C_impl_AtMostConstraint) mixed tys_ok t_impl_AtMostConstraint (fn := Try.f17) (c := bd Try.f17) (by kernel_rfl) (by kernel_rfl) (by kernel_rfl) (by kernel_rfl) ?_
  intro args st k he
  unfold c_impl_AtMostConstraint at he
  split at he
  rotate_left
  · exact he.elim
  rename_i m_0 m_1 coefs most
  have he : Ok (impl_AtMostConstraint (m_0, m_1) coefs most) (fun r => k (.tup [.agg [.own 901 false, .int .i64 r.2.1], .c (.bool r.1)]) [(900, .rc [.own 901 false, .int .i64 r.2.1]), (901, .sl 140 (.pair (.int .i64) (.int .i64)) r.2.2 .shallow)]) := he
  refine ⟨rfl, rfl, ?_⟩
  obtain ⟨r1_, hr, he⟩ := ok_bind he
  refine ⟨r1_, hr, ?_⟩
  refine And.intro (fun hb => ?_) (fun hb => ?_)
  · have he := ok_f he hb
    obtain ⟨r2_, hr, he⟩ := ok_bind he
    refine ⟨r2_, hr, ?_⟩
    refine And.intro (fun hb => ?_) (fun hb => ?_)
    · have he := ok_f he hb
      obtain ⟨r3_, hr, he⟩ := ok_bind he
      refine ⟨r3_, hr, ?_⟩
      refine And.intro (fun hb => ?_) (fun hb => ?_)
      · have he := ok_t he hb
        have he := ok_some he
        exact ⟨rfl, _, _, (leads_ren [(900, 6)] (l := [(6, .c (.ptr 900 0)), (7, .c (.bool false))]) (st' := [(900, .rc [.own 901 false, .int .i64 (0:Int)]), (901, .sl 140 (.pair (.int .i64) (.int .i64)) ([] : List (Int × Int)) .shallow)]) rfl rfl ⟨⟨⟨rfl, trivial⟩, rfl, trivial⟩, trivial, trivial⟩ ⟨⟨⟨rfl, rfl⟩, rfl⟩, .inr rfl, trivial⟩), he⟩
      · have he := ok_f he hb
        refine seq_model mixed tys_ok t_impl_AtMostConstraint (S := (List (Int × Int))) (I := (fun terms3 => (envOf [(2, .c (.int .i64 most)), (6, .c (.ptr 10003000 0)), (8, .c (.own 10003001 false))], [(10003000, .rc [.nil, .int .i64 (0:Int)]), (10003001, .sl 140 (.pair (.int .i64) (.int .i64)) terms3 .shallow)]))) (B := fun s => Ok (impl_AtMostConstraint_j1 most s) (fun r => k (.tup [.agg [.own 901 false, .int .i64 r.2.1], .c (.bool r.1)]) [(900, .rc [.own 901 false, .int .i64 r.2.1]), (901, .sl 140 (.pair (.int .i64) (.int .i64)) r.2.2 .shallow)])) ?_ ?_
        · rintro terms3 he
          have he := ok_rq he
          refine And.intro he.1 ?_
          have he := he.2
          obtain ⟨r9_, hr, he⟩ := ok_bind he
          refine ⟨r9_, hr, ?_⟩
          have he := ok_some he
          exact ⟨rfl, _, _, (leads_ren [(900, 10003000), (901, 61901)] (l := [(6, .c (.ptr 900 0)), (7, .c (.bool r9_.1))]) (st' := [(900, .rc [.own 901 false, .int .i64 r9_.2.1]), (901, .sl 140 (.pair (.int .i64) (.int .i64)) r9_.2.2 .shallow)]) rfl rfl ⟨⟨⟨⟨rfl, rfl⟩, trivial⟩, rfl, trivial⟩, ⟨rfl, rfl⟩, trivial⟩ ⟨⟨⟨rfl, rfl⟩, rfl⟩, .inl rfl, trivial⟩), he⟩
        · skip
          refine loop_model mixed tys_ok t_impl_AtMostConstraint (S := Int × (List (Int × Int))) (I := (fun (i, terms1) => (envOf [(1, .c (.imm (.int .i64) coefs)), (2, .c (.int .i64 most)), (3, .c (.ptr 10000000 0)), (6, .c (.ptr 10000001 0)), (8, .c (.own 10000002 false)), (28, .c (.imm (.int .i64) (m_0, m_1).1)), (29, .c (.int .i64 ((m_0, m_1).1.length:Int))), (30, .c (.int .i64 i))], [(10000000, .rc [.imm (.int .i64) (m_0, m_1).1, .imm (.pair (.int .i64) (.pair (.sl (.int .i64)) (.pair (.sl (.int .i64)) (.pair (.int .i64) (.sl (.sl (.int .i64))))))) (m_0, m_1).2]), (10000001, .rc [.nil, .int .i64 (0:Int)]), (10000002, .sl 140 (.pair (.int .i64) (.int .i64)) terms1 .shallow)]))) (f := impl_AtMostConstraint_l1 (m_0, m_1) coefs most) (K := (fun r => k (.tup [.agg [.own 901 false, .int .i64 r.2.1], .c (.bool r.1)]) [(900, .rc [.own 901 false, .int .i64 r.2.1]), (901, .sl 140 (.pair (.int .i64) (.int .i64)) r.2.2 .shallow)])) he (leads_ren [(10000000, 3), (10000001, 6)] (l := [(1, .c (.imm (.int .i64) coefs)), (2, .c (.int .i64 most)), (3, .c (.ptr 10000000 0)), (6, .c (.ptr 10000001 0)), (8, .c (.own 10000002 false)), (28, .c (.imm (.int .i64) (m_0, m_1).1)), (29, .c (.int .i64 ((m_0, m_1).1.length:Int))), (30, .c (.int .i64 (0:Int)))]) (st' := [(10000000, .rc [.imm (.int .i64) (m_0, m_1).1, .imm (.pair (.int .i64) (.pair (.sl (.int .i64)) (.pair (.sl (.int .i64)) (.pair (.int .i64) (.sl (.sl (.int .i64))))))) (m_0, m_1).2]), (10000001, .rc [.nil, .int .i64 (0:Int)]), (10000002, .sl 140 (.pair (.int .i64) (.int .i64)) ([] : List (Int × Int)) .shallow)]) rfl rfl ⟨⟨.inl rfl, .inl rfl, trivial⟩, ⟨rfl, rfl, trivial⟩, trivial, trivial⟩ ⟨.inl rfl, rfl, ⟨⟨rfl, rfl⟩, rfl⟩, ⟨⟨rfl, rfl⟩, rfl⟩, ⟨rfl, trivial⟩, .inl rfl, rfl, rfl, trivial⟩) ?_
          rintro ⟨i, terms1⟩ J1 he
          refine And.intro (fun hb => ?_) (fun hb => ?_)
          · have he := ok_t he hb
            have he := ok_rq he
            refine And.intro he.1 ?_
            have he := he.2
            have he := ok_rq he
            refine And.intro he.1 ?_
            have he := he.2
            refine loop_model mixed tys_ok t_impl_AtMostConstraint (S := Int × (List (Int × Int))) (I := (fun (i2, terms2) => (envOf [(1, .c (.imm (.int .i64) coefs)), (2, .c (.int .i64 most)), (3, .c (.ptr 10002000 0)), (6, .c (.ptr 10002001 0)), (8, .c (.own 10002002 false)), (9, .c (.int .i64 i)), (28, .c (.imm (.int .i64) (m_0, m_1).1)), (29, .c (.int .i64 ((m_0, m_1).1.length:Int))), (30, .c (.int .i64 i)), (36, .c (.int .i64 (((m_0, m_1).1.getD i.toNat 0) + (1:Int)))), (37, .c (.int .i64 i2))], [(10002000, .rc [.imm (.int .i64) (m_0, m_1).1, .imm (.pair (.int .i64) (.pair (.sl (.int .i64)) (.pair (.sl (.int .i64)) (.pair (.int .i64) (.sl (.sl (.int .i64))))))) (m_0, m_1).2]), (10002001, .rc [.nil, .int .i64 (0:Int)]), (10002002, .sl 140 (.pair (.int .i64) (.int .i64)) terms2 .shallow)]))) (f := impl_AtMostConstraint_l2 (m_0, m_1) coefs i) (K := (LK J1 (fun r => k (.tup [.agg [.own 901 false, .int .i64 r.2.1], .c (.bool r.1)]) [(900, .rc [.own 901 false, .int .i64 r.2.1]), (901, .sl 140 (.pair (.int .i64) (.int .i64)) r.2.2 .shallow)]))) he (leads_ren [(10002000, 10000000), (10002001, 10000001), (10002002, 10000002)] (l := [(1, .c (.imm (.int .i64) coefs)), (2, .c (.int .i64 most)), (3, .c (.ptr 10002000 0)), (6, .c (.ptr 10002001 0)), (8, .c (.own 10002002 false)), (9, .c (.int .i64 i)), (28, .c (.imm (.int .i64) (m_0, m_1).1)), (29, .c (.int .i64 ((m_0, m_1).1.length:Int))), (30, .c (.int .i64 i)), (36, .c (.int .i64 (((m_0, m_1).1.getD i.toNat 0) + (1:Int)))), (37, .c (.int .i64 (0:Int)))]) (st' := [(10002000, .rc [.imm (.int .i64) (m_0, m_1).1, .imm (.pair (.int .i64) (.pair (.sl (.int .i64)) (.pair (.sl (.int .i64)) (.pair (.int .i64) (.sl (.sl (.int .i64))))))) (m_0, m_1).2]), (10002001, .rc [.nil, .int .i64 (0:Int)]), (10002002, .sl 140 (.pair (.int .i64) (.int .i64)) terms1 .shallow)]) rfl rfl ⟨⟨.inl rfl, .inl rfl, trivial⟩, ⟨rfl, rfl, trivial⟩, ⟨rfl, rfl⟩, trivial⟩ ⟨.inl rfl, rfl, ⟨⟨rfl, rfl⟩, rfl⟩, ⟨⟨rfl, rfl⟩, rfl⟩, ⟨⟨rfl, rfl⟩, trivial⟩, rfl, .inl rfl, rfl, rfl, rfl, rfl, trivial⟩) ?_
            rintro ⟨i2, terms2⟩ J2 he
            refine And.intro (fun hb => ?_) (fun hb => ?_)
            · have he := ok_t he hb
              refine And.intro (by kernel_rfl) ?_
              have he := ok_rq he
              refine And.intro he.1 ?_
              have he := he.2
              have he := ok_rq he
              refine And.intro he.1 ?_
              have he := he.2
              have he := ok_rq he
              refine And.intro he.1 ?_
              have he := he.2
              refine And.intro ?_ trivial
              refine And.intro ?_ trivial
              obtain ⟨r8_, hr, he⟩ := ok_bind he
              refine ⟨r8_, hr, ?_⟩
              refine And.intro ?_ trivial
              refine And.intro ?_ trivial
              refine And.intro ?_ trivial
              have he := ok_rq he
              refine And.intro he.1 ?_
              have he := he.2
              have he := ok_rq he
              refine And.intro he.1 ?_
              have he := he.2
              have he := ok_some he
              exact ⟨((i2 + (1:Int)), (terms2 ++ [(((0 - (coefs.getD i.toNat 0)) * i2), r8_)])), he, (leads_ren [(10002002, 54)] (l := [(1, .c (.imm (.int .i64) coefs)), (2, .c (.int .i64 most)), (3, .c (.ptr 10002000 0)), (6, .c (.ptr 10002001 0)), (8, .c (.own 10002002 false)), (9, .c (.int .i64 i)), (28, .c (.imm (.int .i64) (m_0, m_1).1)), (29, .c (.int .i64 ((m_0, m_1).1.length:Int))), (30, .c (.int .i64 i)), (36, .c (.int .i64 (((m_0, m_1).1.getD i.toNat 0) + (1:Int)))), (37, .c (.int .i64 (i2 + (1:Int))))]) (st' := [(10002000, .rc [.imm (.int .i64) (m_0, m_1).1, .imm (.pair (.int .i64) (.pair (.sl (.int .i64)) (.pair (.sl (.int .i64)) (.pair (.int .i64) (.sl (.sl (.int .i64))))))) (m_0, m_1).2]), (10002001, .rc [.nil, .int .i64 (0:Int)]), (10002002, .sl 140 (.pair (.int .i64) (.int .i64)) (terms2 ++ [(((0 - (coefs.getD i.toNat 0)) * i2), r8_)]) .shallow)]) rfl rfl ⟨⟨.inl rfl, .inl rfl, trivial⟩, ⟨rfl, rfl, trivial⟩, ⟨rfl, rfl⟩, trivial⟩ ⟨.inl rfl, rfl, ⟨⟨rfl, rfl⟩, rfl⟩, ⟨⟨rfl, rfl⟩, rfl⟩, ⟨⟨rfl, rfl⟩, trivial⟩, rfl, .inl rfl, rfl, rfl, rfl, rfl, trivial⟩)⟩
            · have he := ok_f he hb
              have he := ok_rq he
              refine And.intro he.1 ?_
              have he := he.2
              have he := ok_some he
              exact ⟨((i + (1:Int)), terms2), he, (leads_ren [(10000000, 10002000), (10000001, 10002001), (10000002, 10002002)] (l := [(1, .c (.imm (.int .i64) coefs)), (2, .c (.int .i64 most)), (3, .c (.ptr 10000000 0)), (6, .c (.ptr 10000001 0)), (8, .c (.own 10000002 false)), (28, .c (.imm (.int .i64) (m_0, m_1).1)), (29, .c (.int .i64 ((m_0, m_1).1.length:Int))), (30, .c (.int .i64 (i + (1:Int))))]) (st' := [(10000000, .rc [.imm (.int .i64) (m_0, m_1).1, .imm (.pair (.int .i64) (.pair (.sl (.int .i64)) (.pair (.sl (.int .i64)) (.pair (.int .i64) (.sl (.sl (.int .i64))))))) (m_0, m_1).2]), (10000001, .rc [.nil, .int .i64 (0:Int)]), (10000002, .sl 140 (.pair (.int .i64) (.int .i64)) terms2 .shallow)]) rfl rfl ⟨⟨.inl rfl, .inl rfl, trivial⟩, ⟨rfl, rfl, trivial⟩, ⟨rfl, rfl⟩, trivial⟩ ⟨.inl rfl, rfl, ⟨⟨rfl, rfl⟩, rfl⟩, ⟨⟨rfl, rfl⟩, rfl⟩, ⟨⟨rfl, rfl⟩, trivial⟩, .inl rfl, rfl, rfl, trivial⟩)⟩
          · have he := ok_f he hb
            exact ⟨terms1, ok_up he, (leads_ren [(10003000, 10000001), (10003001, 10000002)] (l := [(2, .c (.int .i64 most)), (6, .c (.ptr 10003000 0)), (8, .c (.own 10003001 false))]) (st' := [(10003000, .rc [.nil, .int .i64 (0:Int)]), (10003001, .sl 140 (.pair (.int .i64) (.int .i64)) terms1 .shallow)]) rfl rfl ⟨⟨rfl, rfl, trivial⟩, ⟨rfl, rfl⟩, trivial⟩ ⟨rfl, ⟨⟨rfl, rfl⟩, rfl⟩, ⟨⟨rfl, rfl⟩, trivial⟩, trivial⟩)⟩
    · have he := ok_t he hb
      have he := ok_some he
      exact ⟨rfl, _, _, (leads_ren [(900, 6)] (l := [(6, .c (.ptr 900 0)), (7, .c (.bool false))]) (st' := [(900, .rc [.own 901 false, .int .i64 (0:Int)]), (901, .sl 140 (.pair (.int .i64) (.int .i64)) ([] : List (Int × Int)) .shallow)]) rfl rfl ⟨⟨⟨rfl, trivial⟩, rfl, trivial⟩, trivial, trivial⟩ ⟨⟨⟨rfl, rfl⟩, rfl⟩, .inr rfl, trivial⟩), he⟩
  · have he := ok_t he hb
    have he := ok_some he
    exact ⟨rfl, _, _, (leads_ren [(900, 6)] (l := [(6, .c (.ptr 900 0)), (7, .c (.bool false))]) (st' := [(900, .rc [.own 901 false, .int .i64 (0:Int)]), (901, .sl 140 (.pair (.int .i64) (.int .i64)) ([] : List (Int × Int)) .shallow)]) rfl rfl ⟨⟨⟨rfl, trivial⟩, rfl, trivial⟩, trivial, trivial⟩ ⟨⟨⟨rfl, rfl⟩, rfl⟩, .inr rfl, trivial⟩), he⟩

noncomputable def c_laws_eqTerm : Con := fun args st => match args, st with
  | [.agg [.int .i64 a_0, .int .i64 a_1], .agg [.int .i64 b_0, .int .i64 b_1]], [] => .opt (Bool) (laws_eqTerm (a_0, a_1) (b_0, b_1)) (fun r => .ret (.c (.bool r)) [])
  | _, _ => .fail

noncomputable def C_laws_eqTerm : Cfg := { y := tys, n := 15, h := 0, tab := [], cut := [], hand := [], good := [], deep := [], sched := [] }

theorem t_laws_eqTerm : TabOk Try.prog C_laws_eqTerm := tabOk_of (fun p h => by cases h)

theorem k_laws_eqTerm : Entry Try.prog 210 c_laws_eqTerm := by
  refine entry_by (C := C_laws_eqTerm) mixed tys_ok t_laws_eqTerm (fn := Try.f210) (c := bd Try.f210) (by kernel_rfl) (by kernel_rfl) (by kernel_rfl) (by kernel_rfl) ?_
  intro args st k he
  unfold c_laws_eqTerm at he
  split at he
  rotate_left
  · exact he.elim
  rename_i a_0 a_1 b_0 b_1
  have he : Ok (laws_eqTerm (a_0, a_1) (b_0, b_1)) (fun r => k (.c (.bool r)) []) := he
  refine ⟨rfl, rfl, ?_⟩
  refine And.intro (fun hb => ?_) (fun hb => ?_)
  · have he := ok_t he hb
    have he := ok_some he
    exact ⟨rfl, _, _, (leads_ren [] (l := [(4, .c (.bool false))]) (st' := []) rfl rfl trivial ⟨.inr rfl, trivial⟩), he⟩
  · have he := ok_f he hb
    refine And.intro (fun hb => ?_) (fun hb => ?_)
    · have he := ok_t he hb
      have he := ok_some he
      exact ⟨rfl, _, _, (leads_ren [] (l := [(4, .c (.bool false))]) (st' := []) rfl rfl trivial ⟨.inr rfl, trivial⟩), he⟩
    · have he := ok_f he hb
      have he := ok_some he
      exact ⟨rfl, _, _, (leads_ren [] (l := [(4, .c (.bool true))]) (st' := []) rfl rfl trivial ⟨.inr rfl, trivial⟩), he⟩

noncomputable def c_laws_eqTermS : Con := fun args st => match args, st with
  | [.c (.imm (.pair (.int .i64) (.int .i64)) a), .c (.imm (.pair (.int .i64) (.int .i64)) b)], [] => .opt (Bool) (laws_eqTermS a b) (fun r => .ret (.c (.bool r)) [])
  | _, _ => .fail

noncomputable def C_laws_eqTermS : Cfg := { y := tys, n := 27, h := 0, tab := [(210, c_laws_eqTerm)], cut := [], hand := [], good := [], deep := [], sched := [(6, (.first 0 (.first 1 (.first 2 (.first 3 (.first 4 (.first 5 (.first 6 (.first 7 (.alt 8 (.first 9 .done) .stop))))))))))] }

theorem t_laws_eqTermS : TabOk Try.prog C_laws_eqTermS := by
  refine tabOk_of ?_
  simp only [C_laws_eqTermS, List.forall_mem_cons]
  exact ⟨k_laws_eqTerm, fun p h => by cases h⟩

theorem k_laws_eqTermS : Entry Try.prog 116 c_laws_eqTermS := by
  refine entry_by (C := C_laws_eqTermS) mixed tys_ok t_laws_eqTermS (fn := Try.f116) (c := bd Try.f116) (by kernel_rfl) (by kernel_rfl) (by kernel_rfl) (by kernel_rfl) ?_
  intro args st k he
  unfold c_laws_eqTermS at he
  split at he
  rotate_left
  · exact he.elim
  rename_i a b
  have he : Ok (laws_eqTermS a b) (fun r => k (.c (.bool r)) []) := he
  refine ⟨rfl, rfl, ?_⟩
  refine And.intro (fun hb => ?_) (fun hb => ?_)
  · have he := ok_t he hb
    have he := ok_some he
    exact ⟨rfl, _, _, Leads.refl _ _, he⟩
  · have he := ok_f he hb
    refine loop_model mixed tys_ok t_laws_eqTermS (S := Int) (I := (fun i => (envOf [(0, .c (.imm (.pair (.int .i64) (.int .i64)) a)), (1, .c (.imm (.pair (.int .i64) (.int .i64)) b)), (5, .c (.int .i64 i))], []))) (f := laws_eqTermS_l1 a b) (K := (fun r => k (.c (.bool r)) [])) he (leads_ren [] (l := [(0, .c (.imm (.pair (.int .i64) (.int .i64)) a)), (1, .c (.imm (.pair (.int .i64) (.int .i64)) b)), (5, .c (.int .i64 (0:Int)))]) (st' := []) rfl rfl trivial ⟨.inl rfl, .inl rfl, rfl, trivial⟩) ?_
    rintro i J1 he
    refine And.intro (fun hb => ?_) (fun hb => ?_)
    · have he := ok_t he hb
      refine And.intro (by kernel_rfl) ?_
      have he := ok_rq he
      refine And.intro he.1 ?_
      have he := he.2
      have he := ok_rq he
      refine And.intro he.1 ?_
      have he := he.2
      refine And.intro ?_ trivial
      obtain ⟨r2_, hr, he⟩ := ok_bind he
      refine ⟨r2_, hr, ?_⟩
      refine And.intro (fun hb => ?_) (fun hb => ?_)
      · have he := ok_t he hb
        have he := ok_some he
        exact ⟨rfl, _, _, Leads.refl _ _, he⟩
      · have he := ok_f he hb
        have he := ok_rq he
        refine And.intro he.1 ?_
        have he := he.2
        have he := ok_some he
        exact ⟨(i + (1:Int)), he, (leads_ren [] (l := [(0, .c (.imm (.pair (.int .i64) (.int .i64)) a)), (1, .c (.imm (.pair (.int .i64) (.int .i64)) b)), (5, .c (.int .i64 (i + (1:Int))))]) (st' := []) rfl rfl trivial ⟨.inl rfl, .inl rfl, rfl, trivial⟩)⟩
    · have he := ok_f he hb
      have he := ok_some he
      exact ⟨rfl, _, _, Leads.refl _ _, he⟩

noncomputable def c_laws_eqConstraint : Con := fun args st => match args, st with
  | [.agg [.imm (.pair (.int .i64) (.int .i64)) a_0, .int .i64 a_1], .agg [.imm (.pair (.int .i64) (.int .i64)) b_0, .int .i64 b_1]], [] => .opt (Bool) (laws_eqConstraint (a_0, a_1) (b_0, b_1)) (fun r => .ret (.c (.bool r)) [])
  | _, _ => .fail

noncomputable def C_laws_eqConstraint : Cfg := { y := tys, n := 16, h := 0, tab := [(116, c_laws_eqTermS)], cut := [], hand := [], good := [], deep := [], sched := [] }

theorem t_laws_eqConstraint : TabOk Try.prog C_laws_eqConstraint := by
  refine tabOk_of ?_
  simp only [C_laws_eqConstraint, List.forall_mem_cons]
  exact ⟨k_laws_eqTermS, fun p h => by cases h⟩

theorem k_laws_eqConstraint : Entry Try.prog 27 c_laws_eqConstraint := by
  refine entry_by (C := C_laws_eqConstraint) mixed tys_ok t_laws_eqConstraint (fn := Try.f27) (c := bd Try.f27) (by kernel_rfl) (by kernel_rfl) (by kernel_rfl) (by kernel_rfl) ?_
  intro args st k he
  unfold c_laws_eqConstraint at he
  split at he
  rotate_left
  · exact he.elim
  rename_i a_0 a_1 b_0 b_1
  have he : Ok (laws_eqConstraint (a_0, a_1) (b_0, b_1)) (fun r => k (.c (.bool r)) []) := he
  refine ⟨rfl, rfl, ?_⟩
  obtain ⟨r1_, hr, he⟩ := ok_bind he
  refine ⟨r1_, hr, ?_⟩
  refine And.intro (fun hb => ?_) (fun hb => ?_)
  · have he := ok_t he hb
    have he := ok_some he
    exact ⟨rfl, _, _, (leads_ren [] (l := [(4, .c (.bool false))]) (st' := []) rfl rfl trivial ⟨.inr rfl, trivial⟩), he⟩
  · have he := ok_f he hb
    refine And.intro (fun hb => ?_) (fun hb => ?_)
    · have he := ok_t he hb
      have he := ok_some he
      exact ⟨rfl, _, _, (leads_ren [] (l := [(4, .c (.bool false))]) (st' := []) rfl rfl trivial ⟨.inr rfl, trivial⟩), he⟩
    · have he := ok_f he hb
      have he := ok_some he
      exact ⟨rfl, _, _, (leads_ren [] (l := [(4, .c (.bool true))]) (st' := []) rfl rfl trivial ⟨.inr rfl, trivial⟩), he⟩

noncomputable def c_laws_eqIntS : Con := fun args st => match args, st with
  | [.c (.imm (.int .i64) a), .c (.imm (.int .i64) b)], [] => .opt (Bool) (laws_eqIntS a b) (fun r => .ret (.c (.bool r)) [])
  | _, _ => .fail

noncomputable def C_laws_eqIntS : Cfg := { y := tys, n := 26, h := 0, tab := [], cut := [], hand := [], good := [], deep := [], sched := [] }

theorem t_laws_eqIntS : TabOk Try.prog C_laws_eqIntS := tabOk_of (fun p h => by cases h)

theorem k_laws_eqIntS : Entry Try.prog 29 c_laws_eqIntS := by
  refine entry_by (C := C_laws_eqIntS) mixed tys_ok t_laws_eqIntS (fn := Try.f29) (c := bd Try.f29) (by kernel_rfl) (by kernel_rfl) (by kernel_rfl) (by kernel_rfl) ?_
  intro args st k he
  unfold c_laws_eqIntS at he
  split at he
  rotate_left
  · exact he.elim
  rename_i a b
  have he : Ok (laws_eqIntS a b) (fun r => k (.c (.bool r)) []) := he
  refine ⟨rfl, rfl, ?_⟩
  refine And.intro (fun hb => ?_) (fun hb => ?_)
  · have he := ok_t he hb
    have he := ok_some he
    exact ⟨rfl, _, _, Leads.refl _ _, he⟩
  · have he := ok_f he hb
    refine loop_model mixed tys_ok t_laws_eqIntS (S := Int) (I := (fun i => (envOf [(0, .c (.imm (.int .i64) a)), (1, .c (.imm (.int .i64) b)), (5, .c (.int .i64 i))], []))) (f := laws_eqIntS_l1 a b) (K := (fun r => k (.c (.bool r)) [])) he (leads_ren [] (l := [(0, .c (.imm (.int .i64) a)), (1, .c (.imm (.int .i64) b)), (5, .c (.int .i64 (0:Int)))]) (st' := []) rfl rfl trivial ⟨.inl rfl, .inl rfl, rfl, trivial⟩) ?_
    rintro i J1 he
    refine And.intro (fun hb => ?_) (fun hb => ?_)
    · have he := ok_t he hb
      refine And.intro (by kernel_rfl) ?_
      have he := ok_rq he
      refine And.intro he.1 ?_
      have he := he.2
      have he := ok_rq he
      refine And.intro he.1 ?_
      have he := he.2
      refine And.intro (fun hb => ?_) (fun hb => ?_)
      · have he := ok_t he hb
        have he := ok_some he
        exact ⟨rfl, _, _, Leads.refl _ _, he⟩
      · have he := ok_f he hb
        have he := ok_rq he
        refine And.intro he.1 ?_
        have he := he.2
        have he := ok_some he
        exact ⟨(i + (1:Int)), he, (leads_ren [] (l := [(0, .c (.imm (.int .i64) a)), (1, .c (.imm (.int .i64) b)), (5, .c (.int .i64 (i + (1:Int))))]) (st' := []) rfl rfl trivial ⟨.inl rfl, .inl rfl, rfl, trivial⟩)⟩
    · have he := ok_f he hb
      have he := ok_some he
      exact ⟨rfl, _, _, Leads.refl _ _, he⟩

noncomputable def c_laws_eqIntSS : Con := fun args st => match args, st with
  | [.c (.imm (.sl (.int .i64)) a), .c (.imm (.sl (.int .i64)) b)], [] => .opt (Bool) (laws_eqIntSS a b) (fun r => .ret (.c (.bool r)) [])
  | _, _ => .fail

noncomputable def C_laws_eqIntSS : Cfg := { y := tys, n := 27, h := 0, tab := [(29, c_laws_eqIntS)], cut := [], hand := [], good := [], deep := [], sched := [(6, (.first 0 (.first 1 (.first 2 (.first 3 (.first 4 (.first 5 (.first 6 (.first 7 (.alt 8 (.first 9 .done) .stop))))))))))] }

theorem t_laws_eqIntSS : TabOk Try.prog C_laws_eqIntSS := by
  refine tabOk_of ?_
  simp only [C_laws_eqIntSS, List.forall_mem_cons]
  exact ⟨k_laws_eqIntS, fun p h => by cases h⟩

theorem k_laws_eqIntSS : Entry Try.prog 199 c_laws_eqIntSS := by
  refine entry_by (C := C_laws_eqIntSS) mixed tys_ok t_laws_eqIntSS (fn := Try.f199) (c := bd Try.f199) (by kernel_rfl) (by kernel_rfl) (by kernel_rfl) (by kernel_rfl) ?_
  intro args st k he
  unfold c_laws_eqIntSS at he
  split at he
  rotate_left
  · exact he.elim
  rename_i a b
  have he : Ok (laws_eqIntSS a b) (fun r => k (.c (.bool r)) []) := he
  refine ⟨rfl, rfl, ?_⟩
  refine And.intro (fun hb => ?_) (fun hb => ?_)
  · have he := ok_t he hb
    have he := ok_some he
    exact ⟨rfl, _, _, Leads.refl _ _, he⟩
  · have he := ok_f he hb
    refine loop_model mixed tys_ok t_laws_eqIntSS (S := Int) (I := (fun i => (envOf [(0, .c (.imm (.sl (.int .i64)) a)), (1, .c (.imm (.sl (.int .i64)) b)), (5, .c (.int .i64 i))], []))) (f := laws_eqIntSS_l1 a b) (K := (fun r => k (.c (.bool r)) [])) he (leads_ren [] (l := [(0, .c (.imm (.sl (.int .i64)) a)), (1, .c (.imm (.sl (.int .i64)) b)), (5, .c (.int .i64 (0:Int)))]) (st' := []) rfl rfl trivial ⟨.inl rfl, .inl rfl, rfl, trivial⟩) ?_
    rintro i J1 he
    refine And.intro (fun hb => ?_) (fun hb => ?_)
    · have he := ok_t he hb
      refine And.intro (by kernel_rfl) ?_
      have he := ok_rq he
      refine And.intro he.1 ?_
      have he := he.2
      have he := ok_rq he
      refine And.intro he.1 ?_
      have he := he.2
      refine And.intro ?_ trivial
      obtain ⟨r2_, hr, he⟩ := ok_bind he
      refine ⟨r2_, hr, ?_⟩
      refine And.intro (fun hb => ?_) (fun hb => ?_)
      · have he := ok_t he hb
        have he := ok_some he
        exact ⟨rfl, _, _, Leads.refl _ _, he⟩
      · have he := ok_f he hb
        have he := ok_rq he
        refine And.intro he.1 ?_
        have he := he.2
        have he := ok_some he
        exact ⟨(i + (1:Int)), he, (leads_ren [] (l := [(0, .c (.imm (.sl (.int .i64)) a)), (1, .c (.imm (.sl (.int .i64)) b)), (5, .c (.int .i64 (i + (1:Int))))]) (st' := []) rfl rfl trivial ⟨.inl rfl, .inl rfl, rfl, trivial⟩)⟩
    · have he := ok_f he hb
      have he := ok_some he
      exact ⟨rfl, _, _, Leads.refl _ _, he⟩

noncomputable def c_laws_eqRule : Con := fun args st => match args, st with
  | [.agg [.int .i64 a_0, .imm (.int .i64) a_1, .imm (.int .i64) a_2, .int .i64 a_3, .imm (.sl (.int .i64)) a_4], .agg [.int .i64 b_0, .imm (.int .i64) b_1, .imm (.int .i64) b_2, .int .i64 b_3, .imm (.sl (.int .i64)) b_4]], [] => .opt (Bool) (laws_eqRule (a_0, (a_1, (a_2, (a_3, a_4)))) (b_0, (b_1, (b_2, (b_3, b_4))))) (fun r => .ret (.c (.bool r)) [])
  | _, _ => .fail

noncomputable def C_laws_eqRule : Cfg := { y := tys, n := 33, h := 0, tab := [(29, c_laws_eqIntS), (199, c_laws_eqIntSS)], cut := [], hand := [], good := [], deep := [], sched := [] }

theorem t_laws_eqRule : TabOk Try.prog C_laws_eqRule := by
  refine tabOk_of ?_
  simp only [C_laws_eqRule, List.forall_mem_cons]
  exact ⟨k_laws_eqIntS, k_laws_eqIntSS, fun p h => by cases h⟩

theorem k_laws_eqRule : Entry Try.prog 91 c_laws_eqRule := by
  refine entry_by (C := C_laws_eqRule) mixed tys_ok t_laws_eqRule (fn := Try.f91) (c := bd Try.f91) (by kernel_rfl) (by kernel_rfl) (by kernel_rfl) (by kernel_rfl) ?_
  intro args st k he
  unfold c_laws_eqRule at he
  split at he
  rotate_left
  · exact he.elim
  rename_i a_0 a_1 a_2 a_3 a_4 b_0 b_1 b_2 b_3 b_4
  have he : Ok (laws_eqRule (a_0, (a_1, (a_2, (a_3, a_4)))) (b_0, (b_1, (b_2, (b_3, b_4))))) (fun r => k (.c (.bool r)) []) := he
  refine ⟨rfl, rfl, ?_⟩
  refine And.intro (fun hb => ?_) (fun hb => ?_)
  · have he := ok_t he hb
    have he := ok_some he
    exact ⟨rfl, _, _, (leads_ren [] (l := [(4, .c (.bool false))]) (st' := []) rfl rfl trivial ⟨.inr rfl, trivial⟩), he⟩
  · have he := ok_f he hb
    obtain ⟨r1_, hr, he⟩ := ok_bind he
    refine ⟨r1_, hr, ?_⟩
    refine And.intro (fun hb => ?_) (fun hb => ?_)
    · have he := ok_t he hb
      have he := ok_some he
      exact ⟨rfl, _, _, (leads_ren [] (l := [(4, .c (.bool false))]) (st' := []) rfl rfl trivial ⟨.inr rfl, trivial⟩), he⟩
    · have he := ok_f he hb
      obtain ⟨r2_, hr, he⟩ := ok_bind he
      refine ⟨r2_, hr, ?_⟩
      refine And.intro (fun hb => ?_) (fun hb => ?_)
      · have he := ok_t he hb
        have he := ok_some he
        exact ⟨rfl, _, _, (leads_ren [] (l := [(4, .c (.bool false))]) (st' := []) rfl rfl trivial ⟨.inr rfl, trivial⟩), he⟩
      · have he := ok_f he hb
        refine And.intro (fun hb => ?_) (fun hb => ?_)
        · have he := ok_t he hb
          have he := ok_some he
          exact ⟨rfl, _, _, (leads_ren [] (l := [(4, .c (.bool false))]) (st' := []) rfl rfl trivial ⟨.inr rfl, trivial⟩), he⟩
        · have he := ok_f he hb
          obtain ⟨r3_, hr, he⟩ := ok_bind he
          refine ⟨r3_, hr, ?_⟩
          refine And.intro (fun hb => ?_) (fun hb => ?_)
          · have he := ok_t he hb
            have he := ok_some he
            exact ⟨rfl, _, _, (leads_ren [] (l := [(4, .c (.bool false))]) (st' := []) rfl rfl trivial ⟨.inr rfl, trivial⟩), he⟩
          · have he := ok_f he hb
            have he := ok_some he
            exact ⟨rfl, _, _, (leads_ren [] (l := [(4, .c (.bool true))]) (st' := []) rfl rfl trivial ⟨.inr rfl, trivial⟩), he⟩

noncomputable def c_laws_eqRuleS : Con := fun args st => match args, st with
  | [.c (.imm (.pair (.int .i64) (.pair (.sl (.int .i64)) (.pair (.sl (.int .i64)) (.pair (.int .i64) (.sl (.sl (.int .i64))))))) a), .c (.imm (.pair (.int .i64) (.pair (.sl (.int .i64)) (.pair (.sl (.int .i64)) (.pair (.int .i64) (.sl (.sl (.int .i64))))))) b)], [] => .opt (Bool) (laws_eqRuleS a b) (fun r => .ret (.c (.bool r)) [])
  | _, _ => .fail

noncomputable def C_laws_eqRuleS : Cfg := { y := tys, n := 27, h := 0, tab := [(91, c_laws_eqRule)], cut := [], hand := [], good := [], deep := [], sched := [(6, (.first 0 (.first 1 (.first 2 (.first 3 (.first 4 (.first 5 (.first 6 (.first 7 (.alt 8 (.first 9 .done) .stop))))))))))] }

theorem t_laws_eqRuleS : TabOk Try.prog C_laws_eqRuleS := by
  refine tabOk_of ?_
  simp only [C_laws_eqRuleS, List.forall_mem_cons]
  exact ⟨k_laws_eqRule, fun p h => by cases h⟩

theorem k_laws_eqRuleS : Entry Try.prog 117 c_laws_eqRuleS := by
  refine entry_by (C := C_laws_eqRuleS) mixed tys_ok t_laws_eqRuleS (fn := Try.f117) (c := bd Try.f117) (by kernel_rfl) (by kernel_rfl) (by kernel_rfl) (by kernel_rfl) ?_
  intro args st k he
  unfold c_laws_eqRuleS at he
  split at he
  rotate_left
  · exact he.elim
  rename_i a b
  have he : Ok (laws_eqRuleS a b) (fun r => k (.c (.bool r)) []) := he
  refine ⟨rfl, rfl, ?_⟩
  refine And.intro (fun hb => ?_) (fun hb => ?_)
  · have he := ok_t he hb
    have he := ok_some he
    exact ⟨rfl, _, _, Leads.refl _ _, he⟩
  · have he := ok_f he hb
    refine loop_model mixed tys_ok t_laws_eqRuleS (S := Int) (I := (fun i => (envOf [(0, .c (.imm (.pair (.int .i64) (.pair (.sl (.int .i64)) (.pair (.sl (.int .i64)) (.pair (.int .i64) (.sl (.sl (.int .i64))))))) a)), (1, .c (.imm (.pair (.int .i64) (.pair (.sl (.int .i64)) (.pair (.sl (.int .i64)) (.pair (.int .i64) (.sl (.sl (.int .i64))))))) b)), (5, .c (.int .i64 i))], []))) (f := laws_eqRuleS_l1 a b) (K := (fun r => k (.c (.bool r)) [])) he (leads_ren [] (l := [(0, .c (.imm (.pair (.int .i64) (.pair (.sl (.int .i64)) (.pair (.sl (.int .i64)) (.pair (.int .i64) (.sl (.sl (.int .i64))))))) a)), (1, .c (.imm (.pair (.int .i64) (.pair (.sl (.int .i64)) (.pair (.sl (.int .i64)) (.pair (.int .i64) (.sl (.sl (.int .i64))))))) b)), (5, .c (.int .i64 (0:Int)))]) (st' := []) rfl rfl trivial ⟨.inl rfl, .inl rfl, rfl, trivial⟩) ?_
    rintro i J1 he
    refine And.intro (fun hb => ?_) (fun hb => ?_)
    · have he := ok_t he hb
      refine And.intro (by kernel_rfl) ?_
      have he := ok_rq he
      refine And.intro he.1 ?_
      have he := he.2
      have he := ok_rq he
      refine And.intro he.1 ?_
      have he := he.2
      refine And.intro ?_ trivial
      obtain ⟨r2_, hr, he⟩ := ok_bind he
      refine ⟨r2_, hr, ?_⟩
      refine And.intro (fun hb => ?_) (fun hb => ?_)
      · have he := ok_t he hb
        have he := ok_some he
        exact ⟨rfl, _, _, Leads.refl _ _, he⟩
      · have he := ok_f he hb
        have he := ok_rq he
        refine And.intro he.1 ?_
        have he := he.2
        have he := ok_some he
        exact ⟨(i + (1:Int)), he, (leads_ren [] (l := [(0, .c (.imm (.pair (.int .i64) (.pair (.sl (.int .i64)) (.pair (.sl (.int .i64)) (.pair (.int .i64) (.sl (.sl (.int .i64))))))) a)), (1, .c (.imm (.pair (.int .i64) (.pair (.sl (.int .i64)) (.pair (.sl (.int .i64)) (.pair (.int .i64) (.sl (.sl (.int .i64))))))) b)), (5, .c (.int .i64 (i + (1:Int))))]) (st' := []) rfl rfl trivial ⟨.inl rfl, .inl rfl, rfl, trivial⟩)⟩
    · have he := ok_f he hb
      have he := ok_some he
      exact ⟨rfl, _, _, Leads.refl _ _, he⟩

noncomputable def c_laws_eqModel : Con := fun args st => match args, st with
  | [.agg [.imm (.int .i64) a_0, .imm (.pair (.int .i64) (.pair (.sl (.int .i64)) (.pair (.sl (.int .i64)) (.pair (.int .i64) (.sl (.sl (.int .i64))))))) a_1], .agg [.imm (.int .i64) b_0, .imm (.pair (.int .i64) (.pair (.sl (.int .i64)) (.pair (.sl (.int .i64)) (.pair (.int .i64) (.sl (.sl (.int .i64))))))) b_1]], [] => .opt (Bool) (laws_eqModel (a_0, a_1) (b_0, b_1)) (fun r => .ret (.c (.bool r)) [])
  | _, _ => .fail

noncomputable def C_laws_eqModel : Cfg := { y := tys, n := 17, h := 0, tab := [(29, c_laws_eqIntS), (117, c_laws_eqRuleS)], cut := [], hand := [], good := [], deep := [], sched := [] }

theorem t_laws_eqModel : TabOk Try.prog C_laws_eqModel := by
  refine tabOk_of ?_
  simp only [C_laws_eqModel, List.forall_mem_cons]
  exact ⟨k_laws_eqIntS, k_laws_eqRuleS, fun p h => by cases h⟩

theorem k_laws_eqModel : Entry Try.prog 28 c_laws_eqModel := by
  refine entry_by (C := C_laws_eqModel) mixed tys_ok t_laws_eqModel (fn := Try.f28) (c := bd Try.f28) (by kernel_rfl) (by kernel_rfl) (by kernel_rfl) (by kernel_rfl) ?_
  intro args st k he
  unfold c_laws_eqModel at he
  split at he
  rotate_left
  · exact he.elim
  rename_i a_0 a_1 b_0 b_1
  have he : Ok (laws_eqModel (a_0, a_1) (b_0, b_1)) (fun r => k (.c (.bool r)) []) := he
  refine ⟨rfl, rfl, ?_⟩
  obtain ⟨r1_, hr, he⟩ := ok_bind he
  refine ⟨r1_, hr, ?_⟩
  refine And.intro (fun hb => ?_) (fun hb => ?_)
  · have he := ok_t he hb
    have he := ok_some he
    exact ⟨rfl, _, _, (leads_ren [] (l := [(4, .c (.bool false))]) (st' := []) rfl rfl trivial ⟨.inr rfl, trivial⟩), he⟩
  · have he := ok_f he hb
    obtain ⟨r2_, hr, he⟩ := ok_bind he
    refine ⟨r2_, hr, ?_⟩
    refine And.intro (fun hb => ?_) (fun hb => ?_)
    · have he := ok_t he hb
      have he := ok_some he
      exact ⟨rfl, _, _, (leads_ren [] (l := [(4, .c (.bool false))]) (st' := []) rfl rfl trivial ⟨.inr rfl, trivial⟩), he⟩
    · have he := ok_f he hb
      have he := ok_some he
      exact ⟨rfl, _, _, (leads_ren [] (l := [(4, .c (.bool true))]) (st' := []) rfl rfl trivial ⟨.inr rfl, trivial⟩), he⟩

noncomputable def c_laws_markIntS : Con := fun args st => match args, st with
  | [.c (.own 0 false), .c (.int .i64 k_)], [(0, .sl 3 (.int .i64) a .shallow)] => .opt (Int × (List Int)) (laws_markIntS k_ a) (fun r => .ret (.c (.int .i64 r.1)) [(0, .sl 3 (.int .i64) r.2 .shallow)])
  | _, _ => .fail

noncomputable def C_laws_markIntS : Cfg := { y := tys, n := 19, h := 1, tab := [], cut := [], hand := [], good := [], deep := [], sched := [] }

theorem t_laws_markIntS : TabOk Try.prog C_laws_markIntS := tabOk_of (fun p h => by cases h)

theorem k_laws_markIntS : Entry Try.prog 31 c_laws_markIntS := by
  refine entry_by (C := C_laws_markIntS) mixed tys_ok t_laws_markIntS (fn := Try.f31) (c := bd Try.f31) (by kernel_rfl) (by kernel_rfl) (by kernel_rfl) (by kernel_rfl) ?_
  intro args st k he
  unfold c_laws_markIntS at he
  split at he
  rotate_left
  · exact he.elim
  rename_i k_ a
  have he : Ok (laws_markIntS k_ a) (fun r => k (.c (.int .i64 r.1)) [(0, .sl 3 (.int .i64) r.2 .shallow)]) := he
  refine ⟨rfl, rfl, ?_⟩
  refine loop_model mixed tys_ok t_laws_markIntS (S := Int × Int × (List Int)) (I := (fun (k_1, i, a1) => (envOf [(0, .c (.own 0 false)), (1, .c (.int .i64 k_1)), (5, .c (.int .i64 i))], [(0, .sl 3 (.int .i64) a1 .shallow)]))) (f := laws_markIntS_l1) (K := (fun r => k (.c (.int .i64 r.1)) [(0, .sl 3 (.int .i64) r.2 .shallow)])) he (leads_ren [] (l := [(0, .c (.own 0 false)), (1, .c (.int .i64 k_)), (5, .c (.int .i64 (0:Int)))]) (st' := [(0, .sl 3 (.int .i64) a .shallow)]) rfl rfl ⟨⟨rfl, rfl⟩, trivial⟩ ⟨⟨⟨rfl, rfl⟩, trivial⟩, rfl, rfl, trivial⟩) ?_
  rintro ⟨k_1, i, a1⟩ J1 he
  refine And.intro (fun hb => ?_) (fun hb => ?_)
  · have he := ok_t he hb
    have he := ok_rq he
    refine And.intro he.1 ?_
    have he := he.2
    have he := ok_rq he
    refine And.intro he.1 ?_
    have he := he.2
    have he := ok_rq he
    refine And.intro he.1 ?_
    have he := he.2
    have he := ok_some he
    exact ⟨((k_1 + (1:Int)), (i + (1:Int)), (a1.set i.toNat k_1)), he, (leads_ren [] (l := [(0, .c (.own 0 false)), (1, .c (.int .i64 (k_1 + (1:Int)))), (5, .c (.int .i64 (i + (1:Int))))]) (st' := [(0, .sl 3 (.int .i64) (a1.set i.toNat k_1) .shallow)]) rfl rfl ⟨⟨rfl, rfl⟩, trivial⟩ ⟨⟨⟨rfl, rfl⟩, trivial⟩, rfl, rfl, trivial⟩)⟩
  · have he := ok_f he hb
    have he := ok_some he
    exact ⟨rfl, _, _, (leads_ren [] (l := [(4, .c (.int .i64 k_1))]) (st' := [(0, .sl 3 (.int .i64) a1 .shallow)]) rfl rfl ⟨⟨rfl, rfl⟩, trivial⟩ ⟨rfl, trivial⟩), he⟩

noncomputable def c_laws_markIntS__d : Con := fun args st => match args, st with
  | [.c (.own 0 false), .c (.int .i64 k_)], [(0, .sl 0 (.int .i64) a (.deep false .no))] => .opt (Int × (List Int)) (laws_markIntS__d k_ a) (fun r => .ret (.c (.int .i64 r.1)) [(0, .sl 0 (.int .i64) r.2 (.deep false .no))])
  | _, _ => .fail

noncomputable def C_laws_markIntS__d : Cfg := { y := tys, n := 19, h := 1, tab := [], cut := [], hand := [], good := [], deep := [], sched := [] }

theorem t_laws_markIntS__d : TabOk Try.prog C_laws_markIntS__d := tabOk_of (fun p h => by cases h)

theorem k_laws_markIntS__d : Entry Try.prog 31 c_laws_markIntS__d := by
  refine entry_by (C := C_laws_markIntS__d) mixed tys_ok t_laws_markIntS__d (fn := Try.f31) (c := bd Try.f31) (by kernel_rfl) (by kernel_rfl) (by kernel_rfl) (by kernel_rfl) ?_
  intro args st k he
  unfold c_laws_markIntS__d at he
  split at he
  rotate_left
  · exact he.elim
  rename_i k_ a
  have he : Ok (laws_markIntS__d k_ a) (fun r => k (.c (.int .i64 r.1)) [(0, .sl 0 (.int .i64) r.2 (.deep false .no))]) := he
  refine ⟨rfl, rfl, ?_⟩
  refine loop_model mixed tys_ok t_laws_markIntS__d (S := Int × Int × (List Int)) (I := (fun (k_1, i, a1) => (envOf [(0, .c (.own 0 false)), (1, .c (.int .i64 k_1)), (5, .c (.int .i64 i))], [(0, .sl 0 (.int .i64) a1 (.deep false .no))]))) (f := laws_markIntS__d_l1) (K := (fun r => k (.c (.int .i64 r.1)) [(0, .sl 0 (.int .i64) r.2 (.deep false .no))])) he (leads_ren [] (l := [(0, .c (.own 0 false)), (1, .c (.int .i64 k_)), (5, .c (.int .i64 (0:Int)))]) (st' := [(0, .sl 0 (.int .i64) a (.deep false .no))]) rfl rfl ⟨⟨rfl, rfl⟩, trivial⟩ ⟨⟨⟨rfl, rfl⟩, trivial⟩, rfl, rfl, trivial⟩) ?_
  rintro ⟨k_1, i, a1⟩ J1 he
  refine And.intro (fun hb => ?_) (fun hb => ?_)
  · have he := ok_t he hb
    have he := ok_rq he
    refine And.intro he.1 ?_
    have he := he.2
    have he := ok_rq he
    refine And.intro he.1 ?_
    have he := he.2
    have he := ok_rq he
    refine And.intro he.1 ?_
    have he := he.2
    have he := ok_some he
    exact ⟨((k_1 + (1:Int)), (i + (1:Int)), (a1.set i.toNat k_1)), he, (leads_ren [] (l := [(0, .c (.own 0 false)), (1, .c (.int .i64 (k_1 + (1:Int)))), (5, .c (.int .i64 (i + (1:Int))))]) (st' := [(0, .sl 0 (.int .i64) (a1.set i.toNat k_1) (.deep false .no))]) rfl rfl ⟨⟨rfl, rfl⟩, trivial⟩ ⟨⟨⟨rfl, rfl⟩, trivial⟩, rfl, rfl, trivial⟩)⟩
  · have he := ok_f he hb
    have he := ok_some he
    exact ⟨rfl, _, _, (leads_ren [] (l := [(4, .c (.int .i64 k_1))]) (st' := [(0, .sl 0 (.int .i64) a1 (.deep false .no))]) rfl rfl ⟨⟨rfl, rfl⟩, trivial⟩ ⟨rfl, trivial⟩), he⟩

end Go.AE.Y
