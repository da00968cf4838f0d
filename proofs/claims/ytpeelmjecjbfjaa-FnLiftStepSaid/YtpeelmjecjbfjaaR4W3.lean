/-
  Walks: each function keeps the contract that its model gives. No conditions.
-/
import Derived.Test.YtpeelmjecjbfjaaR4Tab
import Derived.Test.YtpeelmjecjbfjaaR4W2
import Derived.Test.YtpeelmjecjbfjaaR4S
namespace Go.AE.Y
open Go Go.AE Go.Proofs
set_option linter.unusedVariables false
set_option maxHeartbeats 2000000
set_option maxRecDepth 100000

noncomputable def c_impl_holds : Con := fun args st => match args, st with
  | [.c (.int .i64 l), .c (.imm .bool values)], [] => .opt (Bool) (impl_holds l values) (fun r => .ret (.c (.bool r)) [])
  | _, _ => .fail

noncomputable def C_impl_holds : Cfg := { y := tys, n := 14, h := 0, tab := [(111, c_impl_variableOf)], cut := [], hand := [], good := [], deep := [], sched := [] }

theorem t_impl_holds : TabOk Try.prog C_impl_holds := by
  refine tabOk_of ?_
  simp only [C_impl_holds, List.forall_mem_cons]
  exact ⟨k_impl_variableOf, fun p h => by cases h⟩

theorem k_impl_holds : Entry Try.prog 176 c_impl_holds := by
  refine entry_by (C := C_impl_holds) mixed tys_ok t_impl_holds (fn := Try.f176) (c := bd Try.f176) (by kernel_rfl) (by kernel_rfl) (by kernel_rfl) (by kernel_rfl) ?_
  intro args st k he
  unfold c_impl_holds at he
  split at he
  rotate_left
  · exact he.elim
  rename_i l values
  have he : Ok (impl_holds l values) (fun r => k (.c (.bool r)) []) := he
  refine ⟨rfl, rfl, ?_⟩
  obtain ⟨r1_, hr, he⟩ := ok_bind he
  refine ⟨r1_, hr, ?_⟩
  have he := ok_rq he
  refine And.intro he.1 ?_
  have he := he.2
  have he := ok_rq he
  refine And.intro he.1 ?_
  have he := he.2
  have he := ok_some he
  exact ⟨rfl, _, _, Leads.refl _ _, he⟩

noncomputable def c_impl_Constraint_holds : Con := fun args st => match args, st with
  | [.agg [.imm (.pair (.int .i64) (.int .i64)) c__0, .int .i64 c__1], .c (.imm .bool values)], [] => .opt (Bool) (impl_Constraint_holds (c__0, c__1) values) (fun r => .ret (.c (.bool r)) [])
  | _, _ => .fail

noncomputable def C_impl_Constraint_holds : Cfg := { y := tys, n := 28, h := 0, tab := [(176, c_impl_holds)], cut := [], hand := [], good := [], deep := [], sched := [] }

theorem t_impl_Constraint_holds : TabOk Try.prog C_impl_Constraint_holds := by
  refine tabOk_of ?_
  simp only [C_impl_Constraint_holds, List.forall_mem_cons]
  exact ⟨k_impl_holds, fun p h => by cases h⟩

theorem k_impl_Constraint_holds : Entry Try.prog 112 c_impl_Constraint_holds := by
  refine entry_by (C := C_impl_Constraint_holds) mixed tys_ok t_impl_Constraint_holds (fn := Try.f112) (c := bd Try.f112) (by kernel_rfl) (by kernel_rfl) (by kernel_rfl) (by kernel_rfl) ?_
  intro args st k he
  unfold c_impl_Constraint_holds at he
  split at he
  rotate_left
  · exact he.elim
  rename_i c__0 c__1 values
  have he : Ok (impl_Constraint_holds (c__0, c__1) values) (fun r => k (.c (.bool r)) []) := he
  refine ⟨rfl, rfl, ?_⟩
  refine loop_model mixed tys_ok t_impl_Constraint_holds (S := Int × Int) (I := (fun (sum, i) => (envOf [(1, .c (.imm .bool values)), (2, .c (.ptr 10000000 0)), (5, .c (.int .i64 sum)), (9, .c (.imm (.pair (.int .i64) (.int .i64)) (c__0, c__1).1)), (10, .c (.int .i64 ((c__0, c__1).1.length:Int))), (11, .c (.int .i64 i))], [(10000000, .rc [.imm (.pair (.int .i64) (.int .i64)) (c__0, c__1).1, .int .i64 (c__0, c__1).2])]))) (f := impl_Constraint_holds_l1 (c__0, c__1) values) (K := (fun r => k (.c (.bool r)) [])) he (leads_ren [(10000000, 2)] (l := [(1, .c (.imm .bool values)), (2, .c (.ptr 10000000 0)), (5, .c (.int .i64 (0:Int))), (9, .c (.imm (.pair (.int .i64) (.int .i64)) (c__0, c__1).1)), (10, .c (.int .i64 ((c__0, c__1).1.length:Int))), (11, .c (.int .i64 (0:Int)))]) (st' := [(10000000, .rc [.imm (.pair (.int .i64) (.int .i64)) (c__0, c__1).1, .int .i64 (c__0, c__1).2])]) rfl rfl ⟨⟨.inl rfl, rfl, trivial⟩, trivial⟩ ⟨.inl rfl, ⟨⟨rfl, rfl⟩, rfl⟩, rfl, .inl rfl, rfl, rfl, trivial⟩) ?_
  rintro ⟨sum, i⟩ J1 he
  refine And.intro (fun hb => ?_) (fun hb => ?_)
  · have he := ok_t he hb
    have he := ok_rq he
    refine And.intro he.1 ?_
    have he := he.2
    obtain ⟨r1_, hr, he⟩ := ok_bind he
    refine ⟨r1_, hr, ?_⟩
    refine And.intro (fun hb => ?_) (fun hb => ?_)
    · have he := ok_t he hb
      have he := ok_rq he
      refine And.intro he.1 ?_
      have he := he.2
      have he := ok_rq he
      refine And.intro he.1 ?_
      have he := he.2
      have he := ok_some he
      exact ⟨((sum + ((c__0, c__1).1.getD i.toNat (0, 0)).1), (i + (1:Int))), he, (leads_ren [] (l := [(1, .c (.imm .bool values)), (2, .c (.ptr 10000000 0)), (5, .c (.int .i64 (sum + ((c__0, c__1).1.getD i.toNat (0, 0)).1))), (9, .c (.imm (.pair (.int .i64) (.int .i64)) (c__0, c__1).1)), (10, .c (.int .i64 ((c__0, c__1).1.length:Int))), (11, .c (.int .i64 (i + (1:Int))))]) (st' := [(10000000, .rc [.imm (.pair (.int .i64) (.int .i64)) (c__0, c__1).1, .int .i64 (c__0, c__1).2])]) rfl rfl ⟨⟨.inl rfl, rfl, trivial⟩, trivial⟩ ⟨.inl rfl, ⟨⟨rfl, rfl⟩, rfl⟩, rfl, .inl rfl, rfl, rfl, trivial⟩)⟩
    · have he := ok_f he hb
      have he := ok_rq he
      refine And.intro he.1 ?_
      have he := he.2
      have he := ok_some he
      exact ⟨(sum, (i + (1:Int))), he, (leads_ren [] (l := [(1, .c (.imm .bool values)), (2, .c (.ptr 10000000 0)), (5, .c (.int .i64 sum)), (9, .c (.imm (.pair (.int .i64) (.int .i64)) (c__0, c__1).1)), (10, .c (.int .i64 ((c__0, c__1).1.length:Int))), (11, .c (.int .i64 (i + (1:Int))))]) (st' := [(10000000, .rc [.imm (.pair (.int .i64) (.int .i64)) (c__0, c__1).1, .int .i64 (c__0, c__1).2])]) rfl rfl ⟨⟨.inl rfl, rfl, trivial⟩, trivial⟩ ⟨.inl rfl, ⟨⟨rfl, rfl⟩, rfl⟩, rfl, .inl rfl, rfl, rfl, trivial⟩)⟩
  · have he := ok_f he hb
    have he := ok_some he
    exact ⟨rfl, _, _, (leads_ren [] (l := [(4, .c (.bool (decide ((c__0, c__1).2 ≤ sum))))]) (st' := []) rfl rfl trivial ⟨.inl rfl, trivial⟩), he⟩

noncomputable def c_impl_EvalConstraint : Con := fun args st => match args, st with
  | [.agg [.imm (.pair (.int .i64) (.int .i64)) c__0, .int .i64 c__1], .c (.imm .bool values)], [] => .opt (Bool) (impl_EvalConstraint (c__0, c__1) values) (fun r => .ret (.c (.bool r)) [])
  | _, _ => .fail

noncomputable def C_impl_EvalConstraint : Cfg := { y := tys, n := 17, h := 0, tab := [(22, c_impl_ConstraintValid), (112, c_impl_Constraint_holds)], cut := [], hand := [], good := [], deep := [], sched := [] }

theorem t_impl_EvalConstraint : TabOk Try.prog C_impl_EvalConstraint := by
  refine tabOk_of ?_
  simp only [C_impl_EvalConstraint, List.forall_mem_cons]
  exact ⟨k_impl_ConstraintValid, k_impl_Constraint_holds, fun p h => by cases h⟩

theorem k_impl_EvalConstraint : Entry Try.prog 23 c_impl_EvalConstraint := by
  refine entry_by (C := C_impl_EvalConstraint) mixed tys_ok t_impl_EvalConstraint (fn := Try.f23) (c := bd Try.f23) (by kernel_rfl) (by kernel_rfl) (by kernel_rfl) (by kernel_rfl) ?_
  intro args st k he
  unfold c_impl_EvalConstraint at he
  split at he
  rotate_left
  · exact he.elim
  rename_i c__0 c__1 values
  have he : Ok (impl_EvalConstraint (c__0, c__1) values) (fun r => k (.c (.bool r)) []) := he
  refine ⟨rfl, rfl, ?_⟩
  obtain ⟨r1_, hr, he⟩ := ok_bind he
  refine ⟨r1_, hr, ?_⟩
  refine And.intro (fun hb => ?_) (fun hb => ?_)
  · have he := ok_t he hb
    refine And.intro (fun hb => ?_) (fun hb => ?_)
    · have he := ok_t he hb
      obtain ⟨r2_, hr, he⟩ := ok_bind he
      refine ⟨r2_, hr, ?_⟩
      have he := ok_some he
      exact ⟨rfl, _, _, (leads_ren [] (l := [(4, .c (.bool r2_))]) (st' := []) rfl rfl trivial ⟨.inl rfl, trivial⟩), he⟩
    · have he := ok_f he hb
      have he := ok_some he
      exact ⟨rfl, _, _, (leads_ren [] (l := [(4, .c (.bool false))]) (st' := []) rfl rfl trivial ⟨.inr rfl, trivial⟩), he⟩
  · have he := ok_f he hb
    have he := ok_some he
    exact ⟨rfl, _, _, (leads_ren [] (l := [(4, .c (.bool false))]) (st' := []) rfl rfl trivial ⟨.inr rfl, trivial⟩), he⟩

noncomputable def c_impl_CubeHolds_1 : Con := fun args st => match args, st with
  | [.c (.int .i64 l), .c (.ptr 0 0)], [(0, .rc [.imm .bool o0])] => .opt (Bool) (impl_CubeHolds_1 l o0) (fun r => .ret (.c (.bool r)) [(0, .rc [.imm .bool o0])])
  | _, _ => .fail

noncomputable def C_impl_CubeHolds_1 : Cfg := { y := tys, n := 8, h := 1, tab := [(176, c_impl_holds)], cut := [], hand := [], good := [], deep := [], sched := [] }

theorem t_impl_CubeHolds_1 : TabOk Try.prog C_impl_CubeHolds_1 := by
  refine tabOk_of ?_
  simp only [C_impl_CubeHolds_1, List.forall_mem_cons]
  exact ⟨k_impl_holds, fun p h => by cases h⟩

theorem k_impl_CubeHolds_1 : Entry Try.prog 175 c_impl_CubeHolds_1 := by
  refine entry_by (C := C_impl_CubeHolds_1) mixed tys_ok t_impl_CubeHolds_1 (fn := Try.f175) (c := bd Try.f175) (by kernel_rfl) (by kernel_rfl) (by kernel_rfl) (by kernel_rfl) ?_
  intro args st k he
  unfold c_impl_CubeHolds_1 at he
  split at he
  rotate_left
  · exact he.elim
  rename_i l o0
  have he : Ok (impl_CubeHolds_1 l o0) (fun r => k (.c (.bool r)) [(0, .rc [.imm .bool o0])]) := he
  refine ⟨rfl, rfl, ?_⟩
  obtain ⟨r1_, hr, he⟩ := ok_bind he
  refine ⟨r1_, hr, ?_⟩
  have he := ok_some he
  exact ⟨rfl, _, _, (leads_ren [] (l := [(3, .c (.bool (!r1_)))]) (st' := [(0, .rc [.imm .bool o0])]) rfl rfl ⟨⟨.inl rfl, trivial⟩, trivial⟩ ⟨.inl rfl, trivial⟩), he⟩

noncomputable def c_slices_IndexFunc_int__impl_CubeHolds_1 : Con := fun args st => match args, st with
  | [.c (.imm (.int .i64) s_), .c (.fn 175 [0])], [(0, .rc [.imm .bool o0])] => .opt (Int) (slices_IndexFunc_int__impl_CubeHolds_1 s_ o0) (fun r => .ret (.c (.int .i64 r)) [(0, .rc [.imm .bool o0])])
  | _, _ => .fail

noncomputable def C_slices_IndexFunc_int__impl_CubeHolds_1 : Cfg := { y := tys, n := 19, h := 1, tab := [(175, c_impl_CubeHolds_1)], cut := [], hand := [], good := [], deep := [], sched := [] }

theorem t_slices_IndexFunc_int__impl_CubeHolds_1 : TabOk Try.prog C_slices_IndexFunc_int__impl_CubeHolds_1 := by
  refine tabOk_of ?_
  simp only [C_slices_IndexFunc_int__impl_CubeHolds_1, List.forall_mem_cons]
  exact ⟨k_impl_CubeHolds_1, fun p h => by cases h⟩

theorem k_slices_IndexFunc_int__impl_CubeHolds_1 : Entry Try.prog 237 c_slices_IndexFunc_int__impl_CubeHolds_1 := by
  refine entry_by (C := C_slices_IndexFunc_int__impl_CubeHolds_1) mixed tys_ok t_slices_IndexFunc_int__impl_CubeHolds_1 (fn := Try.f237) (c := bd Try.f237) (by kernel_rfl) (by kernel_rfl) (by kernel_rfl) (by kernel_rfl) ?_
  intro args st k he
  unfold c_slices_IndexFunc_int__impl_CubeHolds_1 at he
  split at he
  rotate_left
  · exact he.elim
  rename_i s_ o0
  have he : Ok (slices_IndexFunc_int__impl_CubeHolds_1 s_ o0) (fun r => k (.c (.int .i64 r)) [(0, .rc [.imm .bool o0])]) := he
  refine ⟨rfl, rfl, ?_⟩
  refine loop_model mixed tys_ok t_slices_IndexFunc_int__impl_CubeHolds_1 (S := Int) (I := (fun i => (envOf [(0, .c (.imm (.int .i64) s_)), (1, .c (.fn 175 [0])), (7, .c (.int .i64 (s_.length:Int))), (8, .c (.int .i64 i))], [(0, .rc [.imm .bool o0])]))) (f := slices_IndexFunc_int__impl_CubeHolds_1_l1 s_ o0) (K := (fun r => k (.c (.int .i64 r)) [(0, .rc [.imm .bool o0])])) he (leads_ren [] (l := [(0, .c (.imm (.int .i64) s_)), (1, .c (.fn 175 [0])), (7, .c (.int .i64 (s_.length:Int))), (8, .c (.int .i64 (0:Int)))]) (st' := [(0, .rc [.imm .bool o0])]) rfl rfl ⟨⟨.inl rfl, trivial⟩, trivial⟩ ⟨.inl rfl, ⟨rfl, ⟨⟨rfl, rfl⟩, trivial⟩⟩, rfl, rfl, trivial⟩) ?_
  rintro i J1 he
  refine And.intro (fun hb => ?_) (fun hb => ?_)
  · have he := ok_t he hb
    have he := ok_rq he
    refine And.intro he.1 ?_
    have he := he.2
    obtain ⟨r1_, hr, he⟩ := ok_bind he
    refine ⟨r1_, hr, ?_⟩
    refine And.intro (fun hb => ?_) (fun hb => ?_)
    · have he := ok_t he hb
      have he := ok_some he
      exact ⟨rfl, _, _, (leads_ren [] (l := [(4, .c (.int .i64 i))]) (st' := [(0, .rc [.imm .bool o0])]) rfl rfl ⟨⟨.inl rfl, trivial⟩, trivial⟩ ⟨rfl, trivial⟩), he⟩
    · have he := ok_f he hb
      have he := ok_rq he
      refine And.intro he.1 ?_
      have he := he.2
      have he := ok_some he
      exact ⟨(i + (1:Int)), he, (leads_ren [] (l := [(0, .c (.imm (.int .i64) s_)), (1, .c (.fn 175 [0])), (7, .c (.int .i64 (s_.length:Int))), (8, .c (.int .i64 (i + (1:Int))))]) (st' := [(0, .rc [.imm .bool o0])]) rfl rfl ⟨⟨.inl rfl, trivial⟩, trivial⟩ ⟨.inl rfl, ⟨rfl, ⟨⟨rfl, rfl⟩, trivial⟩⟩, rfl, rfl, trivial⟩)⟩
  · have he := ok_f he hb
    have he := ok_some he
    exact ⟨rfl, _, _, (leads_ren [] (l := [(4, .c (.int .i64 (-1:Int)))]) (st' := [(0, .rc [.imm .bool o0])]) rfl rfl ⟨⟨.inl rfl, trivial⟩, trivial⟩ ⟨rfl, trivial⟩), he⟩

noncomputable def c_slices_ContainsFunc_int__impl_CubeHolds_1 : Con := fun args st => match args, st with
  | [.c (.imm (.int .i64) s_), .c (.fn 175 [0])], [(0, .rc [.imm .bool o0])] => .opt (Bool) (slices_ContainsFunc_int__impl_CubeHolds_1 s_ o0) (fun r => .ret (.c (.bool r)) [(0, .rc [.imm .bool o0])])
  | _, _ => .fail

noncomputable def C_slices_ContainsFunc_int__impl_CubeHolds_1 : Cfg := { y := tys, n := 9, h := 1, tab := [(237, c_slices_IndexFunc_int__impl_CubeHolds_1)], cut := [], hand := [], good := [], deep := [], sched := [] }

theorem t_slices_ContainsFunc_int__impl_CubeHolds_1 : TabOk Try.prog C_slices_ContainsFunc_int__impl_CubeHolds_1 := by
  refine tabOk_of ?_
  simp only [C_slices_ContainsFunc_int__impl_CubeHolds_1, List.forall_mem_cons]
  exact ⟨k_slices_IndexFunc_int__impl_CubeHolds_1, fun p h => by cases h⟩

theorem k_slices_ContainsFunc_int__impl_CubeHolds_1 : Entry Try.prog 174 c_slices_ContainsFunc_int__impl_CubeHolds_1 := by
  refine entry_by (C := C_slices_ContainsFunc_int__impl_CubeHolds_1) mixed tys_ok t_slices_ContainsFunc_int__impl_CubeHolds_1 (fn := Try.f174) (c := bd Try.f174) (by kernel_rfl) (by kernel_rfl) (by kernel_rfl) (by kernel_rfl) ?_
  intro args st k he
  unfold c_slices_ContainsFunc_int__impl_CubeHolds_1 at he
  split at he
  rotate_left
  · exact he.elim
  rename_i s_ o0
  have he : Ok (slices_ContainsFunc_int__impl_CubeHolds_1 s_ o0) (fun r => k (.c (.bool r)) [(0, .rc [.imm .bool o0])]) := he
  refine ⟨rfl, rfl, ?_⟩
  obtain ⟨r1_, hr, he⟩ := ok_bind he
  refine ⟨r1_, hr, ?_⟩
  have he := ok_some he
  exact ⟨rfl, _, _, (leads_ren [] (l := [(4, .c (.bool (decide ((0:Int) ≤ r1_))))]) (st' := [(0, .rc [.imm .bool o0])]) rfl rfl ⟨⟨.inl rfl, trivial⟩, trivial⟩ ⟨.inl rfl, trivial⟩), he⟩

noncomputable def c_impl_CubeHolds : Con := fun args st => match args, st with
  | [.c (.imm (.int .i64) cube), .c (.imm .bool values)], [] => .opt (Bool) (impl_CubeHolds cube values) (fun r => .ret (.c (.bool r)) [])
  | _, _ => .fail

noncomputable def C_impl_CubeHolds : Cfg := { y := tys, n := 18, h := 0, tab := [(161, c_impl_isCube), (174, c_slices_ContainsFunc_int__impl_CubeHolds_1)], cut := [], hand := [], good := [], deep := [], sched := [] }

theorem t_impl_CubeHolds : TabOk Try.prog C_impl_CubeHolds := by
  refine tabOk_of ?_
  simp only [C_impl_CubeHolds, List.forall_mem_cons]
  exact ⟨k_impl_isCube, k_slices_ContainsFunc_int__impl_CubeHolds_1, fun p h => by cases h⟩

theorem k_impl_CubeHolds : Entry Try.prog 70 c_impl_CubeHolds := by
  refine entry_by (C := C_impl_CubeHolds) mixed tys_ok t_impl_CubeHolds (fn := Try.f70) (c := bd Try.f70) (by kernel_rfl) (by kernel_rfl) (by kernel_rfl) (by kernel_rfl) ?_
  intro args st k he
  unfold c_impl_CubeHolds at he
  split at he
  rotate_left
  · exact he.elim
  rename_i cube values
  have he : Ok (impl_CubeHolds cube values) (fun r => k (.c (.bool r)) []) := he
  refine ⟨rfl, rfl, ?_⟩
  obtain ⟨r1_, hr, he⟩ := ok_bind he
  refine ⟨r1_, hr, ?_⟩
  refine And.intro (fun hb => ?_) (fun hb => ?_)
  · have he := ok_t he hb
    refine And.intro (fun hb => ?_) (fun hb => ?_)
    · have he := ok_t he hb
      obtain ⟨r2_, hr, he⟩ := ok_bind he
      refine ⟨r2_, hr, ?_⟩
      have he := ok_some he
      exact ⟨rfl, _, _, (leads_ren [] (l := [(4, .c (.bool (!r2_)))]) (st' := []) rfl rfl trivial ⟨.inl rfl, trivial⟩), he⟩
    · have he := ok_f he hb
      have he := ok_some he
      exact ⟨rfl, _, _, (leads_ren [] (l := [(4, .c (.bool false))]) (st' := []) rfl rfl trivial ⟨.inr rfl, trivial⟩), he⟩
  · have he := ok_f he hb
    have he := ok_some he
    exact ⟨rfl, _, _, (leads_ren [] (l := [(4, .c (.bool false))]) (st' := []) rfl rfl trivial ⟨.inr rfl, trivial⟩), he⟩

noncomputable def c_laws_FnLiftStep : Con := fun args st => match args, st with
  | [.c (.imm (.int .u8) a0), .c (.imm (.int .u8) a1)], [] => .opt (Bool) (laws_FnLiftStep a0 a1) (fun r => .ret (.c (.bool r)) [])
  | _, _ => .fail

noncomputable def C_laws_FnLiftStep : Cfg := { y := tys, n := 93, h := 0, tab := [(23, c_impl_EvalConstraint), (61, c_spec_LiftStep), (63, c_impl_LiftStep), (67, c_spec_DrawLiftStep), (68, c_spec_DrawCubeHolds), (69, c_impl_ProofSame), (70, c_impl_CubeHolds)], cut := [], hand := [], good := [], deep := [], sched := [(9, (.first 0 (.alt 1 (.first 2 (.first 3 (.first 4 (.first 6 (.first 8 (.first 10 (.alt 5 (.alt 7 (.alt 9 (.alt 11 (.first 12 (.first 13 (.first 14 (.alt 15 (.first 16 (.first 17 (.first 18 (.first 19 (.first 20 .done))))) .stop)))) .stop) .stop) (.alt 9 (.alt 7 (.alt 11 (.first 12 (.first 13 (.first 14 (.alt 15 (.first 16 (.first 17 (.first 18 (.first 19 (.first 20 .done))))) .stop)))) .stop) .stop) .stop)) (.alt 9 (.alt 5 (.alt 7 (.alt 11 (.first 12 (.first 13 (.first 14 (.alt 15 (.first 16 (.first 17 (.first 18 (.first 19 (.first 20 .done))))) .stop)))) .stop) .stop) .stop) .stop)))))))) .stop)))] }

theorem t_laws_FnLiftStep : TabOk Try.prog C_laws_FnLiftStep := by
  refine tabOk_of ?_
  simp only [C_laws_FnLiftStep, List.forall_mem_cons]
  exact ⟨k_impl_EvalConstraint, k_spec_LiftStep, k_impl_LiftStep, k_spec_DrawLiftStep, k_spec_DrawCubeHolds, k_impl_ProofSame, k_impl_CubeHolds, fun p h => by cases h⟩

theorem k_laws_FnLiftStep : Entry Try.prog 10 c_laws_FnLiftStep := by
  refine entry_by (C := C_laws_FnLiftStep) mixed tys_ok t_laws_FnLiftStep (fn := Try.f10) (c := bd Try.f10) (by kernel_rfl) (by kernel_rfl) (by kernel_rfl) (by kernel_rfl) ?_
  intro args st k he
  unfold c_laws_FnLiftStep at he
  split at he
  rotate_left
  · exact he.elim
  rename_i a0 a1
  have he : Ok (laws_FnLiftStep a0 a1) (fun r => k (.c (.bool r)) []) := he
  refine ⟨rfl, rfl, ?_⟩
  refine And.intro (fun hb => ?_) (fun hb => ?_)
  · have he := ok_f he hb
    refine And.intro (fun hb => ?_) (fun hb => ?_)
    · have he := ok_t he hb
      have he := ok_some he
      exact ⟨rfl, _, _, Leads.refl _ _, he⟩
    · have he := ok_f he hb
      obtain ⟨r1_, hr, he⟩ := ok_bind he
      refine ⟨r1_, hr, ?_⟩
      obtain ⟨r2_, hr, he⟩ := ok_bind he
      refine ⟨r2_, hr, ?_⟩
      obtain ⟨r3_, hr, he⟩ := ok_bind he
      refine ⟨r3_, hr, ?_⟩
      obtain ⟨r4_, hr, he⟩ := ok_bind he
      refine ⟨r4_, hr, ?_⟩
      refine And.intro (fun hb => ?_) (fun hb => ?_)
      · have he := ok_f he hb
        obtain ⟨r5_, hr, he⟩ := ok_bind he
        refine ⟨r5_, hr, ?_⟩
        refine And.intro (fun hb => ?_) (fun hb => ?_)
        · have he := ok_f he hb
          refine And.intro (fun hb => ?_) (fun hb => ?_)
          · have he := ok_f he hb
            refine And.intro (fun hb => ?_) (fun hb => ?_)
            · have he := ok_t he hb
              refine And.intro (fun hb => ?_) (fun hb => ?_)
              · have he := ok_t he hb
                obtain ⟨r6_, hr, he⟩ := ok_bind he
                refine ⟨r6_, hr, ?_⟩
                have he := ok_some he
                exact ⟨rfl, _, _, (leads_ren [] (l := [(4, .c (.bool r6_))]) (st' := []) rfl rfl trivial ⟨.inl rfl, trivial⟩), he⟩
              · have he := ok_f he hb
                have he := ok_some he
                exact ⟨rfl, _, _, (leads_ren [] (l := [(4, .c (.bool false))]) (st' := []) rfl rfl trivial ⟨.inr rfl, trivial⟩), he⟩
            · have he := ok_f he hb
              refine And.intro (by kernel_rfl) ?_
              refine And.intro ?_ trivial
              refine And.intro (fun hb => ?_) (fun hb => ?_)
              · have he := ok_t he hb
                obtain ⟨r13_, hq1, he⟩ := ok_bind he
                obtain ⟨r14_, hq2, he⟩ := ok_bind he
                refine And.intro ?_ (And.intro ?_ (trivial))
                · skip
                  refine And.intro ?_ (And.intro ?_ (trivial))
                  · skip
                    refine ⟨r13_, hq1, ?_⟩
                    refine And.intro ?_ trivial
                    refine And.intro ?_ trivial
                    refine ⟨r14_, hq2, ?_⟩
                    refine And.intro (fun hb => ?_) (fun hb => ?_)
                    · have he := ok_f he hb
                      refine And.intro ?_ trivial
                      obtain ⟨r15_, hr, he⟩ := ok_bind he
                      refine ⟨r15_, hr, ?_⟩
                      have he := ok_some he
                      exact ⟨rfl, _, _, (leads_ren [] (l := [(4, .c (.bool (r13_ == (!r15_))))]) (st' := []) rfl rfl trivial ⟨.inl rfl, trivial⟩), he⟩
                    · have he := ok_t he hb
                      refine And.intro ?_ trivial
                      have he := ok_some he
                      exact ⟨rfl, _, _, (leads_ren [] (l := [(4, .c (.bool (r13_ == true)))]) (st' := []) rfl rfl trivial ⟨.inl rfl, trivial⟩), he⟩
                  · skip
                    refine And.intro ?_ trivial
                    refine ⟨r13_, hq1, ?_⟩
                    refine And.intro ?_ trivial
                    refine ⟨r14_, hq2, ?_⟩
                    refine And.intro (fun hb => ?_) (fun hb => ?_)
                    · have he := ok_f he hb
                      refine And.intro ?_ trivial
                      obtain ⟨r15_, hr, he⟩ := ok_bind he
                      refine ⟨r15_, hr, ?_⟩
                      have he := ok_some he
                      exact ⟨rfl, _, _, (leads_ren [] (l := [(4, .c (.bool (r13_ == (!r15_))))]) (st' := []) rfl rfl trivial ⟨.inl rfl, trivial⟩), he⟩
                    · have he := ok_t he hb
                      refine And.intro ?_ trivial
                      have he := ok_some he
                      exact ⟨rfl, _, _, (leads_ren [] (l := [(4, .c (.bool (r13_ == true)))]) (st' := []) rfl rfl trivial ⟨.inl rfl, trivial⟩), he⟩
                · skip
                  refine And.intro ?_ trivial
                  refine And.intro ?_ trivial
                  refine ⟨r13_, hq1, ?_⟩
                  refine And.intro ?_ trivial
                  refine ⟨r14_, hq2, ?_⟩
                  refine And.intro (fun hb => ?_) (fun hb => ?_)
                  · have he := ok_f he hb
                    refine And.intro ?_ trivial
                    obtain ⟨r15_, hr, he⟩ := ok_bind he
                    refine ⟨r15_, hr, ?_⟩
                    have he := ok_some he
                    exact ⟨rfl, _, _, (leads_ren [] (l := [(4, .c (.bool (r13_ == (!r15_))))]) (st' := []) rfl rfl trivial ⟨.inl rfl, trivial⟩), he⟩
                  · have he := ok_t he hb
                    refine And.intro ?_ trivial
                    have he := ok_some he
                    exact ⟨rfl, _, _, (leads_ren [] (l := [(4, .c (.bool (r13_ == true)))]) (st' := []) rfl rfl trivial ⟨.inl rfl, trivial⟩), he⟩
              · have he := ok_f he hb
                refine And.intro ?_ (And.intro ?_ (trivial))
                · skip
                  refine And.intro ?_ (And.intro ?_ (trivial))
                  · skip
                    refine And.intro ?_ trivial
                    refine And.intro ?_ trivial
                    refine And.intro ?_ trivial
                    have he := ok_some he
                    exact ⟨rfl, _, _, (leads_ren [] (l := [(4, .c (.bool false))]) (st' := []) rfl rfl trivial ⟨.inr rfl, trivial⟩), he⟩
                  · skip
                    refine And.intro ?_ trivial
                    refine And.intro ?_ trivial
                    refine And.intro ?_ trivial
                    have he := ok_some he
                    exact ⟨rfl, _, _, (leads_ren [] (l := [(4, .c (.bool false))]) (st' := []) rfl rfl trivial ⟨.inr rfl, trivial⟩), he⟩
                · skip
                  refine And.intro ?_ trivial
                  refine And.intro ?_ trivial
                  refine And.intro ?_ trivial
                  refine And.intro ?_ trivial
                  have he := ok_some he
                  exact ⟨rfl, _, _, (leads_ren [] (l := [(4, .c (.bool false))]) (st' := []) rfl rfl trivial ⟨.inr rfl, trivial⟩), he⟩
          · have he := ok_t he hb
            refine And.intro (fun hb => ?_) (fun hb => ?_)
            · have he := ok_t he hb
              obtain ⟨r7_, hr, he⟩ := ok_bind he
              refine ⟨r7_, hr, ?_⟩
              have he := ok_some he
              exact ⟨rfl, _, _, (leads_ren [] (l := [(4, .c (.bool r7_))]) (st' := []) rfl rfl trivial ⟨.inl rfl, trivial⟩), he⟩
            · have he := ok_f he hb
              have he := ok_some he
              exact ⟨rfl, _, _, (leads_ren [] (l := [(4, .c (.bool false))]) (st' := []) rfl rfl trivial ⟨.inr rfl, trivial⟩), he⟩
        · have he := ok_t he hb
          refine And.intro (fun hb => ?_) (fun hb => ?_)
          · have he := ok_t he hb
            obtain ⟨r8_, hr, he⟩ := ok_bind he
            refine ⟨r8_, hr, ?_⟩
            have he := ok_some he
            exact ⟨rfl, _, _, (leads_ren [] (l := [(4, .c (.bool r8_))]) (st' := []) rfl rfl trivial ⟨.inl rfl, trivial⟩), he⟩
          · have he := ok_f he hb
            have he := ok_some he
            exact ⟨rfl, _, _, (leads_ren [] (l := [(4, .c (.bool false))]) (st' := []) rfl rfl trivial ⟨.inr rfl, trivial⟩), he⟩
      · have he := ok_t he hb
        refine And.intro (fun hb => ?_) (fun hb => ?_)
        · have he := ok_t he hb
          obtain ⟨r9_, hr, he⟩ := ok_bind he
          refine ⟨r9_, hr, ?_⟩
          have he := ok_some he
          exact ⟨rfl, _, _, (leads_ren [] (l := [(4, .c (.bool r9_))]) (st' := []) rfl rfl trivial ⟨.inl rfl, trivial⟩), he⟩
        · have he := ok_f he hb
          have he := ok_some he
          exact ⟨rfl, _, _, (leads_ren [] (l := [(4, .c (.bool false))]) (st' := []) rfl rfl trivial ⟨.inr rfl, trivial⟩), he⟩
  · have he := ok_t he hb
    have he := ok_some he
    exact ⟨rfl, _, _, Leads.refl _ _, he⟩

end Go.AE.Y
