/-
  Walks: each function keeps the contract that its model gives. No conditions.
-/
import Derived.Test.YtkipgkpekkjebaaR1Tab
import Derived.Test.YtkipgkpekkjebaaR1W4
namespace Go.AE.Y
open Go Go.AE Go.Proofs
set_option linter.unusedVariables false
set_option maxHeartbeats 2000000
set_option maxRecDepth 100000

noncomputable def c_laws_eqTerm : Con := fun args st => match args, st with
  | [.agg [.int .i64 a_0, .int .i64 a_1], .agg [.int .i64 b_0, .int .i64 b_1]], [] => .opt (Bool) (laws_eqTerm (a_0, a_1) (b_0, b_1)) (fun r => .ret (.c (.bool r)) [])
  | _, _ => .fail

noncomputable def C_laws_eqTerm : Cfg := { y := tys, n := 15, h := 0, tab := [], cut := [], hand := [], good := [], deep := [], sched := [] }

theorem t_laws_eqTerm : TabOk Try.prog C_laws_eqTerm := tabOk_of (fun p h => by cases h)

theorem k_laws_eqTerm : Entry Try.prog 120 c_laws_eqTerm := by
  refine entry_by (C := C_laws_eqTerm) mixed tys_ok t_laws_eqTerm (fn := Try.f120) (c := bd Try.f120) (by kernel_rfl) (by kernel_rfl) (by kernel_rfl) (by kernel_rfl) ?_
  intro args st k he
  unfold c_laws_eqTerm at he
  split at he
  rotate_left
  · exact he.elim
  rename_i a_0 a_1 b_0 b_1
  have he : Ok (laws_eqTerm (a_0, a_1) (b_0, b_1)) (fun r => k (.c (.bool r)) []) := he
  refine ⟨rfl, rfl, ?_⟩
  refine And.intro (fun hb => ?_) (fun hb => ?_)
  · have he := ok_t he hb
    have he := ok_some he
    exact ⟨rfl, _, _, (leads_ren [] (l := [(4, .c (.bool false))]) (st' := []) rfl rfl trivial ⟨.inr rfl, trivial⟩), he⟩
  · have he := ok_f he hb
    refine And.intro (fun hb => ?_) (fun hb => ?_)
    · have he := ok_t he hb
      have he := ok_some he
      exact ⟨rfl, _, _, (leads_ren [] (l := [(4, .c (.bool false))]) (st' := []) rfl rfl trivial ⟨.inr rfl, trivial⟩), he⟩
    · have he := ok_f he hb
      have he := ok_some he
      exact ⟨rfl, _, _, (leads_ren [] (l := [(4, .c (.bool true))]) (st' := []) rfl rfl trivial ⟨.inr rfl, trivial⟩), he⟩

noncomputable def c_laws_eqTermS : Con := fun args st => match args, st with
  | [.c (.imm (.pair (.int .i64) (.int .i64)) a), .c (.imm (.pair (.int .i64) (.int .i64)) b)], [] => .opt (Bool) (laws_eqTermS a b) (fun r => .ret (.c (.bool r)) [])
  | _, _ => .fail

noncomputable def C_laws_eqTermS : Cfg := { y := tys, n := 27, h := 0, tab := [(120, c_laws_eqTerm)], cut := [], hand := [], good := [], deep := [], sched := [(6, (.first 0 (.first 1 (.first 2 (.first 3 (.first 4 (.first 5 (.first 6 (.first 7 (.alt 8 (.first 9 .done) .stop))))))))))] }

theorem t_laws_eqTermS : TabOk Try.prog C_laws_eqTermS := by
  refine tabOk_of ?_
  simp only [C_laws_eqTermS, List.forall_mem_cons]
  exact ⟨k_laws_eqTerm, fun p h => by cases h⟩

theorem k_laws_eqTermS : Entry Try.prog 109 c_laws_eqTermS := by
  refine entry_by (C := C_laws_eqTermS) mixed tys_ok t_laws_eqTermS (fn := Try.f109) (c := bd Try.f109) (by kernel_rfl) (by kernel_rfl) (by kernel_rfl) (by kernel_rfl) ?_
  intro args st k he
  unfold c_laws_eqTermS at he
  split at he
  rotate_left
  · exact he.elim
  rename_i a b
  have he : Ok (laws_eqTermS a b) (fun r => k (.c (.bool r)) []) := he
  refine ⟨rfl, rfl, ?_⟩
  refine And.intro (fun hb => ?_) (fun hb => ?_)
  · have he := ok_t he hb
    have he := ok_some he
    exact ⟨rfl, _, _, Leads.refl _ _, he⟩
  · have he := ok_f he hb
    refine loop_model mixed tys_ok t_laws_eqTermS (S := Int) (I := (fun i => (envOf [(0, .c (.imm (.pair (.int .i64) (.int .i64)) a)), (1, .c (.imm (.pair (.int .i64) (.int .i64)) b)), (5, .c (.int .i64 i))], []))) (f := laws_eqTermS_l1 a b) (K := (fun r => k (.c (.bool r)) [])) he (leads_ren [] (l := [(0, .c (.imm (.pair (.int .i64) (.int .i64)) a)), (1, .c (.imm (.pair (.int .i64) (.int .i64)) b)), (5, .c (.int .i64 (0:Int)))]) (st' := []) rfl rfl trivial ⟨.inl rfl, .inl rfl, rfl, trivial⟩) ?_
    rintro i J1 he
    refine And.intro (fun hb => ?_) (fun hb => ?_)
    · have he := ok_t he hb
      refine And.intro (by kernel_rfl) ?_
      have he := ok_rq he
      refine And.intro he.1 ?_
      have he := he.2
      have he := ok_rq he
      refine And.intro he.1 ?_
      have he := he.2
      refine And.intro ?_ trivial
      obtain ⟨r2_, hr, he⟩ := ok_bind he
      refine ⟨r2_, hr, ?_⟩
      refine And.intro (fun hb => ?_) (fun hb => ?_)
      · have he := ok_t he hb
        have he := ok_some he
        exact ⟨rfl, _, _, Leads.refl _ _, he⟩
      · have he := ok_f he hb
        have he := ok_rq he
        refine And.intro he.1 ?_
        have he := he.2
        have he := ok_some he
        exact ⟨(i + (1:Int)), he, (leads_ren [] (l := [(0, .c (.imm (.pair (.int .i64) (.int .i64)) a)), (1, .c (.imm (.pair (.int .i64) (.int .i64)) b)), (5, .c (.int .i64 (i + (1:Int))))]) (st' := []) rfl rfl trivial ⟨.inl rfl, .inl rfl, rfl, trivial⟩)⟩
    · have he := ok_f he hb
      have he := ok_some he
      exact ⟨rfl, _, _, Leads.refl _ _, he⟩

noncomputable def c_laws_eqConstraint : Con := fun args st => match args, st with
  | [.agg [.imm (.pair (.int .i64) (.int .i64)) a_0, .int .i64 a_1], .agg [.imm (.pair (.int .i64) (.int .i64)) b_0, .int .i64 b_1]], [] => .opt (Bool) (laws_eqConstraint (a_0, a_1) (b_0, b_1)) (fun r => .ret (.c (.bool r)) [])
  | _, _ => .fail

noncomputable def C_laws_eqConstraint : Cfg := { y := tys, n := 16, h := 0, tab := [(109, c_laws_eqTermS)], cut := [], hand := [], good := [], deep := [], sched := [] }

theorem t_laws_eqConstraint : TabOk Try.prog C_laws_eqConstraint := by
  refine tabOk_of ?_
  simp only [C_laws_eqConstraint, List.forall_mem_cons]
  exact ⟨k_laws_eqTermS, fun p h => by cases h⟩

theorem k_laws_eqConstraint : Entry Try.prog 79 c_laws_eqConstraint := by
  refine entry_by (C := C_laws_eqConstraint) mixed tys_ok t_laws_eqConstraint (fn := Try.f79) (c := bd Try.f79) (by kernel_rfl) (by kernel_rfl) (by kernel_rfl) (by kernel_rfl) ?_
  intro args st k he
  unfold c_laws_eqConstraint at he
  split at he
  rotate_left
  · exact he.elim
  rename_i a_0 a_1 b_0 b_1
  have he : Ok (laws_eqConstraint (a_0, a_1) (b_0, b_1)) (fun r => k (.c (.bool r)) []) := he
  refine ⟨rfl, rfl, ?_⟩
  obtain ⟨r1_, hr, he⟩ := ok_bind he
  refine ⟨r1_, hr, ?_⟩
  refine And.intro (fun hb => ?_) (fun hb => ?_)
  · have he := ok_t he hb
    have he := ok_some he
    exact ⟨rfl, _, _, (leads_ren [] (l := [(4, .c (.bool false))]) (st' := []) rfl rfl trivial ⟨.inr rfl, trivial⟩), he⟩
  · have he := ok_f he hb
    refine And.intro (fun hb => ?_) (fun hb => ?_)
    · have he := ok_t he hb
      have he := ok_some he
      exact ⟨rfl, _, _, (leads_ren [] (l := [(4, .c (.bool false))]) (st' := []) rfl rfl trivial ⟨.inr rfl, trivial⟩), he⟩
    · have he := ok_f he hb
      have he := ok_some he
      exact ⟨rfl, _, _, (leads_ren [] (l := [(4, .c (.bool true))]) (st' := []) rfl rfl trivial ⟨.inr rfl, trivial⟩), he⟩

noncomputable def c_laws_eqConstraintS : Con := fun args st => match args, st with
  | [.c (.imm (.pair (.sl (.pair (.int .i64) (.int .i64))) (.int .i64)) a), .c (.imm (.pair (.sl (.pair (.int .i64) (.int .i64))) (.int .i64)) b)], [] => .opt (Bool) (laws_eqConstraintS a b) (fun r => .ret (.c (.bool r)) [])
  | _, _ => .fail

noncomputable def C_laws_eqConstraintS : Cfg := { y := tys, n := 27, h := 0, tab := [(79, c_laws_eqConstraint)], cut := [], hand := [], good := [], deep := [], sched := [(6, (.first 0 (.first 1 (.first 2 (.first 3 (.first 4 (.first 5 (.first 6 (.first 7 (.alt 8 (.first 9 .done) .stop))))))))))] }

theorem t_laws_eqConstraintS : TabOk Try.prog C_laws_eqConstraintS := by
  refine tabOk_of ?_
  simp only [C_laws_eqConstraintS, List.forall_mem_cons]
  exact ⟨k_laws_eqConstraint, fun p h => by cases h⟩

theorem k_laws_eqConstraintS : Entry Try.prog 36 c_laws_eqConstraintS := by
  refine entry_by (C := C_laws_eqConstraintS) mixed tys_ok t_laws_eqConstraintS (fn := Try.f36) (c := bd Try.f36) (by kernel_rfl) (by kernel_rfl) (by kernel_rfl) (by kernel_rfl) ?_
  intro args st k he
  unfold c_laws_eqConstraintS at he
  split at he
  rotate_left
  · exact he.elim
  rename_i a b
  have he : Ok (laws_eqConstraintS a b) (fun r => k (.c (.bool r)) []) := he
  refine ⟨rfl, rfl, ?_⟩
  refine And.intro (fun hb => ?_) (fun hb => ?_)
  · have he := ok_t he hb
    have he := ok_some he
    exact ⟨rfl, _, _, Leads.refl _ _, he⟩
  · have he := ok_f he hb
    refine loop_model mixed tys_ok t_laws_eqConstraintS (S := Int) (I := (fun i => (envOf [(0, .c (.imm (.pair (.sl (.pair (.int .i64) (.int .i64))) (.int .i64)) a)), (1, .c (.imm (.pair (.sl (.pair (.int .i64) (.int .i64))) (.int .i64)) b)), (5, .c (.int .i64 i))], []))) (f := laws_eqConstraintS_l1 a b) (K := (fun r => k (.c (.bool r)) [])) he (leads_ren [] (l := [(0, .c (.imm (.pair (.sl (.pair (.int .i64) (.int .i64))) (.int .i64)) a)), (1, .c (.imm (.pair (.sl (.pair (.int .i64) (.int .i64))) (.int .i64)) b)), (5, .c (.int .i64 (0:Int)))]) (st' := []) rfl rfl trivial ⟨.inl rfl, .inl rfl, rfl, trivial⟩) ?_
    rintro i J1 he
    refine And.intro (fun hb => ?_) (fun hb => ?_)
    · have he := ok_t he hb
      refine And.intro (by kernel_rfl) ?_
      have he := ok_rq he
      refine And.intro he.1 ?_
      have he := he.2
      have he := ok_rq he
      refine And.intro he.1 ?_
      have he := he.2
      refine And.intro ?_ trivial
      obtain ⟨r2_, hr, he⟩ := ok_bind he
      refine ⟨r2_, hr, ?_⟩
      refine And.intro (fun hb => ?_) (fun hb => ?_)
      · have he := ok_t he hb
        have he := ok_some he
        exact ⟨rfl, _, _, Leads.refl _ _, he⟩
      · have he := ok_f he hb
        have he := ok_rq he
        refine And.intro he.1 ?_
        have he := he.2
        have he := ok_some he
        exact ⟨(i + (1:Int)), he, (leads_ren [] (l := [(0, .c (.imm (.pair (.sl (.pair (.int .i64) (.int .i64))) (.int .i64)) a)), (1, .c (.imm (.pair (.sl (.pair (.int .i64) (.int .i64))) (.int .i64)) b)), (5, .c (.int .i64 (i + (1:Int))))]) (st' := []) rfl rfl trivial ⟨.inl rfl, .inl rfl, rfl, trivial⟩)⟩
    · have he := ok_f he hb
      have he := ok_some he
      exact ⟨rfl, _, _, Leads.refl _ _, he⟩

noncomputable def c_laws_FnExactViolationCount : Con := fun args st => match args, st with
  | [.c (.imm (.pair (.sl (.pair (.int .i64) (.int .i64))) (.int .i64)) aList), .c (.imm .bool aValues)], [] => .opt (Bool) (laws_FnExactViolationCount aList aValues) (fun r => .ret (.c (.bool r)) [])
  | _, _ => .fail

noncomputable def C_laws_FnExactViolationCount : Cfg := { y := tys, n := 56, h := 0, tab := [(17, c_laws_toBoolS), (20, c_laws_eqBoolS), (31, c_impl_ViolationCount), (32, c_spec_ViolationCount), (34, c_laws_szConstraintS), (35, c_laws_toConstraintS), (36, c_laws_eqConstraintS)], cut := [], hand := [], good := [], deep := [], sched := [] }

theorem t_laws_FnExactViolationCount : TabOk Try.prog C_laws_FnExactViolationCount := by
  refine tabOk_of ?_
  simp only [C_laws_FnExactViolationCount, List.forall_mem_cons]
  exact ⟨k_laws_toBoolS, k_laws_eqBoolS, k_impl_ViolationCount, k_spec_ViolationCount, k_laws_szConstraintS, k_laws_toConstraintS, k_laws_eqConstraintS, fun p h => by cases h⟩

theorem k_laws_FnExactViolationCount : Entry Try.prog 8 c_laws_FnExactViolationCount := by
  refine entry_by (C := C_laws_FnExactViolationCount) mixed tys_ok t_laws_FnExactViolationCount (fn := Try.f8) (c := bd Try.f8) (by kernel_rfl) (by kernel_rfl) (by kernel_rfl) (by kernel_rfl) ?_
  intro args st k he
  unfold c_laws_FnExactViolationCount at he
  split at he
  rotate_left
  · exact he.elim
  rename_i aList aValues
  have he : Ok (laws_FnExactViolationCount aList aValues) (fun r => k (.c (.bool r)) []) := he
  refine ⟨rfl, rfl, ?_⟩
  refine And.intro (fun hb => ?_) (fun hb => ?_)
  · have he := ok_t he hb
    have he := ok_some he
    exact ⟨rfl, _, _, Leads.refl _ _, he⟩
  · have he := ok_f he hb
    obtain ⟨r1_, hr, he⟩ := ok_bind he
    refine ⟨r1_, hr, ?_⟩
    refine And.intro (fun hb => ?_) (fun hb => ?_)
    · have he := ok_t he hb
      have he := ok_some he
      exact ⟨rfl, _, _, Leads.refl _ _, he⟩
    · have he := ok_f he hb
      obtain ⟨r2_, hr, he⟩ := ok_bind he
      refine ⟨r2_, hr, ?_⟩
      obtain ⟨r3_, hr, he⟩ := ok_bind he
      refine ⟨r3_, hr, ?_⟩
      obtain ⟨r4_, hr, he⟩ := ok_bind he
      refine ⟨r4_, hr, ?_⟩
      obtain ⟨r5_, hr, he⟩ := ok_bind he
      refine ⟨r5_, hr, ?_⟩
      obtain ⟨r6_, hr, he⟩ := ok_bind he
      refine ⟨r6_, hr, ?_⟩
      obtain ⟨r7_, hr, he⟩ := ok_bind he
      refine ⟨r7_, hr, ?_⟩
      refine And.intro (fun hb => ?_) (fun hb => ?_)
      · have he := ok_f he hb
        refine And.intro (fun hb => ?_) (fun hb => ?_)
        · have he := ok_t he hb
          have he := ok_some he
          exact ⟨rfl, _, _, (leads_ren [] (l := [(4, .c (.bool false))]) (st' := []) rfl rfl trivial ⟨.inr rfl, trivial⟩), he⟩
        · have he := ok_f he hb
          obtain ⟨r8_, hr, he⟩ := ok_bind he
          refine ⟨r8_, hr, ?_⟩
          obtain ⟨r9_, hr, he⟩ := ok_bind he
          refine ⟨r9_, hr, ?_⟩
          refine And.intro (fun hb => ?_) (fun hb => ?_)
          · have he := ok_t he hb
            have he := ok_some he
            exact ⟨rfl, _, _, (leads_ren [] (l := [(4, .c (.bool false))]) (st' := []) rfl rfl trivial ⟨.inr rfl, trivial⟩), he⟩
          · have he := ok_f he hb
            obtain ⟨r10_, hr, he⟩ := ok_bind he
            refine ⟨r10_, hr, ?_⟩
            obtain ⟨r11_, hr, he⟩ := ok_bind he
            refine ⟨r11_, hr, ?_⟩
            refine And.intro (fun hb => ?_) (fun hb => ?_)
            · have he := ok_t he hb
              have he := ok_some he
              exact ⟨rfl, _, _, (leads_ren [] (l := [(4, .c (.bool false))]) (st' := []) rfl rfl trivial ⟨.inr rfl, trivial⟩), he⟩
            · have he := ok_f he hb
              have he := ok_some he
              exact ⟨rfl, _, _, (leads_ren [] (l := [(4, .c (.bool true))]) (st' := []) rfl rfl trivial ⟨.inr rfl, trivial⟩), he⟩
      · have he := ok_t he hb
        have he := ok_some he
        exact ⟨rfl, _, _, (leads_ren [] (l := [(4, .c (.bool false))]) (st' := []) rfl rfl trivial ⟨.inr rfl, trivial⟩), he⟩

noncomputable def c_spec_l11Keep : Con := fun args st => match args, st with
  | [.c (.imm (.int .i64) keep), .c (.int .i64 n)], [] => .opt (Bool) (spec_l11Keep keep n) (fun r => .ret (.c (.bool r)) [])
  | _, _ => .fail

noncomputable def C_spec_l11Keep : Cfg := { y := tys, n := 41, h := 0, tab := [], cut := [], hand := [], good := [], deep := [], sched := [] }

theorem t_spec_l11Keep : TabOk Try.prog C_spec_l11Keep := tabOk_of (fun p h => by cases h)

theorem k_spec_l11Keep : Entry Try.prog 87 c_spec_l11Keep := by
  refine entry_by (C := C_spec_l11Keep) mixed tys_ok t_spec_l11Keep (fn := Try.f87) (c := bd Try.f87) (by kernel_rfl) (by kernel_rfl) (by kernel_rfl) (by kernel_rfl) ?_
  intro args st k he
  unfold c_spec_l11Keep at he
  split at he
  rotate_left
  · exact he.elim
  rename_i keep n
  have he : Ok (spec_l11Keep keep n) (fun r => k (.c (.bool r)) []) := he
  refine ⟨rfl, rfl, ?_⟩
  refine loop_model mixed tys_ok t_spec_l11Keep (S := Int) (I := (fun i => (envOf [(0, .c (.imm (.int .i64) keep)), (1, .c (.int .i64 n)), (5, .c (.int .i64 i))], []))) (f := spec_l11Keep_l1 keep n) (K := (fun r => k (.c (.bool r)) [])) he (leads_ren [] (l := [(0, .c (.imm (.int .i64) keep)), (1, .c (.int .i64 n)), (5, .c (.int .i64 (0:Int)))]) (st' := []) rfl rfl trivial ⟨.inl rfl, rfl, rfl, trivial⟩) ?_
  rintro i J1 he
  refine And.intro (fun hb => ?_) (fun hb => ?_)
  · have he := ok_t he hb
    refine And.intro (by kernel_rfl) ?_
    have he := ok_rq he
    refine And.intro he.1 ?_
    have he := he.2
    refine And.intro (fun hb => ?_) (fun hb => ?_)
    · have he := ok_f he hb
      have he := ok_rq he
      refine And.intro he.1 ?_
      have he := he.2
      refine And.intro (fun hb => ?_) (fun hb => ?_)
      · have he := ok_f he hb
        refine And.intro (fun hb => ?_) (fun hb => ?_)
        · have he := ok_t he hb
          have he := ok_rq he
          refine And.intro he.1 ?_
          have he := he.2
          have he := ok_rq he
          refine And.intro he.1 ?_
          have he := he.2
          have he := ok_rq he
          refine And.intro he.1 ?_
          have he := he.2
          refine And.intro (fun hb => ?_) (fun hb => ?_)
          · have he := ok_t he hb
            have he := ok_some he
            exact ⟨rfl, _, _, Leads.refl _ _, he⟩
          · have he := ok_f he hb
            have he := ok_rq he
            refine And.intro he.1 ?_
            have he := he.2
            have he := ok_some he
            exact ⟨(i + (1:Int)), he, (leads_ren [] (l := [(0, .c (.imm (.int .i64) keep)), (1, .c (.int .i64 n)), (5, .c (.int .i64 (i + (1:Int))))]) (st' := []) rfl rfl trivial ⟨.inl rfl, rfl, rfl, trivial⟩)⟩
        · have he := ok_f he hb
          have he := ok_rq he
          refine And.intro he.1 ?_
          have he := he.2
          have he := ok_some he
          exact ⟨(i + (1:Int)), he, (leads_ren [] (l := [(0, .c (.imm (.int .i64) keep)), (1, .c (.int .i64 n)), (5, .c (.int .i64 (i + (1:Int))))]) (st' := []) rfl rfl trivial ⟨.inl rfl, rfl, rfl, trivial⟩)⟩
      · have he := ok_t he hb
        have he := ok_some he
        exact ⟨rfl, _, _, Leads.refl _ _, he⟩
    · have he := ok_t he hb
      have he := ok_some he
      exact ⟨rfl, _, _, Leads.refl _ _, he⟩
  · have he := ok_f he hb
    have he := ok_some he
    exact ⟨rfl, _, _, Leads.refl _ _, he⟩

noncomputable def c_spec_l11Sub : Con := fun args st => match args, st with
  | [.c (.imm (.pair (.sl (.pair (.int .i64) (.int .i64))) (.int .i64)) list_), .c (.imm (.int .i64) keep)], [] => .opt ((List ((List (Int × Int)) × Int))) (spec_l11Sub list_ keep) (fun r => .ret (.c (.own 900)) [(900, .sl 81 (.pair (.sl (.pair (.int .i64) (.int .i64))) (.int .i64)) r (.deep true .no))])
  | _, _ => .fail

noncomputable def C_spec_l11Sub : Cfg := { y := tys, n := 26, h := 0, tab := [(113, c_spec_l1Copy)], cut := [], hand := [], good := [], deep := [7, 23], sched := [] }

theorem t_spec_l11Sub : TabOk Try.prog C_spec_l11Sub := by
  refine tabOk_of ?_
  simp only [C_spec_l11Sub, List.forall_mem_cons]
  exact ⟨k_spec_l1Copy, fun p h => by cases h⟩

theorem k_spec_l11Sub : Entry Try.prog 88 c_spec_l11Sub := by
  refine entry_by (C := C_spec_l11Sub) mixed tys_ok t_spec_l11Sub (fn := Try.f88) (c := bd Try.f88) (by kernel_rfl) (by kernel_rfl) (by kernel_rfl) (by kernel_rfl) ?_
  intro args st k he
  unfold c_spec_l11Sub at he
  split at he
  rotate_left
  · exact he.elim
  rename_i list_ keep
  have he : Ok (spec_l11Sub list_ keep) (fun r => k (.c (.own 900)) [(900, .sl 81 (.pair (.sl (.pair (.int .i64) (.int .i64))) (.int .i64)) r (.deep true .no))]) := he
  refine ⟨rfl, rfl, ?_⟩
  refine loop_model mixed tys_ok t_spec_l11Sub (S := Int × (List ((List (Int × Int)) × Int))) (I := (fun (i, out) => (envOf [(0, .c (.imm (.pair (.sl (.pair (.int .i64) (.int .i64))) (.int .i64)) list_)), (1, .c (.imm (.int .i64) keep)), (5, .c (.own 10000000)), (6, .c (.int .i64 i))], [(10000000, .sl 81 (.pair (.sl (.pair (.int .i64) (.int .i64))) (.int .i64)) out (.deep true .no))]))) (f := spec_l11Sub_l1 list_ keep) (K := (fun r => k (.c (.own 900)) [(900, .sl 81 (.pair (.sl (.pair (.int .i64) (.int .i64))) (.int .i64)) r (.deep true .no))])) he (leads_ren [(10000000, 7)] (l := [(0, .c (.imm (.pair (.sl (.pair (.int .i64) (.int .i64))) (.int .i64)) list_)), (1, .c (.imm (.int .i64) keep)), (5, .c (.own 10000000)), (6, .c (.int .i64 (0:Int)))]) (st' := [(10000000, .sl 81 (.pair (.sl (.pair (.int .i64) (.int .i64))) (.int .i64)) ([] : List ((List (Int × Int)) × Int)) (.deep true .no))]) rfl rfl ⟨⟨rfl, rfl⟩, trivial⟩ ⟨.inl rfl, .inl rfl, ⟨rfl, rfl⟩, rfl, trivial⟩) ?_
  rintro ⟨i, out⟩ J1 he
  refine And.intro (fun hb => ?_) (fun hb => ?_)
  · have he := ok_t he hb
    have he := ok_rq he
    refine And.intro he.1 ?_
    have he := he.2
    have he := ok_rq he
    refine And.intro he.1 ?_
    have he := he.2
    obtain ⟨r2_, hr, he⟩ := ok_bind he
    refine ⟨r2_, hr, ?_⟩
    have he := ok_rq he
    refine And.intro he.1 ?_
    have he := he.2
    have he := ok_rq he
    refine And.intro he.1 ?_
    have he := he.2
    have he := ok_some he
    exact ⟨((i + (1:Int)), (out ++ [(r2_.2, r2_.1)])), he, (leads_ren [(10000000, 24)] (l := [(0, .c (.imm (.pair (.sl (.pair (.int .i64) (.int .i64))) (.int .i64)) list_)), (1, .c (.imm (.int .i64) keep)), (5, .c (.own 10000000)), (6, .c (.int .i64 (i + (1:Int))))]) (st' := [(10000000, .sl 81 (.pair (.sl (.pair (.int .i64) (.int .i64))) (.int .i64)) (out ++ [(r2_.2, r2_.1)]) (.deep true .no))]) rfl rfl ⟨⟨rfl, rfl⟩, trivial⟩ ⟨.inl rfl, .inl rfl, ⟨rfl, rfl⟩, rfl, trivial⟩)⟩
  · have he := ok_f he hb
    have he := ok_some he
    exact ⟨rfl, _, _, (leads_ren [(900, 10000000)] (l := [(4, .c (.own 900))]) (st' := [(900, .sl 81 (.pair (.sl (.pair (.int .i64) (.int .i64))) (.int .i64)) out (.deep true .no))]) rfl rfl ⟨⟨rfl, rfl⟩, trivial⟩ ⟨⟨rfl, rfl⟩, trivial⟩), he⟩

noncomputable def c_spec_SubProblem : Con := fun args st => match args, st with
  | [.c (.imm (.pair (.sl (.pair (.int .i64) (.int .i64))) (.int .i64)) list_), .c (.imm (.int .i64) keep)], [] => .opt (Bool × (List ((List (Int × Int)) × Int))) (spec_SubProblem list_ keep) (fun r => .ret (.tup [.c (.own 900), .c (.bool r.1)]) [(900, .sl 81 (.pair (.sl (.pair (.int .i64) (.int .i64))) (.int .i64)) r.2 (.deep true .no))])
  | _, _ => .fail

noncomputable def C_spec_SubProblem : Cfg := { y := tys, n := 20, h := 0, tab := [(74, c_spec_ProblemValid), (87, c_spec_l11Keep), (88, c_spec_l11Sub)], cut := [], hand := [], good := [], deep := [16], sched := [] }

theorem t_spec_SubProblem : TabOk Try.prog C_spec_SubProblem := by
  refine tabOk_of ?_
  simp only [C_spec_SubProblem, List.forall_mem_cons]
  exact ⟨k_spec_ProblemValid, k_spec_l11Keep, k_spec_l11Sub, fun p h => by cases h⟩

theorem k_spec_SubProblem : Entry Try.prog 43 c_spec_SubProblem := by
  refine entry_by (C := C_spec_SubProblem) mixed tys_ok t_spec_SubProblem (fn := Try.f43) (c := bd Try.f43) (by kernel_rfl) (by kernel_rfl) (by kernel_rfl) (by kernel_rfl) ?_
  intro args st k he
  unfold c_spec_SubProblem at he
  split at he
  rotate_left
  · exact he.elim
  rename_i list_ keep
  have he : Ok (spec_SubProblem list_ keep) (fun r => k (.tup [.c (.own 900), .c (.bool r.1)]) [(900, .sl 81 (.pair (.sl (.pair (.int .i64) (.int .i64))) (.int .i64)) r.2 (.deep true .no))]) := he
  refine ⟨rfl, rfl, ?_⟩
  obtain ⟨r1_, hr, he⟩ := ok_bind he
  refine ⟨r1_, hr, ?_⟩
  refine And.intro (fun hb => ?_) (fun hb => ?_)
  · have he := ok_f he hb
    obtain ⟨r2_, hr, he⟩ := ok_bind he
    refine ⟨r2_, hr, ?_⟩
    refine And.intro (fun hb => ?_) (fun hb => ?_)
    · have he := ok_t he hb
      have he := ok_some he
      exact ⟨rfl, _, _, (leads_ren [(900, 16)] (l := [(4, .c (.own 900)), (5, .c (.bool false))]) (st' := [(900, .sl 81 (.pair (.sl (.pair (.int .i64) (.int .i64))) (.int .i64)) ([] : List ((List (Int × Int)) × Int)) (.deep true .no))]) rfl rfl ⟨⟨rfl, rfl⟩, trivial⟩ ⟨⟨rfl, rfl⟩, .inr rfl, trivial⟩), he⟩
    · have he := ok_f he hb
      obtain ⟨r3_, hr, he⟩ := ok_bind he
      refine ⟨r3_, hr, ?_⟩
      have he := ok_some he
      exact ⟨rfl, _, _, (leads_ren [(900, 20900)] (l := [(4, .c (.own 900)), (5, .c (.bool true))]) (st' := [(900, .sl 81 (.pair (.sl (.pair (.int .i64) (.int .i64))) (.int .i64)) r3_ (.deep true .no))]) rfl rfl ⟨⟨rfl, rfl⟩, trivial⟩ ⟨⟨rfl, rfl⟩, .inr rfl, trivial⟩), he⟩
  · have he := ok_t he hb
    have he := ok_some he
    exact ⟨rfl, _, _, (leads_ren [(900, 16)] (l := [(4, .c (.own 900)), (5, .c (.bool false))]) (st' := [(900, .sl 81 (.pair (.sl (.pair (.int .i64) (.int .i64))) (.int .i64)) ([] : List ((List (Int × Int)) × Int)) (.deep true .no))]) rfl rfl ⟨⟨rfl, rfl⟩, trivial⟩ ⟨⟨rfl, rfl⟩, .inr rfl, trivial⟩), he⟩

noncomputable def c_impl_isPart : Con := fun args st => match args, st with
  | [.c (.imm (.int .i64) keep), .c (.int .i64 count)], [] => .opt (Bool) (impl_isPart keep count) (fun r => .ret (.c (.bool r)) [])
  | _, _ => .fail

noncomputable def C_impl_isPart : Cfg := { y := tys, n := 33, h := 0, tab := [(100, c_impl_within)], cut := [], hand := [], good := [], deep := [], sched := [] }

theorem t_impl_isPart : TabOk Try.prog C_impl_isPart := by
  refine tabOk_of ?_
  simp only [C_impl_isPart, List.forall_mem_cons]
  exact ⟨k_impl_within, fun p h => by cases h⟩

theorem k_impl_isPart : Entry Try.prog 84 c_impl_isPart := by
  refine entry_by (C := C_impl_isPart) mixed tys_ok t_impl_isPart (fn := Try.f84) (c := bd Try.f84) (by kernel_rfl) (by kernel_rfl) (by kernel_rfl) (by kernel_rfl) ?_
  intro args st k he
  unfold c_impl_isPart at he
  split at he
  rotate_left
  · exact he.elim
  rename_i keep count
  have he : Ok (impl_isPart keep count) (fun r => k (.c (.bool r)) []) := he
  refine ⟨rfl, rfl, ?_⟩
  refine loop_model mixed tys_ok t_impl_isPart (S := Int) (I := (fun i => (envOf [(0, .c (.imm (.int .i64) keep)), (1, .c (.int .i64 count)), (7, .c (.imm (.int .i64) keep)), (8, .c (.int .i64 (keep.length:Int))), (9, .c (.int .i64 i))], []))) (f := impl_isPart_l1 keep count) (K := (fun r => k (.c (.bool r)) [])) he (leads_ren [] (l := [(0, .c (.imm (.int .i64) keep)), (1, .c (.int .i64 count)), (7, .c (.imm (.int .i64) keep)), (8, .c (.int .i64 (keep.length:Int))), (9, .c (.int .i64 (0:Int)))]) (st' := []) rfl rfl trivial ⟨.inl rfl, rfl, .inl rfl, rfl, rfl, trivial⟩) ?_
  rintro i J1 he
  refine And.intro (fun hb => ?_) (fun hb => ?_)
  · have he := ok_t he hb
    have he := ok_rq he
    refine And.intro he.1 ?_
    have he := he.2
    have he := ok_rq he
    refine And.intro he.1 ?_
    have he := he.2
    obtain ⟨r1_, hr, he⟩ := ok_bind he
    refine ⟨r1_, hr, ?_⟩
    refine And.intro (fun hb => ?_) (fun hb => ?_)
    · have he := ok_f he hb
      refine And.intro (fun hb => ?_) (fun hb => ?_)
      · have he := ok_t he hb
        have he := ok_rq he
        refine And.intro he.1 ?_
        have he := he.2
        have he := ok_rq he
        refine And.intro he.1 ?_
        have he := he.2
        refine And.intro (fun hb => ?_) (fun hb => ?_)
        · have he := ok_t he hb
          have he := ok_some he
          exact ⟨rfl, _, _, Leads.refl _ _, he⟩
        · have he := ok_f he hb
          have he := ok_rq he
          refine And.intro he.1 ?_
          have he := he.2
          have he := ok_some he
          exact ⟨(i + (1:Int)), he, (leads_ren [] (l := [(0, .c (.imm (.int .i64) keep)), (1, .c (.int .i64 count)), (7, .c (.imm (.int .i64) keep)), (8, .c (.int .i64 (keep.length:Int))), (9, .c (.int .i64 (i + (1:Int))))]) (st' := []) rfl rfl trivial ⟨.inl rfl, rfl, .inl rfl, rfl, rfl, trivial⟩)⟩
      · have he := ok_f he hb
        have he := ok_rq he
        refine And.intro he.1 ?_
        have he := he.2
        have he := ok_some he
        exact ⟨(i + (1:Int)), he, (leads_ren [] (l := [(0, .c (.imm (.int .i64) keep)), (1, .c (.int .i64 count)), (7, .c (.imm (.int .i64) keep)), (8, .c (.int .i64 (keep.length:Int))), (9, .c (.int .i64 (i + (1:Int))))]) (st' := []) rfl rfl trivial ⟨.inl rfl, rfl, .inl rfl, rfl, rfl, trivial⟩)⟩
    · have he := ok_t he hb
      have he := ok_some he
      exact ⟨rfl, _, _, Leads.refl _ _, he⟩
  · have he := ok_f he hb
    have he := ok_some he
    exact ⟨rfl, _, _, Leads.refl _ _, he⟩

noncomputable def c_impl_partOf : Con := fun args st => match args, st with
  | [.c (.imm (.pair (.sl (.pair (.int .i64) (.int .i64))) (.int .i64)) list_), .c (.imm (.int .i64) keep)], [] => .opt ((List ((List (Int × Int)) × Int))) (impl_partOf list_ keep) (fun r => .ret (.c (.own 900)) [(900, .sl 81 (.pair (.sl (.pair (.int .i64) (.int .i64))) (.int .i64)) r .shallow)])
  | _, _ => .fail

noncomputable def C_impl_partOf : Cfg := { y := tys, n := 23, h := 0, tab := [], cut := [], hand := [], good := [], deep := [], sched := [] }

theorem t_impl_partOf : TabOk Try.prog C_impl_partOf := tabOk_of (fun p h => by cases h)

theorem k_impl_partOf : Entry Try.prog 86 c_impl_partOf := by
  refine entry_by (C := C_impl_partOf) mixed tys_ok t_impl_partOf (fn := Try.f86) (c := bd Try.f86) (by kernel_rfl) (by kernel_rfl) (by kernel_rfl) (by kernel_rfl) ?_
  intro args st k he
  unfold c_impl_partOf at he
  split at he
  rotate_left
  · exact he.elim
  rename_i list_ keep
  have he : Ok (impl_partOf list_ keep) (fun r => k (.c (.own 900)) [(900, .sl 81 (.pair (.sl (.pair (.int .i64) (.int .i64))) (.int .i64)) r .shallow)]) := he
  refine ⟨rfl, rfl, ?_⟩
  refine loop_model mixed tys_ok t_impl_partOf (S := Int × (List ((List (Int × Int)) × Int))) (I := (fun (i, out) => (envOf [(0, .c (.imm (.pair (.sl (.pair (.int .i64) (.int .i64))) (.int .i64)) list_)), (5, .c (.own 10000000)), (8, .c (.imm (.int .i64) keep)), (9, .c (.int .i64 (keep.length:Int))), (10, .c (.int .i64 i))], [(10000000, .sl 81 (.pair (.sl (.pair (.int .i64) (.int .i64))) (.int .i64)) out .shallow)]))) (f := impl_partOf_l1 list_ keep) (K := (fun r => k (.c (.own 900)) [(900, .sl 81 (.pair (.sl (.pair (.int .i64) (.int .i64))) (.int .i64)) r .shallow)])) he (leads_ren [] (l := [(0, .c (.imm (.pair (.sl (.pair (.int .i64) (.int .i64))) (.int .i64)) list_)), (5, .c (.own 10000000)), (8, .c (.imm (.int .i64) keep)), (9, .c (.int .i64 (keep.length:Int))), (10, .c (.int .i64 (0:Int)))]) (st' := [(10000000, .sl 81 (.pair (.sl (.pair (.int .i64) (.int .i64))) (.int .i64)) ([] : List ((List (Int × Int)) × Int)) .shallow)]) rfl rfl ⟨trivial, trivial⟩ ⟨.inl rfl, ⟨rfl, trivial⟩, .inl rfl, rfl, rfl, trivial⟩) ?_
  rintro ⟨i, out⟩ J1 he
  refine And.intro (fun hb => ?_) (fun hb => ?_)
  · have he := ok_t he hb
    have he := ok_rq he
    refine And.intro he.1 ?_
    have he := he.2
    have he := ok_rq he
    refine And.intro he.1 ?_
    have he := he.2
    have he := ok_rq he
    refine And.intro he.1 ?_
    have he := he.2
    have he := ok_rq he
    refine And.intro he.1 ?_
    have he := he.2
    have he := ok_some he
    exact ⟨((i + (1:Int)), (out ++ [(list_.getD (keep.getD i.toNat 0).toNat ([], 0))])), he, (leads_ren [(10000000, 20)] (l := [(0, .c (.imm (.pair (.sl (.pair (.int .i64) (.int .i64))) (.int .i64)) list_)), (5, .c (.own 10000000)), (8, .c (.imm (.int .i64) keep)), (9, .c (.int .i64 (keep.length:Int))), (10, .c (.int .i64 (i + (1:Int))))]) (st' := [(10000000, .sl 81 (.pair (.sl (.pair (.int .i64) (.int .i64))) (.int .i64)) (out ++ [(list_.getD (keep.getD i.toNat 0).toNat ([], 0))]) .shallow)]) rfl rfl ⟨⟨rfl, rfl⟩, trivial⟩ ⟨.inl rfl, ⟨rfl, rfl⟩, .inl rfl, rfl, rfl, trivial⟩)⟩
  · have he := ok_f he hb
    have he := ok_some he
    exact ⟨rfl, _, _, (leads_ren [(900, 10000000)] (l := [(4, .c (.own 900))]) (st' := [(900, .sl 81 (.pair (.sl (.pair (.int .i64) (.int .i64))) (.int .i64)) out .shallow)]) rfl rfl ⟨⟨rfl, rfl⟩, trivial⟩ ⟨⟨rfl, rfl⟩, trivial⟩), he⟩

noncomputable def c_slices_Clone_impl_Term : Con := fun args st => match args, st with
  | [.c (.imm (.pair (.int .i64) (.int .i64)) s_)], [] => .opt ((List (Int × Int))) (slices_Clone_impl_Term s_) (fun r => .ret (.c (.own 900)) [(900, .sl 93 (.pair (.int .i64) (.int .i64)) r .shallow)])
  | _, _ => .fail

noncomputable def C_slices_Clone_impl_Term : Cfg := { y := tys, n := 8, h := 0, tab := [], cut := [], hand := [], good := [], deep := [], sched := [] }

theorem t_slices_Clone_impl_Term : TabOk Try.prog C_slices_Clone_impl_Term := tabOk_of (fun p h => by cases h)

theorem k_slices_Clone_impl_Term : Entry Try.prog 121 c_slices_Clone_impl_Term := by
  refine entry_by (C := C_slices_Clone_impl_Term) mixed tys_ok t_slices_Clone_impl_Term (fn := Try.f121) (c := bd Try.f121) (by kernel_rfl) (by kernel_rfl) (by kernel_rfl) (by kernel_rfl) ?_
  intro args st k he
  unfold c_slices_Clone_impl_Term at he
  split at he
  rotate_left
  · exact he.elim
  rename_i s_
  have he : Ok (slices_Clone_impl_Term s_) (fun r => k (.c (.own 900)) [(900, .sl 93 (.pair (.int .i64) (.int .i64)) r .shallow)]) := he
  refine ⟨rfl, rfl, ?_⟩
  refine fun b1_ hb1_ => ?_
  have he := ok_nt he hb1_
  refine And.intro (fun hb => ?_) (fun hb => ?_)
  · have he := ok_t he hb
    have he := ok_some he
    exact ⟨rfl, _, _, (leads_ren [] (l := [(2, .c (.own 900))]) (st' := [(900, .sl 93 (.pair (.int .i64) (.int .i64)) ([] : List (Int × Int)) .shallow)]) rfl rfl ⟨trivial, trivial⟩ ⟨⟨rfl, trivial⟩, trivial⟩), he⟩
  · have he := ok_f he hb
    have he := ok_rq he
    refine And.intro he.1 ?_
    have he := he.2
    have he := ok_some he
    exact ⟨rfl, _, _, (leads_ren [(900, 7)] (l := [(2, .c (.own 900))]) (st' := [(900, .sl 93 (.pair (.int .i64) (.int .i64)) (([] : List (Int × Int)) ++ s_) .shallow)]) rfl rfl ⟨⟨rfl, rfl⟩, trivial⟩ ⟨⟨rfl, rfl⟩, trivial⟩), he⟩

noncomputable def c_impl_Constraint_own : Con := fun args st => match args, st with
  | [.agg [.imm (.pair (.int .i64) (.int .i64)) c__0, .int .i64 c__1]], [] => .opt (Int × (List (Int × Int))) (impl_Constraint_own (c__0, c__1)) (fun r => .ret (.agg [.own 901, .int .i64 r.1]) [(900, .rc [.own 901, .int .i64 r.1]), (901, .sl 93 (.pair (.int .i64) (.int .i64)) r.2 .shallow)])
  | _, _ => .fail

noncomputable def C_impl_Constraint_own : Cfg := { y := tys, n := 8, h := 0, tab := [(121, c_slices_Clone_impl_Term)], cut := [], hand := [], good := [], deep := [], sched := [] }

theorem t_impl_Constraint_own : TabOk Try.prog C_impl_Constraint_own := by
  refine tabOk_of ?_
  simp only [C_impl_Constraint_own, List.forall_mem_cons]
  exact ⟨k_slices_Clone_impl_Term, fun p h => by cases h⟩

theorem k_impl_Constraint_own : Entry Try.prog 112 c_impl_Constraint_own := by
  refine entry_by (C := C_impl_Constraint_own) mixed tys_ok t_impl_Constraint_own (fn := Try.f112) (c := bd Try.f112) (by kernel_rfl) (by kernel_rfl) (by kernel_rfl) (by kernel_rfl) ?_
  intro args st k he
  unfold c_impl_Constraint_own at he
  split at he
  rotate_left
  · exact he.elim
  rename_i c__0 c__1
  have he : Ok (impl_Constraint_own (c__0, c__1)) (fun r => k (.agg [.own 901, .int .i64 r.1]) [(900, .rc [.own 901, .int .i64 r.1]), (901, .sl 93 (.pair (.int .i64) (.int .i64)) r.2 .shallow)]) := he
  refine ⟨rfl, rfl, ?_⟩
  obtain ⟨r1_, hr, he⟩ := ok_bind he
  refine ⟨r1_, hr, ?_⟩
  have he := ok_some he
  exact ⟨rfl, _, _, (leads_ren [(900, 2), (901, 6900)] (l := [(2, .c (.ptr 900 0))]) (st' := [(900, .rc [.own 901, .int .i64 (c__0, c__1).2]), (901, .sl 93 (.pair (.int .i64) (.int .i64)) r1_ .shallow)]) rfl rfl ⟨⟨⟨rfl, rfl⟩, rfl, trivial⟩, ⟨rfl, rfl⟩, trivial⟩ ⟨⟨⟨rfl, rfl⟩, rfl⟩, trivial⟩), he⟩

noncomputable def c_impl_ownAll : Con := fun args st => match args, st with
  | [.c (.imm (.pair (.sl (.pair (.int .i64) (.int .i64))) (.int .i64)) list_)], [] => .opt ((List ((List (Int × Int)) × Int))) (impl_ownAll list_) (fun r => .ret (.c (.own 900)) [(900, .sl 81 (.pair (.sl (.pair (.int .i64) (.int .i64))) (.int .i64)) r (.deep true .no))])
  | _, _ => .fail

noncomputable def C_impl_ownAll : Cfg := { y := tys, n := 19, h := 0, tab := [(112, c_impl_Constraint_own)], cut := [], hand := [], good := [], deep := [15], sched := [] }

theorem t_impl_ownAll : TabOk Try.prog C_impl_ownAll := by
  refine tabOk_of ?_
  simp only [C_impl_ownAll, List.forall_mem_cons]
  exact ⟨k_impl_Constraint_own, fun p h => by cases h⟩

theorem k_impl_ownAll : Entry Try.prog 85 c_impl_ownAll := by
  refine entry_by (C := C_impl_ownAll) mixed tys_ok t_impl_ownAll (fn := Try.f85) (c := bd Try.f85) (by kernel_rfl) (by kernel_rfl) (by kernel_rfl) (by kernel_rfl) ?_
  intro args st k he
  unfold c_impl_ownAll at he
  split at he
  rotate_left
  · exact he.elim
  rename_i list_
  have he : Ok (impl_ownAll list_) (fun r => k (.c (.own 900)) [(900, .sl 81 (.pair (.sl (.pair (.int .i64) (.int .i64))) (.int .i64)) r (.deep true .no))]) := he
  refine ⟨rfl, rfl, ?_⟩
  refine loop_model mixed tys_ok t_impl_ownAll (S := Int × (List ((List (Int × Int)) × Int))) (I := (fun (i, out) => (envOf [(3, .c (.own 10000000)), (6, .c (.imm (.pair (.sl (.pair (.int .i64) (.int .i64))) (.int .i64)) list_)), (7, .c (.int .i64 (list_.length:Int))), (8, .c (.int .i64 i))], [(10000000, .sl 81 (.pair (.sl (.pair (.int .i64) (.int .i64))) (.int .i64)) out (.deep true .no))]))) (f := impl_ownAll_l1 list_) (K := (fun r => k (.c (.own 900)) [(900, .sl 81 (.pair (.sl (.pair (.int .i64) (.int .i64))) (.int .i64)) r (.deep true .no))])) he (leads_ren [] (l := [(3, .c (.own 10000000)), (6, .c (.imm (.pair (.sl (.pair (.int .i64) (.int .i64))) (.int .i64)) list_)), (7, .c (.int .i64 (list_.length:Int))), (8, .c (.int .i64 (0:Int)))]) (st' := [(10000000, .sl 81 (.pair (.sl (.pair (.int .i64) (.int .i64))) (.int .i64)) ([] : List ((List (Int × Int)) × Int)) (.deep true .no))]) rfl rfl ⟨trivial, trivial⟩ ⟨⟨rfl, trivial⟩, .inl rfl, rfl, rfl, trivial⟩) ?_
  rintro ⟨i, out⟩ J1 he
  refine And.intro (fun hb => ?_) (fun hb => ?_)
  · have he := ok_t he hb
    have he := ok_rq he
    refine And.intro he.1 ?_
    have he := he.2
    obtain ⟨r2_, hr, he⟩ := ok_bind he
    refine ⟨r2_, hr, ?_⟩
    have he := ok_rq he
    refine And.intro he.1 ?_
    have he := he.2
    have he := ok_rq he
    refine And.intro he.1 ?_
    have he := he.2
    have he := ok_some he
    exact ⟨((i + (1:Int)), (out ++ [(r2_.2, r2_.1)])), he, (leads_ren [(10000000, 16)] (l := [(3, .c (.own 10000000)), (6, .c (.imm (.pair (.sl (.pair (.int .i64) (.int .i64))) (.int .i64)) list_)), (7, .c (.int .i64 (list_.length:Int))), (8, .c (.int .i64 (i + (1:Int))))]) (st' := [(10000000, .sl 81 (.pair (.sl (.pair (.int .i64) (.int .i64))) (.int .i64)) (out ++ [(r2_.2, r2_.1)]) (.deep true .no))]) rfl rfl ⟨⟨rfl, rfl⟩, trivial⟩ ⟨⟨rfl, rfl⟩, .inl rfl, rfl, rfl, trivial⟩)⟩
  · have he := ok_f he hb
    have he := ok_some he
    exact ⟨rfl, _, _, (leads_ren [(900, 10000000)] (l := [(2, .c (.own 900))]) (st' := [(900, .sl 81 (.pair (.sl (.pair (.int .i64) (.int .i64))) (.int .i64)) out (.deep true .no))]) rfl rfl ⟨⟨rfl, rfl⟩, trivial⟩ ⟨⟨rfl, rfl⟩, trivial⟩), he⟩

noncomputable def c_impl_SubProblem : Con := fun args st => match args, st with
  | [.c (.imm (.pair (.sl (.pair (.int .i64) (.int .i64))) (.int .i64)) list_), .c (.imm (.int .i64) keep)], [] => .opt (Bool × (List ((List (Int × Int)) × Int))) (impl_SubProblem list_ keep) (fun r => .ret (.tup [.c (.own 900), .c (.bool r.1)]) [(900, .sl 81 (.pair (.sl (.pair (.int .i64) (.int .i64))) (.int .i64)) r.2 (.deep true .no))])
  | _, _ => .fail

noncomputable def C_impl_SubProblem : Cfg := { y := tys, n := 20, h := 0, tab := [(53, c_impl_ProblemValid), (84, c_impl_isPart), (85, c_impl_ownAll), (86, c_impl_partOf)], cut := [], hand := [], good := [], deep := [], sched := [] }

theorem t_impl_SubProblem : TabOk Try.prog C_impl_SubProblem := by
  refine tabOk_of ?_
  simp only [C_impl_SubProblem, List.forall_mem_cons]
  exact ⟨k_impl_ProblemValid, k_impl_isPart, k_impl_ownAll, k_impl_partOf, fun p h => by cases h⟩

theorem k_impl_SubProblem : Entry Try.prog 42 c_impl_SubProblem := by
  refine entry_by (C := C_impl_SubProblem) mixed tys_ok t_impl_SubProblem (fn := Try.f42) (c := bd Try.f42) (by kernel_rfl) (by kernel_rfl) (by kernel_rfl) (by kernel_rfl) ?_
  intro args st k he
  unfold c_impl_SubProblem at he
  split at he
  rotate_left
  · exact he.elim
  rename_i list_ keep
  have he : Ok (impl_SubProblem list_ keep) (fun r => k (.tup [.c (.own 900), .c (.bool r.1)]) [(900, .sl 81 (.pair (.sl (.pair (.int .i64) (.int .i64))) (.int .i64)) r.2 (.deep true .no))]) := he
  refine ⟨rfl, rfl, ?_⟩
  obtain ⟨r1_, hr, he⟩ := ok_bind he
  refine ⟨r1_, hr, ?_⟩
  refine And.intro (fun hb => ?_) (fun hb => ?_)
  · have he := ok_f he hb
    obtain ⟨r2_, hr, he⟩ := ok_bind he
    refine ⟨r2_, hr, ?_⟩
    refine And.intro (fun hb => ?_) (fun hb => ?_)
    · have he := ok_t he hb
      have he := ok_some he
      exact ⟨rfl, _, _, (leads_ren [] (l := [(4, .c (.own 900)), (5, .c (.bool false))]) (st' := [(900, .sl 81 (.pair (.sl (.pair (.int .i64) (.int .i64))) (.int .i64)) ([] : List ((List (Int × Int)) × Int)) (.deep true .no))]) rfl rfl ⟨trivial, trivial⟩ ⟨⟨rfl, trivial⟩, .inr rfl, trivial⟩), he⟩
    · have he := ok_f he hb
      obtain ⟨r3_, hr, he⟩ := ok_bind he
      refine ⟨r3_, hr, ?_⟩
      obtain ⟨r4_, hr, he⟩ := ok_bind he
      refine ⟨r4_, hr, ?_⟩
      have he := ok_some he
      exact ⟨rfl, _, _, (leads_ren [(900, 20900)] (l := [(4, .c (.own 900)), (5, .c (.bool true))]) (st' := [(900, .sl 81 (.pair (.sl (.pair (.int .i64) (.int .i64))) (.int .i64)) r4_ (.deep true .no))]) rfl rfl ⟨⟨rfl, rfl⟩, trivial⟩ ⟨⟨rfl, rfl⟩, .inr rfl, trivial⟩), he⟩
  · have he := ok_t he hb
    have he := ok_some he
    exact ⟨rfl, _, _, (leads_ren [] (l := [(4, .c (.own 900)), (5, .c (.bool false))]) (st' := [(900, .sl 81 (.pair (.sl (.pair (.int .i64) (.int .i64))) (.int .i64)) ([] : List ((List (Int × Int)) × Int)) (.deep true .no))]) rfl rfl ⟨trivial, trivial⟩ ⟨⟨rfl, trivial⟩, .inr rfl, trivial⟩), he⟩

noncomputable def c_laws_markTermS : Con := fun args st => match args, st with
  | [.c (.own 0), .c (.int .i64 k_)], [(0, .sl 0 (.pair (.int .i64) (.int .i64)) a (.deep false .no))] => .opt (Int × (List (Int × Int))) (laws_markTermS k_ a) (fun r => .ret (.c (.int .i64 r.1)) [(0, .sl 0 (.pair (.int .i64) (.int .i64)) r.2 (.deep false .no))])
  | _, _ => .fail

noncomputable def C_laws_markTermS : Cfg := { y := tys, n := 27, h := 1, tab := [], cut := [], hand := [], good := [], deep := [], sched := [] }

theorem t_laws_markTermS : TabOk Try.prog C_laws_markTermS := tabOk_of (fun p h => by cases h)

theorem k_laws_markTermS : Entry Try.prog 91 c_laws_markTermS := by
  refine entry_by (C := C_laws_markTermS) mixed tys_ok t_laws_markTermS (fn := Try.f91) (c := bd Try.f91) (by kernel_rfl) (by kernel_rfl) (by kernel_rfl) (by kernel_rfl) ?_
  intro args st k he
  unfold c_laws_markTermS at he
  split at he
  rotate_left
  · exact he.elim
  rename_i k_ a
  have he : Ok (laws_markTermS k_ a) (fun r => k (.c (.int .i64 r.1)) [(0, .sl 0 (.pair (.int .i64) (.int .i64)) r.2 (.deep false .no))]) := he
  refine ⟨rfl, rfl, ?_⟩
  refine loop_model mixed tys_ok t_laws_markTermS (S := Int × Int × (List (Int × Int))) (I := (fun (k_1, i, a1) => (envOf [(0, .c (.own 0)), (1, .c (.int .i64 k_1)), (5, .c (.int .i64 i))], [(0, .sl 0 (.pair (.int .i64) (.int .i64)) a1 (.deep false .no))]))) (f := laws_markTermS_l1) (K := (fun r => k (.c (.int .i64 r.1)) [(0, .sl 0 (.pair (.int .i64) (.int .i64)) r.2 (.deep false .no))])) he (leads_ren [] (l := [(0, .c (.own 0)), (1, .c (.int .i64 k_)), (5, .c (.int .i64 (0:Int)))]) (st' := [(0, .sl 0 (.pair (.int .i64) (.int .i64)) a (.deep false .no))]) rfl rfl ⟨⟨rfl, rfl⟩, trivial⟩ ⟨⟨rfl, rfl⟩, rfl, rfl, trivial⟩) ?_
  rintro ⟨k_1, i, a1⟩ J1 he
  refine And.intro (fun hb => ?_) (fun hb => ?_)
  · have he := ok_t he hb
    have he := ok_rq he
    refine And.intro he.1 ?_
    have he := he.2
    have he := ok_rq he
    refine And.intro he.1 ?_
    have he := he.2
    have he := ok_rq he
    refine And.intro he.1 ?_
    have he := he.2
    have he := ok_rq he
    refine And.intro he.1 ?_
    have he := he.2
    have he := ok_rq he
    refine And.intro he.1 ?_
    have he := he.2
    have he := ok_some he
    exact ⟨(((k_1 + (1:Int)) + (1:Int)), (i + (1:Int)), ((a1.set i.toNat (k_1, (a1.getD i.toNat (0, 0)).2)).set i.toNat (((a1.set i.toNat (k_1, (a1.getD i.toNat (0, 0)).2)).getD i.toNat (0, 0)).1, (k_1 + (1:Int))))), he, (leads_ren [] (l := [(0, .c (.own 0)), (1, .c (.int .i64 ((k_1 + (1:Int)) + (1:Int)))), (5, .c (.int .i64 (i + (1:Int))))]) (st' := [(0, .sl 0 (.pair (.int .i64) (.int .i64)) ((a1.set i.toNat (k_1, (a1.getD i.toNat (0, 0)).2)).set i.toNat (((a1.set i.toNat (k_1, (a1.getD i.toNat (0, 0)).2)).getD i.toNat (0, 0)).1, (k_1 + (1:Int)))) (.deep false .no))]) rfl rfl ⟨⟨rfl, rfl⟩, trivial⟩ ⟨⟨rfl, rfl⟩, rfl, rfl, trivial⟩)⟩
  · have he := ok_f he hb
    have he := ok_some he
    exact ⟨rfl, _, _, (leads_ren [] (l := [(4, .c (.int .i64 k_1))]) (st' := [(0, .sl 0 (.pair (.int .i64) (.int .i64)) a1 (.deep false .no))]) rfl rfl ⟨⟨rfl, rfl⟩, trivial⟩ ⟨rfl, trivial⟩), he⟩

noncomputable def c_laws_markConstraintS : Con := fun args st => match args, st with
  | [.c (.own 0), .c (.int .i64 k_)], [(0, .sl 81 (.pair (.sl (.pair (.int .i64) (.int .i64))) (.int .i64)) a (.deep true .no))] => .opt (Int × (List ((List (Int × Int)) × Int))) (laws_markConstraintS k_ a) (fun r => .ret (.c (.int .i64 r.1)) [(0, .sl 81 (.pair (.sl (.pair (.int .i64) (.int .i64))) (.int .i64)) r.2 (.deep true .no))])
  | _, _ => .fail

noncomputable def C_laws_markConstraintS : Cfg := { y := tys, n := 27, h := 1, tab := [(91, c_laws_markTermS)], cut := [], hand := [(91, [0])], good := [], deep := [], sched := [] }

theorem t_laws_markConstraintS : TabOk Try.prog C_laws_markConstraintS := by
  refine tabOk_of ?_
  simp only [C_laws_markConstraintS, List.forall_mem_cons]
  exact ⟨k_laws_markTermS, fun p h => by cases h⟩

theorem k_laws_markConstraintS : Entry Try.prog 46 c_laws_markConstraintS := by
  refine entry_by (C := C_laws_markConstraintS) mixed tys_ok t_laws_markConstraintS (fn := Try.f46) (c := bd Try.f46) (by kernel_rfl) (by kernel_rfl) (by kernel_rfl) (by kernel_rfl) ?_
  intro args st k he
  unfold c_laws_markConstraintS at he
  split at he
  rotate_left
  · exact he.elim
  rename_i k_ a
  have he : Ok (laws_markConstraintS k_ a) (fun r => k (.c (.int .i64 r.1)) [(0, .sl 81 (.pair (.sl (.pair (.int .i64) (.int .i64))) (.int .i64)) r.2 (.deep true .no))]) := he
  refine ⟨rfl, rfl, ?_⟩
  refine loop_model mixed tys_ok t_laws_markConstraintS (S := Int × Int × (List ((List (Int × Int)) × Int))) (I := (fun (k_1, i, a1) => (envOf [(0, .c (.own 0)), (1, .c (.int .i64 k_1)), (5, .c (.int .i64 i))], [(0, .sl 81 (.pair (.sl (.pair (.int .i64) (.int .i64))) (.int .i64)) a1 (.deep true .no))]))) (f := laws_markConstraintS_l1) (K := (fun r => k (.c (.int .i64 r.1)) [(0, .sl 81 (.pair (.sl (.pair (.int .i64) (.int .i64))) (.int .i64)) r.2 (.deep true .no))])) he (leads_ren [] (l := [(0, .c (.own 0)), (1, .c (.int .i64 k_)), (5, .c (.int .i64 (0:Int)))]) (st' := [(0, .sl 81 (.pair (.sl (.pair (.int .i64) (.int .i64))) (.int .i64)) a (.deep true .no))]) rfl rfl ⟨⟨rfl, rfl⟩, trivial⟩ ⟨⟨rfl, rfl⟩, rfl, rfl, trivial⟩) ?_
  rintro ⟨k_1, i, a1⟩ J1 he
  refine And.intro (fun hb => ?_) (fun hb => ?_)
  · have he := ok_t he hb
    have he := ok_rq he
    refine And.intro he.1 ?_
    have he := he.2
    obtain ⟨r2_, hr, he⟩ := ok_bind he
    refine ⟨r2_, hr, ?_⟩
    have he := ok_rq he
    refine And.intro he.1 ?_
    have he := he.2
    have he := ok_rq he
    refine And.intro he.1 ?_
    have he := he.2
    have he := ok_rq he
    refine And.intro he.1 ?_
    have he := he.2
    have he := ok_some he
    exact ⟨((r2_.1 + (1:Int)), (i + (1:Int)), ((a1.set i.toNat ((a1.getD i.toNat ([], 0)).1, r2_.1)).set i.toNat (r2_.2, ((a1.set i.toNat ((a1.getD i.toNat ([], 0)).1, r2_.1)).getD i.toNat ([], 0)).2))), he, ((leads_close [0] rfl).trans (leads_ren [] (l := [(0, .c (.own 0)), (1, .c (.int .i64 (r2_.1 + (1:Int)))), (5, .c (.int .i64 (i + (1:Int))))]) (st' := [(0, .sl 81 (.pair (.sl (.pair (.int .i64) (.int .i64))) (.int .i64)) ((a1.set i.toNat ((a1.getD i.toNat ([], 0)).1, r2_.1)).set i.toNat (r2_.2, ((a1.set i.toNat ((a1.getD i.toNat ([], 0)).1, r2_.1)).getD i.toNat ([], 0)).2)) (.deep true .no))]) rfl rfl ⟨⟨rfl, rfl⟩, trivial⟩ ⟨⟨rfl, rfl⟩, rfl, rfl, trivial⟩))⟩
  · have he := ok_f he hb
    have he := ok_some he
    exact ⟨rfl, _, _, (leads_ren [] (l := [(4, .c (.int .i64 k_1))]) (st' := [(0, .sl 81 (.pair (.sl (.pair (.int .i64) (.int .i64))) (.int .i64)) a1 (.deep true .no))]) rfl rfl ⟨⟨rfl, rfl⟩, trivial⟩ ⟨rfl, trivial⟩), he⟩

noncomputable def c_laws_heldTermS : Con := fun args st => match args, st with
  | [.c (.imm (.pair (.int .i64) (.int .i64)) a), .c (.int .i64 k_)], [] => .opt (Int) (laws_heldTermS a k_) (fun r => .ret (.c (.int .i64 r)) [])
  | _, _ => .fail

noncomputable def C_laws_heldTermS : Cfg := { y := tys, n := 31, h := 0, tab := [], cut := [], hand := [], good := [], deep := [], sched := [] }

theorem t_laws_heldTermS : TabOk Try.prog C_laws_heldTermS := tabOk_of (fun p h => by cases h)

theorem k_laws_heldTermS : Entry Try.prog 92 c_laws_heldTermS := by
  refine entry_by (C := C_laws_heldTermS) mixed tys_ok t_laws_heldTermS (fn := Try.f92) (c := bd Try.f92) (by kernel_rfl) (by kernel_rfl) (by kernel_rfl) (by kernel_rfl) ?_
  intro args st k he
  unfold c_laws_heldTermS at he
  split at he
  rotate_left
  · exact he.elim
  rename_i a k_
  have he : Ok (laws_heldTermS a k_) (fun r => k (.c (.int .i64 r)) []) := he
  refine ⟨rfl, rfl, ?_⟩
  refine loop_model mixed tys_ok t_laws_heldTermS (S := Int × Int) (I := (fun (k_1, i) => (envOf [(0, .c (.imm (.pair (.int .i64) (.int .i64)) a)), (1, .c (.int .i64 k_1)), (5, .c (.int .i64 i))], []))) (f := laws_heldTermS_l1 a) (K := (fun r => k (.c (.int .i64 r)) [])) he (leads_ren [] (l := [(0, .c (.imm (.pair (.int .i64) (.int .i64)) a)), (1, .c (.int .i64 k_)), (5, .c (.int .i64 (0:Int)))]) (st' := []) rfl rfl trivial ⟨.inl rfl, rfl, rfl, trivial⟩) ?_
  rintro ⟨k_1, i⟩ J1 he
  refine And.intro (fun hb => ?_) (fun hb => ?_)
  · have he := ok_t he hb
    have he := ok_rq he
    refine And.intro he.1 ?_
    have he := he.2
    refine And.intro (fun hb => ?_) (fun hb => ?_)
    · have he := ok_t he hb
      have he := ok_some he
      exact ⟨rfl, _, _, Leads.refl _ _, he⟩
    · have he := ok_f he hb
      have he := ok_rq he
      refine And.intro he.1 ?_
      have he := he.2
      have he := ok_rq he
      refine And.intro he.1 ?_
      have he := he.2
      refine And.intro (fun hb => ?_) (fun hb => ?_)
      · have he := ok_t he hb
        have he := ok_some he
        exact ⟨rfl, _, _, Leads.refl _ _, he⟩
      · have he := ok_f he hb
        have he := ok_rq he
        refine And.intro he.1 ?_
        have he := he.2
        have he := ok_rq he
        refine And.intro he.1 ?_
        have he := he.2
        have he := ok_some he
        exact ⟨(((k_1 + (1:Int)) + (1:Int)), (i + (1:Int))), he, (leads_ren [] (l := [(0, .c (.imm (.pair (.int .i64) (.int .i64)) a)), (1, .c (.int .i64 ((k_1 + (1:Int)) + (1:Int)))), (5, .c (.int .i64 (i + (1:Int))))]) (st' := []) rfl rfl trivial ⟨.inl rfl, rfl, rfl, trivial⟩)⟩
  · have he := ok_f he hb
    have he := ok_some he
    exact ⟨rfl, _, _, Leads.refl _ _, he⟩

noncomputable def c_laws_heldConstraintS : Con := fun args st => match args, st with
  | [.c (.imm (.pair (.sl (.pair (.int .i64) (.int .i64))) (.int .i64)) a), .c (.int .i64 k_)], [] => .opt (Int) (laws_heldConstraintS a k_) (fun r => .ret (.c (.int .i64 r)) [])
  | _, _ => .fail

noncomputable def C_laws_heldConstraintS : Cfg := { y := tys, n := 31, h := 0, tab := [(92, c_laws_heldTermS)], cut := [], hand := [], good := [], deep := [], sched := [] }

theorem t_laws_heldConstraintS : TabOk Try.prog C_laws_heldConstraintS := by
  refine tabOk_of ?_
  simp only [C_laws_heldConstraintS, List.forall_mem_cons]
  exact ⟨k_laws_heldTermS, fun p h => by cases h⟩

theorem k_laws_heldConstraintS : Entry Try.prog 47 c_laws_heldConstraintS := by
  refine entry_by (C := C_laws_heldConstraintS) mixed tys_ok t_laws_heldConstraintS (fn := Try.f47) (c := bd Try.f47) (by kernel_rfl) (by kernel_rfl) (by kernel_rfl) (by kernel_rfl) ?_
  intro args st k he
  unfold c_laws_heldConstraintS at he
  split at he
  rotate_left
  · exact he.elim
  rename_i a k_
  have he : Ok (laws_heldConstraintS a k_) (fun r => k (.c (.int .i64 r)) []) := he
  refine ⟨rfl, rfl, ?_⟩
  refine loop_model mixed tys_ok t_laws_heldConstraintS (S := Int × Int) (I := (fun (k_1, i) => (envOf [(0, .c (.imm (.pair (.sl (.pair (.int .i64) (.int .i64))) (.int .i64)) a)), (1, .c (.int .i64 k_1)), (5, .c (.int .i64 i))], []))) (f := laws_heldConstraintS_l1 a) (K := (fun r => k (.c (.int .i64 r)) [])) he (leads_ren [] (l := [(0, .c (.imm (.pair (.sl (.pair (.int .i64) (.int .i64))) (.int .i64)) a)), (1, .c (.int .i64 k_)), (5, .c (.int .i64 (0:Int)))]) (st' := []) rfl rfl trivial ⟨.inl rfl, rfl, rfl, trivial⟩) ?_
  rintro ⟨k_1, i⟩ J1 he
  refine And.intro (fun hb => ?_) (fun hb => ?_)
  · have he := ok_t he hb
    have he := ok_rq he
    refine And.intro he.1 ?_
    have he := he.2
    obtain ⟨r1_, hr, he⟩ := ok_bind he
    refine ⟨r1_, hr, ?_⟩
    refine And.intro (fun hb => ?_) (fun hb => ?_)
    · have he := ok_t he hb
      have he := ok_some he
      exact ⟨rfl, _, _, Leads.refl _ _, he⟩
    · have he := ok_f he hb
      have he := ok_rq he
      refine And.intro he.1 ?_
      have he := he.2
      refine And.intro (fun hb => ?_) (fun hb => ?_)
      · have he := ok_t he hb
        have he := ok_some he
        exact ⟨rfl, _, _, Leads.refl _ _, he⟩
      · have he := ok_f he hb
        have he := ok_rq he
        refine And.intro he.1 ?_
        have he := he.2
        have he := ok_rq he
        refine And.intro he.1 ?_
        have he := he.2
        have he := ok_some he
        exact ⟨((r1_ + (1:Int)), (i + (1:Int))), he, (leads_ren [] (l := [(0, .c (.imm (.pair (.sl (.pair (.int .i64) (.int .i64))) (.int .i64)) a)), (1, .c (.int .i64 (r1_ + (1:Int)))), (5, .c (.int .i64 (i + (1:Int))))]) (st' := []) rfl rfl trivial ⟨.inl rfl, rfl, rfl, trivial⟩)⟩
  · have he := ok_f he hb
    have he := ok_some he
    exact ⟨rfl, _, _, Leads.refl _ _, he⟩

noncomputable def c_laws_FnExactSubProblem : Con := fun args st => match args, st with
  | [.c (.imm (.pair (.sl (.pair (.int .i64) (.int .i64))) (.int .i64)) a0), .c (.imm (.int .i64) a1)], [] => .opt (Bool) (laws_FnExactSubProblem a0 a1) (fun r => .ret (.c (.bool r)) [])
  | _, _ => .fail

noncomputable def C_laws_FnExactSubProblem : Cfg := { y := tys, n := 117, h := 0, tab := [(16, c_laws_toIntS), (19, c_laws_eqIntS), (24, c_laws_markIntS), (34, c_laws_szConstraintS), (35, c_laws_toConstraintS), (36, c_laws_eqConstraintS), (42, c_impl_SubProblem), (43, c_spec_SubProblem), (46, c_laws_markConstraintS), (47, c_laws_heldConstraintS)], cut := [], hand := [(24, [0]), (46, [0])], good := [], deep := [], sched := [] }

theorem t_laws_FnExactSubProblem : TabOk Try.prog C_laws_FnExactSubProblem := by
  refine tabOk_of ?_
  simp only [C_laws_FnExactSubProblem, List.forall_mem_cons]
  exact ⟨k_laws_toIntS, k_laws_eqIntS, k_laws_markIntS, k_laws_szConstraintS, k_laws_toConstraintS, k_laws_eqConstraintS, k_impl_SubProblem, k_spec_SubProblem, k_laws_markConstraintS, k_laws_heldConstraintS, fun p h => by cases h⟩

theorem k_laws_FnExactSubProblem : Entry Try.prog 11 c_laws_FnExactSubProblem := by
  refine entry_by (C := C_laws_FnExactSubProblem) mixed tys_ok t_laws_FnExactSubProblem (fn := Try.f11) (c := bd Try.f11) (by kernel_rfl) (by kernel_rfl) (by kernel_rfl) (by kernel_rfl) ?_
  intro args st k he
  unfold c_laws_FnExactSubProblem at he
  split at he
  rotate_left
  · exact he.elim
  rename_i a0 a1
  have he : Ok (laws_FnExactSubProblem a0 a1) (fun r => k (.c (.bool r)) []) := he
  refine ⟨rfl, rfl, ?_⟩
  refine And.intro (fun hb => ?_) (fun hb => ?_)
  · have he := ok_t he hb
    have he := ok_some he
    exact ⟨rfl, _, _, Leads.refl _ _, he⟩
  · have he := ok_f he hb
    obtain ⟨r1_, hr, he⟩ := ok_bind he
    refine ⟨r1_, hr, ?_⟩
    refine And.intro (fun hb => ?_) (fun hb => ?_)
    · have he := ok_t he hb
      have he := ok_some he
      exact ⟨rfl, _, _, Leads.refl _ _, he⟩
    · have he := ok_f he hb
      obtain ⟨r2_, hr, he⟩ := ok_bind he
      refine ⟨r2_, hr, ?_⟩
      obtain ⟨r3_, hr, he⟩ := ok_bind he
      refine ⟨r3_, hr, ?_⟩
      obtain ⟨r4_, hr, he⟩ := ok_bind he
      refine ⟨r4_, hr, ?_⟩
      obtain ⟨r5_, hr, he⟩ := ok_bind he
      refine ⟨r5_, hr, ?_⟩
      obtain ⟨r6_, hr, he⟩ := ok_bind he
      refine ⟨r6_, hr, ?_⟩
      obtain ⟨r7_, hr, he⟩ := ok_bind he
      refine ⟨r7_, hr, ?_⟩
      obtain ⟨r8_, hr, he⟩ := ok_bind he
      refine ⟨r8_, hr, ?_⟩
      refine And.intro (fun hb => ?_) (fun hb => ?_)
      · have he := ok_f he hb
        refine And.intro (fun hb => ?_) (fun hb => ?_)
        · have he := ok_t he hb
          have he := ok_some he
          exact ⟨rfl, _, _, (leads_ren [] (l := [(4, .c (.bool false))]) (st' := []) rfl rfl trivial ⟨.inr rfl, trivial⟩), he⟩
        · have he := ok_f he hb
          obtain ⟨r9_, hr, he⟩ := ok_bind he
          refine ⟨r9_, hr, ?_⟩
          obtain ⟨r10_, hr, he⟩ := ok_bind he
          refine ⟨r10_, hr, ?_⟩
          refine And.intro (fun hb => ?_) (fun hb => ?_)
          · have he := ok_t he hb
            have he := ok_some he
            exact ⟨rfl, _, _, (leads_ren [] (l := [(4, .c (.bool false))]) (st' := []) rfl rfl trivial ⟨.inr rfl, trivial⟩), he⟩
          · have he := ok_f he hb
            obtain ⟨r11_, hr, he⟩ := ok_bind he
            refine ⟨r11_, hr, ?_⟩
            obtain ⟨r12_, hr, he⟩ := ok_bind he
            refine ⟨r12_, hr, ?_⟩
            refine And.intro (fun hb => ?_) (fun hb => ?_)
            · have he := ok_t he hb
              have he := ok_some he
              exact ⟨rfl, _, _, (leads_ren [] (l := [(4, .c (.bool false))]) (st' := []) rfl rfl trivial ⟨.inr rfl, trivial⟩), he⟩
            · have he := ok_f he hb
              obtain ⟨r13_, hr, he⟩ := ok_bind he
              refine ⟨r13_, hr, ?_⟩
              obtain ⟨r14_, hr, he⟩ := ok_bind he
              refine ⟨r14_, hr, ?_⟩
              refine And.intro (fun hb => ?_) (fun hb => ?_)
              · have he := ok_f he hb
                obtain ⟨r15_, hr, he⟩ := ok_bind he
                refine ⟨r15_, hr, ?_⟩
                refine And.intro (fun hb => ?_) (fun hb => ?_)
                · have he := ok_f he hb
                  refine And.intro (fun hb => ?_) (fun hb => ?_)
                  · have he := ok_t he hb
                    have he := ok_some he
                    exact ⟨rfl, _, _, (leads_ren [] (l := [(4, .c (.bool false))]) (st' := []) rfl rfl trivial ⟨.inr rfl, trivial⟩), he⟩
                  · have he := ok_f he hb
                    obtain ⟨r16_, hr, he⟩ := ok_bind he
                    refine ⟨r16_, hr, ?_⟩
                    obtain ⟨r17_, hr, he⟩ := ok_bind he
                    refine ⟨r17_, hr, ?_⟩
                    refine And.intro (fun hb => ?_) (fun hb => ?_)
                    · have he := ok_t he hb
                      have he := ok_some he
                      exact ⟨rfl, _, _, (leads_ren [] (l := [(4, .c (.bool false))]) (st' := []) rfl rfl trivial ⟨.inr rfl, trivial⟩), he⟩
                    · have he := ok_f he hb
                      refine And.intro (fun hb => ?_) (fun hb => ?_)
                      · have he := ok_t he hb
                        have he := ok_some he
                        exact ⟨rfl, _, _, (leads_ren [] (l := [(4, .c (.bool false))]) (st' := []) rfl rfl trivial ⟨.inr rfl, trivial⟩), he⟩
                      · have he := ok_f he hb
                        obtain ⟨r18_, hr, he⟩ := ok_bind he
                        refine ⟨r18_, hr, ?_⟩
                        obtain ⟨r19_, hr, he⟩ := ok_bind he
                        refine ⟨r19_, hr, ?_⟩
                        obtain ⟨r20_, hr, he⟩ := ok_bind he
                        refine ⟨r20_, hr, ?_⟩
                        obtain ⟨r21_, hr, he⟩ := ok_bind he
                        refine ⟨r21_, hr, ?_⟩
                        refine And.intro (fun hb => ?_) (fun hb => ?_)
                        · have he := ok_f he hb
                          refine And.intro (fun hb => ?_) (fun hb => ?_)
                          · have he := ok_t he hb
                            have he := ok_some he
                            exact ⟨rfl, _, _, (leads_ren [] (l := [(4, .c (.bool false))]) (st' := []) rfl rfl trivial ⟨.inr rfl, trivial⟩), he⟩
                          · have he := ok_f he hb
                            obtain ⟨r22_, hr, he⟩ := ok_bind he
                            refine ⟨r22_, hr, ?_⟩
                            refine And.intro (fun hb => ?_) (fun hb => ?_)
                            · have he := ok_t he hb
                              have he := ok_some he
                              exact ⟨rfl, _, _, (leads_ren [] (l := [(4, .c (.bool false))]) (st' := []) rfl rfl trivial ⟨.inr rfl, trivial⟩), he⟩
                            · have he := ok_f he hb
                              refine And.intro (fun hb => ?_) (fun hb => ?_)
                              · have he := ok_t he hb
                                have he := ok_some he
                                exact ⟨rfl, _, _, (leads_ren [] (l := [(4, .c (.bool false))]) (st' := []) rfl rfl trivial ⟨.inr rfl, trivial⟩), he⟩
                              · have he := ok_f he hb
                                have he := ok_some he
                                exact ⟨rfl, _, _, (leads_ren [] (l := [(4, .c (.bool true))]) (st' := []) rfl rfl trivial ⟨.inr rfl, trivial⟩), he⟩
                        · have he := ok_t he hb
                          have he := ok_some he
                          exact ⟨rfl, _, _, (leads_ren [] (l := [(4, .c (.bool false))]) (st' := []) rfl rfl trivial ⟨.inr rfl, trivial⟩), he⟩
                · have he := ok_t he hb
                  have he := ok_some he
                  exact ⟨rfl, _, _, (leads_ren [] (l := [(4, .c (.bool false))]) (st' := []) rfl rfl trivial ⟨.inr rfl, trivial⟩), he⟩
              · have he := ok_t he hb
                have he := ok_some he
                exact ⟨rfl, _, _, (leads_ren [] (l := [(4, .c (.bool false))]) (st' := []) rfl rfl trivial ⟨.inr rfl, trivial⟩), he⟩
      · have he := ok_t he hb
        have he := ok_some he
        exact ⟨rfl, _, _, (leads_ren [] (l := [(4, .c (.bool false))]) (st' := []) rfl rfl trivial ⟨.inr rfl, trivial⟩), he⟩

noncomputable def c_spec_l12Under : Con := fun args st => match args, st with
  | [.c (.imm (.pair (.sl (.pair (.int .i64) (.int .i64))) (.int .i64)) list_), .c (.imm (.int .i64) cube)], [] => .opt ((List ((List (Int × Int)) × Int))) (spec_l12Under list_ cube) (fun r => .ret (.c (.own 900)) [(900, .sl 81 (.pair (.sl (.pair (.int .i64) (.int .i64))) (.int .i64)) r (.deep true .no))])
  | _, _ => .fail

noncomputable def C_spec_l12Under : Cfg := { y := tys, n := 40, h := 0, tab := [(113, c_spec_l1Copy)], cut := [6], hand := [], good := [], deep := [8, 21, 37], sched := [] }

theorem t_spec_l12Under : TabOk Try.prog C_spec_l12Under := by
  refine tabOk_of ?_
  simp only [C_spec_l12Under, List.forall_mem_cons]
  exact ⟨k_spec_l1Copy, fun p h => by cases h⟩

theorem k_spec_l12Under : Entry Try.prog 93 c_spec_l12Under := by
  refine entry_by (C := C_spec_l12Under) mixed tys_ok t_spec_l12Under (fn := Try.f93) (c := bd Try.f93) (by kernel_rfl) (by kernel_rfl) (by kernel_rfl) (by kernel_rfl) ?_
  intro args st k he
  unfold c_spec_l12Under at he
  split at he
  rotate_left
  · exact he.elim
  rename_i list_ cube
  have he : Ok (spec_l12Under list_ cube) (fun r => k (.c (.own 900)) [(900, .sl 81 (.pair (.sl (.pair (.int .i64) (.int .i64))) (.int .i64)) r (.deep true .no))]) := he
  refine ⟨rfl, rfl, ?_⟩
  refine seq_model mixed tys_ok t_spec_l12Under (S := (List ((List (Int × Int)) × Int))) (I := (fun out1 => (envOf [(1, .c (.imm (.int .i64) cube)), (5, .c (.own 10001000))], [(10001000, .sl 81 (.pair (.sl (.pair (.int .i64) (.int .i64))) (.int .i64)) out1 (.deep true .no))]))) (B := fun s => Ok (spec_l12Under_j1 cube s) (fun r => k (.c (.own 900)) [(900, .sl 81 (.pair (.sl (.pair (.int .i64) (.int .i64))) (.int .i64)) r (.deep true .no))])) ?_ ?_
  · rintro out1 he
    refine loop_model mixed tys_ok t_spec_l12Under (S := Int × (List ((List (Int × Int)) × Int))) (I := (fun (i1, out2) => (envOf [(1, .c (.imm (.int .i64) cube)), (5, .c (.own 10002000)), (7, .c (.int .i64 i1))], [(10002000, .sl 81 (.pair (.sl (.pair (.int .i64) (.int .i64))) (.int .i64)) out2 (.deep true .no))]))) (f := spec_l12Under_l1 cube) (K := (fun r => k (.c (.own 900)) [(900, .sl 81 (.pair (.sl (.pair (.int .i64) (.int .i64))) (.int .i64)) r (.deep true .no))])) he (leads_ren [(10002000, 10001000)] (l := [(1, .c (.imm (.int .i64) cube)), (5, .c (.own 10002000)), (7, .c (.int .i64 (0:Int)))]) (st' := [(10002000, .sl 81 (.pair (.sl (.pair (.int .i64) (.int .i64))) (.int .i64)) out1 (.deep true .no))]) rfl rfl ⟨⟨rfl, rfl⟩, trivial⟩ ⟨.inl rfl, ⟨rfl, rfl⟩, rfl, trivial⟩) ?_
    rintro ⟨i1, out2⟩ J1 he
    refine And.intro (fun hb => ?_) (fun hb => ?_)
    · have he := ok_t he hb
      have he := ok_rq he
      refine And.intro he.1 ?_
      have he := he.2
      have he := ok_rq he
      refine And.intro he.1 ?_
      have he := he.2
      have he := ok_rq he
      refine And.intro he.1 ?_
      have he := he.2
      have he := ok_some he
      exact ⟨((i1 + (1:Int)), (out2 ++ [([((1:Int), (cube.getD i1.toNat 0))], (1:Int))])), he, (leads_ren [(10002000, 38)] (l := [(1, .c (.imm (.int .i64) cube)), (5, .c (.own 10002000)), (7, .c (.int .i64 (i1 + (1:Int))))]) (st' := [(10002000, .sl 81 (.pair (.sl (.pair (.int .i64) (.int .i64))) (.int .i64)) (out2 ++ [([((1:Int), (cube.getD i1.toNat 0))], (1:Int))]) (.deep true .no))]) rfl rfl ⟨⟨rfl, rfl⟩, trivial⟩ ⟨.inl rfl, ⟨rfl, rfl⟩, rfl, trivial⟩)⟩
    · have he := ok_f he hb
      have he := ok_some he
      exact ⟨rfl, _, _, (leads_ren [(900, 10002000)] (l := [(4, .c (.own 900))]) (st' := [(900, .sl 81 (.pair (.sl (.pair (.int .i64) (.int .i64))) (.int .i64)) out2 (.deep true .no))]) rfl rfl ⟨⟨rfl, rfl⟩, trivial⟩ ⟨⟨rfl, rfl⟩, trivial⟩), he⟩
  · skip
    refine loop_model mixed tys_ok t_spec_l12Under (S := Int × (List ((List (Int × Int)) × Int))) (I := (fun (i, out) => (envOf [(0, .c (.imm (.pair (.sl (.pair (.int .i64) (.int .i64))) (.int .i64)) list_)), (1, .c (.imm (.int .i64) cube)), (5, .c (.own 10000000)), (6, .c (.int .i64 i))], [(10000000, .sl 81 (.pair (.sl (.pair (.int .i64) (.int .i64))) (.int .i64)) out (.deep true .no))]))) (f := spec_l12Under_l2 list_ cube) (K := (fun r => k (.c (.own 900)) [(900, .sl 81 (.pair (.sl (.pair (.int .i64) (.int .i64))) (.int .i64)) r (.deep true .no))])) he (leads_ren [(10000000, 8)] (l := [(0, .c (.imm (.pair (.sl (.pair (.int .i64) (.int .i64))) (.int .i64)) list_)), (1, .c (.imm (.int .i64) cube)), (5, .c (.own 10000000)), (6, .c (.int .i64 (0:Int)))]) (st' := [(10000000, .sl 81 (.pair (.sl (.pair (.int .i64) (.int .i64))) (.int .i64)) ([] : List ((List (Int × Int)) × Int)) (.deep true .no))]) rfl rfl ⟨⟨rfl, rfl⟩, trivial⟩ ⟨.inl rfl, .inl rfl, ⟨rfl, rfl⟩, rfl, trivial⟩) ?_
    rintro ⟨i, out⟩ J1 he
    refine And.intro (fun hb => ?_) (fun hb => ?_)
    · have he := ok_t he hb
      have he := ok_rq he
      refine And.intro he.1 ?_
      have he := he.2
      obtain ⟨r2_, hr, he⟩ := ok_bind he
      refine ⟨r2_, hr, ?_⟩
      have he := ok_rq he
      refine And.intro he.1 ?_
      have he := he.2
      have he := ok_rq he
      refine And.intro he.1 ?_
      have he := he.2
      have he := ok_some he
      exact ⟨((i + (1:Int)), (out ++ [(r2_.2, r2_.1)])), he, (leads_ren [(10000000, 22)] (l := [(0, .c (.imm (.pair (.sl (.pair (.int .i64) (.int .i64))) (.int .i64)) list_)), (1, .c (.imm (.int .i64) cube)), (5, .c (.own 10000000)), (6, .c (.int .i64 (i + (1:Int))))]) (st' := [(10000000, .sl 81 (.pair (.sl (.pair (.int .i64) (.int .i64))) (.int .i64)) (out ++ [(r2_.2, r2_.1)]) (.deep true .no))]) rfl rfl ⟨⟨rfl, rfl⟩, trivial⟩ ⟨.inl rfl, .inl rfl, ⟨rfl, rfl⟩, rfl, trivial⟩)⟩
    · have he := ok_f he hb
      exact ⟨out, ok_up he, (leads_ren [(10001000, 10000000)] (l := [(1, .c (.imm (.int .i64) cube)), (5, .c (.own 10001000))]) (st' := [(10001000, .sl 81 (.pair (.sl (.pair (.int .i64) (.int .i64))) (.int .i64)) out (.deep true .no))]) rfl rfl ⟨⟨rfl, rfl⟩, trivial⟩ ⟨.inl rfl, ⟨rfl, rfl⟩, trivial⟩)⟩

end Go.AE.Y
