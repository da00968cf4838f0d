/-
  Walks: each function keeps the contract that its model gives. No conditions.
-/
import Derived.Test.YtpeelmjecjbfjaaR4Tab
import Derived.Test.YtpeelmjecjbfjaaR4W2
import Derived.Test.YtpeelmjecjbfjaaR4S
namespace Go.AE.Y
open Go Go.AE Go.Proofs
set_option linter.unusedVariables false
set_option maxHeartbeats 2000000
set_option maxRecDepth 100000

noncomputable def c_laws_eqTerm : Con := fun args st => match args, st with
  | [.agg [.int .i64 a_0, .int .i64 a_1], .agg [.int .i64 b_0, .int .i64 b_1]], [] => .opt (Bool) (laws_eqTerm (a_0, a_1) (b_0, b_1)) (fun r => .ret (.c (.bool r)) [])
  | _, _ => .fail

noncomputable def C_laws_eqTerm : Cfg := { y := tys, n := 15, h := 0, tab := [], cut := [], hand := [], good := [], deep := [], sched := [] }

theorem t_laws_eqTerm : TabOk Try.prog C_laws_eqTerm := tabOk_of (fun p h => by cases h)

theorem k_laws_eqTerm : Entry Try.prog 210 c_laws_eqTerm := by
  refine entry_by (C := C_laws_eqTerm) mixed tys_ok t_laws_eqTerm (fn := Try.f210) (c := bd Try.f210) (by kernel_rfl) (by kernel_rfl) (by kernel_rfl) (by kernel_rfl) ?_
  intro args st k he
  unfold c_laws_eqTerm at he
  split at he
  rotate_left
  · exact he.elim
  rename_i a_0 a_1 b_0 b_1
  have he : Ok (laws_eqTerm (a_0, a_1) (b_0, b_1)) (fun r => k (.c (.bool r)) []) := he
  refine ⟨rfl, rfl, ?_⟩
  refine And.intro (fun hb => ?_) (fun hb => ?_)
  · have he := ok_t he hb
    have he := ok_some he
    exact ⟨rfl, _, _, (leads_ren [] (l := [(4, .c (.bool false))]) (st' := []) rfl rfl trivial ⟨.inr rfl, trivial⟩), he⟩
  · have he := ok_f he hb
    refine And.intro (fun hb => ?_) (fun hb => ?_)
    · have he := ok_t he hb
      have he := ok_some he
      exact ⟨rfl, _, _, (leads_ren [] (l := [(4, .c (.bool false))]) (st' := []) rfl rfl trivial ⟨.inr rfl, trivial⟩), he⟩
    · have he := ok_f he hb
      have he := ok_some he
      exact ⟨rfl, _, _, (leads_ren [] (l := [(4, .c (.bool true))]) (st' := []) rfl rfl trivial ⟨.inr rfl, trivial⟩), he⟩

noncomputable def c_laws_eqTermS : Con := fun args st => match args, st with
  | [.c (.imm (.pair (.int .i64) (.int .i64)) a), .c (.imm (.pair (.int .i64) (.int .i64)) b)], [] => .opt (Bool) (laws_eqTermS a b) (fun r => .ret (.c (.bool r)) [])
  | _, _ => .fail

noncomputable def C_laws_eqTermS : Cfg := { y := tys, n := 27, h := 0, tab := [(210, c_laws_eqTerm)], cut := [], hand := [], good := [], deep := [], sched := [(6, (.first 0 (.first 1 (.first 2 (.first 3 (.first 4 (.first 5 (.first 6 (.first 7 (.alt 8 (.first 9 .done) .stop))))))))))] }

theorem t_laws_eqTermS : TabOk Try.prog C_laws_eqTermS := by
  refine tabOk_of ?_
  simp only [C_laws_eqTermS, List.forall_mem_cons]
  exact ⟨k_laws_eqTerm, fun p h => by cases h⟩

theorem k_laws_eqTermS : Entry Try.prog 116 c_laws_eqTermS := by
  refine entry_by (C := C_laws_eqTermS) mixed tys_ok t_laws_eqTermS (fn := Try.f116) (c := bd Try.f116) (by kernel_rfl) (by kernel_rfl) (by kernel_rfl) (by kernel_rfl) ?_
  intro args st k he
  unfold c_laws_eqTermS at he
  split at he
  rotate_left
  · exact he.elim
  rename_i a b
  have he : Ok (laws_eqTermS a b) (fun r => k (.c (.bool r)) []) := he
  refine ⟨rfl, rfl, ?_⟩
  refine And.intro (fun hb => ?_) (fun hb => ?_)
  · have he := ok_t he hb
    have he := ok_some he
    exact ⟨rfl, _, _, Leads.refl _ _, he⟩
  · have he := ok_f he hb
    refine loop_model mixed tys_ok t_laws_eqTermS (S := Int) (I := (fun i => (envOf [(0, .c (.imm (.pair (.int .i64) (.int .i64)) a)), (1, .c (.imm (.pair (.int .i64) (.int .i64)) b)), (5, .c (.int .i64 i))], []))) (f := laws_eqTermS_l1 a b) (K := (fun r => k (.c (.bool r)) [])) he (leads_ren [] (l := [(0, .c (.imm (.pair (.int .i64) (.int .i64)) a)), (1, .c (.imm (.pair (.int .i64) (.int .i64)) b)), (5, .c (.int .i64 (0:Int)))]) (st' := []) rfl rfl trivial ⟨.inl rfl, .inl rfl, rfl, trivial⟩) ?_
    rintro i J1 he
    refine And.intro (fun hb => ?_) (fun hb => ?_)
    · have he := ok_t he hb
      refine And.intro (by kernel_rfl) ?_
      have he := ok_rq he
      refine And.intro he.1 ?_
      have he := he.2
      have he := ok_rq he
      refine And.intro he.1 ?_
      have he := he.2
      refine And.intro ?_ trivial
      obtain ⟨r2_, hr, he⟩ := ok_bind he
      refine ⟨r2_, hr, ?_⟩
      refine And.intro (fun hb => ?_) (fun hb => ?_)
      · have he := ok_t he hb
        have he := ok_some he
        exact ⟨rfl, _, _, Leads.refl _ _, he⟩
      · have he := ok_f he hb
        have he := ok_rq he
        refine And.intro he.1 ?_
        have he := he.2
        have he := ok_some he
        exact ⟨(i + (1:Int)), he, (leads_ren [] (l := [(0, .c (.imm (.pair (.int .i64) (.int .i64)) a)), (1, .c (.imm (.pair (.int .i64) (.int .i64)) b)), (5, .c (.int .i64 (i + (1:Int))))]) (st' := []) rfl rfl trivial ⟨.inl rfl, .inl rfl, rfl, trivial⟩)⟩
    · have he := ok_f he hb
      have he := ok_some he
      exact ⟨rfl, _, _, Leads.refl _ _, he⟩

noncomputable def c_laws_eqConstraint : Con := fun args st => match args, st with
  | [.agg [.imm (.pair (.int .i64) (.int .i64)) a_0, .int .i64 a_1], .agg [.imm (.pair (.int .i64) (.int .i64)) b_0, .int .i64 b_1]], [] => .opt (Bool) (laws_eqConstraint (a_0, a_1) (b_0, b_1)) (fun r => .ret (.c (.bool r)) [])
  | _, _ => .fail

noncomputable def C_laws_eqConstraint : Cfg := { y := tys, n := 16, h := 0, tab := [(116, c_laws_eqTermS)], cut := [], hand := [], good := [], deep := [], sched := [] }

theorem t_laws_eqConstraint : TabOk Try.prog C_laws_eqConstraint := by
  refine tabOk_of ?_
  simp only [C_laws_eqConstraint, List.forall_mem_cons]
  exact ⟨k_laws_eqTermS, fun p h => by cases h⟩

theorem k_laws_eqConstraint : Entry Try.prog 27 c_laws_eqConstraint := by
  refine entry_by (C := C_laws_eqConstraint) mixed tys_ok t_laws_eqConstraint (fn := Try.f27) (c := bd Try.f27) (by kernel_rfl) (by kernel_rfl) (by kernel_rfl) (by kernel_rfl) ?_
  intro args st k he
  unfold c_laws_eqConstraint at he
  split at he
  rotate_left
  · exact he.elim
  rename_i a_0 a_1 b_0 b_1
  have he : Ok (laws_eqConstraint (a_0, a_1) (b_0, b_1)) (fun r => k (.c (.bool r)) []) := he
  refine ⟨rfl, rfl, ?_⟩
  obtain ⟨r1_, hr, he⟩ := ok_bind he
  refine ⟨r1_, hr, ?_⟩
  refine And.intro (fun hb => ?_) (fun hb => ?_)
  · have he := ok_t he hb
    have he := ok_some he
    exact ⟨rfl, _, _, (leads_ren [] (l := [(4, .c (.bool false))]) (st' := []) rfl rfl trivial ⟨.inr rfl, trivial⟩), he⟩
  · have he := ok_f he hb
    refine And.intro (fun hb => ?_) (fun hb => ?_)
    · have he := ok_t he hb
      have he := ok_some he
      exact ⟨rfl, _, _, (leads_ren [] (l := [(4, .c (.bool false))]) (st' := []) rfl rfl trivial ⟨.inr rfl, trivial⟩), he⟩
    · have he := ok_f he hb
      have he := ok_some he
      exact ⟨rfl, _, _, (leads_ren [] (l := [(4, .c (.bool true))]) (st' := []) rfl rfl trivial ⟨.inr rfl, trivial⟩), he⟩

noncomputable def c_laws_eqStep : Con := fun args st => match args, st with
  | [.agg [.int .i64 a_0, .int .i64 a_1, .int .i64 a_2, .imm (.pair (.int .i64) (.int .i64)) a_3, .int .i64 a_4], .agg [.int .i64 b_0, .int .i64 b_1, .int .i64 b_2, .imm (.pair (.int .i64) (.int .i64)) b_3, .int .i64 b_4]], [] => .opt (Bool) (laws_eqStep (a_0, (a_1, (a_2, (a_3, a_4)))) (b_0, (b_1, (b_2, (b_3, b_4))))) (fun r => .ret (.c (.bool r)) [])
  | _, _ => .fail

noncomputable def C_laws_eqStep : Cfg := { y := tys, n := 26, h := 0, tab := [(27, c_laws_eqConstraint)], cut := [], hand := [], good := [], deep := [], sched := [] }

theorem t_laws_eqStep : TabOk Try.prog C_laws_eqStep := by
  refine tabOk_of ?_
  simp only [C_laws_eqStep, List.forall_mem_cons]
  exact ⟨k_laws_eqConstraint, fun p h => by cases h⟩

theorem k_laws_eqStep : Entry Try.prog 64 c_laws_eqStep := by
  refine entry_by (C := C_laws_eqStep) mixed tys_ok t_laws_eqStep (fn := Try.f64) (c := bd Try.f64) (by kernel_rfl) (by kernel_rfl) (by kernel_rfl) (by kernel_rfl) ?_
  intro args st k he
  unfold c_laws_eqStep at he
  split at he
  rotate_left
  · exact he.elim
  rename_i a_0 a_1 a_2 a_3 a_4 b_0 b_1 b_2 b_3 b_4
  have he : Ok (laws_eqStep (a_0, (a_1, (a_2, (a_3, a_4)))) (b_0, (b_1, (b_2, (b_3, b_4))))) (fun r => k (.c (.bool r)) []) := he
  refine ⟨rfl, rfl, ?_⟩
  refine And.intro (fun hb => ?_) (fun hb => ?_)
  · have he := ok_t he hb
    have he := ok_some he
    exact ⟨rfl, _, _, (leads_ren [] (l := [(4, .c (.bool false))]) (st' := []) rfl rfl trivial ⟨.inr rfl, trivial⟩), he⟩
  · have he := ok_f he hb
    refine And.intro (fun hb => ?_) (fun hb => ?_)
    · have he := ok_t he hb
      have he := ok_some he
      exact ⟨rfl, _, _, (leads_ren [] (l := [(4, .c (.bool false))]) (st' := []) rfl rfl trivial ⟨.inr rfl, trivial⟩), he⟩
    · have he := ok_f he hb
      refine And.intro (fun hb => ?_) (fun hb => ?_)
      · have he := ok_t he hb
        have he := ok_some he
        exact ⟨rfl, _, _, (leads_ren [] (l := [(4, .c (.bool false))]) (st' := []) rfl rfl trivial ⟨.inr rfl, trivial⟩), he⟩
      · have he := ok_f he hb
        obtain ⟨r1_, hr, he⟩ := ok_bind he
        refine ⟨r1_, hr, ?_⟩
        refine And.intro (fun hb => ?_) (fun hb => ?_)
        · have he := ok_t he hb
          have he := ok_some he
          exact ⟨rfl, _, _, (leads_ren [] (l := [(4, .c (.bool false))]) (st' := []) rfl rfl trivial ⟨.inr rfl, trivial⟩), he⟩
        · have he := ok_f he hb
          have he := ok_some he
          exact ⟨rfl, _, _, (leads_ren [] (l := [(4, .c (.bool true))]) (st' := []) rfl rfl trivial ⟨.inr rfl, trivial⟩), he⟩

noncomputable def c_laws_eqStepS : Con := fun args st => match args, st with
  | [.c (.imm (.pair (.int .i64) (.pair (.int .i64) (.pair (.int .i64) (.pair (.sl (.pair (.int .i64) (.int .i64))) (.int .i64))))) a), .c (.imm (.pair (.int .i64) (.pair (.int .i64) (.pair (.int .i64) (.pair (.sl (.pair (.int .i64) (.int .i64))) (.int .i64))))) b)], [] => .opt (Bool) (laws_eqStepS a b) (fun r => .ret (.c (.bool r)) [])
  | _, _ => .fail

noncomputable def C_laws_eqStepS : Cfg := { y := tys, n := 27, h := 0, tab := [(64, c_laws_eqStep)], cut := [], hand := [], good := [], deep := [], sched := [(6, (.first 0 (.first 1 (.first 2 (.first 3 (.first 4 (.first 5 (.first 6 (.first 7 (.alt 8 (.first 9 .done) .stop))))))))))] }

theorem t_laws_eqStepS : TabOk Try.prog C_laws_eqStepS := by
  refine tabOk_of ?_
  simp only [C_laws_eqStepS, List.forall_mem_cons]
  exact ⟨k_laws_eqStep, fun p h => by cases h⟩

theorem k_laws_eqStepS : Entry Try.prog 82 c_laws_eqStepS := by
  refine entry_by (C := C_laws_eqStepS) mixed tys_ok t_laws_eqStepS (fn := Try.f82) (c := bd Try.f82) (by kernel_rfl) (by kernel_rfl) (by kernel_rfl) (by kernel_rfl) ?_
  intro args st k he
  unfold c_laws_eqStepS at he
  split at he
  rotate_left
  · exact he.elim
  rename_i a b
  have he : Ok (laws_eqStepS a b) (fun r => k (.c (.bool r)) []) := he
  refine ⟨rfl, rfl, ?_⟩
  refine And.intro (fun hb => ?_) (fun hb => ?_)
  · have he := ok_t he hb
    have he := ok_some he
    exact ⟨rfl, _, _, Leads.refl _ _, he⟩
  · have he := ok_f he hb
    refine loop_model mixed tys_ok t_laws_eqStepS (S := Int) (I := (fun i => (envOf [(0, .c (.imm (.pair (.int .i64) (.pair (.int .i64) (.pair (.int .i64) (.pair (.sl (.pair (.int .i64) (.int .i64))) (.int .i64))))) a)), (1, .c (.imm (.pair (.int .i64) (.pair (.int .i64) (.pair (.int .i64) (.pair (.sl (.pair (.int .i64) (.int .i64))) (.int .i64))))) b)), (5, .c (.int .i64 i))], []))) (f := laws_eqStepS_l1 a b) (K := (fun r => k (.c (.bool r)) [])) he (leads_ren [] (l := [(0, .c (.imm (.pair (.int .i64) (.pair (.int .i64) (.pair (.int .i64) (.pair (.sl (.pair (.int .i64) (.int .i64))) (.int .i64))))) a)), (1, .c (.imm (.pair (.int .i64) (.pair (.int .i64) (.pair (.int .i64) (.pair (.sl (.pair (.int .i64) (.int .i64))) (.int .i64))))) b)), (5, .c (.int .i64 (0:Int)))]) (st' := []) rfl rfl trivial ⟨.inl rfl, .inl rfl, rfl, trivial⟩) ?_
    rintro i J1 he
    refine And.intro (fun hb => ?_) (fun hb => ?_)
    · have he := ok_t he hb
      refine And.intro (by kernel_rfl) ?_
      have he := ok_rq he
      refine And.intro he.1 ?_
      have he := he.2
      have he := ok_rq he
      refine And.intro he.1 ?_
      have he := he.2
      refine And.intro ?_ trivial
      obtain ⟨r2_, hr, he⟩ := ok_bind he
      refine ⟨r2_, hr, ?_⟩
      refine And.intro (fun hb => ?_) (fun hb => ?_)
      · have he := ok_t he hb
        have he := ok_some he
        exact ⟨rfl, _, _, Leads.refl _ _, he⟩
      · have he := ok_f he hb
        have he := ok_rq he
        refine And.intro he.1 ?_
        have he := he.2
        have he := ok_some he
        exact ⟨(i + (1:Int)), he, (leads_ren [] (l := [(0, .c (.imm (.pair (.int .i64) (.pair (.int .i64) (.pair (.int .i64) (.pair (.sl (.pair (.int .i64) (.int .i64))) (.int .i64))))) a)), (1, .c (.imm (.pair (.int .i64) (.pair (.int .i64) (.pair (.int .i64) (.pair (.sl (.pair (.int .i64) (.int .i64))) (.int .i64))))) b)), (5, .c (.int .i64 (i + (1:Int))))]) (st' := []) rfl rfl trivial ⟨.inl rfl, .inl rfl, rfl, trivial⟩)⟩
    · have he := ok_f he hb
      have he := ok_some he
      exact ⟨rfl, _, _, Leads.refl _ _, he⟩

noncomputable def c_laws_eqIntS : Con := fun args st => match args, st with
  | [.c (.imm (.int .i64) a), .c (.imm (.int .i64) b)], [] => .opt (Bool) (laws_eqIntS a b) (fun r => .ret (.c (.bool r)) [])
  | _, _ => .fail

noncomputable def C_laws_eqIntS : Cfg := { y := tys, n := 26, h := 0, tab := [], cut := [], hand := [], good := [], deep := [], sched := [] }

theorem t_laws_eqIntS : TabOk Try.prog C_laws_eqIntS := tabOk_of (fun p h => by cases h)

theorem k_laws_eqIntS : Entry Try.prog 29 c_laws_eqIntS := by
  refine entry_by (C := C_laws_eqIntS) mixed tys_ok t_laws_eqIntS (fn := Try.f29) (c := bd Try.f29) (by kernel_rfl) (by kernel_rfl) (by kernel_rfl) (by kernel_rfl) ?_
  intro args st k he
  unfold c_laws_eqIntS at he
  split at he
  rotate_left
  · exact he.elim
  rename_i a b
  have he : Ok (laws_eqIntS a b) (fun r => k (.c (.bool r)) []) := he
  refine ⟨rfl, rfl, ?_⟩
  refine And.intro (fun hb => ?_) (fun hb => ?_)
  · have he := ok_t he hb
    have he := ok_some he
    exact ⟨rfl, _, _, Leads.refl _ _, he⟩
  · have he := ok_f he hb
    refine loop_model mixed tys_ok t_laws_eqIntS (S := Int) (I := (fun i => (envOf [(0, .c (.imm (.int .i64) a)), (1, .c (.imm (.int .i64) b)), (5, .c (.int .i64 i))], []))) (f := laws_eqIntS_l1 a b) (K := (fun r => k (.c (.bool r)) [])) he (leads_ren [] (l := [(0, .c (.imm (.int .i64) a)), (1, .c (.imm (.int .i64) b)), (5, .c (.int .i64 (0:Int)))]) (st' := []) rfl rfl trivial ⟨.inl rfl, .inl rfl, rfl, trivial⟩) ?_
    rintro i J1 he
    refine And.intro (fun hb => ?_) (fun hb => ?_)
    · have he := ok_t he hb
      refine And.intro (by kernel_rfl) ?_
      have he := ok_rq he
      refine And.intro he.1 ?_
      have he := he.2
      have he := ok_rq he
      refine And.intro he.1 ?_
      have he := he.2
      refine And.intro (fun hb => ?_) (fun hb => ?_)
      · have he := ok_t he hb
        have he := ok_some he
        exact ⟨rfl, _, _, Leads.refl _ _, he⟩
      · have he := ok_f he hb
        have he := ok_rq he
        refine And.intro he.1 ?_
        have he := he.2
        have he := ok_some he
        exact ⟨(i + (1:Int)), he, (leads_ren [] (l := [(0, .c (.imm (.int .i64) a)), (1, .c (.imm (.int .i64) b)), (5, .c (.int .i64 (i + (1:Int))))]) (st' := []) rfl rfl trivial ⟨.inl rfl, .inl rfl, rfl, trivial⟩)⟩
    · have he := ok_f he hb
      have he := ok_some he
      exact ⟨rfl, _, _, Leads.refl _ _, he⟩

noncomputable def c_laws_eqStepSS : Con := fun args st => match args, st with
  | [.c (.imm (.sl (.pair (.int .i64) (.pair (.int .i64) (.pair (.int .i64) (.pair (.sl (.pair (.int .i64) (.int .i64))) (.int .i64)))))) a), .c (.imm (.sl (.pair (.int .i64) (.pair (.int .i64) (.pair (.int .i64) (.pair (.sl (.pair (.int .i64) (.int .i64))) (.int .i64)))))) b)], [] => .opt (Bool) (laws_eqStepSS a b) (fun r => .ret (.c (.bool r)) [])
  | _, _ => .fail

noncomputable def C_laws_eqStepSS : Cfg := { y := tys, n := 27, h := 0, tab := [(82, c_laws_eqStepS)], cut := [], hand := [], good := [], deep := [], sched := [(6, (.first 0 (.first 1 (.first 2 (.first 3 (.first 4 (.first 5 (.first 6 (.first 7 (.alt 8 (.first 9 .done) .stop))))))))))] }

theorem t_laws_eqStepSS : TabOk Try.prog C_laws_eqStepSS := by
  refine tabOk_of ?_
  simp only [C_laws_eqStepSS, List.forall_mem_cons]
  exact ⟨k_laws_eqStepS, fun p h => by cases h⟩

theorem k_laws_eqStepSS : Entry Try.prog 83 c_laws_eqStepSS := by
  refine entry_by (C := C_laws_eqStepSS) mixed tys_ok t_laws_eqStepSS (fn := Try.f83) (c := bd Try.f83) (by kernel_rfl) (by kernel_rfl) (by kernel_rfl) (by kernel_rfl) ?_
  intro args st k he
  unfold c_laws_eqStepSS at he
  split at he
  rotate_left
  · exact he.elim
  rename_i a b
  have he : Ok (laws_eqStepSS a b) (fun r => k (.c (.bool r)) []) := he
  refine ⟨rfl, rfl, ?_⟩
  refine And.intro (fun hb => ?_) (fun hb => ?_)
  · have he := ok_t he hb
    have he := ok_some he
    exact ⟨rfl, _, _, Leads.refl _ _, he⟩
  · have he := ok_f he hb
    refine loop_model mixed tys_ok t_laws_eqStepSS (S := Int) (I := (fun i => (envOf [(0, .c (.imm (.sl (.pair (.int .i64) (.pair (.int .i64) (.pair (.int .i64) (.pair (.sl (.pair (.int .i64) (.int .i64))) (.int .i64)))))) a)), (1, .c (.imm (.sl (.pair (.int .i64) (.pair (.int .i64) (.pair (.int .i64) (.pair (.sl (.pair (.int .i64) (.int .i64))) (.int .i64)))))) b)), (5, .c (.int .i64 i))], []))) (f := laws_eqStepSS_l1 a b) (K := (fun r => k (.c (.bool r)) [])) he (leads_ren [] (l := [(0, .c (.imm (.sl (.pair (.int .i64) (.pair (.int .i64) (.pair (.int .i64) (.pair (.sl (.pair (.int .i64) (.int .i64))) (.int .i64)))))) a)), (1, .c (.imm (.sl (.pair (.int .i64) (.pair (.int .i64) (.pair (.int .i64) (.pair (.sl (.pair (.int .i64) (.int .i64))) (.int .i64)))))) b)), (5, .c (.int .i64 (0:Int)))]) (st' := []) rfl rfl trivial ⟨.inl rfl, .inl rfl, rfl, trivial⟩) ?_
    rintro i J1 he
    refine And.intro (fun hb => ?_) (fun hb => ?_)
    · have he := ok_t he hb
      refine And.intro (by kernel_rfl) ?_
      have he := ok_rq he
      refine And.intro he.1 ?_
      have he := he.2
      have he := ok_rq he
      refine And.intro he.1 ?_
      have he := he.2
      refine And.intro ?_ trivial
      obtain ⟨r2_, hr, he⟩ := ok_bind he
      refine ⟨r2_, hr, ?_⟩
      refine And.intro (fun hb => ?_) (fun hb => ?_)
      · have he := ok_t he hb
        have he := ok_some he
        exact ⟨rfl, _, _, Leads.refl _ _, he⟩
      · have he := ok_f he hb
        have he := ok_rq he
        refine And.intro he.1 ?_
        have he := he.2
        have he := ok_some he
        exact ⟨(i + (1:Int)), he, (leads_ren [] (l := [(0, .c (.imm (.sl (.pair (.int .i64) (.pair (.int .i64) (.pair (.int .i64) (.pair (.sl (.pair (.int .i64) (.int .i64))) (.int .i64)))))) a)), (1, .c (.imm (.sl (.pair (.int .i64) (.pair (.int .i64) (.pair (.int .i64) (.pair (.sl (.pair (.int .i64) (.int .i64))) (.int .i64)))))) b)), (5, .c (.int .i64 (i + (1:Int))))]) (st' := []) rfl rfl trivial ⟨.inl rfl, .inl rfl, rfl, trivial⟩)⟩
    · have he := ok_f he hb
      have he := ok_some he
      exact ⟨rfl, _, _, Leads.refl _ _, he⟩

noncomputable def c_laws_markIntS : Con := fun args st => match args, st with
  | [.c (.own 0 false), .c (.int .i64 k_)], [(0, .sl 3 (.int .i64) a .shallow)] => .opt (Int × (List Int)) (laws_markIntS k_ a) (fun r => .ret (.c (.int .i64 r.1)) [(0, .sl 3 (.int .i64) r.2 .shallow)])
  | _, _ => .fail

noncomputable def C_laws_markIntS : Cfg := { y := tys, n := 19, h := 1, tab := [], cut := [], hand := [], good := [], deep := [], sched := [] }

theorem t_laws_markIntS : TabOk Try.prog C_laws_markIntS := tabOk_of (fun p h => by cases h)

theorem k_laws_markIntS : Entry Try.prog 31 c_laws_markIntS := by
  refine entry_by (C := C_laws_markIntS) mixed tys_ok t_laws_markIntS (fn := Try.f31) (c := bd Try.f31) (by kernel_rfl) (by kernel_rfl) (by kernel_rfl) (by kernel_rfl) ?_
  intro args st k he
  unfold c_laws_markIntS at he
  split at he
  rotate_left
  · exact he.elim
  rename_i k_ a
  have he : Ok (laws_markIntS k_ a) (fun r => k (.c (.int .i64 r.1)) [(0, .sl 3 (.int .i64) r.2 .shallow)]) := he
  refine ⟨rfl, rfl, ?_⟩
  refine loop_model mixed tys_ok t_laws_markIntS (S := Int × Int × (List Int)) (I := (fun (k_1, i, a1) => (envOf [(0, .c (.own 0 false)), (1, .c (.int .i64 k_1)), (5, .c (.int .i64 i))], [(0, .sl 3 (.int .i64) a1 .shallow)]))) (f := laws_markIntS_l1) (K := (fun r => k (.c (.int .i64 r.1)) [(0, .sl 3 (.int .i64) r.2 .shallow)])) he (leads_ren [] (l := [(0, .c (.own 0 false)), (1, .c (.int .i64 k_)), (5, .c (.int .i64 (0:Int)))]) (st' := [(0, .sl 3 (.int .i64) a .shallow)]) rfl rfl ⟨⟨rfl, rfl⟩, trivial⟩ ⟨⟨⟨rfl, rfl⟩, trivial⟩, rfl, rfl, trivial⟩) ?_
  rintro ⟨k_1, i, a1⟩ J1 he
  refine And.intro (fun hb => ?_) (fun hb => ?_)
  · have he := ok_t he hb
    have he := ok_rq he
    refine And.intro he.1 ?_
    have he := he.2
    have he := ok_rq he
    refine And.intro he.1 ?_
    have he := he.2
    have he := ok_rq he
    refine And.intro he.1 ?_
    have he := he.2
    have he := ok_some he
    exact ⟨((k_1 + (1:Int)), (i + (1:Int)), (a1.set i.toNat k_1)), he, (leads_ren [] (l := [(0, .c (.own 0 false)), (1, .c (.int .i64 (k_1 + (1:Int)))), (5, .c (.int .i64 (i + (1:Int))))]) (st' := [(0, .sl 3 (.int .i64) (a1.set i.toNat k_1) .shallow)]) rfl rfl ⟨⟨rfl, rfl⟩, trivial⟩ ⟨⟨⟨rfl, rfl⟩, trivial⟩, rfl, rfl, trivial⟩)⟩
  · have he := ok_f he hb
    have he := ok_some he
    exact ⟨rfl, _, _, (leads_ren [] (l := [(4, .c (.int .i64 k_1))]) (st' := [(0, .sl 3 (.int .i64) a1 .shallow)]) rfl rfl ⟨⟨rfl, rfl⟩, trivial⟩ ⟨rfl, trivial⟩), he⟩

noncomputable def c_laws_markTermS__d : Con := fun args st => match args, st with
  | [.c (.own 0 false), .c (.int .i64 k_)], [(0, .sl 0 (.pair (.int .i64) (.int .i64)) a (.deep false .no))] => .opt (Int × (List (Int × Int))) (laws_markTermS__d k_ a) (fun r => .ret (.c (.int .i64 r.1)) [(0, .sl 0 (.pair (.int .i64) (.int .i64)) r.2 (.deep false .no))])
  | _, _ => .fail

noncomputable def C_laws_markTermS__d : Cfg := { y := tys, n := 27, h := 1, tab := [], cut := [7], hand := [], good := [], deep := [], sched := [] }

theorem t_laws_markTermS__d : TabOk Try.prog C_laws_markTermS__d := tabOk_of (fun p h => by cases h)

theorem k_laws_markTermS__d : Entry Try.prog 119 c_laws_markTermS__d := by
  refine entry_by (C := C_laws_markTermS__d) mixed tys_ok t_laws_markTermS__d (fn := Try.f119) (c := bd Try.f119) (by kernel_rfl) (by kernel_rfl) (by kernel_rfl) (by kernel_rfl) ?_
  intro args st k he
  unfold c_laws_markTermS__d at he
  split at he
  rotate_left
  · exact he.elim
  rename_i k_ a
  have he : Ok (laws_markTermS__d k_ a) (fun r => k (.c (.int .i64 r.1)) [(0, .sl 0 (.pair (.int .i64) (.int .i64)) r.2 (.deep false .no))]) := he
  refine ⟨rfl, rfl, ?_⟩
  refine loop_model mixed tys_ok t_laws_markTermS__d (S := Int × Int × (List (Int × Int))) (I := (fun (k_1, i, a2) => (envOf [(0, .c (.own 0 false)), (1, .c (.int .i64 k_1)), (5, .c (.int .i64 i))], [(0, .sl 0 (.pair (.int .i64) (.int .i64)) a2 (.deep false .no))]))) (f := laws_markTermS__d_l1) (K := (fun r => k (.c (.int .i64 r.1)) [(0, .sl 0 (.pair (.int .i64) (.int .i64)) r.2 (.deep false .no))])) he (leads_ren [] (l := [(0, .c (.own 0 false)), (1, .c (.int .i64 k_)), (5, .c (.int .i64 (0:Int)))]) (st' := [(0, .sl 0 (.pair (.int .i64) (.int .i64)) a (.deep false .no))]) rfl rfl ⟨⟨rfl, rfl⟩, trivial⟩ ⟨⟨⟨rfl, rfl⟩, trivial⟩, rfl, rfl, trivial⟩) ?_
  rintro ⟨k_1, i, a2⟩ J1 he
  refine And.intro (fun hb => ?_) (fun hb => ?_)
  · have he := ok_t he hb
    have he := ok_rq he
    refine And.intro he.1 ?_
    have he := he.2
    have he := ok_rq he
    refine And.intro he.1 ?_
    have he := he.2
    refine seq_model mixed tys_ok t_laws_markTermS__d (S := (List (Int × Int))) (I := (fun a3 => (envOf [(0, .c (.own 0 false)), (1, .c (.int .i64 (k_1 + (1:Int)))), (5, .c (.int .i64 i))], [(0, .sl 0 (.pair (.int .i64) (.int .i64)) a3 (.deep false .no))]))) (B := fun s => Ok (laws_markTermS__d_j1 k_1 i s) (LK J1 (fun r => k (.c (.int .i64 r.1)) [(0, .sl 0 (.pair (.int .i64) (.int .i64)) r.2 (.deep false .no))]))) ?_ ?_
    · rintro a3 he
      have he := ok_rq he
      refine And.intro he.1 ?_
      have he := he.2
      have he := ok_rq he
      refine And.intro he.1 ?_
      have he := he.2
      have he := ok_some he
      exact ⟨(((k_1 + (1:Int)) + (1:Int)), (i + (1:Int)), a3), he, (leads_ren [] (l := [(0, .c (.own 0 false)), (1, .c (.int .i64 ((k_1 + (1:Int)) + (1:Int)))), (5, .c (.int .i64 (i + (1:Int))))]) (st' := [(0, .sl 0 (.pair (.int .i64) (.int .i64)) a3 (.deep false .no))]) rfl rfl ⟨⟨rfl, rfl⟩, trivial⟩ ⟨⟨⟨rfl, rfl⟩, trivial⟩, rfl, rfl, trivial⟩)⟩
    · skip
      have he := ok_rq he
      refine And.intro he.1 ?_
      have he := he.2
      exact ⟨((a2.set i.toNat (k_1, (a2.getD i.toNat (0, 0)).2)).set i.toNat (((a2.set i.toNat (k_1, (a2.getD i.toNat (0, 0)).2)).getD i.toNat (0, 0)).1, (k_1 + (1:Int)))), he, (leads_ren [] (l := [(0, .c (.own 0 false)), (1, .c (.int .i64 (k_1 + (1:Int)))), (5, .c (.int .i64 i))]) (st' := [(0, .sl 0 (.pair (.int .i64) (.int .i64)) ((a2.set i.toNat (k_1, (a2.getD i.toNat (0, 0)).2)).set i.toNat (((a2.set i.toNat (k_1, (a2.getD i.toNat (0, 0)).2)).getD i.toNat (0, 0)).1, (k_1 + (1:Int)))) (.deep false .no))]) rfl rfl ⟨⟨rfl, rfl⟩, trivial⟩ ⟨⟨⟨rfl, rfl⟩, trivial⟩, rfl, rfl, trivial⟩)⟩
  · have he := ok_f he hb
    have he := ok_some he
    exact ⟨rfl, _, _, (leads_ren [] (l := [(4, .c (.int .i64 k_1))]) (st' := [(0, .sl 0 (.pair (.int .i64) (.int .i64)) a2 (.deep false .no))]) rfl rfl ⟨⟨rfl, rfl⟩, trivial⟩ ⟨rfl, trivial⟩), he⟩

noncomputable def c_laws_markStepS : Con := fun args st => match args, st with
  | [.c (.own 0 false), .c (.int .i64 k_)], [(0, .sl 0 (.pair (.int .i64) (.pair (.int .i64) (.pair (.int .i64) (.pair (.sl (.pair (.int .i64) (.int .i64))) (.int .i64))))) a (.deep false .no))] => .opt (Int × (List (Int × Int × Int × (List (Int × Int)) × Int))) (laws_markStepS k_ a) (fun r => .ret (.c (.int .i64 r.1)) [(0, .sl 0 (.pair (.int .i64) (.pair (.int .i64) (.pair (.int .i64) (.pair (.sl (.pair (.int .i64) (.int .i64))) (.int .i64))))) r.2 (.deep false .no))])
  | _, _ => .fail

noncomputable def C_laws_markStepS : Cfg := { y := tys, n := 50, h := 1, tab := [(119, c_laws_markTermS__d)], cut := [7, 9, 12], hand := [(119, [0])], good := [], deep := [], sched := [] }

theorem t_laws_markStepS : TabOk Try.prog C_laws_markStepS := by
  refine tabOk_of ?_
  simp only [C_laws_markStepS, List.forall_mem_cons]
  exact ⟨k_laws_markTermS__d, fun p h => by cases h⟩

theorem k_laws_markStepS : Entry Try.prog 85 c_laws_markStepS := by
  refine entry_by (C := C_laws_markStepS) mixed tys_ok t_laws_markStepS (fn := Try.f85) (c := bd Try.f85) (by kernel_rfl) (by kernel_rfl) (by kernel_rfl) (by kernel_rfl) ?_
  intro args st k he
  unfold c_laws_markStepS at he
  split at he
  rotate_left
  · exact he.elim
  rename_i k_ a
  have he : Ok (laws_markStepS k_ a) (fun r => k (.c (.int .i64 r.1)) [(0, .sl 0 (.pair (.int .i64) (.pair (.int .i64) (.pair (.int .i64) (.pair (.sl (.pair (.int .i64) (.int .i64))) (.int .i64))))) r.2 (.deep false .no))]) := he
  refine ⟨rfl, rfl, ?_⟩
  refine loop_model mixed tys_ok t_laws_markStepS (S := Int × Int × (List (Int × Int × Int × (List (Int × Int)) × Int))) (I := (fun (k_1, i, a4) => (envOf [(0, .c (.own 0 false)), (1, .c (.int .i64 k_1)), (5, .c (.int .i64 i))], [(0, .sl 0 (.pair (.int .i64) (.pair (.int .i64) (.pair (.int .i64) (.pair (.sl (.pair (.int .i64) (.int .i64))) (.int .i64))))) a4 (.deep false .no))]))) (f := laws_markStepS_l1) (K := (fun r => k (.c (.int .i64 r.1)) [(0, .sl 0 (.pair (.int .i64) (.pair (.int .i64) (.pair (.int .i64) (.pair (.sl (.pair (.int .i64) (.int .i64))) (.int .i64))))) r.2 (.deep false .no))])) he (leads_ren [] (l := [(0, .c (.own 0 false)), (1, .c (.int .i64 k_)), (5, .c (.int .i64 (0:Int)))]) (st' := [(0, .sl 0 (.pair (.int .i64) (.pair (.int .i64) (.pair (.int .i64) (.pair (.sl (.pair (.int .i64) (.int .i64))) (.int .i64))))) a (.deep false .no))]) rfl rfl ⟨⟨rfl, rfl⟩, trivial⟩ ⟨⟨⟨rfl, rfl⟩, trivial⟩, rfl, rfl, trivial⟩) ?_
  rintro ⟨k_1, i, a4⟩ J1 he
  refine And.intro (fun hb => ?_) (fun hb => ?_)
  · have he := ok_t he hb
    have he := ok_rq he
    refine And.intro he.1 ?_
    have he := he.2
    have he := ok_rq he
    refine And.intro he.1 ?_
    have he := he.2
    refine seq_model mixed tys_ok t_laws_markStepS (S := (List (Int × Int × Int × (List (Int × Int)) × Int))) (I := (fun a5 => (envOf [(0, .c (.own 0 false)), (1, .c (.int .i64 (k_1 + (1:Int)))), (5, .c (.int .i64 i))], [(0, .sl 0 (.pair (.int .i64) (.pair (.int .i64) (.pair (.int .i64) (.pair (.sl (.pair (.int .i64) (.int .i64))) (.int .i64))))) a5 (.deep false .no))]))) (B := fun s => Ok (laws_markStepS_j1 k_1 i s) (LK J1 (fun r => k (.c (.int .i64 r.1)) [(0, .sl 0 (.pair (.int .i64) (.pair (.int .i64) (.pair (.int .i64) (.pair (.sl (.pair (.int .i64) (.int .i64))) (.int .i64))))) r.2 (.deep false .no))]))) ?_ ?_
    · rintro a5 he
      have he := ok_rq he
      refine And.intro he.1 ?_
      have he := he.2
      refine seq_model mixed tys_ok t_laws_markStepS (S := (List (Int × Int × Int × (List (Int × Int)) × Int))) (I := (fun a6 => (envOf [(0, .c (.own 0 false)), (1, .c (.int .i64 ((k_1 + (1:Int)) + (1:Int)))), (5, .c (.int .i64 i))], [(0, .sl 0 (.pair (.int .i64) (.pair (.int .i64) (.pair (.int .i64) (.pair (.sl (.pair (.int .i64) (.int .i64))) (.int .i64))))) a6 (.deep false .no))]))) (B := fun s => Ok (laws_markStepS_j2 k_1 i s) (LK J1 (fun r => k (.c (.int .i64 r.1)) [(0, .sl 0 (.pair (.int .i64) (.pair (.int .i64) (.pair (.int .i64) (.pair (.sl (.pair (.int .i64) (.int .i64))) (.int .i64))))) r.2 (.deep false .no))]))) ?_ ?_
      · rintro a6 he
        have he := ok_rq he
        refine And.intro he.1 ?_
        have he := he.2
        have he := ok_rq he
        refine And.intro he.1 ?_
        have he := he.2
        obtain ⟨r2_, hr, he⟩ := ok_bind he
        refine ⟨r2_, hr, ?_⟩
        refine seq_model mixed tys_ok t_laws_markStepS (S := (List (Int × Int × Int × (List (Int × Int)) × Int))) (I := (fun a7 => (envOf [(0, .c (.own 0 false)), (1, .c (.int .i64 r2_.1)), (5, .c (.int .i64 i))], [(0, .sl 0 (.pair (.int .i64) (.pair (.int .i64) (.pair (.int .i64) (.pair (.sl (.pair (.int .i64) (.int .i64))) (.int .i64))))) a7 (.deep false .no))]))) (B := fun s => Ok (laws_markStepS_j3 i r2_ s) (LK J1 (fun r => k (.c (.int .i64 r.1)) [(0, .sl 0 (.pair (.int .i64) (.pair (.int .i64) (.pair (.int .i64) (.pair (.sl (.pair (.int .i64) (.int .i64))) (.int .i64))))) r.2 (.deep false .no))]))) ?_ ?_
        · rintro a7 he
          have he := ok_rq he
          refine And.intro he.1 ?_
          have he := he.2
          have he := ok_rq he
          refine And.intro he.1 ?_
          have he := he.2
          have he := ok_some he
          exact ⟨((r2_.1 + (1:Int)), (i + (1:Int)), a7), he, (leads_ren [] (l := [(0, .c (.own 0 false)), (1, .c (.int .i64 (r2_.1 + (1:Int)))), (5, .c (.int .i64 (i + (1:Int))))]) (st' := [(0, .sl 0 (.pair (.int .i64) (.pair (.int .i64) (.pair (.int .i64) (.pair (.sl (.pair (.int .i64) (.int .i64))) (.int .i64))))) a7 (.deep false .no))]) rfl rfl ⟨⟨rfl, rfl⟩, trivial⟩ ⟨⟨⟨rfl, rfl⟩, trivial⟩, rfl, rfl, trivial⟩)⟩
        · skip
          have he := ok_rq he
          refine And.intro he.1 ?_
          have he := he.2
          exact ⟨((a6.set i.toNat ((a6.getD i.toNat (0, (0, (0, ([], 0))))).1, ((a6.getD i.toNat (0, (0, (0, ([], 0))))).2.1, ((a6.getD i.toNat (0, (0, (0, ([], 0))))).2.2.1, ((a6.getD i.toNat (0, (0, (0, ([], 0))))).2.2.2.1, r2_.1))))).set i.toNat (((a6.set i.toNat ((a6.getD i.toNat (0, (0, (0, ([], 0))))).1, ((a6.getD i.toNat (0, (0, (0, ([], 0))))).2.1, ((a6.getD i.toNat (0, (0, (0, ([], 0))))).2.2.1, ((a6.getD i.toNat (0, (0, (0, ([], 0))))).2.2.2.1, r2_.1))))).getD i.toNat (0, (0, (0, ([], 0))))).1, (((a6.set i.toNat ((a6.getD i.toNat (0, (0, (0, ([], 0))))).1, ((a6.getD i.toNat (0, (0, (0, ([], 0))))).2.1, ((a6.getD i.toNat (0, (0, (0, ([], 0))))).2.2.1, ((a6.getD i.toNat (0, (0, (0, ([], 0))))).2.2.2.1, r2_.1))))).getD i.toNat (0, (0, (0, ([], 0))))).2.1, (((a6.set i.toNat ((a6.getD i.toNat (0, (0, (0, ([], 0))))).1, ((a6.getD i.toNat (0, (0, (0, ([], 0))))).2.1, ((a6.getD i.toNat (0, (0, (0, ([], 0))))).2.2.1, ((a6.getD i.toNat (0, (0, (0, ([], 0))))).2.2.2.1, r2_.1))))).getD i.toNat (0, (0, (0, ([], 0))))).2.2.1, (r2_.2, ((a6.set i.toNat ((a6.getD i.toNat (0, (0, (0, ([], 0))))).1, ((a6.getD i.toNat (0, (0, (0, ([], 0))))).2.1, ((a6.getD i.toNat (0, (0, (0, ([], 0))))).2.2.1, ((a6.getD i.toNat (0, (0, (0, ([], 0))))).2.2.2.1, r2_.1))))).getD i.toNat (0, (0, (0, ([], 0))))).2.2.2.2))))), he, ((leads_close [0] rfl).trans (leads_ren [] (l := [(0, .c (.own 0 false)), (1, .c (.int .i64 r2_.1)), (5, .c (.int .i64 i))]) (st' := [(0, .sl 0 (.pair (.int .i64) (.pair (.int .i64) (.pair (.int .i64) (.pair (.sl (.pair (.int .i64) (.int .i64))) (.int .i64))))) ((a6.set i.toNat ((a6.getD i.toNat (0, (0, (0, ([], 0))))).1, ((a6.getD i.toNat (0, (0, (0, ([], 0))))).2.1, ((a6.getD i.toNat (0, (0, (0, ([], 0))))).2.2.1, ((a6.getD i.toNat (0, (0, (0, ([], 0))))).2.2.2.1, r2_.1))))).set i.toNat (((a6.set i.toNat ((a6.getD i.toNat (0, (0, (0, ([], 0))))).1, ((a6.getD i.toNat (0, (0, (0, ([], 0))))).2.1, ((a6.getD i.toNat (0, (0, (0, ([], 0))))).2.2.1, ((a6.getD i.toNat (0, (0, (0, ([], 0))))).2.2.2.1, r2_.1))))).getD i.toNat (0, (0, (0, ([], 0))))).1, (((a6.set i.toNat ((a6.getD i.toNat (0, (0, (0, ([], 0))))).1, ((a6.getD i.toNat (0, (0, (0, ([], 0))))).2.1, ((a6.getD i.toNat (0, (0, (0, ([], 0))))).2.2.1, ((a6.getD i.toNat (0, (0, (0, ([], 0))))).2.2.2.1, r2_.1))))).getD i.toNat (0, (0, (0, ([], 0))))).2.1, (((a6.set i.toNat ((a6.getD i.toNat (0, (0, (0, ([], 0))))).1, ((a6.getD i.toNat (0, (0, (0, ([], 0))))).2.1, ((a6.getD i.toNat (0, (0, (0, ([], 0))))).2.2.1, ((a6.getD i.toNat (0, (0, (0, ([], 0))))).2.2.2.1, r2_.1))))).getD i.toNat (0, (0, (0, ([], 0))))).2.2.1, (r2_.2, ((a6.set i.toNat ((a6.getD i.toNat (0, (0, (0, ([], 0))))).1, ((a6.getD i.toNat (0, (0, (0, ([], 0))))).2.1, ((a6.getD i.toNat (0, (0, (0, ([], 0))))).2.2.1, ((a6.getD i.toNat (0, (0, (0, ([], 0))))).2.2.2.1, r2_.1))))).getD i.toNat (0, (0, (0, ([], 0))))).2.2.2.2))))) (.deep false .no))]) rfl rfl (by exact ⟨⟨rfl, rfl⟩, trivial⟩) (by exact ⟨⟨⟨rfl, rfl⟩, trivial⟩, rfl, rfl, trivial⟩)))⟩
      · skip
        have he := ok_rq he
        refine And.intro he.1 ?_
        have he := he.2
        exact ⟨(a5.set i.toNat ((a5.getD i.toNat (0, (0, (0, ([], 0))))).1, ((a5.getD i.toNat (0, (0, (0, ([], 0))))).2.1, (((k_1 + (1:Int)) + (1:Int)), (a5.getD i.toNat (0, (0, (0, ([], 0))))).2.2.2)))), he, (leads_ren [] (l := [(0, .c (.own 0 false)), (1, .c (.int .i64 ((k_1 + (1:Int)) + (1:Int)))), (5, .c (.int .i64 i))]) (st' := [(0, .sl 0 (.pair (.int .i64) (.pair (.int .i64) (.pair (.int .i64) (.pair (.sl (.pair (.int .i64) (.int .i64))) (.int .i64))))) (a5.set i.toNat ((a5.getD i.toNat (0, (0, (0, ([], 0))))).1, ((a5.getD i.toNat (0, (0, (0, ([], 0))))).2.1, (((k_1 + (1:Int)) + (1:Int)), (a5.getD i.toNat (0, (0, (0, ([], 0))))).2.2.2)))) (.deep false .no))]) rfl rfl ⟨⟨rfl, rfl⟩, trivial⟩ ⟨⟨⟨rfl, rfl⟩, trivial⟩, rfl, rfl, trivial⟩)⟩
    · skip
      have he := ok_rq he
      refine And.intro he.1 ?_
      have he := he.2
      exact ⟨((a4.set i.toNat (k_1, (a4.getD i.toNat (0, (0, (0, ([], 0))))).2)).set i.toNat (((a4.set i.toNat (k_1, (a4.getD i.toNat (0, (0, (0, ([], 0))))).2)).getD i.toNat (0, (0, (0, ([], 0))))).1, ((k_1 + (1:Int)), ((a4.set i.toNat (k_1, (a4.getD i.toNat (0, (0, (0, ([], 0))))).2)).getD i.toNat (0, (0, (0, ([], 0))))).2.2))), he, (leads_ren [] (l := [(0, .c (.own 0 false)), (1, .c (.int .i64 (k_1 + (1:Int)))), (5, .c (.int .i64 i))]) (st' := [(0, .sl 0 (.pair (.int .i64) (.pair (.int .i64) (.pair (.int .i64) (.pair (.sl (.pair (.int .i64) (.int .i64))) (.int .i64))))) ((a4.set i.toNat (k_1, (a4.getD i.toNat (0, (0, (0, ([], 0))))).2)).set i.toNat (((a4.set i.toNat (k_1, (a4.getD i.toNat (0, (0, (0, ([], 0))))).2)).getD i.toNat (0, (0, (0, ([], 0))))).1, ((k_1 + (1:Int)), ((a4.set i.toNat (k_1, (a4.getD i.toNat (0, (0, (0, ([], 0))))).2)).getD i.toNat (0, (0, (0, ([], 0))))).2.2))) (.deep false .no))]) rfl rfl ⟨⟨rfl, rfl⟩, trivial⟩ ⟨⟨⟨rfl, rfl⟩, trivial⟩, rfl, rfl, trivial⟩)⟩
  · have he := ok_f he hb
    have he := ok_some he
    exact ⟨rfl, _, _, (leads_ren [] (l := [(4, .c (.int .i64 k_1))]) (st' := [(0, .sl 0 (.pair (.int .i64) (.pair (.int .i64) (.pair (.int .i64) (.pair (.sl (.pair (.int .i64) (.int .i64))) (.int .i64))))) a4 (.deep false .no))]) rfl rfl ⟨⟨rfl, rfl⟩, trivial⟩ ⟨rfl, trivial⟩), he⟩

noncomputable def c_laws_markStepSS : Con := fun args st => match args, st with
  | [.c (.own 0 false), .c (.int .i64 k_)], [(0, .sl 98 (.sl (.pair (.int .i64) (.pair (.int .i64) (.pair (.int .i64) (.pair (.sl (.pair (.int .i64) (.int .i64))) (.int .i64)))))) a (.deep true .no))] => .opt (Int × (List (List (Int × Int × Int × (List (Int × Int)) × Int)))) (laws_markStepSS k_ a) (fun r => .ret (.c (.int .i64 r.1)) [(0, .sl 98 (.sl (.pair (.int .i64) (.pair (.int .i64) (.pair (.int .i64) (.pair (.sl (.pair (.int .i64) (.int .i64))) (.int .i64)))))) r.2 (.deep true .no))])
  | _, _ => .fail

noncomputable def C_laws_markStepSS : Cfg := { y := tys, n := 19, h := 1, tab := [(85, c_laws_markStepS)], cut := [], hand := [(85, [0])], good := [], deep := [], sched := [] }

theorem t_laws_markStepSS : TabOk Try.prog C_laws_markStepSS := by
  refine tabOk_of ?_
  simp only [C_laws_markStepSS, List.forall_mem_cons]
  exact ⟨k_laws_markStepS, fun p h => by cases h⟩

theorem k_laws_markStepSS : Entry Try.prog 84 c_laws_markStepSS := by
  refine entry_by (C := C_laws_markStepSS) mixed tys_ok t_laws_markStepSS (fn := Try.f84) (c := bd Try.f84) (by kernel_rfl) (by kernel_rfl) (by kernel_rfl) (by kernel_rfl) ?_
  intro args st k he
  unfold c_laws_markStepSS at he
  split at he
  rotate_left
  · exact he.elim
  rename_i k_ a
  have he : Ok (laws_markStepSS k_ a) (fun r => k (.c (.int .i64 r.1)) [(0, .sl 98 (.sl (.pair (.int .i64) (.pair (.int .i64) (.pair (.int .i64) (.pair (.sl (.pair (.int .i64) (.int .i64))) (.int .i64)))))) r.2 (.deep true .no))]) := he
  refine ⟨rfl, rfl, ?_⟩
  refine loop_model mixed tys_ok t_laws_markStepSS (S := Int × Int × (List (List (Int × Int × Int × (List (Int × Int)) × Int)))) (I := (fun (k_1, i, a1) => (envOf [(0, .c (.own 0 false)), (1, .c (.int .i64 k_1)), (5, .c (.int .i64 i))], [(0, .sl 98 (.sl (.pair (.int .i64) (.pair (.int .i64) (.pair (.int .i64) (.pair (.sl (.pair (.int .i64) (.int .i64))) (.int .i64)))))) a1 (.deep true .no))]))) (f := laws_markStepSS_l1) (K := (fun r => k (.c (.int .i64 r.1)) [(0, .sl 98 (.sl (.pair (.int .i64) (.pair (.int .i64) (.pair (.int .i64) (.pair (.sl (.pair (.int .i64) (.int .i64))) (.int .i64)))))) r.2 (.deep true .no))])) he (leads_ren [] (l := [(0, .c (.own 0 false)), (1, .c (.int .i64 k_)), (5, .c (.int .i64 (0:Int)))]) (st' := [(0, .sl 98 (.sl (.pair (.int .i64) (.pair (.int .i64) (.pair (.int .i64) (.pair (.sl (.pair (.int .i64) (.int .i64))) (.int .i64)))))) a (.deep true .no))]) rfl rfl ⟨⟨rfl, rfl⟩, trivial⟩ ⟨⟨⟨rfl, rfl⟩, trivial⟩, rfl, rfl, trivial⟩) ?_
  rintro ⟨k_1, i, a1⟩ J1 he
  refine And.intro (fun hb => ?_) (fun hb => ?_)
  · have he := ok_t he hb
    have he := ok_rq he
    refine And.intro he.1 ?_
    have he := he.2
    obtain ⟨r2_, hr, he⟩ := ok_bind he
    refine ⟨r2_, hr, ?_⟩
    have he := ok_rq he
    refine And.intro he.1 ?_
    have he := he.2
    have he := ok_some he
    exact ⟨(r2_.1, (i + (1:Int)), (a1.set i.toNat r2_.2)), he, ((leads_close [0] rfl).trans (leads_ren [] (l := [(0, .c (.own 0 false)), (1, .c (.int .i64 r2_.1)), (5, .c (.int .i64 (i + (1:Int))))]) (st' := [(0, .sl 98 (.sl (.pair (.int .i64) (.pair (.int .i64) (.pair (.int .i64) (.pair (.sl (.pair (.int .i64) (.int .i64))) (.int .i64)))))) (a1.set i.toNat r2_.2) (.deep true .no))]) rfl rfl (by exact ⟨⟨rfl, rfl⟩, trivial⟩) (by exact ⟨⟨⟨rfl, rfl⟩, trivial⟩, rfl, rfl, trivial⟩)))⟩
  · have he := ok_f he hb
    have he := ok_some he
    exact ⟨rfl, _, _, (leads_ren [] (l := [(4, .c (.int .i64 k_1))]) (st' := [(0, .sl 98 (.sl (.pair (.int .i64) (.pair (.int .i64) (.pair (.int .i64) (.pair (.sl (.pair (.int .i64) (.int .i64))) (.int .i64)))))) a1 (.deep true .no))]) rfl rfl ⟨⟨rfl, rfl⟩, trivial⟩ ⟨rfl, trivial⟩), he⟩

noncomputable def c_laws_markStepS_2 : Con := fun args st => match args, st with
  | [.c (.own 0 false), .c (.int .i64 k_)], [(0, .sl 86 (.pair (.int .i64) (.pair (.int .i64) (.pair (.int .i64) (.pair (.sl (.pair (.int .i64) (.int .i64))) (.int .i64))))) a (.deep true .no))] => .opt (Int × (List (Int × Int × Int × (List (Int × Int)) × Int))) (laws_markStepS_2 k_ a) (fun r => .ret (.c (.int .i64 r.1)) [(0, .sl 86 (.pair (.int .i64) (.pair (.int .i64) (.pair (.int .i64) (.pair (.sl (.pair (.int .i64) (.int .i64))) (.int .i64))))) r.2 (.deep true .no))])
  | _, _ => .fail

noncomputable def C_laws_markStepS_2 : Cfg := { y := tys, n := 50, h := 1, tab := [(119, c_laws_markTermS__d)], cut := [7, 9, 12], hand := [(119, [0])], good := [], deep := [], sched := [] }

theorem t_laws_markStepS_2 : TabOk Try.prog C_laws_markStepS_2 := by
  refine tabOk_of ?_
  simp only [C_laws_markStepS_2, List.forall_mem_cons]
  exact ⟨k_laws_markTermS__d, fun p h => by cases h⟩

theorem k_laws_markStepS_2 : Entry Try.prog 85 c_laws_markStepS_2 := by
  refine entry_by (C := C_laws_markStepS_2) mixed tys_ok t_laws_markStepS_2 (fn := Try.f85) (c := bd Try.f85) (by kernel_rfl) (by kernel_rfl) (by kernel_rfl) (by kernel_rfl) ?_
  intro args st k he
  unfold c_laws_markStepS_2 at he
  split at he
  rotate_left
  · exact he.elim
  rename_i k_ a
  have he : Ok (laws_markStepS_2 k_ a) (fun r => k (.c (.int .i64 r.1)) [(0, .sl 86 (.pair (.int .i64) (.pair (.int .i64) (.pair (.int .i64) (.pair (.sl (.pair (.int .i64) (.int .i64))) (.int .i64))))) r.2 (.deep true .no))]) := he
  refine ⟨rfl, rfl, ?_⟩
  refine loop_model mixed tys_ok t_laws_markStepS_2 (S := Int × Int × (List (Int × Int × Int × (List (Int × Int)) × Int))) (I := (fun (k_1, i, a4) => (envOf [(0, .c (.own 0 false)), (1, .c (.int .i64 k_1)), (5, .c (.int .i64 i))], [(0, .sl 86 (.pair (.int .i64) (.pair (.int .i64) (.pair (.int .i64) (.pair (.sl (.pair (.int .i64) (.int .i64))) (.int .i64))))) a4 (.deep true .no))]))) (f := laws_markStepS_2_l1) (K := (fun r => k (.c (.int .i64 r.1)) [(0, .sl 86 (.pair (.int .i64) (.pair (.int .i64) (.pair (.int .i64) (.pair (.sl (.pair (.int .i64) (.int .i64))) (.int .i64))))) r.2 (.deep true .no))])) he (leads_ren [] (l := [(0, .c (.own 0 false)), (1, .c (.int .i64 k_)), (5, .c (.int .i64 (0:Int)))]) (st' := [(0, .sl 86 (.pair (.int .i64) (.pair (.int .i64) (.pair (.int .i64) (.pair (.sl (.pair (.int .i64) (.int .i64))) (.int .i64))))) a (.deep true .no))]) rfl rfl ⟨⟨rfl, rfl⟩, trivial⟩ ⟨⟨⟨rfl, rfl⟩, trivial⟩, rfl, rfl, trivial⟩) ?_
  rintro ⟨k_1, i, a4⟩ J1 he
  refine And.intro (fun hb => ?_) (fun hb => ?_)
  · have he := ok_t he hb
    have he := ok_rq he
    refine And.intro he.1 ?_
    have he := he.2
    have he := ok_rq he
    refine And.intro he.1 ?_
    have he := he.2
    refine seq_model mixed tys_ok t_laws_markStepS_2 (S := (List (Int × Int × Int × (List (Int × Int)) × Int))) (I := (fun a5 => (envOf [(0, .c (.own 0 false)), (1, .c (.int .i64 (k_1 + (1:Int)))), (5, .c (.int .i64 i))], [(0, .sl 86 (.pair (.int .i64) (.pair (.int .i64) (.pair (.int .i64) (.pair (.sl (.pair (.int .i64) (.int .i64))) (.int .i64))))) a5 (.deep true .no))]))) (B := fun s => Ok (laws_markStepS_2_j1 k_1 i s) (LK J1 (fun r => k (.c (.int .i64 r.1)) [(0, .sl 86 (.pair (.int .i64) (.pair (.int .i64) (.pair (.int .i64) (.pair (.sl (.pair (.int .i64) (.int .i64))) (.int .i64))))) r.2 (.deep true .no))]))) ?_ ?_
    · rintro a5 he
      have he := ok_rq he
      refine And.intro he.1 ?_
      have he := he.2
      refine seq_model mixed tys_ok t_laws_markStepS_2 (S := (List (Int × Int × Int × (List (Int × Int)) × Int))) (I := (fun a6 => (envOf [(0, .c (.own 0 false)), (1, .c (.int .i64 ((k_1 + (1:Int)) + (1:Int)))), (5, .c (.int .i64 i))], [(0, .sl 86 (.pair (.int .i64) (.pair (.int .i64) (.pair (.int .i64) (.pair (.sl (.pair (.int .i64) (.int .i64))) (.int .i64))))) a6 (.deep true .no))]))) (B := fun s => Ok (laws_markStepS_2_j2 k_1 i s) (LK J1 (fun r => k (.c (.int .i64 r.1)) [(0, .sl 86 (.pair (.int .i64) (.pair (.int .i64) (.pair (.int .i64) (.pair (.sl (.pair (.int .i64) (.int .i64))) (.int .i64))))) r.2 (.deep true .no))]))) ?_ ?_
      · rintro a6 he
        have he := ok_rq he
        refine And.intro he.1 ?_
        have he := he.2
        have he := ok_rq he
        refine And.intro he.1 ?_
        have he := he.2
        obtain ⟨r2_, hr, he⟩ := ok_bind he
        refine ⟨r2_, hr, ?_⟩
        refine seq_model mixed tys_ok t_laws_markStepS_2 (S := (List (Int × Int × Int × (List (Int × Int)) × Int))) (I := (fun a7 => (envOf [(0, .c (.own 0 false)), (1, .c (.int .i64 r2_.1)), (5, .c (.int .i64 i))], [(0, .sl 86 (.pair (.int .i64) (.pair (.int .i64) (.pair (.int .i64) (.pair (.sl (.pair (.int .i64) (.int .i64))) (.int .i64))))) a7 (.deep true .no))]))) (B := fun s => Ok (laws_markStepS_2_j3 i r2_ s) (LK J1 (fun r => k (.c (.int .i64 r.1)) [(0, .sl 86 (.pair (.int .i64) (.pair (.int .i64) (.pair (.int .i64) (.pair (.sl (.pair (.int .i64) (.int .i64))) (.int .i64))))) r.2 (.deep true .no))]))) ?_ ?_
        · rintro a7 he
          have he := ok_rq he
          refine And.intro he.1 ?_
          have he := he.2
          have he := ok_rq he
          refine And.intro he.1 ?_
          have he := he.2
          have he := ok_some he
          exact ⟨((r2_.1 + (1:Int)), (i + (1:Int)), a7), he, (leads_ren [] (l := [(0, .c (.own 0 false)), (1, .c (.int .i64 (r2_.1 + (1:Int)))), (5, .c (.int .i64 (i + (1:Int))))]) (st' := [(0, .sl 86 (.pair (.int .i64) (.pair (.int .i64) (.pair (.int .i64) (.pair (.sl (.pair (.int .i64) (.int .i64))) (.int .i64))))) a7 (.deep true .no))]) rfl rfl ⟨⟨rfl, rfl⟩, trivial⟩ ⟨⟨⟨rfl, rfl⟩, trivial⟩, rfl, rfl, trivial⟩)⟩
        · skip
          have he := ok_rq he
          refine And.intro he.1 ?_
          have he := he.2
          exact ⟨((a6.set i.toNat ((a6.getD i.toNat (0, (0, (0, ([], 0))))).1, ((a6.getD i.toNat (0, (0, (0, ([], 0))))).2.1, ((a6.getD i.toNat (0, (0, (0, ([], 0))))).2.2.1, ((a6.getD i.toNat (0, (0, (0, ([], 0))))).2.2.2.1, r2_.1))))).set i.toNat (((a6.set i.toNat ((a6.getD i.toNat (0, (0, (0, ([], 0))))).1, ((a6.getD i.toNat (0, (0, (0, ([], 0))))).2.1, ((a6.getD i.toNat (0, (0, (0, ([], 0))))).2.2.1, ((a6.getD i.toNat (0, (0, (0, ([], 0))))).2.2.2.1, r2_.1))))).getD i.toNat (0, (0, (0, ([], 0))))).1, (((a6.set i.toNat ((a6.getD i.toNat (0, (0, (0, ([], 0))))).1, ((a6.getD i.toNat (0, (0, (0, ([], 0))))).2.1, ((a6.getD i.toNat (0, (0, (0, ([], 0))))).2.2.1, ((a6.getD i.toNat (0, (0, (0, ([], 0))))).2.2.2.1, r2_.1))))).getD i.toNat (0, (0, (0, ([], 0))))).2.1, (((a6.set i.toNat ((a6.getD i.toNat (0, (0, (0, ([], 0))))).1, ((a6.getD i.toNat (0, (0, (0, ([], 0))))).2.1, ((a6.getD i.toNat (0, (0, (0, ([], 0))))).2.2.1, ((a6.getD i.toNat (0, (0, (0, ([], 0))))).2.2.2.1, r2_.1))))).getD i.toNat (0, (0, (0, ([], 0))))).2.2.1, (r2_.2, ((a6.set i.toNat ((a6.getD i.toNat (0, (0, (0, ([], 0))))).1, ((a6.getD i.toNat (0, (0, (0, ([], 0))))).2.1, ((a6.getD i.toNat (0, (0, (0, ([], 0))))).2.2.1, ((a6.getD i.toNat (0, (0, (0, ([], 0))))).2.2.2.1, r2_.1))))).getD i.toNat (0, (0, (0, ([], 0))))).2.2.2.2))))), he, ((leads_close [0] rfl).trans (leads_ren [] (l := [(0, .c (.own 0 false)), (1, .c (.int .i64 r2_.1)), (5, .c (.int .i64 i))]) (st' := [(0, .sl 86 (.pair (.int .i64) (.pair (.int .i64) (.pair (.int .i64) (.pair (.sl (.pair (.int .i64) (.int .i64))) (.int .i64))))) ((a6.set i.toNat ((a6.getD i.toNat (0, (0, (0, ([], 0))))).1, ((a6.getD i.toNat (0, (0, (0, ([], 0))))).2.1, ((a6.getD i.toNat (0, (0, (0, ([], 0))))).2.2.1, ((a6.getD i.toNat (0, (0, (0, ([], 0))))).2.2.2.1, r2_.1))))).set i.toNat (((a6.set i.toNat ((a6.getD i.toNat (0, (0, (0, ([], 0))))).1, ((a6.getD i.toNat (0, (0, (0, ([], 0))))).2.1, ((a6.getD i.toNat (0, (0, (0, ([], 0))))).2.2.1, ((a6.getD i.toNat (0, (0, (0, ([], 0))))).2.2.2.1, r2_.1))))).getD i.toNat (0, (0, (0, ([], 0))))).1, (((a6.set i.toNat ((a6.getD i.toNat (0, (0, (0, ([], 0))))).1, ((a6.getD i.toNat (0, (0, (0, ([], 0))))).2.1, ((a6.getD i.toNat (0, (0, (0, ([], 0))))).2.2.1, ((a6.getD i.toNat (0, (0, (0, ([], 0))))).2.2.2.1, r2_.1))))).getD i.toNat (0, (0, (0, ([], 0))))).2.1, (((a6.set i.toNat ((a6.getD i.toNat (0, (0, (0, ([], 0))))).1, ((a6.getD i.toNat (0, (0, (0, ([], 0))))).2.1, ((a6.getD i.toNat (0, (0, (0, ([], 0))))).2.2.1, ((a6.getD i.toNat (0, (0, (0, ([], 0))))).2.2.2.1, r2_.1))))).getD i.toNat (0, (0, (0, ([], 0))))).2.2.1, (r2_.2, ((a6.set i.toNat ((a6.getD i.toNat (0, (0, (0, ([], 0))))).1, ((a6.getD i.toNat (0, (0, (0, ([], 0))))).2.1, ((a6.getD i.toNat (0, (0, (0, ([], 0))))).2.2.1, ((a6.getD i.toNat (0, (0, (0, ([], 0))))).2.2.2.1, r2_.1))))).getD i.toNat (0, (0, (0, ([], 0))))).2.2.2.2))))) (.deep true .no))]) rfl rfl (by exact ⟨⟨rfl, rfl⟩, trivial⟩) (by exact ⟨⟨⟨rfl, rfl⟩, trivial⟩, rfl, rfl, trivial⟩)))⟩
      · skip
        have he := ok_rq he
        refine And.intro he.1 ?_
        have he := he.2
        exact ⟨(a5.set i.toNat ((a5.getD i.toNat (0, (0, (0, ([], 0))))).1, ((a5.getD i.toNat (0, (0, (0, ([], 0))))).2.1, (((k_1 + (1:Int)) + (1:Int)), (a5.getD i.toNat (0, (0, (0, ([], 0))))).2.2.2)))), he, (leads_ren [] (l := [(0, .c (.own 0 false)), (1, .c (.int .i64 ((k_1 + (1:Int)) + (1:Int)))), (5, .c (.int .i64 i))]) (st' := [(0, .sl 86 (.pair (.int .i64) (.pair (.int .i64) (.pair (.int .i64) (.pair (.sl (.pair (.int .i64) (.int .i64))) (.int .i64))))) (a5.set i.toNat ((a5.getD i.toNat (0, (0, (0, ([], 0))))).1, ((a5.getD i.toNat (0, (0, (0, ([], 0))))).2.1, (((k_1 + (1:Int)) + (1:Int)), (a5.getD i.toNat (0, (0, (0, ([], 0))))).2.2.2)))) (.deep true .no))]) rfl rfl ⟨⟨rfl, rfl⟩, trivial⟩ ⟨⟨⟨rfl, rfl⟩, trivial⟩, rfl, rfl, trivial⟩)⟩
    · skip
      have he := ok_rq he
      refine And.intro he.1 ?_
      have he := he.2
      exact ⟨((a4.set i.toNat (k_1, (a4.getD i.toNat (0, (0, (0, ([], 0))))).2)).set i.toNat (((a4.set i.toNat (k_1, (a4.getD i.toNat (0, (0, (0, ([], 0))))).2)).getD i.toNat (0, (0, (0, ([], 0))))).1, ((k_1 + (1:Int)), ((a4.set i.toNat (k_1, (a4.getD i.toNat (0, (0, (0, ([], 0))))).2)).getD i.toNat (0, (0, (0, ([], 0))))).2.2))), he, (leads_ren [] (l := [(0, .c (.own 0 false)), (1, .c (.int .i64 (k_1 + (1:Int)))), (5, .c (.int .i64 i))]) (st' := [(0, .sl 86 (.pair (.int .i64) (.pair (.int .i64) (.pair (.int .i64) (.pair (.sl (.pair (.int .i64) (.int .i64))) (.int .i64))))) ((a4.set i.toNat (k_1, (a4.getD i.toNat (0, (0, (0, ([], 0))))).2)).set i.toNat (((a4.set i.toNat (k_1, (a4.getD i.toNat (0, (0, (0, ([], 0))))).2)).getD i.toNat (0, (0, (0, ([], 0))))).1, ((k_1 + (1:Int)), ((a4.set i.toNat (k_1, (a4.getD i.toNat (0, (0, (0, ([], 0))))).2)).getD i.toNat (0, (0, (0, ([], 0))))).2.2))) (.deep true .no))]) rfl rfl ⟨⟨rfl, rfl⟩, trivial⟩ ⟨⟨⟨rfl, rfl⟩, trivial⟩, rfl, rfl, trivial⟩)⟩
  · have he := ok_f he hb
    have he := ok_some he
    exact ⟨rfl, _, _, (leads_ren [] (l := [(4, .c (.int .i64 k_1))]) (st' := [(0, .sl 86 (.pair (.int .i64) (.pair (.int .i64) (.pair (.int .i64) (.pair (.sl (.pair (.int .i64) (.int .i64))) (.int .i64))))) a4 (.deep true .no))]) rfl rfl ⟨⟨rfl, rfl⟩, trivial⟩ ⟨rfl, trivial⟩), he⟩

noncomputable def c_laws_heldTermS : Con := fun args st => match args, st with
  | [.c (.imm (.pair (.int .i64) (.int .i64)) a), .c (.int .i64 k_)], [] => .opt (Int) (laws_heldTermS a k_) (fun r => .ret (.c (.int .i64 r)) [])
  | _, _ => .fail

noncomputable def C_laws_heldTermS : Cfg := { y := tys, n := 31, h := 0, tab := [], cut := [], hand := [], good := [], deep := [], sched := [] }

theorem t_laws_heldTermS : TabOk Try.prog C_laws_heldTermS := tabOk_of (fun p h => by cases h)

theorem k_laws_heldTermS : Entry Try.prog 120 c_laws_heldTermS := by
  refine entry_by (C := C_laws_heldTermS) mixed tys_ok t_laws_heldTermS (fn := Try.f120) (c := bd Try.f120) (by kernel_rfl) (by kernel_rfl) (by kernel_rfl) (by kernel_rfl) ?_
  intro args st k he
  unfold c_laws_heldTermS at he
  split at he
  rotate_left
  · exact he.elim
  rename_i a k_
  have he : Ok (laws_heldTermS a k_) (fun r => k (.c (.int .i64 r)) []) := he
  refine ⟨rfl, rfl, ?_⟩
  refine loop_model mixed tys_ok t_laws_heldTermS (S := Int × Int) (I := (fun (k_1, i) => (envOf [(0, .c (.imm (.pair (.int .i64) (.int .i64)) a)), (1, .c (.int .i64 k_1)), (5, .c (.int .i64 i))], []))) (f := laws_heldTermS_l1 a) (K := (fun r => k (.c (.int .i64 r)) [])) he (leads_ren [] (l := [(0, .c (.imm (.pair (.int .i64) (.int .i64)) a)), (1, .c (.int .i64 k_)), (5, .c (.int .i64 (0:Int)))]) (st' := []) rfl rfl trivial ⟨.inl rfl, rfl, rfl, trivial⟩) ?_
  rintro ⟨k_1, i⟩ J1 he
  refine And.intro (fun hb => ?_) (fun hb => ?_)
  · have he := ok_t he hb
    have he := ok_rq he
    refine And.intro he.1 ?_
    have he := he.2
    refine And.intro (fun hb => ?_) (fun hb => ?_)
    · have he := ok_t he hb
      have he := ok_some he
      exact ⟨rfl, _, _, Leads.refl _ _, he⟩
    · have he := ok_f he hb
      have he := ok_rq he
      refine And.intro he.1 ?_
      have he := he.2
      have he := ok_rq he
      refine And.intro he.1 ?_
      have he := he.2
      refine And.intro (fun hb => ?_) (fun hb => ?_)
      · have he := ok_t he hb
        have he := ok_some he
        exact ⟨rfl, _, _, Leads.refl _ _, he⟩
      · have he := ok_f he hb
        have he := ok_rq he
        refine And.intro he.1 ?_
        have he := he.2
        have he := ok_rq he
        refine And.intro he.1 ?_
        have he := he.2
        have he := ok_some he
        exact ⟨(((k_1 + (1:Int)) + (1:Int)), (i + (1:Int))), he, (leads_ren [] (l := [(0, .c (.imm (.pair (.int .i64) (.int .i64)) a)), (1, .c (.int .i64 ((k_1 + (1:Int)) + (1:Int)))), (5, .c (.int .i64 (i + (1:Int))))]) (st' := []) rfl rfl trivial ⟨.inl rfl, rfl, rfl, trivial⟩)⟩
  · have he := ok_f he hb
    have he := ok_some he
    exact ⟨rfl, _, _, Leads.refl _ _, he⟩

noncomputable def c_laws_heldStepS : Con := fun args st => match args, st with
  | [.c (.imm (.pair (.int .i64) (.pair (.int .i64) (.pair (.int .i64) (.pair (.sl (.pair (.int .i64) (.int .i64))) (.int .i64))))) a), .c (.int .i64 k_)], [] => .opt (Int) (laws_heldStepS a k_) (fun r => .ret (.c (.int .i64 r)) [])
  | _, _ => .fail

noncomputable def C_laws_heldStepS : Cfg := { y := tys, n := 60, h := 0, tab := [(120, c_laws_heldTermS)], cut := [], hand := [], good := [], deep := [], sched := [] }

theorem t_laws_heldStepS : TabOk Try.prog C_laws_heldStepS := by
  refine tabOk_of ?_
  simp only [C_laws_heldStepS, List.forall_mem_cons]
  exact ⟨k_laws_heldTermS, fun p h => by cases h⟩

theorem k_laws_heldStepS : Entry Try.prog 86 c_laws_heldStepS := by
  refine entry_by (C := C_laws_heldStepS) mixed tys_ok t_laws_heldStepS (fn := Try.f86) (c := bd Try.f86) (by kernel_rfl) (by kernel_rfl) (by kernel_rfl) (by kernel_rfl) ?_
  intro args st k he
  unfold c_laws_heldStepS at he
  split at he
  rotate_left
  · exact he.elim
  rename_i a k_
  have he : Ok (laws_heldStepS a k_) (fun r => k (.c (.int .i64 r)) []) := he
  refine ⟨rfl, rfl, ?_⟩
  refine loop_model mixed tys_ok t_laws_heldStepS (S := Int × Int) (I := (fun (k_1, i) => (envOf [(0, .c (.imm (.pair (.int .i64) (.pair (.int .i64) (.pair (.int .i64) (.pair (.sl (.pair (.int .i64) (.int .i64))) (.int .i64))))) a)), (1, .c (.int .i64 k_1)), (5, .c (.int .i64 i))], []))) (f := laws_heldStepS_l1 a) (K := (fun r => k (.c (.int .i64 r)) [])) he (leads_ren [] (l := [(0, .c (.imm (.pair (.int .i64) (.pair (.int .i64) (.pair (.int .i64) (.pair (.sl (.pair (.int .i64) (.int .i64))) (.int .i64))))) a)), (1, .c (.int .i64 k_)), (5, .c (.int .i64 (0:Int)))]) (st' := []) rfl rfl trivial ⟨.inl rfl, rfl, rfl, trivial⟩) ?_
  rintro ⟨k_1, i⟩ J1 he
  refine And.intro (fun hb => ?_) (fun hb => ?_)
  · have he := ok_t he hb
    have he := ok_rq he
    refine And.intro he.1 ?_
    have he := he.2
    refine And.intro (fun hb => ?_) (fun hb => ?_)
    · have he := ok_t he hb
      have he := ok_some he
      exact ⟨rfl, _, _, Leads.refl _ _, he⟩
    · have he := ok_f he hb
      have he := ok_rq he
      refine And.intro he.1 ?_
      have he := he.2
      have he := ok_rq he
      refine And.intro he.1 ?_
      have he := he.2
      refine And.intro (fun hb => ?_) (fun hb => ?_)
      · have he := ok_t he hb
        have he := ok_some he
        exact ⟨rfl, _, _, Leads.refl _ _, he⟩
      · have he := ok_f he hb
        have he := ok_rq he
        refine And.intro he.1 ?_
        have he := he.2
        have he := ok_rq he
        refine And.intro he.1 ?_
        have he := he.2
        refine And.intro (fun hb => ?_) (fun hb => ?_)
        · have he := ok_t he hb
          have he := ok_some he
          exact ⟨rfl, _, _, Leads.refl _ _, he⟩
        · have he := ok_f he hb
          have he := ok_rq he
          refine And.intro he.1 ?_
          have he := he.2
          have he := ok_rq he
          refine And.intro he.1 ?_
          have he := he.2
          obtain ⟨r1_, hr, he⟩ := ok_bind he
          refine ⟨r1_, hr, ?_⟩
          refine And.intro (fun hb => ?_) (fun hb => ?_)
          · have he := ok_t he hb
            have he := ok_some he
            exact ⟨rfl, _, _, Leads.refl _ _, he⟩
          · have he := ok_f he hb
            have he := ok_rq he
            refine And.intro he.1 ?_
            have he := he.2
            refine And.intro (fun hb => ?_) (fun hb => ?_)
            · have he := ok_t he hb
              have he := ok_some he
              exact ⟨rfl, _, _, Leads.refl _ _, he⟩
            · have he := ok_f he hb
              have he := ok_rq he
              refine And.intro he.1 ?_
              have he := he.2
              have he := ok_rq he
              refine And.intro he.1 ?_
              have he := he.2
              have he := ok_some he
              exact ⟨((r1_ + (1:Int)), (i + (1:Int))), he, (leads_ren [] (l := [(0, .c (.imm (.pair (.int .i64) (.pair (.int .i64) (.pair (.int .i64) (.pair (.sl (.pair (.int .i64) (.int .i64))) (.int .i64))))) a)), (1, .c (.int .i64 (r1_ + (1:Int)))), (5, .c (.int .i64 (i + (1:Int))))]) (st' := []) rfl rfl trivial ⟨.inl rfl, rfl, rfl, trivial⟩)⟩
  · have he := ok_f he hb
    have he := ok_some he
    exact ⟨rfl, _, _, Leads.refl _ _, he⟩

noncomputable def c_laws_FnExactMergeProofs : Con := fun args st => match args, st with
  | [.c (.imm (.int .i64) a0), .c (.imm (.sl (.pair (.int .i64) (.pair (.int .i64) (.pair (.int .i64) (.pair (.sl (.pair (.int .i64) (.int .i64))) (.int .i64)))))) a1)], [] => .opt (Bool) (laws_FnExactMergeProofs a0 a1) (fun r => .ret (.c (.bool r)) [])
  | _, _ => .fail

noncomputable def C_laws_FnExactMergeProofs : Cfg := { y := tys, n := 117, h := 0, tab := [(26, c_laws_toIntS), (29, c_laws_eqIntS), (31, c_laws_markIntS), (78, c_laws_szStepSS), (79, c_spec_MergeProofs), (80, c_laws_toStepSS), (81, c_impl_MergeProofs), (82, c_laws_eqStepS), (83, c_laws_eqStepSS), (84, c_laws_markStepSS), (85, c_laws_markStepS_2), (86, c_laws_heldStepS)], cut := [], hand := [(31, [0]), (84, [0]), (85, [0])], good := [], deep := [], sched := [] }

theorem t_laws_FnExactMergeProofs : TabOk Try.prog C_laws_FnExactMergeProofs := by
  refine tabOk_of ?_
  simp only [C_laws_FnExactMergeProofs, List.forall_mem_cons]
  exact ⟨k_laws_toIntS, k_laws_eqIntS, k_laws_markIntS, k_laws_szStepSS, k_spec_MergeProofs, k_laws_toStepSS, k_impl_MergeProofs, k_laws_eqStepS, k_laws_eqStepSS, k_laws_markStepSS, k_laws_markStepS_2, k_laws_heldStepS, fun p h => by cases h⟩

theorem k_laws_FnExactMergeProofs : Entry Try.prog 12 c_laws_FnExactMergeProofs := by
  refine entry_by (C := C_laws_FnExactMergeProofs) mixed tys_ok t_laws_FnExactMergeProofs (fn := Try.f12) (c := bd Try.f12) (by kernel_rfl) (by kernel_rfl) (by kernel_rfl) (by kernel_rfl) ?_
  intro args st k he
  unfold c_laws_FnExactMergeProofs at he
  split at he
  rotate_left
  · exact he.elim
  rename_i a0 a1
  have he : Ok (laws_FnExactMergeProofs a0 a1) (fun r => k (.c (.bool r)) []) := he
  refine ⟨rfl, rfl, ?_⟩
  refine And.intro (fun hb => ?_) (fun hb => ?_)
  · have he := ok_t he hb
    have he := ok_some he
    exact ⟨rfl, _, _, Leads.refl _ _, he⟩
  · have he := ok_f he hb
    obtain ⟨r1_, hr, he⟩ := ok_bind he
    refine ⟨r1_, hr, ?_⟩
    refine And.intro (fun hb => ?_) (fun hb => ?_)
    · have he := ok_t he hb
      have he := ok_some he
      exact ⟨rfl, _, _, Leads.refl _ _, he⟩
    · have he := ok_f he hb
      obtain ⟨r2_, hr, he⟩ := ok_bind he
      refine ⟨r2_, hr, ?_⟩
      obtain ⟨r3_, hr, he⟩ := ok_bind he
      refine ⟨r3_, hr, ?_⟩
      obtain ⟨r4_, hr, he⟩ := ok_bind he
      refine ⟨r4_, hr, ?_⟩
      obtain ⟨r5_, hr, he⟩ := ok_bind he
      refine ⟨r5_, hr, ?_⟩
      obtain ⟨r6_, hr, he⟩ := ok_bind he
      refine ⟨r6_, hr, ?_⟩
      obtain ⟨r7_, hr, he⟩ := ok_bind he
      refine ⟨r7_, hr, ?_⟩
      obtain ⟨r8_, hr, he⟩ := ok_bind he
      refine ⟨r8_, hr, ?_⟩
      refine And.intro (fun hb => ?_) (fun hb => ?_)
      · have he := ok_f he hb
        refine And.intro (fun hb => ?_) (fun hb => ?_)
        · have he := ok_t he hb
          have he := ok_some he
          exact ⟨rfl, _, _, (leads_ren [] (l := [(4, .c (.bool false))]) (st' := []) rfl rfl trivial ⟨.inr rfl, trivial⟩), he⟩
        · have he := ok_f he hb
          obtain ⟨r9_, hr, he⟩ := ok_bind he
          refine ⟨r9_, hr, ?_⟩
          obtain ⟨r10_, hr, he⟩ := ok_bind he
          refine ⟨r10_, hr, ?_⟩
          refine And.intro (fun hb => ?_) (fun hb => ?_)
          · have he := ok_t he hb
            have he := ok_some he
            exact ⟨rfl, _, _, (leads_ren [] (l := [(4, .c (.bool false))]) (st' := []) rfl rfl trivial ⟨.inr rfl, trivial⟩), he⟩
          · have he := ok_f he hb
            obtain ⟨r11_, hr, he⟩ := ok_bind he
            refine ⟨r11_, hr, ?_⟩
            obtain ⟨r12_, hr, he⟩ := ok_bind he
            refine ⟨r12_, hr, ?_⟩
            refine And.intro (fun hb => ?_) (fun hb => ?_)
            · have he := ok_t he hb
              have he := ok_some he
              exact ⟨rfl, _, _, (leads_ren [] (l := [(4, .c (.bool false))]) (st' := []) rfl rfl trivial ⟨.inr rfl, trivial⟩), he⟩
            · have he := ok_f he hb
              obtain ⟨r13_, hr, he⟩ := ok_bind he
              refine ⟨r13_, hr, ?_⟩
              obtain ⟨r14_, hr, he⟩ := ok_bind he
              refine ⟨r14_, hr, ?_⟩
              refine And.intro (fun hb => ?_) (fun hb => ?_)
              · have he := ok_f he hb
                obtain ⟨r15_, hr, he⟩ := ok_bind he
                refine ⟨r15_, hr, ?_⟩
                refine And.intro (fun hb => ?_) (fun hb => ?_)
                · have he := ok_f he hb
                  refine And.intro (fun hb => ?_) (fun hb => ?_)
                  · have he := ok_t he hb
                    have he := ok_some he
                    exact ⟨rfl, _, _, (leads_ren [] (l := [(4, .c (.bool false))]) (st' := []) rfl rfl trivial ⟨.inr rfl, trivial⟩), he⟩
                  · have he := ok_f he hb
                    obtain ⟨r16_, hr, he⟩ := ok_bind he
                    refine ⟨r16_, hr, ?_⟩
                    obtain ⟨r17_, hr, he⟩ := ok_bind he
                    refine ⟨r17_, hr, ?_⟩
                    refine And.intro (fun hb => ?_) (fun hb => ?_)
                    · have he := ok_t he hb
                      have he := ok_some he
                      exact ⟨rfl, _, _, (leads_ren [] (l := [(4, .c (.bool false))]) (st' := []) rfl rfl trivial ⟨.inr rfl, trivial⟩), he⟩
                    · have he := ok_f he hb
                      refine And.intro (fun hb => ?_) (fun hb => ?_)
                      · have he := ok_t he hb
                        have he := ok_some he
                        exact ⟨rfl, _, _, (leads_ren [] (l := [(4, .c (.bool false))]) (st' := []) rfl rfl trivial ⟨.inr rfl, trivial⟩), he⟩
                      · have he := ok_f he hb
                        obtain ⟨r18_, hr, he⟩ := ok_bind he
                        refine ⟨r18_, hr, ?_⟩
                        obtain ⟨r19_, hr, he⟩ := ok_bind he
                        refine ⟨r19_, hr, ?_⟩
                        obtain ⟨r20_, hr, he⟩ := ok_bind he
                        refine ⟨r20_, hr, ?_⟩
                        obtain ⟨r21_, hr, he⟩ := ok_bind he
                        refine ⟨r21_, hr, ?_⟩
                        refine And.intro (fun hb => ?_) (fun hb => ?_)
                        · have he := ok_f he hb
                          refine And.intro (fun hb => ?_) (fun hb => ?_)
                          · have he := ok_t he hb
                            have he := ok_some he
                            exact ⟨rfl, _, _, (leads_ren [] (l := [(4, .c (.bool false))]) (st' := []) rfl rfl trivial ⟨.inr rfl, trivial⟩), he⟩
                          · have he := ok_f he hb
                            obtain ⟨r22_, hr, he⟩ := ok_bind he
                            refine ⟨r22_, hr, ?_⟩
                            refine And.intro (fun hb => ?_) (fun hb => ?_)
                            · have he := ok_t he hb
                              have he := ok_some he
                              exact ⟨rfl, _, _, (leads_ren [] (l := [(4, .c (.bool false))]) (st' := []) rfl rfl trivial ⟨.inr rfl, trivial⟩), he⟩
                            · have he := ok_f he hb
                              refine And.intro (fun hb => ?_) (fun hb => ?_)
                              · have he := ok_t he hb
                                have he := ok_some he
                                exact ⟨rfl, _, _, (leads_ren [] (l := [(4, .c (.bool false))]) (st' := []) rfl rfl trivial ⟨.inr rfl, trivial⟩), he⟩
                              · have he := ok_f he hb
                                have he := ok_some he
                                exact ⟨rfl, _, _, (leads_ren [] (l := [(4, .c (.bool true))]) (st' := []) rfl rfl trivial ⟨.inr rfl, trivial⟩), he⟩
                        · have he := ok_t he hb
                          have he := ok_some he
                          exact ⟨rfl, _, _, (leads_ren [] (l := [(4, .c (.bool false))]) (st' := []) rfl rfl trivial ⟨.inr rfl, trivial⟩), he⟩
                · have he := ok_t he hb
                  have he := ok_some he
                  exact ⟨rfl, _, _, (leads_ren [] (l := [(4, .c (.bool false))]) (st' := []) rfl rfl trivial ⟨.inr rfl, trivial⟩), he⟩
              · have he := ok_t he hb
                have he := ok_some he
                exact ⟨rfl, _, _, (leads_ren [] (l := [(4, .c (.bool false))]) (st' := []) rfl rfl trivial ⟨.inr rfl, trivial⟩), he⟩
      · have he := ok_t he hb
        have he := ok_some he
        exact ⟨rfl, _, _, (leads_ren [] (l := [(4, .c (.bool false))]) (st' := []) rfl rfl trivial ⟨.inr rfl, trivial⟩), he⟩

end Go.AE.Y
