/-
  Walks: each function keeps the contract that its model gives. No conditions.
-/
import Derived.Test.YtpeelmjecjbfjaaR4Tab
import Derived.Test.YtpeelmjecjbfjaaR4W2
import Derived.Test.YtpeelmjecjbfjaaR4S
namespace Go.AE.Y
open Go Go.AE Go.Proofs
set_option linter.unusedVariables false
set_option maxHeartbeats 2000000
set_option maxRecDepth 100000

noncomputable def c_laws_heldTermS : Con := fun args st => match args, st with
  | [.c (.imm (.pair (.int .i64) (.int .i64)) a), .c (.int .i64 k_)], [] => .opt (Int) (laws_heldTermS a k_) (fun r => .ret (.c (.int .i64 r)) [])
  | _, _ => .fail

noncomputable def C_laws_heldTermS : Cfg := { y := tys, n := 31, h := 0, tab := [], cut := [], hand := [], good := [], deep := [], sched := [] }

theorem t_laws_heldTermS : TabOk Try.prog C_laws_heldTermS := tabOk_of (fun p h => by cases h)

theorem k_laws_heldTermS : Entry Try.prog 120 c_laws_heldTermS := by
  refine entry_by (C := C_laws_heldTermS) mixed tys_ok t_laws_heldTermS (fn := Try.f120) (c := bd Try.f120) (by kernel_rfl) (by kernel_rfl) (by kernel_rfl) (by kernel_rfl) ?_
  intro args st k he
  unfold c_laws_heldTermS at he
  split at he
  rotate_left
  · exact he.elim
  rename_i a k_
  have he : Ok (laws_heldTermS a k_) (fun r => k (.c (.int .i64 r)) []) := he
  refine ⟨rfl, rfl, ?_⟩
  refine loop_model mixed tys_ok t_laws_heldTermS (S := Int × Int) (I := (fun (k_1, i) => (envOf [(0, .c (.imm (.pair (.int .i64) (.int .i64)) a)), (1, .c (.int .i64 k_1)), (5, .c (.int .i64 i))], []))) (f := laws_heldTermS_l1 a) (K := (fun r => k (.c (.int .i64 r)) [])) he (leads_ren [] (l := [(0, .c (.imm (.pair (.int .i64) (.int .i64)) a)), (1, .c (.int .i64 k_)), (5, .c (.int .i64 (0:Int)))]) (st' := []) rfl rfl trivial ⟨.inl rfl, rfl, rfl, trivial⟩) ?_
  rintro ⟨k_1, i⟩ J1 he
  refine And.intro (fun hb => ?_) (fun hb => ?_)
  · have he := ok_t he hb
    have he := ok_rq he
    refine And.intro he.1 ?_
    have he := he.2
    refine And.intro (fun hb => ?_) (fun hb => ?_)
    · have he := ok_t he hb
      have he := ok_some he
      exact ⟨rfl, _, _, Leads.refl _ _, he⟩
    · have he := ok_f he hb
      have he := ok_rq he
      refine And.intro he.1 ?_
      have he := he.2
      have he := ok_rq he
      refine And.intro he.1 ?_
      have he := he.2
      refine And.intro (fun hb => ?_) (fun hb => ?_)
      · have he := ok_t he hb
        have he := ok_some he
        exact ⟨rfl, _, _, Leads.refl _ _, he⟩
      · have he := ok_f he hb
        have he := ok_rq he
        refine And.intro he.1 ?_
        have he := he.2
        have he := ok_rq he
        refine And.intro he.1 ?_
        have he := he.2
        have he := ok_some he
        exact ⟨(((k_1 + (1:Int)) + (1:Int)), (i + (1:Int))), he, (leads_ren [] (l := [(0, .c (.imm (.pair (.int .i64) (.int .i64)) a)), (1, .c (.int .i64 ((k_1 + (1:Int)) + (1:Int)))), (5, .c (.int .i64 (i + (1:Int))))]) (st' := []) rfl rfl trivial ⟨.inl rfl, rfl, rfl, trivial⟩)⟩
  · have he := ok_f he hb
    have he := ok_some he
    exact ⟨rfl, _, _, Leads.refl _ _, he⟩

noncomputable def c_laws_heldConstraint : Con := fun args st => match args, st with
  | [.agg [.imm (.pair (.int .i64) (.int .i64)) a_0, .int .i64 a_1], .c (.int .i64 k_)], [] => .opt (Int) (laws_heldConstraint (a_0, a_1) k_) (fun r => .ret (.c (.int .i64 r)) [])
  | _, _ => .fail

noncomputable def C_laws_heldConstraint : Cfg := { y := tys, n := 12, h := 0, tab := [(120, c_laws_heldTermS)], cut := [], hand := [], good := [], deep := [], sched := [] }

theorem t_laws_heldConstraint : TabOk Try.prog C_laws_heldConstraint := by
  refine tabOk_of ?_
  simp only [C_laws_heldConstraint, List.forall_mem_cons]
  exact ⟨k_laws_heldTermS, fun p h => by cases h⟩

theorem k_laws_heldConstraint : Entry Try.prog 33 c_laws_heldConstraint := by
  refine entry_by (C := C_laws_heldConstraint) mixed tys_ok t_laws_heldConstraint (fn := Try.f33) (c := bd Try.f33) (by kernel_rfl) (by kernel_rfl) (by kernel_rfl) (by kernel_rfl) ?_
  intro args st k he
  unfold c_laws_heldConstraint at he
  split at he
  rotate_left
  · exact he.elim
  rename_i a_0 a_1 k_
  have he : Ok (laws_heldConstraint (a_0, a_1) k_) (fun r => k (.c (.int .i64 r)) []) := he
  refine ⟨rfl, rfl, ?_⟩
  obtain ⟨r1_, hr, he⟩ := ok_bind he
  refine ⟨r1_, hr, ?_⟩
  refine And.intro (fun hb => ?_) (fun hb => ?_)
  · have he := ok_t he hb
    have he := ok_some he
    exact ⟨rfl, _, _, (leads_ren [] (l := [(4, .c (.int .i64 (-1:Int)))]) (st' := []) rfl rfl trivial ⟨rfl, trivial⟩), he⟩
  · have he := ok_f he hb
    have he := ok_some he
    exact ⟨rfl, _, _, (leads_ren [] (l := [(4, .c (.int .i64 r1_))]) (st' := []) rfl rfl trivial ⟨rfl, trivial⟩), he⟩

noncomputable def c_laws_heldStep : Con := fun args st => match args, st with
  | [.agg [.int .i64 a_0, .int .i64 a_1, .int .i64 a_2, .imm (.pair (.int .i64) (.int .i64)) a_3, .int .i64 a_4], .c (.int .i64 k_)], [] => .opt (Int) (laws_heldStep (a_0, (a_1, (a_2, (a_3, a_4)))) k_) (fun r => .ret (.c (.int .i64 r)) [])
  | _, _ => .fail

noncomputable def C_laws_heldStep : Cfg := { y := tys, n := 12, h := 0, tab := [(33, c_laws_heldConstraint)], cut := [], hand := [], good := [], deep := [], sched := [] }

theorem t_laws_heldStep : TabOk Try.prog C_laws_heldStep := by
  refine tabOk_of ?_
  simp only [C_laws_heldStep, List.forall_mem_cons]
  exact ⟨k_laws_heldConstraint, fun p h => by cases h⟩

theorem k_laws_heldStep : Entry Try.prog 66 c_laws_heldStep := by
  refine entry_by (C := C_laws_heldStep) mixed tys_ok t_laws_heldStep (fn := Try.f66) (c := bd Try.f66) (by kernel_rfl) (by kernel_rfl) (by kernel_rfl) (by kernel_rfl) ?_
  intro args st k he
  unfold c_laws_heldStep at he
  split at he
  rotate_left
  · exact he.elim
  rename_i a_0 a_1 a_2 a_3 a_4 k_
  have he : Ok (laws_heldStep (a_0, (a_1, (a_2, (a_3, a_4)))) k_) (fun r => k (.c (.int .i64 r)) []) := he
  refine ⟨rfl, rfl, ?_⟩
  obtain ⟨r1_, hr, he⟩ := ok_bind he
  refine ⟨r1_, hr, ?_⟩
  refine And.intro (fun hb => ?_) (fun hb => ?_)
  · have he := ok_t he hb
    have he := ok_some he
    exact ⟨rfl, _, _, (leads_ren [] (l := [(4, .c (.int .i64 (-1:Int)))]) (st' := []) rfl rfl trivial ⟨rfl, trivial⟩), he⟩
  · have he := ok_f he hb
    have he := ok_some he
    exact ⟨rfl, _, _, (leads_ren [] (l := [(4, .c (.int .i64 r1_))]) (st' := []) rfl rfl trivial ⟨rfl, trivial⟩), he⟩

noncomputable def c_laws_FnExactLiftStep : Con := fun args st => match args, st with
  | [.agg [.int .i64 a0_0, .int .i64 a0_1, .int .i64 a0_2, .imm (.pair (.int .i64) (.int .i64)) a0_3, .int .i64 a0_4], .c (.imm (.int .i64) a1)], [] => .opt (Bool) (laws_FnExactLiftStep (a0_0, (a0_1, (a0_2, (a0_3, a0_4)))) a1) (fun r => .ret (.c (.bool r)) [])
  | _, _ => .fail

noncomputable def C_laws_FnExactLiftStep : Cfg := { y := tys, n := 117, h := 0, tab := [(26, c_laws_toIntS), (29, c_laws_eqIntS), (31, c_laws_markIntS), (60, c_laws_szStep), (61, c_spec_LiftStep), (62, c_laws_toStep), (63, c_impl_LiftStep), (64, c_laws_eqStep), (65, c_laws_markStep), (66, c_laws_heldStep)], cut := [15], hand := [(31, [0]), (65, [0])], good := [], deep := [], sched := [(13, (.alt 0 (.alt 1 (.alt 2 (.alt 3 (.first 4 .done) .stop) .stop) .stop) (.alt 1 (.alt 0 (.alt 2 (.alt 3 (.first 4 .done) .stop) .stop) (.alt 2 (.alt 0 (.alt 3 (.first 4 .done) .stop) .stop) .stop)) .stop)))] }

theorem t_laws_FnExactLiftStep : TabOk Try.prog C_laws_FnExactLiftStep := by
  refine tabOk_of ?_
  simp only [C_laws_FnExactLiftStep, List.forall_mem_cons]
  exact ⟨k_laws_toIntS, k_laws_eqIntS, k_laws_markIntS, k_laws_szStep, k_spec_LiftStep, k_laws_toStep, k_impl_LiftStep, k_laws_eqStep, k_laws_markStep, k_laws_heldStep, fun p h => by cases h⟩

theorem k_laws_FnExactLiftStep : Entry Try.prog 9 c_laws_FnExactLiftStep := by
  refine entry_by (C := C_laws_FnExactLiftStep) mixed tys_ok t_laws_FnExactLiftStep (fn := Try.f9) (c := bd Try.f9) (by kernel_rfl) (by kernel_rfl) (by kernel_rfl) (by kernel_rfl) ?_
  intro args st k he
  unfold c_laws_FnExactLiftStep at he
  split at he
  rotate_left
  · exact he.elim
  rename_i a0_0 a0_1 a0_2 a0_3 a0_4 a1
  have he : Ok (laws_FnExactLiftStep (a0_0, (a0_1, (a0_2, (a0_3, a0_4)))) a1) (fun r => k (.c (.bool r)) []) := he
  refine ⟨rfl, rfl, ?_⟩
  refine And.intro (fun hb => ?_) (fun hb => ?_)
  · have he := ok_t he hb
    have he := ok_some he
    exact ⟨rfl, _, _, (leads_ren [] (l := [(4, .c (.bool true))]) (st' := []) rfl rfl trivial ⟨.inr rfl, trivial⟩), he⟩
  · have he := ok_f he hb
    obtain ⟨r1_, hr, he⟩ := ok_bind he
    refine ⟨r1_, hr, ?_⟩
    refine And.intro (fun hb => ?_) (fun hb => ?_)
    · have he := ok_t he hb
      have he := ok_some he
      exact ⟨rfl, _, _, (leads_ren [] (l := [(4, .c (.bool true))]) (st' := []) rfl rfl trivial ⟨.inr rfl, trivial⟩), he⟩
    · have he := ok_f he hb
      obtain ⟨r2_, hr, he⟩ := ok_bind he
      refine ⟨r2_, hr, ?_⟩
      obtain ⟨r3_, hr, he⟩ := ok_bind he
      refine ⟨r3_, hr, ?_⟩
      obtain ⟨r4_, hr, he⟩ := ok_bind he
      refine ⟨r4_, hr, ?_⟩
      obtain ⟨r5_, hr, he⟩ := ok_bind he
      refine ⟨r5_, hr, ?_⟩
      obtain ⟨r6_, hr, he⟩ := ok_bind he
      refine ⟨r6_, hr, ?_⟩
      obtain ⟨r7_, hr, he⟩ := ok_bind he
      refine ⟨r7_, hr, ?_⟩
      obtain ⟨r8_, hr, he⟩ := ok_bind he
      refine ⟨r8_, hr, ?_⟩
      refine And.intro (fun hb => ?_) (fun hb => ?_)
      · have he := ok_f he hb
        refine And.intro (fun hb => ?_) (fun hb => ?_)
        · have he := ok_t he hb
          have he := ok_some he
          exact ⟨rfl, _, _, (leads_ren [] (l := [(4, .c (.bool false))]) (st' := []) rfl rfl trivial ⟨.inr rfl, trivial⟩), he⟩
        · have he := ok_f he hb
          refine seq_model mixed tys_ok t_laws_FnExactLiftStep (S := Unit) (I := (fun _ => (envOf [(1, .c (.imm (.int .i64) a1)), (2, .c (.ptr 10000000 0)), (6, .c (.ptr 10000001 0)), (7, .c (.bool r4_.1)), (8, .c (.ptr 10000002 0)), (9, .c (.own 10000003 false)), (10, .c (.ptr 10000004 0)), (11, .c (.bool r7_.1))], [(10000000, .rc [.int .i64 (a0_0, (a0_1, (a0_2, (a0_3, a0_4)))).1, .int .i64 (a0_0, (a0_1, (a0_2, (a0_3, a0_4)))).2.1, .int .i64 (a0_0, (a0_1, (a0_2, (a0_3, a0_4)))).2.2.1, .imm (.pair (.int .i64) (.int .i64)) (a0_0, (a0_1, (a0_2, (a0_3, a0_4)))).2.2.2.1, .int .i64 (a0_0, (a0_1, (a0_2, (a0_3, a0_4)))).2.2.2.2]), (10000001, .rc [.int .i64 r4_.2.1, .int .i64 r4_.2.2.1, .int .i64 r4_.2.2.2.1, .own 10000005 false, .int .i64 r4_.2.2.2.2.1]), (10000002, .rc [.int .i64 r5_.1, .int .i64 r5_.2.1, .int .i64 r5_.2.2.1, .own 10000006 false, .int .i64 r5_.2.2.2.1]), (10000003, .sl 3 (.int .i64) r6_ .shallow), (10000004, .rc [.int .i64 r7_.2.1, .int .i64 r7_.2.2.1, .int .i64 r7_.2.2.2.1, .own 10000007 false, .int .i64 r7_.2.2.2.2.1]), (10000005, .sl 140 (.pair (.int .i64) (.int .i64)) r4_.2.2.2.2.2 .shallow), (10000006, .sl 140 (.pair (.int .i64) (.int .i64)) r5_.2.2.2.2 .shallow), (10000007, .sl 140 (.pair (.int .i64) (.int .i64)) r7_.2.2.2.2.2 .shallow)]))) (B := fun s => Ok (laws_FnExactLiftStep_j1 (a0_0, (a0_1, (a0_2, (a0_3, a0_4)))) a1 r4_ r5_ r6_ r7_ s) (fun r => k (.c (.bool r)) [])) ?_ ?_
          · rintro ⟨⟩ he
            obtain ⟨r13_, hr, he⟩ := ok_bind he
            refine ⟨r13_, hr, ?_⟩
            obtain ⟨r14_, hr, he⟩ := ok_bind he
            refine ⟨r14_, hr, ?_⟩
            refine And.intro (fun hb => ?_) (fun hb => ?_)
            · have he := ok_t he hb
              have he := ok_some he
              exact ⟨rfl, _, _, (leads_ren [] (l := [(4, .c (.bool false))]) (st' := []) rfl rfl trivial ⟨.inr rfl, trivial⟩), he⟩
            · have he := ok_f he hb
              obtain ⟨r15_, hr, he⟩ := ok_bind he
              refine ⟨r15_, hr, ?_⟩
              obtain ⟨r16_, hr, he⟩ := ok_bind he
              refine ⟨r16_, hr, ?_⟩
              refine And.intro (fun hb => ?_) (fun hb => ?_)
              · have he := ok_f he hb
                obtain ⟨r17_, hr, he⟩ := ok_bind he
                refine ⟨r17_, hr, ?_⟩
                refine And.intro (fun hb => ?_) (fun hb => ?_)
                · have he := ok_f he hb
                  refine And.intro (fun hb => ?_) (fun hb => ?_)
                  · have he := ok_t he hb
                    have he := ok_some he
                    exact ⟨rfl, _, _, (leads_ren [] (l := [(4, .c (.bool false))]) (st' := []) rfl rfl trivial ⟨.inr rfl, trivial⟩), he⟩
                  · have he := ok_f he hb
                    obtain ⟨r18_, hr, he⟩ := ok_bind he
                    refine ⟨r18_, hr, ?_⟩
                    obtain ⟨r19_, hr, he⟩ := ok_bind he
                    refine ⟨r19_, hr, ?_⟩
                    refine And.intro (fun hb => ?_) (fun hb => ?_)
                    · have he := ok_t he hb
                      have he := ok_some he
                      exact ⟨rfl, _, _, (leads_ren [] (l := [(4, .c (.bool false))]) (st' := []) rfl rfl trivial ⟨.inr rfl, trivial⟩), he⟩
                    · have he := ok_f he hb
                      refine And.intro (fun hb => ?_) (fun hb => ?_)
                      · have he := ok_t he hb
                        have he := ok_some he
                        exact ⟨rfl, _, _, (leads_ren [] (l := [(4, .c (.bool false))]) (st' := []) rfl rfl trivial ⟨.inr rfl, trivial⟩), he⟩
                      · have he := ok_f he hb
                        obtain ⟨r20_, hr, he⟩ := ok_bind he
                        refine ⟨r20_, hr, ?_⟩
                        obtain ⟨r21_, hr, he⟩ := ok_bind he
                        refine ⟨r21_, hr, ?_⟩
                        obtain ⟨r22_, hr, he⟩ := ok_bind he
                        refine ⟨r22_, hr, ?_⟩
                        obtain ⟨r23_, hr, he⟩ := ok_bind he
                        refine ⟨r23_, hr, ?_⟩
                        refine And.intro (fun hb => ?_) (fun hb => ?_)
                        · have he := ok_f he hb
                          refine And.intro (fun hb => ?_) (fun hb => ?_)
                          · have he := ok_t he hb
                            have he := ok_some he
                            exact ⟨rfl, _, _, (leads_ren [] (l := [(4, .c (.bool false))]) (st' := []) rfl rfl trivial ⟨.inr rfl, trivial⟩), he⟩
                          · have he := ok_f he hb
                            obtain ⟨r24_, hr, he⟩ := ok_bind he
                            refine ⟨r24_, hr, ?_⟩
                            refine And.intro (fun hb => ?_) (fun hb => ?_)
                            · have he := ok_t he hb
                              have he := ok_some he
                              exact ⟨rfl, _, _, (leads_ren [] (l := [(4, .c (.bool false))]) (st' := []) rfl rfl trivial ⟨.inr rfl, trivial⟩), he⟩
                            · have he := ok_f he hb
                              refine And.intro (fun hb => ?_) (fun hb => ?_)
                              · have he := ok_t he hb
                                have he := ok_some he
                                exact ⟨rfl, _, _, (leads_ren [] (l := [(4, .c (.bool false))]) (st' := []) rfl rfl trivial ⟨.inr rfl, trivial⟩), he⟩
                              · have he := ok_f he hb
                                have he := ok_some he
                                exact ⟨rfl, _, _, (leads_ren [] (l := [(4, .c (.bool true))]) (st' := []) rfl rfl trivial ⟨.inr rfl, trivial⟩), he⟩
                        · have he := ok_t he hb
                          have he := ok_some he
                          exact ⟨rfl, _, _, (leads_ren [] (l := [(4, .c (.bool false))]) (st' := []) rfl rfl trivial ⟨.inr rfl, trivial⟩), he⟩
                · have he := ok_t he hb
                  have he := ok_some he
                  exact ⟨rfl, _, _, (leads_ren [] (l := [(4, .c (.bool false))]) (st' := []) rfl rfl trivial ⟨.inr rfl, trivial⟩), he⟩
              · have he := ok_t he hb
                have he := ok_some he
                exact ⟨rfl, _, _, (leads_ren [] (l := [(4, .c (.bool false))]) (st' := []) rfl rfl trivial ⟨.inr rfl, trivial⟩), he⟩
          · skip
            refine And.intro (by kernel_rfl) ?_
            obtain ⟨r11_, hq1, he⟩ := ok_bind he
            obtain ⟨r12_, hq2, he⟩ := ok_bind he
            refine And.intro ?_ (And.intro ?_ (trivial))
            · skip
              refine And.intro ?_ trivial
              refine And.intro ?_ trivial
              refine ⟨r11_, hq1, ?_⟩
              refine And.intro ?_ trivial
              refine ⟨r12_, hq2, ?_⟩
              refine And.intro (fun hb => ?_) (fun hb => ?_)
              · have he := ok_t he hb
                have he := ok_some he
                exact ⟨rfl, _, _, (leads_ren [] (l := [(4, .c (.bool false))]) (st' := []) rfl rfl trivial ⟨.inr rfl, trivial⟩), he⟩
              · have he := ok_f he hb
                exact ⟨(), he, (leads_ren [(10000000, 2), (10000001, 6), (10000002, 8), (10000003, 37900), (10000004, 10), (10000005, 31901), (10000006, 35901), (10000007, 41901)] (l := [(1, .c (.imm (.int .i64) a1)), (2, .c (.ptr 10000000 0)), (6, .c (.ptr 10000001 0)), (7, .c (.bool r4_.1)), (8, .c (.ptr 10000002 0)), (9, .c (.own 10000003 false)), (10, .c (.ptr 10000004 0)), (11, .c (.bool r7_.1))]) (st' := [(10000000, .rc [.int .i64 (a0_0, (a0_1, (a0_2, (a0_3, a0_4)))).1, .int .i64 (a0_0, (a0_1, (a0_2, (a0_3, a0_4)))).2.1, .int .i64 (a0_0, (a0_1, (a0_2, (a0_3, a0_4)))).2.2.1, .imm (.pair (.int .i64) (.int .i64)) (a0_0, (a0_1, (a0_2, (a0_3, a0_4)))).2.2.2.1, .int .i64 (a0_0, (a0_1, (a0_2, (a0_3, a0_4)))).2.2.2.2]), (10000001, .rc [.int .i64 r4_.2.1, .int .i64 r4_.2.2.1, .int .i64 r4_.2.2.2.1, .own 10000005 false, .int .i64 r4_.2.2.2.2.1]), (10000002, .rc [.int .i64 r5_.1, .int .i64 r5_.2.1, .int .i64 r5_.2.2.1, .own 10000006 false, .int .i64 r5_.2.2.2.1]), (10000003, .sl 3 (.int .i64) r6_ .shallow), (10000004, .rc [.int .i64 r7_.2.1, .int .i64 r7_.2.2.1, .int .i64 r7_.2.2.2.1, .own 10000007 false, .int .i64 r7_.2.2.2.2.1]), (10000005, .sl 140 (.pair (.int .i64) (.int .i64)) r4_.2.2.2.2.2 .shallow), (10000006, .sl 140 (.pair (.int .i64) (.int .i64)) r5_.2.2.2.2 .shallow), (10000007, .sl 140 (.pair (.int .i64) (.int .i64)) r7_.2.2.2.2.2 .shallow)]) rfl rfl ⟨⟨rfl, rfl, rfl, .inl rfl, rfl, trivial⟩, ⟨rfl, rfl, rfl, ⟨⟨rfl, rfl⟩, trivial⟩, rfl, trivial⟩, ⟨rfl, rfl, rfl, ⟨⟨rfl, rfl⟩, trivial⟩, rfl, trivial⟩, ⟨rfl, rfl⟩, ⟨rfl, rfl, rfl, ⟨⟨rfl, rfl⟩, trivial⟩, rfl, trivial⟩, ⟨rfl, rfl⟩, ⟨rfl, rfl⟩, ⟨rfl, rfl⟩, trivial⟩ ⟨.inl rfl, ⟨⟨rfl, rfl⟩, rfl⟩, ⟨⟨rfl, rfl⟩, rfl⟩, .inl rfl, ⟨⟨rfl, rfl⟩, rfl⟩, ⟨⟨rfl, rfl⟩, trivial⟩, ⟨⟨rfl, rfl⟩, rfl⟩, .inl rfl, trivial⟩)⟩
            · skip
              refine And.intro ?_ (And.intro ?_ (trivial))
              · skip
                refine And.intro ?_ trivial
                refine ⟨r11_, hq1, ?_⟩
                refine And.intro ?_ trivial
                refine ⟨r12_, hq2, ?_⟩
                refine And.intro (fun hb => ?_) (fun hb => ?_)
                · have he := ok_t he hb
                  have he := ok_some he
                  exact ⟨rfl, _, _, (leads_ren [] (l := [(4, .c (.bool false))]) (st' := []) rfl rfl trivial ⟨.inr rfl, trivial⟩), he⟩
                · have he := ok_f he hb
                  exact ⟨(), he, (leads_ren [(10000000, 2), (10000001, 6), (10000002, 8), (10000003, 37900), (10000004, 10), (10000005, 31901), (10000006, 35901), (10000007, 41901)] (l := [(1, .c (.imm (.int .i64) a1)), (2, .c (.ptr 10000000 0)), (6, .c (.ptr 10000001 0)), (7, .c (.bool r4_.1)), (8, .c (.ptr 10000002 0)), (9, .c (.own 10000003 false)), (10, .c (.ptr 10000004 0)), (11, .c (.bool r7_.1))]) (st' := [(10000000, .rc [.int .i64 (a0_0, (a0_1, (a0_2, (a0_3, a0_4)))).1, .int .i64 (a0_0, (a0_1, (a0_2, (a0_3, a0_4)))).2.1, .int .i64 (a0_0, (a0_1, (a0_2, (a0_3, a0_4)))).2.2.1, .imm (.pair (.int .i64) (.int .i64)) (a0_0, (a0_1, (a0_2, (a0_3, a0_4)))).2.2.2.1, .int .i64 (a0_0, (a0_1, (a0_2, (a0_3, a0_4)))).2.2.2.2]), (10000001, .rc [.int .i64 r4_.2.1, .int .i64 r4_.2.2.1, .int .i64 r4_.2.2.2.1, .own 10000005 false, .int .i64 r4_.2.2.2.2.1]), (10000002, .rc [.int .i64 r5_.1, .int .i64 r5_.2.1, .int .i64 r5_.2.2.1, .own 10000006 false, .int .i64 r5_.2.2.2.1]), (10000003, .sl 3 (.int .i64) r6_ .shallow), (10000004, .rc [.int .i64 r7_.2.1, .int .i64 r7_.2.2.1, .int .i64 r7_.2.2.2.1, .own 10000007 false, .int .i64 r7_.2.2.2.2.1]), (10000005, .sl 140 (.pair (.int .i64) (.int .i64)) r4_.2.2.2.2.2 .shallow), (10000006, .sl 140 (.pair (.int .i64) (.int .i64)) r5_.2.2.2.2 .shallow), (10000007, .sl 140 (.pair (.int .i64) (.int .i64)) r7_.2.2.2.2.2 .shallow)]) rfl rfl ⟨⟨rfl, rfl, rfl, .inl rfl, rfl, trivial⟩, ⟨rfl, rfl, rfl, ⟨⟨rfl, rfl⟩, trivial⟩, rfl, trivial⟩, ⟨rfl, rfl, rfl, ⟨⟨rfl, rfl⟩, trivial⟩, rfl, trivial⟩, ⟨rfl, rfl⟩, ⟨rfl, rfl, rfl, ⟨⟨rfl, rfl⟩, trivial⟩, rfl, trivial⟩, ⟨rfl, rfl⟩, ⟨rfl, rfl⟩, ⟨rfl, rfl⟩, trivial⟩ ⟨.inl rfl, ⟨⟨rfl, rfl⟩, rfl⟩, ⟨⟨rfl, rfl⟩, rfl⟩, .inl rfl, ⟨⟨rfl, rfl⟩, rfl⟩, ⟨⟨rfl, rfl⟩, trivial⟩, ⟨⟨rfl, rfl⟩, rfl⟩, .inl rfl, trivial⟩)⟩
              · skip
                refine ⟨r11_, hq1, ?_⟩
                refine And.intro ?_ trivial
                refine And.intro ?_ trivial
                refine ⟨r12_, hq2, ?_⟩
                refine And.intro (fun hb => ?_) (fun hb => ?_)
                · have he := ok_t he hb
                  have he := ok_some he
                  exact ⟨rfl, _, _, (leads_ren [] (l := [(4, .c (.bool false))]) (st' := []) rfl rfl trivial ⟨.inr rfl, trivial⟩), he⟩
                · have he := ok_f he hb
                  exact ⟨(), he, (leads_ren [(10000000, 2), (10000001, 6), (10000002, 8), (10000003, 37900), (10000004, 10), (10000005, 31901), (10000006, 35901), (10000007, 41901)] (l := [(1, .c (.imm (.int .i64) a1)), (2, .c (.ptr 10000000 0)), (6, .c (.ptr 10000001 0)), (7, .c (.bool r4_.1)), (8, .c (.ptr 10000002 0)), (9, .c (.own 10000003 false)), (10, .c (.ptr 10000004 0)), (11, .c (.bool r7_.1))]) (st' := [(10000000, .rc [.int .i64 (a0_0, (a0_1, (a0_2, (a0_3, a0_4)))).1, .int .i64 (a0_0, (a0_1, (a0_2, (a0_3, a0_4)))).2.1, .int .i64 (a0_0, (a0_1, (a0_2, (a0_3, a0_4)))).2.2.1, .imm (.pair (.int .i64) (.int .i64)) (a0_0, (a0_1, (a0_2, (a0_3, a0_4)))).2.2.2.1, .int .i64 (a0_0, (a0_1, (a0_2, (a0_3, a0_4)))).2.2.2.2]), (10000001, .rc [.int .i64 r4_.2.1, .int .i64 r4_.2.2.1, .int .i64 r4_.2.2.2.1, .own 10000005 false, .int .i64 r4_.2.2.2.2.1]), (10000002, .rc [.int .i64 r5_.1, .int .i64 r5_.2.1, .int .i64 r5_.2.2.1, .own 10000006 false, .int .i64 r5_.2.2.2.1]), (10000003, .sl 3 (.int .i64) r6_ .shallow), (10000004, .rc [.int .i64 r7_.2.1, .int .i64 r7_.2.2.1, .int .i64 r7_.2.2.2.1, .own 10000007 false, .int .i64 r7_.2.2.2.2.1]), (10000005, .sl 140 (.pair (.int .i64) (.int .i64)) r4_.2.2.2.2.2 .shallow), (10000006, .sl 140 (.pair (.int .i64) (.int .i64)) r5_.2.2.2.2 .shallow), (10000007, .sl 140 (.pair (.int .i64) (.int .i64)) r7_.2.2.2.2.2 .shallow)]) rfl rfl ⟨⟨rfl, rfl, rfl, .inl rfl, rfl, trivial⟩, ⟨rfl, rfl, rfl, ⟨⟨rfl, rfl⟩, trivial⟩, rfl, trivial⟩, ⟨rfl, rfl, rfl, ⟨⟨rfl, rfl⟩, trivial⟩, rfl, trivial⟩, ⟨rfl, rfl⟩, ⟨rfl, rfl, rfl, ⟨⟨rfl, rfl⟩, trivial⟩, rfl, trivial⟩, ⟨rfl, rfl⟩, ⟨rfl, rfl⟩, ⟨rfl, rfl⟩, trivial⟩ ⟨.inl rfl, ⟨⟨rfl, rfl⟩, rfl⟩, ⟨⟨rfl, rfl⟩, rfl⟩, .inl rfl, ⟨⟨rfl, rfl⟩, rfl⟩, ⟨⟨rfl, rfl⟩, trivial⟩, ⟨⟨rfl, rfl⟩, rfl⟩, .inl rfl, trivial⟩)⟩
      · have he := ok_t he hb
        have he := ok_some he
        exact ⟨rfl, _, _, (leads_ren [] (l := [(4, .c (.bool false))]) (st' := []) rfl rfl trivial ⟨.inr rfl, trivial⟩), he⟩

end Go.AE.Y
