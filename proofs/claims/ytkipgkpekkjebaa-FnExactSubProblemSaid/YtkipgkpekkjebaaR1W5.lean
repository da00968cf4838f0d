/-
  Walks: each function keeps the contract that its model gives. No conditions.
-/
import Derived.Test.YtkipgkpekkjebaaR1Tab
import Derived.Test.YtkipgkpekkjebaaR1W4
namespace Go.AE.Y
open Go Go.AE Go.Proofs
set_option linter.unusedVariables false
set_option maxHeartbeats 2000000
set_option maxRecDepth 100000

noncomputable def c_laws_heldConstraintS : Con := fun args st => match args, st with
  | [.c (.imm (.pair (.sl (.pair (.int .i64) (.int .i64))) (.int .i64)) a), .c (.int .i64 k_)], [] => .opt (Int) (laws_heldConstraintS a k_) (fun r => .ret (.c (.int .i64 r)) [])
  | _, _ => .fail

noncomputable def C_laws_heldConstraintS : Cfg := { y := tys, n := 31, h := 0, tab := [(92, c_laws_heldTermS)], cut := [], hand := [], good := [], deep := [], sched := [] }

theorem t_laws_heldConstraintS : TabOk Try.prog C_laws_heldConstraintS := by
  refine tabOk_of ?_
  simp only [C_laws_heldConstraintS, List.forall_mem_cons]
  exact ⟨k_laws_heldTermS, fun p h => by cases h⟩

theorem k_laws_heldConstraintS : Entry Try.prog 47 c_laws_heldConstraintS := by
  refine entry_by (C := C_laws_heldConstraintS) mixed tys_ok t_laws_heldConstraintS (fn := Try.f47) (c := bd Try.f47) (by kernel_rfl) (by kernel_rfl) (by kernel_rfl) (by kernel_rfl) ?_
  intro args st k he
  unfold c_laws_heldConstraintS at he
  split at he
  rotate_left
  · exact he.elim
  rename_i a k_
  have he : Ok (laws_heldConstraintS a k_) (fun r => k (.c (.int .i64 r)) []) := he
  refine ⟨rfl, rfl, ?_⟩
  refine loop_model mixed tys_ok t_laws_heldConstraintS (S := Int × Int) (I := (fun (k_1, i) => (envOf [(0, .c (.imm (.pair (.sl (.pair (.int .i64) (.int .i64))) (.int .i64)) a)), (1, .c (.int .i64 k_1)), (5, .c (.int .i64 i))], []))) (f := laws_heldConstraintS_l1 a) (K := (fun r => k (.c (.int .i64 r)) [])) he (leads_ren [] (l := [(0, .c (.imm (.pair (.sl (.pair (.int .i64) (.int .i64))) (.int .i64)) a)), (1, .c (.int .i64 k_)), (5, .c (.int .i64 (0:Int)))]) (st' := []) rfl rfl trivial ⟨.inl rfl, rfl, rfl, trivial⟩) ?_
  rintro ⟨k_1, i⟩ J1 he
  refine And.intro (fun hb => ?_) (fun hb => ?_)
  · have he := ok_t he hb
    have he := ok_rq he
    refine And.intro he.1 ?_
    have he := he.2
    obtain ⟨r1_, hr, he⟩ := ok_bind he
    refine ⟨r1_, hr, ?_⟩
    refine And.intro (fun hb => ?_) (fun hb => ?_)
    · have he := ok_t he hb
      have he := ok_some he
      exact ⟨rfl, _, _, Leads.refl _ _, he⟩
    · have he := ok_f he hb
      have he := ok_rq he
      refine And.intro he.1 ?_
      have he := he.2
      refine And.intro (fun hb => ?_) (fun hb => ?_)
      · have he := ok_t he hb
        have he := ok_some he
        exact ⟨rfl, _, _, Leads.refl _ _, he⟩
      · have he := ok_f he hb
        have he := ok_rq he
        refine And.intro he.1 ?_
        have he := he.2
        have he := ok_rq he
        refine And.intro he.1 ?_
        have he := he.2
        have he := ok_some he
        exact ⟨((r1_ + (1:Int)), (i + (1:Int))), he, (leads_ren [] (l := [(0, .c (.imm (.pair (.sl (.pair (.int .i64) (.int .i64))) (.int .i64)) a)), (1, .c (.int .i64 (r1_ + (1:Int)))), (5, .c (.int .i64 (i + (1:Int))))]) (st' := []) rfl rfl trivial ⟨.inl rfl, rfl, rfl, trivial⟩)⟩
  · have he := ok_f he hb
    have he := ok_some he
    exact ⟨rfl, _, _, Leads.refl _ _, he⟩

noncomputable def c_laws_FnExactSubProblem : Con := fun args st => match args, st with
  | [.c (.imm (.pair (.sl (.pair (.int .i64) (.int .i64))) (.int .i64)) a0), .c (.imm (.int .i64) a1)], [] => .opt (Bool) (laws_FnExactSubProblem a0 a1) (fun r => .ret (.c (.bool r)) [])
  | _, _ => .fail

noncomputable def C_laws_FnExactSubProblem : Cfg := { y := tys, n := 117, h := 0, tab := [(16, c_laws_toIntS), (19, c_laws_eqIntS), (24, c_laws_markIntS), (34, c_laws_szConstraintS), (35, c_laws_toConstraintS), (36, c_laws_eqConstraintS), (42, c_impl_SubProblem), (43, c_spec_SubProblem), (46, c_laws_markConstraintS), (47, c_laws_heldConstraintS)], cut := [], hand := [(24, [0]), (46, [0])], good := [], deep := [], sched := [] }

theorem t_laws_FnExactSubProblem : TabOk Try.prog C_laws_FnExactSubProblem := by
  refine tabOk_of ?_
  simp only [C_laws_FnExactSubProblem, List.forall_mem_cons]
  exact ⟨k_laws_toIntS, k_laws_eqIntS, k_laws_markIntS, k_laws_szConstraintS, k_laws_toConstraintS, k_laws_eqConstraintS, k_impl_SubProblem, k_spec_SubProblem, k_laws_markConstraintS, k_laws_heldConstraintS, fun p h => by cases h⟩

theorem k_laws_FnExactSubProblem : Entry Try.prog 11 c_laws_FnExactSubProblem := by
  refine entry_by (C := C_laws_FnExactSubProblem) mixed tys_ok t_laws_FnExactSubProblem (fn := Try.f11) (c := bd Try.f11) (by kernel_rfl) (by kernel_rfl) (by kernel_rfl) (by kernel_rfl) ?_
  intro args st k he
  unfold c_laws_FnExactSubProblem at he
  split at he
  rotate_left
  · exact he.elim
  rename_i a0 a1
  have he : Ok (laws_FnExactSubProblem a0 a1) (fun r => k (.c (.bool r)) []) := he
  refine ⟨rfl, rfl, ?_⟩
  refine And.intro (fun hb => ?_) (fun hb => ?_)
  · have he := ok_t he hb
    have he := ok_some he
    exact ⟨rfl, _, _, Leads.refl _ _, he⟩
  · have he := ok_f he hb
    obtain ⟨r1_, hr, he⟩ := ok_bind he
    refine ⟨r1_, hr, ?_⟩
    refine And.intro (fun hb => ?_) (fun hb => ?_)
    · have he := ok_t he hb
      have he := ok_some he
      exact ⟨rfl, _, _, Leads.refl _ _, he⟩
    · have he := ok_f he hb
      obtain ⟨r2_, hr, he⟩ := ok_bind he
      refine ⟨r2_, hr, ?_⟩
      obtain ⟨r3_, hr, he⟩ := ok_bind he
      refine ⟨r3_, hr, ?_⟩
      obtain ⟨r4_, hr, he⟩ := ok_bind he
      refine ⟨r4_, hr, ?_⟩
      obtain ⟨r5_, hr, he⟩ := ok_bind he
      refine ⟨r5_, hr, ?_⟩
      obtain ⟨r6_, hr, he⟩ := ok_bind he
      refine ⟨r6_, hr, ?_⟩
      obtain ⟨r7_, hr, he⟩ := ok_bind he
      refine ⟨r7_, hr, ?_⟩
      obtain ⟨r8_, hr, he⟩ := ok_bind he
      refine ⟨r8_, hr, ?_⟩
      refine And.intro (fun hb => ?_) (fun hb => ?_)
      · have he := ok_f he hb
        refine And.intro (fun hb => ?_) (fun hb => ?_)
        · have he := ok_t he hb
          have he := ok_some he
          exact ⟨rfl, _, _, (leads_ren [] (l := [(4, .c (.bool false))]) (st' := []) rfl rfl trivial ⟨.inr rfl, trivial⟩), he⟩
        · have he := ok_f he hb
          obtain ⟨r9_, hr, he⟩ := ok_bind he
          refine ⟨r9_, hr, ?_⟩
          obtain ⟨r10_, hr, he⟩ := ok_bind he
          refine ⟨r10_, hr, ?_⟩
          refine And.intro (fun hb => ?_) (fun hb => ?_)
          · have he := ok_t he hb
            have he := ok_some he
            exact ⟨rfl, _, _, (leads_ren [] (l := [(4, .c (.bool false))]) (st' := []) rfl rfl trivial ⟨.inr rfl, trivial⟩), he⟩
          · have he := ok_f he hb
            obtain ⟨r11_, hr, he⟩ := ok_bind he
            refine ⟨r11_, hr, ?_⟩
            obtain ⟨r12_, hr, he⟩ := ok_bind he
            refine ⟨r12_, hr, ?_⟩
            refine And.intro (fun hb => ?_) (fun hb => ?_)
            · have he := ok_t he hb
              have he := ok_some he
              exact ⟨rfl, _, _, (leads_ren [] (l := [(4, .c (.bool false))]) (st' := []) rfl rfl trivial ⟨.inr rfl, trivial⟩), he⟩
            · have he := ok_f he hb
              obtain ⟨r13_, hr, he⟩ := ok_bind he
              refine ⟨r13_, hr, ?_⟩
              obtain ⟨r14_, hr, he⟩ := ok_bind he
              refine ⟨r14_, hr, ?_⟩
              refine And.intro (fun hb => ?_) (fun hb => ?_)
              · have he := ok_f he hb
                obtain ⟨r15_, hr, he⟩ := ok_bind he
                refine ⟨r15_, hr, ?_⟩
                refine And.intro (fun hb => ?_) (fun hb => ?_)
                · have he := ok_f he hb
                  refine And.intro (fun hb => ?_) (fun hb => ?_)
                  · have he := ok_t he hb
                    have he := ok_some he
                    exact ⟨rfl, _, _, (leads_ren [] (l := [(4, .c (.bool false))]) (st' := []) rfl rfl trivial ⟨.inr rfl, trivial⟩), he⟩
                  · have he := ok_f he hb
                    obtain ⟨r16_, hr, he⟩ := ok_bind he
                    refine ⟨r16_, hr, ?_⟩
                    obtain ⟨r17_, hr, he⟩ := ok_bind he
                    refine ⟨r17_, hr, ?_⟩
                    refine And.intro (fun hb => ?_) (fun hb => ?_)
                    · have he := ok_t he hb
                      have he := ok_some he
                      exact ⟨rfl, _, _, (leads_ren [] (l := [(4, .c (.bool false))]) (st' := []) rfl rfl trivial ⟨.inr rfl, trivial⟩), he⟩
                    · have he := ok_f he hb
                      refine And.intro (fun hb => ?_) (fun hb => ?_)
                      · have he := ok_t he hb
                        have he := ok_some he
                        exact ⟨rfl, _, _, (leads_ren [] (l := [(4, .c (.bool false))]) (st' := []) rfl rfl trivial ⟨.inr rfl, trivial⟩), he⟩
                      · have he := ok_f he hb
                        obtain ⟨r18_, hr, he⟩ := ok_bind he
                        refine ⟨r18_, hr, ?_⟩
                        obtain ⟨r19_, hr, he⟩ := ok_bind he
                        refine ⟨r19_, hr, ?_⟩
                        obtain ⟨r20_, hr, he⟩ := ok_bind he
                        refine ⟨r20_, hr, ?_⟩
                        obtain ⟨r21_, hr, he⟩ := ok_bind he
                        refine ⟨r21_, hr, ?_⟩
                        refine And.intro (fun hb => ?_) (fun hb => ?_)
                        · have he := ok_f he hb
                          refine And.intro (fun hb => ?_) (fun hb => ?_)
                          · have he := ok_t he hb
                            have he := ok_some he
                            exact ⟨rfl, _, _, (leads_ren [] (l := [(4, .c (.bool false))]) (st' := []) rfl rfl trivial ⟨.inr rfl, trivial⟩), he⟩
                          · have he := ok_f he hb
                            obtain ⟨r22_, hr, he⟩ := ok_bind he
                            refine ⟨r22_, hr, ?_⟩
                            refine And.intro (fun hb => ?_) (fun hb => ?_)
                            · have he := ok_t he hb
                              have he := ok_some he
                              exact ⟨rfl, _, _, (leads_ren [] (l := [(4, .c (.bool false))]) (st' := []) rfl rfl trivial ⟨.inr rfl, trivial⟩), he⟩
                            · have he := ok_f he hb
                              refine And.intro (fun hb => ?_) (fun hb => ?_)
                              · have he := ok_t he hb
                                have he := ok_some he
                                exact ⟨rfl, _, _, (leads_ren [] (l := [(4, .c (.bool false))]) (st' := []) rfl rfl trivial ⟨.inr rfl, trivial⟩), he⟩
                              · have he := ok_f he hb
                                have he := ok_some he
                                exact ⟨rfl, _, _, (leads_ren [] (l := [(4, .c (.bool true))]) (st' := []) rfl rfl trivial ⟨.inr rfl, trivial⟩), he⟩
                        · have he := ok_t he hb
                          have he := ok_some he
                          exact ⟨rfl, _, _, (leads_ren [] (l := [(4, .c (.bool false))]) (st' := []) rfl rfl trivial ⟨.inr rfl, trivial⟩), he⟩
                · have he := ok_t he hb
                  have he := ok_some he
                  exact ⟨rfl, _, _, (leads_ren [] (l := [(4, .c (.bool false))]) (st' := []) rfl rfl trivial ⟨.inr rfl, trivial⟩), he⟩
              · have he := ok_t he hb
                have he := ok_some he
                exact ⟨rfl, _, _, (leads_ren [] (l := [(4, .c (.bool false))]) (st' := []) rfl rfl trivial ⟨.inr rfl, trivial⟩), he⟩
      · have he := ok_t he hb
        have he := ok_some he
        exact ⟨rfl, _, _, (leads_ren [] (l := [(4, .c (.bool false))]) (st' := []) rfl rfl trivial ⟨.inr rfl, trivial⟩), he⟩

noncomputable def c_laws_markBoolS : Con := fun args st => match args, st with
  | [.c (.own 0), .c (.int .i64 k_)], [(0, .sl 4 .bool a .shallow)] => .opt (Int × (List Bool)) (laws_markBoolS k_ a) (fun r => .ret (.c (.int .i64 r.1)) [(0, .sl 4 .bool r.2 .shallow)])
  | _, _ => .fail

noncomputable def C_laws_markBoolS : Cfg := { y := tys, n := 21, h := 1, tab := [], cut := [], hand := [], good := [], deep := [], sched := [] }

theorem t_laws_markBoolS : TabOk Try.prog C_laws_markBoolS := tabOk_of (fun p h => by cases h)

theorem k_laws_markBoolS : Entry Try.prog 48 c_laws_markBoolS := by
  refine entry_by (C := C_laws_markBoolS) mixed tys_ok t_laws_markBoolS (fn := Try.f48) (c := bd Try.f48) (by kernel_rfl) (by kernel_rfl) (by kernel_rfl) (by kernel_rfl) ?_
  intro args st k he
  unfold c_laws_markBoolS at he
  split at he
  rotate_left
  · exact he.elim
  rename_i k_ a
  have he : Ok (laws_markBoolS k_ a) (fun r => k (.c (.int .i64 r.1)) [(0, .sl 4 .bool r.2 .shallow)]) := he
  refine ⟨rfl, rfl, ?_⟩
  refine loop_model mixed tys_ok t_laws_markBoolS (S := Int × Int × (List Bool)) (I := (fun (k_1, i, a1) => (envOf [(0, .c (.own 0)), (1, .c (.int .i64 k_1)), (5, .c (.int .i64 i))], [(0, .sl 4 .bool a1 .shallow)]))) (f := laws_markBoolS_l1) (K := (fun r => k (.c (.int .i64 r.1)) [(0, .sl 4 .bool r.2 .shallow)])) he (leads_ren [] (l := [(0, .c (.own 0)), (1, .c (.int .i64 k_)), (5, .c (.int .i64 (0:Int)))]) (st' := [(0, .sl 4 .bool a .shallow)]) rfl rfl ⟨⟨rfl, rfl⟩, trivial⟩ ⟨⟨rfl, rfl⟩, rfl, rfl, trivial⟩) ?_
  rintro ⟨k_1, i, a1⟩ J1 he
  refine And.intro (fun hb => ?_) (fun hb => ?_)
  · have he := ok_t he hb
    have he := ok_rq he
    refine And.intro he.1 ?_
    have he := he.2
    have he := ok_rq he
    refine And.intro he.1 ?_
    have he := he.2
    have he := ok_rq he
    refine And.intro he.1 ?_
    have he := he.2
    have he := ok_rq he
    refine And.intro he.1 ?_
    have he := he.2
    have he := ok_some he
    exact ⟨((k_1 + (1:Int)), (i + (1:Int)), (a1.set i.toNat ((k_1 % (3:Int)) == (0:Int)))), he, (leads_ren [] (l := [(0, .c (.own 0)), (1, .c (.int .i64 (k_1 + (1:Int)))), (5, .c (.int .i64 (i + (1:Int))))]) (st' := [(0, .sl 4 .bool (a1.set i.toNat ((k_1 % (3:Int)) == (0:Int))) .shallow)]) rfl rfl ⟨⟨rfl, rfl⟩, trivial⟩ ⟨⟨rfl, rfl⟩, rfl, rfl, trivial⟩)⟩
  · have he := ok_f he hb
    have he := ok_some he
    exact ⟨rfl, _, _, (leads_ren [] (l := [(4, .c (.int .i64 k_1))]) (st' := [(0, .sl 4 .bool a1 .shallow)]) rfl rfl ⟨⟨rfl, rfl⟩, trivial⟩ ⟨rfl, trivial⟩), he⟩

noncomputable def c_laws_heldBoolS : Con := fun args st => match args, st with
  | [.c (.imm .bool a), .c (.int .i64 k_)], [] => .opt (Int) (laws_heldBoolS a k_) (fun r => .ret (.c (.int .i64 r)) [])
  | _, _ => .fail

noncomputable def C_laws_heldBoolS : Cfg := { y := tys, n := 23, h := 0, tab := [], cut := [], hand := [], good := [], deep := [], sched := [] }

theorem t_laws_heldBoolS : TabOk Try.prog C_laws_heldBoolS := tabOk_of (fun p h => by cases h)

theorem k_laws_heldBoolS : Entry Try.prog 49 c_laws_heldBoolS := by
  refine entry_by (C := C_laws_heldBoolS) mixed tys_ok t_laws_heldBoolS (fn := Try.f49) (c := bd Try.f49) (by kernel_rfl) (by kernel_rfl) (by kernel_rfl) (by kernel_rfl) ?_
  intro args st k he
  unfold c_laws_heldBoolS at he
  split at he
  rotate_left
  · exact he.elim
  rename_i a k_
  have he : Ok (laws_heldBoolS a k_) (fun r => k (.c (.int .i64 r)) []) := he
  refine ⟨rfl, rfl, ?_⟩
  refine loop_model mixed tys_ok t_laws_heldBoolS (S := Int × Int) (I := (fun (k_1, i) => (envOf [(0, .c (.imm .bool a)), (1, .c (.int .i64 k_1)), (5, .c (.int .i64 i))], []))) (f := laws_heldBoolS_l1 a) (K := (fun r => k (.c (.int .i64 r)) [])) he (leads_ren [] (l := [(0, .c (.imm .bool a)), (1, .c (.int .i64 k_)), (5, .c (.int .i64 (0:Int)))]) (st' := []) rfl rfl trivial ⟨.inl rfl, rfl, rfl, trivial⟩) ?_
  rintro ⟨k_1, i⟩ J1 he
  refine And.intro (fun hb => ?_) (fun hb => ?_)
  · have he := ok_t he hb
    have he := ok_rq he
    refine And.intro he.1 ?_
    have he := he.2
    have he := ok_rq he
    refine And.intro he.1 ?_
    have he := he.2
    refine And.intro (fun hb => ?_) (fun hb => ?_)
    · have he := ok_t he hb
      have he := ok_some he
      exact ⟨rfl, _, _, Leads.refl _ _, he⟩
    · have he := ok_f he hb
      have he := ok_rq he
      refine And.intro he.1 ?_
      have he := he.2
      have he := ok_rq he
      refine And.intro he.1 ?_
      have he := he.2
      have he := ok_some he
      exact ⟨((k_1 + (1:Int)), (i + (1:Int))), he, (leads_ren [] (l := [(0, .c (.imm .bool a)), (1, .c (.int .i64 (k_1 + (1:Int)))), (5, .c (.int .i64 (i + (1:Int))))]) (st' := []) rfl rfl trivial ⟨.inl rfl, rfl, rfl, trivial⟩)⟩
  · have he := ok_f he hb
    have he := ok_some he
    exact ⟨rfl, _, _, Leads.refl _ _, he⟩

noncomputable def c_laws_FnExactFlipBest : Con := fun args st => match args, st with
  | [.c (.imm (.pair (.sl (.pair (.int .i64) (.int .i64))) (.int .i64)) a0), .c (.imm .bool a1)], [] => .opt (Bool) (laws_FnExactFlipBest a0 a1) (fun r => .ret (.c (.bool r)) [])
  | _, _ => .fail

noncomputable def C_laws_FnExactFlipBest : Cfg := { y := tys, n := 138, h := 0, tab := [(17, c_laws_toBoolS), (20, c_laws_eqBoolS), (34, c_laws_szConstraintS), (35, c_laws_toConstraintS), (36, c_laws_eqConstraintS), (38, c_impl_FlipBest), (39, c_spec_FlipBest), (46, c_laws_markConstraintS), (48, c_laws_markBoolS), (49, c_laws_heldBoolS)], cut := [], hand := [(46, [0]), (48, [0])], good := [], deep := [], sched := [] }

theorem t_laws_FnExactFlipBest : TabOk Try.prog C_laws_FnExactFlipBest := by
  refine tabOk_of ?_
  simp only [C_laws_FnExactFlipBest, List.forall_mem_cons]
  exact ⟨k_laws_toBoolS, k_laws_eqBoolS, k_laws_szConstraintS, k_laws_toConstraintS, k_laws_eqConstraintS, k_impl_FlipBest, k_spec_FlipBest, k_laws_markConstraintS, k_laws_markBoolS, k_laws_heldBoolS, fun p h => by cases h⟩

theorem k_laws_FnExactFlipBest : Entry Try.prog 12 c_laws_FnExactFlipBest := by
  refine entry_by (C := C_laws_FnExactFlipBest) mixed tys_ok t_laws_FnExactFlipBest (fn := Try.f12) (c := bd Try.f12) (by kernel_rfl) (by kernel_rfl) (by kernel_rfl) (by kernel_rfl) ?_
  intro args st k he
  unfold c_laws_FnExactFlipBest at he
  split at he
  rotate_left
  · exact he.elim
  rename_i a0 a1
  have he : Ok (laws_FnExactFlipBest a0 a1) (fun r => k (.c (.bool r)) []) := he
  refine ⟨rfl, rfl, ?_⟩
  refine And.intro (fun hb => ?_) (fun hb => ?_)
  · have he := ok_t he hb
    have he := ok_some he
    exact ⟨rfl, _, _, Leads.refl _ _, he⟩
  · have he := ok_f he hb
    obtain ⟨r1_, hr, he⟩ := ok_bind he
    refine ⟨r1_, hr, ?_⟩
    refine And.intro (fun hb => ?_) (fun hb => ?_)
    · have he := ok_t he hb
      have he := ok_some he
      exact ⟨rfl, _, _, Leads.refl _ _, he⟩
    · have he := ok_f he hb
      obtain ⟨r2_, hr, he⟩ := ok_bind he
      refine ⟨r2_, hr, ?_⟩
      obtain ⟨r3_, hr, he⟩ := ok_bind he
      refine ⟨r3_, hr, ?_⟩
      obtain ⟨r4_, hr, he⟩ := ok_bind he
      refine ⟨r4_, hr, ?_⟩
      obtain ⟨r5_, hr, he⟩ := ok_bind he
      refine ⟨r5_, hr, ?_⟩
      obtain ⟨r6_, hr, he⟩ := ok_bind he
      refine ⟨r6_, hr, ?_⟩
      obtain ⟨r7_, hr, he⟩ := ok_bind he
      refine ⟨r7_, hr, ?_⟩
      obtain ⟨r8_, hr, he⟩ := ok_bind he
      refine ⟨r8_, hr, ?_⟩
      refine And.intro (fun hb => ?_) (fun hb => ?_)
      · have he := ok_f he hb
        refine And.intro (fun hb => ?_) (fun hb => ?_)
        · have he := ok_f he hb
          refine And.intro (fun hb => ?_) (fun hb => ?_)
          · have he := ok_t he hb
            have he := ok_some he
            exact ⟨rfl, _, _, (leads_ren [] (l := [(4, .c (.bool false))]) (st' := []) rfl rfl trivial ⟨.inr rfl, trivial⟩), he⟩
          · have he := ok_f he hb
            obtain ⟨r9_, hr, he⟩ := ok_bind he
            refine ⟨r9_, hr, ?_⟩
            obtain ⟨r10_, hr, he⟩ := ok_bind he
            refine ⟨r10_, hr, ?_⟩
            refine And.intro (fun hb => ?_) (fun hb => ?_)
            · have he := ok_t he hb
              have he := ok_some he
              exact ⟨rfl, _, _, (leads_ren [] (l := [(4, .c (.bool false))]) (st' := []) rfl rfl trivial ⟨.inr rfl, trivial⟩), he⟩
            · have he := ok_f he hb
              obtain ⟨r11_, hr, he⟩ := ok_bind he
              refine ⟨r11_, hr, ?_⟩
              obtain ⟨r12_, hr, he⟩ := ok_bind he
              refine ⟨r12_, hr, ?_⟩
              refine And.intro (fun hb => ?_) (fun hb => ?_)
              · have he := ok_t he hb
                have he := ok_some he
                exact ⟨rfl, _, _, (leads_ren [] (l := [(4, .c (.bool false))]) (st' := []) rfl rfl trivial ⟨.inr rfl, trivial⟩), he⟩
              · have he := ok_f he hb
                obtain ⟨r13_, hr, he⟩ := ok_bind he
                refine ⟨r13_, hr, ?_⟩
                obtain ⟨r14_, hr, he⟩ := ok_bind he
                refine ⟨r14_, hr, ?_⟩
                refine And.intro (fun hb => ?_) (fun hb => ?_)
                · have he := ok_f he hb
                  obtain ⟨r15_, hr, he⟩ := ok_bind he
                  refine ⟨r15_, hr, ?_⟩
                  refine And.intro (fun hb => ?_) (fun hb => ?_)
                  · have he := ok_f he hb
                    refine And.intro (fun hb => ?_) (fun hb => ?_)
                    · have he := ok_f he hb
                      refine And.intro (fun hb => ?_) (fun hb => ?_)
                      · have he := ok_t he hb
                        have he := ok_some he
                        exact ⟨rfl, _, _, (leads_ren [] (l := [(4, .c (.bool false))]) (st' := []) rfl rfl trivial ⟨.inr rfl, trivial⟩), he⟩
                      · have he := ok_f he hb
                        obtain ⟨r16_, hr, he⟩ := ok_bind he
                        refine ⟨r16_, hr, ?_⟩
                        obtain ⟨r17_, hr, he⟩ := ok_bind he
                        refine ⟨r17_, hr, ?_⟩
                        refine And.intro (fun hb => ?_) (fun hb => ?_)
                        · have he := ok_t he hb
                          have he := ok_some he
                          exact ⟨rfl, _, _, (leads_ren [] (l := [(4, .c (.bool false))]) (st' := []) rfl rfl trivial ⟨.inr rfl, trivial⟩), he⟩
                        · have he := ok_f he hb
                          refine And.intro (fun hb => ?_) (fun hb => ?_)
                          · have he := ok_t he hb
                            have he := ok_some he
                            exact ⟨rfl, _, _, (leads_ren [] (l := [(4, .c (.bool false))]) (st' := []) rfl rfl trivial ⟨.inr rfl, trivial⟩), he⟩
                          · have he := ok_f he hb
                            obtain ⟨r18_, hr, he⟩ := ok_bind he
                            refine ⟨r18_, hr, ?_⟩
                            obtain ⟨r19_, hr, he⟩ := ok_bind he
                            refine ⟨r19_, hr, ?_⟩
                            obtain ⟨r20_, hr, he⟩ := ok_bind he
                            refine ⟨r20_, hr, ?_⟩
                            obtain ⟨r21_, hr, he⟩ := ok_bind he
                            refine ⟨r21_, hr, ?_⟩
                            refine And.intro (fun hb => ?_) (fun hb => ?_)
                            · have he := ok_f he hb
                              refine And.intro (fun hb => ?_) (fun hb => ?_)
                              · have he := ok_f he hb
                                refine And.intro (fun hb => ?_) (fun hb => ?_)
                                · have he := ok_t he hb
                                  have he := ok_some he
                                  exact ⟨rfl, _, _, (leads_ren [] (l := [(4, .c (.bool false))]) (st' := []) rfl rfl trivial ⟨.inr rfl, trivial⟩), he⟩
                                · have he := ok_f he hb
                                  obtain ⟨r22_, hr, he⟩ := ok_bind he
                                  refine ⟨r22_, hr, ?_⟩
                                  refine And.intro (fun hb => ?_) (fun hb => ?_)
                                  · have he := ok_t he hb
                                    have he := ok_some he
                                    exact ⟨rfl, _, _, (leads_ren [] (l := [(4, .c (.bool false))]) (st' := []) rfl rfl trivial ⟨.inr rfl, trivial⟩), he⟩
                                  · have he := ok_f he hb
                                    refine And.intro (fun hb => ?_) (fun hb => ?_)
                                    · have he := ok_t he hb
                                      have he := ok_some he
                                      exact ⟨rfl, _, _, (leads_ren [] (l := [(4, .c (.bool false))]) (st' := []) rfl rfl trivial ⟨.inr rfl, trivial⟩), he⟩
                                    · have he := ok_f he hb
                                      have he := ok_some he
                                      exact ⟨rfl, _, _, (leads_ren [] (l := [(4, .c (.bool true))]) (st' := []) rfl rfl trivial ⟨.inr rfl, trivial⟩), he⟩
                              · have he := ok_t he hb
                                have he := ok_some he
                                exact ⟨rfl, _, _, (leads_ren [] (l := [(4, .c (.bool false))]) (st' := []) rfl rfl trivial ⟨.inr rfl, trivial⟩), he⟩
                            · have he := ok_t he hb
                              have he := ok_some he
                              exact ⟨rfl, _, _, (leads_ren [] (l := [(4, .c (.bool false))]) (st' := []) rfl rfl trivial ⟨.inr rfl, trivial⟩), he⟩
                    · have he := ok_t he hb
                      have he := ok_some he
                      exact ⟨rfl, _, _, (leads_ren [] (l := [(4, .c (.bool false))]) (st' := []) rfl rfl trivial ⟨.inr rfl, trivial⟩), he⟩
                  · have he := ok_t he hb
                    have he := ok_some he
                    exact ⟨rfl, _, _, (leads_ren [] (l := [(4, .c (.bool false))]) (st' := []) rfl rfl trivial ⟨.inr rfl, trivial⟩), he⟩
                · have he := ok_t he hb
                  have he := ok_some he
                  exact ⟨rfl, _, _, (leads_ren [] (l := [(4, .c (.bool false))]) (st' := []) rfl rfl trivial ⟨.inr rfl, trivial⟩), he⟩
        · have he := ok_t he hb
          have he := ok_some he
          exact ⟨rfl, _, _, (leads_ren [] (l := [(4, .c (.bool false))]) (st' := []) rfl rfl trivial ⟨.inr rfl, trivial⟩), he⟩
      · have he := ok_t he hb
        have he := ok_some he
        exact ⟨rfl, _, _, (leads_ren [] (l := [(4, .c (.bool false))]) (st' := []) rfl rfl trivial ⟨.inr rfl, trivial⟩), he⟩

noncomputable def c_spec_l12Under : Con := fun args st => match args, st with
  | [.c (.imm (.pair (.sl (.pair (.int .i64) (.int .i64))) (.int .i64)) list_), .c (.imm (.int .i64) cube)], [] => .opt ((List ((List (Int × Int)) × Int))) (spec_l12Under list_ cube) (fun r => .ret (.c (.own 900)) [(900, .sl 81 (.pair (.sl (.pair (.int .i64) (.int .i64))) (.int .i64)) r (.deep true .no))])
  | _, _ => .fail

noncomputable def C_spec_l12Under : Cfg := { y := tys, n := 40, h := 0, tab := [(113, c_spec_l1Copy)], cut := [6], hand := [], good := [], deep := [8, 21, 37], sched := [] }

theorem t_spec_l12Under : TabOk Try.prog C_spec_l12Under := by
  refine tabOk_of ?_
  simp only [C_spec_l12Under, List.forall_mem_cons]
  exact ⟨k_spec_l1Copy, fun p h => by cases h⟩

theorem k_spec_l12Under : Entry Try.prog 93 c_spec_l12Under := by
  refine entry_by (C := C_spec_l12Under) mixed tys_ok t_spec_l12Under (fn := Try.f93) (c := bd Try.f93) (by kernel_rfl) (by kernel_rfl) (by kernel_rfl) (by kernel_rfl) ?_
  intro args st k he
  unfold c_spec_l12Under at he
  split at he
  rotate_left
  · exact he.elim
  rename_i list_ cube
  have he : Ok (spec_l12Under list_ cube) (fun r => k (.c (.own 900)) [(900, .sl 81 (.pair (.sl (.pair (.int .i64) (.int .i64))) (.int .i64)) r (.deep true .no))]) := he
  refine ⟨rfl, rfl, ?_⟩
  refine seq_model mixed tys_ok t_spec_l12Under (S := (List ((List (Int × Int)) × Int))) (I := (fun out1 => (envOf [(1, .c (.imm (.int .i64) cube)), (5, .c (.own 10001000))], [(10001000, .sl 81 (.pair (.sl (.pair (.int .i64) (.int .i64))) (.int .i64)) out1 (.deep true .no))]))) (B := fun s => Ok (spec_l12Under_j1 cube s) (fun r => k (.c (.own 900)) [(900, .sl 81 (.pair (.sl (.pair (.int .i64) (.int .i64))) (.int .i64)) r (.deep true .no))])) ?_ ?_
  · rintro out1 he
    refine loop_model mixed tys_ok t_spec_l12Under (S := Int × (List ((List (Int × Int)) × Int))) (I := (fun (i1, out2) => (envOf [(1, .c (.imm (.int .i64) cube)), (5, .c (.own 10002000)), (7, .c (.int .i64 i1))], [(10002000, .sl 81 (.pair (.sl (.pair (.int .i64) (.int .i64))) (.int .i64)) out2 (.deep true .no))]))) (f := spec_l12Under_l1 cube) (K := (fun r => k (.c (.own 900)) [(900, .sl 81 (.pair (.sl (.pair (.int .i64) (.int .i64))) (.int .i64)) r (.deep true .no))])) he (leads_ren [(10002000, 10001000)] (l := [(1, .c (.imm (.int .i64) cube)), (5, .c (.own 10002000)), (7, .c (.int .i64 (0:Int)))]) (st' := [(10002000, .sl 81 (.pair (.sl (.pair (.int .i64) (.int .i64))) (.int .i64)) out1 (.deep true .no))]) rfl rfl ⟨⟨rfl, rfl⟩, trivial⟩ ⟨.inl rfl, ⟨rfl, rfl⟩, rfl, trivial⟩) ?_
    rintro ⟨i1, out2⟩ J1 he
    refine And.intro (fun hb => ?_) (fun hb => ?_)
    · have he := ok_t he hb
      have he := ok_rq he
      refine And.intro he.1 ?_
      have he := he.2
      have he := ok_rq he
      refine And.intro he.1 ?_
      have he := he.2
      have he := ok_rq he
      refine And.intro he.1 ?_
      have he := he.2
      have he := ok_some he
      exact ⟨((i1 + (1:Int)), (out2 ++ [([((1:Int), (cube.getD i1.toNat 0))], (1:Int))])), he, (leads_ren [(10002000, 38)] (l := [(1, .c (.imm (.int .i64) cube)), (5, .c (.own 10002000)), (7, .c (.int .i64 (i1 + (1:Int))))]) (st' := [(10002000, .sl 81 (.pair (.sl (.pair (.int .i64) (.int .i64))) (.int .i64)) (out2 ++ [([((1:Int), (cube.getD i1.toNat 0))], (1:Int))]) (.deep true .no))]) rfl rfl ⟨⟨rfl, rfl⟩, trivial⟩ ⟨.inl rfl, ⟨rfl, rfl⟩, rfl, trivial⟩)⟩
    · have he := ok_f he hb
      have he := ok_some he
      exact ⟨rfl, _, _, (leads_ren [(900, 10002000)] (l := [(4, .c (.own 900))]) (st' := [(900, .sl 81 (.pair (.sl (.pair (.int .i64) (.int .i64))) (.int .i64)) out2 (.deep true .no))]) rfl rfl ⟨⟨rfl, rfl⟩, trivial⟩ ⟨⟨rfl, rfl⟩, trivial⟩), he⟩
  · skip
    refine loop_model mixed tys_ok t_spec_l12Under (S := Int × (List ((List (Int × Int)) × Int))) (I := (fun (i, out) => (envOf [(0, .c (.imm (.pair (.sl (.pair (.int .i64) (.int .i64))) (.int .i64)) list_)), (1, .c (.imm (.int .i64) cube)), (5, .c (.own 10000000)), (6, .c (.int .i64 i))], [(10000000, .sl 81 (.pair (.sl (.pair (.int .i64) (.int .i64))) (.int .i64)) out (.deep true .no))]))) (f := spec_l12Under_l2 list_ cube) (K := (fun r => k (.c (.own 900)) [(900, .sl 81 (.pair (.sl (.pair (.int .i64) (.int .i64))) (.int .i64)) r (.deep true .no))])) he (leads_ren [(10000000, 8)] (l := [(0, .c (.imm (.pair (.sl (.pair (.int .i64) (.int .i64))) (.int .i64)) list_)), (1, .c (.imm (.int .i64) cube)), (5, .c (.own 10000000)), (6, .c (.int .i64 (0:Int)))]) (st' := [(10000000, .sl 81 (.pair (.sl (.pair (.int .i64) (.int .i64))) (.int .i64)) ([] : List ((List (Int × Int)) × Int)) (.deep true .no))]) rfl rfl ⟨⟨rfl, rfl⟩, trivial⟩ ⟨.inl rfl, .inl rfl, ⟨rfl, rfl⟩, rfl, trivial⟩) ?_
    rintro ⟨i, out⟩ J1 he
    refine And.intro (fun hb => ?_) (fun hb => ?_)
    · have he := ok_t he hb
      have he := ok_rq he
      refine And.intro he.1 ?_
      have he := he.2
      obtain ⟨r2_, hr, he⟩ := ok_bind he
      refine ⟨r2_, hr, ?_⟩
      have he := ok_rq he
      refine And.intro he.1 ?_
      have he := he.2
      have he := ok_rq he
      refine And.intro he.1 ?_
      have he := he.2
      have he := ok_some he
      exact ⟨((i + (1:Int)), (out ++ [(r2_.2, r2_.1)])), he, (leads_ren [(10000000, 22)] (l := [(0, .c (.imm (.pair (.sl (.pair (.int .i64) (.int .i64))) (.int .i64)) list_)), (1, .c (.imm (.int .i64) cube)), (5, .c (.own 10000000)), (6, .c (.int .i64 (i + (1:Int))))]) (st' := [(10000000, .sl 81 (.pair (.sl (.pair (.int .i64) (.int .i64))) (.int .i64)) (out ++ [(r2_.2, r2_.1)]) (.deep true .no))]) rfl rfl ⟨⟨rfl, rfl⟩, trivial⟩ ⟨.inl rfl, .inl rfl, ⟨rfl, rfl⟩, rfl, trivial⟩)⟩
    · have he := ok_f he hb
      exact ⟨out, ok_up he, (leads_ren [(10001000, 10000000)] (l := [(1, .c (.imm (.int .i64) cube)), (5, .c (.own 10001000))]) (st' := [(10001000, .sl 81 (.pair (.sl (.pair (.int .i64) (.int .i64))) (.int .i64)) out (.deep true .no))]) rfl rfl ⟨⟨rfl, rfl⟩, trivial⟩ ⟨.inl rfl, ⟨rfl, rfl⟩, trivial⟩)⟩

noncomputable def c_spec_CubeProblem : Con := fun args st => match args, st with
  | [.c (.imm (.pair (.sl (.pair (.int .i64) (.int .i64))) (.int .i64)) list_), .c (.imm (.int .i64) cube)], [] => .opt (Bool × (List ((List (Int × Int)) × Int))) (spec_CubeProblem list_ cube) (fun r => .ret (.tup [.c (.own 900), .c (.bool r.1)]) [(900, .sl 81 (.pair (.sl (.pair (.int .i64) (.int .i64))) (.int .i64)) r.2 (.deep true .no))])
  | _, _ => .fail

noncomputable def C_spec_CubeProblem : Cfg := { y := tys, n := 26, h := 0, tab := [(54, c_spec_l12Cube), (74, c_spec_ProblemValid), (93, c_spec_l12Under)], cut := [], hand := [], good := [], deep := [22], sched := [] }

theorem t_spec_CubeProblem : TabOk Try.prog C_spec_CubeProblem := by
  refine tabOk_of ?_
  simp only [C_spec_CubeProblem, List.forall_mem_cons]
  exact ⟨k_spec_l12Cube, k_spec_ProblemValid, k_spec_l12Under, fun p h => by cases h⟩

theorem k_spec_CubeProblem : Entry Try.prog 50 c_spec_CubeProblem := by
  refine entry_by (C := C_spec_CubeProblem) mixed tys_ok t_spec_CubeProblem (fn := Try.f50) (c := bd Try.f50) (by kernel_rfl) (by kernel_rfl) (by kernel_rfl) (by kernel_rfl) ?_
  intro args st k he
  unfold c_spec_CubeProblem at he
  split at he
  rotate_left
  · exact he.elim
  rename_i list_ cube
  have he : Ok (spec_CubeProblem list_ cube) (fun r => k (.tup [.c (.own 900), .c (.bool r.1)]) [(900, .sl 81 (.pair (.sl (.pair (.int .i64) (.int .i64))) (.int .i64)) r.2 (.deep true .no))]) := he
  refine ⟨rfl, rfl, ?_⟩
  obtain ⟨r1_, hr, he⟩ := ok_bind he
  refine ⟨r1_, hr, ?_⟩
  refine And.intro (fun hb => ?_) (fun hb => ?_)
  · have he := ok_f he hb
    obtain ⟨r2_, hr, he⟩ := ok_bind he
    refine ⟨r2_, hr, ?_⟩
    refine And.intro (fun hb => ?_) (fun hb => ?_)
    · have he := ok_f he hb
      have he := ok_rq he
      refine And.intro he.1 ?_
      have he := he.2
      refine And.intro (fun hb => ?_) (fun hb => ?_)
      · have he := ok_t he hb
        have he := ok_some he
        exact ⟨rfl, _, _, (leads_ren [(900, 22)] (l := [(4, .c (.own 900)), (5, .c (.bool false))]) (st' := [(900, .sl 81 (.pair (.sl (.pair (.int .i64) (.int .i64))) (.int .i64)) ([] : List ((List (Int × Int)) × Int)) (.deep true .no))]) rfl rfl ⟨⟨rfl, rfl⟩, trivial⟩ ⟨⟨rfl, rfl⟩, .inr rfl, trivial⟩), he⟩
      · have he := ok_f he hb
        obtain ⟨r3_, hr, he⟩ := ok_bind he
        refine ⟨r3_, hr, ?_⟩
        have he := ok_some he
        exact ⟨rfl, _, _, (leads_ren [(900, 26900)] (l := [(4, .c (.own 900)), (5, .c (.bool true))]) (st' := [(900, .sl 81 (.pair (.sl (.pair (.int .i64) (.int .i64))) (.int .i64)) r3_ (.deep true .no))]) rfl rfl ⟨⟨rfl, rfl⟩, trivial⟩ ⟨⟨rfl, rfl⟩, .inr rfl, trivial⟩), he⟩
    · have he := ok_t he hb
      have he := ok_some he
      exact ⟨rfl, _, _, (leads_ren [(900, 22)] (l := [(4, .c (.own 900)), (5, .c (.bool false))]) (st' := [(900, .sl 81 (.pair (.sl (.pair (.int .i64) (.int .i64))) (.int .i64)) ([] : List ((List (Int × Int)) × Int)) (.deep true .no))]) rfl rfl ⟨⟨rfl, rfl⟩, trivial⟩ ⟨⟨rfl, rfl⟩, .inr rfl, trivial⟩), he⟩
  · have he := ok_t he hb
    have he := ok_some he
    exact ⟨rfl, _, _, (leads_ren [(900, 22)] (l := [(4, .c (.own 900)), (5, .c (.bool false))]) (st' := [(900, .sl 81 (.pair (.sl (.pair (.int .i64) (.int .i64))) (.int .i64)) ([] : List ((List (Int × Int)) × Int)) (.deep true .no))]) rfl rfl ⟨⟨rfl, rfl⟩, trivial⟩ ⟨⟨rfl, rfl⟩, .inr rfl, trivial⟩), he⟩

noncomputable def c_impl_CubeProblem : Con := fun args st => match args, st with
  | [.c (.imm (.pair (.sl (.pair (.int .i64) (.int .i64))) (.int .i64)) list_), .c (.imm (.int .i64) cube)], [] => .opt (Bool × (List ((List (Int × Int)) × Int))) (impl_CubeProblem list_ cube) (fun r => .ret (.tup [.c (.own 900), .c (.bool r.1)]) [(900, .sl 81 (.pair (.sl (.pair (.int .i64) (.int .i64))) (.int .i64)) r.2 (.deep true .no))])
  | _, _ => .fail

noncomputable def C_impl_CubeProblem : Cfg := { y := tys, n := 42, h := 0, tab := [(53, c_impl_ProblemValid), (56, c_impl_isCube), (85, c_impl_ownAll)], cut := [], hand := [], good := [], deep := [38], sched := [] }

theorem t_impl_CubeProblem : TabOk Try.prog C_impl_CubeProblem := by
  refine tabOk_of ?_
  simp only [C_impl_CubeProblem, List.forall_mem_cons]
  exact ⟨k_impl_ProblemValid, k_impl_isCube, k_impl_ownAll, fun p h => by cases h⟩

theorem k_impl_CubeProblem : Entry Try.prog 51 c_impl_CubeProblem := by
  refine entry_by (C := C_impl_CubeProblem) mixed tys_ok t_impl_CubeProblem (fn := Try.f51) (c := bd Try.f51) (by kernel_rfl) (by kernel_rfl) (by kernel_rfl) (by kernel_rfl) ?_
  intro args st k he
  unfold c_impl_CubeProblem at he
  split at he
  rotate_left
  · exact he.elim
  rename_i list_ cube
  have he : Ok (impl_CubeProblem list_ cube) (fun r => k (.tup [.c (.own 900), .c (.bool r.1)]) [(900, .sl 81 (.pair (.sl (.pair (.int .i64) (.int .i64))) (.int .i64)) r.2 (.deep true .no))]) := he
  refine ⟨rfl, rfl, ?_⟩
  obtain ⟨r1_, hr, he⟩ := ok_bind he
  refine ⟨r1_, hr, ?_⟩
  refine And.intro (fun hb => ?_) (fun hb => ?_)
  · have he := ok_f he hb
    obtain ⟨r2_, hr, he⟩ := ok_bind he
    refine ⟨r2_, hr, ?_⟩
    refine And.intro (fun hb => ?_) (fun hb => ?_)
    · have he := ok_f he hb
      have he := ok_rq he
      refine And.intro he.1 ?_
      have he := he.2
      refine And.intro (fun hb => ?_) (fun hb => ?_)
      · have he := ok_t he hb
        have he := ok_some he
        exact ⟨rfl, _, _, (leads_ren [] (l := [(4, .c (.own 900)), (5, .c (.bool false))]) (st' := [(900, .sl 81 (.pair (.sl (.pair (.int .i64) (.int .i64))) (.int .i64)) ([] : List ((List (Int × Int)) × Int)) (.deep true .no))]) rfl rfl ⟨trivial, trivial⟩ ⟨⟨rfl, trivial⟩, .inr rfl, trivial⟩), he⟩
      · have he := ok_f he hb
        obtain ⟨r3_, hr, he⟩ := ok_bind he
        refine ⟨r3_, hr, ?_⟩
        refine loop_model mixed tys_ok t_impl_CubeProblem (S := Int × (List ((List (Int × Int)) × Int))) (I := (fun (i, out) => (envOf [(6, .c (.own 10000000)), (27, .c (.imm (.int .i64) cube)), (28, .c (.int .i64 (cube.length:Int))), (29, .c (.int .i64 i))], [(10000000, .sl 81 (.pair (.sl (.pair (.int .i64) (.int .i64))) (.int .i64)) out (.deep true .no))]))) (f := impl_CubeProblem_l1 cube) (K := (fun r => k (.tup [.c (.own 900), .c (.bool r.1)]) [(900, .sl 81 (.pair (.sl (.pair (.int .i64) (.int .i64))) (.int .i64)) r.2 (.deep true .no))])) he (leads_ren [(10000000, 27900)] (l := [(6, .c (.own 10000000)), (27, .c (.imm (.int .i64) cube)), (28, .c (.int .i64 (cube.length:Int))), (29, .c (.int .i64 (0:Int)))]) (st' := [(10000000, .sl 81 (.pair (.sl (.pair (.int .i64) (.int .i64))) (.int .i64)) r3_ (.deep true .no))]) rfl rfl ⟨⟨rfl, rfl⟩, trivial⟩ ⟨⟨rfl, rfl⟩, .inl rfl, rfl, rfl, trivial⟩) ?_
        rintro ⟨i, out⟩ J1 he
        refine And.intro (fun hb => ?_) (fun hb => ?_)
        · have he := ok_t he hb
          have he := ok_rq he
          refine And.intro he.1 ?_
          have he := he.2
          have he := ok_rq he
          refine And.intro he.1 ?_
          have he := he.2
          have he := ok_rq he
          refine And.intro he.1 ?_
          have he := he.2
          have he := ok_some he
          exact ⟨((i + (1:Int)), (out ++ [([((1:Int), (cube.getD i.toNat 0))], (1:Int))])), he, (leads_ren [(10000000, 39)] (l := [(6, .c (.own 10000000)), (27, .c (.imm (.int .i64) cube)), (28, .c (.int .i64 (cube.length:Int))), (29, .c (.int .i64 (i + (1:Int))))]) (st' := [(10000000, .sl 81 (.pair (.sl (.pair (.int .i64) (.int .i64))) (.int .i64)) (out ++ [([((1:Int), (cube.getD i.toNat 0))], (1:Int))]) (.deep true .no))]) rfl rfl ⟨⟨rfl, rfl⟩, trivial⟩ ⟨⟨rfl, rfl⟩, .inl rfl, rfl, rfl, trivial⟩)⟩
        · have he := ok_f he hb
          have he := ok_some he
          exact ⟨rfl, _, _, (leads_ren [(900, 10000000)] (l := [(4, .c (.own 900)), (5, .c (.bool true))]) (st' := [(900, .sl 81 (.pair (.sl (.pair (.int .i64) (.int .i64))) (.int .i64)) out (.deep true .no))]) rfl rfl ⟨⟨rfl, rfl⟩, trivial⟩ ⟨⟨rfl, rfl⟩, .inr rfl, trivial⟩), he⟩
    · have he := ok_t he hb
      have he := ok_some he
      exact ⟨rfl, _, _, (leads_ren [] (l := [(4, .c (.own 900)), (5, .c (.bool false))]) (st' := [(900, .sl 81 (.pair (.sl (.pair (.int .i64) (.int .i64))) (.int .i64)) ([] : List ((List (Int × Int)) × Int)) (.deep true .no))]) rfl rfl ⟨trivial, trivial⟩ ⟨⟨rfl, trivial⟩, .inr rfl, trivial⟩), he⟩
  · have he := ok_t he hb
    have he := ok_some he
    exact ⟨rfl, _, _, (leads_ren [] (l := [(4, .c (.own 900)), (5, .c (.bool false))]) (st' := [(900, .sl 81 (.pair (.sl (.pair (.int .i64) (.int .i64))) (.int .i64)) ([] : List ((List (Int × Int)) × Int)) (.deep true .no))]) rfl rfl ⟨trivial, trivial⟩ ⟨⟨rfl, trivial⟩, .inr rfl, trivial⟩), he⟩

noncomputable def c_laws_FnExactCubeProblem : Con := fun args st => match args, st with
  | [.c (.imm (.pair (.sl (.pair (.int .i64) (.int .i64))) (.int .i64)) a0), .c (.imm (.int .i64) a1)], [] => .opt (Bool) (laws_FnExactCubeProblem a0 a1) (fun r => .ret (.c (.bool r)) [])
  | _, _ => .fail

noncomputable def C_laws_FnExactCubeProblem : Cfg := { y := tys, n := 117, h := 0, tab := [(16, c_laws_toIntS), (19, c_laws_eqIntS), (24, c_laws_markIntS), (34, c_laws_szConstraintS), (35, c_laws_toConstraintS), (36, c_laws_eqConstraintS), (46, c_laws_markConstraintS), (47, c_laws_heldConstraintS), (50, c_spec_CubeProblem), (51, c_impl_CubeProblem)], cut := [], hand := [(24, [0]), (46, [0])], good := [], deep := [], sched := [] }

theorem t_laws_FnExactCubeProblem : TabOk Try.prog C_laws_FnExactCubeProblem := by
  refine tabOk_of ?_
  simp only [C_laws_FnExactCubeProblem, List.forall_mem_cons]
  exact ⟨k_laws_toIntS, k_laws_eqIntS, k_laws_markIntS, k_laws_szConstraintS, k_laws_toConstraintS, k_laws_eqConstraintS, k_laws_markConstraintS, k_laws_heldConstraintS, k_spec_CubeProblem, k_impl_CubeProblem, fun p h => by cases h⟩

theorem k_laws_FnExactCubeProblem : Entry Try.prog 13 c_laws_FnExactCubeProblem := by
  refine entry_by (C := C_laws_FnExactCubeProblem) mixed tys_ok t_laws_FnExactCubeProblem (fn := Try.f13) (c := bd Try.f13) (by kernel_rfl) (by kernel_rfl) (by kernel_rfl) (by kernel_rfl) ?_
  intro args st k he
  unfold c_laws_FnExactCubeProblem at he
  split at he
  rotate_left
  · exact he.elim
  rename_i a0 a1
  have he : Ok (laws_FnExactCubeProblem a0 a1) (fun r => k (.c (.bool r)) []) := he
  refine ⟨rfl, rfl, ?_⟩
  refine And.intro (fun hb => ?_) (fun hb => ?_)
  · have he := ok_t he hb
    have he := ok_some he
    exact ⟨rfl, _, _, Leads.refl _ _, he⟩
  · have he := ok_f he hb
    obtain ⟨r1_, hr, he⟩ := ok_bind he
    refine ⟨r1_, hr, ?_⟩
    refine And.intro (fun hb => ?_) (fun hb => ?_)
    · have he := ok_t he hb
      have he := ok_some he
      exact ⟨rfl, _, _, Leads.refl _ _, he⟩
    · have he := ok_f he hb
      obtain ⟨r2_, hr, he⟩ := ok_bind he
      refine ⟨r2_, hr, ?_⟩
      obtain ⟨r3_, hr, he⟩ := ok_bind he
      refine ⟨r3_, hr, ?_⟩
      obtain ⟨r4_, hr, he⟩ := ok_bind he
      refine ⟨r4_, hr, ?_⟩
      obtain ⟨r5_, hr, he⟩ := ok_bind he
      refine ⟨r5_, hr, ?_⟩
      obtain ⟨r6_, hr, he⟩ := ok_bind he
      refine ⟨r6_, hr, ?_⟩
      obtain ⟨r7_, hr, he⟩ := ok_bind he
      refine ⟨r7_, hr, ?_⟩
      obtain ⟨r8_, hr, he⟩ := ok_bind he
      refine ⟨r8_, hr, ?_⟩
      refine And.intro (fun hb => ?_) (fun hb => ?_)
      · have he := ok_f he hb
        refine And.intro (fun hb => ?_) (fun hb => ?_)
        · have he := ok_t he hb
          have he := ok_some he
          exact ⟨rfl, _, _, (leads_ren [] (l := [(4, .c (.bool false))]) (st' := []) rfl rfl trivial ⟨.inr rfl, trivial⟩), he⟩
        · have he := ok_f he hb
          obtain ⟨r9_, hr, he⟩ := ok_bind he
          refine ⟨r9_, hr, ?_⟩
          obtain ⟨r10_, hr, he⟩ := ok_bind he
          refine ⟨r10_, hr, ?_⟩
          refine And.intro (fun hb => ?_) (fun hb => ?_)
          · have he := ok_t he hb
            have he := ok_some he
            exact ⟨rfl, _, _, (leads_ren [] (l := [(4, .c (.bool false))]) (st' := []) rfl rfl trivial ⟨.inr rfl, trivial⟩), he⟩
          · have he := ok_f he hb
            obtain ⟨r11_, hr, he⟩ := ok_bind he
            refine ⟨r11_, hr, ?_⟩
            obtain ⟨r12_, hr, he⟩ := ok_bind he
            refine ⟨r12_, hr, ?_⟩
            refine And.intro (fun hb => ?_) (fun hb => ?_)
            · have he := ok_t he hb
              have he := ok_some he
              exact ⟨rfl, _, _, (leads_ren [] (l := [(4, .c (.bool false))]) (st' := []) rfl rfl trivial ⟨.inr rfl, trivial⟩), he⟩
            · have he := ok_f he hb
              obtain ⟨r13_, hr, he⟩ := ok_bind he
              refine ⟨r13_, hr, ?_⟩
              obtain ⟨r14_, hr, he⟩ := ok_bind he
              refine ⟨r14_, hr, ?_⟩
              refine And.intro (fun hb => ?_) (fun hb => ?_)
              · have he := ok_f he hb
                obtain ⟨r15_, hr, he⟩ := ok_bind he
                refine ⟨r15_, hr, ?_⟩
                refine And.intro (fun hb => ?_) (fun hb => ?_)
                · have he := ok_f he hb
                  refine And.intro (fun hb => ?_) (fun hb => ?_)
                  · have he := ok_t he hb
                    have he := ok_some he
                    exact ⟨rfl, _, _, (leads_ren [] (l := [(4, .c (.bool false))]) (st' := []) rfl rfl trivial ⟨.inr rfl, trivial⟩), he⟩
                  · have he := ok_f he hb
                    obtain ⟨r16_, hr, he⟩ := ok_bind he
                    refine ⟨r16_, hr, ?_⟩
                    obtain ⟨r17_, hr, he⟩ := ok_bind he
                    refine ⟨r17_, hr, ?_⟩
                    refine And.intro (fun hb => ?_) (fun hb => ?_)
                    · have he := ok_t he hb
                      have he := ok_some he
                      exact ⟨rfl, _, _, (leads_ren [] (l := [(4, .c (.bool false))]) (st' := []) rfl rfl trivial ⟨.inr rfl, trivial⟩), he⟩
                    · have he := ok_f he hb
                      refine And.intro (fun hb => ?_) (fun hb => ?_)
                      · have he := ok_t he hb
                        have he := ok_some he
                        exact ⟨rfl, _, _, (leads_ren [] (l := [(4, .c (.bool false))]) (st' := []) rfl rfl trivial ⟨.inr rfl, trivial⟩), he⟩
                      · have he := ok_f he hb
                        obtain ⟨r18_, hr, he⟩ := ok_bind he
                        refine ⟨r18_, hr, ?_⟩
                        obtain ⟨r19_, hr, he⟩ := ok_bind he
                        refine ⟨r19_, hr, ?_⟩
                        obtain ⟨r20_, hr, he⟩ := ok_bind he
                        refine ⟨r20_, hr, ?_⟩
                        obtain ⟨r21_, hr, he⟩ := ok_bind he
                        refine ⟨r21_, hr, ?_⟩
                        refine And.intro (fun hb => ?_) (fun hb => ?_)
                        · have he := ok_f he hb
                          refine And.intro (fun hb => ?_) (fun hb => ?_)
                          · have he := ok_t he hb
                            have he := ok_some he
                            exact ⟨rfl, _, _, (leads_ren [] (l := [(4, .c (.bool false))]) (st' := []) rfl rfl trivial ⟨.inr rfl, trivial⟩), he⟩
                          · have he := ok_f he hb
                            obtain ⟨r22_, hr, he⟩ := ok_bind he
                            refine ⟨r22_, hr, ?_⟩
                            refine And.intro (fun hb => ?_) (fun hb => ?_)
                            · have he := ok_t he hb
                              have he := ok_some he
                              exact ⟨rfl, _, _, (leads_ren [] (l := [(4, .c (.bool false))]) (st' := []) rfl rfl trivial ⟨.inr rfl, trivial⟩), he⟩
                            · have he := ok_f he hb
                              refine And.intro (fun hb => ?_) (fun hb => ?_)
                              · have he := ok_t he hb
                                have he := ok_some he
                                exact ⟨rfl, _, _, (leads_ren [] (l := [(4, .c (.bool false))]) (st' := []) rfl rfl trivial ⟨.inr rfl, trivial⟩), he⟩
                              · have he := ok_f he hb
                                have he := ok_some he
                                exact ⟨rfl, _, _, (leads_ren [] (l := [(4, .c (.bool true))]) (st' := []) rfl rfl trivial ⟨.inr rfl, trivial⟩), he⟩
                        · have he := ok_t he hb
                          have he := ok_some he
                          exact ⟨rfl, _, _, (leads_ren [] (l := [(4, .c (.bool false))]) (st' := []) rfl rfl trivial ⟨.inr rfl, trivial⟩), he⟩
                · have he := ok_t he hb
                  have he := ok_some he
                  exact ⟨rfl, _, _, (leads_ren [] (l := [(4, .c (.bool false))]) (st' := []) rfl rfl trivial ⟨.inr rfl, trivial⟩), he⟩
              · have he := ok_t he hb
                have he := ok_some he
                exact ⟨rfl, _, _, (leads_ren [] (l := [(4, .c (.bool false))]) (st' := []) rfl rfl trivial ⟨.inr rfl, trivial⟩), he⟩
      · have he := ok_t he hb
        have he := ok_some he
        exact ⟨rfl, _, _, (leads_ren [] (l := [(4, .c (.bool false))]) (st' := []) rfl rfl trivial ⟨.inr rfl, trivial⟩), he⟩

end Go.AE.Y
