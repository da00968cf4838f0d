/-
  Walks: each function keeps the contract that its model gives. No conditions.
-/
import Derived.Test.YtkipgkpekkjebaaR1Tab
import Derived.Test.YtkipgkpekkjebaaR1W5
namespace Go.AE.Y
open Go Go.AE Go.Proofs
set_option linter.unusedVariables false
set_option maxHeartbeats 2000000
set_option maxRecDepth 100000

noncomputable def c_spec_CubeProblem : Con := fun args st => match args, st with
  | [.c (.imm (.pair (.sl (.pair (.int .i64) (.int .i64))) (.int .i64)) list_), .c (.imm (.int .i64) cube)], [] => .opt (Bool × (List ((List (Int × Int)) × Int))) (spec_CubeProblem list_ cube) (fun r => .ret (.tup [.c (.own 900), .c (.bool r.1)]) [(900, .sl 81 (.pair (.sl (.pair (.int .i64) (.int .i64))) (.int .i64)) r.2 (.deep true .no))])
  | _, _ => .fail

noncomputable def C_spec_CubeProblem : Cfg := { y := tys, n := 26, h := 0, tab := [(54, c_spec_l12Cube), (74, c_spec_ProblemValid), (93, c_spec_l12Under)], cut := [], hand := [], good := [], deep := [22], sched := [] }

theorem t_spec_CubeProblem : TabOk Try.prog C_spec_CubeProblem := by
  refine tabOk_of ?_
  simp only [C_spec_CubeProblem, List.forall_mem_cons]
  exact ⟨k_spec_l12Cube, k_spec_ProblemValid, k_spec_l12Under, fun p h => by cases h⟩

theorem k_spec_CubeProblem : Entry Try.prog 50 c_spec_CubeProblem := by
  refine entry_by (C := C_spec_CubeProblem) mixed tys_ok t_spec_CubeProblem (fn := Try.f50) (c := bd Try.f50) (by kernel_rfl) (by kernel_rfl) (by kernel_rfl) (by kernel_rfl) ?_
  intro args st k he
  unfold c_spec_CubeProblem at he
  split at he
  rotate_left
  · exact he.elim
  rename_i list_ cube
  have he : Ok (spec_CubeProblem list_ cube) (fun r => k (.tup [.c (.own 900), .c (.bool r.1)]) [(900, .sl 81 (.pair (.sl (.pair (.int .i64) (.int .i64))) (.int .i64)) r.2 (.deep true .no))]) := he
  refine ⟨rfl, rfl, ?_⟩
  obtain ⟨r1_, hr, he⟩ := ok_bind he
  refine ⟨r1_, hr, ?_⟩
  refine And.intro (fun hb => ?_) (fun hb => ?_)
  · have he := ok_f he hb
    obtain ⟨r2_, hr, he⟩ := ok_bind he
    refine ⟨r2_, hr, ?_⟩
    refine And.intro (fun hb => ?_) (fun hb => ?_)
    · have he := ok_f he hb
      have he := ok_rq he
      refine And.intro he.1 ?_
      have he := he.2
      refine And.intro (fun hb => ?_) (fun hb => ?_)
      · have he := ok_t he hb
        have he := ok_some he
        exact ⟨rfl, _, _, (leads_ren [(900, 22)] (l := [(4, .c (.own 900)), (5, .c (.bool false))]) (st' := [(900, .sl 81 (.pair (.sl (.pair (.int .i64) (.int .i64))) (.int .i64)) ([] : List ((List (Int × Int)) × Int)) (.deep true .no))]) rfl rfl ⟨⟨rfl, rfl⟩, trivial⟩ ⟨⟨rfl, rfl⟩, .inr rfl, trivial⟩), he⟩
      · have he := ok_f he hb
        obtain ⟨r3_, hr, he⟩ := ok_bind he
        refine ⟨r3_, hr, ?_⟩
        have he := ok_some he
        exact ⟨rfl, _, _, (leads_ren [(900, 26900)] (l := [(4, .c (.own 900)), (5, .c (.bool true))]) (st' := [(900, .sl 81 (.pair (.sl (.pair (.int .i64) (.int .i64))) (.int .i64)) r3_ (.deep true .no))]) rfl rfl ⟨⟨rfl, rfl⟩, trivial⟩ ⟨⟨rfl, rfl⟩, .inr rfl, trivial⟩), he⟩
    · have he := ok_t he hb
      have he := ok_some he
      exact ⟨rfl, _, _, (leads_ren [(900, 22)] (l := [(4, .c (.own 900)), (5, .c (.bool false))]) (st' := [(900, .sl 81 (.pair (.sl (.pair (.int .i64) (.int .i64))) (.int .i64)) ([] : List ((List (Int × Int)) × Int)) (.deep true .no))]) rfl rfl ⟨⟨rfl, rfl⟩, trivial⟩ ⟨⟨rfl, rfl⟩, .inr rfl, trivial⟩), he⟩
  · have he := ok_t he hb
    have he := ok_some he
    exact ⟨rfl, _, _, (leads_ren [(900, 22)] (l := [(4, .c (.own 900)), (5, .c (.bool false))]) (st' := [(900, .sl 81 (.pair (.sl (.pair (.int .i64) (.int .i64))) (.int .i64)) ([] : List ((List (Int × Int)) × Int)) (.deep true .no))]) rfl rfl ⟨⟨rfl, rfl⟩, trivial⟩ ⟨⟨rfl, rfl⟩, .inr rfl, trivial⟩), he⟩

noncomputable def c_impl_CubeProblem : Con := fun args st => match args, st with
  | [.c (.imm (.pair (.sl (.pair (.int .i64) (.int .i64))) (.int .i64)) list_), .c (.imm (.int .i64) cube)], [] => .opt (Bool × (List ((List (Int × Int)) × Int))) (impl_CubeProblem list_ cube) (fun r => .ret (.tup [.c (.own 900), .c (.bool r.1)]) [(900, .sl 81 (.pair (.sl (.pair (.int .i64) (.int .i64))) (.int .i64)) r.2 (.deep true .no))])
  | _, _ => .fail

noncomputable def C_impl_CubeProblem : Cfg := { y := tys, n := 42, h := 0, tab := [(53, c_impl_ProblemValid), (56, c_impl_isCube), (85, c_impl_ownAll)], cut := [], hand := [], good := [], deep := [38], sched := [] }

theorem t_impl_CubeProblem : TabOk Try.prog C_impl_CubeProblem := by
  refine tabOk_of ?_
  simp only [C_impl_CubeProblem, List.forall_mem_cons]
  exact ⟨k_impl_ProblemValid, k_impl_isCube, k_impl_ownAll, fun p h => by cases h⟩

theorem k_impl_CubeProblem : Entry Try.prog 51 c_impl_CubeProblem := by
  refine entry_by (C := C_impl_CubeProblem) mixed tys_ok t_impl_CubeProblem (fn := Try.f51) (c := bd Try.f51) (by kernel_rfl) (by kernel_rfl) (by kernel_rfl) (by kernel_rfl) ?_
  intro args st k he
  unfold c_impl_CubeProblem at he
  split at he
  rotate_left
  · exact he.elim
  rename_i list_ cube
  have he : Ok (impl_CubeProblem list_ cube) (fun r => k (.tup [.c (.own 900), .c (.bool r.1)]) [(900, .sl 81 (.pair (.sl (.pair (.int .i64) (.int .i64))) (.int .i64)) r.2 (.deep true .no))]) := he
  refine ⟨rfl, rfl, ?_⟩
  obtain ⟨r1_, hr, he⟩ := ok_bind he
  refine ⟨r1_, hr, ?_⟩
  refine And.intro (fun hb => ?_) (fun hb => ?_)
  · have he := ok_f he hb
    obtain ⟨r2_, hr, he⟩ := ok_bind he
    refine ⟨r2_, hr, ?_⟩
    refine And.intro (fun hb => ?_) (fun hb => ?_)
    · have he := ok_f he hb
      have he := ok_rq he
      refine And.intro he.1 ?_
      have he := he.2
      refine And.intro (fun hb => ?_) (fun hb => ?_)
      · have he := ok_t he hb
        have he := ok_some he
        exact ⟨rfl, _, _, (leads_ren [] (l := [(4, .c (.own 900)), (5, .c (.bool false))]) (st' := [(900, .sl 81 (.pair (.sl (.pair (.int .i64) (.int .i64))) (.int .i64)) ([] : List ((List (Int × Int)) × Int)) (.deep true .no))]) rfl rfl ⟨trivial, trivial⟩ ⟨⟨rfl, trivial⟩, .inr rfl, trivial⟩), he⟩
      · have he := ok_f he hb
        obtain ⟨r3_, hr, he⟩ := ok_bind he
        refine ⟨r3_, hr, ?_⟩
        refine loop_model mixed tys_ok t_impl_CubeProblem (S := Int × (List ((List (Int × Int)) × Int))) (I := (fun (i, out) => (envOf [(6, .c (.own 10000000)), (27, .c (.imm (.int .i64) cube)), (28, .c (.int .i64 (cube.length:Int))), (29, .c (.int .i64 i))], [(10000000, .sl 81 (.pair (.sl (.pair (.int .i64) (.int .i64))) (.int .i64)) out (.deep true .no))]))) (f := impl_CubeProblem_l1 cube) (K := (fun r => k (.tup [.c (.own 900), .c (.bool r.1)]) [(900, .sl 81 (.pair (.sl (.pair (.int .i64) (.int .i64))) (.int .i64)) r.2 (.deep true .no))])) he (leads_ren [(10000000, 27900)] (l := [(6, .c (.own 10000000)), (27, .c (.imm (.int .i64) cube)), (28, .c (.int .i64 (cube.length:Int))), (29, .c (.int .i64 (0:Int)))]) (st' := [(10000000, .sl 81 (.pair (.sl (.pair (.int .i64) (.int .i64))) (.int .i64)) r3_ (.deep true .no))]) rfl rfl ⟨⟨rfl, rfl⟩, trivial⟩ ⟨⟨rfl, rfl⟩, .inl rfl, rfl, rfl, trivial⟩) ?_
        rintro ⟨i, out⟩ J1 he
        refine And.intro (fun hb => ?_) (fun hb => ?_)
        · have he := ok_t he hb
          have he := ok_rq he
          refine And.intro he.1 ?_
          have he := he.2
          have he := ok_rq he
          refine And.intro he.1 ?_
          have he := he.2
          have he := ok_rq he
          refine And.intro he.1 ?_
          have he := he.2
          have he := ok_some he
          exact ⟨((i + (1:Int)), (out ++ [([((1:Int), (cube.getD i.toNat 0))], (1:Int))])), he, (leads_ren [(10000000, 39)] (l := [(6, .c (.own 10000000)), (27, .c (.imm (.int .i64) cube)), (28, .c (.int .i64 (cube.length:Int))), (29, .c (.int .i64 (i + (1:Int))))]) (st' := [(10000000, .sl 81 (.pair (.sl (.pair (.int .i64) (.int .i64))) (.int .i64)) (out ++ [([((1:Int), (cube.getD i.toNat 0))], (1:Int))]) (.deep true .no))]) rfl rfl ⟨⟨rfl, rfl⟩, trivial⟩ ⟨⟨rfl, rfl⟩, .inl rfl, rfl, rfl, trivial⟩)⟩
        · have he := ok_f he hb
          have he := ok_some he
          exact ⟨rfl, _, _, (leads_ren [(900, 10000000)] (l := [(4, .c (.own 900)), (5, .c (.bool true))]) (st' := [(900, .sl 81 (.pair (.sl (.pair (.int .i64) (.int .i64))) (.int .i64)) out (.deep true .no))]) rfl rfl ⟨⟨rfl, rfl⟩, trivial⟩ ⟨⟨rfl, rfl⟩, .inr rfl, trivial⟩), he⟩
    · have he := ok_t he hb
      have he := ok_some he
      exact ⟨rfl, _, _, (leads_ren [] (l := [(4, .c (.own 900)), (5, .c (.bool false))]) (st' := [(900, .sl 81 (.pair (.sl (.pair (.int .i64) (.int .i64))) (.int .i64)) ([] : List ((List (Int × Int)) × Int)) (.deep true .no))]) rfl rfl ⟨trivial, trivial⟩ ⟨⟨rfl, trivial⟩, .inr rfl, trivial⟩), he⟩
  · have he := ok_t he hb
    have he := ok_some he
    exact ⟨rfl, _, _, (leads_ren [] (l := [(4, .c (.own 900)), (5, .c (.bool false))]) (st' := [(900, .sl 81 (.pair (.sl (.pair (.int .i64) (.int .i64))) (.int .i64)) ([] : List ((List (Int × Int)) × Int)) (.deep true .no))]) rfl rfl ⟨trivial, trivial⟩ ⟨⟨rfl, trivial⟩, .inr rfl, trivial⟩), he⟩

noncomputable def c_laws_FnExactCubeProblem : Con := fun args st => match args, st with
  | [.c (.imm (.pair (.sl (.pair (.int .i64) (.int .i64))) (.int .i64)) a0), .c (.imm (.int .i64) a1)], [] => .opt (Bool) (laws_FnExactCubeProblem a0 a1) (fun r => .ret (.c (.bool r)) [])
  | _, _ => .fail

noncomputable def C_laws_FnExactCubeProblem : Cfg := { y := tys, n := 117, h := 0, tab := [(16, c_laws_toIntS), (19, c_laws_eqIntS), (24, c_laws_markIntS), (34, c_laws_szConstraintS), (35, c_laws_toConstraintS), (36, c_laws_eqConstraintS), (46, c_laws_markConstraintS), (47, c_laws_heldConstraintS), (50, c_spec_CubeProblem), (51, c_impl_CubeProblem)], cut := [], hand := [(24, [0]), (46, [0])], good := [], deep := [], sched := [] }

theorem t_laws_FnExactCubeProblem : TabOk Try.prog C_laws_FnExactCubeProblem := by
  refine tabOk_of ?_
  simp only [C_laws_FnExactCubeProblem, List.forall_mem_cons]
  exact ⟨k_laws_toIntS, k_laws_eqIntS, k_laws_markIntS, k_laws_szConstraintS, k_laws_toConstraintS, k_laws_eqConstraintS, k_laws_markConstraintS, k_laws_heldConstraintS, k_spec_CubeProblem, k_impl_CubeProblem, fun p h => by cases h⟩

theorem k_laws_FnExactCubeProblem : Entry Try.prog 13 c_laws_FnExactCubeProblem := by
  refine entry_by (C := C_laws_FnExactCubeProblem) mixed tys_ok t_laws_FnExactCubeProblem (fn := Try.f13) (c := bd Try.f13) (by kernel_rfl) (by kernel_rfl) (by kernel_rfl) (by kernel_rfl) ?_
  intro args st k he
  unfold c_laws_FnExactCubeProblem at he
  split at he
  rotate_left
  · exact he.elim
  rename_i a0 a1
  have he : Ok (laws_FnExactCubeProblem a0 a1) (fun r => k (.c (.bool r)) []) := he
  refine ⟨rfl, rfl, ?_⟩
  refine And.intro (fun hb => ?_) (fun hb => ?_)
  · have he := ok_t he hb
    have he := ok_some he
    exact ⟨rfl, _, _, Leads.refl _ _, he⟩
  · have he := ok_f he hb
    obtain ⟨r1_, hr, he⟩ := ok_bind he
    refine ⟨r1_, hr, ?_⟩
    refine And.intro (fun hb => ?_) (fun hb => ?_)
    · have he := ok_t he hb
      have he := ok_some he
      exact ⟨rfl, _, _, Leads.refl _ _, he⟩
    · have he := ok_f he hb
      obtain ⟨r2_, hr, he⟩ := ok_bind he
      refine ⟨r2_, hr, ?_⟩
      obtain ⟨r3_, hr, he⟩ := ok_bind he
      refine ⟨r3_, hr, ?_⟩
      obtain ⟨r4_, hr, he⟩ := ok_bind he
      refine ⟨r4_, hr, ?_⟩
      obtain ⟨r5_, hr, he⟩ := ok_bind he
      refine ⟨r5_, hr, ?_⟩
      obtain ⟨r6_, hr, he⟩ := ok_bind he
      refine ⟨r6_, hr, ?_⟩
      obtain ⟨r7_, hr, he⟩ := ok_bind he
      refine ⟨r7_, hr, ?_⟩
      obtain ⟨r8_, hr, he⟩ := ok_bind he
      refine ⟨r8_, hr, ?_⟩
      refine And.intro (fun hb => ?_) (fun hb => ?_)
      · have he := ok_f he hb
        refine And.intro (fun hb => ?_) (fun hb => ?_)
        · have he := ok_t he hb
          have he := ok_some he
          exact ⟨rfl, _, _, (leads_ren [] (l := [(4, .c (.bool false))]) (st' := []) rfl rfl trivial ⟨.inr rfl, trivial⟩), he⟩
        · have he := ok_f he hb
          obtain ⟨r9_, hr, he⟩ := ok_bind he
          refine ⟨r9_, hr, ?_⟩
          obtain ⟨r10_, hr, he⟩ := ok_bind he
          refine ⟨r10_, hr, ?_⟩
          refine And.intro (fun hb => ?_) (fun hb => ?_)
          · have he := ok_t he hb
            have he := ok_some he
            exact ⟨rfl, _, _, (leads_ren [] (l := [(4, .c (.bool false))]) (st' := []) rfl rfl trivial ⟨.inr rfl, trivial⟩), he⟩
          · have he := ok_f he hb
            obtain ⟨r11_, hr, he⟩ := ok_bind he
            refine ⟨r11_, hr, ?_⟩
            obtain ⟨r12_, hr, he⟩ := ok_bind he
            refine ⟨r12_, hr, ?_⟩
            refine And.intro (fun hb => ?_) (fun hb => ?_)
            · have he := ok_t he hb
              have he := ok_some he
              exact ⟨rfl, _, _, (leads_ren [] (l := [(4, .c (.bool false))]) (st' := []) rfl rfl trivial ⟨.inr rfl, trivial⟩), he⟩
            · have he := ok_f he hb
              obtain ⟨r13_, hr, he⟩ := ok_bind he
              refine ⟨r13_, hr, ?_⟩
              obtain ⟨r14_, hr, he⟩ := ok_bind he
              refine ⟨r14_, hr, ?_⟩
              refine And.intro (fun hb => ?_) (fun hb => ?_)
              · have he := ok_f he hb
                obtain ⟨r15_, hr, he⟩ := ok_bind he
                refine ⟨r15_, hr, ?_⟩
                refine And.intro (fun hb => ?_) (fun hb => ?_)
                · have he := ok_f he hb
                  refine And.intro (fun hb => ?_) (fun hb => ?_)
                  · have he := ok_t he hb
                    have he := ok_some he
                    exact ⟨rfl, _, _, (leads_ren [] (l := [(4, .c (.bool false))]) (st' := []) rfl rfl trivial ⟨.inr rfl, trivial⟩), he⟩
                  · have he := ok_f he hb
                    obtain ⟨r16_, hr, he⟩ := ok_bind he
                    refine ⟨r16_, hr, ?_⟩
                    obtain ⟨r17_, hr, he⟩ := ok_bind he
                    refine ⟨r17_, hr, ?_⟩
                    refine And.intro (fun hb => ?_) (fun hb => ?_)
                    · have he := ok_t he hb
                      have he := ok_some he
                      exact ⟨rfl, _, _, (leads_ren [] (l := [(4, .c (.bool false))]) (st' := []) rfl rfl trivial ⟨.inr rfl, trivial⟩), he⟩
                    · have he := ok_f he hb
                      refine And.intro (fun hb => ?_) (fun hb => ?_)
                      · have he := ok_t he hb
                        have he := ok_some he
                        exact ⟨rfl, _, _, (leads_ren [] (l := [(4, .c (.bool false))]) (st' := []) rfl rfl trivial ⟨.inr rfl, trivial⟩), he⟩
                      · have he := ok_f he hb
                        obtain ⟨r18_, hr, he⟩ := ok_bind he
                        refine ⟨r18_, hr, ?_⟩
                        obtain ⟨r19_, hr, he⟩ := ok_bind he
                        refine ⟨r19_, hr, ?_⟩
                        obtain ⟨r20_, hr, he⟩ := ok_bind he
                        refine ⟨r20_, hr, ?_⟩
                        obtain ⟨r21_, hr, he⟩ := ok_bind he
                        refine ⟨r21_, hr, ?_⟩
                        refine And.intro (fun hb => ?_) (fun hb => ?_)
                        · have he := ok_f he hb
                          refine And.intro (fun hb => ?_) (fun hb => ?_)
                          · have he := ok_t he hb
                            have he := ok_some he
                            exact ⟨rfl, _, _, (leads_ren [] (l := [(4, .c (.bool false))]) (st' := []) rfl rfl trivial ⟨.inr rfl, trivial⟩), he⟩
                          · have he := ok_f he hb
                            obtain ⟨r22_, hr, he⟩ := ok_bind he
                            refine ⟨r22_, hr, ?_⟩
                            refine And.intro (fun hb => ?_) (fun hb => ?_)
                            · have he := ok_t he hb
                              have he := ok_some he
                              exact ⟨rfl, _, _, (leads_ren [] (l := [(4, .c (.bool false))]) (st' := []) rfl rfl trivial ⟨.inr rfl, trivial⟩), he⟩
                            · have he := ok_f he hb
                              refine And.intro (fun hb => ?_) (fun hb => ?_)
                              · have he := ok_t he hb
                                have he := ok_some he
                                exact ⟨rfl, _, _, (leads_ren [] (l := [(4, .c (.bool false))]) (st' := []) rfl rfl trivial ⟨.inr rfl, trivial⟩), he⟩
                              · have he := ok_f he hb
                                have he := ok_some he
                                exact ⟨rfl, _, _, (leads_ren [] (l := [(4, .c (.bool true))]) (st' := []) rfl rfl trivial ⟨.inr rfl, trivial⟩), he⟩
                        · have he := ok_t he hb
                          have he := ok_some he
                          exact ⟨rfl, _, _, (leads_ren [] (l := [(4, .c (.bool false))]) (st' := []) rfl rfl trivial ⟨.inr rfl, trivial⟩), he⟩
                · have he := ok_t he hb
                  have he := ok_some he
                  exact ⟨rfl, _, _, (leads_ren [] (l := [(4, .c (.bool false))]) (st' := []) rfl rfl trivial ⟨.inr rfl, trivial⟩), he⟩
              · have he := ok_t he hb
                have he := ok_some he
                exact ⟨rfl, _, _, (leads_ren [] (l := [(4, .c (.bool false))]) (st' := []) rfl rfl trivial ⟨.inr rfl, trivial⟩), he⟩
      · have he := ok_t he hb
        have he := ok_some he
        exact ⟨rfl, _, _, (leads_ren [] (l := [(4, .c (.bool false))]) (st' := []) rfl rfl trivial ⟨.inr rfl, trivial⟩), he⟩

noncomputable def c_spec_l5Hard : Con := fun args st => match args, st with
  | [.c (.ptr 0 0)], [(0, .rc [.imm (.int .u8) r__0, .int .i64 r__1])] => .opt (((List Int) × Int) × (List ((List (Int × Int)) × Int))) (spec_l5Hard (r__0, r__1)) (fun r => .ret (.c (.own 900)) [(0, .rc [.imm (.int .u8) r.1.1, .int .i64 r.1.2]), (900, .sl 81 (.pair (.sl (.pair (.int .i64) (.int .i64))) (.int .i64)) r.2 (.deep true .no))])
  | _, _ => .fail

noncomputable def C_spec_l5Hard : Cfg := { y := tys, n := 33, h := 1, tab := [(68, c_spec_l17Rd_pick), (82, c_spec_l3Problem), (83, c_spec_l17Rd_num), (111, c_spec_l1Draw), (115, c_spec_l1Total)], cut := [], hand := [], good := [], deep := [30], sched := [] }

theorem t_spec_l5Hard : TabOk Try.prog C_spec_l5Hard := by
  refine tabOk_of ?_
  simp only [C_spec_l5Hard, List.forall_mem_cons]
  exact ⟨k_spec_l17Rd_pick, k_spec_l3Problem, k_spec_l17Rd_num, k_spec_l1Draw, k_spec_l1Total, fun p h => by cases h⟩

theorem k_spec_l5Hard : Entry Try.prog 94 c_spec_l5Hard := by
  refine entry_by (C := C_spec_l5Hard) mixed tys_ok t_spec_l5Hard (fn := Try.f94) (c := bd Try.f94) (by kernel_rfl) (by kernel_rfl) (by kernel_rfl) (by kernel_rfl) ?_
  intro args st k he
  unfold c_spec_l5Hard at he
  split at he
  rotate_left
  · exact he.elim
  rename_i r__0 r__1
  have he : Ok (spec_l5Hard (r__0, r__1)) (fun r => k (.c (.own 900)) [(0, .rc [.imm (.int .u8) r.1.1, .int .i64 r.1.2]), (900, .sl 81 (.pair (.sl (.pair (.int .i64) (.int .i64))) (.int .i64)) r.2 (.deep true .no))]) := he
  refine ⟨rfl, rfl, ?_⟩
  obtain ⟨r1_, hr, he⟩ := ok_bind he
  refine ⟨r1_, hr, ?_⟩
  obtain ⟨r2_, hr, he⟩ := ok_bind he
  refine ⟨r2_, hr, ?_⟩
  refine loop_model mixed tys_ok t_spec_l5Hard (S := Int × ((List Int) × Int) × (List ((List (Int × Int)) × Int))) (I := (fun (i, r_1, list_) => (envOf [(0, .c (.ptr 0 0)), (3, .c (.own 10000000)), (4, .c (.int .i64 i))], [(0, .rc [.imm (.int .u8) r_1.1, .int .i64 r_1.2]), (10000000, .sl 81 (.pair (.sl (.pair (.int .i64) (.int .i64))) (.int .i64)) list_ (.deep true .no))]))) (f := spec_l5Hard_l1) (K := (fun r => k (.c (.own 900)) [(0, .rc [.imm (.int .u8) r.1.1, .int .i64 r.1.2]), (900, .sl 81 (.pair (.sl (.pair (.int .i64) (.int .i64))) (.int .i64)) r.2 (.deep true .no))])) he (leads_ren [(10000000, 9900)] (l := [(0, .c (.ptr 0 0)), (3, .c (.own 10000000)), (4, .c (.int .i64 r2_.1))]) (st' := [(0, .rc [.imm (.int .u8) r2_.2.1, .int .i64 r2_.2.2]), (10000000, .sl 81 (.pair (.sl (.pair (.int .i64) (.int .i64))) (.int .i64)) r1_.2 (.deep true .no))]) rfl rfl ⟨⟨.inl rfl, rfl, trivial⟩, ⟨rfl, rfl⟩, trivial⟩ ⟨⟨⟨rfl, rfl⟩, rfl⟩, ⟨rfl, rfl⟩, rfl, trivial⟩) ?_
  rintro ⟨i, r_1, list_⟩ J1 he
  refine And.intro (fun hb => ?_) (fun hb => ?_)
  · have he := ok_t he hb
    obtain ⟨r6_, hr, he⟩ := ok_bind he
    refine ⟨r6_, hr, ?_⟩
    obtain ⟨r7_, hr, he⟩ := ok_bind he
    refine ⟨r7_, hr, ?_⟩
    have he := ok_rq he
    refine And.intro he.1 ?_
    have he := he.2
    have he := ok_rq he
    refine And.intro he.1 ?_
    have he := he.2
    obtain ⟨r8_, hr, he⟩ := ok_bind he
    refine ⟨r8_, hr, ?_⟩
    have he := ok_rq he
    refine And.intro he.1 ?_
    have he := he.2
    have he := ok_rq he
    refine And.intro he.1 ?_
    have he := he.2
    have he := ok_rq he
    refine And.intro he.1 ?_
    have he := he.2
    have he := ok_some he
    exact ⟨((i - (1:Int)), r8_.2, (list_ ++ [(r6_.2.2, (r7_ - r8_.1))])), he, (leads_ren [(10000000, 31)] (l := [(0, .c (.ptr 0 0)), (3, .c (.own 10000000)), (4, .c (.int .i64 (i - (1:Int))))]) (st' := [(0, .rc [.imm (.int .u8) r8_.2.1, .int .i64 r8_.2.2]), (10000000, .sl 81 (.pair (.sl (.pair (.int .i64) (.int .i64))) (.int .i64)) (list_ ++ [(r6_.2.2, (r7_ - r8_.1))]) (.deep true .no))]) rfl rfl ⟨⟨.inl rfl, rfl, trivial⟩, ⟨rfl, rfl⟩, trivial⟩ ⟨⟨⟨rfl, rfl⟩, rfl⟩, ⟨rfl, rfl⟩, rfl, trivial⟩)⟩
  · have he := ok_f he hb
    have he := ok_some he
    exact ⟨rfl, _, _, (leads_ren [(900, 10000000)] (l := [(2, .c (.own 900))]) (st' := [(0, .rc [.imm (.int .u8) r_1.1, .int .i64 r_1.2]), (900, .sl 81 (.pair (.sl (.pair (.int .i64) (.int .i64))) (.int .i64)) list_ (.deep true .no))]) rfl rfl ⟨⟨.inl rfl, rfl, trivial⟩, ⟨rfl, rfl⟩, trivial⟩ ⟨⟨rfl, rfl⟩, trivial⟩), he⟩

noncomputable def c_spec_DrawCubeProblem : Con := fun args st => match args, st with
  | [.c (.imm (.int .u8) code)], [] => .opt ((List ((List (Int × Int)) × Int)) × (List Int)) (spec_DrawCubeProblem code) (fun r => .ret (.tup [.c (.own 900), .c (.own 901)]) [(900, .sl 81 (.pair (.sl (.pair (.int .i64) (.int .i64))) (.int .i64)) r.1 .shallow), (901, .sl 3 (.int .i64) r.2 .shallow)])
  | _, _ => .fail

noncomputable def C_spec_DrawCubeProblem : Cfg := { y := tys, n := 15, h := 0, tab := [(65, c_spec_l17Open), (66, c_spec_l12Signed), (81, c_spec_l3Mutate), (94, c_spec_l5Hard)], cut := [], hand := [], good := [], deep := [], sched := [] }

theorem t_spec_DrawCubeProblem : TabOk Try.prog C_spec_DrawCubeProblem := by
  refine tabOk_of ?_
  simp only [C_spec_DrawCubeProblem, List.forall_mem_cons]
  exact ⟨k_spec_l17Open, k_spec_l12Signed, k_spec_l3Mutate, k_spec_l5Hard, fun p h => by cases h⟩

theorem k_spec_DrawCubeProblem : Entry Try.prog 52 c_spec_DrawCubeProblem := by
  refine entry_by (C := C_spec_DrawCubeProblem) mixed tys_ok t_spec_DrawCubeProblem (fn := Try.f52) (c := bd Try.f52) (by kernel_rfl) (by kernel_rfl) (by kernel_rfl) (by kernel_rfl) ?_
  intro args st k he
  unfold c_spec_DrawCubeProblem at he
  split at he
  rotate_left
  · exact he.elim
  rename_i code
  have he : Ok (spec_DrawCubeProblem code) (fun r => k (.tup [.c (.own 900), .c (.own 901)]) [(900, .sl 81 (.pair (.sl (.pair (.int .i64) (.int .i64))) (.int .i64)) r.1 .shallow), (901, .sl 3 (.int .i64) r.2 .shallow)]) := he
  refine ⟨rfl, rfl, ?_⟩
  obtain ⟨r1_, hr, he⟩ := ok_bind he
  refine ⟨r1_, hr, ?_⟩
  obtain ⟨r2_, hr, he⟩ := ok_bind he
  refine ⟨r2_, hr, ?_⟩
  obtain ⟨r3_, hr, he⟩ := ok_bind he
  refine ⟨r3_, hr, ?_⟩
  obtain ⟨r4_, hr, he⟩ := ok_bind he
  refine ⟨r4_, hr, ?_⟩
  have he := ok_some he
  exact ⟨rfl, _, _, (leads_ren [(900, 12900), (901, 15900)] (l := [(2, .c (.own 900)), (3, .c (.own 901))]) (st' := [(900, .sl 81 (.pair (.sl (.pair (.int .i64) (.int .i64))) (.int .i64)) r3_.2 .shallow), (901, .sl 3 (.int .i64) r4_.2 .shallow)]) rfl rfl ⟨⟨rfl, rfl⟩, ⟨rfl, rfl⟩, trivial⟩ ⟨⟨rfl, rfl⟩, ⟨rfl, rfl⟩, trivial⟩), he⟩

noncomputable def c_impl_numbered : Con := fun args st => match args, st with
  | [.c (.int .i64 n)], [] => .opt ((List Bool)) (impl_numbered n) (fun r => .ret (.c (.own 900)) [(900, .sl 4 .bool r .shallow)])
  | _, _ => .fail

noncomputable def C_impl_numbered : Cfg := { y := tys, n := 22, h := 0, tab := [], cut := [], hand := [], good := [], deep := [], sched := [] }

theorem t_impl_numbered : TabOk Try.prog C_impl_numbered := tabOk_of (fun p h => by cases h)

theorem k_impl_numbered : Entry Try.prog 90 c_impl_numbered := by
  refine entry_by (C := C_impl_numbered) mixed tys_ok t_impl_numbered (fn := Try.f90) (c := bd Try.f90) (by kernel_rfl) (by kernel_rfl) (by kernel_rfl) (by kernel_rfl) ?_
  intro args st k he
  unfold c_impl_numbered at he
  split at he
  rotate_left
  · exact he.elim
  rename_i n
  have he : Ok (impl_numbered n) (fun r => k (.c (.own 900)) [(900, .sl 4 .bool r .shallow)]) := he
  refine ⟨rfl, rfl, ?_⟩
  have he := ok_rq he
  refine And.intro he.1 ?_
  have he := he.2
  refine loop_model mixed tys_ok t_impl_numbered (S := Int × (List Bool)) (I := (fun (i, out) => (envOf [(0, .c (.int .i64 n)), (3, .c (.own 10000000)), (7, .c (.int .i64 ((List.replicate (12:Int).toNat false).length:Int))), (8, .c (.int .i64 i))], [(10000000, .sl 4 .bool out .shallow)]))) (f := impl_numbered_l1 n) (K := (fun r => k (.c (.own 900)) [(900, .sl 4 .bool r .shallow)])) he (leads_ren [(10000000, 5)] (l := [(0, .c (.int .i64 n)), (3, .c (.own 10000000)), (7, .c (.int .i64 ((List.replicate (12:Int).toNat false).length:Int))), (8, .c (.int .i64 (0:Int)))]) (st' := [(10000000, .sl 4 .bool (List.replicate (12:Int).toNat false) .shallow)]) rfl rfl ⟨⟨rfl, rfl⟩, trivial⟩ ⟨rfl, ⟨rfl, rfl⟩, rfl, rfl, trivial⟩) ?_
  rintro ⟨i, out⟩ J1 he
  refine And.intro (fun hb => ?_) (fun hb => ?_)
  · have he := ok_t he hb
    have he := ok_rq he
    refine And.intro he.1 ?_
    have he := he.2
    have he := ok_rq he
    refine And.intro he.1 ?_
    have he := he.2
    have he := ok_rq he
    refine And.intro he.1 ?_
    have he := he.2
    have he := ok_rq he
    refine And.intro he.1 ?_
    have he := he.2
    have he := ok_rq he
    refine And.intro he.1 ?_
    have he := he.2
    have he := ok_some he
    exact ⟨((i + (1:Int)), (out.set i.toNat ((((n / 2 ^ ((11:Int) - i).toNat).toNat &&& (1:Int).toNat : Nat) : Int) == (1:Int)))), he, (leads_ren [] (l := [(0, .c (.int .i64 n)), (3, .c (.own 10000000)), (7, .c (.int .i64 ((List.replicate (12:Int).toNat false).length:Int))), (8, .c (.int .i64 (i + (1:Int))))]) (st' := [(10000000, .sl 4 .bool (out.set i.toNat ((((n / 2 ^ ((11:Int) - i).toNat).toNat &&& (1:Int).toNat : Nat) : Int) == (1:Int))) .shallow)]) rfl rfl ⟨⟨rfl, rfl⟩, trivial⟩ ⟨rfl, ⟨rfl, rfl⟩, rfl, rfl, trivial⟩)⟩
  · have he := ok_f he hb
    have he := ok_some he
    exact ⟨rfl, _, _, (leads_ren [(900, 10000000)] (l := [(2, .c (.own 900))]) (st' := [(900, .sl 4 .bool out .shallow)]) rfl rfl ⟨⟨rfl, rfl⟩, trivial⟩ ⟨⟨rfl, rfl⟩, trivial⟩), he⟩

noncomputable def c_impl_CountSolutions : Con := fun args st => match args, st with
  | [.c (.imm (.pair (.sl (.pair (.int .i64) (.int .i64))) (.int .i64)) list_)], [] => .opt (Int) (impl_CountSolutions list_) (fun r => .ret (.c (.int .i64 r)) [])
  | _, _ => .fail

noncomputable def C_impl_CountSolutions : Cfg := { y := tys, n := 19, h := 0, tab := [(53, c_impl_ProblemValid), (76, c_impl_satisfies), (90, c_impl_numbered)], cut := [], hand := [], good := [], deep := [], sched := [] }

theorem t_impl_CountSolutions : TabOk Try.prog C_impl_CountSolutions := by
  refine tabOk_of ?_
  simp only [C_impl_CountSolutions, List.forall_mem_cons]
  exact ⟨k_impl_ProblemValid, k_impl_satisfies, k_impl_numbered, fun p h => by cases h⟩

theorem k_impl_CountSolutions : Entry Try.prog 45 c_impl_CountSolutions := by
  refine entry_by (C := C_impl_CountSolutions) mixed tys_ok t_impl_CountSolutions (fn := Try.f45) (c := bd Try.f45) (by kernel_rfl) (by kernel_rfl) (by kernel_rfl) (by kernel_rfl) ?_
  intro args st k he
  unfold c_impl_CountSolutions at he
  split at he
  rotate_left
  · exact he.elim
  rename_i list_
  have he : Ok (impl_CountSolutions list_) (fun r => k (.c (.int .i64 r)) []) := he
  refine ⟨rfl, rfl, ?_⟩
  obtain ⟨r1_, hr, he⟩ := ok_bind he
  refine ⟨r1_, hr, ?_⟩
  refine And.intro (fun hb => ?_) (fun hb => ?_)
  · have he := ok_t he hb
    have he := ok_some he
    exact ⟨rfl, _, _, Leads.refl _ _, he⟩
  · have he := ok_f he hb
    refine loop_model mixed tys_ok t_impl_CountSolutions (S := Int × Int) (I := (fun (count, i) => (envOf [(0, .c (.imm (.pair (.sl (.pair (.int .i64) (.int .i64))) (.int .i64)) list_)), (3, .c (.int .i64 count)), (8, .c (.int .i64 i))], []))) (f := impl_CountSolutions_l1 list_) (K := (fun r => k (.c (.int .i64 r)) [])) he (leads_ren [] (l := [(0, .c (.imm (.pair (.sl (.pair (.int .i64) (.int .i64))) (.int .i64)) list_)), (3, .c (.int .i64 (0:Int))), (8, .c (.int .i64 (0:Int)))]) (st' := []) rfl rfl trivial ⟨.inl rfl, rfl, rfl, trivial⟩) ?_
    rintro ⟨count, i⟩ J1 he
    refine And.intro (fun hb => ?_) (fun hb => ?_)
    · have he := ok_t he hb
      obtain ⟨r2_, hr, he⟩ := ok_bind he
      refine ⟨r2_, hr, ?_⟩
      obtain ⟨r3_, hr, he⟩ := ok_bind he
      refine ⟨r3_, hr, ?_⟩
      refine And.intro (fun hb => ?_) (fun hb => ?_)
      · have he := ok_t he hb
        have he := ok_rq he
        refine And.intro he.1 ?_
        have he := he.2
        have he := ok_rq he
        refine And.intro he.1 ?_
        have he := he.2
        have he := ok_some he
        exact ⟨((count + (1:Int)), (i + (1:Int))), he, (leads_ren [] (l := [(0, .c (.imm (.pair (.sl (.pair (.int .i64) (.int .i64))) (.int .i64)) list_)), (3, .c (.int .i64 (count + (1:Int)))), (8, .c (.int .i64 (i + (1:Int))))]) (st' := []) rfl rfl trivial ⟨.inl rfl, rfl, rfl, trivial⟩)⟩
      · have he := ok_f he hb
        have he := ok_rq he
        refine And.intro he.1 ?_
        have he := he.2
        have he := ok_some he
        exact ⟨(count, (i + (1:Int))), he, (leads_ren [] (l := [(0, .c (.imm (.pair (.sl (.pair (.int .i64) (.int .i64))) (.int .i64)) list_)), (3, .c (.int .i64 count)), (8, .c (.int .i64 (i + (1:Int))))]) (st' := []) rfl rfl trivial ⟨.inl rfl, rfl, rfl, trivial⟩)⟩
    · have he := ok_f he hb
      have he := ok_some he
      exact ⟨rfl, _, _, Leads.refl _ _, he⟩

noncomputable def c_laws_FnCubeCount : Con := fun args st => match args, st with
  | [.c (.imm (.int .u8) a0), .c (.imm (.int .u8) a1)], [] => .opt (Bool) (laws_FnCubeCount a0 a1) (fun r => .ret (.c (.bool r)) [])
  | _, _ => .fail

noncomputable def C_laws_FnCubeCount : Cfg := { y := tys, n := 97, h := 0, tab := [(21, c_spec_SplitCubes), (22, c_impl_SplitCubes), (28, c_spec_DrawSplitCubes), (29, c_laws_cpLists), (45, c_impl_CountSolutions), (51, c_impl_CubeProblem), (52, c_spec_DrawCubeProblem), (53, c_impl_ProblemValid)], cut := [17], hand := [], good := [], deep := [], sched := [] }

theorem t_laws_FnCubeCount : TabOk Try.prog C_laws_FnCubeCount := by
  refine tabOk_of ?_
  simp only [C_laws_FnCubeCount, List.forall_mem_cons]
  exact ⟨k_spec_SplitCubes, k_impl_SplitCubes, k_spec_DrawSplitCubes, k_laws_cpLists, k_impl_CountSolutions, k_impl_CubeProblem, k_spec_DrawCubeProblem, k_impl_ProblemValid, fun p h => by cases h⟩

theorem k_laws_FnCubeCount : Entry Try.prog 14 c_laws_FnCubeCount := by
  refine entry_by (C := C_laws_FnCubeCount) mixed tys_ok t_laws_FnCubeCount (fn := Try.f14) (c := bd Try.f14) (by kernel_rfl) (by kernel_rfl) (by kernel_rfl) (by kernel_rfl) ?_
  intro args st k he
  unfold c_laws_FnCubeCount at he
  split at he
  rotate_left
  · exact he.elim
  rename_i a0 a1
  have he : Ok (laws_FnCubeCount a0 a1) (fun r => k (.c (.bool r)) []) := he
  refine ⟨rfl, rfl, ?_⟩
  refine And.intro (fun hb => ?_) (fun hb => ?_)
  · have he := ok_f he hb
    refine And.intro (fun hb => ?_) (fun hb => ?_)
    · have he := ok_t he hb
      have he := ok_some he
      exact ⟨rfl, _, _, Leads.refl _ _, he⟩
    · have he := ok_f he hb
      obtain ⟨r1_, hr, he⟩ := ok_bind he
      refine ⟨r1_, hr, ?_⟩
      obtain ⟨r2_, hr, he⟩ := ok_bind he
      refine ⟨r2_, hr, ?_⟩
      obtain ⟨r3_, hr, he⟩ := ok_bind he
      refine ⟨r3_, hr, ?_⟩
      obtain ⟨r4_, hr, he⟩ := ok_bind he
      refine ⟨r4_, hr, ?_⟩
      refine And.intro (fun hb => ?_) (fun hb => ?_)
      · have he := ok_f he hb
        obtain ⟨r5_, hr, he⟩ := ok_bind he
        refine ⟨r5_, hr, ?_⟩
        refine And.intro (fun hb => ?_) (fun hb => ?_)
        · have he := ok_f he hb
          refine And.intro (fun hb => ?_) (fun hb => ?_)
          · have he := ok_f he hb
            obtain ⟨r6_, hr, he⟩ := ok_bind he
            refine ⟨r6_, hr, ?_⟩
            refine And.intro (fun hb => ?_) (fun hb => ?_)
            · have he := ok_f he hb
              refine And.intro (fun hb => ?_) (fun hb => ?_)
              · have he := ok_t he hb
                refine And.intro (fun hb => ?_) (fun hb => ?_)
                · have he := ok_t he hb
                  obtain ⟨r7_, hr, he⟩ := ok_bind he
                  refine ⟨r7_, hr, ?_⟩
                  have he := ok_some he
                  exact ⟨rfl, _, _, (leads_ren [] (l := [(4, .c (.bool r7_))]) (st' := []) rfl rfl trivial ⟨.inl rfl, trivial⟩), he⟩
                · have he := ok_f he hb
                  have he := ok_some he
                  exact ⟨rfl, _, _, (leads_ren [] (l := [(4, .c (.bool false))]) (st' := []) rfl rfl trivial ⟨.inr rfl, trivial⟩), he⟩
              · have he := ok_f he hb
                refine seq_model mixed tys_ok t_laws_FnCubeCount (S := Int) (I := (fun i3 => (envOf [(5, .c (.own 10001000)), (12, .c (.int .i64 i3))], [(10001000, .sl 81 (.pair (.sl (.pair (.int .i64) (.int .i64))) (.int .i64)) r1_.1 .shallow)]))) (B := fun s => Ok (laws_FnCubeCount_j1 r1_ s) (fun r => k (.c (.bool r)) [])) ?_ ?_
                · rintro i3 he
                  obtain ⟨r16_, hr, he⟩ := ok_bind he
                  refine ⟨r16_, hr, ?_⟩
                  have he := ok_some he
                  exact ⟨rfl, _, _, (leads_ren [] (l := [(4, .c (.bool (i3 == r16_)))]) (st' := []) rfl rfl trivial ⟨.inl rfl, trivial⟩), he⟩
                · skip
                  refine loop_model mixed tys_ok t_laws_FnCubeCount (S := Int × Int × (List (List Int))) (I := (fun (i, i1, i2) => (envOf [(5, .c (.own 10000000)), (8, .c (.own 10000001)), (12, .c (.int .i64 i)), (13, .c (.int .i64 i1))], [(10000000, .sl 81 (.pair (.sl (.pair (.int .i64) (.int .i64))) (.int .i64)) r1_.1 .shallow), (10000001, .sl 22 (.sl (.int .i64)) i2 (.deep true .no))]))) (f := laws_FnCubeCount_l1 r1_) (K := (fun r => k (.c (.bool r)) [])) he (leads_ren [(10000000, 27900), (10000001, 34900)] (l := [(5, .c (.own 10000000)), (8, .c (.own 10000001)), (12, .c (.int .i64 (0:Int))), (13, .c (.int .i64 (0:Int)))]) (st' := [(10000000, .sl 81 (.pair (.sl (.pair (.int .i64) (.int .i64))) (.int .i64)) r1_.1 .shallow), (10000001, .sl 22 (.sl (.int .i64)) r3_.2 (.deep true .no))]) rfl rfl ⟨⟨rfl, rfl⟩, ⟨rfl, rfl⟩, trivial⟩ ⟨⟨rfl, rfl⟩, ⟨rfl, rfl⟩, rfl, rfl, trivial⟩) ?_
                  rintro ⟨i, i1, i2⟩ J1 he
                  refine And.intro (fun hb => ?_) (fun hb => ?_)
                  · have he := ok_t he hb
                    have he := ok_rq he
                    refine And.intro he.1 ?_
                    have he := he.2
                    obtain ⟨r14_, hr, he⟩ := ok_bind he
                    refine ⟨r14_, hr, ?_⟩
                    refine And.intro (fun hb => ?_) (fun hb => ?_)
                    · have he := ok_t he hb
                      have he := ok_some he
                      exact ⟨rfl, _, _, ((leads_close [10000001] rfl).trans (leads_ren [] (l := [(4, .c (.bool false))]) (st' := []) rfl rfl trivial ⟨.inr rfl, trivial⟩)), he⟩
                    · have he := ok_f he hb
                      obtain ⟨r15_, hr, he⟩ := ok_bind he
                      refine ⟨r15_, hr, ?_⟩
                      have he := ok_rq he
                      refine And.intro he.1 ?_
                      have he := he.2
                      have he := ok_rq he
                      refine And.intro he.1 ?_
                      have he := he.2
                      have he := ok_some he
                      exact ⟨((i + r15_), (i1 + (1:Int)), (i2.set i1.toNat (i2.getD i1.toNat []))), he, ((leads_close [10000001] rfl).trans (leads_ren [] (l := [(5, .c (.own 10000000)), (8, .c (.own 10000001)), (12, .c (.int .i64 (i + r15_))), (13, .c (.int .i64 (i1 + (1:Int))))]) (st' := [(10000000, .sl 81 (.pair (.sl (.pair (.int .i64) (.int .i64))) (.int .i64)) r1_.1 .shallow), (10000001, .sl 22 (.sl (.int .i64)) (i2.set i1.toNat (i2.getD i1.toNat [])) (.deep true .no))]) rfl rfl ⟨⟨rfl, rfl⟩, ⟨rfl, rfl⟩, trivial⟩ ⟨⟨rfl, rfl⟩, ⟨rfl, rfl⟩, rfl, rfl, trivial⟩))⟩
                  · have he := ok_f he hb
                    exact ⟨i, ok_up he, (leads_ren [(10001000, 10000000)] (l := [(5, .c (.own 10001000)), (12, .c (.int .i64 i))]) (st' := [(10001000, .sl 81 (.pair (.sl (.pair (.int .i64) (.int .i64))) (.int .i64)) r1_.1 .shallow)]) rfl rfl ⟨⟨rfl, rfl⟩, trivial⟩ ⟨⟨rfl, rfl⟩, rfl, trivial⟩)⟩
            · have he := ok_t he hb
              refine And.intro (fun hb => ?_) (fun hb => ?_)
              · have he := ok_t he hb
                obtain ⟨r8_, hr, he⟩ := ok_bind he
                refine ⟨r8_, hr, ?_⟩
                have he := ok_some he
                exact ⟨rfl, _, _, (leads_ren [] (l := [(4, .c (.bool r8_))]) (st' := []) rfl rfl trivial ⟨.inl rfl, trivial⟩), he⟩
              · have he := ok_f he hb
                have he := ok_some he
                exact ⟨rfl, _, _, (leads_ren [] (l := [(4, .c (.bool false))]) (st' := []) rfl rfl trivial ⟨.inr rfl, trivial⟩), he⟩
          · have he := ok_t he hb
            refine And.intro (fun hb => ?_) (fun hb => ?_)
            · have he := ok_t he hb
              obtain ⟨r9_, hr, he⟩ := ok_bind he
              refine ⟨r9_, hr, ?_⟩
              have he := ok_some he
              exact ⟨rfl, _, _, (leads_ren [] (l := [(4, .c (.bool r9_))]) (st' := []) rfl rfl trivial ⟨.inl rfl, trivial⟩), he⟩
            · have he := ok_f he hb
              have he := ok_some he
              exact ⟨rfl, _, _, (leads_ren [] (l := [(4, .c (.bool false))]) (st' := []) rfl rfl trivial ⟨.inr rfl, trivial⟩), he⟩
        · have he := ok_t he hb
          refine And.intro (fun hb => ?_) (fun hb => ?_)
          · have he := ok_t he hb
            obtain ⟨r10_, hr, he⟩ := ok_bind he
            refine ⟨r10_, hr, ?_⟩
            have he := ok_some he
            exact ⟨rfl, _, _, (leads_ren [] (l := [(4, .c (.bool r10_))]) (st' := []) rfl rfl trivial ⟨.inl rfl, trivial⟩), he⟩
          · have he := ok_f he hb
            have he := ok_some he
            exact ⟨rfl, _, _, (leads_ren [] (l := [(4, .c (.bool false))]) (st' := []) rfl rfl trivial ⟨.inr rfl, trivial⟩), he⟩
      · have he := ok_t he hb
        refine And.intro (fun hb => ?_) (fun hb => ?_)
        · have he := ok_t he hb
          obtain ⟨r11_, hr, he⟩ := ok_bind he
          refine ⟨r11_, hr, ?_⟩
          have he := ok_some he
          exact ⟨rfl, _, _, (leads_ren [] (l := [(4, .c (.bool r11_))]) (st' := []) rfl rfl trivial ⟨.inl rfl, trivial⟩), he⟩
        · have he := ok_f he hb
          have he := ok_some he
          exact ⟨rfl, _, _, (leads_ren [] (l := [(4, .c (.bool false))]) (st' := []) rfl rfl trivial ⟨.inr rfl, trivial⟩), he⟩
  · have he := ok_t he hb
    have he := ok_some he
    exact ⟨rfl, _, _, Leads.refl _ _, he⟩

end Go.AE.Y
